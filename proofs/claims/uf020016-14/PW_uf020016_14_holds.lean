import PyProof.Rows.All
import PyProof.StrBlock
import PyProof.StrBlockI
import PyProof.StrBlockL
import PyProof.P3Statements
import PyProof.DictRoadsH
import PyProof.DictKinds
import PyProof.InstLoad
import PyProof.ObjNew
import PyProof.Cells
import PyProof.WalksMore
import PyProof.Calls
import PyProof.DefCall
import PyProof.RaisesMany
import PyProof.ListMulRoad
import PyProof.Rows.ListMul
import PyProof.ExcClass2
import PyProof.ExcBaseAll.ValueError
import PyProof.TupleKey
import PyProof.Conv_int_bool
import PyProof.IsiSeqPairs
import PyProof.IsiNone
import PyProof.TupleOfSeq
import PyProof.ListRange
import PyProof.WalkInts
import PyProof.CallRoads
import PyProof.MeetsSeq
import PyProof.RulesTry
import PyProof.StrWalks
import PyProof.MinMaxWalk
import KE.KDictSum
import PyProof.Rows.SortRuns
import OpenK.KMore
import KE.KSortTup
import PyProof.RulesDelMore
import PyProof.CompFree
import PyProof.CompUse
import PyProof.LetGo
import PyProof.AssignAttr
import PyProof.InstStoreFacts
import PyProof.SliceMore
import PyProof.WalksPairs
import PyProof.ZipIter
import PyProof.EnumFor
import PyProof.ListIndex
import PyProof.RulesAs
import Open.FastRun
import Wide.All
import OpenK.AllK
import Wide.FinOn
import Lean
import PySem.Challenge.RW_uf020016_14
set_option Elab.async false
set_option autoImplicit true
set_option relaxedAutoImplicit true
set_option genSizeOfSpec false
set_option genSizeOf false
set_option backward.match.sparseCases false
set_option genInjectivity false
set_option tactic.hygienic false
set_option bootstrap.genMatcherCode false
set_option linter.all false
set_option linter.unusedSimpArgs false
open Nat renaming lt_of_lt_of_le->aA,lt_of_le_of_lt->aB,le_trans->aC,le_of_eq->aD,le_add_right->aG,le_of_lt->aJ,le_refl->aN,add_le_add_left->aP,lt_of_le_of_ne->aQ,lt_trans->aR,not_lt->aW,add_lt_add_left->aZ,add_sub_cancel'->bG,zero_le->bH,le_of_lt_succ->bK,lt_succ_self->bQ,le_sub_one_of_lt->bU,lt_add_of_pos_right->bX,lt_irrefl->cA,le_add_left->cE,add_lt_of_lt_sub'->cF,succ_le_succ->cG,lt_of_lt_of_eq->cH,zero_add->cN,le_antisymm->cP,add_right_comm->cQ,sub_lt->cS,add_lt_add_of_le_of_lt->cT,add_assoc->cX,ne_of_lt->dB,one_pos->dF,sub_lt_left_of_lt_add->dG,sub_add_cancel->dQ,zero_lt_one->dR,ne_of_gt->dW,sub_pos_of_lt->dY,add_le_add->eB,sub_le->eG,add_sub_cancel_left->eH,min_eq_left->eK,not_le->eR,le_max_right->eS,add_le_add_right->eW,pos_of_ne_zero->fG,lt_of_succ_lt->fN,mul_le_mul->fS,add_comm->fZ,le_sub_of_add_le'->gL,le_of_sub_eq_zero->gM,add_le_of_le_sub'->gN,lt_sub_of_add_lt->gQ,succ_lt_succ->gT,min_le_right->gU,sub_self->iC,lt_succ_of_le->iD,le_of_succ_le->iE,sub_eq_zero_of_le->iN,sub_le_sub_right->jB,le_succ->jC,le_sub_of_add_le->jD,sub_lt_sub_left->jM,two_pos->jY,one_mul->jZ,le_of_not_lt->kK,succ_pos->kT,succ_add->kU,sub_eq_zero_iff_le->kW,le_mul_of_pos_left->kX,eq_zero_of_not_pos->kY,min_le_left->lA,lt_one_iff->lL,add_sub_add_left->lM,add_lt_add_right->lN,sub_le_sub_left->lS,le_succ_of_le->mJ,add_zero->mK,succ_ne_zero->mV,max_eq_right->mW,not_lt_zero->nP,le_min->oB,exists_eq_add_of_le->oM,succ_mul->oT,pos_of_lt_add_left->oU,lt_of_sub_eq_succ->pB,eq_of_beq_eq_true->pC,sub_lt_sub_right->pN,sub_le_of_le_add->pO,le_zero->pP,mul_le_mul_left->pU,add_left_cancel->pV,lt_succ_of_lt->qP,le_pred_of_lt->qQ,add_sub_of_le->qR,add_sub_assoc->qS,succ_ne_self->qX,min_eq_right->qY,lt_of_not_le->qZ,max_eq_left->rG,div_lt_self->rH,succ->rR,le_total->sV,mul_two->tZ,mul_one->uA
open List renaming getElem?_eq_some_iff->aE,mem_of_getElem?->aH,getElem?_eq_getElem->aI,length_append->aK,length_map->aM,getElem?_append_right->aS,mem_singleton->aT,getElem?_map->aX,map_cons->bA,getElem?_append_left->bB,replicate_zero->bF,append_assoc->bJ,nil_append->bL,mem_append->bM,lookup_cons->bN,mem_cons->bO,cons_append->bP,range->bT,length_range->bV,length_set->bW,getElem?_set_ne->cB,mem_map->cC,map_append->cD,map_nil->cL,length_cons->cM,length_filter_le->cV,getElem?_eq_none_iff->cZ,getElem?_set_self->dA,append_nil->dJ,size_toArray->dN,pairwise_append->dP,take_length->dS,not_mem_nil->dT,all_eq_true->dU,getElem?_eq_none->dZ,replicate->eA,nodup_cons->eD,take_append_drop->eO,mem_range->eV,ext_getElem?->eZ,length_take->fC,mem_iff_getElem?->fH,drop_eq_getElem_cons->fJ,mem_filter->fL,pairwise_map->fM,lookup->fT,set_cons_zero->fU,set_cons_succ->fV,filter_append->fW,perm_append_comm->gG,length_singleton->gH,mem_append_left->gP,pairwise_iff_getElem->gV,getElem?_range->gX,filter_sublist->gY,range_succ->hE,length->hU,filter_cons_of_pos->hV,filter_cons_of_neg->hW,map_map->iA,mem_append_right->iL,length_drop->iP,isEmpty_iff->iQ,getElem?_of_mem->jA,replicate_succ->jI,take_zero->jO,getElem?_drop->jP,getD_eq_getElem?_getD->jQ,nodup_append->jV,getElem?_take_of_lt->kA,getElem_mem->kF,countP_cons_of_pos->kH,toArray->kN,drop_eq_nil_of_le->kO,length_nil->kZ,set_append_right->lB,nodup_nil->lG,reverse_append->lQ,zip_cons_cons->lW,lookup_append->lX,take_sublist->mE,take_add_one->mF,map->mG,eraseIdx_eq_take_drop_succ->mL,mem_flatMap->mQ,drop_length->mR,getLast?_eq_some_getLast->mX,dropLast_concat_getLast->nE,perm_ext_iff_of_nodup->nT,drop_zero->nU,drop_take->nV,drop_drop->nW,getLast?_eq_some_iff->oD,sum_cons->oF,mem_of_mem_eraseIdx->oG,getLast?_cons_cons->oK,countP_cons_of_neg->oL,set_set->oN,erase_of_not_mem->oV,countP_mono_left->oW,mem_of_mem_take->pD,length_dropLast->pE,erase_cons_tail->pF,erase_cons_head->pG,take_set_of_le->pQ,map_congr_left->pR,drop_set_of_lt->pS,pairwise_cons->pW,contains_cons->pX,reverse_cons->qB,foldl_append->qE,drop_sublist->qF,drop->qT,find?_cons->rA,filter_nil->rB,map_id->sW
open PySem renaming wpAny_bind->aF,wpAny_mono->aL,wpAny_pure->aU,Shared->bD,atKey->dX,sizeLine_eq->eC,wpAny_holding->eY,Around->fI,tupleKind_room_in1->fK,wpAny_call_entry->fX,wpAny_typeNameOfWhole_keyiter->gE,wpAny_execs_cons->gZ,markedBehindIn_of_false->iH,wpAny_newObj_type->iR,wpAny_dictEntries->iS,wpAny_assign_Name->iT,wpAny_Call_ofName->iU,NameKind->iV,PyData->jH,DictEntry->jJ,wpAny_standAt->jL,wpAny_setField->kC,wpAny_callSpecial?_slot->lC,wpAny_loadPart'->lO,wpAny_execs_nil->lP,wpAny_field->lY,codeAny_call_cells->mT,call_meets->mU,wpAny_truthy_bool->nK,wpAny_loadPart_at->nL,codeAny_mono->nM,wpAny_Try_except->oA,wpAny_dictEpoch->oJ,Thread->oR,wpAny_comprehension_free->pJ,wpAny_attempt->pK,wpAny_assignInOrder_more->pL,wpAny_notOrdered_dict->qL,wpAny_isOneOf_keyiter->qM,builtinLookup_eq_fast->qN,wpAny_letTemporaryGo->qW,wpAny_isSubtype_exc->rE,wpAny_tupleItemsOf->rM,wpAny_rule->rN,wpAny_call->rO,wpAny_Name->rP,wpAny_Return_none->rV,slot_list_setitem->rW,arm_isTrue_BoolOp->rZ,Program->sB,OwnTail->sC,OsState->sD,Keyword->sG,wpAny_isInstance->sQ,wpAny_For->sT,arm_allTrue_cons->sU,typeLookup_type->tB,pushCells_keeps->tC,codeAny_builtin->tE
open Option.some renaming inj->aO
open Array renaming length_toList->aV,toList_append->cI,getElem?_eq_getElem->cY,getElem?_toList->dK,toList_push->hZ,size_setIfInBounds->jX,size_push->kR,toList_reverse->lF,toList_inj->mP,getD_eq_getD_getElem?->nJ,toList_setIfInBounds->nR,perm_iff_toList_perm->nS,mem_toList_iff->oY,getElem_mem->qA,toList_zip->qK
open PyProof.Rows renaming wpS_pure->aY,SortSt->cO,wpS_bind->dL,subscriptTail->iM,callWith_type->lU,wpS_modify->mS,IntsAre->nC,SortKind->nN,get?_update_seq->tD,wpAny_notIn_heap->tK,sub_int->tL,neg_int->tM,mul_int->tN,mod_int'->tO,lt_int->tP,len_tuple->tQ,len_list->tR,le_int->tS,gt_int->tT,ge_int->tU,floordiv_int->tV,add_str->tW,add_int->tX,Subscript_->tY
open Int renaming toNat_natCast->bC,natCast_nonneg->bE,ofNat_lt->bS,fdiv->cR,lt_of_le_of_lt->cU,le_trans->cW,ofNat_le->dD,fmod->dO,not_lt->eI,natCast_pos->eM,le_sub_one_of_lt->fO,toNat_of_nonneg->fQ,lt_of_lt_of_le->gA,lt_irrefl->gJ,le_of_eq->gW,le_antisymm->hM,toNat_lt->iF,le_of_lt->iG,lt_of_le_sub_one->jF,le_refl->jG,not_le->mC,add_sub_cancel->mD,ne_of_lt->mM,toNat->oO,sub_add_cancel->qG,ofNat_eq_zero->qU,sub_le_self->rI,natCast_mul->rJ,natCast_add->rK,neg_le_neg->rS,lt_asymm->sY
open PySem.Heap renaming get?_push_of_some->bR,get?_push_size->cJ,get?_update_self->eP,SameBut->eU,get?_update_other->fB,size_push->fD,lt_size->gS,ExtBut->lH,MadeObj->sH
open Option renaming map_eq_some_iff->bY,isNone_iff_eq_none->bZ,bind_eq_some_iff->dC,isSome_iff_exists->dI,bind_some->iJ,map_some->iZ,map->kE,isSome->lJ,rec->sF
open Prod renaming fst->cK,ext->iY
open PySem.PyData renaming eqv->dE,tuple->hY,depthAll->iX,eqvAll->jU,canLayAll0->lV,list->mI
open Bool renaming false_ne_true->dH,or_eq_true->eJ,false_eq_true->fF,not_true->fP,and_eq_true->fR,not_eq_true'->iB,not_false->jR,eq_iff_iff->nH,or_true->oP,rec->pI,not_eq_false'->pZ,eq_false_iff->qJ
open PySem.Challenge renaming pw_uf020016_14->dM,rw_uf020016_14->kS
open PySem.Obj renaming mapSeq->eE,mapFields->gF,data_mapFields->jS,isFreed_of_fields->pA,data_mapDictKeys->pM,cls_mapFields->qO
open PySem.NameKind renaming free->eN,cell->gR
open PySem.Value renaming none->eQ,ref->gB,type->lR
open PySem.Heap.SameBut renaming update->eT
open PySem.F renaming slot_dict_keyiterator_next->fA,slot_dict_get->lI,slot_list_append->mO,args_dict_keyiterator_next_1->nQ,entry_dict_keyiterator_next->nY,args_list_append_2->qH,entry_list_append->qV,slot_list_remove->rC,slot_list_clear->rL,slot_dict_iter->rT,entry_dict_get->rU,slot_tuple_lt->sJ,slot_list_pop->sL,slot_dict_pop->sN
open ForInStep renaming yield->fE
open PySem.W renaming boot_heap->fY,SharedT->gK,boot_drawn->oQ,boot_toks->pT
open Ne renaming symm->gO
open PyProof.Rows.SortSt renaming mk'->iI
open PySem.Around renaming in1_units->iK
open PySem.Calls renaming evalArgs_plain->iW,spliced_cons->jN,callWith_builtin->kL,callWith_function->oH,spliced_nil->pY
open List.Perm renaming refl->jE,append_right->jW,append_left->kD,of_eq->lZ,trans->pH
open Classical renaming byContradiction->jK,propDecidable->jT,choose_spec->nZ
open List.cons renaming injEq->kB
open PySem.W.Fast renaming tw11892475500146522536->kI,tw10156331382660048174->kJ,tw6613529449190102663->kM,te9446332074065402090->tF,te6613529449190102663->tG,te4187177175401517315->tH,te11892475500146522536->tI,te10156331382660048174->tJ
open PySem.Builtin.Dict_items renaming ownsTuple->kP
open List.Mem renaming tail->lD,head->lE
open PySem.Expr renaming Constant->lT,Compare->mH,BoolOp->mZ,UnaryOp->sO
open Int.ofNat renaming inj->mY
open PySem.Builtin.Dict renaming showsAll->nA,takeOut->nG,keyAndDefault->uF,dictSlotNone->uG
open And renaming intro->nB
open Prod.mk renaming injEq->nO,inj->rF
open List.Pairwise renaming nil->nX,imp->sX
open PySem.EntryCells renaming newEntry->oE
open PySem.Str renaming ofString->oS
open Iff renaming rfl->oX
open PySem.Value.type renaming inj->oZ
open PySem.SeqAt renaming shaped->rQ
open PySem.MeetsSeq renaming plain_remove_loop->rX,entry_remove_loop->rY
open PySem.Heap.IsSliceOf renaming new->sI
open PySem.Builtin.Range renaming rangeSize->tA
open PySem.Heap.IsTuple renaming typeIs->uB
open PySem.Heap.DictOfH renaming new->uC
open PySem.Builtin.List renaming listUpdate->uD,listSubscript?->uE
namespace Mine.Internal
theorem ex1{α1:Sort _}{p:α1->Prop}{G:Prop}(h:∃ x1:α1,p x1)(k:(x1:α1)->p x1->G):G:=h.elim fun x1 h=>k x1 h
theorem ex2{α1 α2:Sort _}{p:α1->α2->Prop}{G:Prop}(h:∃ x1:α1,∃ x2:α2,p x1 x2)(k:(x1:α1)->(x2:α2)->p x1 x2->G):G:=h.elim fun x1 h=>h.elim fun x2 h=>k x1 x2 h
theorem ex3{α1 α2 α3:Sort _}{p:α1->α2->α3->Prop}{G:Prop}(h:∃ x1:α1,∃ x2:α2,∃ x3:α3,p x1 x2 x3)(k:(x1:α1)->(x2:α2)->(x3:α3)->p x1 x2 x3->G):G:=h.elim fun x1 h=>h.elim fun x2 h=>h.elim fun x3 h=>k x1 x2 x3 h
theorem ex4{α1 α2 α3 α4:Sort _}{p:α1->α2->α3->α4->Prop}{G:Prop}(h:∃ x1:α1,∃ x2:α2,∃ x3:α3,∃ x4:α4,p x1 x2 x3 x4)(k:(x1:α1)->(x2:α2)->(x3:α3)->(x4:α4)->p x1 x2 x3 x4->G):G:=h.elim fun x1 h=>h.elim fun x2 h=>h.elim fun x3 h=>h.elim fun x4 h=>k x1 x2 x3 x4 h
theorem ex5{α1 α2 α3 α4 α5:Sort _}{p:α1->α2->α3->α4->α5->Prop}{G:Prop}(h:∃ x1:α1,∃ x2:α2,∃ x3:α3,∃ x4:α4,∃ x5:α5,p x1 x2 x3 x4 x5)(k:(x1:α1)->(x2:α2)->(x3:α3)->(x4:α4)->(x5:α5)->p x1 x2 x3 x4 x5->G):G:=h.elim fun x1 h=>h.elim fun x2 h=>h.elim fun x3 h=>h.elim fun x4 h=>h.elim fun x5 h=>k x1 x2 x3 x4 x5 h
theorem ex6{α1 α2 α3 α4 α5 α6:Sort _}{p:α1->α2->α3->α4->α5->α6->Prop}{G:Prop}(h:∃ x1:α1,∃ x2:α2,∃ x3:α3,∃ x4:α4,∃ x5:α5,∃ x6:α6,p x1 x2 x3 x4 x5 x6)(k:(x1:α1)->(x2:α2)->(x3:α3)->(x4:α4)->(x5:α5)->(x6:α6)->p x1 x2 x3 x4 x5 x6->G):G:=h.elim fun x1 h=>h.elim fun x2 h=>h.elim fun x3 h=>h.elim fun x4 h=>h.elim fun x5 h=>h.elim fun x6 h=>k x1 x2 x3 x4 x5 x6 h
theorem ex7{α1 α2 α3 α4 α5 α6 α7:Sort _}{p:α1->α2->α3->α4->α5->α6->α7->Prop}{G:Prop}(h:∃ x1:α1,∃ x2:α2,∃ x3:α3,∃ x4:α4,∃ x5:α5,∃ x6:α6,∃ x7:α7,p x1 x2 x3 x4 x5 x6 x7)(k:(x1:α1)->(x2:α2)->(x3:α3)->(x4:α4)->(x5:α5)->(x6:α6)->(x7:α7)->p x1 x2 x3 x4 x5 x6 x7->G):G:=h.elim fun x1 h=>h.elim fun x2 h=>h.elim fun x3 h=>h.elim fun x4 h=>h.elim fun x5 h=>h.elim fun x6 h=>h.elim fun x7 h=>k x1 x2 x3 x4 x5 x6 x7 h
theorem ex8{α1 α2 α3 α4 α5 α6 α7 α8:Sort _}{p:α1->α2->α3->α4->α5->α6->α7->α8->Prop}{G:Prop}(h:∃ x1:α1,∃ x2:α2,∃ x3:α3,∃ x4:α4,∃ x5:α5,∃ x6:α6,∃ x7:α7,∃ x8:α8,p x1 x2 x3 x4 x5 x6 x7 x8)(k:(x1:α1)->(x2:α2)->(x3:α3)->(x4:α4)->(x5:α5)->(x6:α6)->(x7:α7)->(x8:α8)->p x1 x2 x3 x4 x5 x6 x7 x8->G):G:=h.elim fun x1 h=>h.elim fun x2 h=>h.elim fun x3 h=>h.elim fun x4 h=>h.elim fun x5 h=>h.elim fun x6 h=>h.elim fun x7 h=>h.elim fun x8 h=>k x1 x2 x3 x4 x5 x6 x7 x8 h
theorem Abs{α1 α2 α3 α4 α5 α6 α7 α8 α9 α10 α11 α12 α13 α14:Sort _}{p:α1->α2->α3->α4->α5->α6->α7->α8->α9->α10->α11->α12->α13->α14->Prop}{G:Prop}(h:∃ x1:α1,∃ x2:α2,∃ x3:α3,∃ x4:α4,∃ x5:α5,∃ x6:α6,∃ x7:α7,∃ x8:α8,∃ x9:α9,∃ x10:α10,∃ x11:α11,∃ x12:α12,∃ x13:α13,∃ x14:α14,p x1 x2 x3 x4 x5 x6 x7 x8 x9 x10 x11 x12 x13 x14)(k:(x1:α1)->(x2:α2)->(x3:α3)->(x4:α4)->(x5:α5)->(x6:α6)->(x7:α7)->(x8:α8)->(x9:α9)->(x10:α10)->(x11:α11)->(x12:α12)->(x13:α13)->(x14:α14)->p x1 x2 x3 x4 x5 x6 x7 x8 x9 x10 x11 x12 x13 x14->G):G:=h.elim fun x1 h=>h.elim fun x2 h=>h.elim fun x3 h=>h.elim fun x4 h=>h.elim fun x5 h=>h.elim fun x6 h=>h.elim fun x7 h=>h.elim fun x8 h=>h.elim fun x9 h=>h.elim fun x10 h=>h.elim fun x11 h=>h.elim fun x12 h=>h.elim fun x13 h=>h.elim fun x14 h=>k x1 x2 x3 x4 x5 x6 x7 x8 x9 x10 x11 x12 x13 x14 h
theorem Ad{p1 p2 G:Prop}(h:p1/\p2)(k:p1->p2->G):G:=k (h.1) (h.2)
theorem Ap{p1 p2 p3 G:Prop}(h:p1/\p2/\p3)(k:p1->p2->p3->G):G:=k (h.1) (h.2.1) (h.2.2)
theorem Cf{p1 p2 p3 p4 G:Prop}(h:p1/\p2/\p3/\p4)(k:p1->p2->p3->p4->G):G:=k (h.1) (h.2.1) (h.2.2.1) (h.2.2.2)
theorem G7{p1 p2 p3 p4 p5 G:Prop}(h:p1/\p2/\p3/\p4/\p5)(k:p1->p2->p3->p4->p5->G):G:=k (h.1) (h.2.1) (h.2.2.1) (h.2.2.2.1) (h.2.2.2.2)
theorem Mq{p1 p2 p3 p4 p5 p6 G:Prop}(h:p1/\p2/\p3/\p4/\p5/\p6)(k:p1->p2->p3->p4->p5->p6->G):G:=k (h.1) (h.2.1) (h.2.2.1) (h.2.2.2.1) (h.2.2.2.2.1) (h.2.2.2.2.2)
theorem Pb{p1 p2 p3 p4 p5 p6 p7 G:Prop}(h:p1/\p2/\p3/\p4/\p5/\p6/\p7)(k:p1->p2->p3->p4->p5->p6->p7->G):G:=k (h.1) (h.2.1) (h.2.2.1) (h.2.2.2.1) (h.2.2.2.2.1) (h.2.2.2.2.2.1) (h.2.2.2.2.2.2)
theorem Abt{p1 p2 p3 p4 p5 p6 p7 p8 p9 p10 G:Prop}(h:p1/\p2/\p3/\p4/\p5/\p6/\p7/\p8/\p9/\p10)(k:p1->p2->p3->p4->p5->p6->p7->p8->p9->p10->G):G:=k (h.1) (h.2.1) (h.2.2.1) (h.2.2.2.1) (h.2.2.2.2.1) (h.2.2.2.2.2.1) (h.2.2.2.2.2.2.1) (h.2.2.2.2.2.2.2.1) (h.2.2.2.2.2.2.2.2.1) (h.2.2.2.2.2.2.2.2.2)
theorem Abu{p1 p2 p3 p4 p5 p6 p7 p8 p9 p10 p11 G:Prop}(h:p1/\p2/\p3/\p4/\p5/\p6/\p7/\p8/\p9/\p10/\p11)(k:p1->p2->p3->p4->p5->p6->p7->p8->p9->p10->p11->G):G:=k (h.1) (h.2.1) (h.2.2.1) (h.2.2.2.1) (h.2.2.2.2.1) (h.2.2.2.2.2.1) (h.2.2.2.2.2.2.1) (h.2.2.2.2.2.2.2.1) (h.2.2.2.2.2.2.2.2.1) (h.2.2.2.2.2.2.2.2.2.1) (h.2.2.2.2.2.2.2.2.2.2)
theorem Ah1{p1 p2 p3 p4 p5 p6 p7 p8 p9 p10 p11 p12 p13 p14 G:Prop}(h:p1/\p2/\p3/\p4/\p5/\p6/\p7/\p8/\p9/\p10/\p11/\p12/\p13/\p14)(k:p1->p2->p3->p4->p5->p6->p7->p8->p9->p10->p11->p12->p13->p14->G):G:=k (h.1) (h.2.1) (h.2.2.1) (h.2.2.2.1) (h.2.2.2.2.1) (h.2.2.2.2.2.1) (h.2.2.2.2.2.2.1) (h.2.2.2.2.2.2.2.1) (h.2.2.2.2.2.2.2.2.1) (h.2.2.2.2.2.2.2.2.2.1) (h.2.2.2.2.2.2.2.2.2.2.1) (h.2.2.2.2.2.2.2.2.2.2.2.1) (h.2.2.2.2.2.2.2.2.2.2.2.2.1) (h.2.2.2.2.2.2.2.2.2.2.2.2.2)
theorem Ahn{a b c d:Nat}(h:b<c):a+b+(c-b+d)=a+c+d:=(cX (a+b) (c - b) d).symm.trans (congrArg (·+d) ((cX a b (c - b)).trans (congrArg (a+·) (bG (aJ h)))))
theorem Aky:a+1+20 * c+100<=a+20 * (c+1)+100:=eW (aC (aD (cQ _ _ _)) (aP (by decide:1<=20) (a+20 * c))) 100
theorem Aho{a b c k m n:Nat}(h:a+b+n < c)(w:k+m<=n):a+k+b+m < c:=aB (aC (aD ((congrArg (·+m) (cQ a k b)).trans (cX _ k m))) (aP w (a+b))) h
theorem Ae7{a m n c:Nat}(h:a+n < c)(w:m<=n):a+m < c:=aB (aP w a) h
theorem Ahp{a:Nat}:-(1073741824:Int)<=a:=cW (by decide:-(1073741824:Int)<=0) (bE a)
theorem o1(h0:a<b+1)(h1:¬(a<b)):a=b:=cP (bK h0) (aW.mp h1)
theorem o2(h0:a+5*b+150<c):a+5*b+147<c:=Ae7 h0 (by decide)
theorem o3(h0:a+20*b+100<c):a+20*b+90<c:=aB (aP (by decide) _) h0
theorem o4(h0:a+5*(b+1)+150<c):a+5*b+150<c:=aB (eW (aP (pU 5 (jC b)) a) 150) h0
theorem o9(h0:a+100<b):a+1<b:=aB (aP (by decide) a) h0
theorem o12(h0:a+20+(c+1)<b):a+1+10<b:=aB (aC (aP (by decide:11<=20) a) (aG _ _)) h0
theorem o13(h0:a+20+(b+1)<c):a+1+20+b<c:=aB (aD (cQ (a+20) 1 b)) h0
theorem o14(h0:a+100<b):a+20+6<b:=aB (aP (by decide:26<=100) a) h0
theorem o26(h0:a+100<d)(h1:(min b c)<=c)(h2:a4=6)(h3:c<=a4):a+1+(min b c)<d:=aB (aC (aD (cX _ _ _)) (aP (aC (aP (aC h1 (aC h3 (aD h2))) 1) (by decide)) a)) h0
theorem o27(h0:a<=1000):a<=16777216:=aJ (aB h0 (by decide:1000 < 16777216))
theorem o28(h0:a=6):1<a:=aA (by decide:1 < 6) (aD h0.symm)
theorem o30{a b:Nat}(h0:a<b)(h1:a=b):False:=cA _ (aA h0 (aD h1.symm))
theorem o31(h0:a+5*(b+1)+147<c):a+1+5*b+150<c:=Aho (b:=5 * b) (n:=152) h0 (by decide)
theorem o32(h0:a+20*(b+1)+90<c):a+3+20*b+100<c:=Aho (b:=20 * b) (n:=110) h0 (by decide)
theorem o35(h0:a+5*(c+1)+147<b):a<b:=aB (aC (aG _ _) (aG _ _)) h0
theorem o38:(((oO x0):Nat):Int)-((a+1:Nat):Int)=(((oO x0):Nat):Int)-(a:Int)-(1:Int):=(Int.sub_sub (x0.toNat:Int) a 1).symm
theorem o39{a b c:Nat}(h0:c=a)(h1:c<=b):a<=b:=aC (aD h0.symm) h1
theorem o41{a:Nat}:¬((a:Int)<(0:Int)):=fun z=>gJ _ (cU (bE _) z)
theorem o46(h0:a-b<=c-d)(h1:¬(a<=b)):a-(b+(a-b)/2+1)<=c-(d+1):=jB (aC (lS (aG b _) a) h0) 1
theorem o48(h0:b-a<=c-(max 0 c))(h1:a<=b):a=b:=cP h1 (gM (pP.mp (aC h0 (aD ((congrArg (c - ·) (Nat.zero_max c)).trans (iC c))))))
theorem o52(h0:a+b<d)(h1:b<c):a+b+1<=a+(min c (d-a)):=aZ (Nat.lt_min.mpr ⟨h1,gQ (aB (aD (fZ b a)) h0)⟩) a
theorem o53{a b c d:Nat}(h0:a+d<c):a+(min b (c-a))<=c:=aC (aP (gU _ _) a) (aD (bG (aC (aG a d) (aJ h0))))
theorem o54(h0:a+d<c):a+(min b (c-a))-(a+d+1)<=c-0:=aC (eG _ _) (aC (aP (gU _ _) a) (aD (bG (aC (aG a d) (aJ h0)))))
theorem o55{a b c d a4:Nat}(h0:a+(min b (c-a))<=d)(h1:a+a4<c)(h2:c-a<=b)(h3:d<c):False:=absurd h3 (aW.mpr (aC (aD ((congrArg (a+·) (qY h2)).trans (bG (aC (aG a a4) (aJ h1)))).symm) h0))
theorem o56{a b c d a4:Nat}(h0:a+(min b (d-a))<=c)(h1:a+a4<d)(h2:c<d):a+b<=c:=(sV b (d - a)).elim (fun h=>aC (aD (congrArg (a+·) (eK h).symm)) h0) fun h=>absurd h2 (aW.mpr (aC (aD ((congrArg (a+·) (qY h)).trans (bG (aC (aG a a4) (aJ h1)))).symm) h0))
theorem o57(h0:c<b)(h1:c<=a):a+1-(min b (a+1))<=a-c:=aC (lS (oB.mpr ⟨h0,cG h1⟩) (a+1)) (aD (Nat.add_sub_add_right a 1 c))
theorem o60(h0:a+1<=b)(h1:c<a+1-(min b (a+1))):False:=nP _ (cH h1 (iN (oB.mpr ⟨h0,aN _⟩)))
theorem o64{a b:Nat}:a<=a+b:=aG _ _
theorem o65{a b c d:Nat}(h0:a<(min b (c-d))):a<b:=aA h0 (lA _ _)
theorem o66{a b c d:Nat}(h0:b<(min d (c-a))):a+b<c:=cF (aA h0 (gU _ _))
theorem o67{a b c d:Nat}(h0:a+c<=d):a+b+(min c (d-a))=a+c+b:=(congrArg ((a+b)+·) (eK (gL h0))).trans (cQ a b c)
theorem o70{a b c d a4 a5:Nat}(h0:d+a+a4=b+a5)(h1:c<=a)(h2:a<=b):(min a b)-c+d+c+a4=b+a5:=(congrArg (fun m=>m - c+d+c+a4) (eK h2)).trans ((congrArg (·+a4) ((cQ (a-c) d c).trans ((congrArg (·+d) (dQ h1)).trans (fZ a d)))).trans h0)
theorem o76{a b:Nat}(h0:a<=b):a+(b-a)=b:=qR h0
theorem o77(h0:b+1=a):a-1=b:=cP (pO (aD h0.symm)) (bU (aD h0))
theorem o79(h0:1<=a):a-1<a:=cS (aA (by decide:0 < 1) h0) dF
theorem o81{a b c:Nat}(h0:b<c):a+b<a+c:=cT (aN _) h0
theorem o83(h0:a+1<b)(h1:(max 0 (b+c))<d)(h2:a4<c)(h3:d=a+a4):False:=cA _ (aR (aB (eS 0 (b+c)) h1) (aB (aD h3) (Nat.add_lt_add (fN h0) h2)))
theorem o86(h0:((a2+a0)+1)≠a1)(h1:(a2+1) < a1)(h2:(a2+a0)≠a1)(h3:a0<=(a1 - a2)):a0 < (a1 - a2):=aQ h3 fun e=>h2 ((congrArg (a2+·) e).trans (bG (aJ (fN h1))))
theorem o89{a0 a1 a2:Nat}(h0:(a2+a0)≠a1)(h1:a2 < a1)(h2:a0<=(a1 - a2)):a0 < (a1 - a2):=aQ h2 fun e=>h0 ((congrArg (a2+·) e).trans (bG (aJ h1)))
theorem o91:a<=a+1:=aJ (bQ _)
theorem o94(h0:1<=a)(h1:a<=b):a-1<b:=aA (cS (aA (by decide:0 < 1) h0) dF) h1
theorem o98(h0:a+b+c=d+a4)(h1:(max 0 (d+a4))<a)(h2:1<=b):False:=cA _ (aA (aB (eS 0 (d+a4)) h1) (aC (aG a b) (aC (aG (a+b) c) (aD h0))))
theorem Ah2{a b c:Nat}(h0:a<c)(h1:b=c):a<b:=aA h0 (aD h1.symm)
theorem Afb{a b c d:Nat}(h0:a+d=c)(h1:b<d):a+b<c:=aA (aZ h1 _) (aD h0)
theorem Ajl(h0:a+d=c)(h1:1<=b)(h2:b<d)(h3:a4=c):a+b-1<c:=aA (aB (eG _ _) (aZ h2 _)) (aD h0)
theorem Akz(h0:(a1+a3)=a4)(h1:1<=a2)(h2:a5 < (a1+(a2+1)))(h3:a0 < a5)(h4:a6=a4)(h5:a1<=a0)(h6:¬(a2 > 1)):a0=((a1+a2) - 1):=cP (qQ (aA h3 (bK h2))) (aC (pO (aP (kK h6) a1)) h5)
theorem Ak0(h0:(a1+a3)=a4)(h1:1<=a2)(h2:a0 < (a1+(a2+1)))(h3:a5 < a0)(h4:a5=((a1+a2) - 1))(h5:a6=a4)(h6:a1<=a5)(h7:¬(a2 > 1)):a0=(a1+a2):=cP (bK h2) (aC (aP (kK h7) a1) (aC (cG h6) h3))
theorem Ak1(h0:(a1+1)<=a0)(h1:1<=a1)(h2:¬(a1 > 1)):1<=a0:=aC (aC h1 (jC a1)) h0
theorem Ajm(h0:(a3+1)<=a1)(h1:(a0+a4)=a2)(h2:1<=a3)(h3:a1 < a4)(h4:a5=a2)(h5:¬(a3 > 1)):((a0+a1) - 1) < a2:=aB (eG _ 1) (aA (aZ h3 a0) (aD h1))
theorem Ak2{a0 a1:Nat}(h0:a0≠a1)(h1:¬(a0 < a1))(h2:¬(a1 < a0)):False:=cA _ (aB (aW.mp h1) (aQ (aW.mp h2) h0))
theorem Ak3(h0:(a2+1)<=a1)(h1:(a0+a3)=a4)(h2:1<=a2)(h3:a5=(a0+a1))(h4:a6=a4)(h5:¬(a2 > 1)):((a0+a1) - 1) < (a0+a1):=cS (aA (aA (kT a2) h0) (cE a1 a0)) dF
theorem Ak4(h0:a+d=a4)(h1:c<a+b)(h2:a5=a4):a<=a+(a+b)-1-c:=jD (jD (aZ h1 a))
theorem Ak5(h0:1<=a)(h1:a<=b):(max a 1)<=b:=aC (aD (rG h0)) h1
theorem Ak6(h0:(max b 1)<=a):1<=a:=aC (eS _ _) h0
theorem Ak7(h0:a-b<=c-(max 0 c))(h1:1<=c)(h2:b<=a):a=b:=cP (kW.mp (pP.mp (aC h0 (aD (iN (eS 0 c)))))) h2
theorem Ak8{a0 a1:Nat}(h0:a1<=a0)(h1:a1 ≥ a0):a0=a1:=cP h1 h0
theorem Ak9(h0:((a0+a2) / 2)=a1)(h1:¬(a0 ≥ a2)):a0<=a1:=aC ((Nat.le_div_iff_mul_le jY).mpr (tZ a0▸aP (aJ (eR.mp h1)) a0)) (aD h0)
theorem Ala(h0:((a2+a1) / 2)=a0)(h1:a2<=a0)(h2:¬(a2 ≥ a1)):a0 < a1:=aB (aD h0.symm) ((Nat.div_lt_iff_lt_mul jY).mpr (tZ a1▸lN (eR.mp h2) a1))
theorem Ajn{a b c d a4:Nat}(h0:a+d<=c)(h1:b<d)(h2:a4=c):a+b<c:=aA (aZ h1 _) h0
theorem Alb{a b c d a4 a5 a6:Nat}(h0:a+d<=c)(h1:a4<d)(h2:b<a5)(h3:a6=c)(h4:a5<=a4):a+b<c:=aA (aZ (aR (aA h2 h4) h1) _) h0
theorem Alc{a b c:Nat}(h0:a<c)(h1:c<=b):a<=b:=aJ (aA h0 h1)
theorem Ald{a b c:Nat}(h0:b<=c)(h1:¬(c=b)):a+b<a+c:=cT (aN _) (aQ h0 (fun e=>h1 e.symm))
theorem Ajo{a b c d:Nat}(h0:b<d)(h1:d<=c):a+b<a+c:=cT (aN _) (aA h0 h1)
theorem Ale{a0 a1:Nat}(h0:a0≠a1)(h1:¬(a1 < a0)):a0 < a1:=aQ (aW.mp h1) h0
theorem Alf(h0:b<c+1)(h1:¬(b=c)):a+b<a+c:=cT (aN _) (aQ (bK h0) h1)
theorem Alg{a b c d a4:Nat}(h0:a+d<=a4)(h1:b<d)(h2:c=a4):a+b<c:=aA (aA (aZ h1 _) h0) (aD h2.symm)
theorem Alh{a b c:Nat}(h0:c<=b):a+b-(a+c)<=a+b:=eG _ _
theorem Ali{a b c:Nat}(h0:c<=b):a+b-(a+b-(a+c))=a+c:=Nat.sub_sub_self (aP h0 a)
theorem Alj{a b c:Nat}(h0:a<b):¬(a=b+c):=dB (aA h0 (aG _ _))
theorem Alk{a b c d:Nat}(h0:c<a):¬(a+b<c/\c<=a+d):=fun z=>cA _ (aA (aR z.1 h0) (aG _ _))
theorem Alm{a b c:Nat}(h0:a<b+c)(h1:b<=a):a-b<c:=dG h1 h0
theorem Aln{a b c:Nat}(h0:c+a<=b):a<=b-c:=gL h0
theorem Alo{a b c d:Nat}(h0:b+d<=a)(h1:a<b+c):a-b<c:=dG (aC (aG _ _) h0) h1
theorem Alp{a b c:Nat}(h0:a+c<=b):a+(b-a)=b:=(bG (aC (aG _ _) h0))
theorem Alq{a b c d:Nat}(h0:d<b+c)(h1:a<d):¬(a=b+c):=dB (aR h1 h0)
theorem Alr{a b c d a4:Nat}(h0:a4<a+b)(h1:c<a4):¬(a+b<c/\c<=a+d):=fun z=>cA _ (aR (aR z.1 h1) h0)
theorem Als{a b c:Nat}(h0:a<b+c):¬(a=b+c):=dB h0
theorem Ajp{a b c d:Nat}(h0:c<a+b):¬(a+b<c/\c<=a+d):=fun z=>cA _ (aR z.1 h0)
theorem Alt(h0:a<b+(c+1))(h1:a<b+d)(h2:d<=c):a<b+c:=aA h1 (aP h2 _)
theorem Alu{a b c d:Nat}(h0:a<d)(h1:d=b+c):¬(a=b+c):=dB (aA h0 (aD h1))
theorem Alv{a b c d a4:Nat}(h0:c<a4)(h1:a4=a+b):¬(a+b<c/\c<=a+d):=fun z=>cA _ (aA (aR z.1 h0) (aD h1))
theorem Alw{a b c d:Nat}(h0:a<d)(h1:d=b+c):a<b+c:=aA h0 (aD h1)
theorem Alx(h0:c<a+(d+1))(h1:¬(c<a+b))(h2:¬(c=a+b)):a+b<c/\c<=a+d:=⟨aQ (aW.mp h1) fun e=>h2 e.symm,bK h0⟩
theorem Aly(h0:d<c)(h1:d=a+b):a+b<=c-1:=bU (aB (aD h1.symm) h0)
theorem Alz(h0:1<=c)(h1:a<b+(c+1))(h2:d=b+a4):a-1<b+c:=aB (jB (bK h1) 1) (cS (aA h0 (cE _ _)) dF)
theorem Al0{a b c d a4 a5:Nat}(h0:c<d+a4)(h1:c<a5)(h2:c=a5-1)(h3:¬(a5<d+a4))(h4:¬(a5=d+a4))(h5:¬(c=d+a4)):a<b:=absurd h0 (aW.mpr (aC (bU (aQ (aW.mp h3) fun e=>h4 e.symm)) (aD h2.symm)))
theorem Al1(h1:a<b)(h2:¬(a=b-1)):a<b-1:=aQ (bU h1) h2
theorem Al2(h0:1<=c)(h1:a<b+(c+1)):a-1<b+c:=aB (jB (bK h1) 1) (cS (aA h0 (cE _ _)) dF)
theorem Al3(h0:a4<a+(d+1))(h1:c<a4)(h2:¬(c<a+b))(h3:¬(c=a+b)):a+b<c/\c<=a+d:=⟨aQ (aW.mp h2) fun e=>h3 e.symm,aJ (aA h1 (bK h0))⟩
theorem Al4(h0:a<=b)(h1:¬(b<a+c))(h2:¬(b=a+c)):a<=b-1:=bU (aB (aG _ _) (aQ (aW.mp h1) (fun e=>h2 e.symm)))
theorem Al5(h0:a<b)(h1:¬(a<c+d))(h2:¬(a=c+d)):a-1<b-1:=pN (aB (bH _) (aQ (aW.mp h1) fun e=>h2 e.symm)) h0
theorem Al6(h0:a<b+(c+1))(h1:d<a):a-1<b+c:=aA (cS (aB (bH _) h1) dF) (bK h0)
theorem Al7(h0:a+b+(c+1)<=d):a+(b+1)+c<=d:=aC (aD (kU (a+b) c)) h0
theorem Al8:a+b+(c+1)=a+(b+1)+c:=(kU (a+b) c).symm
theorem Al9{a b c:Nat}(h0:a<=b):(min a b)-c=a-c:=congrArg (· - c) (eK h0)
theorem Ama{a b c d a4 a5 a6 a7:Nat}(h0:b+c<=a)(h1:a<b+a4+a5)(h2:c<a4)(h3:a6=a4-c+a5)(h4:d=a4-c+a5)(h5:a7=b+c):a-(b+c)<d:=dG h0 (cH h1 ((congrArg ((b+c)+·) h4).trans (Ahn h2)).symm)
theorem Amc{a b c d a4 a5 a6 a7:Nat}(h0:d+a4+a5<=c)(h1:a6<a4)(h2:a7=a4-a6+a5)(h3:b=a4-a6+a5)(h4:a=d+a6):a+b<=c:=aC (aD ((congrArg (·+b) h4).trans ((congrArg ((d+a6)+·) h3).trans (Ahn h1)))) h0
theorem Ajq{a b c d a4 a5:Nat}(h0:a+b+d<=c)(h1:a4=a+a5):a+b<=c:=aC (aG _ _) h0
theorem Ah3{a b c d a4 a5 a6 a7 a8:Nat}(h0:a+b+a4<=d)(h1:a5=b-a6+c)(h2:a7=b-a6+c)(h3:a8=a+a6)(h4:c<=a4):a+b+c<=d:=aC (aP h4 _) h0
theorem Amd{a b c d:Nat}(h0:c=a+d)(h1:a<=b):a+(b-a)=b:=(bG h1)
theorem Ajr{a b c d a4:Nat}(h0:a<b+d)(h1:d<c)(h2:a4=b+d):a<b+c:=aR h0 (aZ h1 _)
theorem Ame(h0:1<=a4)(h1:a<b+c+d)(h2:a5=c-a6+a4)(h3:a7=c-a6+a4)(h4:a8=b+a6)(h5:a4<=d):a-(b+c)<d:=(Nat.lt_or_ge a (b+c)).elim (fun h=>aB (aD (iN (aJ h))) (aA h0 h5)) fun h=>dG h h1
theorem Amf(h0:a+b+d<=c)(h1:1<=d)(h2:a4=b-a5+d)(h3:a6=b-a5+d)(h4:a7=a+a5):a+b+(c-(a+b))=c:=(bG (aC (aG _ _) h0))
theorem Amg{a b c d:Nat}(h0:b<c):a+b+(c-b+d)=a+c+d:=(cX (a+b) (c - b) d).symm.trans (congrArg (·+d) ((cX a b (c - b)).trans (congrArg (a+·) (bG (aJ h0)))))
theorem Ah4{a b c d a4 a5 a6 a7:Nat}(h0:a<b+a4+a5)(h1:c<a4)(h2:d=a4-c+a5)(h3:a6=a4-c+a5)(h4:a7=b+c)(h5:¬(a<b+c)):a-(b+c)<d:=dG (aW.mp h5) (cH h0 ((congrArg ((b+c)+·) h2).trans (Ahn h1)).symm)
theorem Ajs(h0:1<=d)(h1:a4=b-a5+d)(h2:a6=b-a5+d)(h3:a7=a+a5)(h4:¬(c<a+b+d)):a+b<=c:=aC (aG _ _) (aW.mp h4)
theorem Ahq{a b c d a4 a5:Nat}(h0:a<b+(c+d))(h1:a4=b+a5):a<b+c+d:=aA h0 (aD (cX _ _ _).symm)
theorem Amh(h0:1<=c)(h1:a<b+c)(h2:¬(a=b+c-1)):a<b+c-1:=aQ (bU h1) h2
theorem Ami(h0:c<a+b):a+b-1<a+b:=cS (aB (bH _) h0) dF
theorem Amj{a b c:Nat}(h0:¬(c<a+b))(h1:¬(c=a+b)):a+b<c:=aQ (aW.mp h0) (fun e=>h1 e.symm)
theorem Ajt{a b c d:Nat}(h0:a<b+(c+d)):a<b+c+d:=aA h0 (aD (cX _ _ _).symm)
theorem Amk{a b c d:Nat}(h0:c<d)(h1:a<=c)(h2:d<=b):a<b:=aA (aB h1 h0) h2
theorem Aml{a b c:Nat}(h0:¬(c<a+b)):a+b<=c:=aW.mp h0
theorem Aju(h0:a+b+d<=a4)(h1:1<=d)(h2:c=a4):a+b<c:=aA (aA (bX (aA (by decide:0 < 1) h1)) h0) (aD h2.symm)
theorem Ah5(h0:a+b+d<=a4)(h1:1<=d)(h2:c=a4):a+b<=c:=aC (aC (aG _ _) h0) (aD h2.symm)
theorem Ajv(h0:1<=a):0<a:=aA (by decide:0 < 1) h0
theorem Amm(h0:1<=b):a+(b-1)=a+b-1:=(qS h0 a).symm
theorem Amn(h0:1<=c)(h1:b<c):a+b+(c-b)-1=a+c-1:=congrArg (· - 1) ((cX a b (c - b)).trans (congrArg (a+·) (bG (aJ h1))))
theorem Ajw{a b c d a4:Nat}(h0:a+b+c<=a4)(h1:d=a4):a+b+c<=d:=aC h0 (aD h1.symm)
theorem Ajx{a b c d:Nat}(h0:c<d-b)(h1:b<d):a+b+c<a+d:=aB (aD (cX a b c)) (aZ (cF h0) a)
theorem Ajy{a b c d:Nat}(h0:c<d):a+b+c<a+b+d:=cT (aN _) h0
theorem Amo(h0:a+a4+a5<=d)(h1:1<=a6)(h2:c<a4-b)(h3:b<a4)(h4:a7=d)(h5:a8=a6)(h6:a6<=a5):a+b+c<d:=aA (aA (aB (aD (cX a b c)) (aZ (cF h2) a)) (aG _ _)) h0
theorem Amp{a b c d a4:Nat}(h0:c<d-b)(h1:b<d):a+b+c<a+d+a4:=aA (aB (aD (cX a b c)) (aZ (cF h0) a)) (aG _ _)
theorem Ajz(h0:1<=a)(h1:b=a):a-1<a:=cS (aA (by decide:0 < 1) h0) dF
theorem Amq(h0:1<=c)(h1:b<c):a+b+(c-b-1)=a+c-1:=(qS (dY h1) (a+b)).symm.trans (congrArg (· - 1) ((cX a b (c - b)).trans (congrArg (a+·) (bG (aJ h1)))))
theorem Amr{a b c d a4 a5 a6:Nat}(h0:a=a4+a5)(h1:a4=b-c)(h2:a6=d)(h3:a5=d):a=b-c+d:=h0.trans ((congrArg (·+a5) h1).trans (congrArg ((b - c)+·) h3))
theorem Ams(h0:a+c+a5<=a6)(h1:b<c)(h2:a7=c-b+d)(h3:a4=a6)(h4:a8=d)(h5:d<=a5):a+b+0+(c-b+d)<=a4:=aC (aD ((cX (a+b) (c-b) d).symm.trans (congrArg (·+d) ((cX a b _).trans (congrArg (a+·) (qR (aJ h1))))))) (aC (aP h5 _) (aC h0 (aD h3.symm)))
theorem Amt(h0:a+d+b<=c)(h1:1<=d):a+(b+1)<=c:=aC (aC (aD (kU a b).symm) (eW (aP h1 a) b)) h0
theorem Amu{a b c:Nat}(h0:a+c<=b):a<=b:=aC (aG a c) h0
theorem Ahr(h0:a+1<b):a<b:=aR (bQ _) h0
theorem Aj0{a b c d a4 a5:Nat}(h0:a+b+c+a4<=a5)(h1:a5<=d):a+b+c<=d:=aC (aC (aG _ _) h0) h1
theorem Aj1{a0 a1 a2:Nat}(h0:¬(a0 ≥ a1)):(a0+(min (a1 - a0) a2))<=a1:=aC (aP (lA _ _) _) (aD (bG (aJ (eR.mp h0))))
theorem Amv(h0:a<=1\/a<=b-(max 0 b))(h1:2<=b):a<=1:=h0.elim id fun h=>aC h (aC (aD (iN (eS 0 b))) (bH 1))
theorem Amw(h0:0=a)(h1:2<=a):False:=cA _ (aB (aC h1 (aD h0.symm)) (by decide:0 < 2))
theorem Amx(h0:a+1+1=b)(h1:b<=1):False:=cA _ (aA (aA (aD h0) h1) (cE _ _))
theorem Aj2(h0:a+20+c<b):a+10<b:=aB (aC (aP (by decide:10<=20) a) (aG _ _)) h0
theorem Amy(h0:a+100<b):a+1+1+30<b:=aB (aP (by decide:32<=100) a) h0
theorem Amz(h0:a+30<b):a+20+5<b:=aB (aP (by decide:25<=30) a) h0
theorem Ah6(h0:b<a)(h1:c=a+1-b):a+1-(b+1)<c:=h1▸jM (qP h0) (bQ _)
theorem Aj3(h0:a-b=0)(h1:¬(a<b)):a=b:=cP (gM h0) (aW.mp h1)
theorem Am0(h0:¬((0:Int)<=x0)):(-(((Int.natAbs x0):Nat):Int))=x0:=Int.neg_eq_comm.mp (Int.ofNat_natAbs_of_nonpos (iG (mC.mp h0))).symm
theorem Am1:a+(b+1)=a+1+b:=(cQ a 1 b).symm
theorem Mr{a:Nat}:(0:Int)<=(a:Int):=bE _
theorem Xg{a b:Nat}(h0:a<b):(a:Int)<(b:Int):=bS.mpr h0
theorem Aj4(h0:0=b-a)(h1:a<=b):a=b:=cP h1 (gM h0.symm)
theorem Am2(h0:a<0):False:=cA _ (aA h0 (bH _))
theorem Afc(h0:a<100000)(h1:b=16777216):a<b:=aA (aR h0 (by decide:100000 < 16777216)) (aD h1.symm)
theorem Aj5:((a+1:Nat):Int)-(1:Int)=(a:Int):=mD (a:Int) 1
theorem Am3:a<2*a+1+b:=aA (iD (kX a jY)) (aG ..)
theorem Am4{a:Nat}:(2:Int)*(a:Int)+(2:Int)=((2*a+1+(0+1):Nat):Int):=by grind
theorem Am5{a b:Nat}(h0:(a:Int)=(b:Int))(h1:b<a):False:=cA b (cH h1 (Int.ofNat_inj.mp h0))
theorem Aj6:¬(((a+1:Nat):Int)=(0:Int)):=Int.natCast_ne_zero.mpr (mV a)
theorem Ah7:(0:Int)<((a+1:Nat):Int):=eM.mpr (kT a)
theorem Aj7{a:Nat}(h0:a<1000000001):(a:Int)<=(1000000000:Int):=dD.mpr (bK h0)
theorem Am6{a:Nat}(h0:a<2):(1000000000:Int)-(a:Int)<=(1000000000:Int):=rI _ (bE a)
theorem Aj8(h0:a-c=0)(h1:c=b)(h2:¬(a<c)):a=b:=h1▸cP (gM h0) (aW.mp h2)
theorem Am7{a b c d:Nat}(h0:a=c+d):a+b=c+b+d:=(congrArg (·+b) h0).trans (cQ c d b)
theorem Am8:a+b+c+1=a+(b+(c+1)):=congrArg (·+1) (cX a b c)
theorem Aj9{a:Nat}(h0:a<=30):(-(1073741824:Int))<=(a:Int)/\(a:Int)<=(1073741824:Int):=⟨Ahp,dD.mpr (aC h0 (by decide:30<=1073741824))⟩
theorem Aka(h0:1<=a/\a<=30/\1<=b/\b<=30):0<a:=aA (by decide:0 < 1) h0.1
theorem Ahs(h0:b=16777216)(h1:a<=30):a<b:=aA (aB h1 (by decide:30 < 16777216)) (aD h0.symm)
theorem Am9(h0:a<4):1+a<=4:=fZ a 1▸h0
theorem Ana(h0:a<5):1+a<=5:=fZ a 1▸h0
theorem Akb(h0:1<=b/\b<=30/\1<=c/\c<=30)(h1:a<b):a<=29:=bK (aA h1 h0.2.1)
theorem Akc(h0:1<=b/\b<=30/\1<=c/\c<=30)(h1:a<b):a<=16777216:=aJ (aR (aA h1 h0.2.1) (by decide:30 < 16777216))
theorem Aht(h0:a<1000)(h1:b=16777216):a<b:=aA (aR h0 (by decide:1000 < 16777216)) (aD h1.symm)
theorem Anb:a+1+2*b+1=a+2+2*b:=(cQ (a+1) 1 (2 * b)).symm
theorem Akd:a0≠((a0+2)+(2 * a1)):=dB (aA (bX (by decide)) (aG _ _))
theorem Anc:a+2+2*b=a+1+2*b+1:=cQ (a+1) 1 (2 * b)
theorem Ake{a b:Nat}(h0:(a:Int)=(b:Int))(h1:a<b):False:=dB h1 (mY h0)
theorem Ane{x0 x1:Int}(h0:x0<x1)(h1:x1<=x0):False:=mC.mpr h0 h1
theorem Anf(h0:a<c):5*a+(b+1)<=5*c+b:=lN ((Nat.mul_lt_mul_left (kT 4)).mpr h0) b
theorem Akf(h0:b<d)(h1:a<=c+1):a+b<=c+d:=aC (eW h1 _) (aC (aD (cQ _ _ _)) (aP h0 _))
theorem Akg(h0:b+c<90000)(h1:a+d<=b+c):a<100000:=aR (aB (aC (aG _ _) h1) h0) (by decide:90000 < 100000)
theorem Akh(h0:5*a+c=d)(h1:d<90000)(h2:c=a4+1)(h3:b=a4):5*a+b<90000:=aR (aA (aZ (aB (aD h3) (aD h2.symm)) _) (aD h0)) h1
theorem Ah8(h0:b<c)(h1:d<=30*30)(h2:c<=d)(h3:a<=b):a<100000:=aR (aA (aA (aB h3 h0) h2) h1) (by decide:(30 * 30) < 100000)
theorem Ang:a+3-(a+2)=1:=lM a 3 2
theorem Aki(h0:b<=132*133)(h1:c<=132)(h2:a<=c):a+b<90000:=aB (eB (aC h2 h1) h0) (by decide)
theorem Ah9{x0 x1:Int}(h0:x0=x1):¬(x0<x1):=fun z=>gJ _ (cU (gW h0.symm) z)
theorem Akj{x0 x1 x2 x3:Int}(h0:x1<x0\/x1=x0/\x3<x2):¬(x0<x1\/x0=x1/\x2<x3):=h0.elim (fun p=>fun h=>h.elim (sY p) fun q=>mM p q.1.symm) fun p=>fun h=>h.elim (fun q=>mM q p.1.symm) fun q=>sY p.2 q.2
theorem Anh{x0 x1 x2 x3 x4 x5:Int}(h0:¬(x4<x1\/x4=x1/\x5<x3))(h1:¬(x0<x4\/x0=x4/\x2<x5)):¬(x0<x1\/x0=x1/\x2<x3):=fun h=>h.elim (fun q=>h1 (.inl (gA q (eI.mp fun z=>h0 (.inl z))))) fun h=>have e:x4=x1:=hM (h.1▸eI.mp fun z=>h1 (.inl z)) (eI.mp fun z=>h0 (.inl z));h1 (.inr ⟨h.1.trans e.symm,gA h.2 (eI.mp fun z=>h0 (.inr ⟨e,z⟩))⟩)
theorem Ani{x0 x1 x2 x3:Int}(h0:¬(x2<x3\/x2=x3/\x0<x1))(h1:¬(x3<x2\/x3=x2/\x1<x0)):x0=x1:=have e:x2=x3:=hM (eI.mp fun z=>h1 (.inl z)) (eI.mp fun z=>h0 (.inl z));hM (eI.mp fun z=>h1 (.inr ⟨e.symm,z⟩)) (eI.mp fun z=>h0 (.inr ⟨e,z⟩))
theorem Anj:(-((a+1:Nat):Int))<=(-(1:Int)):=rS (dD.mpr (cG (bH a)))
theorem Ank:(oO ((-(1:Int))+((a+1:Nat):Int)))=a:=congrArg oO ((congrArg (-1+·) (Int.add_comm a 1)).trans (Int.neg_add_cancel_left 1 a))
theorem Akk(h0:a<=30):a<=1000:=aJ (aB h0 (by decide:30 < 1000))
theorem Anl(h0:b+c=d+a4)(h1:b+a5=d+a)(h2:d<=132)(h3:b<=132)(h4:a5<=d):a<1000:=aB (aC (cE a d) (aC (aD h1.symm) (eB h3 (aC h4 h2)))) (by decide)
theorem Akl{a0 a1 a2:Nat}(h0:a1 < a2)(h1:a2<=a0):a0≠a1:=dW (aA h0 h1)
theorem Anm{a b c d a4:Nat}(h0:(0:Int)<(a4:Int))(h1:d+1=a4)(h2:a+b=c+a4)(h3:a<=132)(h4:b<=c):a-1+b=c+d:=(Nat.sub_add_comm (oU (cH (aB h4 (bX (eM.mp h0))) h2.symm))).symm.trans (congrArg (· - 1) (h2.trans (congrArg (c+·) h1.symm)))
theorem Akm{a b c d a4:Nat}(h0:(0:Int)<(b:Int))(h1:c+1=b)(h2:a+d=a4+b)(h3:a<=132)(h4:d<=a4):a-1<=132:=aC (eG _ _) h3
theorem Ann(h0:a+d<=c)(h1:b<d):a+1*b<c:=aA (aZ (aB (aD (jZ b)) h1) a) h0
theorem Ano(h0:b<c)(h1:d=a+c+1):a+1*b<a+c+1:=qP (aZ (aB (aD (jZ b)) h0) a)
theorem Anp(h0:a1 < a2)(h1:a3=((a0+a2)+1)):(a0+(1 * a1))≠(a0+a2):=dB (aZ (aB (aD (jZ a1)) h0) a0)
theorem Anq(h0:¬(a2=a1)):(a0+(1 * a1))≠(a0+(1 * a2)):=fun h=>h0 (((jZ a2).symm.trans (pV h).symm).trans (jZ a1))
theorem Aia(h0:a+c+1<=b)(h1:d=a+c+1)(h2:c<=30):a<=b:=aJ (aB (aG _ _) h0)
theorem Akn{a:Nat}(h0:1<=a):¬((a:Int)=(0:Int)):=fun h=>dW h0 (qU.mp h)
theorem Ako(h0:x0<=(1000000000:Int)):x0<(1000000001:Int):=cU h0 (by decide:(1000000000:Int) < (1000000001:Int))
theorem Anr:(1:Int)<((a+1+1:Nat):Int):=bS.mpr (gT (kT a))
@[elab_as_elim] theorem rwl {α:Sort _} {a b:α} {motive:α->Prop} (h:a=b) (p:motive b):motive a:=h▸p
@[elab_as_elim] theorem rwr {α:Sort _} {a b:α} {motive:α->Prop} (h:a=b) (p:motive a):motive b:=h▸p
theorem Ae{P:Prop}(h:∀ G:Prop,(P->G)->G):P:=h P id
theorem Af{α:Type}{a:α}{P:Prop}(h:(none:Option α)=some a):P:=nomatch h
theorem C0{P:Prop}(h:false=true):P:=nomatch h
open PySem
noncomputable section
inductive Val where
 | none
 | bool (b:Bool)
 | int (i:Int)
 | str (s:Str)
 | tup (vs:List Val)
 | loc (l:Nat)
 | script (ns:List Int)
 | rng (n:Int)
 | exc (c:Nat)
noncomputable def Abv(a b:List Val):Bool:=@decide (a=b) (jT _)
theorem Xj(a b:List Val)(h:Abv a b=true):a=b:=@of_decide_eq_true _ (jT _) h
theorem Ru(a:List Val):Abv a a=true:=@decide_eq_true _ (jT _) rfl
noncomputable abbrev Key:=Int × Int
inductive HObj where
 | list (xs:List Val)
 | dict (es:List (Key × Val))
 | inst (c:Nat) (fs:List (Nat × Val))
 | hid
noncomputable abbrev Hp:=List HObj
inductive Res(α:Type) where
 | ok (a:α) (H:Hp)
 | exc (c:Nat) (H:Hp)
 | bad
theorem Eo{α:Type}{a:α}{P:Prop}(h:(Res.bad:Res α)=.ok a H):P:=nomatch h
theorem L2{α:Type}{a:α}{P:Prop}(h:(Res.exc c H':Res α)=.ok a H):P:=nomatch h
noncomputable def M(α:Type):=Hp->Res α
namespace M
noncomputable def ret{α:Type}(a:α):M α:=fun H=>.ok a H
noncomputable def bnd{α β:Type}(m:M α)(f:α->M β):M β:=fun H =>
 match m H with
 | .ok a H'=>f a H'
 | .exc c H'=>.exc c H'
 | .bad=>.bad
noncomputable def bad{α:Type}:M α:=fun _=>.bad
noncomputable def raise{α:Type}(c:Nat):M α:=fun H=>.exc c H
noncomputable def ofOpt{α:Type}:Option α->M α
 | some a=>ret a
 | none=>bad
noncomputable def look{α:Type}(f:Hp->Option α):M α:=fun H =>
 match f H with
 | some a=>.ok a H
 | none=>.bad
noncomputable def quiet{α:Type}(m:M α):M α:=fun H =>
 match m H with
 | .exc _ _=>.bad
 | r=>r
noncomputable def alloc(o:HObj):M Val:=fun H=>.ok (.loc H.length) (H++[o])
noncomputable def put(l:Nat)(o:HObj):M Unit:=fun H=>.ok () (H.set l o)
end M
theorem Eh{α β:Type}{m:M α}{f:α->M β}{a:α}(h:m H=.ok a H'):(m.bnd f) H=f a H':=by unfold M.bnd;exact rwl h rfl
theorem Fk{α β:Type}{m:M α}{f:α->M β}(h:m H=.exc c H'):(m.bnd f) H=.exc c H':=by unfold M.bnd;exact rwl h rfl
theorem Dt{α β:Type}{m:M α}{f:α->M β}(h:m H=.bad):(m.bnd f) H=.bad:=by unfold M.bnd;exact rwl h rfl
inductive BOp where
 | add | sub | mul | fdiv | mod
inductive COp where
 | eq | ne | lt | le | gt | ge | is | isNot | isin | notin
inductive Ty where
 | int | bool | str | tuple | list
 | cls (c:Nat)
inductive BF where
 | len | range | list | sorted | max2 | int
inductive BM where
 | append | pop | dpop | clear | remove | get | get2
set_option genCtorIdx false in
mutual
inductive ME where
 | none
 | bool (b:Bool)
 | int (i:Int)
 | str (s:Str)
 | glob (k:Nat)
 | var (i:Nat)
 | bin (op:BOp) (a b:ME)
 | neg (a:ME)
 | not (a:ME)
 | and (a b:ME)
 | or (a b:ME)
 | cmp (op:COp) (a b:ME)
 | cmp2 (op1 op2:COp) (a b c:ME)
 | sub (a i:ME)
 | slice (a:ME) (lo hi:MEo)
 | tup (es:MEs)
 | list (es:MEs)
 | dict
 | attr (a:ME) (n:Nat)
 | call (f:Nat) (es:MEs)
 | new (c:Nat) (es:MEs)
 | umeth (a:ME) (m:Nat) (es:MEs)
 | bf (f:BF) (es:MEs)
 | bm (a:ME) (m:BM) (es:MEs)
 | isinst (a:ME) (t:Ty)
 | comp (elt:ME) (it:ME) (cond:MEo)
inductive MEo where
 | none
 | some (e:ME)
inductive MEs where
 | nil
 | cons (e:ME) (es:MEs)
end
set_option genCtorIdx false in
mutual
inductive MS where
 | expr (e:ME)
 | assign (i:Nat) (e:ME)
 | setattr (o:ME) (n:Nat) (e:ME)
 | setitem (o i:ME) (e:ME)
 | ret (e:MEo)
 | ite (c:ME) (t f:MSs)
 | loop (c:ME) (body:MSs)
 | each (i:Nat) (it:ME) (body:MSs)
 | eachPair (i j:Nat) (it:ME) (body:MSs)
 | eachEnum (i j:Nat) (a:ME) (body:MSs)
 | raise (c:Nat) (msg:Str)
 | tryx (body:MSs) (d:Nat)
inductive MSs where
 | nil
 | cons (s:MS) (ss:MSs)
end
structure MFun where
 arity:Nat
 nvars:Nat
 body:MSs
structure Tab where
 funs:List MFun
 /-- of each class: its methods,by the name's number;number 0 is __init__ -/
 meths:List (List (Nat × Nat))
 exc:Nat
 globs:List Val
noncomputable def Tab.meth(T:Tab)(c m:Nat):Option Nat:=(T.meths[c]?).bind fun l=>l.lookup m
noncomputable def Tab.isExc(T:Tab)(c:Nat):Bool:=decide (c=T.exc)
noncomputable def lid:Nat:=16777216
noncomputable def I6(f:Val->Option jH):List Val->Option (List jH)
 | []=>some []
 | x :: xs =>
  match f x,I6 f xs with
  | some d,some ds=>some (d :: ds)
  | _,_=>none
noncomputable def Tk:Val->Option jH
 | .none=>some .none
 | .bool b=>some (.bool b)
 | .int i=>some (.int i)
 | .str s=>if PyData.strOk s=true then some (.str s) else none
 | _=>none
noncomputable def A0(H:Hp):Nat->Val->Option jH
 | 0,v=>Tk v
 | n+1,v =>
  match v with
  | .tup vs=>(I6 (A0 H n) vs).map .tuple
  | .loc l =>
   match H[l]? with
   | some (.list xs)=>(I6 (A0 H n) xs).map .list
   | _=>none
  | v=>Tk v
noncomputable def Ej:Nat:=6
noncomputable def Ga(H:Hp)(a b:Val):Option Bool :=
 match A0 H Ej a,A0 H Ej b with
 | some x,some y=>some (dE x y)
 | _,_=>none
noncomputable def lts(e f:Val->Val->Option Bool):List Val->List Val->Option Bool
 | [],[]=>some false
 | [],_ :: _=>some true
 | _ :: _,[]=>some false
 | x :: xs,y :: ys =>
  match e x y with
  | some true=>lts e f xs ys
  | some false=>f x y
  | none=>none
noncomputable def Abw:Val->Option Int
 | .int i=>some i
 | _=>none
noncomputable def Akp:Val->Option (List Val)
 | .tup i=>some i
 | _=>none
noncomputable def Afd(p:Int->Int->Bool)(a b:Val):Option Bool:=(Abw a).bind fun x=>(Abw b).map fun y=>p x y
noncomputable def Lq:Nat->Val->Val->Option Bool
 | 0,_,_=>none
 | n+1,a,b =>
  match a with
  | .int x=>(Abw b).map fun y=>decide (x < y)
  | .tup xs=>(Akp b).bind fun ys=>lts (Ga []) (Lq n) xs ys
  | _=>none
noncomputable def Ans(a b:Val):List Val->Option (Val × Val)
 | []=>some (a,b)
 | _ :: _=>none
noncomputable def Ant(a:Val):List Val->Option (Val × Val)
 | []=>none
 | b :: vs=>Ans a b vs
noncomputable def Ahu:Val->Option (Val × Val)
 | .tup vs=>(match vs with
  | []=>none
  | a :: vs=>Ant a vs)
 | _=>none
noncomputable def C1(v:Val):Option Key:=(Ahu v).bind fun p=>(Abw p.1).bind fun a=>(Abw p.2).map fun b=>(a,b)
noncomputable def Aa(k:Key):Val:=.tup [.int k.1,.int k.2]
noncomputable def C3(es:List (Key × Val))(k:Key):Option Val:=es.lookup k
noncomputable def E2:List (Key × Val)->Key->Val->List (Key × Val)
 | [],k,v=>[(k,v)]
 | (k',v') :: es,k,v=>if k'=k then (k',v) :: es else (k',v') :: E2 es k v
noncomputable def Tl:List (Key × Val)->Key->List (Key × Val)
 | [],_=>[]
 | (k',v') :: es,k=>if k'=k then es else (k',v') :: Tl es k
noncomputable def Nt(H:Hp)(x:Val)(ys:List Val):Option Bool :=
 match A0 H Ej x,I6 (A0 H Ej) ys with
 | some d,some ds=>some (ds.any fun y=>dE y d)
 | _,_=>none
noncomputable def Jx(H:Hp)(x:Val)(ys:List Val):Option Nat :=
 match A0 H Ej x,I6 (A0 H Ej) ys with
 | some d,some ds=>ds.findIdx? fun y=>dE y d
 | _,_=>none
noncomputable def small(a:Int):Bool:=decide (-(2 ^ 64) < a) && decide (a < 2 ^ 64)
noncomputable def Ae8(op:BOp)(a b:Val):M Val :=
 match op,a,b with
 | .add,.int x,.int y=>.ret (.int (x+y))
 | .sub,.int x,.int y=>.ret (.int (x - y))
 | .mul,.int x,.int y=>if (small x || small y)=true then .ret (.int (x * y)) else .bad
 | .fdiv,.int x,.int y=>if y=0\/1073741824<=y.natAbs then .bad else .ret (.int (cR x y))
 | .mod,.int x,.int y=>if y=0 then .bad else .ret (.int (dO x y))
 | .add,.str x,.str y=>if x.length+y.length<=lid then .ret (.str (x++y)) else .bad
 | _,_,_=>.bad
noncomputable def Tm(_neg:Bool):Option Bool->Option Bool
 | some b=>some (!b)
 | none=>none
noncomputable def isV(a b:Val):Option Bool :=
 match b with
 | .none=>some (match a with | .none=>true | _=>false)
 | _=>none
noncomputable def inV(a b:Val)(H:Hp):Option Bool :=
 match b with
 | .loc l =>
  match H[l]? with
  | some (.list ys)=>Nt H a ys
  | some (.dict es)=>match C1 a with
   | some k=>some (C3 es k).isSome
   | none=>none
  | _=>none
 | _=>none
noncomputable def Cu(op:COp)(a b:Val)(H:Hp):Option Bool :=
 match op with
 | .eq=>Ga H a b
 | .ne=>Tm true (Ga H a b)
 | .lt=>Lq Ej a b
 | .gt=>Afd (fun x y=>decide (x > y)) a b
 | .le=>Afd (fun x y=>decide (x<=y)) a b
 | .ge=>Afd (fun x y=>decide (x ≥ y)) a b
 | .is=>isV a b
 | .isNot=>Tm true (isV a b)
 | .isin=>inV a b H
 | .notin=>Tm true (inV a b H)
noncomputable def Dg(v:Val)(H:Hp):Option (List Val × Option Nat) :=
 match v with
 | .loc l =>
  match H[l]? with
  | some (.list xs)=>some (xs,some l)
  | _=>none
 | .tup xs=>some (xs,none)
 | .rng n=>some ((bT n.toNat).map (fun (k:Nat)=>.int (k:Int)),none)
 | _=>none
noncomputable def chk(src:Option Nat)(xs:List Val)(H:Hp):Bool :=
 match src with
 | none=>true
 | some l =>
  match H[l]? with
  | some (.list ys)=>Abv ys xs
  | _=>false
noncomputable def Cm(v:Val)(H:Hp):Option (List Val) :=
 match v with
 | .loc l =>
  match H[l]? with
  | some (.list xs)=>some xs
  | _=>none
 | .tup xs=>some xs
 | .script ns=>some (ns.map .int)
 | _=>none
noncomputable def C2(i:Int)(n:Nat):Option Nat :=
 if 0<=i then (if i < n then some i.toNat else none) else (if -(n:Int)<=i then some (i+n).toNat else none)
noncomputable def Dh(a i:Val):M Val:=.look fun H =>
 match a,i with
 | .loc l,i =>
  match H[l]?,i with
  | some (.list xs),.int k=>(C2 k xs.length).bind fun p=>xs[p]?
  | some (.dict es),i=>(C1 i).bind (C3 es)
  | _,_=>none
 | .tup xs,.int k=>if 0<=k then xs[k.toNat]? else none
 | .script ns,.int k=>(C2 k ns.length).bind fun p=>(ns[p]?).map .int
 | _,_=>none
noncomputable def Abx:Val->Bool
 | .tup _=>true
 | _=>false
noncomputable def Afe(lo hi:Val)(n:Nat):Option (Bool × Nat):=match lo with
 | .int k=>(match hi with
  | .none=>some (true,if 0<=k then k.toNat else n - k.natAbs)
  | _=>none)
 | .none=>(match hi with
  | .int k=>if 0<=k then some (false,k.toNat) else none
  | _=>none)
 | _=>none
noncomputable def cut{α:Type}(p:Bool × Nat)(xs:List α):List α:=match p.1 with
 | true=>xs.drop p.2
 | false=>xs.take p.2
noncomputable def Jm(a lo hi:Val):M Val:=fun H =>
 match Cm a H with
 | some xs=>(match Afe lo hi xs.length with
  | some p=>if Abx a=true then .bad else M.alloc (.list (cut p xs)) H
  | none=>.bad)
 | none=>.bad
structure Order(xs:List Val)(lt:Val->Val->Bool):Prop where
 is:∀ x∈xs,∀ y∈xs,Lq Ej x y=some (lt x y)
 asym:∀ x∈xs,∀ y∈xs,lt x y=true->lt y x=false
 tr:∀ x∈xs,∀ y∈xs,∀ z∈xs,lt y x=false->lt z y=false->lt z x=false
 anti:∀ x∈xs,∀ y∈xs,lt x y=false->lt y x=false->x=y
noncomputable def Jy(xs:List Val):Prop:=xs.length<=1000/\xs.Nodup/\(∀ x∈xs,∃ k:Key,x=Aa k)/\∃ lt,Order xs lt
noncomputable def Hw(xs ys:List Val):Prop:=ys.Perm xs/\ys.Pairwise fun a b=>Lq Ej b a=some false
open Classical in
noncomputable def E6(xs:List Val):Option (List Val):=if h:Jy xs/\∃ ys,Hw xs ys then some (choose h.2) else none
theorem Pc(O:Order xs lt):∀ (ys zs:List Val),(∀ y∈ys,y∈xs)->ys.Perm zs->(ys.Pairwise fun a b=>Lq Ej b a=some false)->(zs.Pairwise fun a b=>Lq Ej b a=some false)->ys=zs:=by
 intro ys;induction ys with
 | nil=>exact fun zs _ p _ _=>(List.nil_perm.mp p).symm
 | cons y ys ih =>
  intro zs hs p sy sz;cases zs with
  | nil=>exact nomatch p.length_eq
  | cons z zs =>
   have hy:=pW.mp sy;have hz:=pW.mp sz;have my:y∈xs:=hs y (.head _);have mz:z∈xs:=hs z (p.mem_iff.mpr (.head _));have irr:∀ x∈xs,lt x x=false:=fun x hx=>by
    cases q:lt x x with
    | false=>rfl
    | true=>rw [O.asym x hx x hx q] at q;exact nomatch q
   have g:∀ a∈xs,∀ b∈xs,Lq Ej a b=some false->lt a b=false:=fun a ha b hb h=>by rw [O.is a ha b hb] at h;exact aO h
   have e:y=z:=by
    refine O.anti y my z mz ?_ ?_
    . have m2:y∈z :: zs:=p.mem_iff.mp (.head _);cases m2 with
      | head=>exact irr _ my
      | tail _ h=>exact g y my z mz (hz.1 y h)
    . have m1:z∈y :: ys:=p.mem_iff.mpr (.head _);cases m1 with
      | head=>exact irr _ mz
      | tail _ h=>exact g z mz y my (hy.1 z h)
   subst e;exact rwl (ih zs (fun x hx=>hs x (.tail _ hx)) (List.perm_cons y |>.mp p) hy.2 hz.2) rfl
theorem Nu(h:Jy xs)(s:Hw xs ys):E6 xs=some ys:=by have q:Jy xs/\∃ ys,Hw xs ys:=⟨h,ys,s⟩;unfold E6;refine rwl (dif_pos q) ?_;obtain ⟨lt,O⟩:=h.2.2.2;have c:=nZ q.2;exact rwl (Pc O _ ys (fun y hy=>c.1.mem_iff.mp hy) (c.1.trans s.1.symm) c.2 s.2) rfl
set_option tactic.hygienic true in
theorem Kb(h:E6 xs=some ys):Jy xs/\Hw xs ys:=by
 unfold E6 at h;split at h
 . rename_i q;cases h;exact ⟨q.1,nZ q.2⟩
 . cases h
noncomputable def Ec(l:Nat)(H:Hp):Option (List Val):=match H[l]? with
 | some (.list xs)=>some xs
 | some (.dict es)=>some (es.map fun p=>Aa p.1)
 | _=>none
noncomputable def dd:List Key->List Key
 | []=>[]
 | k :: ks=>if k∈ks then dd ks else k :: dd ks
noncomputable def Anu:Val->M Val
 | .bool b=>.ret (.int (if b=true then 1 else 0))
 | _=>.bad
noncomputable def bfV(f:BF)(args:List Val):M Val :=
 match f,args with
 | .len,[v]=>.look fun H =>
  match v with
  | v=>(Cm v H).map fun xs=>.int xs.length
 | .range,[.int n]=>if -1073741824<=n/\n<=1073741824 then .ret (.rng n) else .bad
 | .list,[v]=>fun H =>
  match v with
  | .loc _=>match Cm v H with
   | some xs=>M.alloc (.list xs) H
   | none=>.bad
  | _=>.bad
 | .sorted,[.loc l]=>fun H =>
  match (Ec l H).bind E6 with
  | some ys=>M.alloc (.list ys) H
  | none=>.bad
 | .max2,[.int a,.int b]=>.ret (.int (if b > a then b else a))
 | .int,[v]=>Anu v
 | _,_=>.bad
noncomputable def bmV(m:BM)(o:Val)(args:List Val):M Val:=fun H =>
 match o with
 | .str s =>
  match m,args with
  | _,_=>.bad
 | .loc l =>
  match H[l]? with
  | some (.list xs) =>
   match m,args with
   | .append,[v]=>if xs.length < lid then .ok .none (H.set l (.list (xs++[v]))) else .bad
   | .remove,[v]=>match Jx H v xs with
    | some j=>.ok .none (H.set l (.list (xs.eraseIdx j)))
    | none=>.bad
   | .pop,[]=>match xs.getLast? with
    | some v=>.ok v (H.set l (.list xs.dropLast))
    | none=>.bad
   | .clear,[]=>.ok .none (H.set l (.list []))
   | _,_=>.bad
  | some (.dict es) =>
   match m,args with
   | .get,[k]=>match C1 k with
    | some k=>.ok ((C3 es k).getD .none) H
    | none=>.bad
   | .get2,[k,d]=>match C1 k with
    | some k=>.ok ((C3 es k).getD d) H
    | none=>.bad
   | .dpop,[k]=>match C1 k with
    | some k=>match C3 es k with
     | some v=>.ok v (H.set l (.dict (Tl es k)))
     | none=>.bad
    | none=>.bad
   | _,_=>.bad
  | _=>.bad
 | _=>.bad
inductive Kd where
 | none | bool | int | str | tuple | list | dict
noncomputable def Ql(H:Hp):Val->Option Kd
 | .none=>some .none
 | .bool _=>some .bool
 | .int _=>some .int
 | .str _=>some .str
 | .tup _=>some .tuple
 | .script _=>some .list
 | .loc l =>
  match H[l]? with
  | some (.list _)=>some .list
  | some (.dict _)=>some .dict
  | _=>none
 | _=>none
noncomputable def Aac:Ty->Kd->Bool
 | .int,.int=>true
 | .int,.bool=>true
 | .bool,.bool=>true
 | .str,.str=>true
 | .tuple,.tuple=>true
 | .list,.list=>true
 | _,_=>false
noncomputable def Bp(T:Tab)(v:Val)(t:Ty):M Val:=.look fun H =>
 match t with
 | .cls _=>none
 | t=>(Ql H v).map fun k=>.bool (Aac t k)
noncomputable def Jt(v:Val)(n:Nat):M Val:=.look fun H =>
 match v with
 | .loc l =>
  match H[l]? with
  | some (.inst _ fs)=>fs.lookup n
  | _=>none
 | _=>none
noncomputable def Th:List (Nat × Val)->Nat->Val->List (Nat × Val)
 | [],n,v=>[(n,v)]
 | (m,u) :: r,n,v=>if m=n then (m,v) :: r else (m,u) :: Th r n v
theorem Nv:Th ((m,u) :: r) n v=if m=n then (m,v) :: r else (m,u) :: Th r n v:=rfl
noncomputable def Bv(o:Val)(n:Nat)(v:Val):M Unit:=fun H =>
 match o with
 | .loc l =>
  match H[l]? with
  | some (.inst c fs)=>.ok () (H.set l (.inst c (Th fs n v)))
  | _=>.bad
 | _=>.bad
noncomputable def Av(o i v:Val):M Unit:=fun H =>
 match o with
 | .loc l =>
  match H[l]? with
  | some (.list xs) =>
   match i with
   | .int k=>if 0<=k/\k < xs.length then .ok () (H.set l (.list (xs.set k.toNat v))) else .bad
   | _=>.bad
  | some (.dict es) =>
   match C1 i with
   | some k=>if es.length < lid then .ok () (H.set l (.dict (E2 es k v))) else .bad
   | none=>.bad
  | _=>.bad
 | _=>.bad
noncomputable def Qm:BM->String
 | .append=>"list"
 | .pop=>"list"
 | .dpop=>"dict"
 | .clear=>"list"
 | .remove=>"list"
 | .get=>"dict"
 | .get2=>"dict"
noncomputable def Kc(o:Val)(H:Hp):Option String :=
 match o with
 | .str _=>some "str"
 | .loc l =>
  match H[l]? with
  | some (.list _)=>some "list"
  | some (.dict _)=>some "dict"
  | _=>none
 | _=>none
noncomputable def Db(m:BM)(o:Val)(H:Hp):Option Unit:=if Kc o H=some (Qm m) then some () else none
noncomputable def Di:Val->M Bool
 | .bool b=>.ret b
 | _=>.bad
noncomputable abbrev Env':=List (Option Val)
noncomputable abbrev Funs:=Nat->List Val->M Val
noncomputable def Fm(chk:Hp->Bool)(step:Val->M (Option Val)):List Val->M (List Val)
 | []=>fun H=>if chk H=true then .ok [] H else .bad
 | x :: xs=>fun H=>if chk H=true then ((step x).bnd fun r=>(Fm chk step xs).bnd fun ys=>.ret (match r with | some y=>y :: ys | none=>ys)) H else .bad
noncomputable def Rv(T:Tab)(Φ:Funs)(c:Nat)(args:List Val):M Val :=
 match T.meth c 0 with
 | some k=>(M.alloc (.inst c [])).bnd fun o=>(Φ k (o :: args)).bnd fun r=>match r with
  | .none=>.ret o
  | _=>.bad
 | none=>.bad
noncomputable def C8(T:Tab)(o:Val)(m:Nat):M Nat:=.look fun H =>
 match o with
 | .loc l =>
  match H[l]? with
  | some (.inst c _)=>T.meth c m
  | _=>none
 | _=>none
mutual
noncomputable def Aj(T:Tab)(Φ:Funs):ME->Env'->M Val
 | .none,_=>.ret .none
 | .bool b,_=>.ret (.bool b)
 | .int i,_=>.ret (.int i)
 | .str s,_=>.ret (.str s)
 | .glob k,_=>.ofOpt T.globs[k]?
 | .var i,Γ=>.ofOpt (match Γ[i]? with | some (some v)=>some v | _=>none)
 | .bin op a b,Γ=>(Aj T Φ a Γ).bnd fun x=>(Aj T Φ b Γ).bnd fun y=>Ae8 op x y
 | .neg a,Γ=>(Aj T Φ a Γ).bnd fun x=>match x with
  | .int i=>.ret (.int (-i))
  | _=>.bad
 | .not a,Γ=>(Aj T Φ a Γ).bnd fun x=>(Di x).bnd fun b=>.ret (.bool (!b))
 | .and a b,Γ=>(Aj T Φ a Γ).bnd fun x=>(Di x).bnd fun t=>match t with
  | true=>Aj T Φ b Γ
  | false=>.ret (.bool false)
 | .or a b,Γ=>(Aj T Φ a Γ).bnd fun x=>(Di x).bnd fun t=>match t with
  | true=>.ret (.bool true)
  | false=>Aj T Φ b Γ
 | .cmp op a b,Γ=>(Aj T Φ a Γ).bnd fun x=>(Aj T Φ b Γ).bnd fun y=>(M.look (Cu op x y)).bnd fun r=>.ret (.bool r)
 | .cmp2 op1 op2 a b c,Γ=>(Aj T Φ a Γ).bnd fun x=>(Aj T Φ b Γ).bnd fun y=>(M.look (Cu op1 x y)).bnd fun r=>match r with
  | true=>(Aj T Φ c Γ).bnd fun z=>(M.look (Cu op2 y z)).bnd fun r=>.ret (.bool r)
  | false=>.ret (.bool false)
 | .sub a i,Γ=>(Aj T Φ a Γ).bnd fun x=>(Aj T Φ i Γ).bnd fun y=>Dh x y
 | .slice a lo hi,Γ=>(Aj T Φ a Γ).bnd fun x=>(evalO T Φ lo Γ).bnd fun l=>(evalO T Φ hi Γ).bnd fun h=>Jm x l h
 | .tup es,Γ=>(evalEs T Φ es Γ).bnd fun vs=>.ret (.tup vs)
 | .list es,Γ=>(evalEs T Φ es Γ).bnd fun vs=>M.alloc (.list vs)
 | .dict,_=>M.alloc (.dict [])
 | .attr a n,Γ=>(Aj T Φ a Γ).bnd fun x=>Jt x n
 | .call f es,Γ=>(evalEs T Φ es Γ).bnd fun vs=>Φ f vs
 | .new c es,Γ=>match T.meth c 0 with
  | some _=>(evalEs T Φ es Γ).bnd fun vs=>Rv T Φ c vs
  | none=>M.bad
 | .umeth a m es,Γ=>(Aj T Φ a Γ).bnd fun o=>(C8 T o m).bnd fun k=>(evalEs T Φ es Γ).bnd fun vs=>Φ k (o :: vs)
 | .bf f es,Γ=>(evalEs T Φ es Γ).bnd fun vs=>bfV f vs
 | .bm a m es,Γ=>(Aj T Φ a Γ).bnd fun o=>(M.look (Db m o)).bnd fun _=>(evalEs T Φ es Γ).bnd fun vs=>bmV m o vs
 | .isinst a t,Γ=>(Aj T Φ a Γ).bnd fun x=>Bp T x t
 | .comp elt it cond,Γ=>(Aj T Φ it Γ).bnd fun v=>(M.look (Dg v)).bnd fun p =>
  (M.quiet (Fm (chk p.2 p.1) (fun x=>(evalC T Φ cond (Γ++[some x])).bnd fun b=>match b with
   | true=>(Aj T Φ elt (Γ++[some x])).bnd fun y=>.ret (some y)
   | false=>.ret none) p.1)).bnd fun ys=>if ys.length < lid then M.alloc (.list ys) else .bad
noncomputable def evalO(T:Tab)(Φ:Funs):MEo->Env'->M Val
 | .none,_=>.ret .none
 | .some e,Γ=>Aj T Φ e Γ
noncomputable def evalC(T:Tab)(Φ:Funs):MEo->Env'->M Bool
 | .none,_=>.ret true
 | .some e,Γ=>(Aj T Φ e Γ).bnd Di
noncomputable def evalEs(T:Tab)(Φ:Funs):MEs->Env'->M (List Val)
 | .nil,_=>.ret []
 | .cons e es,Γ=>(Aj T Φ e Γ).bnd fun v=>(evalEs T Φ es Γ).bnd fun vs=>.ret (v :: vs)
end
inductive ResS where
 | next (Γ:Env') (H:Hp)
 | ret (v:Val) (H:Hp)
 | exc (c:Nat) (Γ:Env') (H:Hp)
 | bad
noncomputable def Gw{α:Type}(m:M α)(Γ:Env')(f:α->Hp->ResS)(H:Hp):ResS :=
 match m H with
 | .ok a H'=>f a H'
 | .exc c H'=>.exc c Γ H'
 | .bad=>.bad
noncomputable def Nw(r:ResS)(f:Env'->Hp->ResS):ResS :=
 match r with
 | .next Γ H=>f Γ H
 | .ret v H=>.ret v H
 | .exc c Γ H=>.exc c Γ H
 | .bad=>.bad
noncomputable def Fn(chk:Hp->Bool)(bind:Val->Env'->Option Env')(body:Env'->Hp->ResS):List Val->Env'->Hp->ResS
 | [],Γ,H=>if chk H=true then .next Γ H else .bad
 | x :: xs,Γ,H=>if chk H=true then (match bind x Γ with
  | some Γ'=>Nw (body Γ' H) (Fn chk bind body xs)
  | none=>.bad) else .bad
noncomputable def Jn(cond:Env'->M Bool)(body:Env'->Hp->ResS):Nat->Env'->Hp->ResS
 | 0,_,_=>.bad
 | n+1,Γ,H =>
  match cond Γ H with
  | .ok true H' =>
   match body Γ H' with
   | .next Γ' H''=>Jn cond body n Γ' H''
   | .ret v H''=>.ret v H''
   | _=>.bad
  | .ok false H'=>.next Γ H'
  | _=>.bad
theorem Nx{chk:Hp->Bool}{bind:Val->Env'->Option Env'}:Fn chk bind body [] Γ H=if chk H=true then .next Γ H else .bad:=rfl
theorem L4{chk:Hp->Bool}{bind:Val->Env'->Option Env'}:Fn chk bind body (x :: xs) Γ H=if chk H=true then (match bind x Γ with
 | some Γ'=>Nw (body Γ' H) (Fn chk bind body xs)
 | none=>.bad) else .bad:=rfl
theorem Ke{cond:Env'->M Bool}:Jn cond body (n+1) Γ H=(match cond Γ H with
 | .ok true H' =>
  match body Γ H' with
  | .next Γ' H''=>Jn cond body n Γ' H''
  | .ret v H''=>.ret v H''
  | _=>.bad
 | .ok false H'=>.next Γ H'
 | _=>.bad):=rfl
noncomputable def Pd:Nat:=2 ^ 40
noncomputable def Gb:Nat->List Val->List Val
 | _,[]=>[]
 | n,a :: as=>.tup [.int n,a] :: Gb (n+1) as
noncomputable def Tn(i:Nat)(v:Val)(Γ:Env'):Option Env':=some (Γ.set i (some v))
noncomputable def To(i j:Nat)(v:Val)(Γ:Env'):Option Env':=(Ahu v).map fun p=>(Γ.set i (some p.1)).set j (some p.2)
noncomputable def G9(v:Val)(H:Hp):Option (List Val × Nat) :=
 match v with
 | .loc l =>
  match H[l]? with
  | some (.list xs)=>some (xs,l)
  | _=>none
 | _=>none
mutual
noncomputable def D7(T:Tab)(Φ:Funs):MS->Env'->Hp->ResS
 | .expr e,Γ,H=>Gw (Aj T Φ e Γ) Γ (fun _ H=>.next Γ H) H
 | .assign i e,Γ,H=>Gw (Aj T Φ e Γ) Γ (fun v H=>.next (Γ.set i (some v)) H) H
 | .setattr o n e,Γ,H=>Gw (Aj T Φ e Γ) Γ (fun v=>Gw (Aj T Φ o Γ) Γ fun o=>Gw (Bv o n v) Γ fun _ H=>.next Γ H) H
 | .setitem o i e,Γ,H=>Gw (Aj T Φ e Γ) Γ (fun v=>Gw (Aj T Φ o Γ) Γ fun o=>Gw (Aj T Φ i Γ) Γ fun i=>Gw (Av o i v) Γ fun _ H=>.next Γ H) H
 | .ret e,Γ,H=>Gw (evalO T Φ e Γ) Γ (fun v H=>.ret v H) H
 | .ite c t f,Γ,H=>Gw ((Aj T Φ c Γ).bnd Di) Γ (fun b=>match b with
  | true=>execSs T Φ t Γ
  | false=>execSs T Φ f Γ) H
 | .loop c body,Γ,H=>Jn (fun Γ=>(Aj T Φ c Γ).bnd Di) (execSs T Φ body) Pd Γ H
 | .each i it body,Γ,H=>Gw (Aj T Φ it Γ) Γ (fun v=>Gw (M.look (Dg v)) Γ fun p=>Fn (chk p.2 p.1) (Tn i) (execSs T Φ body) p.1 Γ) H
 | .eachPair i j it body,Γ,H=>Gw (Aj T Φ it Γ) Γ (fun v=>Gw (M.look (G9 v)) Γ fun p=>Fn (chk (some p.2) p.1) (To i j) (execSs T Φ body) p.1 Γ) H
 | .eachEnum i j a body,Γ,H=>Gw (Aj T Φ a Γ) Γ (fun v=>Gw (M.look (G9 v)) Γ fun p=>Fn (chk (some p.2) p.1) (To i j) (execSs T Φ body) (Gb 0 p.1) Γ) H
 | .raise c _,Γ,H=>if T.isExc c=true then .exc c Γ H else .bad
 | .tryx body d,Γ,H =>
  match execSs T Φ body Γ H with
  | .exc c _ H'=>if (decide (c=d) && T.isExc c)=true then .ret .none H' else .bad
  | r=>r
noncomputable def execSs(T:Tab)(Φ:Funs):MSs->Env'->Hp->ResS
 | .nil,Γ,H=>.next Γ H
 | .cons s ss,Γ,H=>Nw (D7 T Φ s Γ H) (execSs T Φ ss)
end
noncomputable def Aby:ResS->Res Val
 | .next _ H'=>.ok .none H'
 | .ret v H'=>.ok v H'
 | .exc c _ H'=>.exc c H'
 | .bad=>.bad
noncomputable def Ahv(T:Tab)(Φ:Funs)(f:MFun)(args:List Val):M Val:=fun H =>
 if args.length=f.arity then Aby (execSs T Φ f.body (args.map some++eA f.nvars none) H) else .bad
noncomputable def Ag(T:Tab):Nat->Funs
 | 0,_,_=>.bad
 | d+1,k,args =>
  match T.funs[k]? with
  | none=>.bad
  | some f=>Ahv T (Ag T d) f args
theorem Rx:Ag T (d+1) k args=(match T.funs[k]? with
 | none=>.bad
 | some f=>Ahv T (Ag T d) f args):=rfl
theorem Abz(k):Aj T Φ (.glob k) Γ=(.ofOpt T.globs[k]?):=rfl
theorem Aff(i):Aj T Φ (.var i) Γ=(.ofOpt (match Γ[i]? with | some (some v)=>some v | _=>none)):=rfl
theorem Afg(a):Aj T Φ (.not a) Γ=((Aj T Φ a Γ).bnd fun x=>(Di x).bnd fun b=>.ret (.bool (!b))):=rfl
theorem Afh(a b):Aj T Φ (.and a b) Γ=((Aj T Φ a Γ).bnd fun x=>(Di x).bnd fun t=>match t with
 | true=>Aj T Φ b Γ
 | false=>.ret (.bool false)):=rfl
theorem Aib(a b):Aj T Φ (.or a b) Γ=((Aj T Φ a Γ).bnd fun x=>(Di x).bnd fun t=>match t with
 | true=>.ret (.bool true)
 | false=>Aj T Φ b Γ):=rfl
theorem Afi(op a b):Aj T Φ (.cmp op a b) Γ=((Aj T Φ a Γ).bnd fun x=>(Aj T Φ b Γ).bnd fun y=>(M.look (Cu op x y)).bnd fun r=>.ret (.bool r)):=rfl
theorem Tp(op1 op2 a b c):Aj T Φ (.cmp2 op1 op2 a b c) Γ=((Aj T Φ a Γ).bnd fun x=>(Aj T Φ b Γ).bnd fun y=>(M.look (Cu op1 x y)).bnd fun r=>match r with
 | true=>(Aj T Φ c Γ).bnd fun z=>(M.look (Cu op2 y z)).bnd fun r=>.ret (.bool r)
 | false=>.ret (.bool false)):=rfl
theorem Ms(f es):Aj T Φ (.call f es) Γ=((evalEs T Φ es Γ).bnd fun vs=>Φ f vs):=rfl
theorem Qn(c es):Aj T Φ (.new c es) Γ=(match T.meth c 0 with
 | some _=>(evalEs T Φ es Γ).bnd fun vs=>Rv T Φ c vs
 | none=>M.bad):=rfl
theorem Jz(a m es):Aj T Φ (.umeth a m es) Γ=((Aj T Φ a Γ).bnd fun o=>(C8 T o m).bnd fun k=>(evalEs T Φ es Γ).bnd fun vs=>Φ k (o :: vs)):=rfl
theorem Xk(f es):Aj T Φ (.bf f es) Γ=((evalEs T Φ es Γ).bnd fun vs=>bfV f vs):=rfl
theorem Xl(a m es):Aj T Φ (.bm a m es) Γ=((Aj T Φ a Γ).bnd fun o=>(M.look (Db m o)).bnd fun _=>(evalEs T Φ es Γ).bnd fun vs=>bmV m o vs):=rfl
theorem Hx(a t):Aj T Φ (.isinst a t) Γ=((Aj T Φ a Γ).bnd fun x=>Bp T x t):=rfl
theorem Tq(i e):D7 T Φ (.assign i e) Γ H=(Gw (Aj T Φ e Γ) Γ (fun v H=>.next (Γ.set i (some v)) H) H):=rfl
theorem Ab0(c body):D7 T Φ (.loop c body) Γ H=(Jn (fun Γ=>(Aj T Φ c Γ).bnd Di) (execSs T Φ body) Pd Γ H):=rfl
theorem Xm(c m):D7 T Φ (.raise c m) Γ H=(if T.isExc c=true then .exc c Γ H else .bad):=rfl
theorem Xn(e es):evalEs T Φ (.cons e es) Γ=((Aj T Φ e Γ).bnd fun v=>(evalEs T Φ es Γ).bnd fun vs=>.ret (v :: vs)):=rfl
end
end Mine.Internal
namespace Mine.Internal
open PySem
theorem Kf(h:Abw v=some i):v=.int i:=by
 cases v with
 | int j=>exact congrArg _ (aO h)
 | _=>exact Af h
theorem Tr(h:Ahu v=some p):v=.tup [p.1,p.2]:=by
 cases v with
 | tup vs =>
  cases vs with
  | nil=>exact Af h
  | cons x vs =>
   cases vs with
   | nil=>exact Af h
   | cons y vs =>
    cases vs with
    | nil=>exact aO h▸rfl
    | cons _ _=>exact Af h
 | _=>exact Af h
theorem Ab1(h:Akp v=some i):v=.tup i:=by
 cases v with
 | tup j=>exact congrArg _ (aO h)
 | _=>exact Af h
theorem Aad(h:C1 a=some k):a=.tup [.int k.1,.int k.2]:=by refine ex1 (dC.mp h) fun p zz=>Ad zz fun e h=>?_;refine ex1 (dC.mp h) fun x zz=>Ad zz fun e1 h=>?_;refine ex1 (bY.mp h) fun y zz=>Ad zz fun e2 h=>?_;have q:Val.tup [p.1,p.2]=.tup [.int x,.int y]:=Kf e1▸Kf e2▸rfl;exact h▸(Tr e).trans q
theorem Ts{C:List jH->Prop}(h:I6 f (x :: xs)=some ds)(k:∀ d ds',f x=some d->I6 f xs=some ds'->C (d :: ds')):C ds:=by
 have h:(match f x,I6 f xs with
  | some d,some ds=>some (d :: ds)
  | _,_=>none)=some ds:=h
 cases e1:f x with
 | none=>rw [e1] at h;exact Af h
 | some d =>
  cases e2:I6 f xs with
  | none=>rw [e1,e2] at h;exact Af h
  | some ds'=>rw [e1,e2] at h;exact aO h▸k d ds' e1 e2
theorem Xo{C:Bool->Prop}(h:Ga H a b=some r)(k:∀ x y,A0 H Ej a=some x->A0 H Ej b=some y->C (dE x y)):C r:=by
 delta Ga at h;cases e1:A0 H Ej a with
 | none=>rw [e1] at h;exact Af h
 | some d =>
  cases e2:A0 H Ej b with
  | none=>rw [e1,e2] at h;exact Af h
  | some ds'=>rw [e1,e2] at h;exact aO h▸k d ds' e1 e2
theorem Afj{C:Bool->Prop}(h:Nt H x ys=some r)(k:∀ d ds,A0 H Ej x=some d->I6 (A0 H Ej) ys=some ds->C (ds.any fun y=>dE y d)):C r:=by
 delta Nt at h;cases e1:A0 H Ej x with
 | none=>rw [e1] at h;exact Af h
 | some d =>
  cases e2:I6 (A0 H Ej) ys with
  | none=>rw [e1,e2] at h;exact Af h
  | some ds'=>rw [e1,e2] at h;exact aO h▸k d ds' e1 e2
theorem Qo(h:lts e f (x :: xs) (y :: ys)=some r):(e x y=some true/\lts e f xs ys=some r)\/(e x y=some false/\f x y=some r):=by
 have h:(match e x y with
  | some true=>lts e f xs ys
  | some false=>f x y
  | none=>none)=some r:=h
 cases q:e x y with
 | none=>rw [q] at h;exact Af h
 | some b =>
  rw [q] at h;cases b with
  | true=>exact .inl ⟨rfl,h⟩
  | false=>exact .inr ⟨rfl,h⟩
theorem Aic{C:Val->Val->Bool->Prop}(h:Lq (n+1) a b=some r)(k1:∀ x y,C (.int x) (.int y) (decide (x < y)))(k2:∀ xs ys,lts (Ga []) (Lq n) xs ys=some r->C (.tup xs) (.tup ys) r):C a b r:=by
 cases a with
 | int x =>refine ex1 (bY.mp h) fun y zz=>Ad zz fun e h=>?_;exact Kf e▸h▸k1 x y
 | tup xs =>refine ex1 (dC.mp h) fun ys zz=>Ad zz fun e h=>?_;exact Ab1 e▸k2 xs ys h
 | _=>exact Af h
theorem Aid{C:Bool->Prop}(h:inV a (.loc l) H=some r)(k1:∀ ys,H[l]?=some (.list ys)->Nt H a ys=some r->C r)(k2:∀ es k,H[l]?=some (.dict es)->C1 a=some k->C (C3 es k).isSome):C r:=by
 delta inV at h;dsimp only at h;cases q:H[l]? with
 | none=>rw [q] at h;exact Af h
 | some o =>
  rw [q] at h;cases o with
  | list ys=>exact k1 ys q h
  | dict es =>
   dsimp only at h;cases q2:C1 a with
   | none=>rw [q2] at h;exact Af h
   | some k=>rw [q2] at h;exact aO h▸k2 es k q q2
  | _=>exact Af h
theorem Afk{C:Val->Val->Bool->Prop}(e:Afd p a b=some r)(k:∀ x y,C (.int x) (.int y) (p x y)):C a b r:=by refine ex1 (dC.mp e) fun x zz=>Ad zz fun e1 e=>?_;refine ex1 (bY.mp e) fun y zz=>Ad zz fun e2 e=>?_;exact Kf e1▸Kf e2▸e▸k x y
theorem Kg(h:Tm true o=some r):∃ r',o=some r'/\r=!r':=by
 cases o with
 | none=>exact Af h
 | some b=>exact ⟨b,rfl,(aO h).symm⟩
theorem Kh(h:Cm (.loc l) H=some xs):H[l]?=some (.list xs):=by
 delta Cm at h;dsimp only at h;cases q:H[l]? with
 | none=>rw [q] at h;exact Af h
 | some o =>
  rw [q] at h;cases o with
  | list ys=>cases h;rfl
  | _=>exact Af h
theorem Xp(h:Dg (.loc l) H=some (xs,src)):H[l]?=some (.list xs)/\src=some l:=by
 delta Dg at h;dsimp only at h;cases q:H[l]? with
 | none=>rw [q] at h;exact Af h
 | some o =>
  rw [q] at h;cases o with
  | list ys =>have h:=aO h;exact ⟨congrArg (fun p=>some (HObj.list p.1)) h,(congrArg Prod.snd h).symm⟩
  | _=>exact Af h
theorem Afl{C:List Val->Prop}(h:Ec l H=some xs)(k1:∀ ys,H[l]?=some (.list ys)->C ys)(k2:∀ es,H[l]?=some (.dict es)->C (es.map fun p=>Aa p.1)):C xs:=by
 delta Ec at h;cases q:H[l]? with
 | none=>rw [q] at h;exact Af h
 | some o =>
  rw [q] at h;cases o with
  | list ys=>exact aO h▸k1 ys q
  | dict es=>exact aO h▸k2 es q
  | _=>exact Af h
theorem Qp(h:chk (some l) xs H=true):H[l]?=some (.list xs):=by
 delta chk at h;dsimp only at h;cases q:H[l]? with
 | none=>rw [q] at h;exact C0 h
 | some o =>
  rw [q] at h;cases o with
  | list ys=>exact congrArg (fun x=>some (HObj.list x)) (Xj _ _ h)
  | _=>exact C0 h
theorem Afm(h:H[l]?=some (.list xs)):chk (some l) xs H=true:=by delta chk;dsimp only;refine rwl h ?_;exact Ru xs
theorem Aie{C:Kd->Prop}(h:Ql H (.loc l)=some k)(k1:∀ xs,H[l]?=some (.list xs)->C .list)(k2:∀ xs,H[l]?=some (.dict xs)->C .dict):C k:=by
 delta Ql at h;dsimp only at h;cases q:H[l]? with
 | none=>rw [q] at h;exact Af h
 | some o =>
  rw [q] at h;cases o with
  | list ys=>exact aO h▸k1 ys q
  | dict ys=>exact aO h▸k2 ys q
  | _=>exact Af h
theorem Aif(h:H[l]?=some (.list xs)):Ql H (.loc l)=some .list:=by delta Ql;dsimp only;exact rwl h rfl
theorem Tt(h:H[l]?=some (.list xs)):G9 (.loc l) H=some (xs,l):=by delta G9;dsimp only;exact rwl h rfl
theorem Gc(h:H[l]?=some (.list xs)):Kc (.loc l) H=some "list":=by delta Kc;dsimp only;exact rwl h rfl
theorem Hy(h:H[l]?=some (.dict xs)):Kc (.loc l) H=some "dict":=by delta Kc;dsimp only;exact rwl h rfl
theorem Ab2{C:String->Prop}(h:Kc (.loc l) H=some k)(k1:∀ xs,H[l]?=some (.list xs)->C "list")(k2:∀ xs,H[l]?=some (.dict xs)->C "dict"):C k:=by
 delta Kc at h;dsimp only at h;cases q:H[l]? with
 | none=>rw [q] at h;exact Af h
 | some o =>
  rw [q] at h;cases o with
  | list ys=>exact aO h▸k1 ys q
  | dict ys=>exact aO h▸k2 ys q
  | _=>exact Af h
theorem Xq(h:H[l]?=some (.list xs)):Cm (.loc l) H=some xs:=by delta Cm;dsimp only;exact rwl h rfl
theorem Tu(h:H[l]?=some (.list xs)):Dg (.loc l) H=some (xs,some l):=by delta Dg;dsimp only;exact rwl h rfl
noncomputable def Ha:List (Str × Value):=[("len",.builtin "len"),("range",.type "range"),("isinstance",.builtin "isinstance"),("list",.type "list"),("tuple",.type "tuple"),("int",.type "int"),("bool",.type "bool"),("str",.type "str"),
 ("zip",.type "zip"),("enumerate",.type "enumerate"),("sorted",.builtin "sorted"),("min",.builtin "min"),("max",.builtin "max"),("abs",.builtin "abs"),("set",.type "set")]
structure Names where
 funs:List (Str × Nat)
 clss:List (Str × Nat)
 globs:List (Str × Nat)
 attrs:List (Str × Nat)
 meths:List (Str × Nat)
noncomputable def B6(sc:Scope)(x:Str):Bool:=decide (sc.names.lookup x=some .globalImplicit) && !(x == ("__debug__":Str))
noncomputable def Xr(sc:Scope)(ns:List (Option Str))(i:Nat)(x:Str):Bool :=
 (decide (sc.names.lookup x=some .local) || (decide (sc.names.lookup x=some .cell) || decide (sc.names.lookup x=some .free))) && (decide (ns[i]?=some (some x)) && (!(x == ("__debug__":Str)) && !(x == ("__classdict__":Str))))
noncomputable def E7(sc:Scope)(ns:List (Option Str))(i:Nat)(x:Str):Bool :=
 (decide (sc.names.lookup x=some .local) || decide (sc.names.lookup x=some .cell)) && decide (ns[i]?=some (some x))
noncomputable def Ek(l:List (Str × Nat))(x:Str)(k:Nat):Bool:=decide (l.lookup x=some k)
noncomputable def bOp:BOp->Operator
 | .add=>.Add
 | .sub=>.Sub
 | .mul=>.Mult
 | .fdiv=>.FloorDiv
 | .mod=>.Mod
noncomputable def Ahw(b:BOp)(o:Operator):Bool:=decide (bOp b=o)
noncomputable def Ju:COp->CmpOp
 | .eq=>.Eq
 | .ne=>.NotEq
 | .lt=>.Lt
 | .le=>.LtE
 | .gt=>.Gt
 | .ge=>.GtE
 | .is=>.Is
 | .isNot=>.IsNot
 | .isin=>.In
 | .notin=>.NotIn
noncomputable def C5:Expr->Bool
 | .Call (.Name x _) _ _ _=>!(x == ("super":Str))
 | _=>true
noncomputable def Ei:Expr->Bool
 | .Set ..=>false
 | _=>true
noncomputable def Hb:BF->Str × Nat
 | .len=>("len",1)
 | .range=>("range",1)
 | .list=>("list",1)
 | .sorted=>("sorted",1)
 | .max2=>("max",2)
 | .int=>("int",1)
noncomputable def Hz:BM->Str × Nat
 | .append=>("append",1)
 | .pop=>("pop",0)
 | .dpop=>("pop",1)
 | .clear=>("clear",0)
 | .remove=>("remove",1)
 | .get=>("get",1)
 | .get2=>("get",2)
noncomputable def Ny:Ty->Str
 | .int=>"int"
 | .bool=>"bool"
 | .str=>"str"
 | .tuple=>"tuple"
 | .list=>"list"
 | .cls _=>""
noncomputable def Ew(csc:Scope)(ns:List (Option Str)):List (Option Str):=ns.map fun o=>o.bind fun y=>if csc.names.lookup y=some .free then some y else none
noncomputable def Ki(sc csc:Scope)(x:Str):Bool :=
 decide (csc.kind=.function) && ((decide (csc.names.lookup x=some .local) || decide (csc.names.lookup x=some .cell)) &&
 csc.names.all fun p=>decide (csc.names.lookup p.1=some p.2) && (!decide (p.2=.free) || (decide (sc.names.lookup p.1=some .cell) || decide (sc.names.lookup p.1=some .free))))
noncomputable def Nz(e:Expr):Option { p:Const × Nat × Pos // e=.Constant p.1 p.2.1 p.2.2 }:=match e with
 | .Constant c k pos=>some ⟨(c,k,pos),rfl⟩
 | _=>none
noncomputable def Mt(e:Expr):Option { p:Str × Pos // e=.Name p.1 p.2 }:=match e with
 | .Name x pos=>some ⟨(x,pos),rfl⟩
 | _=>none
noncomputable def Anv(e:Expr):Option { p:Expr × Operator × Expr × Pos // e=.BinOp p.1 p.2.1 p.2.2.1 p.2.2.2 }:=match e with
 | .BinOp l o r pos=>some ⟨(l,o,r,pos),rfl⟩
 | _=>none
noncomputable def dUn(e:Expr):Option { p:UnaryOp × Expr × Pos // e=.UnaryOp p.1 p.2.1 p.2.2 }:=match e with
 | .UnaryOp o x pos=>some ⟨(o,x,pos),rfl⟩
 | _=>none
noncomputable def Afn(e:Expr):Option { p:BoolOp × List Expr × Pos // e=.BoolOp p.1 p.2.1 p.2.2 }:=match e with
 | .BoolOp o xs pos=>some ⟨(o,xs,pos),rfl⟩
 | _=>none
noncomputable def Akq(e:Expr):Option { p:Expr × List CmpOp × List Expr × Pos // e=.Compare p.1 p.2.1 p.2.2.1 p.2.2.2 }:=match e with
 | .Compare l os rs pos=>some ⟨(l,os,rs,pos),rfl⟩
 | _=>none
noncomputable def Aig(e:Expr):Option { p:Expr × Expr × Pos // e=.Subscript p.1 p.2.1 p.2.2 }:=match e with
 | .Subscript v s pos=>some ⟨(v,s,pos),rfl⟩
 | _=>none
noncomputable def Afo(e:Expr):Option { p:Option Expr × Option Expr × Option Expr × Pos // e=.Slice p.1 p.2.1 p.2.2.1 p.2.2.2 }:=match e with
 | .Slice l u t pos=>some ⟨(l,u,t,pos),rfl⟩
 | _=>none
noncomputable def Akr(e:Expr):Option { p:List Expr × Nat × Pos // e=.Tuple p.1 p.2.1 p.2.2 }:=match e with
 | .Tuple xs k pos=>some ⟨(xs,k,pos),rfl⟩
 | _=>none
noncomputable def Aih(e:Expr):Option { p:List Expr × Pos // e=.List p.1 p.2 }:=match e with
 | .List xs pos=>some ⟨(xs,pos),rfl⟩
 | _=>none
noncomputable def Aii(e:Expr):Option { p:List (Option Expr) × List Expr × Pos // e=.Dict p.1 p.2.1 p.2.2 }:=match e with
 | .Dict ks vs pos=>some ⟨(ks,vs,pos),rfl⟩
 | _=>none
noncomputable def Ab3(e:Expr):Option { p:Expr × Str × Pos // e=.Attribute p.1 p.2.1 p.2.2 }:=match e with
 | .Attribute v y pos=>some ⟨(v,y,pos),rfl⟩
 | _=>none
noncomputable def Afp(e:Expr):Option { p:Expr × List Expr × List sG × Pos // e=.Call p.1 p.2.1 p.2.2.1 p.2.2.2 }:=match e with
 | .Call f xs ks pos=>some ⟨(f,xs,ks,pos),rfl⟩
 | _=>none
noncomputable def Aij(e:Expr):Option { p:Expr × List Comprehension × Scope × Pos // e=.ListComp p.1 p.2.1 p.2.2.1 p.2.2.2 }:=match e with
 | .ListComp el gs csc pos=>some ⟨(el,gs,csc,pos),rfl⟩
 | _=>none
noncomputable def Aik(c:Const):Option { _p:Unit // c=.none }:=match c with
 | .none=>some ⟨(),rfl⟩
 | _=>none
noncomputable def Ail(c:Const):Option { b:Bool // c=.bool b }:=match c with
 | .bool b=>some ⟨b,rfl⟩
 | _=>none
noncomputable def Anw(c:Const):Option { b:Int // c=.int b }:=match c with
 | .int b=>some ⟨b,rfl⟩
 | _=>none
noncomputable def Aks(c:Const):Option { b:Str // c=.str b }:=match c with
 | .str b=>some ⟨b,rfl⟩
 | _=>none
noncomputable def Afq(o:UnaryOp):Option { _p:Unit // o=.USub }:=match o with
 | .USub=>some ⟨(),rfl⟩
 | _=>none
noncomputable def Ab4(o:UnaryOp):Option { _p:Unit // o=.Not }:=match o with
 | .Not=>some ⟨(),rfl⟩
 | _=>none
noncomputable def Aim(o:BoolOp):Option { _p:Unit // o=.And }:=match o with
 | .And=>some ⟨(),rfl⟩
 | _=>none
noncomputable def Anx(o:BoolOp):Option { _p:Unit // o=.Or }:=match o with
 | .Or=>some ⟨(),rfl⟩
 | _=>none
noncomputable def one{α:Type}(xs:List α):Option { x:α // xs=[x] }:=match xs with
 | [x]=>some ⟨x,rfl⟩
 | _=>none
noncomputable def two{α:Type}(xs:List α):Option { p:α × α // xs=[p.1,p.2] }:=match xs with
 | [x,y]=>some ⟨(x,y),rfl⟩
 | _=>none
noncomputable def more(xs:List Expr):Option { p:Expr × Expr × List Expr // xs=p.1 :: p.2.1 :: p.2.2 }:=match xs with
 | x :: y :: r=>some ⟨(x,y,r),rfl⟩
 | _=>none
noncomputable def Ahx{α:Type}(xs:List α):Option { _p:Unit // xs=[] }:=match xs with
 | []=>some ⟨(),rfl⟩
 | _ :: _=>none
noncomputable def Afr{α:Type}(o:Option α):Option { _p:Unit // o=none }:=match o with
 | none=>some ⟨(),rfl⟩
 | some _=>none
noncomputable def N0(e:Expr):Option { p:Str × Pos × List Expr × Pos // e=.Call (.Name p.1 p.2.1) p.2.2.1 [] p.2.2.2 }:=match Afp e with
 | some ⟨(f,xs,ks,pos),h⟩=>(match Ahx ks,Mt f with
  | some ⟨_,hk⟩,some ⟨(x,np),hn⟩=>some ⟨(x,np,xs,pos),h.trans (by dsimp only at hk hn ⊢;exact rwl hk (rwl hn rfl))⟩
  | _,_=>none)
 | none=>none
noncomputable def Aae(e:Expr):Option { p:Expr × Str × Pos × List Expr × Pos // e=.Call (.Attribute p.1 p.2.1 p.2.2.1) p.2.2.2.1 [] p.2.2.2.2/\(p.2.2.1.endLine == p.2.2.2.2.line)=true }:=match Afp e with
 | some ⟨(f,xs,ks,pos),h⟩=>(match Ahx ks,Ab3 f with
  | some ⟨_,hk⟩,some ⟨(o,y,apos),hn⟩=>if hl:(apos.endLine == pos.line)=true then some ⟨(o,y,apos,xs,pos),h.trans (by dsimp only at hk hn ⊢;exact rwl hk (rwl hn rfl)),hl⟩ else none
  | _,_=>none)
 | none=>none
noncomputable def Any(gs:List Comprehension):Option { p:Str × Pos × Expr × List Expr // gs=[⟨.Name p.1 p.2.1,p.2.2.1,p.2.2.2,0⟩] }:=match one gs with
 | some ⟨⟨t,i,ifs,as⟩,h⟩=>(match Mt t with
  | some ⟨(x,px),hn⟩=>if ha:as=0 then some ⟨(x,px,i,ifs),h.trans (by dsimp only at hn ⊢;exact rwl hn (rwl ha rfl))⟩ else none
  | none=>none)
 | none=>none
noncomputable def Akt(N:Names)(y:Str):Ty->Bool
 | .cls _=>false
 | t=>decide (Ny t=y)
noncomputable def Bm{α:Type}(o:Option α)(f:α->Bool):Bool:=match o with
 | some a=>f a
 | none=>false
theorem Ac{α:Type}{o:Option α}{f:α->Bool}(h:Bm o f=true):∃ a,f a=true:=by
 cases o with
 | none=>exact C0 h
 | some a=>exact ⟨a,h⟩
theorem Aaf{P:Prop}{o:Option { _p:Unit // P }}(h:o.isSome=true):P:=by
 cases o with
 | none=>exact C0 h
 | some a=>exact a.2
theorem an1(h:(a && b)=true):a=true:=by
 cases a with
 | true=>rfl
 | false=>exact C0 h
theorem an2(h:(a && b)=true):b=true:=by
 cases a with
 | true=>exact h
 | false=>exact C0 h
theorem Tv{p q:Prop}[Decidable p][Decidable q](h:(decide p || decide q)=true):p\/q:=((eJ _ _).mp h).imp of_decide_eq_true of_decide_eq_true
theorem not_not(h:(!b)=true):b=false:=(iB b).mp h
mutual
noncomputable def ck(N:Names)(sc:Scope)(ns:List (Option Str))(m:ME)(e:Expr):Bool :=
 match m with
 | .none=>(Bm (Nz e) fun p1=>(Aik p1.1.1).isSome)
 | .bool b=>(Bm (Nz e) fun p1=>(Bm (Ail p1.1.1) fun p2=>b == p2.1))
 | .int i=>(Bm (Nz e) fun p1=>(Bm (Anw p1.1.1) fun p2=>decide (i=p2.1)))
 | .str s=>(Bm (Nz e) fun p1=>(Bm (Aks p1.1.1) fun p2=>decide (s=p2.1) && decide (s.length<=1000)))
 | .glob k=>(Bm (Mt e) fun p1=>B6 sc p1.1.1 && Ek N.globs p1.1.1 k)
 | .var i=>(Bm (Mt e) fun p1=>Xr sc ns i p1.1.1)
 | .bin op a b=>(Bm (Anv e) fun p1=>Ahw op p1.1.2.1 && ck N sc ns a p1.1.1 && ck N sc ns b p1.1.2.2.1)
 | .neg a=>(Bm (dUn e) fun p1=>(Afq p1.1.1).isSome && ck N sc ns a p1.1.2.1)
 | .not a=>(Bm (dUn e) fun p1=>(Ab4 p1.1.1).isSome && ck N sc ns a p1.1.2.1)
 | .and a b=>(Bm (Afn e) fun p1=>(Aim p1.1.1).isSome && (Bm (more p1.1.2.1) fun p2=>ck N sc ns a p2.1.1 && (match p2.1.2.2 with
  | []=>ck N sc ns b p2.1.2.1
  | _ :: _=>ck N sc ns b (.BoolOp .And (p2.1.2.1 :: p2.1.2.2) p1.1.2.2))))
 | .or a b=>(Bm (Afn e) fun p1=>(Anx p1.1.1).isSome && (Bm (more p1.1.2.1) fun p2=>ck N sc ns a p2.1.1 && (match p2.1.2.2 with
  | []=>ck N sc ns b p2.1.2.1
  | _ :: _=>ck N sc ns b (.BoolOp .Or (p2.1.2.1 :: p2.1.2.2) p1.1.2.2))))
 | .cmp op a b=>(Bm (Akq e) fun p1=>decide (p1.1.2.1=[Ju op]) && (Bm (one p1.1.2.2.1) fun p2=>ck N sc ns a p1.1.1 && ck N sc ns b p2.1 && Ei p2.1))
 | .cmp2 op1 op2 a b c=>(Bm (Akq e) fun p1=>decide (p1.1.2.1=[Ju op1,Ju op2]) && (Bm (two p1.1.2.2.1) fun p2=>ck N sc ns a p1.1.1 && ck N sc ns b p2.1.1 && ck N sc ns c p2.1.2 && Ei p2.1.2))
 | .sub a i=>(Bm (Aig e) fun p1=>ck N sc ns a p1.1.1 && ck N sc ns i p1.1.2.1)
 | .slice a lo hi=>(Bm (Aig e) fun p1=>(Bm (Afo p1.1.2.1) fun p2=>ck N sc ns a p1.1.1 && ckO N sc ns lo p2.1.1 && ckO N sc ns hi p2.1.2.1 && (Afr p2.1.2.2.1).isSome))
 | .tup es=>(Bm (Akr e) fun p1=>ckEs N sc ns es p1.1.1 && decide (p1.1.1.length<=1000))
 | .list es=>(Bm (Aih e) fun p1=>ckEs N sc ns es p1.1.1 && decide (p1.1.1.length<=1000))
 | .dict=>(Bm (Aii e) fun p1=>p1.1.1.isEmpty && p1.1.2.1.isEmpty)
 | .attr a n=>(Bm (Ab3 e) fun p1=>ck N sc ns a p1.1.1 && Ek N.attrs p1.1.2.1 n && C5 p1.1.1)
 | .call f es=>(Bm (N0 e) fun p1=>B6 sc p1.1.1 && Ek N.funs p1.1.1 f && ckEs N sc ns es p1.1.2.2.1 && decide (p1.1.2.2.1.length<=20))
 | .new c es=>(Bm (N0 e) fun p1=>B6 sc p1.1.1 && Ek N.clss p1.1.1 c && ckEs N sc ns es p1.1.2.2.1 && decide (p1.1.2.2.1.length<=20))
 | .umeth a m es=>(Bm (Aae e) fun p1=>ck N sc ns a p1.1.1 && Ek N.meths p1.1.2.1 m && ckEs N sc ns es p1.1.2.2.2.1 && decide (p1.1.2.2.2.1.length<=20) && C5 p1.1.1)
 | .bf f es=>(Bm (N0 e) fun p1=>B6 sc p1.1.1 && decide ((Hb f).1=p1.1.1) && decide ((Hb f).2=p1.1.2.2.1.length) && ckEs N sc ns es p1.1.2.2.1)
 | .bm a m es=>(Bm (Aae e) fun p1=>ck N sc ns a p1.1.1 && decide ((Hz m).1=p1.1.2.1) && decide ((Hz m).2=p1.1.2.2.2.1.length) && ckEs N sc ns es p1.1.2.2.2.1 && C5 p1.1.1)
 | .isinst a t=>(Bm (N0 e) fun p1=>(Bm (two p1.1.2.2.1) fun p2=>(Bm (Mt p2.1.2) fun p3=>B6 sc p1.1.1 && decide (p1.1.1=("isinstance":Str)) && B6 sc p3.1.1 && ck N sc ns a p2.1.1 && Akt N p3.1.1 t)))
 | .comp elt it cond=>(Bm (Aij e) fun p1=>(Bm (Any p1.1.2.1) fun p2=>ck N sc ns it p2.1.2.2.1 && Ei p2.1.2.2.1 && Ki sc p1.1.2.2.1 p2.1.1 && ck N p1.1.2.2.1 (Ew p1.1.2.2.1 ns++[some p2.1.1]) elt p1.1.1 && ckC N p1.1.2.2.1 (Ew p1.1.2.2.1 ns++[some p2.1.1]) cond p2.1.2.2.2))
noncomputable def ckO(N:Names)(sc:Scope)(ns:List (Option Str)):MEo->Option Expr->Bool
 | .none,none=>true
 | .some e,some x=>ck N sc ns e x
 | _,_=>false
noncomputable def ckC(N:Names)(sc:Scope)(ns:List (Option Str)):MEo->List Expr->Bool
 | .none,[]=>true
 | .some e,[x]=>ck N sc ns e x
 | _,_=>false
noncomputable def ckEs(N:Names)(sc:Scope)(ns:List (Option Str)):MEs->List Expr->Bool
 | .nil,[]=>true
 | .cons e es,x :: xs=>ck N sc ns e x && ckEs N sc ns es xs
 | _,_=>false
end
noncomputable def Afs(st:Stmt):Option { p:Expr × Pos // st=.Expr p.1 p.2 }:=match st with
 | .Expr x pos=>some ⟨(x,pos),rfl⟩
 | _=>none
noncomputable def Ain(st:Stmt):Option { p:Expr × Expr × Pos // st=.Assign [p.1] p.2.1 p.2.2 }:=match st with
 | .Assign ts x pos=>(match one ts with
  | some ⟨t,h⟩=>some ⟨(t,x,pos),by dsimp only;exact rwl h rfl⟩
  | none=>none)
 | _=>none
noncomputable def Aft(st:Stmt):Option { p:Str × Pos × Expr × Pos // st=.Assign [.Name p.1 p.2.1] p.2.2.1 p.2.2.2 }:=match Ain st with
 | some ⟨(t,x,pos),h⟩=>(match Mt t with
  | some ⟨(y,py),hn⟩=>some ⟨(y,py,x,pos),h.trans (by dsimp only at hn ⊢;exact rwl hn rfl)⟩
  | none=>none)
 | none=>none
noncomputable def Afu(st:Stmt):Option { p:Expr × Str × Pos × Expr × Pos // st=.Assign [.Attribute p.1 p.2.1 p.2.2.1] p.2.2.2.1 p.2.2.2.2 }:=match Ain st with
 | some ⟨(t,x,pos),h⟩=>(match Ab3 t with
  | some ⟨(o,y,py),hn⟩=>some ⟨(o,y,py,x,pos),h.trans (by dsimp only at hn ⊢;exact rwl hn rfl)⟩
  | none=>none)
 | none=>none
noncomputable def Afv(st:Stmt):Option { p:Expr × Expr × Pos × Expr × Pos // st=.Assign [.Subscript p.1 p.2.1 p.2.2.1] p.2.2.2.1 p.2.2.2.2 }:=match Ain st with
 | some ⟨(t,x,pos),h⟩=>(match Aig t with
  | some ⟨(o,y,py),hn⟩=>some ⟨(o,y,py,x,pos),h.trans (by dsimp only at hn ⊢;exact rwl hn rfl)⟩
  | none=>none)
 | none=>none
noncomputable def Aio(st:Stmt):Option { p:Option Expr × Pos // st=.Return p.1 p.2 }:=match st with
 | .Return x pos=>some ⟨(x,pos),rfl⟩
 | _=>none
noncomputable def Anz(st:Stmt):Option { p:Expr × List Stmt × List Stmt × Pos // st=.If p.1 p.2.1 p.2.2.1 p.2.2.2 }:=match st with
 | .If x ts fs pos=>some ⟨(x,ts,fs,pos),rfl⟩
 | _=>none
noncomputable def Ab5(st:Stmt):Option { p:Expr × List Stmt × Pos // st=.While p.1 p.2.1 [] p.2.2 }:=match st with
 | .While x ts fs pos=>(match Ahx fs with
  | some ⟨_,h⟩=>some ⟨(x,ts,pos),by dsimp only;exact rwl h rfl⟩
  | none=>none)
 | _=>none
noncomputable def Aku(st:Stmt):Option { p:Expr × Expr × List Stmt × Pos // st=.For p.1 p.2.1 p.2.2.1 [] p.2.2.2 }:=match st with
 | .For t x ts fs pos=>(match Ahx fs with
  | some ⟨_,h⟩=>some ⟨(t,x,ts,pos),by dsimp only;exact rwl h rfl⟩
  | none=>none)
 | _=>none
noncomputable def Afw(st:Stmt):Option { p:Str × Pos × Expr × List Stmt × Pos // st=.For (.Name p.1 p.2.1) p.2.2.1 p.2.2.2.1 [] p.2.2.2.2 }:=match Aku st with
 | some ⟨(t,x,ts,pos),h⟩=>(match Mt t with
  | some ⟨(y,py),hn⟩=>some ⟨(y,py,x,ts,pos),h.trans (by dsimp only at hn ⊢;exact rwl hn rfl)⟩
  | none=>none)
 | none=>none
noncomputable def Aip(t:Expr):Option { p:Str × Pos × Str × Pos × Nat × Pos // t=.Tuple [.Name p.1 p.2.1,.Name p.2.2.1 p.2.2.2.1] p.2.2.2.2.1 p.2.2.2.2.2 }:=match Akr t with
 | some ⟨(xs,k,pt),h⟩=>(match two xs with
  | some ⟨(a,b),h2⟩=>(match Mt a,Mt b with
   | some ⟨(y,py),h3⟩,some ⟨(z,pz),h4⟩=>some ⟨(y,py,z,pz,k,pt),h.trans (by dsimp only at h2 h3 h4 ⊢;exact rwl h2 (rwl h3 (rwl h4 rfl)))⟩
   | _,_=>none)
  | none=>none)
 | none=>none
noncomputable def Aag(st:Stmt):Option { p:(Str × Pos × Str × Pos × Nat × Pos) × Expr × List Stmt × Pos // st=.For (.Tuple [.Name p.1.1 p.1.2.1,.Name p.1.2.2.1 p.1.2.2.2.1] p.1.2.2.2.2.1 p.1.2.2.2.2.2) p.2.1 p.2.2.1 [] p.2.2.2 }:=match Aku st with
 | some ⟨(t,x,ts,pos),h⟩=>(match Aip t with
  | some ⟨q,hn⟩=>some ⟨(q,x,ts,pos),h.trans (by dsimp only;exact rwl hn rfl)⟩
  | none=>none)
 | none=>none
noncomputable def Tw(e:Expr):Option { p:Str × Pos × Expr × Pos // e=.Call (.Name p.1 p.2.1) [p.2.2.1] [] p.2.2.2 }:=match N0 e with
 | some ⟨(f,fp,xs,cp),h⟩=>(match one xs with
  | some ⟨x,h2⟩=>some ⟨(f,fp,x,cp),h.trans (by dsimp only;exact rwl h2 rfl)⟩
  | none=>none)
 | none=>none
noncomputable def Ab6(st:Stmt):Option { p:Str × Pos × Str × Nat × Pos × Pos × Pos // st=.Raise (some (.Call (.Name p.1 p.2.1) [.Constant (.str p.2.2.1) p.2.2.2.1 p.2.2.2.2.1] [] p.2.2.2.2.2.1)) none p.2.2.2.2.2.2 }:=match st with
 | .Raise (some e) o pos=>(match Afr o,Tw e with
  | some ⟨_,h1⟩,some ⟨(f,fp,x,cp),h2⟩=>(match Nz x with
   | some ⟨(c,k,mp),h3⟩=>(match Aks c with
    | some ⟨m,h4⟩=>some ⟨(f,fp,m,k,mp,cp,pos),by dsimp only at h2 h3 ⊢;exact rwl h1 (rwl h2 (rwl h3 (rwl h4 rfl)))⟩
    | none=>none)
   | none=>none)
  | _,_=>none)
 | _=>none
noncomputable def Aiq(st:Stmt):Option { p:List Stmt × Str × Pos × Pos × Pos × Pos // st=.Try p.1 [.ExceptHandler (some (.Name p.2.1 p.2.2.1)) none [.Return none p.2.2.2.1] p.2.2.2.2.1] [] [] p.2.2.2.2.2 }:=match st with
 | .Try ts [.ExceptHandler (some (.Name x xp)) none [.Return none rp] hp] [] [] pos=>some ⟨(ts,x,xp,rp,hp,pos),rfl⟩
 | _=>none
noncomputable def Tx:ME->Bool
 | .comp ..=>false
 | _=>true
mutual
noncomputable def ckS(N:Names)(sc:Scope)(ns:List (Option Str))(m:MS)(st:Stmt):Bool :=
 match m with
 | .expr e=>(Bm (Afs st) fun p1=>ck N sc ns e p1.1.1 && Tx e)
 | .assign i e=>(Bm (Aft st) fun p1=>E7 sc ns i p1.1.1 && ck N sc ns e p1.1.2.2.1)
 | .setattr o n e=>(Bm (Afu st) fun p1=>ck N sc ns e p1.1.2.2.2.1 && ck N sc ns o p1.1.1 && Ek N.attrs p1.1.2.1 n)
 | .setitem o i e=>(Bm (Afv st) fun p1=>ck N sc ns e p1.1.2.2.2.1 && ck N sc ns o p1.1.1 && ck N sc ns i p1.1.2.1)
 | .ret e=>(Bm (Aio st) fun p1=>ckO N sc ns e p1.1.1)
 | .ite c t f=>(Bm (Anz st) fun p1=>ck N sc ns c p1.1.1 && ckSs N sc ns t p1.1.2.1 && ckSs N sc ns f p1.1.2.2.1)
 | .loop c b=>(Bm (Ab5 st) fun p1=>ck N sc ns c p1.1.1 && ckSs N sc ns b p1.1.2.1)
 | .each i it b=>(Bm (Afw st) fun p1=>E7 sc ns i p1.1.1 && ck N sc ns it p1.1.2.2.1 && Ei p1.1.2.2.1 && ckSs N sc ns b p1.1.2.2.2.1)
 | .eachPair i j it b=>(Bm (Aag st) fun p1=>E7 sc ns i p1.1.1.1 && E7 sc ns j p1.1.1.2.2.1 && ck N sc ns it p1.1.2.1 && Ei p1.1.2.1 && ckSs N sc ns b p1.1.2.2.1)
 | .eachEnum i j a body=>(Bm (Aag st) fun p1=>E7 sc ns i p1.1.1.1 && E7 sc ns j p1.1.1.2.2.1 && ckSs N sc ns body p1.1.2.2.1 && (Bm (Tw p1.1.2.1) fun p2=>B6 sc p2.1.1 && decide (p2.1.1=("enumerate":Str)) && ck N sc ns a p2.1.2.2.1))
 | .raise c msg=>(Bm (Ab6 st) fun p1=>B6 sc p1.1.1 && Ek N.clss p1.1.1 c && decide (p1.1.2.2.1=msg) && ckEs N sc ns (.cons (.str msg) .nil) [.Constant (.str p1.1.2.2.1) p1.1.2.2.2.1 p1.1.2.2.2.2.1])
 | .tryx b d=>(Bm (Aiq st) fun p1=>ckSs N sc ns b p1.1.1 && (B6 sc p1.1.2.1 && Ek N.clss p1.1.2.1 d))
noncomputable def ckSs(N:Names)(sc:Scope)(ns:List (Option Str)):MSs->List Stmt->Bool
 | .nil,[]=>true
 | .cons s ss,x :: xs=>ckS N sc ns s x && ckSs N sc ns ss xs
 | _,_=>false
end
noncomputable def Kj:List (Option Str)->Bool
 | []=>true
 | none :: r=>Kj r
 | some x :: r=>!(r.contains (some x)) && Kj r
noncomputable def ckF(N:Names)(f:MFun)(ns:List Str)(params:Arguments)(body:List Stmt)(sc:Scope):Bool :=
 decide (f.arity+f.nvars=ns.length) && (decide (ns.take f.arity=params.args.map (·.arg)) && (params.posonlyargs.isEmpty && (params.vararg.isNone && (params.kwonlyargs.isEmpty && (params.kwarg.isNone &&
 (Kj (ns.map some) && (!sc.isCoroutine && (!sc.isGenerator && (decide (sc.kind=.function) && (ckSs N sc (ns.map some) f.body body &&
 ((sc.names.all fun p=>decide (sc.names.lookup p.1=some p.2) && !decide (p.2=.free)) &&
 (ns.take f.arity).all fun y=>decide (sc.names.lookup y=some .local) || decide (sc.names.lookup y=some .cell))))))))))))
end Mine.Internal
namespace Mine.Internal
open PySem PySem.W.X PySem.W PySem.Spec PySem.Calls PyProof.Rows
structure Cx where
 prog:sB
 w:World
 T:Tab
 s₀:bD
 cls:List Value
 attrs:List Str
 fns:List Addr
noncomputable def Cx.h₀(cx:Cx):Heap:=cx.s₀.heap
noncomputable def B4(vs:List Value)(n:Nat):Obj:={ cls:=.type "list",dict:=none,data:=.seq vs.toArray n,slots:=#[] }
structure Room(A:fI)(d:Nat):Prop where
 hh:A.handled=none
 depth:A.depth+5 * d+150 < recursionLimit
 units:A.units+20 * d+100 < cLine
noncomputable def Air:List Value:=[.type "ValueError",.type "Exception",.type "BaseException",.type "object"]
noncomputable def Gd(a b:Value):Bool:=decide (a=b)
noncomputable def Afx:Value->Option Int
 | .int b _=>some b
 | _=>none
noncomputable def Ab7:Value->Option Str
 | .str b _=>some b
 | _=>none
noncomputable def Afy(v:Val)(w:Value):Bool:=match v with
 | .int a=>decide (Afx w=some a)
 | .str a=>decide (Ab7 w=some a) && decide (a.length<=1000)
 | _=>false
noncomputable def Ahy(v:Value):Option { a:Addr // v=.ref a }:=match v with
 | .ref a=>some ⟨a,rfl⟩
 | _=>none
noncomputable def dVS(v:Value):Option { p:Str × Tok // v=.str p.1 p.2 }:=match v with
 | .str a b=>some ⟨(a,b),rfl⟩
 | _=>none
noncomputable def An0(d:Data):Option { p:Array Value // d=.fields p }:=match d with
 | .fields p=>some ⟨p,rfl⟩
 | _=>none
noncomputable def Akv(d:Data):Option { p:FuncData // d=.func p }:=match d with
 | .func p=>some ⟨p,rfl⟩
 | _=>none
noncomputable def Ais(d:Data):Option { p:ClassData // d=.cls p }:=match d with
 | .cls p=>some ⟨p,rfl⟩
 | _=>none
noncomputable def Ait(d:Data):Option { p:Array jJ × Nat // d=.dict p.1 p.2 }:=match d with
 | .dict p q=>some ⟨(p,q),rfl⟩
 | _=>none
noncomputable def An1(d:FuncBody):Option { p:List Stmt // d=.stmts p }:=match d with
 | .stmts p=>some ⟨p,rfl⟩
 | _=>none
noncomputable def Aah(t:Addr->Option Obj)(c:Value)(q:Str):Bool :=
 Bm (Ahy c) fun a=>Bm (t a.1) fun o=>Bm (An0 o.data) fun vs=>Bm (vs.1[1]?:Option Value) fun x=>Bm (dVS x) fun y=>decide (y.1.1=q)
noncomputable def Aiu(N:Names)(t:Addr->Option Obj)(a:Nat)(f:MFun)(ns:List Str):Bool :=
 Bm (t a) fun o=>Bm (Akv o.data) fun p=>Bm (An1 p.1.body) fun body=>ckF N f ns p.1.params body.1 p.1.scope && (p.1.closure.isEmpty && (Nat.beq p.1.globals mainGlobals && (Nat.beq p.1.builtins builtinsNs && (Gd p.1.defaults .none && (Gd p.1.kwdefaults .none && (Aah t p.1.code p.1.qualname && Gd o.cls (.type "function")))))))
noncomputable def Ab8(N:Names)(t:Addr->Option Obj):List Addr->List MFun->List (List Str)->Bool
 | [],[],[]=>true
 | a :: as,f :: fs,ns :: nss=>Aiu N t a f ns && Ab8 N t as fs nss
 | _,_,_=>false
noncomputable def Aiv(es:Array jJ)(N:Names)(T:Tab)(cls:List Value)(fns:List Addr):Bool :=
 (N.funs.all fun p=>Bm fns[p.2]? fun a=>Bm (nsFind es p.1) fun v=>Gd (.ref a) v) &&
 ((N.globs.all fun p=>Bm T.globs[p.2]? fun m=>Bm (nsFind es p.1) fun v=>Afy m v) &&
 ((N.clss.all fun p=>Bm cls[p.2]? fun c=>(Bm (nsFind es p.1) fun v=>Gd c v) || ((nsFind es p.1).isNone && Bm (bootBuiltins p.1) fun v=>Gd c v && !decide (p.1=("__name__":Str)))) &&
 (Ha.all fun p=>(nsFind es p.1).isNone && (!decide (p.1=("__name__":Str)) && Bm (bootBuiltins p.1) fun v=>Gd p.2 v))))
noncomputable def Aiw(t:Addr->Option Obj)(a:Nat):Bool:=Bm (t a) fun o=>Gd o.cls (.type "function") && (Akv o.data).isSome
noncomputable def Qq(v:Value):Bool:=(dVS v).isSome
noncomputable def Ab9(o:Option Value):Bool:=Bm o fun v=>Gd v (.builtin "object.__new__")
noncomputable def Afz(y:Str):Bool:=Bm (fastLookup "object" y) fun r=>r.isNone
noncomputable def Tz(y:Str):Bool:=(fastLookup "object" y).isSome
noncomputable def Aix(t:Addr->Option Obj)(N:Names)(T:Tab)(attrs:List Str)(fns:List Addr)(c:Nat)(es:Array jJ):Bool :=
 (es.toList.all fun e=>Qq e.key) && ((nsFind es "__getattribute__").isNone && ((nsFind es "__getattr__").isNone && ((nsFind es "__setattr__").isNone &&
 ((attrs.all fun y=>(nsFind es y).isNone && Afz y) &&
 (N.meths.all fun p=>(T.meth c p.2).isNone || Bm (T.meth c p.2) fun k=>Bm fns[k]? fun fa=>Bm (nsFind es p.1) fun v=>Gd (.ref fa) v && (Aiw t fa && (!(attrs.contains p.1) && Tz p.1)))))))
noncomputable def T0(l:List (Option Value)):Option { p:Option Value × Option Value × Option Value × Option Value × Option Value × Option Value // l=[p.1,p.2.1,p.2.2.1,p.2.2.2.1,p.2.2.2.2.1,p.2.2.2.2.2] }:=match l with
 | [a,b,c,d,e,f]=>some ⟨(a,b,c,d,e,f),rfl⟩
 | _=>none
noncomputable def Aca(t:Addr->Option Obj)(N:Names)(T:Tab)(attrs:List Str)(fns:List Addr)(c:Nat)(v:Value):Bool :=
 Bm (Ahy v) fun C=>Bm (t C.1) fun o=>Bm (Ais o.data) fun p=>Gd o.cls (.type "type") && (decide (p.1.mro=[.ref C.1,.type "object"]) && (p.1.hasDict && (!p.1.abstract && (!p.1.hasDel && ((Bm (T0 o.slots.toList) fun q=>Ab9 q.1.2.2.2.2.1) && Bm (t p.1.ns) fun on=>Bm (Ait on.data) fun es=>Aix t N T attrs fns c es.1.1)))))
noncomputable def L6(t:Addr->Option Obj)(N:Names)(T:Tab)(attrs:List Str)(fns:List Addr):Nat->List Value->Bool
 | _,[]=>true
 | c,v :: vs=>((T.meth c 0).isNone || Aca t N T attrs fns c v) && L6 t N T attrs fns (c+1) vs
noncomputable def Mu(N:Names)(attrs:List Str):Bool :=
 (N.attrs.all fun p=>Bm attrs[p.2]? fun y=>decide (y=p.1)) && (Kj (attrs.map some) && (decide (attrs.length<=1000) && Ek N.meths "__init__" 0))
noncomputable def T3(t:Addr->Option Obj)(N:Names)(T:Tab)(cls:List Value)(fns:List Addr)(nss:List (List Str)):Bool :=
 (Bm (t mainGlobals) fun o=>Bm (Ait o.data) fun es=>Aiv es.1.1 N T cls fns) && Ab8 N t fns T.funs nss
noncomputable def Has(h:Heap)(t:Addr->Option Obj):Prop:=∀ a o,t a=some o->h.get? a=some o
noncomputable def Mv(t:Addr->Option Obj)(a:Addr):Bool:=Bm (t a) fun on=>Bm (Ait on.data) fun es=>(es.1.1.toList.all fun e=>Qq e.key) && (nsFind es.1.1 "__init__").isNone
noncomputable def Af0(t:Addr->Option Obj)(v:Value):Bool:=Bm (Ahy v) fun a=>Bm (t a.1) fun o=>Bm (Ais o.data) fun p=>Mv t p.1.ns
noncomputable def T4(t:Addr->Option Obj):List Value->Bool
 | []=>false
 | v :: vs=>decide (v :: vs=Air) || (Af0 t v && T4 t vs)
noncomputable def Af1(o:Option Value):Bool:=Bm o fun v=>Gd v (.builtin "ValueError.__new__")
noncomputable def Af2(t:Addr->Option Obj)(v:Value):Bool :=
 Bm (Ahy v) fun C=>Bm (t C.1) fun o=>Bm (Ais o.data) fun p=>Gd o.cls (.type "type") && (decide (p.1.mro=.ref C.1 :: p.1.mro.tail) && (!p.1.hasDel && ((Bm (T0 o.slots.toList) fun q=>Af1 q.1.2.2.2.2.1) && (Mv t p.1.ns && T4 t p.1.mro.tail))))
noncomputable def Qr(t:Addr->Option Obj)(T:Tab)(cls:List Value):Bool:=Bm (cls[T.exc]?) (Af2 t)
noncomputable def Ry(cx:Cx)(N:Names):Prop:=∀ (t:Addr->Option Obj) (nss:List (List Str)) (k d:Nat) {mg mb:Str->Option Value} {ns:List Int} {vs:List Value} {fa a:Addr} {Q:Value->bD->Prop} {E:Value->bD->Prop},
 Has cx.h₀ t->cx.h₀.Ns mainGlobals mg->cx.h₀.Ns builtinsNs mb->(∀ x:Str,x≠"__name__"->mb x=bootBuiltins x)->cx.h₀.NoLimit->T3 t N cx.T cx.cls cx.fns nss=true->L6 t N cx.T cx.attrs cx.fns 0 cx.cls=true->Mu N cx.attrs=true->Qr t cx.T cx.cls=true->(t sysModules).isSome=true ->
 cx.h₀.get? a=some (B4 vs 0)->nC vs ns->ns.length<=63->mg "law"=some (.ref fa)->N.funs.lookup ("law":Str)=some k->Room callerA d->(∃ H',Ag cx.T d k [.script ns] []=.ok (.bool true) H') ->
 (∀ s',(∀ b o,cx.h₀.get? b=some o->s'.heap.get? b=some o)->s'.os=cx.s₀.os->s'.gens=cx.s₀.gens->Q (.bool true) s')->wpAny (model cx.prog cx.w) callerA (call (.ref fa) [.ref a]) Q E cx.s₀
theorem Pe:Nonempty (Cx × Names)->∃ p:Cx × Names,(∃ c:Cx × Names,¬Ry c.1 c.2)->¬Ry p.1 p.2:=fun ⟨x⟩=>by
 by_cases h:∃ c:Cx × Names,¬Ry c.1 c.2
 . obtain ⟨c,hc⟩:=h;exact ⟨c,fun _=>hc⟩
 . exact ⟨x,fun x=>absurd x h⟩
theorem inh:Nonempty (Cx × Names):=⟨(⟨dM,⟨fun _ _=>0,{ strHash:=fun _=>0,shareClass:=fun _=>0,mergeTok:=id,idOf:=fun _=>0,idOfShared:=fun _ _=>0,followText:=fun _=>false,idOfImm:=fun _=>0 }⟩,⟨[],[],0,[]⟩,{},[],[],[]⟩,⟨[],[],[],[],[]⟩)⟩
noncomputable def cx:Cx:=(Pe inh).choose.1
noncomputable def N:Names:=(Pe inh).choose.2
theorem fin_all(h:Ry cx N)(c:Cx)(n:Names):Ry c n:=jK fun k=>(Pe inh).choose_spec ⟨(c,n),k⟩ h
end Mine.Internal
namespace Mine.Internal
open PySem
noncomputable abbrev Rho:=List (Addr × Addr)
noncomputable def Ay(ρ:Rho)(a:Addr):Prop:=∃ p∈ρ,a=p.1\/a=p.2
noncomputable def Kk(ρ:Rho)(h:Heap)(ρ':Rho):Prop:=∃ e,ρ'=ρ++e/\∀ p∈e,h.get? p.1=none/\h.get? p.2=none
noncomputable def F5(h h':Heap):Prop:=∀ b o,h.get? b=some o->∃ o',h'.get? b=some o'
theorem F5.refl(h:Heap):F5 h h:=fun _ o e=>⟨o,e⟩
theorem F5.trans(x:F5 h h')(y:F5 h' h''):F5 h h'':=fun b o e=>let ⟨o',e'⟩:=x b o e;y b o' e'
theorem F5.none{h h':Heap}(x:F5 h h'){a:Addr}(e:h'.get? a=none):h.get? a=none:=by
 cases q:h.get? a with
 | none=>rfl
 | some o=>obtain ⟨o',e'⟩:=x a o q;rw [e] at e';exact Af e'
theorem Ar(h:Heap):h.get? h.objs.size=none:=by
 cases q:h.get? h.objs.size with
 | none=>rfl
 | some o=>exact absurd (gS q) (cA _)
theorem Gx{h:Heap}(z:h.objs.size<=a):h.get? a=none:=by
 cases q:h.get? a with
 | none=>rfl
 | some o=>exact absurd (gS q) (aW.mpr z)
noncomputable def Ep(o o':Obj):Prop:=o'=o\/((∃ es n,o.data=.dict es n)/\o'={ o with slots:=o'.slots })
theorem Ep.refl(o:Obj):Ep o o:=.inl rfl
theorem Ep.trans(x:Ep o o')(y:Ep o' o''):Ep o o'':=by
 rcases x with rfl | ⟨c,e⟩
 . exact y
 . rcases y with rfl | ⟨_,e'⟩
   . exact .inr ⟨c,e⟩
   . exact .inr ⟨c,by exact rwl e' (rwl e rfl)⟩
theorem Ep.exact(x:Ep o o')(n:∀ es n,o.data≠.dict es n):o'=o:=x.elim id fun ⟨⟨es,k,e⟩,_⟩=>absurd e (n es k)
theorem Ep.data(x:Ep o o'):o'.data=o.data:=by rcases x with rfl | ⟨_,e⟩;rfl;exact rwl e rfl
noncomputable def Aiy(ρ:Rho)(h h':Heap):Prop:=∀ b o,h.get? b=some o->¬Ay ρ b->∃ o',h'.get? b=some o'/\Ep o o'
theorem Aiy.exact(k:Aiy ρ h h')(e:h.get? b=some o)(n:¬Ay ρ b)(c:∀ es n,o.data≠.dict es n):h'.get? b=some o:=by refine ex1 (k b o e n) fun o' zz=>Ad zz fun e' u=>?_;exact rwl e' (rwl (u.exact c) rfl)
noncomputable def F7(o:Obj):Prop:=(o.cls=.type "tuple"/\∃ xs n,o.data=.seq xs n)\/(o.cls=.type "range"/\∃ vs,o.data=.fields vs)
noncomputable def Ds(o:Obj)(C:Addr):Prop:=o.cls=.ref C/\(∃ vs,o.data=.fields vs)/\o.dict=none
theorem F7.notDict(f:F7 o)(es:Array jJ)(n:Nat):o.data≠.dict es n:=by rcases f with ⟨_,xs,k,e⟩ | ⟨_,vs,e⟩ <;> (refine rwl e ?_) <;> exact fun q=>nomatch q
theorem Ds.notDict(f:Ds o C)(es:Array jJ)(n:Nat):o.data≠.dict es n:=by refine Ap f fun _ zn1 _=>?_;obtain ⟨vs,e⟩:=zn1;refine rwl e ?_;exact fun q=>nomatch q
theorem Kk.refl(ρ:Rho)(h:Heap):Kk ρ h ρ:=⟨[],by simp,by simp⟩
theorem Kk.owned(g:Kk ρ h ρ')(o:Ay ρ' a):Ay ρ a\/h.get? a=none:=by
 refine ex1 g fun e zz=>Ad zz fun zr1 he=>?_;subst zr1;refine ex1 o fun p zz=>Ad zz fun hp hpa=>?_;rcases bM.mp hp with hp | hp
 . exact .inl ⟨p,hp,hpa⟩
 . right;rcases hpa with rfl | rfl
   . exact (he p hp).1
   . exact (he p hp).2
theorem Kk.sub(g:Kk ρ h ρ')(o:Ay ρ a):Ay ρ' a:=by refine ex1 g fun e zz=>Ad zz fun zr1 he=>?_;subst zr1;refine ex1 o fun p zz=>Ad zz fun hp hpa=>?_;exact ⟨p,bM.mpr (.inl hp),hpa⟩
theorem Kk.get(g:Kk ρ h ρ'){l:Nat}(e:ρ[l]?=some p):ρ'[l]?=some p:=by refine ex1 g fun e' zz=>Ad zz fun zr1 he=>?_;subst zr1;obtain ⟨hl,_⟩:=aE.mp e;exact rwl (bB hl) (rwl e rfl)
theorem Kk.not(g:Kk ρ h ρ')(n:¬Ay ρ a)(e:h.get? a=some o):¬Ay ρ' a:=fun w=>by
 rcases g.owned w with w | w
 . exact n w
 . rw [e] at w;cases w
theorem Kk.trans(x:Kk ρ h ρ')(y:Kk ρ' h' ρ'')(z:F5 h h'):Kk ρ h ρ'':=by
 refine ex1 x fun e1 zz=>Ad zz fun zr1 h1=>?_;subst zr1;refine ex1 y fun e2 zz=>Ad zz fun zr1 h2=>?_;subst zr1;refine ⟨e1++e2,by rw [bJ],fun p hp=>?_⟩;rcases bM.mp hp with hp | hp
 . exact h1 p hp
 . exact ⟨z.none (h2 p hp).1,z.none (h2 p hp).2⟩
structure Step(ρ:Rho)(h:Heap)(ρ':Rho)(h':Heap):Prop where
 more:∃ e,ρ'=ρ++e
 keepT:∀ b o,h.get? b=some o->F7 o->¬Ay ρ b->h'.get? b=some o/\¬Ay ρ' b
 keepC:∀ b o C,h.get? b=some o->Ds o C->¬Ay ρ b->∃ o',h'.get? b=some o'/\Ds o' C/\¬Ay ρ' b
theorem Step.get(st:Step ρ h ρ' h'){l:Nat}(e:ρ[l]?=some p):ρ'[l]?=some p:=by obtain ⟨e',hr0⟩:=st.more;refine rwl hr0 ?_;obtain ⟨hl,_⟩:=aE.mp e;exact rwl (bB hl) (rwl e rfl)
structure Full(ρ:Rho)(h:Heap)(ρ':Rho)(h':Heap):Prop where
 grow:Kk ρ h ρ'
 keep:Aiy ρ h h'
 live:F5 h h'
theorem Full.step(x:Full ρ h ρ' h'):Step ρ h ρ' h' :=
 ⟨let ⟨e,h1,_⟩:=x.grow;⟨e,h1⟩,fun b o e f n=>⟨x.keep.exact e n f.notDict,x.grow.not n e⟩,fun b o C e c n=>⟨o,x.keep.exact e n c.notDict,c,x.grow.not n e⟩⟩
theorem Full.refl(ρ:Rho)(h:Heap):Full ρ h ρ h:=⟨Kk.refl ρ h,fun _ o e _=>⟨o,e,.refl o⟩,.refl h⟩
theorem Step.refl(ρ:Rho)(h:Heap):Step ρ h ρ h:=(Full.refl ρ h).step
theorem Full.trans(x:Full ρ h ρ' h')(y:Full ρ' h' ρ'' h''):Full ρ h ρ'' h'' :=
 ⟨x.grow.trans y.grow x.live,fun b o e n=>by
  refine ex1 (x.keep b o e n) fun o' zz=>Ad zz fun e' u=>?_
  refine ex1 (y.keep b o' e' (x.grow.not n e)) fun o'' zz=>Ad zz fun e'' u'=>?_
  exact ⟨o'',e'',u.trans u'⟩,x.live.trans y.live⟩
theorem Full.more(k:∀ b o,h.get? b=some o->h'.get? b=some o):Full ρ h ρ h' :=
 ⟨Kk.refl ρ h,fun b o e _=>⟨o,k b o e,.refl o⟩,fun b o e=>⟨o,k b o e⟩⟩
theorem Full.push(ρ:Rho)(h:Heap)(o:Obj):Full ρ h ρ (h.push o):=Full.more fun _ _ e=>bR _ e
theorem Full.alloc(k:∀ b o,h.get? b=some o->h'.get? b=some o)(hp:h.get? p.1=none/\h.get? p.2=none):Full ρ h (ρ++[p]) h' :=
 ⟨⟨[p],rfl,fun q hq=>by refine rwl (aT.mp hq) ?_;exact hp⟩,fun b o e _=>⟨o,k b o e,.refl o⟩,fun b o e=>⟨o,k b o e⟩⟩
theorem Step.ext(e:h.get? a=some o)(hs:lH a h h')(n1:¬F7 o)(n2:∀ C,¬Ds o C):Step ρ h ρ h' :=
 ⟨⟨[],by simp⟩,fun b ob eb f no=>⟨hs b ob (fun q=>by subst q;rw [e] at eb;cases eb;exact n1 f) eb,no⟩,
  fun b ob C eb c no=>⟨ob,hs b ob (fun q=>by subst q;rw [e] at eb;cases eb;exact n2 C c) eb,c,no⟩⟩
theorem SameBut.live(hs:eU a h h')(e':h'.get? a=some o'):F5 h h':=fun b o e=>by
 by_cases q:b=a
 . refine rwl q ?_;exact ⟨o',e'⟩
 . exact ⟨o,by refine rwl (hs.2 b q) ?_;exact e⟩
theorem Step.but(e':h'.get? a=some o')(e:h.get? a=some o)(hs:eU a h h')(n1:¬F7 o)(n2:∀ C,¬Ds o C):Step ρ h ρ h' :=
 ⟨⟨[],by simp⟩,fun b ob eb f no=>by
  by_cases q:b=a
  . subst q;rw [e] at eb;cases eb;exact absurd f n1
  . refine rwl (hs.2 b q) ?_;exact ⟨eb,no⟩,
  fun b ob C eb c no=>by
   by_cases q:b=a
   . subst q;rw [e] at eb;cases eb;exact absurd c (n2 C)
   . exact ⟨ob,by refine rwl (hs.2 b q) ?_;exact eb,c,no⟩⟩
theorem Full.own(o:Ay ρ a)(e':h'.get? a=some o')(hs:eU a h h'):Full ρ h ρ h' :=
 ⟨Kk.refl ρ h,fun b ob eb n=>by
  have q:b≠a:=fun q=>n (q▸o)
  exact ⟨ob,by refine rwl (hs.2 b q) ?_;exact eb,.refl ob⟩,SameBut.live hs e'⟩
noncomputable def T5(vs:List Value)(n:Nat):Obj:={ cls:=.type "tuple",dict:=none,data:=.seq vs.toArray n,slots:=#[] }
mutual
inductive VR(ρ:Rho)(h:Heap):Val->Value->Prop
 | none:VR ρ h .none .none
 | bool (b:Bool):VR ρ h (.bool b) (.bool b)
 | int (i:Int) (t:Tok):VR ρ h (.int i) (.int i t)
 | str (s:Str) (t:Tok):s.length<=sizeLine->VR ρ h (.str s) (.str s t)
 | tup {a:Addr} {vs:List Value} {n:Nat} {ms:List Val}:h.get? a=some (T5 vs n)->¬Ay ρ a->ms.length<=sizeLine->VRs ρ h ms vs->VR ρ h (.tup ms) (.ref a)
 | loc {l:Nat} {p:Addr × Addr}:ρ[l]?=some p->VR ρ h (.loc l) (.ref p.1)
 | script {a:Addr} {vs:List Value} {n:Nat} {ns:List Int}:cx.h₀.get? a=some (B4 vs n)->ns.length<=sizeLine->VRs ρ h (ns.map .int) vs->VR ρ h (.script ns) (.ref a)
 | rng {a:Addr} {i:Int} {t u v:Tok}:IsRange h a 0 i 1 t u v->¬Ay ρ a->-(2 ^ 62)<=i->i < 2 ^ 62->VR ρ h (.rng i) (.ref a)
 | exc {a:Addr} {o:Obj} {c:Nat} {C:Addr}:h.get? a=some o->¬Ay ρ a->cx.cls[c]?=some (.ref C)->Ds o C->VR ρ h (.exc c) (.ref a)
inductive VRs(ρ:Rho)(h:Heap):List Val->List Value->Prop
 | nil:VRs ρ h [] []
 | cons {m:Val} {v:Value} {ms:List Val} {vs:List Value}:VR ρ h m v->VRs ρ h ms vs->VRs ρ h (m :: ms) (v :: vs)
end
theorem VRs.step(st:Step ρ h ρ' h')(r:VRs ρ h ms vs):VRs ρ' h' ms vs :=
 VRs.rec (motive_1:=fun m v _=>VR ρ' h' m v) (motive_2:=fun ms vs _=>VRs ρ' h' ms vs) .none .bool .int .str
  (fun e n z _ r=>.tup (st.keepT _ _ e (.inl ⟨rfl,_,_,rfl⟩) n).1 (st.keepT _ _ e (.inl ⟨rfl,_,_,rfl⟩) n).2 z r)
  (fun e=>.loc (st.get e)) (fun e z _ r=>.script e z r)
  (fun e n z1 z2=>.rng (st.keepT _ _ e (.inr ⟨rfl,_,rfl⟩) n).1 (st.keepT _ _ e (.inr ⟨rfl,_,rfl⟩) n).2 z1 z2)
  (fun e n k c=>(st.keepC _ _ _ e c n).elim fun o' w=>.exc w.1 w.2.2 k w.2.1) .nil (fun _ _ a r=>.cons a r) r
theorem VRs.head(r:VRs ρ h (m :: ms) (v :: vs)):VR ρ h m v:=by cases r;assumption
theorem VR.step(st:Step ρ h ρ' h')(x:VR ρ h m v):VR ρ' h' m v:=(VRs.step st (.cons x .nil)).head
section
theorem VRs.length(r:VRs ρ h ms vs):ms.length=vs.length:=by
 induction ms generalizing vs with
 | nil=>cases r;rfl
 | cons m ms ih=>cases r with | cons a r=>exact rwl cM (rwl cM (rwl (ih r) rfl))
theorem VRs.append(r:VRs ρ h ms vs)(r':VRs ρ h ms' vs'):VRs ρ h (ms++ms') (vs++vs'):=by
 induction ms generalizing vs with
 | nil=>cases r;exact r'
 | cons m ms ih=>cases r with | cons a r=>exact .cons a (ih r)
theorem VRs.get(r:VRs ρ h ms vs){k:Nat}(e:ms[k]?=some m):∃ v,vs[k]?=some v/\VR ρ h m v:=by
 induction ms generalizing vs k with
 | nil=>simp at e
 | cons m' ms ih =>
  cases r with
  | cons a r =>
   cases k with
   | zero=>simp at e;refine rwr e ?_;exact ⟨_,by simp,a⟩
   | succ k=>simp at e;refine ex1 (ih r e) fun v zz=>Ad zz fun hv hr=>?_;exact ⟨v,by simpa using hv,hr⟩
theorem VRs.get'(r:VRs ρ h ms vs){k:Nat}(e:vs[k]?=some v):∃ m,ms[k]?=some m/\VR ρ h m v:=by
 induction ms generalizing vs k with
 | nil=>cases r;simp at e
 | cons m' ms ih =>
  cases r with
  | cons a r =>
   cases k with
   | zero=>simp at e;refine rwr e ?_;exact ⟨_,by simp,a⟩
   | succ k=>simp at e;refine ex1 (ih r e) fun v zz=>Ad zz fun hv hr=>?_;exact ⟨v,by simpa using hv,hr⟩
theorem VRs.one(r:VR ρ h m v):VRs ρ h [m] [v]:=.cons r .nil
theorem VRs.set(r:VRs ρ h ms vs)(k:Nat)(a:VR ρ h m v):VRs ρ h (ms.set k m) (vs.set k v):=by
 induction ms generalizing vs k with
 | nil=>cases r;exact .nil
 | cons m' ms ih =>
  cases r with
  | cons b r =>
   cases k with
   | zero=>exact .cons a r
   | succ k=>exact .cons b (ih r k)
theorem VRs.take(r:VRs ρ h ms vs)(k:Nat):VRs ρ h (ms.take k) (vs.take k):=by
 induction ms generalizing vs k with
 | nil=>cases r;simp;exact .nil
 | cons m' ms ih =>
  cases r with
  | cons b r =>
   cases k with
   | zero=>exact .nil
   | succ k=>exact .cons b (ih r k)
theorem VRs.drop(r:VRs ρ h ms vs)(k:Nat):VRs ρ h (ms.drop k) (vs.drop k):=by
 induction ms generalizing vs k with
 | nil=>cases r;simp;exact .nil
 | cons m' ms ih =>
  cases r with
  | cons b r =>
   cases k with
   | zero=>exact .cons b r
   | succ k=>exact ih r k
theorem VRs.reverse(r:VRs ρ h ms vs):VRs ρ h ms.reverse vs.reverse:=by
 induction ms generalizing vs with
 | nil=>cases r;exact .nil
 | cons m' ms ih =>
  cases r with
  | cons b r =>refine rwl qB (rwl qB ?_);exact (ih r).append (.one b)
theorem VRs.eraseIdx(r:VRs ρ h ms vs)(k:Nat):VRs ρ h (ms.eraseIdx k) (vs.eraseIdx k):=by
 induction ms generalizing vs k with
 | nil=>cases r;simp;exact .nil
 | cons m' ms ih =>
  cases r with
  | cons b r =>
   cases k with
   | zero=>exact r
   | succ k=>exact .cons b (ih r k)
theorem VRs.replicate(a:VR ρ h m v)(n:Nat):VRs ρ h (eA n m) (eA n v):=by
 induction n with
 | zero=>exact .nil
 | succ n ih=>exact .cons a ih
end
noncomputable abbrev cellKind:HeapKind cx.prog cx.w (List Int):=tupleKind (intKind cx.prog cx.w)
inductive DRs(ρ:Rho)(h:Heap):List (Key × Val)->List (List Int × Addr × Value)->Prop
 | nil:DRs ρ h [] []
 | cons {k:Key} {v:Val} {b:Addr} {x:Value} {es:List (Key × Val)} {xs:List (List Int × Addr × Value)} :
  VR ρ h v x->VR ρ h (Aa k) (.ref b)->DRs ρ h es xs->DRs ρ h ((k,v) :: es) (([k.1,k.2],b,x) :: xs)
theorem DRs.step(st:Step ρ h ρ' h')(r:DRs ρ h es xs):DRs ρ' h' es xs:=by
 induction r with
 | nil=>exact .nil
 | @cons k v b x es xs a n _ ih=>exact .cons (a.step st) (n.step st) ih
theorem VR.free(x:VR ρ h (.tup vs) (.ref b)):¬Ay ρ b:=by
 cases x with
 | tup _ no _ _=>exact no
inductive HR(ρ:Rho)(h:Heap):HObj->Addr × Addr->Prop
 | list {a:Addr} {vs:List Value} {n:Nat} {xs:List Val}:h.get? a=some (B4 vs n)->VRs ρ h xs vs->xs.length<=sizeLine->HR ρ h (.list xs) (a,a)
 | dict {a:Addr} {es:List (Key × Val)} {xs:List (List Int × Addr × Value)}:h.DictOfH (cellKind) a xs->DRs ρ h es xs->es.length<=sizeLine->HR ρ h (.dict es) (a,a)
 | inst {a d C:Addr} {o:Obj} {c:Nat} {fs:List (Nat × Val)} {mA:Str->Option Value}:(cx.T.meth c 0).isSome=true->cx.cls[c]?=some (.ref C)->h.get? a=some o->o.cls=.ref C->(∀ c,o.data≠.cls c)->o.dict=some d->d≠a->h.Ns1 d mA ->
  (∀ n v,fs.lookup n=some v->∃ y x,cx.attrs[n]?=some y/\mA y=some x/\VR ρ h v x) ->
  (∀ y,mA y≠none->∃ n v,cx.attrs[n]?=some y/\fs.lookup n=some v) ->
  HR ρ h (.inst c fs) (a,d)
 | hid {a:Addr} {x y:Value}:h.get? a=some (T5 [x,y] 0)->HR ρ h .hid (a,a)
structure Rel(H:Hp)(ρ:Rho)(s:bD):Prop where
 len:H.length=ρ.length
 objs:∀ (l:Nat) (o:HObj) (p:Addr × Addr),H[l]?=some o->ρ[l]?=some p->HR ρ s.heap o p
 apart:∀ (i j:Nat) (p q:Addr × Addr),i≠j->ρ[i]?=some p->ρ[j]?=some q->(p.1≠q.1/\p.1≠q.2)/\(p.2≠q.1/\p.2≠q.2)
 new:∀ p∈ρ,cx.h₀.get? p.1=none/\cx.h₀.get? p.2=none
 base:∀ b o,cx.h₀.get? b=some o->s.heap.get? b=some o
 sys:∃ o,cx.h₀.get? sysModules=some o
 rest:∃ h tk,s={ cx.s₀ with heap:=h,toks:=tk }
theorem Rel.size(R:Rel H ρ s):∀ p∈ρ,(∃ o,s.heap.get? p.1=some o)/\∃ o,s.heap.get? p.2=some o:=by
 intro p hp;refine ex1 (List.mem_iff_getElem.mp hp) fun l zz=>ex1 zz fun hl e=>?_;have e':ρ[l]?=some p:=by exact rwl (aI hl) (rwl e rfl)
 have hH:l < H.length:=by refine rwl R.len ?_;exact hl
 obtain ⟨ob,hob⟩:∃ ob,H[l]?=some ob:=⟨_,aI hH⟩;have:=R.objs l ob p hob e';clear e e';cases this with
 | list q _ _=>exact ⟨⟨_,q⟩,_,q⟩
 | dict q _ _=>refine ex3 q fun o _ _ zz=>Ad zz fun q _=>?_;exact ⟨⟨_,q⟩,_,q⟩
 | inst _ _ q _ _ _ _ n _ _=>refine ex3 n fun o' _ _ zz=>Ad zz fun q' _=>?_;exact ⟨⟨_,q⟩,_,q'⟩
 | hid q=>exact ⟨⟨_,q⟩,_,q⟩
theorem Rel.owned_lt(R:Rel H ρ s)(o:Ay ρ a):∃ o,s.heap.get? a=some o:=by
 obtain ⟨p,hp,rfl | rfl⟩:=o
 . exact (R.size p hp).1
 . exact (R.size p hp).2
theorem Rel.owned_new(R:Rel H ρ s)(o:Ay ρ a):cx.h₀.get? a=none:=by
 obtain ⟨p,hp,rfl | rfl⟩:=o
 . exact (R.new p hp).1
 . exact (R.new p hp).2
theorem Rel.base_not(R:Rel H ρ s)(e:cx.h₀.get? a=some o):¬Ay ρ a:=fun w=>by rw [R.owned_new w] at e;exact Af e
theorem HR.step(x:HR ρ h o p)(st:Step ρ h ρ' h')(k:∀ b ob,(b=p.1\/b=p.2)->h.get? b=some ob->h'.get? b=some ob):HR ρ' h' o p:=by
 cases x with
 | list e r z=>exact .list (k _ _ (.inl rfl) e) (r.step st) z
 | @dict a es xs D r z =>
  obtain ⟨ob,es',ep,e,ex,d,el,ks,nd⟩:=D;have ks':∀ x∈xs,(cellKind).is h' x.1 x.2.1:=by
   intro x hx;obtain ⟨ok,items,n,hk,hc,hd',rest⟩:=ks x hx;refine ⟨ok,items,n,(st.keepT _ _ hk (.inl ⟨hc,_,_,hd'⟩) ?_).1,hc,hd',rest⟩;clear rest el nd z ks d ex e k;induction r with
   | nil=>cases hx
   | cons a n _ ih =>
    cases hx with
    | head=>exact VR.free n
    | tail _ hx=>exact ih hx
  exact .dict ⟨ob,es',ep,k _ _ (.inl rfl) e,ex,d,el,ks',nd⟩ (r.step st) z
 | hid e=>exact .hid (k _ _ (.inl rfl) e)
 | inst c0 c e k1 k2 k3 k4 n f g =>refine .inst c0 c (k _ _ (.inl rfl) e) k1 k2 k3 k4 (n.at fun o e=>k _ _ (.inr rfl) e) (fun i v hv=>?_) g;refine Ae fun G kG=>?_;obtain ⟨y,x,h1,h2,h3⟩:=f i v hv;refine kG ?_;exact ⟨y,x,h1,h2,h3.step st⟩
section
theorem Rel.same(R:Rel H ρ s)(st:Step ρ s.heap ρ h')(ko:∀ b o,Ay ρ b->s.heap.get? b=some o->h'.get? b=some o)(kb:∀ b o,cx.h₀.get? b=some o->h'.get? b=some o) :
 Rel H ρ { s with heap:=h',toks:=tk }:=by
 refine ⟨R.len,fun l o p hl hp=>?_,R.apart,R.new,kb,R.sys,?_⟩
 . refine (R.objs l o p hl hp).step st fun b ob hb e=>ko b ob ⟨p,aH hp,hb⟩ e
 . refine ex2 R.rest fun h t hr0=>?_;refine rwl hr0 ?_;exact ⟨h',tk,rfl⟩
theorem Rel.toks(R:Rel H ρ s)(tk:Nat):Rel H ρ { s with toks:=tk } :=
 R.same (h':=s.heap) (Step.refl _ _) (fun _ _ _ e=>e) R.base
theorem Rel.more(R:Rel H ρ s)(k:∀ b o,s.heap.get? b=some o->h'.get? b=some o):Rel H ρ { s with heap:=h',toks:=tk } :=
 R.same (Full.more k).step (fun b o _ e=>k b o e) fun b o e=>k b o (R.base b o e)
theorem Rel.push(R:Rel H ρ s)(o:Obj)(tk:Nat):Rel H ρ { s with heap:=s.heap.push o,toks:=tk } :=
 R.more fun _ _ e=>bR _ e
theorem Rel.but(R:Rel H ρ s)(e':h'.get? a=some o')(e:s.heap.get? a=some o)(hs:eU a s.heap h')(n1:¬F7 o)(n2:∀ C,¬Ds o C)(no:¬Ay ρ a)(nb:cx.h₀.get? a=none) :
 Rel H ρ { s with heap:=h',toks:=tk } :=
 R.same (Step.but e' e hs n1 n2) (fun b ob ho eb=>by refine rwl (hs.2 b (fun q=>no (q▸ho))) ?_;exact eb) fun b ob eb=>by
  refine rwl (hs.2 b (fun q=>by subst q;rw [nb] at eb;exact nomatch eb)) ?_;exact R.base b ob eb
theorem Rel.fresh_not(R:Rel H ρ s)(ha:s.heap.get? a=none):¬Ay ρ a:=fun w=>by obtain ⟨o,e⟩:=R.owned_lt w;rw [ha] at e;exact Af e
theorem Rel.alloc(R:Rel H ρ s)(k:∀ b o,s.heap.get? b=some o->h'.get? b=some o)
 (hp:s.heap.get? p.1=none/\s.heap.get? p.2=none) (x:HR (ρ++[p]) h' o p):Full ρ s.heap (ρ++[p]) h'/\Rel (H++[o]) (ρ++[p]) { s with heap:=h',toks:=tk }:=by
 have F:Full ρ s.heap (ρ++[p]) h':=⟨⟨[p],rfl,fun q hq=>by refine rwl (aT.mp hq) ?_;exact hp⟩,fun b o e _=>⟨o,k b o e,.refl o⟩,fun b o e=>⟨o,k b o e⟩⟩;refine ⟨F,⟨by refine rwl aK (rwl aK (rwl R.len ?_));rfl,fun l ob q hl hq=>?_,fun i j q r hij hi hj=>?_,fun q hq=>?_,fun b o e=>k b o (R.base b o e),R.sys,?_⟩⟩
 . by_cases lt:l < H.length
   . rw [bB lt] at hl;rw [bB (by refine rwr R.len ?_;exact lt)] at hq;exact (R.objs l ob q hl hq).step F.step fun b ob _ e=>k b ob e
   . have hl':=(aE.mp hl).1;have le:l=H.length:=by rw [aK] at hl';simp at hl';exact o1 hl' lt
     subst le;rw [aS (aN _)] at hl;rw [aS (by refine rwl R.len ?_;exact aN _)] at hq;rw [R.len] at hq;simp at hl hq;subst hl hq;exact x
 . have old:∀ {i:Nat} {q:Addr × Addr},ρ[i]?=some q->(∃ o,s.heap.get? q.1=some o)/\∃ o,s.heap.get? q.2=some o:=fun h=>R.size _ (aH h);have ne:∀ {a b:Addr},(∃ o,s.heap.get? a=some o)->s.heap.get? b=none->a≠b:=fun ⟨o,e⟩ n q=>by rw [q,n] at e;exact Af e
   have at':∀ {i:Nat} {q:Addr × Addr},(ρ++[p])[i]?=some q->ρ[i]?=some q\/(i=ρ.length/\q=p):=by
    intro i q h;by_cases lt:i < ρ.length
    . rw [bB lt] at h;exact .inl h
    . have hl':=(aE.mp h).1;have le:i=ρ.length:=by rw [aK] at hl';simp at hl';exact o1 hl' lt
      subst le;rw [aS (aN _)] at h;simp at h;exact .inr ⟨rfl,h.symm⟩
   rcases at' hi with hi' | ⟨hi',eq⟩ <;> rcases at' hj with hj' | ⟨hj',er⟩
   . exact R.apart i j q r hij hi' hj'
   . have q:=old hi';refine rwl er ?_;exact ⟨⟨ne q.1 hp.1,ne q.1 hp.2⟩,ne q.2 hp.1,ne q.2 hp.2⟩
   . have q:=old hj';refine rwl eq ?_;exact ⟨⟨(ne q.1 hp.1).symm,(ne q.2 hp.1).symm⟩,(ne q.1 hp.2).symm,(ne q.2 hp.2).symm⟩
   . exact absurd (hi'.trans hj'.symm) hij
 . rcases bM.mp hq with hq | hq
   . exact R.new q hq
   . have lv:F5 cx.h₀ s.heap:=fun b o e=>⟨o,R.base b o e⟩;refine rwl (aT.mp hq) ?_;exact ⟨lv.none hp.1,lv.none hp.2⟩
 . refine ex2 R.rest fun h t hr0=>?_;refine rwl hr0 ?_;exact ⟨h',tk,rfl⟩
theorem Rel.set(R:Rel H ρ s)(hl:ρ[l]?=some p)(k:∀ b o,s.heap.get? b=some o->b≠p.1->b≠p.2->h'.get? b=some o)(z:F5 s.heap h')
 (x:HR ρ h' o p):Full ρ s.heap ρ h'/\Rel (H.set l o) ρ { s with heap:=h',toks:=tk }:=by
 have own:∀ b,¬Ay ρ b->b≠p.1/\b≠p.2:=fun b n=>⟨fun e=>n ⟨p,aH hl,.inl e⟩,fun e=>n ⟨p,aH hl,.inr e⟩⟩;have F:Full ρ s.heap ρ h':=⟨Kk.refl _ _,fun b ob e n=>⟨ob,k b ob e (own b n).1 (own b n).2,.refl ob⟩,z⟩;refine ⟨F,⟨by exact rwl bW (rwl R.len rfl),fun i ob q hi hq=>?_,R.apart,R.new,fun b ob e=>?_,R.sys,?_⟩⟩
 . by_cases e:i=l
   . subst e;rw [hl] at hq;cases hq;have lt:i < H.length:=by refine rwl R.len ?_;exact (aE.mp hl).1
     rw [dA lt] at hi;cases hi;exact x
   . rw [cB (fun q=>e q.symm)] at hi;refine (R.objs i ob q hi hq).step F.step fun b ob' hb eb=>?_;refine Ap (R.apart i l q p e hq hl) fun zn0 a3 a4=>?_;obtain ⟨a1,a2⟩:=zn0;rcases hb with rfl | rfl
     . exact k _ _ eb a1 a2
     . exact k _ _ eb a3 a4
 . have n:=R.base_not e;exact k b ob (R.base b ob e) (own b n).1 (own b n).2
 . refine ex2 R.rest fun h t hr0=>?_;refine rwl hr0 ?_;exact ⟨h',tk,rfl⟩
end
structure Amb where
 P:Rho->Heap->Prop
 st:∀ ρ h ρ' h',P ρ h->Full ρ h ρ' h'->P ρ' h'
noncomputable def Amb.and(P Q:Amb):Amb:=⟨fun ρ h=>P.P ρ h/\Q.P ρ h,fun ρ h ρ' h' x f=>⟨P.st _ _ _ _ x.1 f,Q.st _ _ _ _ x.2 f⟩⟩
noncomputable def Amb.prop(p:Prop):Amb:=⟨fun _ _=>p,fun _ _ _ _ x _=>x⟩
noncomputable def Amb.vr(m:Val)(v:Value):Amb:=⟨fun ρ h=>VR ρ h m v,fun _ _ _ _ x f=>x.step f.step⟩
noncomputable def Amb.vrs(ms:List Val)(vs:List Value):Amb:=⟨fun ρ h=>VRs ρ h ms vs,fun _ _ _ _ x f=>x.step f.step⟩
structure Flying(ρ:Rho)(h h':Heap)(c:Nat)(e:Value):Prop where
 is:∃ (a C:Addr) (vs:Array Value),e=.ref a/\cx.cls[c]?=some (.ref C)/\h.get? a=none/\h'.get? a=some { cls:=.ref C,dict:=none,data:=.fields vs,slots:=#[] }/\vs.size=6/\¬Ay ρ a /\
  (vs[1]?=some .none\/∃ (tb:Addr) (tvs:Array Value),vs[1]?=some (.ref tb)/\h.get? tb=none/\h'.get? tb=some { cls:=.type "traceback",dict:=none,data:=.fields tvs,slots:=#[] }/\tvs.size=11/\¬Ay ρ tb)
theorem Flying.older(x:Flying ρ h h' c e)(z:F5 h₁ h):Flying ρ h₁ h' c e:=by
 refine ex3 x.is fun a C vs zz=>Pb zz fun e1 e2 e3 e4 e5 e6 e7=>?_;refine ⟨a,C,vs,e1,e2,z.none e3,e4,e5,e6,?_⟩;rcases e7 with e7 | ⟨tb,tvs,f1,f2,f3⟩
 . exact .inl e7
 . exact .inr ⟨tb,tvs,f1,z.none f2,f3⟩
noncomputable def A8{α β:Type}(A:fI)(r:Res β)(t:Sem α)(V:β->α->Amb)(ρ:Rho)(s:bD):Prop :=
 match r with
 | .bad=>True
 | .ok b H'=>wpAny (model cx.prog cx.w) A t (fun a s'=>∃ ρ',Full ρ s.heap ρ' s'.heap/\Rel H' ρ' s'/\(V b a).P ρ' s'.heap) (fun _ _=>False) s
 | .exc c H'=>wpAny (model cx.prog cx.w) A t (fun _ _=>False) (fun e s'=>∃ ρ',Full ρ s.heap ρ' s'.heap/\Rel H' ρ' s'/\Flying ρ' s.heap s'.heap c e) s
noncomputable def Sim{α β:Type}(A:fI)(P:Amb)(t:Sem α)(m:M β)(V:β->α->Amb):Prop :=
 ∀ (H:Hp) (ρ:Rho) (s:bD),Rel H ρ s->P.P ρ s.heap->A8 A (m H) t V ρ s
section
variable{α β γ δ:Type}{A:fI}{P:Amb}{t:Sem α}{m:M β}{V:β->α->Amb}
theorem A8.bind(x:A8 A (m H) t V ρ s)
 (y:∀ b a H' ρ' s',m H=.ok b H'->Full ρ s.heap ρ' s'.heap->Rel H' ρ' s'->(V b a).P ρ' s'.heap->A8 A (g b H') (f a) W ρ' s') :
 A8 A (m.bnd g H) (t>>=f) W ρ s:=by
 cases e:m H with
 | bad=>refine rwl (Dt e) ?_;trivial
 | exc c H' =>refine rwl (Fk e) ?_;rw [e] at x;exact aF (aL x (fun _ _ q=>q.elim) fun _ _ q=>q)
 | ok b H' =>
  refine rwl (Eh e) ?_;rw [e] at x;have y':=y b;cases e2:g b H' with
  | bad=>trivial
  | exc c H'' =>refine aF (aL x (fun a s' ⟨ρ',F,R,v⟩=>?_) fun _ _ q=>q.elim);have z:=y b a H' ρ' s' e F R v;rw [e2] at z;exact aL z (fun _ _ q=>q) fun e s'' ⟨ρ'',F',R',fl⟩=>⟨ρ'',F.trans F',R',fl.older F.live⟩
  | ok d H'' =>refine aF (aL x (fun a s' ⟨ρ',F,R,v⟩=>?_) fun _ _ q=>q.elim);have z:=y b a H' ρ' s' e F R v;rw [e2] at z;exact aL z (fun a' s'' ⟨ρ'',F',R',w⟩=>⟨ρ'',F.trans F',R',w⟩) fun _ _ q=>q.elim
theorem Sim.bind(x:Sim A P t m V)(y:∀ b a,Sim A (P.and (V b a)) (f a) (g b) W):Sim A P (t>>=f) (m.bnd g) W :=
 fun H ρ s R p=>A8.bind (x H ρ s R p) fun b a H' ρ' s' _ F R' v=>y b a H' ρ' s' R' ⟨P.st _ _ _ _ p F,v⟩
noncomputable def Gy{α β:Type}(r:Res β)(K:(α->bD->Prop)->(Value->bD->Prop)->bD->Prop)(V:β->α->Amb)(ρ:Rho)(s:bD):Prop :=
 match r with
 | .bad=>True
 | .ok b H'=>K (fun a s'=>∃ ρ',Full ρ s.heap ρ' s'.heap/\Rel H' ρ' s'/\(V b a).P ρ' s'.heap) (fun _ _=>False) s
 | .exc c H'=>K (fun _ _=>False) (fun e s'=>∃ ρ',Full ρ s.heap ρ' s'.heap/\Rel H' ρ' s'/\Flying ρ' s.heap s'.heap c e) s
theorem Gy.of(x:A8 A r t V ρ s):Gy r (fun Q E s=>wpAny (model cx.prog cx.w) A t Q E s) V ρ s:=x
noncomputable def Rz{α:Type}(K:(α->bD->Prop)->(Value->bD->Prop)->bD->Prop):Prop :=
 ∀ Q E Q' E' s,K Q E s->(∀ a s,Q a s->Q' a s)->(∀ e s,E e s->E' e s)->K Q' E' s
theorem A8.bindK{K:α->(γ->bD->Prop)->(Value->bD->Prop)->bD->Prop}(x:A8 A (m H) t V ρ s)
 (y:∀ b a H' ρ' s',m H=.ok b H'->Full ρ s.heap ρ' s'.heap->Rel H' ρ' s'->(V b a).P ρ' s'.heap->Gy (g b H') (K a) W ρ' s')
 (mk:∀ a,Rz (K a))
 (k:∀ Q E,wpAny (model cx.prog cx.w) A t (fun a s'=>K a Q E s') E s->K' Q E s) :
 Gy (m.bnd g H) K' W ρ s:=by
 cases e:m H with
 | bad=>refine rwl (Dt e) ?_;trivial
 | exc c H' =>refine rwl (Fk e) ?_;rw [e] at x;exact k _ _ (aL x (fun _ _ q=>q.elim) fun _ _ q=>q)
 | ok b H' =>
  refine rwl (Eh e) ?_;rw [e] at x;cases e2:g b H' with
  | bad=>trivial
  | exc c H'' =>refine k _ _ (aL x (fun a s' ⟨ρ',F,R,v⟩=>?_) fun _ _ q=>q.elim);have z:=y b a H' ρ' s' e F R v;rw [e2] at z;exact mk a _ _ _ _ _ z (fun _ _ q=>q) fun e s'' ⟨ρ'',F',R',fl⟩=>⟨ρ'',F.trans F',R',fl.older F.live⟩
  | ok d H'' =>refine k _ _ (aL x (fun a s' ⟨ρ',F,R,v⟩=>?_) fun _ _ q=>q.elim);have z:=y b a H' ρ' s' e F R v;rw [e2] at z;exact mk a _ _ _ _ _ z (fun a' s'' ⟨ρ'',F',R',w⟩=>⟨ρ'',F.trans F',R',w⟩) fun _ _ q=>q.elim
theorem Gy.lookK(y:∀ b,f H=some b->Gy (g b H) K W ρ s):Gy ((M.look f).bnd g H) K W ρ s:=by
 cases e:f H with
 | none=>refine rwl (Dt (show M.look f H=.bad by unfold M.look;rw [e])) ?_;trivial
 | some b=>refine rwl (Eh (show M.look f H=.ok b H by unfold M.look;rw [e])) ?_;exact y b e
theorem Gy.mono(x:Gy r K V ρ s)(k:∀ Q E,K Q E s->K' Q E s):Gy r K' V ρ s:=by
 cases r with
 | bad=>trivial
 | exc c H'=>exact k _ _ x
 | ok b H'=>exact k _ _ x
theorem Sim.pre(x:Sim A P t m V)(k:∀ (Q:α->bD->Prop) (E:Value->bD->Prop) (s:bD),wpAny (model cx.prog cx.w) A t Q E s->wpAny (model cx.prog cx.w) A t' Q E s):Sim A P t' m V:=by
 intro H ρ s R p;have z:=x H ρ s R p;cases e:m H with
 | bad=>trivial
 | exc c H'=>rw [e] at z;exact k _ _ _ z
 | ok b H'=>rw [e] at z;exact k _ _ _ z
theorem Sim.holding{vs:List Value}(x:Sim A P t m V):Sim A P (holding vs t) m V:=x.pre fun _ _ _ h=>eY h
theorem Sim.stand(x:Sim A P (k ()) m V):Sim A P (standAt pos>>=k) m V:=x.pre fun _ _ _ h=>aF (jL h)
theorem Sim.weak(x:Sim A P t m V)(k:∀ ρ h,P'.P ρ h->P.P ρ h):Sim A P' t m V:=fun H ρ s R p=>x H ρ s R (k _ _ p)
theorem Sim.ret(k:∀ ρ h,P.P ρ h->(V b a).P ρ h):Sim A P (pure a) (M.ret b) V :=
 fun H ρ s R p=>aU ⟨ρ,Full.refl _ _,R,k _ _ p⟩
theorem Sim.bad:Sim A P t (M.bad:M β) V:=fun _ _ _ _ _=>trivial
theorem A8.post(x:A8 A r t V ρ s)(k:∀ b a ρ h,(V b a).P ρ h->(W b a).P ρ h):A8 A r t W ρ s:=by
 cases r with
 | bad=>trivial
 | exc c H'=>exact x
 | ok b H'=>exact aL x (fun a s' ⟨ρ',F,R,v⟩=>⟨ρ',F,R,k _ _ _ _ v⟩) fun _ _ q=>q
theorem Sim.post(x:Sim A P t m V)(k:∀ b a ρ h,(V b a).P ρ h->(W b a).P ρ h):Sim A P t m W:=fun H ρ s R p=>(x H ρ s R p).post k
theorem Sim.look(k:∀ (H:Hp) (ρ:Rho) (s:bD) (b:β),Rel H ρ s->P.P ρ s.heap->f H=some b ->
 ∀ (Q:α->bD->Prop) (E:Value->bD->Prop),(∀ a tk,(V b a).P ρ s.heap->Q a { s with toks:=tk })->wpAny (model cx.prog cx.w) A t Q E s):Sim A P t (M.look f) V:=by
 intro H ρ s R p;show A8 A (match f H with | some a=>Res.ok a H | none=>Res.bad) t V ρ s;cases e:f H with
 | none=>trivial
 | some b=>exact k H ρ s b R p e _ _ fun a tk v=>⟨ρ,Full.refl _ _,R.toks tk,v⟩
end
noncomputable def Xs(env:Env)(h:Heap)(y:Str)(v:Value):Prop :=
 (env.kindOf y=some .local/\∃ m,h.Ns env.locals m/\m y=some v) \/
 ((env.kindOf y=some .cell\/env.kindOf y=some .free)/\∃ c,env.cells.lookup y=some c/\h.IsCell c (some v))
noncomputable def Af3:iV->Option iV->Prop
 | .local,k=>k=some .local
 | .cell,k=>k=some .cell
 | .free,k=>k=some .free\/k=some .cell
 | .globalImplicit,k=>k=some .globalImplicit
 | _,_=>True
structure EnvSt(env:Env)(sc:Scope)(ρ:Rho)(h:Heap):Prop where
 fn:env.scope.kind=.function
 glob:env.globals=mainGlobals
 blt:env.builtins=builtinsNs
 kinds:∀ y k,sc.names.lookup y=some k->Af3 k (env.kindOf y)
 loc:∃ m,h.Ns env.locals m
 locN:¬Ay ρ env.locals
 locB:cx.h₀.get? env.locals=none
 cells:∀ y c,env.cells.lookup y=some c->(∃ v,h.IsCell c v)/\¬Ay ρ c/\cx.h₀.get? c=none
 hasCell:∀ y,sc.names.lookup y=some .cell\/sc.names.lookup y=some .free->∃ c,env.cells.lookup y=some c
 apart:∀ y z c,env.cells.lookup y=some c->env.cells.lookup z=some c->y=z
structure EnvOk(env:Env)(sc:Scope)(ns:List (Option Str))(Γ:Env')(ρ:Rho)(h:Heap):Prop where
 st:EnvSt env sc ρ h
 len:Γ.length=ns.length
 vals:∀ (i:Nat) (y:Str) (mv:Val),ns[i]?=some (some y)->Γ[i]?=some (some mv)->∃ v,Xs env h y v/\VR ρ h mv v
theorem Bo{h h':Heap}(n:h.Ns a m)(k:∀ o,h.get? a=some o->∃ o',h'.get? a=some o'/\o'.data=o.data):h'.Ns a m:=by refine ex3 n fun o es ep zz=>Ap zz fun e d r=>?_;refine ex1 (k o e) fun o' zz=>Ad zz fun e' d'=>?_;exact ⟨o',es,ep,e',d'.trans d,r⟩
theorem Full.data(F:Full ρ h ρ' h')(n:¬Ay ρ a):∀ o,h.get? a=some o->∃ o',h'.get? a=some o'/\o'.data=o.data:=fun o e=>by
 refine ex1 (F.keep a o e n) fun o' zz=>Ad zz fun e' u=>?_
 exact ⟨o',e',u.data⟩
theorem Bq{h h':Heap}(x:h.IsCell c v)(k:∀ o,h.get? c=some o->∃ o',h'.get? c=some o'/\o'.data=o.data):h'.IsCell c v:=by refine ex1 x fun o zz=>Ad zz fun e d=>?_;refine ex1 (k o e) fun o' zz=>Ad zz fun e' d'=>?_;exact ⟨o',e',d'.trans d⟩
theorem EnvSt.full(x:EnvSt env sc ρ h)(F:Full ρ h ρ' h'):EnvSt env sc ρ' h':=by refine Ae fun G kG=>?_;obtain ⟨m,hm⟩:=x.loc;refine ex3 (id hm) fun o es ep zz=>Ap zz fun e d r=>?_;refine kG ?_;refine ⟨x.fn,x.glob,x.blt,x.kinds,⟨m,Bo hm (F.data x.locN)⟩,F.grow.not x.locN e,x.locB,fun y c hc=>?_,x.hasCell,x.apart⟩;refine Ae fun G kG=>?_;refine Ap (x.cells y c hc) fun zn0 n b=>?_;obtain ⟨v,hv⟩:=zn0;refine ex1 (id hv) fun o zz=>Ad zz fun e _=>?_;refine kG ?_;exact ⟨⟨v,Bq hv (F.data n)⟩,F.grow.not n e,b⟩
theorem Xs.full(x:EnvSt env sc ρ h)(F:Full ρ h ρ' h')(q:Xs env h y v):Xs env h' y v:=by
 rcases q with ⟨k,m,hm,e⟩ | ⟨k,c,hc,e⟩
 . exact .inl ⟨k,m,Bo hm (F.data x.locN),e⟩
 . exact .inr ⟨k,c,hc,Bq e (F.data (x.cells y c hc).2.1)⟩
theorem EnvOk.full(x:EnvOk env sc ns Γ ρ h)(F:Full ρ h ρ' h'):EnvOk env sc ns Γ ρ' h' :=
 ⟨x.st.full F,x.len,fun i y mv hi hm=>by
  refine ex1 (x.vals i y mv hi hm) fun v zz=>Ad zz fun hv r=>?_
  exact ⟨v,hv.full x.st F,r.step F.step⟩⟩
noncomputable def Amb.env(env:Env)(sc:Scope)(ns:List (Option Str))(Γ:Env'):Amb:=⟨fun ρ h=>EnvOk env sc ns Γ ρ h,fun _ _ _ _ x F=>x.full F⟩
noncomputable def A6(l:List Env)(ρ:Rho)(h:Heap):Prop :=
 ∀ env∈l,env.scope.kind≠.module/\∃ L o,env.frame=some L/\cx.h₀.get? L=none/\h.get? L=some o/\(∃ es n,o.data=.dict es n)/\¬Ay ρ L
theorem A6.full(x:A6 l ρ h)(F:Full ρ h ρ' h'):A6 l ρ' h':=fun env he=>by
 refine Ae fun G kG=>?_
 refine Ad (x env he) fun k zz=>ex2 zz fun L o zz=>G7 zz fun h1 h2 h3 h5 h6=>?_
 refine ex1 (F.keep L o h3 h6) fun o' zz=>Ad zz fun e' u=>?_
 refine kG ?_
 exact ⟨k,L,o',h1,h2,e',by refine rwl u.data ?_;exact h5,F.grow.not h6 h3⟩
noncomputable def Amb.frames(l:List Env):Amb:=⟨fun ρ h=>A6 l ρ h,fun _ _ _ _ x F=>x.full F⟩
structure RoomF(A:fI)(d:Nat):Prop where
 hh:A.handled=none
 depth:A.depth+5 * d+147 < recursionLimit
 units:A.units+20 * d+90 < cLine
structure RoomQ(A:fI)(d:Nat):Prop where
 depth:A.depth+5 * d+147 < recursionLimit
 units:A.units+20 * d+90 < cLine
theorem RoomF.q(r:RoomF A d):RoomQ A d:=⟨r.depth,r.units⟩
theorem Room.toF(r:Room A d):RoomF A d:=⟨r.hh,by have:=r.depth;exact o2 this,by have:=r.units;exact o3 this⟩
theorem Room.in1(r:Room A (d+1)):Room A.in1 d:=⟨r.hh,by have:=r.depth;simp only [Around.in1_depth];exact o4 this,by have:=r.units;simp only [iK];exact aB Aky this⟩
section
variable{α β:Type}
theorem A5(R:Rel H ρ s)(k:∀ (Q:α->bD->Prop) (E:Value->bD->Prop),(∀ a tk,(V b a).P ρ s.heap->Q a { s with toks:=tk })->wpAny (model cx.prog cx.w) A t Q E s):A8 A (.ok b H) t V ρ s :=
 k _ _ fun a tk v=>⟨ρ,Full.refl _ _,R.toks tk,v⟩
theorem Rel.newList(tk:Nat)(R:Rel H ρ s)(r:VRs ρ s.heap xs vs)(z:xs.length<=sizeLine) :
 ∃ ρ',Full ρ s.heap ρ' (s.heap.push (B4 vs 0))/\Rel (H++[.list xs]) ρ' { s with heap:=s.heap.push (B4 vs 0),toks:=tk }/\VR ρ' (s.heap.push (B4 vs 0)) (.loc H.length) (.ref s.heap.objs.size):=by
 have kp:∀ b o,s.heap.get? b=some o->(s.heap.push (B4 vs 0)).get? b=some o:=fun b o e=>bR _ e;obtain ⟨F,R'⟩:=R.alloc (tk:=tk) (o:=.list xs) (p:=(s.heap.objs.size,s.heap.objs.size)) kp ⟨Ar _,Ar _⟩
  (.list (n:=0) (cJ _ rfl) (r.step (Full.alloc kp ⟨Ar _,Ar _⟩).step) z)
 refine ⟨_,F,R',?_⟩;refine rwl R.len ?_;exact VR.loc (p:=(s.heap.objs.size,s.heap.objs.size)) (by refine rwl (aS (aN _)) ?_;simp)
end
theorem Ge:lid=sizeLine:=by skip;rfl
section
theorem Qs(h:small x=true):Builtin.Int.intBits x<=64:=by unfold small at h;simp only [fR,decide_eq_true_eq] at h;exact intBits_le_64 h.1 h.2
theorem Rel.listAt(R:Rel H ρ s){l:Nat}(hH:H[l]?=some (.list xs))(hρ:ρ[l]?=some p) :
 ∃ vs n,p.2=p.1/\s.heap.get? p.1=some (B4 vs n)/\VRs ρ s.heap xs vs/\xs.length<=sizeLine:=by
 have:=R.objs l _ p hH hρ;generalize ho:HObj.list xs=o at this;cases this with
 | list e r z=>cases ho;exact ⟨_,_,rfl,e,r,z⟩
 | dict _ _ _=>cases ho
 | inst _ _ _ _ _ _ _ _ _ _=>cases ho
 | hid _=>cases ho
theorem VR.int_inv(x:VR ρ h (.int i) v):∃ t,v=.int i t:=by cases x;exact ⟨_,rfl⟩
theorem VR.str_inv(x:VR ρ h (.str i) v):∃ t,v=.str i t/\i.length<=sizeLine:=by cases x;exact ⟨_,rfl,by assumption⟩
theorem VR.none_inv(x:VR ρ h .none v):v=.none:=by cases x;rfl
theorem VR.loc_inv(x:VR ρ h (.loc l) v):∃ p,ρ[l]?=some p/\v=.ref p.1:=by cases x;exact ⟨_,by assumption,rfl⟩
theorem VRs.nil_inv(x:VRs ρ h [] vs):vs=[]:=by cases x;rfl
theorem VRs.cons_inv(x:VRs ρ h (m :: ms) vs):∃ v vs',vs=v :: vs'/\VR ρ h m v/\VRs ρ h ms vs':=by cases x;exact ⟨_,_,rfl,by assumption,by assumption⟩
theorem VRs.one_inv(x:VRs ρ h [m] vs):∃ v,vs=[v]/\VR ρ h m v:=by refine ex2 x.cons_inv fun v vs' zz=>Ap zz fun hr0 y z=>?_;refine rwl hr0 ?_;exact ⟨v,by exact rwl z.nil_inv rfl,y⟩
theorem VRs.two_inv(x:VRs ρ h [m,n] vs):∃ v w,vs=[v,w]/\VR ρ h m v/\VR ρ h n w:=by refine ex2 x.cons_inv fun v vs' zz=>Ap zz fun hr0 y z=>?_;refine rwl hr0 ?_;refine ex1 z.one_inv fun w zz=>Ad zz fun hr1 u=>?_;refine rwl hr1 ?_;exact ⟨v,w,rfl,y,u⟩
theorem Acb(ho:Ahw op o=true)(h1:∀ ρ h,P.P ρ h->VR ρ h a v)(h2:∀ ρ h,P.P ρ h->VR ρ h b w):Sim A P (binaryOp o v w) (Ae8 op a b) (Amb.vr):=by
 intro H ρ s R p;have x1:=h1 _ _ p;have x2:=h2 _ _ p;clear h1 h2 p;have ho':bOp op=o:=of_decide_eq_true ho;subst ho';clear ho;cases op with
 | add =>
  cases a with
  | int i =>
   cases b with
   | int j =>obtain ⟨_,rfl⟩:=x1.int_inv;obtain ⟨_,rfl⟩:=x2.int_inv;exact A5 R fun Q E k=>tX (k _ _ (.int _ _))
   | _=>trivial
  | str x =>
   cases b with
   | str y =>
    refine ex1 x1.str_inv fun _ zz=>Ad zz fun hr2 _=>?_;refine rwl hr2 ?_;refine ex1 x2.str_inv fun _ zz=>Ad zz fun hr3 _=>?_;refine rwl hr3 ?_;show A8 A ((if x.length+y.length<=lid then M.ret (Val.str (x++y)) else M.bad) H) _ _ ρ s;by_cases q:x.length+y.length<=lid
    . refine rwl (if_pos q) ?_;rw [Ge] at q;exact A5 R fun Q E k=>tW (fun t' tk=>k _ _ (.str _ _ (by rw [strLen_append];exact q))) q
    . refine rwl (if_neg q) ?_;trivial
   | _=>trivial
  | _=>trivial
 | sub =>
  cases a with
  | int i =>
   cases b with
   | int j =>obtain ⟨_,rfl⟩:=x1.int_inv;obtain ⟨_,rfl⟩:=x2.int_inv;exact A5 R fun Q E k=>tL (k _ _ (.int _ _))
   | _=>trivial
  | _=>trivial
 | mul =>
  cases a with
  | int i =>
   cases b with
   | int j =>
    obtain ⟨_,rfl⟩:=x1.int_inv;obtain ⟨_,rfl⟩:=x2.int_inv;show A8 A ((if (small i || small j)=true then M.ret (Val.int (i * j)) else M.bad) H) _ _ ρ s;by_cases q:(small i || small j)=true
    . refine rwl (if_pos q) ?_;refine A5 R fun Q E k=>tN (k _ _ (.int _ _)) ?_;rcases (eJ _ _).mp q with q | q
      . exact IntMulOk.of_left (Qs q)
      . exact IntMulOk.of_right (Qs q)
    . refine rwl (if_neg q) ?_;trivial
   | _=>trivial
  | _=>trivial
 | fdiv =>
  cases a with
  | int i =>
   cases b with
   | int j =>
    obtain ⟨_,rfl⟩:=x1.int_inv;obtain ⟨_,rfl⟩:=x2.int_inv;show A8 A ((if j=0\/1073741824<=j.natAbs then M.bad else M.ret (Val.int (cR i j))) H) _ _ ρ s;by_cases q:j=0\/1073741824<=j.natAbs
    . refine rwl (if_pos q) ?_;trivial
    . refine rwl (if_neg q) ?_;exact A5 R fun Q E k=>tV (fun e=>q (.inl e)) (k _ _ (.int _ _)) (.inl (PyProof.noPylong_small (eR.mp fun z=>q (.inr z))))
   | _=>trivial
  | _=>trivial
 | mod =>
  cases a with
  | int i =>
   cases b with
   | int j =>
    obtain ⟨_,rfl⟩:=x1.int_inv;obtain ⟨_,rfl⟩:=x2.int_inv;show A8 A ((if j=0 then M.bad else M.ret (Val.int (dO i j))) H) _ _ ρ s;by_cases q:j=0
    . refine rwl (if_pos q) ?_;trivial
    . refine rwl (if_neg q) ?_;exact A5 R fun Q E k=>tO q (k _ _ (.int _ _))
   | _=>trivial
  | _=>trivial
end
structure FnOk(a:Addr)(f:MFun):Prop where
 is:∃ o fd body ns,cx.h₀.get? a=some o/\o.cls=.type "function"/\o.data=.func fd/\cx.h₀.CodeRec fd.code fd.qualname/\fd.body=.stmts body/\fd.closure=[]/\fd.globals=mainGlobals/\fd.builtins=builtinsNs /\
  fd.defaults=.none/\fd.kwdefaults=.none/\ckF N f ns fd.params body fd.scope=true
structure ClsOk(c:Nat)(C:Addr):Prop where
 is:∃ nm q Nn bs sn sub col dd k0 k1 k2 k3 k5 mN,cx.h₀.get? C=some (excClassObj nm q C Nn bs [.type "object"] true sn sub false col dd k0 k1 k2 k3 k5 "object.__new__")/\cx.h₀.Ns Nn mN /\
  mN "__getattribute__"=none/\mN "__getattr__"=none/\mN "__setattr__"=none /\
  (∀ (n:Nat) (y:Str),cx.attrs[n]?=some y->mN y=none/\typeLookup (.type "object") y=pure none) /\
  (∀ (y:Str) (m k:Nat),N.meths.lookup y=some m->cx.T.meth c m=some k->∃ fa o fd,cx.fns[k]?=some fa/\mN y=some (.ref fa)/\cx.h₀.get? fa=some o/\o.cls=.type "function"/\o.data=.func fd/\(∀ n:Nat,cx.attrs[n]?≠some y)/\∃ r,typeLookup (.type "object") y=pure r)
structure ClsBase:Prop where
 attr:∀ (y:Str) (n:Nat),N.attrs.lookup y=some n->cx.attrs[n]?=some y
 inj:∀ (i j:Nat) (y:Str),cx.attrs[i]?=some y->cx.attrs[j]?=some y->i=j
 few:cx.attrs.length<=sizeLine
 init:N.meths.lookup ("__init__":Str)=some 0
 ref:∀ (c:Nat) (v:Value),cx.cls[c]?=some v->(cx.T.meth c 0).isSome=true->∃ C,v=.ref C
 cls:∀ (c:Nat) (C:Addr),cx.cls[c]?=some (.ref C)->(cx.T.meth c 0).isSome=true->ClsOk c C
structure ExcOk(C:Addr):Prop where
 is:∃ nm q Nn bs bm hdct sn sub ab col dd k0 k1 k2 k3 k5 mN,cx.h₀.get? C=some (excClassObj nm q C Nn bs bm hdct sn sub ab col dd k0 k1 k2 k3 k5 "ValueError.__new__")/\cx.h₀.Ns Nn mN/\mN "__init__"=none/\sC cx.h₀ Air bm
structure Base:Prop where
 ns:∃ mg mb,cx.h₀.Ns mainGlobals mg/\cx.h₀.Ns builtinsNs mb /\
  (∀ x k,N.funs.lookup x=some k->∃ a,cx.fns[k]?=some a/\mg x=some (.ref a)) /\
  (∀ x k,N.globs.lookup x=some k->∃ v val,cx.T.globs[k]?=some v/\mg x=some val/\∀ ρ h,VR ρ h v val) /\
  (∀ x c,N.clss.lookup x=some c->∃ C,cx.cls[c]?=some C/\(mg x=some C\/(mg x=none/\mb x=some C))) /\
  (∀ p∈Ha,mg p.1=none/\mb p.1=some p.2)
 lim:cx.h₀.NoLimit
 fns:∀ (k:Nat) (a:Addr) (f:MFun),cx.fns[k]?=some a->cx.T.funs[k]?=some f->FnOk a f
 cls:ClsBase
 exc:∀ c:Nat,cx.T.isExc c=true->∃ C,cx.cls[c]?=some (.ref C)/\ExcOk C
theorem D0(h:Ek l x k=true):l.lookup x=some k:=of_decide_eq_true h
theorem T6(h:B6 sc x=true):sc.names.lookup x=some .globalImplicit/\(x == ("__debug__":Str))=false:=⟨of_decide_eq_true (an1 h),not_not (an2 h)⟩
theorem Xu(h:Xr sc ns i x=true) :
 (sc.names.lookup x=some .local\/sc.names.lookup x=some .cell\/sc.names.lookup x=some .free)/\ns[i]?=some (some x)/\(x == ("__debug__":Str))=false/\(x == ("__classdict__":Str))=false :=
 ⟨((eJ _ _).mp (an1 h)).imp of_decide_eq_true Tv,of_decide_eq_true (an1 (an2 h)),not_not (an1 (an2 (an2 h))),not_not (an2 (an2 (an2 h)))⟩
section
theorem Acc(hv:Xr sc ns i x=true)(Φ:Funs):Sim A (Amb.env env sc ns Γ) (eval (.Name x pos) env) (Aj cx.T Φ (.var i) Γ) (Amb.vr):=by
 refine Ae fun G kG=>?_;refine Cf (Xu hv) fun _ hn hd hc=>?_;refine kG ?_;intro H ρ s R p;rw [Aff];cases e:Γ[i]? with
 | none=>trivial
 | some o =>
  cases o with
  | none=>trivial
  | some mv =>
   refine ex1 (p.vals i x mv hn e) fun v zz=>Ad zz fun q r=>?_;refine A5 R fun Q E k=>?_;have k':=k v s.toks r;rcases q with ⟨kd,m,hm,hv⟩ | ⟨kd,c,hc',hv⟩
   . exact rP (wpAny_loadName_local p.st.fn kd hm hv k') hd
   . rcases kd with kd | kd
     . exact rP (wpAny_loadName_cell p.st.fn kd hc' hv k') hd
     . exact rP (wpAny_loadName_free p.st.fn kd hc' hv k' hc) hd
theorem wp_glob(R:Rel H ρ s)(p:EnvSt env sc ρ s.heap)(hg:B6 sc x=true)
 (ng:cx.h₀.Ns mainGlobals mg) (nb:cx.h₀.Ns builtinsNs mb) (hv:mg x=some v\/(mg x=none/\mb x=some v)) (h:Q v s):wpAny (model cx.prog cx.w) A (eval (.Name x pos) env) Q E s:=by
 obtain ⟨h1,h2⟩:=T6 hg;have kd:env.kindOf x=some .globalImplicit:=p.kinds x _ h1;have ng':s.heap.Ns env.globals mg:=by refine rwl p.glob ?_;exact ng.keeps R.base
 have nb':s.heap.Ns env.builtins mb:=by refine rwl p.blt ?_;exact nb.keeps R.base
 refine Calls.Name_function_global p.fn kd ?_ h2;rcases hv with hv | ⟨h0,hv⟩
 . exact Calls.loadGlobal_global ng' hv h
 . exact Calls.loadGlobal_builtin ng' h0 nb' hv h
theorem Xv(B:Base)(hg:B6 sc x=true)(hk:Ek N.globs x k=true)(Φ:Funs):Sim A (Amb.env env sc ns Γ) (eval (.Name x pos) env) (Aj cx.T Φ (.glob k) Γ) (Amb.vr):=by refine Ae fun G kG=>?_;refine ex2 B.ns fun mg mb zz=>G7 zz fun ng nb _ q _=>?_;refine ex2 (q x k (D0 hk)) fun v val zz=>Ap zz fun e1 e2 r=>?_;refine kG ?_;intro H ρ s R p;rw [Abz];refine rwl e1 ?_;exact A5 R fun Q E k=>wp_glob R p.st hg ng nb (.inl e2) (k _ s.toks (r _ _))
theorem R6(h:∀ ρ h,P.P ρ h->VR ρ h a v):Sim A P (truthy v) (Di a) (fun b b'=>Amb.prop (b'=b)):=by
 intro H ρ s R p;have x:=h _ _ p;cases x with
 | bool b=>exact A5 R fun Q E k=>nK (k _ s.toks rfl)
 | _=>trivial
theorem Acd(h:∀ ρ h,P.P ρ h->VR ρ h a v):Sim A P (unaryOp .USub v) (match a with | .int i=>M.ret (Val.int (-i)) | _=>.bad) (Amb.vr):=by
 intro H ρ s R p;have x:=h _ _ p;cases x with
 | int i t=>exact A5 R fun Q E k=>tM (k _ _ (.int _ _))
 | _=>trivial
theorem Ace(h:∀ ρ h,P.P ρ h->VR ρ h a v):Sim A P (unaryOp .Not v) ((Di a).bnd fun b=>M.ret (Val.bool (!b))) (Amb.vr):=by
 intro H ρ s R p;have x:=h _ _ p;cases x with
 | bool b=>exact A5 R fun Q E k=>not_value (nK (k _ s.toks (.bool _)))
 | _=>trivial
end
section
variable{ρ:Rho}{s:bD}
theorem Gz(ih:∀ {m:Val} {v:Value} {d:jH},VR ρ s.heap m v->f m=some d->(∃ as,Reads s.heap v d as)/\d.canLay0=true/\d.depth<=n) :
 ∀ {xs:List Val} {vs:List Value} {ds:List jH},VRs ρ s.heap xs vs->I6 f xs=some ds->(∃ as,ReadsAll s.heap vs ds as)/\lV ds=true/\iX ds<=n:=by
 intro xs;induction xs with
 | nil =>intro vs ds r h;cases r;cases h;exact ⟨⟨_,.nil⟩,rfl,bH _⟩
 | cons x xs hi =>
  intro vs ds r h;cases r with
  | cons a r =>refine Ts (C:=fun ds=>(∃ as,ReadsAll s.heap _ ds as)/\lV ds=true/\iX ds<=n) h fun d ds' e1 e2=>?_;refine Ae fun G kG=>?_;refine Ap (ih a e1) fun zn0 h2 h3=>?_;obtain ⟨as,h1⟩:=zn0;refine Ap (hi r e2) fun zn0 g2 g3=>?_;obtain ⟨bs,g1⟩:=zn0;refine kG ?_;exact ⟨⟨_,.cons h1 g1⟩,(fR _ _).mpr ⟨h2,g2⟩,Nat.max_le.mpr ⟨h3,g3⟩⟩
theorem Mw{α:Type}{p:Prop}[Decidable p]{x y:α}(h:(if p then some x else none)=some y):p/\x=y:=by
 by_cases q:p
 . rw [if_pos q] at h;exact ⟨q,aO h⟩
 . rw [if_neg q] at h;exact Af h
theorem E8(x:VR ρ s.heap m v)(h:Tk m=some d):(∃ as,Reads s.heap v d as)/\d.canLay0=true/\d.depth<=n:=by
 cases x with
 | none=>cases h;exact ⟨⟨_,.none⟩,rfl,bH _⟩
 | bool b=>cases h;exact ⟨⟨_,.bool b⟩,rfl,bH _⟩
 | int i t=>cases h;exact ⟨⟨_,.int i t⟩,rfl,bH _⟩
 | str y t z =>obtain ⟨h1,h2⟩:=Mw h;cases h2;exact ⟨⟨_,.str y t⟩,h1,bH _⟩
 | _=>exact Af h
theorem Ck(R:Rel H ρ s):∀ (n:Nat) {m:Val} {v:Value} {d:jH},VR ρ s.heap m v->A0 H n m=some d->(∃ as,Reads s.heap v d as)/\d.canLay0=true/\d.depth<=n:=by
 intro n;induction n with
 | zero=>exact fun x h=>E8 x h
 | succ n ih =>
  intro m v d x h;cases x with
  | @tup a vs k ms e no z r =>refine Ae fun G kG=>?_;refine ex1 (bY.mp h) fun ds zz=>Ad zz fun h1 zr2=>?_;subst zr2;refine Ap (Gz (n:=n) (fun x h=>ih x h) r h1) fun zn0 g2 g3=>?_;obtain ⟨as,g1⟩:=zn0;refine kG ?_;exact ⟨⟨_,.tuple e rfl rfl (by simpa using g1)⟩,g2,cG g3⟩
  | @loc l p e =>
   have h:(match H[l]? with | some (.list vs)=>(I6 (A0 H n) vs).map .list | _=>none)=some d:=h;cases hl:H[l]? with
   | none=>rw [hl] at h;exact Af h
   | some o =>
    rw [hl] at h;cases o with
    | list xs =>refine Ae fun G kG=>?_;refine ex1 (bY.mp h) fun ds zz=>Ad zz fun h1 zr2=>?_;subst zr2;refine ex2 (R.listAt hl e) fun vs k zz=>Cf zz fun _ g r _=>?_;refine Ap (Gz (n:=n) (fun x h=>ih x h) r h1) fun zn0 g2 g3=>?_;obtain ⟨as,g1⟩:=zn0;refine kG ?_;exact ⟨⟨_,.list g rfl rfl (by simpa using g1)⟩,g2,cG g3⟩
    | _=>exact Af h
  | none=>exact E8 (ρ:=ρ) .none h
  | bool b=>exact E8 (ρ:=ρ) (.bool b) h
  | int i t=>exact E8 (ρ:=ρ) (.int i t) h
  | str y t z=>exact E8 (ρ:=ρ) (.str y t z) h
  | _=>exact Af h
end
section
variable{a b:Val}{v w:Value}{ρ:Rho}{s:bD}
theorem H0(h:d.canLay0=true)(k:d.depth<=Ej):rQ d=true:=by unfold rQ;refine rwl h ?_;exact decide_eq_true (aC k (show 6<=64 by decide))
theorem Aiz(R:Rel H ρ s)(x:VR ρ s.heap a v)(y:VR ρ s.heap b w)(e:Ga H a b=some r)(hu:A.units+100 < cLine)(k:Q (.bool r) s) :
 wpAny (model cx.prog cx.w) A (compareOp .Eq v w) Q E s:=by
 revert k;refine Xo (C:=fun r=>Q (.bool r) s->_) e fun d1 d2 e1 e2 k=>?_;refine Ae fun G kG=>?_;refine Ap (Ck R Ej x e1) fun zn0 g2 g3=>?_;obtain ⟨as,g1⟩:=zn0;refine Ap (Ck R Ej y e2) fun zn0 f2 f3=>?_;obtain ⟨bs,f1⟩:=zn0;refine kG ?_;exact SeqAt.compareEq_shaped g1 f1 (H0 g2 g3) (H0 f2 f3) (Ae7 hu (by decide)) k
theorem Ai0(R:Rel H ρ s)(x:VR ρ s.heap a v)(y:VR ρ s.heap b w)(e:Ga H a b=some r)(hu:A.units+100 < cLine)(k:Q (.bool (!r)) s) :
 wpAny (model cx.prog cx.w) A (compareOp .NotEq v w) Q E s:=by
 revert k;refine Xo (C:=fun r=>Q (.bool (!r)) s->_) e fun d1 d2 e1 e2 k=>?_;refine Ae fun G kG=>?_;refine Ap (Ck R Ej x e1) fun zn0 g2 g3=>?_;obtain ⟨as,g1⟩:=zn0;refine Ap (Ck R Ej y e2) fun zn0 f2 f3=>?_;obtain ⟨bs,f1⟩:=zn0;refine kG ?_;exact SeqAt.compareNe_shaped g1 f1 (H0 g2 g3) (H0 f2 f3) (Ae7 hu (by decide)) k
theorem N1(x:VR ρ s.heap a v)(h:isV a .none=some r):r=(v == .none):=by
 cases x with
 | none=>exact (aO h).symm
 | _=>exact (aO h).symm
theorem Rel.dictAt(R:Rel H ρ s){l:Nat}(hH:H[l]?=some (.dict es))(hρ:ρ[l]?=some p) :
 ∃ xs,p.2=p.1/\s.heap.DictOfH (cellKind) p.1 xs/\DRs ρ s.heap es xs/\es.length<=sizeLine:=by
 have:=R.objs l _ p hH hρ;generalize ho:HObj.dict es=o at this;cases this with
 | list e r z=>exact nomatch ho
 | dict d r z=>cases ho;exact ⟨_,rfl,d,r,z⟩
 | inst _ _ _ _ _ _ _ _ _ _=>exact nomatch ho
 | hid _=>cases ho
theorem Aai:(intKind cx.prog cx.w).is k (.int k t)=true:=by simp [intKind,Value.isInt]
theorem L7(x:VR ρ s.heap a v)(h:C1 a=some k):∃ b,v=.ref b/\(cellKind).is s.heap [k.1,k.2] b/\¬Ay ρ b:=by
 rw [Aad h] at x;cases x with
 | @tup b vs n ms e no z r =>refine Ae fun G kG=>?_;refine ex2 r.two_inv fun u w zz=>Ap zz fun ev r1 r2=>?_;obtain ⟨t1,e1⟩:=r1.int_inv;obtain ⟨t2,e2⟩:=r2.int_inv;refine kG ?_;exact ⟨b,rfl,⟨_,vs.toArray,n,e,rfl,rfl,ev▸e1▸e2▸.cons Aai (.cons Aai .nil)⟩,no⟩
theorem DRs.atKey{es:List (Key × Val)}{xs:List (List Int × Addr × Value)}(r:DRs ρ s.heap es xs)(k:Key) :
 match C3 es k,atKey xs [k.1,k.2] with
 | some m,some p=>VR ρ s.heap m p.2
 | none,none=>True
 | _,_=>False:=by
 induction r with
 | nil=>simp [C3,dX]
 | @cons k' v' b x es xs a n _ ih =>
  by_cases q:k'=k
  . refine rwr q ?_
    simp [C3,dX,a]
  . have q':¬([k'.1,k'.2]=[k.1,k.2]):=fun e=>q (by simp only [kB,and_true] at e;exact iY e.1 e.2)
    have q2:(k == k')=false:=by simpa using fun e:k=k'=>q e.symm
    have e1:C3 ((k',v') :: es) k=C3 es k:=by simp [C3,bN,q2]
    have e2:dX (([k'.1,k'.2],b,x) :: xs) [k.1,k.2]=dX xs [k.1,k.2]:=by unfold dX;refine rwl rA ?_;simp only [decide_eq_false q']
    refine rwl e1 (rwl e2 ?_)
    exact ih
theorem DRs.isSome(r:DRs ρ s.heap es xs)(k:Key):(dX xs [k.1,k.2]).isSome=(C3 es k).isSome:=by have:=r.atKey k;cases h1:C3 es k <;> cases h2:dX xs [k.1,k.2] <;> simp_all
theorem D1(R:Rel H ρ s){l:Nat}(hρ:ρ[l]?=some p):(p.1 == sysModules)=false:=by obtain ⟨o,e⟩:=R.sys;have:=(R.new p (aH hρ)).1;simpa using fun w:p.1=sysModules=>by rw [w,e] at this;exact nomatch this
theorem Aaj(R:Rel H ρ s)(x:VR ρ s.heap a v)(y:VR ρ s.heap b w)(e:inV a b H=some r){C:Value->Value->Bool->Prop}
 (k1:∀ {p d ds as bs},Reads s.heap (.ref p) (.list ds) bs->Reads s.heap v d as->lV ds=true->d.canLay0=true->min (iX ds) d.depth<=6->C v (.ref p) (ds.any fun y=>dE y d))
 (k2:∀ {p:Addr} {bb:Addr} {kk:Key} {xs},(cellKind).is s.heap [kk.1,kk.2] bb->(p == sysModules)=false->s.heap.DictOfH (cellKind) p xs->C (.ref bb) (.ref p) (dX xs [kk.1,kk.2]).isSome):C v w r:=by
 cases y with
 | @loc l p hp =>
  refine Aid (C:=C v (.ref p.1)) e (fun ys hl e=>?_) fun es k hl ek=>?_
  . refine ex2 (R.listAt hl hp) fun vs n zz=>Cf zz fun _ g rr _=>?_;refine Afj (C:=C v (.ref p.1)) e fun d ds e1 e2=>?_;refine Ae fun G kG=>?_;refine Ap (Ck R Ej x e1) fun zn0 g2 g3=>?_;obtain ⟨as,g1⟩:=zn0;refine Ap (Gz (n:=Ej) (fun x h=>Ck R Ej x h) rr e2) fun zn0 f2 f3=>?_;obtain ⟨bs,f1⟩:=zn0;refine kG ?_;exact k1 (.list g rfl rfl (by simpa using f1)) g1 f2 g2 (aC (gU _ _) g3)
  . refine ex1 (R.dictAt hl hp) fun xs zz=>Cf zz fun _ D rr _=>?_;refine ex1 (L7 x ek) fun bb zz=>Ap zz fun hr0 hk _=>?_;refine rwl hr0 ?_;exact rr.isSome k▸k2 hk (D1 R hp) D
 | _=>exact Af e
theorem Ai1(R:Rel H ρ s)(x:VR ρ s.heap a v)(y:VR ρ s.heap b w)(e:inV a b H=some r)(hu:A.units+100 < cLine)(k:∀ tk,Q (.bool r) { s with toks:=tk }) :
 wpAny (model cx.prog cx.w) A (compareOp .In v w) Q E s :=
 Aaj (C:=fun v w r=>(∀ tk,Q (.bool r) { s with toks:=tk })->wpAny (model cx.prog cx.w) A (compareOp .In v w) Q E s) R x y e
  (fun f g f2 g2 z k=>SeqAt.in_list_reads f g f2 g2 (aB (aP z _) (Ae7 (m:=7) hu (by decide))) (k s.toks))
  (fun hk q D k=>wpAny_in_heap (knd:=cellKind) (fK (o9 hu)) hk q D (k _)) k
theorem Xw(R:Rel H ρ s)(x:VR ρ s.heap a v)(y:VR ρ s.heap b w)(e:inV a b H=some r)(hu:A.units+100 < cLine)(k:∀ tk,Q (.bool (!r)) { s with toks:=tk }) :
 wpAny (model cx.prog cx.w) A (compareOp .NotIn v w) Q E s :=
 Aaj (C:=fun v w r=>(∀ tk,Q (.bool (!r)) { s with toks:=tk })->wpAny (model cx.prog cx.w) A (compareOp .NotIn v w) Q E s) R x y e
  (fun f g f2 g2 z k=>SeqAt.notIn_list_reads f g f2 g2 (aB (aP z _) (Ae7 (m:=7) hu (by decide))) (k s.toks))
  (fun hk q D k=>tK (knd:=cellKind) (fK (o9 hu)) hk q D (k _)) k
theorem T7(h:∀ m d,f m=some d->g m=some d):∀ {xs:List Val} {ds:List jH},I6 f xs=some ds->I6 g xs=some ds:=by
 intro xs;induction xs with
 | nil =>intro ds e;exact e
 | cons x xs ihh =>
  intro ds e;refine Ts (C:=fun ds=>I6 g (x :: xs)=some ds) e fun d ds' e1 e2=>?_;show (match g x,I6 g xs with
   | some d,some ds=>some (d :: ds)
   | _,_=>none)=_
  exact rwl (h _ _ e1) (rwl (ihh e2) rfl)
theorem Qt:∀ (n:Nat) (m:Val) (d:jH),A0 [] n m=some d->A0 H n m=some d:=by
 intro n;induction n with
 | zero =>intro m d e;cases m <;> exact e
 | succ n ihh =>
  intro m d e;cases m with
  | tup vs =>refine ex1 (bY.mp e) fun ds zz=>Ad zz fun e1 e2=>?_;exact bY.mpr ⟨ds,T7 (ihh) e1,e2⟩
  | loc l=>exact Af e
  | _=>exact e
theorem eq_nil(h:Ga [] a b=some r):Ga H a b=some r:=by refine Xo (C:=fun r=>Ga H a b=some r) h fun d1 d2 e1 e2=>?_;delta Ga;exact rwl (Qt _ _ _ e1) (rwl (Qt _ _ _ e2) rfl)
theorem VR.tup_inv(x:VR ρ h (.tup ms) v):∃ p vs n,v=.ref p/\h.get? p=some (T5 vs n)/\VRs ρ h ms vs:=by cases x;exact ⟨_,_,_,rfl,by assumption,by assumption⟩
theorem H9(R:Rel H ρ s)(x:VR ρ s.heap a v)(y:VR ρ s.heap b w)(e:Ga H a b=some r)(hu:A.units+10 < cLine)(k:Q r s) :
 wpAny (model cx.prog cx.w) A (eqBool v w) Q E s:=by
 revert k;refine Xo (C:=fun r=>Q r s->_) e fun d1 d2 e1 e2 k=>?_;refine Ae fun G kG=>?_;refine Ap (Ck R Ej x e1) fun zn0 g2 g3=>?_;obtain ⟨as,g1⟩:=zn0;refine Ap (Ck R Ej y e2) fun zn0 f2 f3=>?_;obtain ⟨bs,f1⟩:=zn0;refine kG ?_;exact SeqAt.eqBoolOverData _ _ _ _ _ _ _ _ _ _ _ _ g1 f1 g2 f2 (aB (aP (aC (lA _ _) g3) _) (show A.units+6 < cLine by exact Ae7 hu (by decide))) k
theorem Aak(R:Rel H ρ s):∀ (n:Nat) (A:fI) (a b:Val) (v w:Value) (r:Bool) (Q:Value->bD->Prop) (E:Value->bD->Prop),VR ρ s.heap a v->VR ρ s.heap b w->Lq n a b=some r->A.units+20+n < cLine->Q (.bool r) s->wpAny (model cx.prog cx.w) A (richCompare .Lt v w) Q E s:=by
 intro n;induction n with
 | zero =>intro _ _ _ _ _ _ _ _ _ _ h _ _;exact Af h
 | succ n ihh =>
  intro A a b v w r Q E x y h hu k;refine Aic (C:=fun a b r=>VR ρ s.heap a v->VR ρ s.heap b w->Q (.bool r) s->_) h (fun i j x y k=>?_) (fun ms ks h x y k=>?_) x y k
  . obtain ⟨t,hr0⟩:=x.int_inv;refine rwl hr0 ?_;obtain ⟨u,hr1⟩:=y.int_inv;refine rwl hr1 ?_;exact tP k
  . obtain ⟨p,vs,n1,hr2,g1,r1⟩:=x.tup_inv;refine rwl hr2 ?_;obtain ⟨q,ws,n2,hr3,g2,r2⟩:=y.tup_inv;refine rwl hr3 ?_;have T1:s.TypeIs (.ref p) "tuple":=⟨_,g1,rfl⟩;have T2:s.TypeIs (.ref q) "tuple":=⟨_,g2,rfl⟩;refine wpAny_richCompare_same_room (T:="tuple") T1 T2 sJ (fX sJ T1 F.entry_tuple_lt ?_ (F.args_tuple_lt_2 _ _)) (aR (aA (bX (by decide)) (aG _ _)) hu);have fin:∀ (z:Bool),z=r->(∃ v,(Fin.done (.ret (.bool z)):Fin)=.done (.ret v)/\v≠.notImplemented/\Q v s):=fun z e=>⟨.bool z,rfl,by simp,by refine rwl e ?_;exact k⟩;show wpAny _ _ (isInstance (.ref q) (.type "tuple")>>=_) _ _ s;refine aF (sQ T2 isSubtype_tuple_tuple ?_);simp only [fP,fF,if_false];refine aF (rM g1 rfl ?_);refine aF (rM g2 rfl ?_);refine aF ?_;refine wpAny_forIn_list _
     (fun rest z s'=>z.1=none/\s'=s/\∃ ms' ks' vs' ws',rest=List.zip vs' ws'/\VRs ρ s.heap ms' vs'/\VRs ρ s.heap ks' ws'/\lts (Ga []) (Lq n) ms' ks'=some r/\decide (vs'.length < ws'.length)=decide (vs.toArray.size < ws.toArray.size))
     _ ?_ ?_ _ _ ⟨rfl,rfl,ms,ks,vs,ws,rfl,r1,r2,h,by simp⟩
    . intro ce rest z s' zz;obtain ⟨hz,hs',ms',ks',vs',ws',hzip,q1,q2,hl,hlen⟩:=zz;obtain ⟨c,e⟩:=ce;refine rwl hs' ?_;clear hs' s';cases q1 with
      | nil=>simp at hzip
      | cons a1 q1 =>
       cases q2 with
       | nil=>simp at hzip
       | cons a2 q2 =>
        simp only [lW,kB,nO] at hzip;obtain ⟨⟨rfl,rfl⟩,rfl⟩:=hzip;rcases Qo hl with ⟨he,hl'⟩ | ⟨he,hl'⟩
        . refine aF (H9 R a1 a2 (eq_nil he) (by simp only [iK];exact o12 hu) ?_);simp only [fP,fF,if_false];exact aU ⟨rfl,rfl,_,_,_,_,rfl,q1,q2,hl',by simpa using hlen⟩
        . refine aF (H9 R a1 a2 (eq_nil he) (by simp only [iK];exact o12 hu) ?_);simp only [jR,if_true];refine aF (rN ?_);refine aF (ihh A.in1 _ _ _ _ r _ _ a1 a2 hl' (by simp only [iK];exact o13 hu) ?_);exact aF (aU (aU (aU (fin r rfl))))
    . intro z s' zz;obtain ⟨hz,hs',ms',ks',vs',ws',hzip,q1,q2,hl,hlen⟩:=zz;obtain ⟨z1,z2⟩:=z;refine rwl hs' ?_;clear hs' s';simp only at hz;refine rwl hz ?_;refine aU ?_;refine fin _ ?_;refine rwr hlen ?_;cases q1 with
      | nil =>
       cases q2 with
       | nil=>exact aO hl
       | cons a2 q2=>exact aO hl
      | cons a1 q1 =>
       cases q2 with
       | nil=>exact aO hl
       | cons a2 q2=>simp at hzip
theorem Acf{C:Value->Value->Bool->Prop}(e:Afd p a b=some r)(x1:VR ρ h a v)(x2:VR ρ h b w)(k:∀ x y t u,C (.int x t) (.int y u) (p x y)):C v w r:=by refine Afk (C:=fun a b r=>VR ρ h a v->VR ρ h b w->C v w r) e (fun x y x1 x2=>?_) x1 x2;obtain ⟨t,e1⟩:=x1.int_inv;obtain ⟨u,e2⟩:=x2.int_inv;exact e1▸e2▸k _ _ _ _
theorem Af4{C:Value->Prop}(e:isV a b=some r)(x1:VR ρ s.heap a v)(x2:VR ρ s.heap b w)(k0:r=(v == .none)->C .none):C w:=by
 cases b with
 | none=>cases x2;exact k0 (N1 x1 e)
 | _=>exact Af e
theorem Mx(hu:A.units+100 < cLine)(h1:∀ ρ h,P.P ρ h->VR ρ h a v)(h2:∀ ρ h,P.P ρ h->VR ρ h b w) :
 Sim A P (compareOp (Ju op) v w) ((M.look (Cu op a b)).bnd fun r=>M.ret (Val.bool r)) (Amb.vr):=by
 intro H ρ s R p;have x1:=h1 _ _ p;have x2:=h2 _ _ p;cases e:Cu op a b H with
 | none=>refine rwl (Dt (show M.look (Cu op a b) H=.bad by unfold M.look;rw [e])) ?_;trivial
 | some r =>
  refine rwl (Eh (show M.look (Cu op a b) H=.ok r H by unfold M.look;rw [e])) ?_;refine A5 R fun Q E k=>?_;have k':∀ tk,Q (.bool r) { s with toks:=tk }:=fun tk=>k _ tk (.bool r);cases op with
  | eq=>exact Aiz R x1 x2 e hu (k' s.toks)
  | ne =>refine ex1 (Kg e) fun r' zz=>Ad zz fun e' zr2=>?_;subst zr2;exact Ai0 R x1 x2 e' hu (k' s.toks)
  | lt=>exact Aak R Ej A a b v w r _ _ x1 x2 e (by show A.units+20+6 < cLine;exact o14 hu) (k' s.toks)
  | le=>exact Acf (C:=fun v w r=>Q (.bool r) s->wpAny (model cx.prog cx.w) A (compareOp .LtE v w) Q E s) e x1 x2 (fun _ _ _ _=>tS) (k' s.toks)
  | gt=>exact Acf (C:=fun v w r=>Q (.bool r) s->wpAny (model cx.prog cx.w) A (compareOp .Gt v w) Q E s) e x1 x2 (fun _ _ _ _=>tT) (k' s.toks)
  | ge=>exact Acf (C:=fun v w r=>Q (.bool r) s->wpAny (model cx.prog cx.w) A (compareOp .GtE v w) Q E s) e x1 x2 (fun _ _ _ _=>tU) (k' s.toks)
  | is=>exact Af4 (C:=fun w=>wpAny (model cx.prog cx.w) A (compareOp .Is v w) Q E s) e x1 x2 (fun h=>is_none (h▸k' s.toks))
  | isNot =>refine ex1 (Kg (show Tm true (isV a b)=some r from e)) fun r' zz=>Ad zz fun e' er=>?_;exact Af4 (C:=fun w=>wpAny (model cx.prog cx.w) A (compareOp .IsNot v w) Q E s) e' x1 x2 (fun h=>isNot_none (h▸er▸k' s.toks))
  | isin=>exact Ai1 R x1 x2 e hu k'
  | notin =>refine ex1 (Kg (show Tm true (inV a b H)=some r from e)) fun r' zz=>Ad zz fun e' zr2=>?_;subst zr2;exact Xw R x1 x2 e' hu k'
end
end Mine.Internal
namespace Mine.Internal
open PySem PyProof.Rows
theorem b63{i:Int}{n:Nat}(z:n<=16777216)(h:i < n):i < 2 ^ 63:=Int.lt_trans (gA h (dD.mpr z)) (by decide)
theorem l63{n:Nat}(z:n<=16777216):(n:Int) < 2 ^ 63:=cU (dD.mpr z) (by decide)
theorem n63{n:Nat}(z:n<=16777216)(h:-(n:Int)<=i):-2 ^ 63<=i:=cW (cW (by decide) (rS (dD.mpr z))) h
theorem rs1:(if 0 < i then i - 0 else 0)=((i.toNat:Nat):Int):=by
 by_cases h:0 < i
 . refine rwl (if_pos h) ?_;rw [Int.sub_zero];exact rwl (fQ (iG h)) rfl
 . refine rwl (if_neg h) (rwl (Int.toNat_of_nonpos (eI.mp h)) ?_);rfl
theorem Er(slice:Expr)(o i:Value):∃ ops,subscripted slice false o i=operate ops (getItem o i):=by
 have h:∃ ops,operate [o,i] (getItem o i)=operate ops (getItem o i):=⟨_,rfl⟩;cases slice with
 | Slice a b c d =>
  cases c with
  | none=>exact ⟨_,rfl⟩
  | some _=>exact h
 | _=>exact h
section
set_option tactic.hygienic true in
theorem Pf(g:s.heap.get? l=some (B4 vs n))(z:vs.length<=sizeLine)(hp:C2 k vs.length=some p)(hx:vs[p]?=some x)(h:Q x s) :
 wpAny (model cx.prog cx.w) A (getItem (.ref l) (.int k u)) Q E s:=by
 have L:s.heap.IsList l vs.toArray:=⟨_,g,rfl,n,rfl⟩;rw [eC] at z;unfold C2 at hp;split at hp
 . split at hp
   . cases hp;rename_i h0 h1;exact wpAny_getItem_list L h0 (b63 z h1) (by simpa using hx) h
   . exact Af hp
 . split at hp
   . cases hp;rename_i h0 h1;exact wpAny_getItem_list_neg L (mC.mp h0) (by simpa using h1) (n63 z h1) (by simpa using hx) h
   . exact Af hp
theorem Qu(g:s.heap.get? l=some (B4 vs n))(rr:VRs ρ s.heap xs vs)(z:xs.length<=sizeLine)
 (e:((C2 i xs.length).bind fun p=>xs[p]?)=some r) (k:∀ x tk,VR ρ s.heap r x->Q x { s with toks:=tk }):wpAny (model cx.prog cx.w) A (subscriptTail value slice (.ref l) (.int i u)) Q E s:=by
 refine Ae fun G kG=>?_;obtain ⟨ops,hops⟩:=Er slice (.ref l) (.int i u);refine ex1 (dC.mp e) fun pl zz=>Ad zz fun e1 e2=>?_;refine ex1 (rr.get e2) fun x zz=>Ad zz fun ex vx=>?_;refine kG ?_;rw [rr.length] at z e1;exact tail_any (T:="list") (Heap.IsList.typeIs (s:=s) ⟨_,g,rfl,n,rfl⟩) PySem.slot_list_getitem.lookup (Pf g z e1 ex (k _ s.toks vx)) hops
theorem Xx{l:Nat}(hu:A.units+100 < cLine)(R:Rel H ρ s)(hl:H[l]?=some (.dict es))(hq:ρ[l]?=some q)(x2:VR ρ s.heap b w)(e:((C1 b).bind (C3 es))=some r)
 (k:∀ x tk,VR ρ s.heap r x->Q x { s with toks:=tk }):wpAny (model cx.prog cx.w) A (subscriptTail value slice (.ref q.1) w) Q E s:=by
 refine Ae fun G kG=>?_;obtain ⟨ops,hops⟩:=Er slice (.ref q.1) w;refine ex1 (dC.mp e) fun kk zz=>Ad zz fun e1 e2=>?_;refine ex1 (R.dictAt hl hq) fun xs zz=>Cf zz fun _ D rr _=>?_;refine ex1 (L7 x2 e1) fun bb zz=>Ap zz fun zr1 hk _=>?_;subst zr1;refine kG ?_;have at':=rr.atKey kk;rw [e2] at at';cases hp:atKey xs [kk.1,kk.2] with
 | none=>rw [hp] at at';exact at'.elim
 | some pr =>rw [hp] at at';exact tail_any (T:="dict") D.typeIs PySem.slot_dict_getitem.lookup (wpAny_getItem_heap (knd:=cellKind) (fK (by clear at' rr;exact o9 hu)) hk D hp (k _ _ at')) hops
theorem sub_tup(g:s.heap.get? t=some (T5 vs n))(rr:VRs ρ s.heap ms vs)(z:ms.length<=sizeLine)
 (h0:0<=i) (e:ms[i.toNat]?=some r) (k:∀ x tk,VR ρ s.heap r x->Q x { s with toks:=tk }):wpAny (model cx.prog cx.w) A (subscriptTail value slice (.ref t) (.int i u)) Q E s:=by
 refine Ae fun G kG=>?_;obtain ⟨ops,hops⟩:=Er slice (.ref t) (.int i u);refine ex1 (rr.get e) fun x zz=>Ad zz fun ex vx=>?_;refine kG ?_;have lt:=(aE.mp ex).1;rw [rr.length,eC] at z;refine tail_any (T:="tuple") (uB (s:=s) ⟨_,g,rfl,n,rfl⟩) slot_tuple_getitem.lookup ?_ hops;exact getItem_tuple (items:=vs.toArray) ⟨_,g,rfl,n,rfl⟩ (cW (by decide) h0) (b63 z ((iF h0).mp lt)) (seqIndex_of h0 (by simp only [dN];exact (iF h0).mp lt)) (by simpa using ex) (k _ s.toks vx)
theorem VR.tup_inv'(x:VR ρ h (.tup ms) v):∃ p vs n,v=.ref p/\h.get? p=some (T5 vs n)/\VRs ρ h ms vs/\ms.length<=sizeLine:=by cases x;exact ⟨_,_,_,rfl,by assumption,by assumption,by assumption⟩
theorem VR.script_inv(x:VR ρ h (.script ns) v):∃ p vs n,v=.ref p/\cx.h₀.get? p=some (B4 vs n)/\VRs ρ h (ns.map .int) vs/\ns.length<=sizeLine:=by cases x;exact ⟨_,_,_,rfl,by assumption,by assumption,by assumption⟩
theorem Pg{ns:List Int}(e:((C2 i ns.length).bind fun p=>(ns[p]?).map Val.int)=some r):((C2 i (ns.map Val.int).length).bind fun p=>(ns.map Val.int)[p]?)=some r:=by rw [aM];refine rwr e ?_;congr 1;funext p;exact rwl aX rfl
set_option tactic.hygienic true in
theorem Ph(hu:A.units+100 < cLine)(h1:∀ ρ h,P.P ρ h->VR ρ h a v)(h2:∀ ρ h,P.P ρ h->VR ρ h b w):Sim A P (subscriptTail value slice v w) (Dh a b) (Amb.vr):=by
 refine Sim.look fun H ρ s r R p e Q E k=>?_;have x1:=h1 _ _ p;have x2:=h2 _ _ p;clear h1 h2 p;cases a with
 | loc l =>
  refine ex1 x1.loc_inv fun q zz=>Ad zz fun hq hr0=>?_;refine rwl hr0 ?_;cases hl:H[l]? with
  | none=>dsimp only at e;rw [hl] at e;exact Af e
  | some o =>
   dsimp only at e;rw [hl] at e;cases o with
   | list xs =>
    cases b with
    | int i =>obtain ⟨u,hr1⟩:=x2.int_inv;refine rwl hr1 ?_;refine ex2 (R.listAt hl hq) fun vs n zz=>Cf zz fun _ g rr z=>?_;exact Qu g rr z e k
    | _=>exact Af e
   | dict es=>exact Xx hu R hl hq x2 e k
   | _=>exact Af e
 | tup ms =>
  cases b with
  | int i =>
   obtain ⟨u,rfl⟩:=x2.int_inv;refine ex3 x1.tup_inv' fun t vs n zz=>Cf zz fun zr3 g rr z=>?_;subst zr3;have e:(if 0<=i then ms[i.toNat]? else none)=some r:=e;split at e
   . rename_i h0;exact sub_tup g rr z h0 e k
   . exact Af e
  | _=>exact Af e
 | script ns =>
  cases b with
  | int i =>obtain ⟨u,rfl⟩:=x2.int_inv;refine ex3 x1.script_inv fun t vs n zz=>Cf zz fun zr3 g rr z=>?_;subst zr3;exact Qu (R.base _ _ g) rr (by rw [aM];exact z) (Pg e) k
  | _=>exact Af e
 | _=>exact Af e
end
end Mine.Internal
namespace Mine.Internal
open PySem
section
noncomputable def Ai2(s:bD)(v:Value):Kd->Prop
 | .none=>v=.none
 | .bool=>∃ b,v=.bool b
 | .int=>∃ i t,v=.int i t
 | .str=>∃ y t,v=.str y t
 | .tuple=>∃ p o,v=.ref p/\s.heap.get? p=some o/\o.cls=.type "tuple"
 | .list=>∃ p o,v=.ref p/\s.heap.get? p=some o/\o.cls=.type "list"
 | .dict=>∃ p o,v=.ref p/\s.heap.get? p=some o/\o.cls=.type "dict"
theorem Ai3(R:Rel H ρ s)(x:VR ρ s.heap a v)(e:Ql H a=some k):Ai2 s v k:=by
 cases x with
 | none=>cases e;rfl
 | bool b=>cases e;exact ⟨_,rfl⟩
 | int i t=>cases e;exact ⟨_,_,rfl⟩
 | str y t z=>cases e;exact ⟨_,_,rfl⟩
 | tup g _ _ _=>cases e;exact ⟨_,_,rfl,g,rfl⟩
 | script g _ _=>cases e;exact ⟨_,_,rfl,R.base _ _ g,rfl⟩
 | @loc l p hp =>
  refine Aie (C:=Ai2 s (.ref p.1)) e (fun xs hl=>?_) fun es hl=>?_
  . refine Ae fun G kG=>?_;refine ex2 (R.listAt hl hp) fun vs n zz=>Ap zz fun _ g _=>?_;refine kG ?_;exact ⟨_,_,rfl,g,rfl⟩
  . refine Ae fun G kG=>?_;refine ex1 (R.dictAt hl hp) fun xs zz=>Ap zz fun _ D _=>?_;refine ex3 D fun o _ _ zz=>Ap zz fun g ex _=>?_;refine kG ?_;exact ⟨_,_,rfl,g,ex.1⟩
 | rng=>exact Af e
 | exc=>exact Af e
noncomputable def Xy:Ty->Value
 | .int=>.type "int"
 | .bool=>.type "bool"
 | .str=>.type "str"
 | .tuple=>.type "tuple"
 | .list=>.type "list"
 | .cls _=>.none
theorem Af5(R:Rel H ρ s)(x:VR ρ s.heap a v)(e:Ql H a=some k)(ht:∀ c,t≠.cls c)(q:∀ tk,Q (.bool (Aac t k)) { s with toks:=tk }) :
 wpAny (model cx.prog cx.w) A (call (.builtin "isinstance") [v,Xy t]) Q E s:=by
 have d:=Ai3 R x e;cases k <;> cases t;case none.cls | bool.cls | int.cls | str.cls | tuple.cls | list.cls | dict.cls=>exact absurd rfl (ht _);all_goals dsimp only [Ai2] at d
 case none.int=>subst d;exact IsiPair.NoneType_int (q _)
 case none.bool=>subst d;exact IsiPair.NoneType_bool (q _)
 case none.str=>subst d;exact IsiPair.NoneType_str (q _)
 case none.tuple=>subst d;exact IsiPair.NoneType_tuple (q _)
 case none.list=>subst d;exact IsiPair.NoneType_list (q _)
 case bool.int=>obtain ⟨b,rfl⟩:=d;exact IsiPair.bool_int (q _)
 case bool.bool=>obtain ⟨b,rfl⟩:=d;exact IsiPair.bool_bool (q _)
 case bool.str=>obtain ⟨b,rfl⟩:=d;exact IsiPair.bool_str (q _)
 case bool.tuple=>obtain ⟨b,rfl⟩:=d;exact IsiPair.bool_tuple (q _)
 case bool.list=>obtain ⟨b,rfl⟩:=d;exact IsiPair.bool_list (q _)
 case int.int=>refine ex2 d fun i u zr2=>?_;subst zr2;exact IsiPair.int_int (q _)
 case int.bool=>refine ex2 d fun i u zr2=>?_;subst zr2;exact IsiPair.int_bool (q _)
 case int.str=>refine ex2 d fun i u zr2=>?_;subst zr2;exact IsiPair.int_str (q _)
 case int.tuple=>refine ex2 d fun i u zr2=>?_;subst zr2;exact IsiPair.int_tuple (q _)
 case int.list=>refine ex2 d fun i u zr2=>?_;subst zr2;exact IsiPair.int_list (q _)
 case str.int=>refine ex2 d fun i u zr2=>?_;subst zr2;exact IsiPair.str_int (q _)
 case str.bool=>refine ex2 d fun i u zr2=>?_;subst zr2;exact IsiPair.str_bool (q _)
 case str.str=>refine ex2 d fun i u zr2=>?_;subst zr2;exact IsiPair.str_str (q _)
 case str.tuple=>refine ex2 d fun i u zr2=>?_;subst zr2;exact IsiPair.str_tuple (q _)
 case str.list=>refine ex2 d fun i u zr2=>?_;subst zr2;exact IsiPair.str_list (q _)
 case tuple.int=>refine ex2 d fun p o zz=>Ap zz fun zr2 g c=>?_;subst zr2;exact IsiPair.tuple_int g c (q _)
 case tuple.bool=>refine ex2 d fun p o zz=>Ap zz fun zr2 g c=>?_;subst zr2;exact IsiPair.tuple_bool g c (q _)
 case tuple.str=>refine ex2 d fun p o zz=>Ap zz fun zr2 g c=>?_;subst zr2;exact IsiPair.tuple_str g c (q _)
 case tuple.tuple=>refine ex2 d fun p o zz=>Ap zz fun zr2 g c=>?_;subst zr2;exact IsiPair.tuple_tuple g c (q _)
 case tuple.list=>refine ex2 d fun p o zz=>Ap zz fun zr2 g c=>?_;subst zr2;exact IsiPair.tuple_list g c (q _)
 case list.int=>refine ex2 d fun p o zz=>Ap zz fun zr2 g c=>?_;subst zr2;exact IsiPair.list_int g c (q _)
 case list.bool=>refine ex2 d fun p o zz=>Ap zz fun zr2 g c=>?_;subst zr2;exact IsiPair.list_bool g c (q _)
 case list.str=>refine ex2 d fun p o zz=>Ap zz fun zr2 g c=>?_;subst zr2;exact IsiPair.list_str g c (q _)
 case list.tuple=>refine ex2 d fun p o zz=>Ap zz fun zr2 g c=>?_;subst zr2;exact IsiPair.list_tuple g c (q _)
 case list.list=>refine ex2 d fun p o zz=>Ap zz fun zr2 g c=>?_;subst zr2;exact IsiPair.list_list g c (q _)
 case dict.int=>refine ex2 d fun p o zz=>Ap zz fun zr2 g c=>?_;subst zr2;exact IsiPair.dict_int g c (q _)
 case dict.bool=>refine ex2 d fun p o zz=>Ap zz fun zr2 g c=>?_;subst zr2;exact IsiPair.dict_bool g c (q _)
 case dict.str=>refine ex2 d fun p o zz=>Ap zz fun zr2 g c=>?_;subst zr2;exact IsiPair.dict_str g c (q _)
 case dict.tuple=>refine ex2 d fun p o zz=>Ap zz fun zr2 g c=>?_;subst zr2;exact IsiPair.dict_tuple g c (q _)
 case dict.list=>refine ex2 d fun p o zz=>Ap zz fun zr2 g c=>?_;subst zr2;exact IsiPair.dict_list g c (q _)
noncomputable def My:BF->Value
 | .len=>.builtin "len"
 | .range=>.type "range"
 | .list=>.type "list"
 | .sorted=>.builtin "sorted"
 | .max2=>.builtin "max"
 | .int=>.type "int"
theorem Xz(R:Rel H ρ s)(x:VR ρ s.heap a v)(e:Cm a H=some xs) :
 (∃ p vs n,v=.ref p/\s.heap.get? p=some (B4 vs n)/\VRs ρ s.heap xs vs/\xs.length<=sizeLine)\/(∃ p vs n,v=.ref p/\s.heap.get? p=some (T5 vs n)/\VRs ρ s.heap xs vs/\xs.length<=sizeLine):=by
 cases x with
 | @tup p vs n ms g no z r=>cases e;exact .inr ⟨_,_,_,rfl,g,r,z⟩
 | @script p vs n ns g z r=>cases e;exact .inl ⟨_,_,_,rfl,R.base _ _ g,r,by rw [aM];exact z⟩
 | @loc l p hp =>refine Ae fun G kG=>?_;refine ex2 (R.listAt (Kh e) hp) fun vs n zz=>Cf zz fun _ g r z=>?_;refine kG ?_;exact .inl ⟨_,_,_,rfl,g,r,z⟩
 | _=>exact Af e
theorem Acg(h1:∀ ρ h,P.P ρ h->VR ρ h a v):Sim A P (call (.builtin "len") [v]) (bfV .len [a]) (Amb.vr):=by
 refine Sim.look fun H ρ s r R p e Q E k=>?_;have x:=h1 _ _ p;have gen:∀ xs,Cm a H=some xs->r=.int xs.length->wpAny (model cx.prog cx.w) A (call (.builtin "len") [v]) Q E s:=by
  intro xs e' hr;subst hr;rcases Xz R x e' with ⟨p,vs,n,rfl,g,rr,z⟩ | ⟨p,vs,n,rfl,g,rr,z⟩
  . rw [eC] at z;rw [rr.length] at z k;refine tR (items:=vs.toArray) ⟨_,g,rfl,n,rfl⟩ (l63 z) ?_;simp only [dN];exact k _ _ (.int _ _)
  . rw [eC] at z;rw [rr.length] at z k;refine tQ (items:=vs.toArray) ⟨_,g,rfl,n,rfl⟩ (l63 z) ?_;simp only [dN];exact k _ _ (.int _ _)
 cases x with
 | _ =>simp only [bY] at e;refine ex1 e fun xs zz=>Ad zz fun e1 zr2=>?_;subst zr2;exact gen xs e1 rfl
theorem T8(h1:∀ ρ h,P.P ρ h->VR ρ h a v):Sim A P (call (.type "range") [v]) (bfV .range [a]) (Amb.vr):=by
 intro H ρ s R p;have x:=h1 _ _ p;cases x with
 | int i t =>
  show A8 A ((if -1073741824<=i/\i<=1073741824 then M.ret (Val.rng i) else M.bad) H) _ _ ρ s;by_cases q:-1073741824<=i/\i<=1073741824
  . refine rwl (if_pos q) ?_;have F:=Full.push ρ s.heap { cls:=.type "range",data:=.fields #[.int 0 s.toks,.int i t,.int 1 (s.toks+1)] };exact call_range_1 ⟨ρ,F,R.push _ _,.rng (IsRange.new _ _ _ _ _ _ _) (R.fresh_not (Ar _)) (cW (by decide) q.1) (cU q.2 (by decide))⟩
  . refine rwl (if_neg q) ?_;trivial
 | _=>trivial
theorem X0(hh:A.handled=none)(h1:∀ ρ h,P.P ρ h->VR ρ h a v)(h2:∀ ρ h,P.P ρ h->VR ρ h b w):Sim A P (call (.builtin "max") [v,w]) (bfV .max2 [a,b]) (Amb.vr):=by
 intro H ρ s R p;have x:=h1 _ _ p;have y:=h2 _ _ p;cases x with
 | int i t =>
  cases y with
  | int j u =>
   refine max_two_ints hh fun h' tk kp=>?_;refine ⟨ρ,Full.more kp,R.more kp,?_⟩;by_cases q:j > i
   . refine rwl (if_pos q) (rwl (if_pos q) ?_);exact .int _ _
   . refine rwl (if_neg q) (rwl (if_neg q) ?_);exact .int _ _
  | _=>trivial
 | _=>trivial
theorem Pi(R:Rel H ρ s)(z:xs.length<=sizeLine)
 (k:∀ (Q:Value->bD->Prop) (E:Value->bD->Prop),(∀ h' tk vs n,(∀ b o,s.heap.get? b=some o->h'.get? b=some o)->h'.get? s.heap.objs.size=some (B4 vs n)->(∀ ρ',Step ρ s.heap ρ' h'->VRs ρ' h' xs vs)->Q (.ref s.heap.objs.size) { s with heap:=h',toks:=tk })->wpAny (model cx.prog cx.w) A t Q E s) :
 A8 A (.ok (.loc H.length) (H++[.list xs])) t (Amb.vr) ρ s:=by
 refine k _ _ fun h' tk vs n kp e r=>?_;obtain ⟨F,R'⟩:=R.alloc (tk:=tk) (o:=.list xs) (p:=(s.heap.objs.size,s.heap.objs.size)) kp ⟨Ar _,Ar _⟩
  (.list (n:=n) e (r _ (Full.alloc kp ⟨Ar _,Ar _⟩).step) z)
 refine ⟨_,F,R',?_⟩;refine rwl R.len ?_;exact VR.loc (p:=(s.heap.objs.size,s.heap.objs.size)) (by refine rwl (aS (aN _)) ?_;simp)
theorem R7(hh:A.handled=none)(h1:∀ ρ h,P.P ρ h->VR ρ h a v):Sim A P (call (.type "list") [v]) (bfV .list [a]) (Amb.vr):=by
 intro H ρ s R p;have x:=h1 _ _ p;cases x with
 | @loc l q hq =>
  show A8 A (match Cm (.loc l) H with
   | some xs=>M.alloc (.list xs) H
   | none=>.bad) _ _ ρ s
  cases e:Cm (.loc l) H with
  | some xs =>refine Ae fun G kG=>?_;refine ex2 (R.listAt (Kh e) hq) fun vs n zz=>Cf zz fun _ g r z=>?_;refine kG ?_;refine Pi R z fun Q E k=>?_;refine call_list_seq q.1 (T:="list") (items:=vs.toArray) (.inl rfl) g rfl rfl (fun h' c kp e=>?_) (by simp only [dN];refine rwr r.length ?_;exact z);exact k h' s.toks vs c kp e fun ρ' st=>r.step st
  | none=>trivial
 | _=>trivial
theorem X1(h1:∀ ρ h,P.P ρ h->VR ρ h a v):Sim A P (call (.type "int") [v]) (bfV .int [a]) (Amb.vr):=by
 intro H ρ s R p;have x:=h1 _ _ p;cases x with
 | bool b=>exact A5 R fun Q E k=>call_int_bool (k _ _ (.int _ _))
 | _=>trivial
end
theorem Ed(h:C5 o=true)(n:Str)(env:Env)(t:Sem Value):attributeBase o n env t=t:=by
 have k:t=t:=rfl;cases o with
 | Call f args kws pos =>
  cases f with
  | Name id c =>
   cases args with
   | nil =>
    cases kws with
    | nil =>have:(id != ("super":Str))=true:=h;exact if_pos (by simp only [this,Bool.true_or])
    | cons _ _=>exact k
   | cons _ _=>exact k
  | _=>exact k
 | _=>exact k
section
variable{ρ:Rho}{s:bD}
noncomputable def Cp(env:Env):List Expr->Prop
 | []=>True
 | e :: es=>starEach (e :: es) env=(false,eval e env) :: starEach es env/\Cp env es
theorem Az:∀ {xs:List Expr} (pos:Pos),Cp env xs->backTo pos (starEach xs env)=xs.map fun e=>(false,eval e env):=by
 intro xs;induction xs with
 | nil =>intro pos _;exact rfl
 | cons e es ihh =>intro pos h;refine rwl h.1 ?_;have:=ihh pos h.2;unfold backTo at this ⊢;refine rwl bA (rwl this ?_);simp
theorem Ia(h:Cp env xs)(z:xs.length<=20) :
 ((backTo pos (starEach xs env)).all (fun x=>!x.1) && (backToKw pos (keywordEach [] env)).all (fun x=>x.1.isSome) && decide (xs.length+([]:List sG).length+(if ([]:List sG).isEmpty then 0 else 1) < 30))=true:=by
 refine rwl (Az pos h) ?_;simp only [fR,dU,cC,forall_exists_index,and_imp,decide_eq_true_eq];refine ⟨⟨fun x e _ hx=>by refine rwr hx ?_;rfl,?_⟩,?_⟩
 . intro x hx;exact absurd (show x∈[] from hx) dT
 . simp;exact aB z (by decide:20 < 30)
theorem Pj{T id:String}{m:M Val}(hs:C5 o=true)(hp:Cp env args)(hz:args.length<=20)(hline:(apos.endLine == pos.line)=true)
 (pa:PlainAttrs T) (slot:Slot T name id) (hty:typeOf (.builtin id)=pure (.type "method_descriptor"))
 (x:A8 A (m H) (eval o env) (Amb.vr) ρ s)
 (y:∀ b a H' ρ' s',m H=.ok b H'->Full ρ s.heap ρ' s'.heap->Rel H' ρ' s'->VR ρ' s'.heap b a ->
  Gy (g b H') (fun Q E s₁=>s₁.TypeIs a T/\(∀ p,a=.ref p->∃ ob,s₁.heap.get? p=some ob/\ob.dict=none)/\wpAny (model cx.prog cx.w) A (callWith pos (.builtin id) [a] (args.map fun e=>(false,eval e env)) []) Q E s₁) (Amb.vr) ρ' s') :
 A8 A (m.bnd g H) (eval (.Call (.Attribute o name apos) args [] pos) env) (Amb.vr) ρ s :=
 A8.bindK (K':=fun Q E s=>wpAny (model cx.prog cx.w) A (eval (.Call (.Attribute o name apos) args [] pos) env) Q E s) x y
  (fun a Q E Q' E' s ⟨h1,h2,h3⟩ k1 k2=>⟨h1,h2,aL h3 k1 k2⟩)
  (fun Q E h=>wpAny_Call_method (Ed hs _ _ _) (Ia hp hz) hline pa slot hty (by refine rwl (Az pos hp) ?_;exact h))
theorem Gy.andK{β α:Type}{r:Res β}{p:Prop}(hp:p){K:(α->bD->Prop)->(Value->bD->Prop)->bD->Prop}{V:β->α->Amb}(x:Gy r K V ρ s):Gy r (fun Q E s'=>p/\K Q E s') V ρ s:=x.mono fun _ _ h=>⟨hp,h⟩
theorem T9(R:Rel H ρ s){l:Nat}(hl:H[l]?=some (.list xs))(hp:ρ[l]?=some p):s.TypeIs (.ref p.1) "list"/\∀ q,gB p.1=.ref q->∃ ob,s.heap.get? q=some ob/\ob.dict=none:=by refine Ae fun G kG=>?_;refine ex2 (R.listAt hl hp) fun vs n zz=>Ap zz fun _ g _=>?_;refine kG ?_;exact ⟨⟨_,g,rfl⟩,fun q e=>by cases e;exact ⟨_,g,rfl⟩⟩
theorem Kl(vs:List Value)(n:Nat)(f:Array Value->Array Value):∃ n',eE f (B4 vs n)=B4 (f vs.toArray).toList n':=by unfold B4 eE;exact ⟨_,rfl⟩
theorem Gf(R:Rel H ρ s)(hl:ρ[l]?=some p)(hpp:p.2=p.1)(g:s.heap.get? p.1=some (B4 vs n))(f:Array Value->Array Value)
 (r:VRs ρ s.heap ys (f vs.toArray).toList) (z:ys.length<=sizeLine) (hv:∀ h,Full ρ s.heap ρ h->VR ρ h b v) :
 ∃ ρ',Full ρ s.heap ρ' (s.heap.update p.1 (eE f))/\Rel (H.set l (.list ys)) ρ' { s with heap:=s.heap.update p.1 (eE f) }/\(Amb.vr b v).P ρ' (s.heap.update p.1 (eE f)):=by
 obtain ⟨n',e⟩:=Kl vs n f;have g':(s.heap.update p.1 (eE f)).get? p.1=some (B4 (f vs.toArray).toList n'):=by exact rwl (eP _ g (by skip;rfl)) (rwl e rfl)
 have hs:eU p.1 s.heap (s.heap.update p.1 (eE f)):=eT ..;have own:Ay ρ p.1:=⟨p,aH hl,.inl rfl⟩;have F:=Full.own own g' hs;obtain ⟨F',R'⟩:=R.set (tk:=s.toks) (o:=.list ys) hl (fun b ob eb n1 _=>by refine rwl (hs.2 b n1) ?_;exact eb) (SameBut.live hs g') (by obtain ⟨p1,p2⟩:=p;dsimp only at hpp;refine rwl hpp ?_;exact .list g' (r.step F.step) z);exact ⟨ρ,F',R',hv _ F'⟩
theorem G0(r:VRs ρ s.heap xs vs)(z:xs.length<=sizeLine):vs.toArray.size<=sizeLine:=by simp only [dN];refine rwr r.length ?_;exact z
theorem Gg{γ δ:Type}{g:List Val->M δ}{W:δ->γ->Amb}{K:List Value->(γ->bD->Prop)->(Value->bD->Prop)->bD->Prop}
 (hn:xs=[]->es=.nil) (R:Rel H ρ s) (x:A8 A (evalEs cx.T Φ es Γ H) (spliced (xs.map fun e=>(false,eval e env))) (Amb.vrs) ρ s)
 (y:∀ ms vs H' ρ' s',evalEs cx.T Φ es Γ H=.ok ms H'->Full ρ s.heap ρ' s'.heap->Rel H' ρ' s'->VRs ρ' s'.heap ms vs->Gy (g ms H') (K vs) W ρ' s') (mk:∀ vs,Rz (K vs)) :
 Gy ((evalEs cx.T Φ es Γ).bnd g H) (fun Q E s=>wpAny (model cx.prog cx.w) A (evalArgs f true (xs.map fun e=>(false,eval e env)) []) (fun a s₁=>a.kw=[]/\K a.pos Q E s₁) E s) W ρ s:=by
 cases xs with
 | nil =>obtain rfl:=hn rfl;have e:evalEs cx.T Φ .nil Γ H=.ok [] H:=rfl;refine (y [] [] H ρ s e (Full.refl _ _) R .nil).mono fun Q E h=>?_;exact evalArgs_none ⟨rfl,h⟩
 | cons e0 es0 =>refine A8.bindK (K:=K) x y mk fun Q E h=>?_;exact iW (aL h (fun vs s' h'=>⟨rfl,h'⟩) fun _ _ q=>q)
theorem Es(args:List Expr):(args.map fun e=>(false,eval e env)).any (·.1)=false:=by
 induction args with
 | nil=>rfl
 | cons e es ih=>refine rwl bA (rwl List.any_cons (rwl ih ?_));rfl
theorem J0{α:Type}(t:Sem α):Rz fun Q E s=>wpAny (model cx.prog cx.w) A t Q E s:=fun _ _ _ _ _ h k1 k2=>aL h k1 k2
theorem R8{id:String}(hn:xs=[]->es=.nil)(R:Rel H ρ s)
 (x:A8 A (evalEs cx.T Φ es Γ H) (spliced (xs.map fun e=>(false,eval e env))) (Amb.vrs) ρ s)
 (y:∀ ms vs H' ρ' s',evalEs cx.T Φ es Γ H=.ok ms H'->Full ρ s.heap ρ' s'.heap->Rel H' ρ' s'->VRs ρ' s'.heap ms vs->A8 A (g ms H') (call (.builtin id) (first++vs)) (Amb.vr) ρ' s') :
 A8 A ((evalEs cx.T Φ es Γ).bnd g H) (callWith pos (.builtin id) first (xs.map fun e=>(false,eval e env)) []) (Amb.vr) ρ s :=
 (Gg (f:=.builtin id) (K:=fun vs Q E s=>wpAny (model cx.prog cx.w) A (call (.builtin id) (first++vs)) Q E s) hn R x y (fun _=>J0 _)).mono fun Q E h =>
  kL (Es _) (aL h (fun a s₁ h₁=>by refine rwl h₁.1 ?_;exact h₁.2) fun _ _ q=>q)
noncomputable def An2:BM->String
 | .append=>"list.append"
 | .pop=>"list.pop"
 | .dpop=>"dict.pop"
 | .clear=>"list.clear"
 | .remove=>"list.remove"
 | .get=>"dict.get"
 | .get2=>"dict.get"
noncomputable def Xh(m:BM):String × String:=(Qm m,An2 m)
theorem X2(m:BM):PlainAttrs (Xh m).1:=by cases m <;> first | exact F.plainAttrs_list | exact F.plainAttrs_dict | exact F.plainAttrs_str
theorem Ach(m:BM):Slot (Xh m).1 (Hz m).1 (Xh m).2:=by
 cases m
 . exact mO
 . exact sL
 . exact sN
 . exact rL
 . exact rC
 . exact lI
 . exact lI
set_option maxRecDepth 100000 in
theorem Aci(m:BM):typeOf (.builtin (Xh m).2)=pure (.type "method_descriptor"):=by cases m <;> kernel_rfl
theorem Acj(R:Rel H ρ s)(x:VR ρ s.heap b v)(h:Db m b H=some ()):s.TypeIs v (Xh m).1/\∀ q,v=.ref q->∃ ob,s.heap.get? q=some ob/\ob.dict=none:=by
 have h:=(Mw h).1;show s.TypeIs v (Qm m)/\_;generalize Qm m=T at h;cases x with
 | str y t z=>cases h;exact ⟨typeIs_str _ _ _,fun q e=>nomatch e⟩
 | @loc l p hp =>refine Ab2 (C:=fun T=>s.TypeIs (.ref p.1) T/\∀ q,gB p.1=.ref q->∃ ob,s.heap.get? q=some ob/\ob.dict=none) h (fun xs hl=>T9 R hl hp) fun es hl=>?_;refine Ae fun G kG=>?_;refine ex1 (R.dictAt hl hp) fun xs zz=>Ap zz fun _ D _=>?_;refine ex3 D fun o _ _ zz=>Ap zz fun g ex _=>?_;refine kG ?_;exact ⟨⟨_,g,ex.1⟩,fun q e=>by cases e;exact ⟨_,g,ex.2.1⟩⟩
 | _=>exact Af h
theorem Af6(hs:C5 o=true)(hp:Cp env xs)(hz:xs.length<=20)(hn:xs=[]->es=.nil)(hline:(apos.endLine == pos.line)=true)
 (x:Sim A P (eval o env) (Aj cx.T Φ a Γ) (Amb.vr)) (y:Sim A P (spliced (xs.map fun e=>(false,eval e env))) (evalEs cx.T Φ es Γ) (Amb.vrs))
 (k:∀ b v ms vs,ms.length=xs.length->Sim A ((Amb.vr b v).and (Amb.vrs ms vs)) (call (.builtin (Xh m).2) (v :: vs)) (bmV m b ms) (Amb.vr)) (hlen:∀ H ms H',evalEs cx.T Φ es Γ H=.ok ms H'->ms.length=xs.length) :
 Sim A P (eval (.Call (.Attribute o (Hz m).1 apos) xs [] pos) env) (Aj cx.T Φ (.bm a m es) Γ) (Amb.vr):=by
 intro H ρ s R p;refine Pj (T:=(Xh m).1) (id:=(Xh m).2) hs hp hz hline (X2 m) (Ach m) (Aci m) (x H ρ s R p) fun b v H1 ρ1 s1 _ F1 R1 vr=>?_;refine Gy.lookK fun _ fit=>?_;obtain ⟨t1,t2⟩:=Acj R1 vr fit;refine Gy.mono (K:=fun Q E s=>wpAny (model cx.prog cx.w) A (callWith pos (.builtin (Xh m).2) [v] (xs.map fun e=>(false,eval e env)) []) Q E s) ?_ fun Q E h=>⟨t1,t2,h⟩;refine R8 hn R1 (y H1 ρ1 s1 R1 (P.st _ _ _ _ p F1)) fun ms vs H2 ρ2 s2 e2 F2 R2 vrs=>?_;exact k b v ms vs (hlen _ _ _ e2) H2 ρ2 s2 R2 ⟨vr.step F2.step,vrs⟩
end
section
theorem VRs.single(y:VRs ρ h ms vs)(hl:ms.length=1):∃ m u,ms=[m]/\vs=[u]/\VR ρ h m u:=by
 cases y with
 | nil=>cases hl
 | cons y0 y =>
  cases y with
  | nil=>exact ⟨_,_,rfl,rfl,y0⟩
  | cons _ _=>cases hl
set_option tactic.hygienic true in
theorem Ua(b:Val)(v:Value)(ms:List Val)(vs:List Value)(hl:ms.length=1):Sim A ((Amb.vr b v).and (Amb.vrs ms vs)) (call (.builtin "list.append") (v :: vs)) (bmV .append b ms) (Amb.vr):=by
 intro H ρ s R ⟨x,y⟩;refine ex2 (VRs.single y hl) fun m u zz=>Ap zz fun zr2 zr3 y0=>?_;subst zr2;subst zr3;cases x with
 | @loc l p hp =>
  show A8 A (match H[l]? with
   | some (.list xs)=>if xs.length < lid then Res.ok Val.none (H.set l (.list (xs++[m]))) else .bad
   | some (.dict es)=>.bad
   | _=>.bad) _ _ ρ s
  split
  . rename_i xs e;refine Ae fun G kG=>?_;refine ex2 (R.listAt e hp) fun ws n zz=>Cf zz fun hpp g r z=>?_;refine kG ?_;by_cases q:xs.length < lid
    . refine rwl (if_pos q) ?_;rw [Ge] at q;refine mU mO ⟨_,g,rfl⟩ qV (qH _ _) (list_append p.1 ws.toArray n u (G0 r z)) ⟨g,?_⟩;exact Gf R hp hpp g (fun x=>x.push u) (by simpa using r.append (.one y0)) (by refine rwl aK ?_;exact q) fun _ _=>.none
    . refine rwl (if_neg q) ?_;trivial
  . trivial
  . trivial
 | _=>trivial
set_option tactic.hygienic true in
theorem X3(b:Val)(v:Value)(ms:List Val)(vs:List Value)(hl:ms.length=0):Sim A ((Amb.vr b v).and (Amb.vrs ms vs)) (call (.builtin "list.clear") (v :: vs)) (bmV .clear b ms) (Amb.vr):=by
 intro H ρ s R ⟨x,y⟩;match ms,hl,y with
 | [],_,.nil =>
  cases x with
  | @loc l p hp =>
   show A8 A (match H[l]? with
    | some (.list xs)=>Res.ok Val.none (H.set l (.list []))
    | some (.dict es)=>.bad
    | _=>.bad) _ _ ρ s
   split
   . rename_i xs e;refine Ae fun G kG=>?_;refine ex2 (R.listAt e hp) fun ws n zz=>Cf zz fun hpp g r z=>?_;refine kG ?_;refine mU rL ⟨_,g,rfl⟩ F.entry_list_clear (F.args_list_clear_1 _) (AutoSeq1.list_clear_list_0 p.1 ws.toArray n (G0 r z)) ⟨g,?_⟩;exact Gf R hp hpp g (fun _=>#[]) (by simpa using VRs.nil) (by simp) fun _ _=>.none
   . trivial
   . trivial
  | _=>trivial
set_option tactic.hygienic true in
theorem Af7(b:Val)(v:Value)(ms:List Val)(vs:List Value)(hl:ms.length=0):Sim A ((Amb.vr b v).and (Amb.vrs ms vs)) (call (.builtin "list.pop") (v :: vs)) (bmV .pop b ms) (Amb.vr):=by
 intro H ρ s R ⟨x,y⟩;match ms,hl,y with
 | [],_,.nil =>
  cases x with
  | @loc l p hp =>
   show A8 A (match H[l]? with
    | some (.list xs)=>match xs.getLast? with
     | some v=>Res.ok v (H.set l (.list xs.dropLast))
     | none=>.bad
    | some (.dict es)=>.bad
    | _=>.bad) _ _ ρ s
   split
   . rename_i xs e;refine ex2 (R.listAt e hp) fun ws n zz=>Cf zz fun hpp g r z=>?_;split
     . rename_i m em;rw [List.getLast?_eq_getElem?] at em;refine ex1 (r.get em) fun u zz=>Ad zz fun eu vu=>?_;have len:=r.length;refine mU sL ⟨_,g,rfl⟩ F.entry_list_pop (F.args_list_pop_1 _) (MeetsSeq.list_pop_last p.1 ws.toArray n u (by simpa [len] using eu) (G0 r z)) ⟨g,?_⟩;refine Gf R hp hpp g (fun x=>x.eraseIdxIfInBounds (ws.toArray.size - 1)) ?_ (by refine rwl pE ?_;exact aC (eG _ _) z) fun h F=>vu.step F.step;have e1:(ws.toArray.eraseIdxIfInBounds (ws.toArray.size - 1)).toList=ws.eraseIdx (ws.length - 1):=by simp
       have e2:∀ {α:Type} (l:List α),l.dropLast=l.eraseIdx (l.length - 1):=fun l=>by refine rwl List.dropLast_eq_take ?_;rw [mL];refine rwl (kO (Nat.le_add_of_sub_le (aN _))) ?_;rw [dJ]
       refine rwl e1 ?_;rw [e2];refine rwr len ?_;exact r.eraseIdx _
     . trivial
   . trivial
   . trivial
  | _=>trivial
end
end Mine.Internal
namespace Mine.Internal
open PySem PySem.MeetsSeq PySem.SeqAt
theorem Mz(l:Addr)(items:Array Value)(n:Nat)(x:Value)(e:Value->Bool)(j:Nat)(hj:j < items.size)(hit:e items[j]=true)(k:Nat)(hs1:items.size<=sizeLine) :
 ∀ i:Nat,j - i=k->i<=j->(∀ m (hm:m < items.size),i<=m->m < j->e items[m]=false)->Meets (Builtin.«list.remove.loop» ⟨[.ref l,x,rawInt i],[]⟩)
  (fun A R s=>s.heap.get? l=some { cls:=.type "list",dict:=none,data:=.seq items n,slots:=#[] }/\(∀ y,y∈items->EqAt A.in1 s y x (e y))/\R (.ok (.ret .none)) { s with heap:=s.heap.update l (eE fun xs=>xs.eraseIdxIfInBounds j) }):=by
 induction k with
 | zero =>
  intro i hk hij hno prog w A R s h;obtain ⟨hp,g,d,tk,os⟩:=s;refine Ap h fun hl he h=>?_;have hij':i=j:=by exact cP hij (gM hk)
  subst hij';wp_walk using lO hl;have hi:items[((i:Nat):Int).toNat]?=some items[i]:=by simp [hj]
  refine rwl hi ?_;refine aF (he _ (qA hj) prog w _ _ ?_);refine rwl hit ?_;have hz':(items.eraseIdxIfInBounds i).size<=sizeLine+1:=aC (size_erased items _) (mJ hs1);wp_walk using (wpAny_updateSeq hl rfl (hz:=hs1) (_hz':=hz')),lO hl;simpa using h
 | succ k ih =>
  intro i hk hij hno prog w A R s h;obtain ⟨hp,g,d,tk,os⟩:=s;refine Ap h fun hl he h=>?_;have hlt:i < items.size:=by exact aB hij hj
  wp_walk using lO hl;have hi:items[((i:Nat):Int).toNat]?=some items[i]:=by simp [hlt]
  have hc:((i:Int)+1)=((i+1:Nat):Int):=by rfl
  refine rwl hi ?_;refine aF (he _ (qA hlt) prog w _ _ ?_);refine rwl (hno i hlt (aN _) (pB hk)) ?_;wp_walk;exact ⟨plainId_quiet rX _,tE rY (by exact ih (i+1) (congrArg Nat.pred hk) (pB hk) (fun m hm h1 h2=>hno m hm (aJ h1) h2) prog w A R _ ⟨hl,he,h⟩)⟩
theorem M0(l:Addr)(items:Array Value)(n:Nat)(x:Value)(e:Value->Bool)(j:Nat)(hj:j < items.size)
 (hit:e items[j]=true) (hno:∀ m (hm:m < items.size),m < j->e items[m]=false) (hs1:items.size<=sizeLine) :
 Meets (Builtin.«list.remove» ⟨[.ref l,x],[]⟩)
  (fun A R s=>s.heap.get? l=some { cls:=.type "list",dict:=none,data:=.seq items n,slots:=#[] }/\(∀ y,y∈items->EqAt A.in1 s y x (e y))/\R (.ok (.ret .none)) { s with heap:=s.heap.update l (eE fun xs=>xs.eraseIdxIfInBounds j) }):=by
 intro prog w A R s h;obtain ⟨hp,g,d,tk,os⟩:=s;refine Ap h fun hl he h=>?_;wp_walk using lO hl;exact ⟨plainId_quiet rX _,tE rY (by exact Mz l items n x e j hj hit _ hs1 0 rfl (bH _) (fun m hm _ h2=>hno m hm h2) prog w A R _ ⟨hl,he,h⟩)⟩
section
theorem VRs.erase(r:VRs ρ h ms vs)(k:Nat):VRs ρ h (ms.eraseIdx k) (vs.eraseIdx k):=by
 induction ms generalizing vs k with
 | nil=>cases r;exact .nil
 | cons m' ms ih =>
  cases r with
  | cons b r =>
   cases k with
   | zero=>exact r
   | succ k=>exact .cons b (ih r k)
set_option tactic.hygienic true in
theorem Ub(hu:A.units+100 < cLine)(b:Val)(v:Value)(ms:List Val)(vs:List Value)(hl:ms.length=1):Sim A ((Amb.vr b v).and (Amb.vrs ms vs)) (call (.builtin "list.remove") (v :: vs)) (bmV .remove b ms) (Amb.vr):=by
 intro H ρ s R ⟨x,y⟩;refine ex2 (VRs.single y hl) fun m w zz=>Ap zz fun zr2 zr3 xm=>?_;subst zr2;subst zr3;cases x with
 | @loc l p hp =>
  show A8 A (match H[l]? with
   | some (.list xs)=>(match Jx H m xs with
    | some j=>Res.ok Val.none (H.set l (.list (xs.eraseIdx j)))
    | none=>.bad)
   | some (.dict es)=>.bad
   | _=>.bad) _ _ ρ s
  split
  . rename_i xs e;split
    . rename_i j hj;refine Ae fun G kG=>?_;refine ex2 (R.listAt e hp) fun ws n zz=>Cf zz fun hpp g r z=>?_;refine kG ?_;unfold Jx at hj;split at hj
      . rename_i d ds e1 e2;refine Ae fun G kG=>?_;refine Ap (Ck R Ej xm e1) fun zn0 g2 g3=>?_;obtain ⟨as,g1⟩:=zn0;refine Ap (Gz (n:=Ej) (fun x h=>Ck R Ej x h) r e2) fun zn0 f2 f3=>?_;obtain ⟨bs,f1⟩:=zn0;have em:=readsAll_map ds ws bs f2 f1;rw [List.findIdx?_eq_some_iff_getElem] at hj;refine ex1 hj fun lj zz=>Ad zz fun h1 h2=>?_;refine kG ?_;have hu':A.units+1+min (iX ds) d.depth < cLine:=by have t1:=gU (iX ds) d.depth;have t2:Ej=6:=rfl;exact o26 hu t1 t2 g3
        have lw:ws.length=ds.length:=by refine rwr em ?_;rw [aM]
        have at_:∀ (i:Nat) (h:i < ws.toArray.size),dE (readOf s.heap ws.toArray[i]) d=dE (ds[i]'(by refine rwr lw ?_;simpa using h)) d:=fun i h=>by congr 1;subst em;rw [List.getElem_map];rfl
        refine mU rC ⟨_,g,rfl⟩ F.entry_list_remove (F.args_list_remove_2 _ _) (M0 p.1 ws.toArray n w (fun y=>dE (readOf s.heap y) d) j (by simpa [lw] using lj) (by rw [at_];exact h1) (fun m hm lt=>by rw [at_];simpa using h2 m lt) (G0 r z)) ⟨g,items_eqAt (by simpa using f1) g1 f2 g2 hu',?_⟩;exact Gf R hp hpp g (fun x=>x.eraseIdxIfInBounds j) (by simpa using VRs.erase r j) (aC (List.length_eraseIdx_le _ _) z) fun _ _=>.none
      . exact nomatch hj
    . trivial
  . trivial
  . trivial
 | _=>trivial
end
end Mine.Internal
namespace Mine.Internal
open PySem
section
variable{K:Type}[DecidableEq K]{knd:HeapKind cx.prog cx.w K}{A:fI}{E:Value->bD->Prop}{s:bD}
theorem N2{α β:Type}(f:α->β)(l:List α)(j:Nat):(l.map f).eraseIdx j=(l.eraseIdx j).map f:=by
 induction l generalizing j with
 | nil=>rfl
 | cons a l ih =>
  cases j with
  | zero=>rfl
  | succ j=>exact congrArg (f a :: ·) (ih j)
theorem N3(hu:knd.room A)(hkey:knd.is s.heap k a)(hm:s.heap.DictOfH knd d xs)(hp:atKey xs k=some p)(hz:xs.length<=sizeLine)
 (hQ:∀ j h',xs[j]?=some (k,p)->h'.DictOfH knd d (xs.eraseIdx j)->eU d s.heap h'->Q (some (entryOfKey knd (k,p))) { s with heap:=h',toks:=s.toks+knd.draws k }):wpAny (model cx.prog cx.w) A (nG d (.ref a)) Q E s:=by
 refine Ae fun G kG=>?_;refine ex3 hm fun o es ep zz=>Mq zz fun ho hc hd he his hn=>?_;refine kG ?_;have hes:es.size<=sizeLine:=by refine rwl (size_of_entries he) ?_;exact hz
 unfold nG;try with_reducible refine eY ?_
 refine aF (knd.pyHash hu hkey (aF (wpAny_dictFind_heap (s:={ s with toks:=s.toks+knd.draws k }) hu hkey ho hd he his hn ?_ ?_)))
 . intro hno;rw [atKey_none_of_get hno] at hp;exact Af hp
 . intro j q hj;have e:=atKey_of_get hn hj;rw [hp] at e;cases e;refine aF (iS (s:={ s with toks:=s.toks+knd.draws k }) ho hd ?_);refine rwl (entry_at he j) (rwl hj ?_);refine aF (wpAny_updateDictKeys (hz:=hes) (s:={ s with toks:=s.toks+knd.draws k }) ho hd (aU (hQ j _ hj ⟨_,_,ep+1,eP _ ho (Obj.isFreed_of_dict (pM hd _)),
    hc.mapDictKeys _,pM hd _,?_,fun x hx=>knd.keeps (his x (oG hx)) ho hd (eT ..),?_⟩ (eT ..))))
   . obtain ⟨l⟩:=es;simp only [List.eraseIdxIfInBounds_toArray];refine rwl (show l=xs.map (entryOfKey knd) from he) ?_;rw [N2]
   . rw [<- N2];exact hn.sublist (List.eraseIdx_sublist _ _)
theorem M1(hu:knd.room A.in1)(hkey:knd.is s.heap k a)(hm:s.heap.DictOfH knd d xs)(hp:atKey xs k=some p)(hz:xs.length<=sizeLine)
 (hQ:∀ j h',xs[j]?=some (k,p)->h'.DictOfH knd d (xs.eraseIdx j)->eU d s.heap h'->Q p.2 { s with heap:=h',toks:=s.toks+knd.draws k }):wpAny (model cx.prog cx.w) A (call (.builtin "dict.pop") [.ref d,.ref a]) Q E s:=by
 refine fX sN hm.typeIs F.entry_dict_pop ?_ (F.args_dict_pop_2 _ _);have hm':=hm;refine Ae fun G kG=>?_;refine ex3 hm fun o es ep zz=>Mq zz fun ho hc hd he _ _=>?_;refine kG ?_;unfold Builtin.«dict.pop»;refine aF ?_;unfold uF;refine aF (qL hm'.typeIs ?_);refine aU ?_;have ne:es.isEmpty=false:=by rw [Array.isEmpty_eq_false_iff_exists_mem];refine ex1 (bY.mp hp) fun x zz=>Ad zz fun hx _=>?_;exact ⟨_,oY.mp (by refine rwl he ?_;exact cC.mpr ⟨x,List.mem_of_find?_eq_some hx,rfl⟩)⟩
 have hpart:(keyPart (.ref a)).isSome=false:=rfl;simp only [hpart,fF,if_false];refine aF (iS ho hd (aF (aU ?_)));simp only [ne,fF,if_false];refine aF (N3 hu hkey hm' hp hz fun j h' hj hm2 hs=>?_);simp only [Option.isNone_some,fF,if_false];exact aF (wpAny_letGo (aU ⟨p.2,rfl,hQ j h' hj hm2 hs⟩))
end
section
variable{K:Type}[DecidableEq K]{knd:HeapKind cx.prog cx.w K}
theorem Pk(ks:∀ x∈xs,knd.is h x.1 x.2.1)(hk:knd.is h k a):∀ x∈storedH xs k a v,knd.is h x.1 x.2.1:=by
 intro x hx;unfold storedH at hx;by_cases q:(atKey xs k).isSome=true
 . rw [if_pos q] at hx;refine ex1 (cC.mp hx) fun y zz=>Ad zz fun hy hr0=>?_;refine rwr hr0 ?_;unfold putAt;by_cases e:y.1=k
   . refine rwl (if_pos e) ?_;exact ks y hy
   . refine rwl (if_neg e) ?_;exact ks y hy
 . rw [if_neg q] at hx;rcases bM.mp hx with hx | hx
   . exact ks x hx
   . refine rwl (aT.mp hx) ?_;exact hk
end
section
variable{ρ:Rho}{s:bD}{h:Heap}
theorem DRs.length(r:DRs ρ h es xs):xs.length=es.length:=by
 induction r with
 | nil=>rfl
 | cons _ _ _ ih=>exact congrArg (·+1) ih
theorem Af8{k k':Key}(q:¬k'=k):¬([k'.1,k'.2]=[k.1,k.2]):=fun e=>q (by
 simp only [kB,and_true] at e
 exact iY e.1 e.2)
theorem DRs.put(r:DRs ρ h es xs)(hn:(xs.map (·.1)).Nodup)(x:VR ρ h m v)(no:VR ρ h (Aa k) (.ref a)):DRs ρ h (E2 es k m) (storedH xs [k.1,k.2] a v):=by
 induction r with
 | nil=>exact .cons x no .nil
 | @cons k' v' b y es xs a' n r ih =>
  rw [bA,eD] at hn;by_cases q:k'=k
  . refine rwr q ?_;have e1:storedH (([k'.1,k'.2],b,y) :: xs) [k'.1,k'.2] a v=([k'.1,k'.2],b,v) :: xs:=by
     unfold storedH;refine rwl (if_pos (by simp [dX])) (rwl bA ?_);congr 1
     . simp [putAt]
     . refine (pR fun z hz=>?_).trans (sW _);unfold putAt;refine rwl (if_neg fun e=>hn.1 (cC.mpr ⟨z,hz,e⟩)) ?_;rfl
    refine rwl e1 ?_;show DRs ρ h (if k'=k' then _ else _) _;refine rwl (if_pos rfl) ?_;exact .cons x n r
  . have q':=Af8 q;have e2:dX (([k'.1,k'.2],b,y) :: xs) [k.1,k.2]=dX xs [k.1,k.2]:=by unfold dX;refine rwl rA ?_;simp only [decide_eq_false q']
    have e1:storedH (([k'.1,k'.2],b,y) :: xs) [k.1,k.2] a v=([k'.1,k'.2],b,y) :: storedH xs [k.1,k.2] a v:=by
     unfold storedH;refine rwl e2 ?_;split
     . refine rwl bA ?_;congr 1;unfold putAt;exact rwl (if_neg q') rfl
     . rfl
    refine rwl e1 ?_;show DRs ρ h (if k'=k then _ else _) _;refine rwl (if_neg q) ?_;exact .cons a' n (ih hn.2)
theorem DRs.del(r:DRs ρ h es xs)(hn:(xs.map (·.1)).Nodup)(hj:xs[j]?=some ([k.1,k.2],p)):DRs ρ h (Tl es k) (xs.eraseIdx j):=by
 induction r generalizing j with
 | nil=>exact Af hj
 | @cons k' v' b y es xs a' n r ih =>
  rw [bA,eD] at hn;show DRs ρ h (if k'=k then _ else _) _;cases j with
  | zero =>
   have e:=aO hj;have:k'=k:=by have e:=congrArg cK e;simp only [kB,and_true] at e;exact iY e.1 e.2
   refine rwl (if_pos this) ?_;exact r
  | succ j =>have hj':xs[j]?=some ([k.1,k.2],p):=hj;have:¬k'=k:=fun e=>hn.1 (e▸cC.mpr ⟨_,aH hj',rfl⟩);refine rwl (if_neg this) ?_;exact .cons a' n (ih hn.2 hj')
theorem DRs.sub(r:DRs ρ s.heap es xs)(h:C3 es k=some m):∃ p,dX xs [k.1,k.2]=some p/\VR ρ s.heap m p.2:=by
 have a:=r.atKey k;rw [h] at a;cases e:dX xs [k.1,k.2] with
 | none=>rw [e] at a;exact a.elim
 | some p=>rw [e] at a;exact ⟨p,rfl,a⟩
theorem Pl(es:List (Key × Val))(k:Key)(v:Val):(E2 es k v).length<=es.length+1:=by
 induction es with
 | nil=>exact aN _
 | cons e es ih =>
  show (if e.1=k then _ else _:List (Key × Val)).length<=_;by_cases q:e.1=k
  . refine rwl (if_pos q) ?_;exact jC _
  . refine rwl (if_neg q) ?_;exact cG ih
theorem Pm(es:List (Key × Val))(k:Key):(Tl es k).length<=es.length:=by
 induction es with
 | nil=>exact aN _
 | cons e es ih =>
  show (if e.1=k then _ else _:List (Key × Val)).length<=_;by_cases q:e.1=k
  . refine rwl (if_pos q) ?_;exact jC _
  . refine rwl (if_neg q) ?_;exact cG ih
theorem Qv(R:Rel H ρ s)(hl:ρ[l]?=some p)(hpp:p.2=p.1)(hm:h'.DictOfH (cellKind) p.1 xs)(hs:eU p.1 s.heap h')
 (hk:∀ x∈xs,(cellKind).is s.heap x.1 x.2.1) (r:DRs ρ s.heap es xs) (z:es.length<=sizeLine):Full ρ s.heap ρ h'/\Rel (H.set l (.dict es)) ρ { s with heap:=h',toks:=tk }:=by
 have hm':=hm;refine Ae fun G kG=>?_;refine ex3 hm fun o _ _ zz=>Ad zz fun e' _=>?_;refine kG ?_;have F:=Full.own ⟨p,aH hl,.inl rfl⟩ e' hs;refine R.set hl (fun b ob eb n1 _=>by refine rwl (hs.2 b n1) ?_;exact eb) (SameBut.live hs e') ?_;obtain ⟨p1,p2⟩:=p;dsimp only at hpp;refine rwl hpp ?_;exact .dict hm' (r.step F.step) z
theorem X4:Sim A P (eval (.Dict [] [] pos) env) (Aj cx.T Φ .dict Γ) (Amb.vr):=by
 intro H ρ s R p;refine wpAny_Dict_empty ?_;have kp:∀ b o,s.heap.get? b=some o->(s.heap.push { cls:=.type "dict",data:=.dict #[] }).get? b=some o:=fun b o e=>bR _ e;obtain ⟨F,R'⟩:=R.alloc (tk:=s.toks) (o:=.dict []) (p:=(s.heap.objs.size,s.heap.objs.size)) kp ⟨Ar _,Ar _⟩
  (.dict (uC _) .nil (bH _))
 refine ⟨_,F,R',?_⟩;refine rwl R.len ?_;exact VR.loc (p:=(s.heap.objs.size,s.heap.objs.size)) (by refine rwl (aS (aN _)) ?_;simp)
set_option tactic.hygienic true in
theorem Ack(hu:A.units+100 < cLine)(b:Val)(v:Value)(ms:List Val)(vs:List Value)(hl:ms.length=1):Sim A ((Amb.vr b v).and (Amb.vrs ms vs)) (call (.builtin "dict.pop") (v :: vs)) (bmV .dpop b ms) (Amb.vr):=by
 intro H ρ s R ⟨x,y⟩;refine ex2 (VRs.single y hl) fun m u zz=>Ap zz fun hm hv y0=>?_;refine rwl hm ?_;refine rwl hv ?_;cases x with
 | @loc l p hp =>
  show A8 A (match H[l]? with
   | some (.list xs)=>.bad
   | some (.dict es)=>(match C1 m with
    | some k=>(match C3 es k with
     | some v=>Res.ok v (H.set l (.dict (Tl es k)))
     | none=>.bad)
    | none=>.bad)
   | _=>.bad) _ _ ρ s
  cases e:H[l]? with
  | none=>trivial
  | some o =>
   cases o with
   | dict es =>
    show A8 A (match C1 m with
     | some k=>(match C3 es k with
      | some v=>Res.ok v (H.set l (.dict (Tl es k)))
      | none=>.bad)
     | none=>.bad) _ _ ρ s
    cases ek:C1 m with
    | none=>trivial
    | some k =>
     show A8 A (match C3 es k with
      | some v=>Res.ok v (H.set l (.dict (Tl es k)))
      | none=>.bad) _ _ ρ s
     cases eg:C3 es k with
     | none=>trivial
     | some r =>refine Ae fun G kG=>?_;refine ex1 (R.dictAt e hp) fun xs zz=>Cf zz fun hpp D rr z=>?_;refine ex1 (L7 y0 ek) fun bb zz=>Ap zz fun hr hk no=>?_;refine ex1 (rr.sub eg) fun q zz=>Ad zz fun hq vr=>?_;have D':=D;refine ex3 D' fun _ _ _ zz=>Mq zz fun _ _ _ _ ks nd=>?_;refine kG ?_;refine rwl hr ?_;refine M1 (knd:=cellKind) (fK (o9 hu)) hk D hq (by refine rwl rr.length ?_;exact z) fun j h' hj hm hs=>?_;obtain ⟨F,R'⟩:=Qv (tk:=s.toks+(cellKind).draws [k.1,k.2]) R hp hpp hm hs (fun x hx=>ks x (oG hx)) (rr.del nd hj) (aC (Pm es k) z);exact ⟨ρ,F,R',vr.step F.step⟩
   | _=>trivial
 | _=>trivial
set_option tactic.hygienic true in
theorem Af9(hu:A.units+100 < cLine)(b:Val)(v:Value)(ms:List Val)(vs:List Value)(hl:ms.length=1):Sim A ((Amb.vr b v).and (Amb.vrs ms vs)) (call (.builtin "dict.get") (v :: vs)) (bmV .get b ms) (Amb.vr):=by
 intro H ρ s R ⟨x,y⟩;match ms,hl,y with
 | [m],_,.cons (v:=u) y0 .nil =>
  cases x with
  | @loc l p hp =>
   show A8 A (match H[l]? with
    | some (.list xs)=>.bad
    | some (.dict es)=>(match C1 m with
     | some k=>Res.ok ((C3 es k).getD .none) H
     | none=>.bad)
    | _=>.bad) _ _ ρ s
   split
   . trivial
   . rename_i es e;cases ek:C1 m with
     | none=>trivial
     | some k =>
      refine Ae fun G kG=>?_;refine ex1 (R.dictAt e hp) fun xs zz=>Cf zz fun hpp D rr z=>?_;refine ex1 (L7 y0 ek) fun bb zz=>Ap zz fun zr1 hk no=>?_;subst zr1;refine kG ?_;refine call_meetsIn lI D.typeIs rU (F.args_dict_get_2 _ _) (meetsH_dict_get (cellKind) p.1 bb (D1 R hp)) ⟨fK (o9 hu),_,xs,hk,D,?_⟩;refine ⟨ρ,Full.refl _ _,R.toks _,?_⟩;have a:=rr.atKey k;cases eg:C3 es k with
      | none =>
       rw [eg] at a;cases ea:dX xs [k.1,k.2] with
       | none=>exact .none
       | some q=>rw [ea] at a;exact a.elim
      | some r =>refine ex1 (rr.sub eg) fun q zz=>Ad zz fun hq vr=>?_;refine rwl hq ?_;exact vr
   . trivial
  | _=>trivial
theorem Acl(hu:A.units+100 < cLine)(R:Rel H ρ s){l:Nat}(hp:ρ[l]?=some p)(e:H[l]?=some (.dict es))(ek:C1 m=some k)(y0:VR ρ s.heap m u)(y1:VR ρ s.heap m2 u2):A8 A (.ok ((C3 es k).getD m2) H) (call (.builtin "dict.get") [.ref p.1,u,u2]) (Amb.vr) ρ s:=by
 refine Ae fun G kG=>?_;refine ex1 (R.dictAt e hp) fun xs zz=>Cf zz fun _ D rr _=>?_;refine ex1 (L7 y0 ek) fun bb zz=>Ap zz fun hr hk _=>?_;refine kG ?_;refine rwl hr ?_;refine call_meetsIn lI D.typeIs rU (F.args_dict_get_3 _ _ _) (meetsH_dict_get_default (cellKind) p.1 bb (D1 R hp) u2) ⟨fK (o9 hu),_,xs,hk,D,?_⟩;refine ⟨ρ,Full.refl _ _,R.toks _,?_⟩;have a:=rr.atKey k;cases eg:C3 es k with
 | none =>
  rw [eg] at a;cases ea:dX xs [k.1,k.2] with
  | none=>exact y1
  | some q=>rw [ea] at a;exact a.elim
 | some r =>refine ex1 (rr.sub eg) fun q zz=>Ad zz fun hq vr=>?_;refine rwl hq ?_;exact vr
theorem Acm(hu:A.units+100 < cLine)(b:Val)(v:Value)(ms:List Val)(vs:List Value)(hl:ms.length=2):Sim A ((Amb.vr b v).and (Amb.vrs ms vs)) (call (.builtin "dict.get") (v :: vs)) (bmV .get2 b ms) (Amb.vr):=by
 intro H ρ s R xy;obtain ⟨m,m2,hm⟩:∃ a b,ms=[a,b]:=by
  cases ms with
  | nil=>exact nomatch hl
  | cons a ms =>
   cases ms with
   | nil=>exact nomatch hl
   | cons b ms =>
    cases ms with
    | nil=>exact ⟨a,b,rfl⟩
    | cons _ _=>exact nomatch hl
 subst hm;refine ex2 (VRs.two_inv xy.2) fun u u2 zz=>Ap zz fun hv y0 y1=>?_;refine rwl hv ?_;have x:VR ρ s.heap b v:=xy.1;cases x with
 | @loc l p hp =>
  show A8 A (match H[l]? with
   | some (.list xs)=>.bad
   | some (.dict es)=>(match C1 m with
    | some k=>Res.ok ((C3 es k).getD m2) H
    | none=>.bad)
   | _=>.bad) _ _ ρ s
  cases e:H[l]? with
  | none=>trivial
  | some o =>
   cases o with
   | dict es =>
    cases ek:C1 m with
    | none=>trivial
    | some k=>exact Acl hu R hp e ek y0 y1
   | _=>trivial
 | _=>trivial
end
section
theorem X5(h:ck N sc ns .none e=true):∃ k pos,e=.Constant .none k pos:=by obtain ⟨t,h⟩:=Ac h;exact ⟨_,_,t.2.trans (congrArg (fun c=>lT c t.1.2.1 t.1.2.2) (Aaf h))⟩
theorem X6(h:ck N sc ns (.bool v) e=true):∃ k pos,e=.Constant (.bool v) k pos:=by obtain ⟨t,h⟩:=Ac h;obtain ⟨u,h⟩:=Ac h;exact ⟨_,_,t.2.trans (congrArg (fun c=>lT c t.1.2.1 t.1.2.2) (u.2.trans (congrArg Const.bool (eq_of_beq h).symm)))⟩
theorem Acn(h:ck N sc ns (.int v) e=true):∃ k pos,e=.Constant (.int v) k pos:=by obtain ⟨t,h⟩:=Ac h;obtain ⟨u,h⟩:=Ac h;exact ⟨_,_,t.2.trans (congrArg (fun c=>lT c t.1.2.1 t.1.2.2) (u.2.trans (congrArg Const.int (of_decide_eq_true h).symm)))⟩
theorem Aco(h:ck N sc ns (.str v) e=true):∃ k pos,e=.Constant (.str v) k pos/\v.length<=1000:=by obtain ⟨t,h⟩:=Ac h;obtain ⟨u,h⟩:=Ac h;exact ⟨_,_,t.2.trans (congrArg (fun c=>lT c t.1.2.1 t.1.2.2) (u.2.trans (congrArg Const.str (of_decide_eq_true (an1 h)).symm))),of_decide_eq_true (an2 h)⟩
theorem X7(h:ck N sc ns (.glob k) e=true):∃ x pos,e=.Name x pos/\B6 sc x=true/\Ek N.globs x k=true:=by obtain ⟨t,h⟩:=Ac h;exact ⟨_,_,t.2,an1 h,an2 h⟩
theorem Acp(h:ck N sc ns (.var k) e=true):∃ x pos,e=.Name x pos/\Xr sc ns k x=true:=by obtain ⟨t,h⟩:=Ac h;exact ⟨_,_,t.2,h⟩
theorem Acq{op:BOp}(h:ck N sc ns (.bin op a b) e=true):∃ l o r pos,e=.BinOp l o r pos/\Ahw op o=true/\ck N sc ns a l=true/\ck N sc ns b r=true:=by obtain ⟨t,h⟩:=Ac h;exact ⟨_,_,_,_,t.2,an1 (an1 h),an2 (an1 h),an2 h⟩
theorem Acr(h:ck N sc ns (.neg a) e=true):∃ x pos,e=.UnaryOp .USub x pos/\ck N sc ns a x=true:=by obtain ⟨t,h⟩:=Ac h;exact ⟨_,_,t.2.trans (congrArg (fun o=>sO o t.1.2.1 t.1.2.2) (Aaf (an1 h))),an2 h⟩
theorem Acs(h:ck N sc ns (.not a) e=true):∃ x pos,e=.UnaryOp .Not x pos/\ck N sc ns a x=true:=by obtain ⟨t,h⟩:=Ac h;exact ⟨_,_,t.2.trans (congrArg (fun o=>sO o t.1.2.1 t.1.2.2) (Aaf (an1 h))),an2 h⟩
theorem Act(h:ck N sc ns (.and a b) e=true):∃ x y rest pos,e=.BoolOp .And (x :: y :: rest) pos/\ck N sc ns a x=true/\((rest=[]/\ck N sc ns b y=true)\/ck N sc ns b (.BoolOp .And (y :: rest) pos)=true):=by
 refine Ae fun G kG=>?_;obtain ⟨t,h⟩:=Ac h;obtain ⟨⟨⟨x,y,rest⟩,z2⟩,h2⟩:=Ac (an2 h);refine kG ?_;refine ⟨x,y,rest,t.1.2.2,t.2.trans ((congrArg (fun o=>mZ o t.1.2.1 t.1.2.2) (Aaf (an1 h))).trans (congrArg (fun o=>mZ .And o t.1.2.2) z2)),an1 h2,?_⟩;cases rest with
 | nil=>exact .inl ⟨rfl,an2 h2⟩
 | cons _ _=>exact .inr (an2 h2)
theorem Aga(h:ck N sc ns (.or a b) e=true):∃ x y rest pos,e=.BoolOp .Or (x :: y :: rest) pos/\ck N sc ns a x=true/\((rest=[]/\ck N sc ns b y=true)\/ck N sc ns b (.BoolOp .Or (y :: rest) pos)=true):=by
 obtain ⟨t,h⟩:=Ac h;obtain ⟨⟨⟨x,y,rest⟩,z2⟩,h2⟩:=Ac (an2 h);refine ⟨x,y,rest,t.1.2.2,t.2.trans ((congrArg (fun o=>mZ o t.1.2.1 t.1.2.2) (Aaf (an1 h))).trans (congrArg (fun o=>mZ .Or o t.1.2.2) z2)),an1 h2,?_⟩;cases rest with
 | nil=>exact .inl ⟨rfl,an2 h2⟩
 | cons _ _=>exact .inr (an2 h2)
theorem Acu(h:ck N sc ns (.cmp op a b) e=true):∃ l r pos,e=.Compare l [Ju op] [r] pos/\ck N sc ns a l=true/\ck N sc ns b r=true/\Ei r=true:=by obtain ⟨t,h⟩:=Ac h;obtain ⟨u,h2⟩:=Ac (an2 h);exact ⟨_,_,_,t.2.trans ((congrArg (fun o=>mH t.1.1 o t.1.2.2.1 t.1.2.2.2) (of_decide_eq_true (an1 h))).trans (congrArg (fun o=>mH t.1.1 _ o t.1.2.2.2) u.2)),an1 (an1 h2),an2 (an1 h2),an2 h2⟩
theorem X8(h:ck N sc ns (.cmp2 op1 op2 a b c) e=true):∃ l m r pos,e=.Compare l [Ju op1,Ju op2] [m,r] pos/\ck N sc ns a l=true/\ck N sc ns b m=true/\ck N sc ns c r=true/\Ei r=true:=by obtain ⟨t,h⟩:=Ac h;obtain ⟨u,h2⟩:=Ac (an2 h);exact ⟨_,_,_,_,t.2.trans ((congrArg (fun o=>mH t.1.1 o t.1.2.2.1 t.1.2.2.2) (of_decide_eq_true (an1 h))).trans (congrArg (fun o=>mH t.1.1 _ o t.1.2.2.2) u.2)),an1 (an1 (an1 h2)),an2 (an1 (an1 h2)),an2 (an1 h2),an2 h2⟩
theorem Acv(h:ck N sc ns (.sub a b) e=true):∃ v s pos,e=.Subscript v s pos/\ck N sc ns a v=true/\ck N sc ns b s=true:=by obtain ⟨t,h⟩:=Ac h;exact ⟨_,_,_,t.2,an1 h,an2 h⟩
theorem Uc(h:ck N sc ns (.slice a lo hi) e=true):∃ v l u p pos,e=.Subscript v (.Slice l u none p) pos/\ck N sc ns a v=true/\ckO N sc ns lo l=true/\ckO N sc ns hi u=true:=by obtain ⟨t,h⟩:=Ac h;obtain ⟨u,h⟩:=Ac h;exact ⟨_,_,_,_,_,t.2.trans (congrArg (fun o=>Expr.Subscript t.1.1 o t.1.2.2) (u.2.trans (congrArg (fun o=>Expr.Slice u.1.1 u.1.2.1 o u.1.2.2.2) (Aaf (an2 h))))),an1 (an1 (an1 h)),an2 (an1 (an1 h)),an2 (an1 h)⟩
theorem Acw(h:ck N sc ns (.tup es) e=true):∃ xs k pos,e=.Tuple xs k pos/\ckEs N sc ns es xs=true/\xs.length<=1000:=by obtain ⟨t,h⟩:=Ac h;exact ⟨_,_,_,t.2,an1 h,of_decide_eq_true (an2 h)⟩
theorem X9(h:ck N sc ns (.list es) e=true):∃ xs pos,e=.List xs pos/\ckEs N sc ns es xs=true/\xs.length<=1000:=by obtain ⟨t,h⟩:=Ac h;exact ⟨_,_,t.2,an1 h,of_decide_eq_true (an2 h)⟩
theorem Yb(h:ck N sc ns .dict e=true):∃ pos,e=.Dict [] [] pos:=by obtain ⟨t,h⟩:=Ac h;exact ⟨t.1.2.2,t.2.trans (rwl (iQ.mp (an1 h)) (rwl (iQ.mp (an2 h)) rfl))⟩
theorem Yc(h:ck N sc ns (.attr a n) e=true):∃ v y pos,e=.Attribute v y pos/\ck N sc ns a v=true/\Ek N.attrs y n=true/\C5 v=true:=by obtain ⟨t,h⟩:=Ac h;exact ⟨_,_,_,t.2,an1 (an1 h),an2 (an1 h),an2 h⟩
theorem Yd(h:ck N sc ns (.call f es) e=true):∃ x np xs pos,e=.Call (.Name x np) xs [] pos/\B6 sc x=true/\Ek N.funs x f=true/\ckEs N sc ns es xs=true/\xs.length<=20:=by obtain ⟨t,h⟩:=Ac h;exact ⟨_,_,_,_,t.2,an1 (an1 (an1 h)),an2 (an1 (an1 h)),an2 (an1 h),of_decide_eq_true (an2 h)⟩
theorem Acx(h:ck N sc ns (.new f es) e=true):∃ x np xs pos,e=.Call (.Name x np) xs [] pos/\B6 sc x=true/\Ek N.clss x f=true/\ckEs N sc ns es xs=true/\xs.length<=20:=by obtain ⟨t,h⟩:=Ac h;exact ⟨_,_,_,_,t.2,an1 (an1 (an1 h)),an2 (an1 (an1 h)),an2 (an1 h),of_decide_eq_true (an2 h)⟩
theorem Ud(h:ck N sc ns (.umeth a m es) e=true):∃ o y apos xs pos,e=.Call (.Attribute o y apos) xs [] pos/\ck N sc ns a o=true/\Ek N.meths y m=true/\ckEs N sc ns es xs=true/\xs.length<=20/\C5 o=true/\(apos.endLine == pos.line)=true:=by obtain ⟨t,h⟩:=Ac h;exact ⟨_,_,_,_,_,t.2.1,an1 (an1 (an1 (an1 h))),an2 (an1 (an1 (an1 h))),an2 (an1 (an1 h)),of_decide_eq_true (an2 (an1 h)),an2 h,t.2.2⟩
theorem Agb(h:ck N sc ns (.bf f es) e=true):∃ x np xs pos,e=.Call (.Name x np) xs [] pos/\B6 sc x=true/\(Hb f).1=x/\(Hb f).2=xs.length/\ckEs N sc ns es xs=true:=by obtain ⟨t,h⟩:=Ac h;exact ⟨_,_,_,_,t.2,an1 (an1 (an1 h)),of_decide_eq_true (an2 (an1 (an1 h))),of_decide_eq_true (an2 (an1 h)),an2 h⟩
theorem Agc(h:ck N sc ns (.bm a m es) e=true):∃ o y apos xs pos,e=.Call (.Attribute o y apos) xs [] pos/\ck N sc ns a o=true/\(Hz m).1=y/\(Hz m).2=xs.length/\ckEs N sc ns es xs=true/\C5 o=true/\(apos.endLine == pos.line)=true:=by obtain ⟨t,h⟩:=Ac h;exact ⟨_,_,_,_,_,t.2.1,an1 (an1 (an1 (an1 h))),of_decide_eq_true (an2 (an1 (an1 (an1 h)))),of_decide_eq_true (an2 (an1 (an1 h))),an2 (an1 h),an2 h,t.2.2⟩
theorem R9(h:ck N sc ns (.isinst a t) e=true):∃ f np x y yp pos,e=.Call (.Name f np) [x,.Name y yp] [] pos/\B6 sc f=true/\f=("isinstance":Str)/\B6 sc y=true/\ck N sc ns a x=true/\Akt N y t=true:=by refine Ae fun G kG=>?_;obtain ⟨p,h⟩:=Ac h;obtain ⟨u,h⟩:=Ac h;obtain ⟨w,h⟩:=Ac h;refine kG ?_;exact ⟨_,_,_,_,_,_,p.2.trans (congrArg (fun xs=>Expr.Call (.Name p.1.1 p.1.2.1) xs [] p.1.2.2.2) (u.2.trans (congrArg (fun y=>[u.1.1,y]) w.2))),an1 (an1 (an1 (an1 h))),of_decide_eq_true (an2 (an1 (an1 (an1 h)))),an2 (an1 (an1 h)),an2 (an1 h),an2 h⟩
theorem Qw{cond:MEo}(h:ck N sc ns (.comp elt it cond) e=true):∃ el x px i ifs csc pos,e=.ListComp el [⟨.Name x px,i,ifs,0⟩] csc pos/\ck N sc ns it i=true/\Ei i=true/\Ki sc csc x=true /\
 ck N csc (Ew csc ns++[some x]) elt el=true/\ckC N csc (Ew csc ns++[some x]) cond ifs=true:=by
 obtain ⟨t,h⟩:=Ac h;obtain ⟨u,h⟩:=Ac h;exact ⟨_,_,_,_,_,_,_,t.2.trans (congrArg (fun g=>Expr.ListComp t.1.1 g t.1.2.2.1 t.1.2.2.2) u.2),an1 (an1 (an1 (an1 h))),an2 (an1 (an1 (an1 h))),an2 (an1 (an1 h)),an2 (an1 h),an2 h⟩
noncomputable def Ue(comp:Bool):Expr->Bool
 | .Constant ..=>true
 | .Name ..=>true
 | .BinOp ..=>true
 | .UnaryOp ..=>true
 | .BoolOp ..=>true
 | .Compare ..=>true
 | .Subscript ..=>true
 | .Tuple ..=>true
 | .List ..=>true
 | .Dict ..=>true
 | .Attribute ..=>true
 | .Call ..=>true
 | .ListComp ..=>comp
 | _=>false
noncomputable def Aal:ME->Bool
 | .comp ..=>true
 | _=>false
theorem Bf{c:Bool}(h:e=e')(k:Ue c e'=true):Ue c e=true:=h▸k
theorem Uf(h:ck N sc ns m e=true):Ue (Aal m) e=true:=by
 cases m with
 | none=>obtain ⟨t,_⟩:=Ac h;exact Bf t.2 rfl
 | bool v=>obtain ⟨t,_⟩:=Ac h;exact Bf t.2 rfl
 | int v=>obtain ⟨t,_⟩:=Ac h;exact Bf t.2 rfl
 | str v=>obtain ⟨t,_⟩:=Ac h;exact Bf t.2 rfl
 | glob k=>obtain ⟨t,_⟩:=Ac h;exact Bf t.2 rfl
 | var k=>obtain ⟨t,_⟩:=Ac h;exact Bf t.2 rfl
 | bin op a b=>obtain ⟨t,_⟩:=Ac h;exact Bf t.2 rfl
 | neg a=>obtain ⟨t,_⟩:=Ac h;exact Bf t.2 rfl
 | not a=>obtain ⟨t,_⟩:=Ac h;exact Bf t.2 rfl
 | and a b=>obtain ⟨t,_⟩:=Ac h;exact Bf t.2 rfl
 | or a b=>obtain ⟨t,_⟩:=Ac h;exact Bf t.2 rfl
 | cmp op a b=>obtain ⟨t,_⟩:=Ac h;exact Bf t.2 rfl
 | cmp2 op1 op2 a b c=>obtain ⟨t,_⟩:=Ac h;exact Bf t.2 rfl
 | sub a i=>obtain ⟨t,_⟩:=Ac h;exact Bf t.2 rfl
 | slice a lo hi=>obtain ⟨t,_⟩:=Ac h;exact Bf t.2 rfl
 | tup es=>obtain ⟨t,_⟩:=Ac h;exact Bf t.2 rfl
 | list es=>obtain ⟨t,_⟩:=Ac h;exact Bf t.2 rfl
 | dict=>obtain ⟨t,_⟩:=Ac h;exact Bf t.2 rfl
 | attr a n=>obtain ⟨t,_⟩:=Ac h;exact Bf t.2 rfl
 | call f es=>obtain ⟨t,_⟩:=Ac h;exact Bf t.2 rfl
 | new f es=>obtain ⟨t,_⟩:=Ac h;exact Bf t.2 rfl
 | umeth a m es=>obtain ⟨t,_⟩:=Ac h;exact Bf t.2.1 rfl
 | bf f es=>obtain ⟨t,_⟩:=Ac h;exact Bf t.2 rfl
 | bm a m es=>obtain ⟨t,_⟩:=Ac h;exact Bf t.2.1 rfl
 | isinst a t=>obtain ⟨t,_⟩:=Ac h;exact Bf t.2 rfl
 | comp elt it cond=>obtain ⟨t,_⟩:=Ac h;exact Bf t.2 rfl
end
noncomputable def M2:Expr->Bool
 | .Starred ..=>false
 | _=>true
theorem D2(h:M2 e=true):starEach (e :: es) env=(false,eval e env) :: starEach es env:=by cases e <;> first | rfl | exact C0 h
theorem Du(h:ck N sc ns m e=true):M2 e=true:=by have z:=Uf h;cases e <;> first | rfl | exact C0 z
theorem Dc:∀ {ms:MEs} {xs:List Expr},ckEs N sc ns ms xs=true->Cp env xs:=by
 intro ms xs;induction xs generalizing ms with
 | nil=>intro _;trivial
 | cons x xs ihh =>
  intro h;cases ms with
  | nil=>cases (show false=true from h)
  | cons m ms=>exact ⟨D2 (Du (an1 h)),ihh (an2 h)⟩
theorem Ib(h:ckEs N sc ns ms []=true):ms=.nil:=by
 cases ms with
 | nil=>rfl
 | cons _ _=>cases (show false=true from h)
theorem El:∀ {ms:MEs} {xs:List Expr} {H H':Hp} {vs:List Val},ckEs N sc ns ms xs=true->evalEs T Φ ms Γ H=.ok vs H'->vs.length=xs.length:=by
 intro ms xs;induction xs generalizing ms with
 | nil =>
  intro H H' vs h e;cases ms with
  | nil=>cases (show Res.ok [] H=.ok vs H' from e);rfl
  | cons m ms=>cases (show false=true from h)
 | cons x xs ihh =>
  intro H H' vs h e;cases ms with
  | nil=>cases (show false=true from h)
  | cons m ms =>
   have h:=nB (an1 h) (an2 h);rw [Xn] at e;cases e1:Aj T Φ m Γ H with
   | bad=>rw [Dt e1] at e;exact Eo e
   | exc c H1=>rw [Fk e1] at e;exact L2 e
   | ok v H1 =>
    rw [Eh e1] at e;cases e2:evalEs T Φ ms Γ H1 with
    | bad=>rw [Dt e2] at e;exact Eo e
    | exc c H2=>rw [Fk e2] at e;exact L2 e
    | ok vs' H2 =>rw [Eh e2] at e;cases e;exact rwl cM (rwl cM (rwl (ihh h.2 e2) rfl))
section
theorem Acy:Sim A P (spliced (([]:List Expr).map fun e=>(false,eval e env))) (evalEs cx.T Φ .nil Γ) (Amb.vrs):=by intro H ρ s R p;exact aU ⟨ρ,Full.refl _ _,R,.nil⟩
theorem Ye(x:Sim A P (eval e env) (Aj cx.T Φ m Γ) (Amb.vr))(y:Sim A P (spliced (es.map fun e=>(false,eval e env))) (evalEs cx.T Φ ms Γ) (Amb.vrs)) :
 Sim A P (spliced ((e :: es).map fun e=>(false,eval e env))) (evalEs cx.T Φ (.cons m ms) Γ) (Amb.vrs):=by
 intro H ρ s R p;refine A8.bindK (K':=fun Q E s=>wpAny (model cx.prog cx.w) A (spliced ((e :: es).map fun e=>(false,eval e env))) Q E s) (K:=fun v Q E s=>wpAny (model cx.prog cx.w) A (spliced (es.map fun e=>(false,eval e env))) (fun vs s'=>Q (v :: vs) s') E s) (x H ρ s R p) ?_ ?_ ?_
 . intro b v H1 ρ1 s1 _ F1 R1 vr;refine A8.bindK (K':=fun Q E s=>wpAny (model cx.prog cx.w) A (spliced (es.map fun e=>(false,eval e env))) (fun vs s'=>Q (v :: vs) s') E s) (K:=fun vs Q E s=>Q (v :: vs) s) (y H1 ρ1 s1 R1 (P.st _ _ _ _ p F1)) ?_ ?_ ?_
   . intro bs vs H2 ρ2 s2 _ F2 R2 vrs;exact ⟨ρ2,Full.refl _ _,R2,.cons (vr.step F2.step) vrs⟩
   . exact fun vs Q E Q' E' s h k _=>k _ _ h
   . exact fun Q E h=>h
 . exact fun v Q E Q' E' s h k1 k2=>aL h (fun _ _=>k1 _ _) k2
 . exact fun Q E h=>jN h
theorem Acz(hp:Cp env es)(hz:es.length<=1000)(hlen:∀ H vs H',evalEs cx.T Φ ms Γ H=.ok vs H'->vs.length=es.length)(y:Sim A P (spliced (es.map fun e=>(false,eval e env))) (evalEs cx.T Φ ms Γ) (Amb.vrs)) :
 Sim A P (eval (.Tuple es k pos) env) (Aj cx.T Φ (.tup ms) Γ) (Amb.vr):=by
 intro H ρ s R p;refine A8.bindK (K':=fun Q E s=>wpAny (model cx.prog cx.w) A (eval (.Tuple es k pos) env) Q E s) (K:=fun vs Q E s₁=>vs.length<=sizeLine/\Q (.ref s₁.heap.objs.size) { s₁ with heap:=s₁.heap.push (T5 vs 0) }) (y H ρ s R p) ?_ ?_ ?_
 . intro bs vs H1 ρ1 s1 e1 F1 R1 vrs;have z:bs.length<=sizeLine:=by refine rwl (hlen _ _ _ e1) (rwl eC ?_);exact o27 hz
   have F:=Full.push ρ1 s1.heap (T5 vs 0);exact ⟨by refine rwr vrs.length ?_;exact z,ρ1,F,R1.push _ _,.tup (cJ _ rfl) (R1.fresh_not (Ar _)) z (vrs.step F.step)⟩
 . exact fun vs Q E Q' E' s h k1 _=>⟨h.1,k1 _ _ h.2⟩
 . exact fun Q E h=>wpAny_Tuple (by refine rwl (Az pos hp) ?_;exact h)
theorem Yg(hp:Cp env es)(hz:es.length<=1000)(hlen:∀ H vs H',evalEs cx.T Φ ms Γ H=.ok vs H'->vs.length=es.length)(y:Sim A P (spliced (es.map fun e=>(false,eval e env))) (evalEs cx.T Φ ms Γ) (Amb.vrs)) :
 Sim A P (eval (.List es pos) env) (Aj cx.T Φ (.list ms) Γ) (Amb.vr):=by
 intro H ρ s R p;refine A8.bindK (K':=fun Q E s=>wpAny (model cx.prog cx.w) A (eval (.List es pos) env) Q E s) (K:=fun vs Q E s₁=>vs.length<=sizeLine/\Q (.ref s₁.heap.objs.size) { s₁ with heap:=s₁.heap.push (B4 vs 0) }) (y H ρ s R p) ?_ ?_ ?_
 . intro bs vs H1 ρ1 s1 e1 F1 R1 vrs;have z:bs.length<=sizeLine:=by refine rwl (hlen _ _ _ e1) (rwl eC ?_);exact o27 hz
   refine Gy.andK (by refine rwr vrs.length ?_;exact z) ?_;exact R1.newList s1.toks vrs z
 . exact fun vs Q E Q' E' s h k1 _=>⟨h.1,k1 _ _ h.2⟩
 . exact fun Q E h=>wpAny_List (by refine rwl (Az pos hp) ?_;exact h)
end
structure FullS(env:Env)(ρ:Rho)(h:Heap)(ρ':Rho)(h':Heap):Prop where
 grow:Kk ρ h ρ'
 keep:∀ b o,h.get? b=some o->¬Ay ρ b->b≠env.locals->(∀ y,env.cells.lookup y≠some b)->∃ o',h'.get? b=some o'/\Ep o o'
 live:F5 h h'
theorem Full.toS(x:Full ρ h ρ' h'):FullS env ρ h ρ' h':=⟨x.grow,fun b o e n _ _=>x.keep b o e n,x.live⟩
theorem FullS.refl(env:Env)(ρ:Rho)(h:Heap):FullS env ρ h ρ h:=(Full.refl ρ h).toS
theorem FullS.trans(x:FullS env ρ h ρ' h')(y:FullS env ρ' h' ρ'' h''):FullS env ρ h ρ'' h'' :=
 ⟨x.grow.trans y.grow x.live,fun b o e n n1 n2=>by
  refine ex1 (x.keep b o e n n1 n2) fun o' zz=>Ad zz fun e' u=>?_
  refine ex1 (y.keep b o' e' (x.grow.not n e) n1 n2) fun o'' zz=>Ad zz fun e'' u'=>?_
  exact ⟨o'',e'',u.trans u'⟩,x.live.trans y.live⟩
section
theorem EnvSt.notLoc(x:EnvSt env sc ρ h)(e:h.get? b=some o)(n:∀ es k,o.data≠.dict es k):b≠env.locals:=fun q=>by
 refine ex1 x.loc fun m zz=>ex3 zz fun ob es ep zz=>Ap zz fun e' d _=>?_
 rw [<- q,e] at e';cases e'
 exact n _ _ d
theorem EnvSt.notCell(x:EnvSt env sc ρ h)(e:h.get? b=some o)(n:∀ v,o.data≠.cell v)(y:Str):env.cells.lookup y≠some b:=fun q=>by
 obtain ⟨⟨v,ob,e',d⟩,_⟩:=x.cells y b q
 rw [e] at e';cases e'
 exact n _ d
theorem FullS.step(x:EnvSt env sc ρ h)(F:FullS env ρ h ρ' h'):Step ρ h ρ' h':=by
 refine ⟨let ⟨e,h1,_⟩:=F.grow;⟨e,h1⟩,fun b o e f n=>⟨?_,F.grow.not n e⟩,fun b o C e c n=>?_⟩
 . obtain ⟨o',e',u⟩:=F.keep b o e n (x.notLoc e f.notDict) (x.notCell e fun v q=>by rcases f with ⟨_,_,_,f⟩ | ⟨_,_,f⟩ <;> rw [q] at f <;> cases f);exact rwl e' (rwl (u.exact f.notDict) rfl)
 . obtain ⟨o',e',u⟩:=F.keep b o e n (x.notLoc e c.notDict) (x.notCell e fun v q=>by obtain ⟨_,⟨_,f⟩,_⟩:=c;rw [q] at f;cases f);rw [u.exact c.notDict] at e';exact ⟨o,e',c,F.grow.not n e⟩
noncomputable def Cg(A:fI)(env:Env)(sc:Scope)(ns:List (Option Str))(r:ResS)(t:Sem Flow)(ρ:Rho)(s:bD):Prop :=
 match r with
 | .bad=>True
 | .next Γ' H'=>wpAny (model cx.prog cx.w) A t (fun f s'=>f=.next/\∃ ρ',FullS env ρ s.heap ρ' s'.heap/\Rel H' ρ' s'/\EnvOk env sc ns Γ' ρ' s'.heap) (fun _ _=>False) s
 | .ret v H'=>wpAny (model cx.prog cx.w) A t (fun f s'=>∃ v' ρ',f=.ret v'/\FullS env ρ s.heap ρ' s'.heap/\Rel H' ρ' s'/\(VR ρ' s'.heap v v'/\EnvSt env sc ρ' s'.heap)) (fun _ _=>False) s
 | .exc c Γ' H'=>wpAny (model cx.prog cx.w) A t (fun _ _=>False) (fun e s'=>∃ ρ',FullS env ρ s.heap ρ' s'.heap/\Rel H' ρ' s'/\EnvOk env sc ns Γ' ρ' s'.heap/\Flying ρ' s.heap s'.heap c e) s
noncomputable def I7(A:fI)(l:List Env)(env:Env)(sc:Scope)(ns:List (Option Str))(t:Sem Flow)(m:Env'->Hp->ResS):Prop :=
 ∀ (Γ:Env') (H:Hp) (ρ:Rho) (s:bD),Rel H ρ s->EnvOk env sc ns Γ ρ s.heap->A6 l ρ s.heap->Cg A env sc ns (m Γ H) t ρ s
theorem Cg.bind{α β:Type}{t:Sem α}{m:M β}{V:β->α->Amb}{g:β->Hp->ResS}{K:α->Sem Flow}(e0:EnvOk env sc ns Γ ρ s.heap)(x:A8 A (m H) t V ρ s)
 (y:∀ b a H' ρ' s',m H=.ok b H'->Full ρ s.heap ρ' s'.heap->Rel H' ρ' s'->EnvOk env sc ns Γ ρ' s'.heap->(V b a).P ρ' s'.heap->Cg A env sc ns (g b H') (K a) ρ' s')
 (k:∀ Q E,wpAny (model cx.prog cx.w) A t (fun a s'=>wpAny (model cx.prog cx.w) A (K a) Q E s') E s->wpAny (model cx.prog cx.w) A t' Q E s) :
 Cg A env sc ns (Gw m Γ g H) t' ρ s:=by
 unfold Gw;cases e:m H with
 | bad=>trivial
 | exc c H' =>rw [e] at x;refine k _ _ (aL x (fun _ _ q=>q.elim) fun ex s' ⟨ρ',F,R,fl⟩=>⟨ρ',F.toS,R,e0.full F,fl⟩)
 | ok b H' =>
  rw [e] at x;show Cg A env sc ns (g b H') t' ρ s;cases e2:g b H' with
  | bad=>trivial
  | next Γ2 H2 =>refine k _ _ (aL x (fun a s' ⟨ρ',F,R,v⟩=>?_) fun _ _ q=>q.elim);have z:=y b a H' ρ' s' e F R (e0.full F) v;rw [e2] at z;exact aL z (fun f s'' ⟨h1,ρ'',F',R',e'⟩=>⟨h1,ρ'',F.toS.trans F',R',e'⟩) fun _ _ q=>q.elim
  | ret v2 H2 =>refine k _ _ (aL x (fun a s' ⟨ρ',F,R,v⟩=>?_) fun _ _ q=>q.elim);have z:=y b a H' ρ' s' e F R (e0.full F) v;rw [e2] at z;exact aL z (fun f s'' ⟨v',ρ'',h1,F',R',e'⟩=>⟨v',ρ'',h1,F.toS.trans F',R',e'⟩) fun _ _ q=>q.elim
  | exc c2 Γ2 H2 =>refine k _ _ (aL x (fun a s' ⟨ρ',F,R,v⟩=>?_) fun _ _ q=>q.elim);have z:=y b a H' ρ' s' e F R (e0.full F) v;rw [e2] at z;exact aL z (fun _ _ q=>q) fun ex s'' ⟨ρ'',F',R',e',fl⟩=>⟨ρ'',F.toS.trans F',R',e',fl.older F.live⟩
theorem E9(hlen:Γ.length=ns.length)(hnd:∀ (i j:Nat) (y:Str),ns[i]?=some (some y)->ns[j]?=some (some y)->i=j)
 (R:Rel H ρ s) (e0:EnvOk env sc ns Γ ρ s.heap) (ho:E7 sc ns i y=true) (hv:VR ρ s.heap mv v)
 (k:∀ h' tk,FullS env ρ s.heap ρ h'->Rel H ρ { s with heap:=h',toks:=tk }->EnvOk env sc ns (Γ.set i (some mv)) ρ h' ->
  (∃ q o,((sc.names.lookup y=some .local/\q=env.locals)\/(sc.names.lookup y=some .cell/\env.cells.lookup y=some q))/\eU q s.heap h'/\h'.get? q=some o)->Q () { s with heap:=h',toks:=tk }) :
 wpAny (model cx.prog cx.w) A (storeName env y v) Q E s:=by
 have hown:(sc.names.lookup y=some .local\/sc.names.lookup y=some .cell)/\ns[i]?=some (some y):=by exact ⟨Tv (an1 ho),of_decide_eq_true (an2 ho)⟩
 obtain ⟨hk,hi⟩:=hown;have hiΓ:i < Γ.length:=by refine rwl hlen ?_;exact (aE.mp hi).1
 have set_i:(Γ.set i (some mv))[i]?=some (some mv):=by exact rwl (dA hiΓ) rfl
 have set_j:∀ j,j≠i->(Γ.set i (some mv))[j]?=Γ[j]?:=fun j hj=>cB (fun q=>hj q.symm);rcases hk with hk | hk
 . have kd:env.kindOf y=some .local:=e0.st.kinds y _ hk;obtain ⟨m,hm⟩:=e0.st.loc;refine wpAny_storeName_local kd hm (fun h' hn hs=>?_) (by refine rwl e0.st.fn ?_;rfl);refine ex3 (id hm) fun o es ep zz=>Ap zz fun eo d _=>?_;refine ex3 (id hn) fun o' es' ep' zz=>Ap zz fun eo' d' _=>?_;have n1:¬F7 o:=fun f=>f.notDict _ _ d;have n2:∀ C,¬Ds o C:=fun C f=>f.notDict _ _ d;have St:Step ρ s.heap ρ h':=Step.but eo' eo hs n1 n2;have notc:∀ z c,env.cells.lookup z=some c->c≠env.locals:=fun z c hc q=>by obtain ⟨⟨v,ob,e',dc⟩,_⟩:=e0.st.cells z c hc;rw [q,eo] at e';cases e';rw [d] at dc;cases dc
   refine (fun a b c=>k h' (s.toks+1) a b c ⟨env.locals,o',.inl ⟨hk,rfl⟩,hs,eo'⟩) ⟨Kk.refl _ _,fun b ob eb _ nb _=>⟨ob,by refine rwl (hs.2 b nb) ?_;exact eb,.refl ob⟩,SameBut.live hs eo'⟩ (R.but eo' eo hs n1 n2 e0.st.locN e0.st.locB) ⟨?_,by refine rwl bW ?_;exact hlen,?_⟩
   . refine ⟨e0.st.fn,e0.st.glob,e0.st.blt,e0.st.kinds,⟨_,hn⟩,e0.st.locN,e0.st.locB,fun z c hc=>?_,e0.st.hasCell,e0.st.apart⟩;refine Ap (e0.st.cells z c hc) fun zn0 c1 c2=>?_;obtain ⟨u,hu⟩:=zn0;exact ⟨⟨u,Bq hu fun ob eb=>⟨ob,by refine rwl (hs.2 c (notc z c hc)) ?_;exact eb,rfl⟩⟩,c1,c2⟩
   . intro j z mz hj hz;by_cases q:j=i
     . subst q;rw [set_i] at hz;cases hz;rw [hi] at hj;cases hj;exact ⟨v,.inl ⟨kd,_,hn,by simp⟩,hv.step St⟩
     . rw [set_j j q] at hz;refine ex1 (e0.vals j z mz hj hz) fun u zz=>Ad zz fun hu ru=>?_;have zy:z≠y:=fun e=>q (hnd j i y (e▸hj) hi);refine ⟨u,?_,ru.step St⟩;rcases hu with ⟨kz,m',hm',ez⟩ | ⟨kz,c,hc,ez⟩
       . refine .inl ⟨kz,_,hn,?_⟩;refine Ae fun G kG=>?_;refine ex3 hm' fun o2 es2 ep2 zz=>Cf zz fun eo2 d2 _ f2=>?_;refine ex3 hm fun o3 es3 ep3 zz=>Cf zz fun eo3 d3 _ f3=>?_;refine kG ?_;rw [eo2] at eo3;cases eo3;rw [d2] at d3;cases d3;simp only [if_neg zy];refine rwr (f3 z) (rwl (f2 z) ?_);exact ez
       . exact .inr ⟨kz,c,hc,Bq ez fun ob eb=>⟨ob,by refine rwl (hs.2 c (notc z c hc)) ?_;exact eb,rfl⟩⟩
 . have kd:env.kindOf y=some .cell:=e0.st.kinds y _ hk;refine Ae fun G kG=>?_;obtain ⟨c,hc⟩:=e0.st.hasCell y (.inl hk);refine Ap (e0.st.cells y c hc) fun zn0 cn cb=>?_;obtain ⟨u0,hu0⟩:=zn0;refine kG ?_;refine wpAny_storeName_cell e0.st.fn kd hc hu0 fun h' hn hs=>?_;refine Ae fun G kG=>?_;refine ex1 (id hu0) fun o zz=>Ad zz fun eo d=>?_;refine ex1 (id hn) fun o' zz=>Ad zz fun eo' d'=>?_;refine kG ?_;have n1:¬F7 o:=fun f=>by rcases f with ⟨_,_,_,f⟩ | ⟨_,_,f⟩ <;> rw [d] at f <;> cases f
   have n2:∀ C,¬Ds o C:=fun C f=>by refine Ap f fun _ zn1 _=>?_;obtain ⟨_,f⟩:=zn1;rw [d] at f;cases f
   have St:Step ρ s.heap ρ h':=Step.but eo' eo hs n1 n2;have notl:env.locals≠c:=fun q=>by refine ex1 e0.st.loc fun m zz=>ex3 zz fun ob es ep zz=>Ap zz fun e' dl _=>?_;rw [q,eo] at e';cases e';rw [d] at dl;cases dl
   have locK:∀ ob,s.heap.get? env.locals=some ob->∃ o',h'.get? env.locals=some o'/\o'.data=ob.data:=fun ob eb=>⟨ob,by refine rwl (hs.2 _ notl) ?_;exact eb,rfl⟩;refine (fun a b c'=>k h' s.toks a b c' ⟨c,o',.inr ⟨hk,hc⟩,hs,eo'⟩) ⟨Kk.refl _ _,fun b ob eb _ _ nb=>⟨ob,by refine rwl (hs.2 b (fun q=>nb y (q▸hc))) ?_;exact eb,.refl ob⟩,SameBut.live hs eo'⟩ (R.but eo' eo hs n1 n2 cn cb) ⟨?_,by refine rwl bW ?_;exact hlen,?_⟩
   . obtain ⟨m,hm⟩:=e0.st.loc;refine ⟨e0.st.fn,e0.st.glob,e0.st.blt,e0.st.kinds,⟨m,Bo hm locK⟩,e0.st.locN,e0.st.locB,fun z c' hc'=>?_,e0.st.hasCell,e0.st.apart⟩;refine Ap (e0.st.cells z c' hc') fun zn0 c1 c2=>?_;obtain ⟨u,hu⟩:=zn0;by_cases q:c'=c
     . subst q;exact ⟨⟨_,hn⟩,c1,c2⟩
     . exact ⟨⟨u,Bq hu fun ob eb=>⟨ob,by refine rwl (hs.2 c' q) ?_;exact eb,rfl⟩⟩,c1,c2⟩
   . intro j z mz hj hz;by_cases q:j=i
     . subst q;rw [set_i] at hz;cases hz;rw [hi] at hj;cases hj;exact ⟨v,.inr ⟨.inl kd,c,hc,hn⟩,hv.step St⟩
     . rw [set_j j q] at hz;refine ex1 (e0.vals j z mz hj hz) fun u zz=>Ad zz fun hu ru=>?_;have zy:z≠y:=fun e=>q (hnd j i y (e▸hj) hi);refine ⟨u,?_,ru.step St⟩;rcases hu with ⟨kz,m',hm',ez⟩ | ⟨kz,c',hc',ez⟩
       . exact .inl ⟨kz,m',Bo hm' locK,ez⟩
       . have cc:c'≠c:=fun e=>zy (e0.st.apart z y c' hc' (e▸hc));exact .inr ⟨kz,c',hc',Bq ez fun ob eb=>⟨ob,by refine rwl (hs.2 c' cc) ?_;exact eb,rfl⟩⟩
end
structure Off(ρ:Rho)(h g g':Heap):Prop where
 old:∀ b o o0,g.get? b=some o->h.get? b=some o0->∃ o',g'.get? b=some o'/\Ep o o'
 own:∀ b o,g.get? b=some o->Ay ρ b->g'.get? b=some o
 base:∀ b o o0,g.get? b=some o->cx.h₀.get? b=some o0->g'.get? b=some o
 fix:∀ b o,g.get? b=some o->F7 o->g'.get? b=some o
 exc:∀ b o C,g.get? b=some o->Ds o C->∃ o',g'.get? b=some o'/\Ds o' C
 cell:∀ b o v,g.get? b=some o->o.data=.cell v->g'.get? b=some o
 dict:∀ b o es n,g.get? b=some o->o.data=.dict es n->∃ o',g'.get? b=some o'/\Ep o o'
 live:F5 g g'
section
theorem Off.refl:Off ρ h g g:=⟨fun _ o _ e _=>⟨o,e,.refl o⟩,fun _ _ e _=>e,fun _ _ _ e _=>e,fun _ _ e _=>e,fun _ o _ e x=>⟨o,e,x⟩,fun _ _ _ e _=>e,fun _ o _ _ e _=>⟨o,e,.refl o⟩,.refl g⟩
theorem Off.trans(x:Off ρ h g g')(y:Off ρ h g' g''):Off ρ h g g'':=by
 refine ⟨fun b o o0 e e0=>?_,fun b o e w=>y.own b o (x.own b o e w) w,fun b o o0 e e0=>y.base b o o0 (x.base b o o0 e e0) e0,fun b o e f=>y.fix b o (x.fix b o e f) f,fun b o C e f=>?_,fun b o v e d=>y.cell b o v (x.cell b o v e d) d,fun b o es n e d=>?_,x.live.trans y.live⟩
 . refine ex1 (x.old b o o0 e e0) fun o1 zz=>Ad zz fun e1 u1=>?_;refine ex1 (y.old b o1 o0 e1 e0) fun o2 zz=>Ad zz fun e2 u2=>?_;exact ⟨o2,e2,u1.trans u2⟩
 . refine ex1 (x.exc b o C e f) fun o1 zz=>Ad zz fun e1 f1=>?_;exact y.exc b o1 C e1 f1
 . refine ex1 (x.dict b o es n e d) fun o1 zz=>Ad zz fun e1 u1=>?_;refine ex1 (y.dict b o1 es n e1 (u1.data.trans d)) fun o2 zz=>Ad zz fun e2 u2=>?_;exact ⟨o2,e2,u1.trans u2⟩
theorem Off.step(x:Off ρ h g g'):Step ρ g ρ g':=⟨⟨[],by simp⟩,fun b o e f n=>⟨x.fix b o e f,n⟩,fun b o C e c n=>by refine ex1 (x.exc b o C e c) fun o' zz=>Ad zz fun e' c'=>?_;exact ⟨o',e',c',n⟩⟩
theorem Off.rel(x:Off ρ h s.heap h')(R:Rel H ρ s):Rel H ρ { s with heap:=h' } :=
 R.same (tk:=s.toks) x.step (fun b o w e=>x.own b o e w) fun b o e=>x.base b o o (R.base b o e) e
theorem Off.full(x:Off ρ h g g')(F:Full ρ₀ h ρ g):Full ρ₀ h ρ g':=⟨F.grow,fun b o e n=>by
 refine Ae fun G kG=>?_
 refine ex1 (F.keep b o e n) fun o1 zz=>Ad zz fun e1 u1=>?_
 refine ex1 (x.old b o1 o e1 e) fun o2 zz=>Ad zz fun e2 u2=>?_
 refine kG ?_
 exact ⟨o2,e2,u1.trans u2⟩,F.live.trans x.live⟩
theorem Off.fullS(x:Off ρ h g g')(F:FullS env ρ₀ h ρ g):FullS env ρ₀ h ρ g':=⟨F.grow,fun b o e n n1 n2=>by
 refine ex1 (F.keep b o e n n1 n2) fun o1 zz=>Ad zz fun e1 u1=>?_
 refine ex1 (x.old b o1 o e1 e) fun o2 zz=>Ad zz fun e2 u2=>?_
 exact ⟨o2,e2,u1.trans u2⟩,F.live.trans x.live⟩
theorem Off.nsK(x:Off ρ h g g')(n:g.Ns a m):g'.Ns a m:=by refine ex3 n fun o es ep zz=>Ap zz fun e d r=>?_;refine ex1 (x.dict a o _ _ e d) fun o' zz=>Ad zz fun e' u=>?_;exact ⟨o',es,ep,e',u.data.trans d,r⟩
theorem Off.isCell(x:Off ρ h g g')(n:g.IsCell a v):g'.IsCell a v:=by refine ex1 n fun o zz=>Ad zz fun e d=>?_;exact ⟨o,x.cell a o _ e d,d⟩
theorem Off.envK(x:Off ρ h g g')(w:EnvOk env sc ns Γ ρ g):EnvOk env sc ns Γ ρ g':=by
 obtain ⟨m,hm⟩:=w.st.loc;refine ⟨⟨w.st.fn,w.st.glob,w.st.blt,w.st.kinds,⟨m,x.nsK hm⟩,w.st.locN,w.st.locB,fun y c hc=>?_,w.st.hasCell,w.st.apart⟩,w.len,fun i y mv hi hm=>?_⟩
 . refine Ap (w.st.cells y c hc) fun zn0 n b=>?_;obtain ⟨v,hv⟩:=zn0;exact ⟨⟨v,x.isCell hv⟩,n,b⟩
 . refine ex1 (w.vals i y mv hi hm) fun v zz=>Ad zz fun hv r=>?_;refine ⟨v,?_,r.step x.step⟩;rcases hv with ⟨k,m,hm,e⟩ | ⟨k,c,hc,e⟩
   . exact .inl ⟨k,m,x.nsK hm,e⟩
   . exact .inr ⟨k,c,hc,x.isCell e⟩
theorem Off.frames(x:Off ρ h g g')(w:A6 l ρ g):A6 l ρ g':=fun env he=>by
 refine Ae fun G kG=>?_
 refine Ad (w env he) fun k zz=>ex2 zz fun L o zz=>G7 zz fun h1 h2 h3 zn6 h6=>?_;obtain ⟨es,n,h5⟩:=zn6
 refine ex1 (x.dict L o es n h3 h5) fun o' zz=>Ad zz fun e' u=>?_
 refine kG ?_
 exact ⟨k,L,o',h1,h2,e',⟨es,n,u.data.trans h5⟩,h6⟩
theorem Off.push(o:Obj):Off ρ h g (g.push o):=by have k:∀ b o',g.get? b=some o'->(g.push o).get? b=some o':=fun b o' e=>bR o e;exact ⟨fun b o _ e _=>⟨o,k b o e,.refl o⟩,fun b o e _=>k b o e,fun b o _ e _=>k b o e,fun b o e _=>k b o e,fun b o _ e x=>⟨o,k b o e,x⟩,fun b o _ e _=>k b o e,fun b o _ _ e _=>⟨o,k b o e,.refl o⟩,fun b o e=>⟨o,k b o e⟩⟩
theorem Off.upd(e:g.get? a=some o)(d:o.data=.fields vs)(hn:h.get? a=none)(hb:cx.h₀.get? a=none)(no:¬Ay ρ a)(nf:¬F7 o):Off ρ h g (g.update a (gF f)):=by
 have self:=eP (h:=g) (gF f) e (pA (jS d f));have k:∀ b o',b≠a->g.get? b=some o'->(g.update a (gF f)).get? b=some o':=fun b o' n e'=>(fB _ _ (gO n)).trans e';have is:∀ b o',g.get? b=some o'->b=a->o'=o:=fun b o' e' q=>by rw [q,e] at e';cases e';rfl
 refine ⟨fun b ob o0 eb e0=>⟨ob,k b ob (fun q=>by rw [q,hn] at e0;cases e0) eb,.refl ob⟩,fun b ob eb w=>k b ob (fun q=>no (q▸w)) eb,fun b ob o0 eb e0=>k b ob (fun q=>by rw [q,hb] at e0;cases e0) eb,
  fun b ob eb fx=>k b ob (fun q=>nf (is b ob eb q▸fx)) eb,fun b ob C eb x=>?_,fun b ob v eb db=>k b ob (fun q=>by rw [is b ob eb q,d] at db;cases db) eb,fun b ob es n eb db=>⟨ob,k b ob (fun q=>by rw [is b ob eb q,d] at db;cases db) eb,.refl ob⟩,fun b ob eb=>?_⟩
 . by_cases q:b=a
   . subst q;rw [e] at eb;cases eb;exact ⟨_,self,(qO _ _).trans x.1,⟨_,jS d f⟩,by obtain ⟨c,dd,dt,sl⟩:=o;cases d;exact x.2.2⟩
   . exact ⟨ob,k b ob q eb,x⟩
 . by_cases q:b=a
   . refine rwl q ?_;exact ⟨_,self⟩
   . exact ⟨ob,k b ob q eb⟩
theorem Off.slots(x:Heap.SlotsOnly S g g')(fr:∀ b∈S,cx.h₀.get? b=none/\¬Ay ρ b/\∀ o,g.get? b=some o->∃ es n,o.data=.dict es n):Off ρ h g g':=by
 have k:∀ b o,b ∉ S->g.get? b=some o->g'.get? b=some o:=fun b o n e=>(x.2.1 b n).trans e;have up:∀ b o,g.get? b=some o->∃ o',g'.get? b=some o'/\Ep o o':=fun b o e=>by
  by_cases m:b∈S
  . obtain ⟨sl,e'⟩:=x.2.2 b o e;exact ⟨_,e',.inr ⟨(fr b m).2.2 o e,rfl⟩⟩
  . exact ⟨o,k b o m e,.refl o⟩
 refine ⟨fun b o _ e _=>up b o e,fun b o e w=>k b o (fun m=>(fr b m).2.1 w) e,fun b o o0 e e0=>k b o (fun m=>by rw [(fr b m).1] at e0;cases e0) e,fun b o e f=>k b o (fun m=>?_) e,fun b o C e f=>⟨o,k b o (fun m=>?_) e,f⟩,fun b o v e d=>k b o (fun m=>?_) e,fun b o es n e _=>up b o e,fun b o e=>?_⟩
 . refine ex2 ((fr b m).2.2 o e) fun es n d=>?_;exact f.notDict es n d
 . refine ex2 ((fr b m).2.2 o e) fun es n d=>?_;exact f.notDict es n d
 . refine ex2 ((fr b m).2.2 o e) fun es n d'=>?_;rw [d] at d';cases d'
 . refine ex1 (up b o e) fun o' zz=>Ad zz fun e' _=>?_;exact ⟨o',e'⟩
structure Flown(ρ:Rho)(h h':Heap)(c:Nat)(e:Value):Prop where
 is:∃ (a C:Addr) (vs:Array Value) (tb:Addr) (tvs:Array Value),e=.ref a/\cx.cls[c]?=some (.ref C)/\h.get? a=none/\h'.get? a=some { cls:=.ref C,dict:=none,data:=.fields vs,slots:=#[] }/\vs.size=6/\¬Ay ρ a /\
  vs[1]?=some (.ref tb)/\h.get? tb=none/\h'.get? tb=some { cls:=.type "traceback",dict:=none,data:=.fields tvs,slots:=#[] }/\tvs.size=11/\¬Ay ρ tb
theorem Flown.to(x:Flown ρ h g c e):Flying ρ h g c e:=by refine ex5 x.is fun a C vs tb tvs zz=>Pb zz fun h1 h2 h3 h4 h5 h6 h7=>?_;exact ⟨a,C,vs,h1,h2,h3,h4,h5,h6,.inr ⟨tb,tvs,h7⟩⟩
theorem Flown.vr(x:Flown ρ h g c e):VR ρ g (.exc c) e:=by refine ex5 x.is fun a C vs tb tvs zz=>Pb zz fun hr0 h2 h3 h4 h5 h6 _=>?_;refine rwl hr0 ?_;exact .exc h4 h6 h2 ⟨rfl,⟨_,rfl⟩,rfl⟩
theorem M3:¬F7 { cls:=.ref C,dict:=none,data:=.fields vs,slots:=#[] }:=by rintro (⟨q,_⟩ | ⟨q,_⟩) <;> cases q
theorem Jo:¬F7 { cls:=.type "traceback",dict:=none,data:=.fields vs,slots:=#[] }:=by
 rintro (⟨q,_⟩ | ⟨q,_⟩)
 . exact absurd (show lR "traceback"=lR "tuple" from q) (by decide)
 . exact absurd (show lR "traceback"=lR "range" from q) (by decide)
theorem Sa(w:A6 l ρ g):g.FunFrames cx.h₀ l:=by
 induction l with
 | nil=>trivial
 | cons env l ih =>refine Ae fun G kG=>?_;refine Ad (w env (.head _)) fun k zz=>ex2 zz fun L o zz=>G7 zz fun h1 h2 h3 zn6 _=>?_;obtain ⟨es,n,h5⟩:=zn6;refine kG ?_;exact ⟨k,⟨L,o,h1,h2,h3,fun vs q=>by rw [h5] at q;cases q⟩,ih fun e he=>w e (.tail _ he)⟩
theorem L8(w:A6 l ρ g):∀ b∈l.filterMap (·.frame),cx.h₀.get? b=none/\¬Ay ρ b/\∀ o,g.get? b=some o->∃ es n,o.data=.dict es n:=fun b hb=>by
 refine Ae fun G kG=>?_
 refine ex1 (List.mem_filterMap.mp hb) fun env zz=>Ad zz fun he hf=>?_
 refine Ad (w env he) fun k zz=>ex2 zz fun L o zz=>G7 zz fun h1 h2 h3 h5 h6=>?_
 refine kG ?_
 rw [h1] at hf;cases hf
 exact ⟨h2,h6,fun o' e'=>by rw [h3] at e';cases e';exact h5⟩
end
section
theorem Qx(hfr:A.frames=some (env :: outer))(hf:env.frame=some L)(w:A6 (env :: outer) ρ s.heap)(R:Rel H ρ s)(lb:F5 cx.h₀ h)(lh:F5 h s.heap)(hC:cx.cls[c]?=some (.ref C))(ha:h.get? a=none)(ga:s.heap.get? a=some { cls:=.ref C,dict:=none,data:=.fields vs,slots:=#[] })(hz:vs.size=6)(no:¬Ay ρ a)
 (k:∀ h',Off ρ h s.heap h'->Flown ρ h h' c (.ref a)->Q () { s with heap:=h' }) :
 wpAny (model cx.prog cx.w) A (do let x<-frameOf env;let pl<-entryPlaceOf L hn;let b<-oE head x .none (rawInt L) .none pl;setField (.ref a) 1 b) Q E s:=by
 refine aF (wpAny_frameOf_fun hfr (Sa w) hf fun h₁ hs=>?_);have o1:Off ρ h s.heap h₁:=Off.slots hs (L8 w);refine aF (wpAny_entryPlaceOf fun pl hpl=>?_);unfold oE newFields;refine aF (iR ?_ (hpl.sizeOk5 _ _ _ _ _));have na:a ∉ (env :: outer).filterMap (·.frame):=fun m=>by refine ex2 ((L8 w a m).2.2 _ ga) fun es n d=>?_;cases d
 have ga1:h₁.get? a=some { cls:=.ref C,dict:=none,data:=.fields vs,slots:=#[] }:=(hs.2.1 a na).trans ga;generalize ht:({ cls:=.type "traceback",dict:=none,data:=.fields ([head,.ref L,.none,rawInt L,.none]++(if pl.isEmpty then eA 6 eQ else pl)).toArray }:Obj)=t;have sz:([head,.ref L,.none,rawInt L,.none]++(if pl.isEmpty then eA 6 eQ else pl)).toArray.size=11:=by rcases hpl with rfl | ⟨_,_,_,_,_,_,_,rfl⟩ <;> rfl
 have ga2:(h₁.push t).get? a=some { cls:=.ref C,dict:=none,data:=.fields vs,slots:=#[] }:=bR t ga1;refine kC ga2 rfl (o28 hz) ?_;have ne:h₁.objs.size≠a:=dW (gS ga1);have gt:(h₁.push t).get? h₁.objs.size=some t:=cJ h₁ (by refine rwr ht ?_;rfl);have R1:Rel H ρ { s with heap:=h₁ }:=o1.rel R;have hb:cx.h₀.get? a=none:=lb.none ha;have o2:Off ρ h s.heap ((h₁.push t).update a (gF (·.setIfInBounds 1 (gB h₁.objs.size)))):=(o1.trans (Off.push t)).trans (Off.upd ga2 rfl ha hb no M3);refine k _ o2 ⟨a,C,vs.setIfInBounds 1 (.ref h₁.objs.size),h₁.objs.size,_,rfl,hC,ha,eP _ ga2 rfl,by refine rwl jX ?_;exact hz,no,?_,?_,((fB _ _ (gO ne)).trans gt).trans (congrArg some ht.symm),sz,R1.fresh_not (Ar h₁)⟩
 . exact rwl (Array.getElem?_setIfInBounds_self_of_lt (o28 hz)) rfl
 . refine lh.none ?_;refine rwl hs.1 ?_;exact Ar s.heap
theorem Pn(hfr:A.frames=some (env :: outer))(hf:env.frame=some L)(w:A6 (env :: outer) ρ s.heap)(R:Rel H ρ s)(lb:F5 cx.h₀ h)(lh:F5 h s.heap)(fl:Flying ρ h s.heap c e)
 (k:∀ h',Off ρ h s.heap h'->Flown ρ h h' c e->Q () { s with heap:=h' }):wpAny (model cx.prog cx.w) A (noteFrame e env) Q E s:=by
 refine Ae fun G kG=>?_;refine ex3 fl.is fun a C vs zz=>Pb zz fun zr3 hC ha ga hz no h7=>?_;subst zr3;refine kG ?_;unfold noteFrame;simp only [hf];rcases h7 with h1 | ⟨tb,tvs,h1,htb,gtb,hzt,not⟩
 . refine aF (lY ga rfl h1 ?_);exact Qx hfr hf w R lb lh hC ha ga hz no k
 . refine aF (lY ga rfl h1 ?_);obtain ⟨x3,h3⟩:∃ x,tvs[3]?=some x:=⟨_,cY (hzt▸(by decide:3 < 11))⟩;refine aF (lY gtb rfl h3 ?_);by_cases q:(x3 == rawInt L)=true
   . refine rwl (if_pos q) ?_;exact aU (k _ Off.refl ⟨a,C,vs,tb,tvs,rfl,hC,ha,ga,hz,no,h1,htb,gtb,hzt,not⟩)
   . refine rwl (if_neg q) ?_;refine aF (kC gtb rfl (hzt▸(by decide:3 < 11)) ?_);have o1:Off ρ h s.heap (s.heap.update tb (gF (·.setIfInBounds 3 eQ))):=Off.upd gtb rfl htb (lb.none htb) not Jo;have ne:tb≠a:=fun q=>by rw [q,ga] at gtb;exact nomatch gtb
     exact Qx (s:={ s with heap:=s.heap.update tb (gF (·.setIfInBounds 3 eQ)) }) hfr hf (o1.frames w) (o1.rel R) lb (lh.trans o1.live) hC ha ((fB _ _ ne).trans ga) hz no fun h' o' fl'=>k h' (o1.trans o') fl'
theorem Ic(lb:F5 cx.h₀ h)(fl:Flown ρ h s.heap c e)(k:∀ h',Off ρ h s.heap h'->Flown ρ h h' c e->Q () { s with heap:=h' }):wpAny (model cx.prog cx.w) A (setFlight e fr) Q E s:=by
 refine Ae fun G kG=>?_;refine ex5 fl.is fun a C vs tb tvs zz=>Abu zz fun zr5 hC ha ga hz no h1 htb gtb hzt not=>?_;subst zr5;refine kG ?_;unfold setFlight;refine aF (lY ga rfl h1 ?_);refine kC gtb rfl (hzt▸(by decide:3 < 11)) ?_;have ne:tb≠a:=fun q=>by rw [q,ga] at gtb;exact nomatch gtb
 exact k _ (Off.upd gtb rfl htb (lb.none htb) not Jo) ⟨a,C,vs,tb,_,rfl,hC,ha,(fB _ _ ne).trans ga,hz,no,h1,htb,eP _ gtb rfl,by refine rwl jX ?_;exact hzt,not⟩
theorem Sb(hfr:A.frames=some (env :: outer))(hf:env.frame=some L)(w:A6 (env :: outer) ρ s.heap)(R:Rel H ρ s)(lb:F5 cx.h₀ h)(lh:F5 h s.heap)(fl:Flying ρ h s.heap c e)
 (k:∀ h',Off ρ h s.heap h'->Flown ρ h h' c e->Q () { s with heap:=h' }):wpAny (model cx.prog cx.w) A (leaving env e) Q E s:=by
 unfold leaving;exact aF (Pn hfr hf w R lb lh fl fun h1 o1 fl1=>Ic (s:={ s with heap:=h1 }) lb fl1 fun h2 o2 fl2=>k h2 (o1.trans o2) fl2)
theorem Ac0(lb:F5 cx.h₀ h)(fl:Flown ρ h s.heap c e)(k:∀ h',Off ρ h s.heap h'->Flown ρ h h' c e->E e { s with heap:=h' }):cameBackBy (model cx.prog cx.w) A env E e s:=by refine Ae fun G kG=>?_;refine ex5 fl.is fun a C vs tb tvs zz=>Abu zz fun zr5 hC ha ga hz no h1 htb gtb hzt not=>?_;subst zr5;refine kG ?_;unfold cameBackBy;refine aF (lY ga rfl h1 ?_);exact Ic lb ⟨a,C,vs,tb,tvs,rfl,hC,ha,ga,hz,no,h1,htb,gtb,hzt,not⟩ fun h' o' fl'=>k h' o' fl'
end
noncomputable def Id(Φ:Funs)(d:Nat):Prop :=
 ∀ (k:Nat) (a:Addr) (args:List Val) (vals:List Value) (A:fI) (l:List Env),cx.fns[k]?=some a->RoomF A d->A.frames=some l ->
  Sim A ((Amb.vrs args vals).and (Amb.frames l)) (call (.ref a) vals) (Φ k args) (Amb.vr)
section
theorem Base.func(B:Base){k:Nat}(hk:cx.fns[k]?=some a)(hd:∃ f,cx.T.funs[k]?=some f):∃ o fd,cx.h₀.get? a=some o/\o.data=.func fd:=by refine Ae fun G kG=>?_;obtain ⟨f,hf⟩:=hd;refine ex4 ((B.fns k a f hk hf).is) fun o fd body ns zz=>Cf zz fun e _ d _=>?_;refine kG ?_;exact ⟨o,fd,e,d⟩
theorem Ug(B:Base)(hΦ:∀ a args vals,cx.fns[f]?=some a->Sim A ((Amb.vrs args vals).and (Amb.frames l)) (call (.ref a) vals) (Φ f args) (Amb.vr))(hg:B6 sc x=true)(hk:Ek N.funs x f=true)(hex:∃ g,cx.T.funs[f]?=some g)(hes:ckEs N sc ns es xs=true)
 (y:Sim A ((Amb.env env sc ns Γ).and (Amb.frames l)) (spliced (xs.map fun e=>(false,eval e env))) (evalEs cx.T Φ es Γ) (Amb.vrs)) :
 Sim A ((Amb.env env sc ns Γ).and (Amb.frames l)) (eval (.Call (.Name x np) xs [] pos) env) (Aj cx.T Φ (.call f es) Γ) (Amb.vr):=by
 refine Ae fun G kG=>?_;refine ex2 B.ns fun mg mb zz=>Cf zz fun ng nb q _=>?_;refine ex1 (q x f (D0 hk)) fun a zz=>Ad zz fun ha hx=>?_;refine ex2 (B.func ha hex) fun o fd zz=>Ad zz fun ho hd=>?_;refine kG ?_;intro H ρ s R p;refine Gy.mono (Gg (f:=.ref a) (K:=fun vs Q E s=>(s.heap.get? a=some o/\o.data=.func fd)/\wpAny (model cx.prog cx.w) A (call (.ref a) vs) Q E s) (fun e=>Ib (e▸hes)) R (y H ρ s R p) ?_ ?_) ?_
 . intro ms vs H1 ρ1 s1 _ F1 R1 vrs;exact Gy.andK ⟨R1.base _ _ ho,hd⟩ (hΦ a ms vs ha H1 ρ1 s1 R1 ⟨vrs,(Amb.frames l).st _ _ _ _ p.2 F1⟩)
 . exact fun vs Q E Q' E' s h k1 k2=>⟨h.1,aL h.2 k1 k2⟩
 . intro Q E h;refine iU (wp_glob R p.1.st hg ng nb (.inl hx) ?_);refine rwl (Az pos (Dc hes)) ?_;exact oH (o:=o) (fd:=fd) (aL h (fun b s₁ h₁=>by refine rwl h₁.1 ?_;exact h₁.2) fun _ _ q=>q)
theorem Hc{α:Type}:∀ {ns:List Str} {vs:List α} {i:Nat} {y:Str} {v:α},ns.Nodup->ns[i]?=some y->vs[i]?=some v->(ns.zip vs).lookup y=some v:=by
 intro ns;induction ns with
 | nil=>intro _ _ _ _ _ h;exact nomatch h
 | cons n ns ihh =>
  intro vs i y v nd h1 h2;cases vs with
  | nil=>exact nomatch h2
  | cons u vs =>
   refine rwl lW (rwl bN ?_);cases i with
   | zero =>cases h1;cases h2;rw [beq_self_eq_true]
   | succ i =>have ne:(y == n)=false:=beq_false_of_ne fun e:y=n=>(eD.mp nd).1 (e▸aH (i:=i) h1);refine rwl ne ?_;exact ihh (eD.mp nd).2 h1 h2
theorem M4:∀ {ns:List Str} {vs:List Value},ns.Nodup->vs.length=ns.length->(ns.filterMap fun n=>((ns.zip vs).lookup n).map (n,·))=ns.zip vs:=by
 have gen:∀ (ns:List Str) (vs:List Value) (look:Str->Option Value),vs.length=ns.length->(∀ (i:Nat) (y:Str) (v:Value),ns[i]?=some y->vs[i]?=some v->look y=some v)->(ns.filterMap fun n=>(look n).map (n,·))=ns.zip vs:=by
  intro ns;induction ns with
  | nil=>intro vs look _ _;rfl
  | cons n ns ih =>
   intro vs look hl k;cases vs with
   | nil=>cases hl
   | cons v vs =>have e:=k 0 n v rfl rfl;refine rwl List.filterMap_cons (rwl e ?_);simp only [iZ,lW];exact rwl (ih vs look (by simpa using hl) fun i y u h1 h2=>k (i+1) y u h1 h2) rfl
 intro ns vs nd hl;exact gen ns vs _ hl fun i y v h1 h2=>Hc nd h1 h2
theorem Uh{α:Type}{c:Prop}[Decidable c]{x y r:α}(h:¬c)(k:y=r):(if c then x else y)=r:=(if_neg h).trans k
theorem Lr(h1:fd.params.posonlyargs=[])(h2:fd.params.args.map (·.arg)=names)(h3:fd.params.vararg=none)(h4:fd.params.kwonlyargs=[])(h5:fd.params.kwarg=none)(h6:fd.defaults=.none)
 (nd:names.Nodup) (hl:vals.length=names.length):bindArgs fd ⟨vals,[]⟩=pure (names.zip vals):=by
 have hmiss:∀ k:Nat,((names.take k).filter fun n=>((names.zip vals).lookup n).isNone)=[]:=by
  intro k;rw [List.filter_eq_nil_iff];intro n hn;obtain ⟨i,hi⟩:=fH.mp (pD hn);have lt:i < vals.length:=by refine rwl hl ?_;exact (aE.mp hi).1
  refine rwl (Hc nd hi (aI lt)) ?_;simp
 have hf:=M4 nd hl;obtain ⟨_,_,⟨po,ar,va,kw,kd,ka,de⟩,_,_,_,_,df,_⟩:=fd;cases h1;cases h3;cases h4;cases h5;cases h6;subst h2;refine Uh (fun w=>?_) ?_
 . rw [fR] at w;exact absurd (of_decide_eq_true w.1) (by refine rwl hl ?_;exact cA _)
 refine Uh (fun w=>?_) ?_
 . have e:=hmiss ((mG (·.arg) ar).length - (qT (0 - (mG (·.arg) ar).length) ([]:List Value)).length);exact dH ((congrArg (fun l=>!List.isEmpty l) e).symm.trans w)
 have z:∀ (X:List Str) (n:Nat),X.zip (qT n ([]:List Value))=[]:=fun X n=>by exact rwl List.drop_nil (rwl List.zip_nil_right rfl)
 refine Eq.trans (congrArg (fun (l:List (Str × Value))=>Bind.bind (forIn l _ _) _) (z (qT _ (mG (·.arg) ar)) _)) ?_;refine Eq.trans ?_ (congrArg pure hf);exact congrArg (fun l=>(pure (List.filterMap (fun n=>kE (fun x=>(n,x)) (fT n (List.zip (mG (fun x=>x.arg) ar) vals))) l):Sem (List (Str × Value)))) (dJ _)
set_option tactic.hygienic true in
theorem Ie:∀ {names:List (Str × iV)} {n:Nat} {acc:List (Str × Addr)} {y:Str},((y,gR)∈names\/(acc.lookup y).isSome=true)->((cellsFrom n names acc).lookup y).isSome=true:=by
 intro names;induction names with
 | nil =>
  intro _ _ _ h;rcases h with h | h
  . cases h
  . exact h
 | cons xx r ihh =>
  intro n acc y h;obtain ⟨z,k⟩:=xx;unfold cellsFrom;split
  . rename_i hk;refine ihh ?_;rcases h with h | h
    . rcases bO.mp h with e | h
      . cases e;right;simp
      . exact .inl h
    . right;refine rwl bN ?_;split
      . rfl
      . exact h
  . rename_i hk;refine ihh ?_;rcases h with h | h
    . rcases bO.mp h with e | h
      . cases e;exact nomatch hk
      . exact .inl h
    . exact .inr h
theorem Ui:∀ {binds:List (Str × Value)} {m:Str->Option Value} {y:Str} {v:Value},(binds.map (·.1)).Nodup->(y,v)∈binds->kd y=some .local->bindL kd binds m y=some v:=by
 have keep:∀ (binds:List (Str × Value)) (m:Str->Option Value) (y:Str),y ∉ binds.map (·.1)->bindL kd binds m y=m y:=by
  intro binds;induction binds with
  | nil=>intro m y _;rfl
  | cons b r ih =>
   intro m y hy;obtain ⟨n,v⟩:=b;simp only [bA,bO,not_or] at hy;unfold bindL;refine rwl (ih _ _ hy.2) ?_;split
   . simp [hy.1]
   . rfl
 intro binds;induction binds with
 | nil=>intro m y v _ h _;cases h
 | cons b r ih =>
  intro m y v nd h hk;obtain ⟨n,u⟩:=b;rw [bA,eD] at nd;unfold bindL;rcases bO.mp h with e | h
  . cases e;refine rwl (keep _ _ _ nd.1) (rwl (if_pos hk) ?_);simp
  . exact ih nd.2 h hk
theorem Uj:∀ {binds:List (Str × Value)} {m:Str->Option Value} {y:Str} {v:Value},(binds.map (·.1)).Nodup->(y,v)∈binds->kd y≠some .local->bindC kd binds m y=some v:=by
 have keep:∀ (binds:List (Str × Value)) (m:Str->Option Value) (y:Str),y ∉ binds.map (·.1)->bindC kd binds m y=m y:=by
  intro binds;induction binds with
  | nil=>intro m y _;rfl
  | cons b r ih =>
   intro m y hy;obtain ⟨n,v⟩:=b;simp only [bA,bO,not_or] at hy;unfold bindC;refine rwl (ih _ _ hy.2) ?_;split
   . rfl
   . simp [hy.1]
 intro binds;induction binds with
 | nil=>intro m y v _ h _;cases h
 | cons b r ih =>
  intro m y v nd h hk;obtain ⟨n,u⟩:=b;rw [bA,eD] at nd;unfold bindC;rcases bO.mp h with e | h
  . cases e;refine rwl (keep _ _ _ nd.1) (rwl (if_neg hk) ?_);simp
  . exact ih nd.2 h hk
noncomputable def Aam(Φ:Funs)(d:Nat):Prop :=
 ∀ (body:MSs) (stmts:List Stmt) (env:Env) (sc:Scope) (ns:List (Option Str)) (A:fI) (l:List Env),ckSs N sc ns body stmts=true->(∀ (i j:Nat) (y:Str),ns[i]?=some (some y)->ns[j]?=some (some y)->i=j)->Room A d->A.frames=some (env :: l) ->
  env.frame=some env.locals->I7 A (env :: l) env sc ns (execs stmts env) (execSs cx.T Φ body)
theorem L9:∀ {ns:List (Option Str)},Kj ns=true->∀ (i j:Nat) (y:Str),ns[i]?=some (some y)->ns[j]?=some (some y)->i=j:=by
 intro ns;induction ns with
 | nil=>intro _ i j y h _;exact nomatch h
 | cons o r ihh =>
  intro nd i j y h1 h2;have nr:Kj r=true:=by
   cases o with
   | none=>exact nd
   | some x=>exact an2 nd
  have ni:∀ k:Nat,(o :: r)[0]?=some (some y)->r[k]?=some (some y)->False:=by intro k q1 q2;cases q1;have:=an1 nd;simp [aH q2] at this
  cases i with
  | zero =>
   cases j with
   | zero=>rfl
   | succ j=>exact (ni j h1 h2).elim
  | succ i =>
   cases j with
   | zero=>exact (ni i h2 h1).elim
   | succ j=>exact congrArg rR (ihh nr i j y h1 h2)
theorem N4{ns:List Str}(h:∀ (i j:Nat) (y:Str),(ns.map some)[i]?=some (some y)->(ns.map some)[j]?=some (some y)->i=j):ns.Nodup:=by refine gV.mpr fun i j hi hj lt e=>?_;have:=h i j ns[i] (by refine rwl aX (rwl (aI hi) ?_);rfl) (by refine rwl aX (rwl (aI hj) (rwl e ?_));rfl);exact o30 lt this
theorem Uk(h:ckF N f names params body sc=true) :
 f.arity+f.nvars=names.length/\names.take f.arity=params.args.map (·.arg)/\params.posonlyargs=[]/\params.vararg=none/\params.kwonlyargs=[]/\params.kwarg=none/\Kj (names.map some)=true /\
  sc.isCoroutine=false/\sc.isGenerator=false/\sc.kind=.function/\ckSs N sc (names.map some) f.body body=true /\
  (∀ p∈sc.names,p.2=.cell->sc.names.lookup p.1=some .cell)/\(∀ p∈sc.names,p.2≠.free)/\(∀ y∈names.take f.arity,sc.names.lookup y=some .local\/sc.names.lookup y=some .cell):=by
 have h2:=an2 h;have h3:=an2 h2;have h4:=an2 h3;have h5:=an2 h4;have h6:=an2 h5;have h7:=an2 h6;have h8:=an2 h7;have h9:=an2 h8;have h10:=an2 h9;have h11:=an2 h10;have h12:=an2 h11;exact ⟨of_decide_eq_true (an1 h),of_decide_eq_true (an1 h2),iQ.mp (an1 h3),bZ.mp (an1 h4),iQ.mp (an1 h5),bZ.mp (an1 h6),an1 h7,not_not (an1 h8),not_not (an1 h9),of_decide_eq_true (an1 h10),an1 h11,
  fun p hp hc=>(of_decide_eq_true (an1 (dU.mp (an1 h12) p hp))).trans (congrArg some hc),fun p hp=>of_decide_eq_false (not_not (an2 (dU.mp (an1 h12) p hp))),fun y hy=>Tv (dU.mp (an2 h12) y hy)⟩
theorem Room.deeper(r:RoomF A (d+1))(env:Env):Room (A.deeper env) d:=⟨r.hh,by have:=r.depth;show A.depth+1+_+_ < _;exact o31 this,by have:=r.units;show A.units+3+_+_ < _;exact o32 this⟩
theorem Ul(B:Base)(hk:cx.fns[k]?=some a)(room:RoomQ A (d+1))(hfr:A.frames=some l)
 (hb:∀ (f:MFun) (stmts:List Stmt) (env:Env) (sc:Scope) (ns:List (Option Str)),cx.T.funs[k]?=some f->ckSs N sc ns f.body stmts=true->(∀ (i j:Nat) (y:Str),ns[i]?=some (some y)->ns[j]?=some (some y)->i=j)->(A.deeper env).frames=some (env :: l)->env.frame=some env.locals ->
  I7 (A.deeper env) (env :: l) env sc ns (execs stmts env) (execSs cx.T (Ag cx.T d) f.body)) :
 Sim A ((Amb.vrs args vals).and (Amb.frames l)) (call (.ref a) vals) (Ag cx.T (d+1) k args) (Amb.vr):=by
 intro H ρ s R ⟨vrs,fok⟩
 refine rwl Rx ?_
 cases hf:cx.T.funs[k]? with
 | none=>trivial
 | some f =>
  show A8 A (if args.length=f.arity then Aby (execSs cx.T (Ag cx.T d) f.body (args.map some++eA f.nvars none) H) else .bad) _ _ ρ s
  by_cases hl:args.length=f.arity
  . refine rwl (if_pos hl) ?_
    refine Ae fun G kG=>?_
    refine ex4 ((B.fns k a f hk hf).is) fun o fd body names zz=>Abu zz fun ho hoc hdata hcd hbody hclo hglob hblt hdf hkd hck=>?_
    refine Ah1 (Uk hck) fun c1 c2 c3 c4 c5 c6 c7 c8 c9 c10 c11 c12 c13 c14=>?_
    refine kG ?_
    have nd:=L9 c7
    have nds:names.Nodup:=N4 nd
    have ndt:(names.take f.arity).Nodup:=nds.sublist (mE _ _)
    have vlen:vals.length=(names.take f.arity).length:=by refine rwl fC (rwr vrs.length (rwl hl ?_));exact (eK (c1▸aG _ _)).symm
    have hbind:bindArgs fd ⟨vals,[]⟩=pure ((names.take f.arity).zip vals):=Lr c3 c2.symm c4 c5 c6 hdf ndt vlen
    have hkind:∀ x∈(names.take f.arity).zip vals,fd.scope.names.lookup x.1=some .local\/(fd.scope.names.lookup x.1=some .cell/\((cellsFrom (s.heap.objs.size+1) fd.scope.names []).lookup x.1).isSome=true):=by
     intro x hx
     rcases c14 x.1 (List.of_mem_zip hx).1 with h | h
     . exact .inl h
     . exact .inr ⟨h,Ie (.inl (mem_of_lookup h))⟩
    generalize henv:callEnvC fd s.heap.objs.size a=env
    have eloc:env.locals=s.heap.objs.size:=by refine rwr henv ?_;rfl
    have escope:env.scope=fd.scope:=by refine rwr henv ?_;rfl
    have ecells:env.cells=cellsFrom (s.heap.objs.size+1) fd.scope.names []:=by refine rwr henv ?_;rfl
    have egl:env.globals=mainGlobals:=by refine rwr henv ?_;exact hglob
    have ebl:env.builtins=builtinsNs:=by refine rwr henv ?_;exact hblt
    have efr:env.frame=some env.locals:=by refine rwr henv ?_;rfl
    have ekind:∀ y,env.kindOf y=fd.scope.names.lookup y:=fun y=>by unfold Env.kindOf;exact rwl escope rfl
    -- the body
    have main:∀ s₁,InCallC s env.locals (bindL env.kindOf ((names.take f.arity).zip vals) fun _=>none) env.cells (bindC env.kindOf ((names.take f.arity).zip vals) fun _=>none) s₁ ->
     Full ρ s.heap ρ s₁.heap/\Cg (A.deeper env) env fd.scope (names.map some) (execSs cx.T (Ag cx.T d) f.body (args.map some++eA f.nvars none) H) (execs body env) ρ s₁:=by
     intro s₁ x
     have hkeep:=x.toInCall.keep
     have F0:Full ρ s.heap ρ s₁.heap:=Full.more hkeep
     refine ex2 x.toInCall.same fun h₁ tk e1=>?_
     have R1:Rel H ρ s₁:=by rw [e1] at hkeep ⊢;exact R.more hkeep
     have locfresh:s.heap.get? env.locals=none:=by refine rwl eloc ?_;exact Ar _
     have lvB:F5 cx.h₀ s.heap:=fun b o e=>⟨o,R.base b o e⟩
     have cfresh:∀ y c,env.cells.lookup y=some c->s.heap.get? c=none:=fun y c hc=>Gx (by have:=x.above y c (mem_of_lookup hc);rw [eloc] at this;exact aJ this)
     have cellFacts:∀ y c,env.cells.lookup y=some c->s₁.heap.IsCell c (bindC env.kindOf ((names.take f.arity).zip vals) (fun _=>none) y):=fun y c hc=>x.cell y c hc
     have eok:EnvOk env fd.scope (names.map some) (args.map some++eA f.nvars none) ρ s₁.heap:=by
      refine ⟨⟨by refine rwl escope ?_;exact c10,egl,ebl,fun y kd hy=>?_,⟨_,x.toInCall.ns⟩,R.fresh_not locfresh,lvB.none locfresh,fun y c hc=>⟨⟨_,cellFacts y c hc⟩,R.fresh_not (cfresh y c hc),lvB.none (cfresh y c hc)⟩,fun y hy=>?_,fun y z c hy hz=>name_of_addr x.apart (mem_of_lookup hy) (mem_of_lookup hz)⟩,by refine rwl aK ?_;rw [aM];refine rwl List.length_replicate ?_;rw [aM];refine rwl hl ?_;exact c1,?_⟩
      . rw [ekind];refine rwl hy ?_
        cases kd <;> first | rfl | exact .inl rfl | trivial
      . rcases hy with hy | hy
        . refine rwl ecells ?_
          exact dI.mp (Ie (.inl (mem_of_lookup hy)))
        . exact absurd rfl (c13 _ (mem_of_lookup hy))
      . intro i y mv hi hm
        have hi':names[i]?=some y:=by rw [aX] at hi;cases q:names[i]? <;> rw [q] at hi <;> simp at hi;exact rwl hi rfl
        by_cases lt:i < f.arity
        . have ha:args[i]?=some mv:=by
           rw [bB (by rw [aM];refine rwl hl ?_;exact lt),aX] at hm
           cases q:args[i]? <;> rw [q] at hm <;> simp at hm
           exact rwl hm rfl
          refine ex1 (vrs.get ha) fun v zz=>Ad zz fun ev vr=>?_
          have et:(names.take f.arity)[i]?=some y:=by refine rwl List.getElem?_take (rwl (if_pos lt) ?_);exact hi'
          have mem:(y,v)∈(names.take f.arity).zip vals:=by
           refine fH.mpr ⟨i,?_⟩
           rw [List.getElem?_zip_eq_some];exact ⟨et,ev⟩
          have ndz:(((names.take f.arity).zip vals).map (·.1)).Nodup:=by
           refine rwl (List.map_fst_zip (by rw [vlen];exact aN _)) ?_;exact ndt
          refine ⟨v,?_,vr.step F0.step⟩
          rcases c14 y (aH et) with h | h
          . exact .inl ⟨by rw [ekind];exact h,_,x.toInCall.ns,Ui ndz mem (by rw [ekind];exact h)⟩
          . obtain ⟨c,hc⟩:=dI.mp (Ie (n:=s.heap.objs.size+1) (acc:=[]) (.inl (mem_of_lookup h)))
            rw [<- ecells] at hc
            have:=cellFacts y c hc
            rw [Uj ndz mem (by rw [ekind];refine rwl h ?_;simp)] at this
            exact .inr ⟨.inl (by rw [ekind];exact h),c,hc,this⟩
        . exfalso
          rw [aS (by rw [aM];refine rwl hl ?_;exact aW.mp lt),List.getElem?_replicate] at hm
          split at hm <;> simp at hm
     refine ⟨F0,hb f body env fd.scope (names.map some) hf c11 nd (by show A.frames.map (env :: ·)=_;refine rwl hfr ?_;rfl) efr _ H ρ s₁ R1 eok ?_⟩
     . intro e he
       rcases bO.mp he with rfl | he
       . refine Ae fun G kG=>?_
         refine ex3 x.toInCall.ns fun o' es ep zz=>Ap zz fun eo' d' _=>?_
         refine kG ?_
         exact ⟨by refine rwl escope (rwl c10 ?_);simp,e.locals,o',efr,lvB.none locfresh,eo',⟨_,_,d'⟩,R.fresh_not locfresh⟩
       . exact (fok.full F0) e he
    -- what stands of the caller's heap
    have back:∀ {s₁ ρ' h'},Full ρ s.heap ρ s₁->FullS env ρ s₁ ρ' h'->(∀ y c,env.cells.lookup y=some c->s.heap.get? c=none)->Full ρ s.heap ρ' h':=by
     intro s₁ ρ' h' F0 F1 cf
     refine ⟨?_,fun b ob e n=>?_,F0.live.trans F1.live⟩
     . exact F0.grow.trans F1.grow F0.live
     . refine Ae fun G kG=>?_
       refine ex1 (F0.keep b ob e n) fun o1 zz=>Ad zz fun e1 u1=>?_
       refine ex1 (F1.keep b o1 e1 n (fun q=>by rw [q,eloc,Ar] at e;exact nomatch e) (fun y q=>by rw [cf y b q] at e;cases e)) fun o2 zz=>Ad zz fun e2 u2=>?_
       refine kG ?_
       exact ⟨o2,e2,u1.trans u2⟩
    have cf:∀ y c,env.cells.lookup y=some c->s.heap.get? c=none:=fun y c hc=>by
     refine Gx ?_
     have ok:=cellsFrom_ok fd.scope.names (s.heap.push { cls:=.type "frame",data:=.dict #[] }) (s.heap.objs.size+1) [] ⟨fun _ _ hm=>(nomatch hm),nX⟩ (by rw [fD];exact aN _)
     rw [fD] at ok
     rw [ecells] at hc
     exact iE (ok.empty y c (mem_of_lookup hc)).2
    have hlim:s.heap.NoLimit:=B.lim.keeps R.base
    have hcd':s.heap.CodeRec fd.code fd.qualname:=hcd.keeps R.base
    generalize hres:execSs cx.T (Ag cx.T d) f.body (args.map some++eA f.nvars none) H=res at main
    cases res with
    | bad=>trivial
    | next Γ' H' =>
     refine rO (mT (by have:=room.depth;exact o35 this) (R.base _ _ ho) hdata hlim hcd' hbody hbind hclo hkind (fun s₁ x=>?_) c8 c9 c10)
     rw [henv] at x ⊢
     obtain ⟨F0,sim⟩:=main s₁ x
     exact aL sim (fun fl s' ⟨h1,ρ',F1,R',_⟩=>by refine rwl h1 ?_;exact ⟨ρ',back F0 F1 cf,R',.none⟩) fun _ _ q=>q.elim
    | ret v H' =>
     refine rO (mT (by have:=room.depth;exact o35 this) (R.base _ _ ho) hdata hlim hcd' hbody hbind hclo hkind (fun s₁ x=>?_) c8 c9 c10)
     rw [henv] at x ⊢
     obtain ⟨F0,sim⟩:=main s₁ x
     exact aL sim (fun fl s' ⟨v',ρ',h1,F1,R',vr⟩=>by refine rwl h1 ?_;exact ⟨ρ',back F0 F1 cf,R',vr.1⟩) fun _ _ q=>q.elim
    | exc c Γ' H' =>
     refine rO (mT (by have:=room.depth;exact o35 this) (R.base _ _ ho) hdata hlim hcd' hbody hbind hclo hkind (fun s₁ x=>?_) c8 c9 c10)
     rw [henv] at x ⊢
     obtain ⟨F0,sim⟩:=main s₁ x
     refine aL sim (fun _ _ q=>q.elim) fun e s' ⟨ρ',F1,R',e0,fl⟩=>?_
     have w:A6 (env :: l) ρ' s'.heap:=fun en he=>by
      rcases bO.mp he with rfl | he
      . refine Ae fun G kG=>?_
        refine ex1 e0.st.loc fun m zz=>ex3 zz fun o' es ep zz=>Ap zz fun eo' d' _=>?_
        refine kG ?_
        exact ⟨by refine rwl e0.st.fn ?_;simp,en.locals,o',efr,e0.st.locB,eo',⟨_,_,d'⟩,e0.st.locN⟩
      . exact (fok.full (back F0 F1 cf)) en he
     exact Sb (by show A.frames.map (env :: ·)=_;refine rwl hfr ?_;rfl) efr w R' (fun b o e=>F0.live b o (R.base b o e)) F1.live fl fun h' o' fl'=>⟨ρ',back F0 (o'.fullS F1) cf,o'.rel R',fl'.to.older F0.live⟩
  . refine rwl (if_neg hl) ?_;trivial
theorem Id.step(B:Base)(hb:Aam (Ag cx.T d) d):Id (Ag cx.T (d+1)) (d+1) :=
 fun k a args vals A l hk room hfr=>Ul B hk room.q hfr fun f stmts env sc ns _ h1 h2 h3 h4=>hb f.body stmts env sc ns (A.deeper env) l h1 h2 (Room.deeper room env) h3 h4
end
inductive ItOk(xs:List Val)(I:Addr)(i:Nat)(ρ:Rho)(h:Heap):Option Nat->Prop
 | list {l:Nat} {p:Addr × Addr}:ρ[l]?=some p->h.IsListIter I p.1 i->ItOk xs I i ρ h (some l)
 | tup {a:Addr} {vs:List Value} {n:Nat}:h.get? a=some (T5 vs n)->¬Ay ρ a->VRs ρ h xs vs->h.IsTupleIter I a i->ItOk xs I i ρ h none
 | rng {n:Int}:xs=(bT n.toNat).map (fun (k:Nat)=>Val.int (k:Int))->IsRangeIter h I (i:Nat) ((n.toNat:Int) - (i:Nat)) 1->ItOk xs I i ρ h none
noncomputable def Hh(o:Obj):Prop:=(∃ vs,o.data=.fields vs)/\∃ n,o.cls=.type n/\n≠"range"
theorem Hh.not(x:Hh o):¬F7 o/\∀ C,¬Ds o C:=by
 refine Ae fun G kG=>?_;refine Ad x fun zn0 zz=>ex1 zz fun n zz=>Ad zz fun c ne=>?_;obtain ⟨vs,d⟩:=zn0;refine kG ?_;refine ⟨fun f=>?_,fun C f=>?_⟩
 . rcases f with ⟨_,xs,k,f⟩ | ⟨f,_⟩
   . rw [d] at f;cases f
   . rw [c] at f;cases f;exact ne rfl
 . rw [f.1] at c;cases c
theorem Hh.notDict(x:Hh o)(es:Array jJ)(n:Nat):o.data≠.dict es n:=by obtain ⟨⟨vs,d⟩,_⟩:=x;refine rwl d ?_;exact fun q=>nomatch q
theorem Hh.notCell(x:Hh o)(v:Option Value):o.data≠.cell v:=by obtain ⟨⟨vs,d⟩,_⟩:=x;refine rwl d ?_;exact fun q=>nomatch q
theorem Fa:¬F7 (B4 vs n)/\∀ C,¬Ds (B4 vs n) C:=by
 refine ⟨fun f=>?_,fun C f=>by cases f.1⟩;rcases f with ⟨f,_⟩ | ⟨f,_⟩
 . exact absurd (oZ f) (by decide)
 . exact absurd (oZ f) (by decide)
section
theorem ItOk.step(x:ItOk xs I i ρ h src)(st:Step ρ h ρ' h')(k:∀ o,h.get? I=some o->h'.get? I=some o):ItOk xs I i ρ' h' src:=by
 cases x with
 | list hp hi=>exact .list (st.get hp) (hi.at k)
 | tup e n r hi=>exact .tup (st.keepT _ _ e (.inl ⟨rfl,_,_,rfl⟩) n).1 (st.keepT _ _ e (.inl ⟨rfl,_,_,rfl⟩) n).2 (r.step st) (hi.at k)
 | rng e hi=>exact .rng e (k _ hi)
theorem ItOk.obj(x:ItOk xs I i ρ h src):∃ o,h.get? I=some o/\Hh o:=by
 cases x with
 | list hp hi=>refine ex1 hi fun o zz=>Ap zz fun e c d=>?_;exact ⟨o,e,⟨_,d⟩,_,c,by decide⟩
 | tup e n r hi=>refine ex1 hi fun o zz=>Ap zz fun e c d=>?_;exact ⟨o,e,⟨_,d⟩,_,c,by decide⟩
 | rng e hi=>exact ⟨_,hi,⟨_,rfl⟩,_,rfl,by decide⟩
theorem I8(R:Rel H ρ s)(vr:VR ρ s.heap v w)(e:Dg v H=some (xs,src))
 (k:∀ o,(s.heap.push o).get? s.heap.objs.size=some o->ItOk xs s.heap.objs.size 0 ρ (s.heap.push o) src->Q (.ref s.heap.objs.size) { s with heap:=s.heap.push o }) :
 wpAny (model cx.prog cx.w) A (pyIter w) Q E s:=by
 have P:=fun o=>Full.push ρ s.heap o;cases vr with
 | @loc l p hp =>
  . obtain ⟨hl,e⟩:=Xp e;refine Ae fun G kG=>?_;refine ex2 (R.listAt hl hp) fun vs n zz=>Cf zz fun _ g r z=>?_;refine kG ?_;subst e;refine wpAny_pyIter_list (items:=vs.toArray) ⟨_,g,rfl,n,rfl⟩ (k _ (cJ _ rfl) (.list hp ⟨_,cJ _ rfl,rfl,rfl⟩))
 | @tup a vs n ms g no z r =>cases e;exact wpAny_pyIter_tuple (items:=vs.toArray) ⟨_,g,rfl,n,rfl⟩ (k _ (cJ _ rfl) (.tup (bR _ g) no (r.step (P _).step) ⟨_,cJ _ rfl,rfl,rfl⟩))
 | @rng a n t u v g no z1 z2 =>
  cases e;refine wpAny_pyIter_range g (small_one (by decide) (by decide) z1 z2) (k _ (cJ _ rfl) (.rng rfl ?_));have e1:tA 0 n 1=((n.toNat:Nat):Int):=by rw [rangeSize_one];exact rs1
  refine rwl e1 ?_;simpa using cJ s.heap (o:={ cls:=.type "range_iterator",data:=.fields #[rawInt 0,rawInt (n.toNat:Int),rawInt 1] }) rfl
 | _=>exact Af e
theorem Km(R:Rel H ρ s)(x:ItOk xs I i ρ s.heap src)(ck:chk src xs H=true)(hm:xs[i]?=some m)
 (k:∀ v h' tk,eU I s.heap h'->(∃ o,h'.get? I=some o)->(∀ st:Step ρ s.heap ρ h',VR ρ h' m v/\ItOk xs I (i+1) ρ h' src)->Q (some v) { s with heap:=h',toks:=tk }) :
 wpAny (model cx.prog cx.w) A (pyNext (.ref I)) Q E s:=by
 cases x with
 | @list l p hp hi =>
  . refine Ae fun G kG=>?_;refine ex2 (R.listAt (Qp ck) hp) fun vs n zz=>Cf zz fun _ g r z=>?_;refine ex1 (r.get hm) fun v zz=>Ad zz fun ev vr=>?_;refine kG ?_;exact wpAny_pyNext_list_item (items:=vs.toArray) hi ⟨_,g,rfl,n,rfl⟩ (by simpa using ev) fun h' hi' hs=>k v h' s.toks hs (by refine ex1 hi' fun o zz=>Ad zz fun e _=>?_;exact ⟨o,e⟩) fun st=>⟨vr.step st,.list hp hi'⟩
 | @tup a vs n g no r hi =>refine ex1 (r.get hm) fun v zz=>Ad zz fun ev vr=>?_;refine wpAny_pyNext_tuple_item (items:=vs.toArray) hi ⟨_,g,rfl,n,rfl⟩ (by simpa using ev) fun h' hi' hs=>k v h' s.toks hs (by refine ex1 hi' fun o zz=>Ad zz fun e _=>?_;exact ⟨o,e⟩) fun st=>⟨vr.step st,.tup (st.keepT _ _ g (.inl ⟨rfl,_,_,rfl⟩) no).1 no (r.step st) hi'⟩
 | @rng n e hi =>
  subst e;have lt:i < n.toNat:=by have:=(aE.mp hm).1;simpa using this
  have hm':m=.int (i:Int):=by rw [aX,gX lt] at hm;simpa using hm.symm
  subst hm';refine wpAny_pyNext_range_item hi (Int.sub_pos_of_lt (bS.mpr lt)) fun h' hi' hs=>k _ h' _ hs ⟨_,hi'⟩ fun st=>⟨.int _ _,.rng rfl ?_⟩;have e1:((i+1:Nat):Int)=(i:Int)+1:=by exact rfl
  have e2:((n.toNat:Int) - ((i+1:Nat):Int))=(n.toNat:Int) - (i:Int) - 1:=by exact o38
  refine rwl e1 (rwr e1 (rwl e2 ?_));exact hi'
theorem iter_end(hh:A.handled=none)(R:Rel H ρ s)(x:ItOk xs I i ρ s.heap src)(ck:chk src xs H=true)(hm:xs[i]?=none)
 (k:∀ h' tk,lH I s.heap h'->Q none { s with heap:=h',toks:=tk }):wpAny (model cx.prog cx.w) A (pyNext (.ref I)) Q E s:=by
 cases x with
 | @list l p hp hi =>
  . refine Ae fun G kG=>?_;refine ex2 (R.listAt (Qp ck) hp) fun vs n zz=>Cf zz fun _ g r z=>?_;refine kG ?_;have len:=r.length;refine wpAny_pyNext_list_end (items:=vs.toArray) hh hi ⟨_,g,rfl,n,rfl⟩ ?_ fun h' he=>k h' s.toks he;rw [cZ] at hm;simp;exact o39 len hm
 | @tup a vs n g no r hi =>have len:=r.length;refine wpAny_pyNext_tuple_end (items:=vs.toArray) hh hi ⟨_,g,rfl,n,rfl⟩ ?_ fun h' he=>k h' s.toks he;rw [cZ] at hm;simp;exact o39 len hm
 | @rng n e hi =>subst e;rw [cZ] at hm;simp at hm;exact wpAny_pyNext_range_end hh hi (Int.sub_nonpos_of_le (dD.mpr (Int.toNat_le.mpr hm))) fun h' he=>k h' s.toks he
end
theorem Step.priv(qs:List Addr)(hq:∀ q∈qs,∀ o,h.get? q=some o->¬F7 o/\∀ C,¬Ds o C)(k:∀ b o,b ∉ qs->h.get? b=some o->h'.get? b=some o):Step ρ h ρ h' :=
 ⟨⟨[],by simp⟩,fun b o e f n=>⟨k b o (fun w=>(hq b w o e).1 f) e,n⟩,fun b o C e f n=>⟨o,k b o (fun w=>(hq b w o e).2 C f) e,f,n⟩⟩
section
noncomputable abbrev leastFrom(ys:List Val)(m:Val):Option Val:=ys.foldl (fun m y=>m.bind fun m=>(Lq Ej y m).map fun b=>if b=true then y else m) (some m)
end
end Mine.Internal
namespace Mine.Internal
open PySem PySem.W PySem.Calls PyProof.Rows
section
variable{s:bD}{it d:Addr}{es:Array jJ}{ep:Nat}
structure RawD(h:Heap)(d:Addr)(es:Array jJ)(ep:Nat):Prop where
 ex:∃ o,h.get? d=some o/\o.ExactDict/\o.data=.dict es ep
theorem RawD.type(x:RawD s.heap d es ep):s.TypeIs (.ref d) "dict":=let ⟨o,ho,hc,_⟩:=x.ex;⟨o,ho,hc.1⟩
theorem RawD.at(x:RawD h d es ep)(e:∀ o,h.get? d=some o->h'.get? d=some o):RawD h' d es ep:=let ⟨o,ho,r⟩:=x.ex;⟨o,e o ho,r⟩
theorem RawD.lt(x:RawD h d es ep):d < h.objs.size:=let ⟨_,ho,_⟩:=x.ex;gS ho
theorem Yh(lo:(d == sysModules)=false)(x:RawD s.heap d es ep)(q:Q (.ref s.heap.objs.size) { s with heap:=s.heap.push { cls:=.type "dict_keyiterator",data:=.fields #[.ref d,.int 0 0,.int es.size 0,.int ep 0] } }):wpAny (model prog w) A (pyIter (.ref d)) Q E s:=by refine ex1 x.ex fun o zz=>Ap zz fun ho hc hd=>?_;refine wpAny_pyIter_slot x.type rT (fX rT x.type F.entry_dict_iter ?_ (F.args_dict_iter_1 _));unfold Builtin.«dict.__iter__»;refine aF ?_;unfold uG;refine aF (qL x.type ?_);refine aU ?_;show wpAny _ _ (nA d>>=_) _ _ s;unfold nA;refine rwl (if_neg (by rw [lo];exact dH)) ?_;refine aF (aU (aF (iS ho hd (aF (oJ ho hd ?_)))));exact aF (iR (aU ⟨_,rfl,"dict_keyiterator",_,⟨_,cJ _ rfl,rfl⟩,fA.lookup,q⟩))
theorem Yi(hit:s.heap.IsKeyIter it d i es.size ep)(x:RawD s.heap d es ep)(he:es[i]?=some e)
 (q:∀ h',h'.IsKeyIter it d (i+1) es.size ep->eU it s.heap h'->Q (some e.key) { s with heap:=h' }):wpAny (model prog w) A (pyNext (.ref it)) Q E s:=by
 refine ex1 (id hit) fun o zz=>Ap zz fun ho hc hd=>?_;refine ex1 x.ex fun od zz=>Ap zz fun hod _ hdd=>?_;have hown:kP "dict_keyiterator"=false:=by decide
 unfold pyNext;refine aF (pK (lC (name:=oS "__next__") hit.typeIs fA (fX fA hit.typeIs nY ?_ (nQ _))));refine aF (aU (aF (aF ?_)));refine aF (gE hit.typeIs (aU (aF (wpAny_fieldsOf ho hd ?_))));refine rwl hown ?_;show wpAny _ _ (if (gB d == eQ)=true then _ else _) _ _ s;refine rwl (if_neg (show ¬((gB d == eQ)=true) from dH)) ?_;refine aF (aU (aF (iS hod hdd ?_)));refine rwl (if_neg (by simp)) ?_;refine aF (aU (aF (oJ hod hdd ?_)));refine rwl (if_neg (by simp)) ?_;refine aU ?_;dsimp only;refine rwl (if_neg (show ¬((i:Int) < 0) from by exact o41)) ?_;rw [bC];refine rwl he ?_;refine aF (aF (gE hit.typeIs (aU (aF (qM hit.typeIs ?_)))));show wpAny _ _ (setField (.ref it) 1 (rawInt ((i:Int)+1))>>=_) _ _ s;refine aF (kC ho hd (by simp) ?_);have hit':(s.heap.update it (gF (·.setIfInBounds 1 (rawInt ((i:Int)+1))))).IsKeyIter it d (i+1) es.size ep :=
  ⟨_,eP _ ho (pA (jS hd _)),(qO ..).trans hc,by rw [jS hd];simp [rawInt]⟩
 refine aF (eY (aF (qM (s:={ s with heap:=s.heap.update it (gF (·.setIfInBounds 1 (rawInt ((i:Int)+1)))) }) hit'.typeIs ?_)));show wpAny _ _ (pure e.key) _ _ _;exact aU (aU ⟨_,rfl,aU (q _ hit' (eT ..))⟩)
theorem Ac1(hh:A.handled=none)(hit:s.heap.IsKeyIter it d i es.size ep)(x:RawD s.heap d es ep)(he:es[i]?=none)
 (q:∀ h',lH it s.heap h'->Q none { s with heap:=h' }):wpAny (model prog w) A (pyNext (.ref it)) Q E s:=by
 refine ex1 (id hit) fun o zz=>Ap zz fun ho hc hd=>?_;refine ex1 x.ex fun od zz=>Ap zz fun hod _ hdd=>?_;have hown:kP "dict_keyiterator"=false:=by decide
 unfold pyNext;refine aF (pK (lC (name:=oS "__next__") hit.typeIs fA (fX fA hit.typeIs nY ?_ (nQ _))));refine aF (aU (aF (aF ?_)));refine aF (gE hit.typeIs (aU (aF (wpAny_fieldsOf ho hd ?_))));refine rwl hown ?_;show wpAny _ _ (if (gB d == eQ)=true then _ else _) _ _ s;refine rwl (if_neg (show ¬((gB d == eQ)=true) from dH)) ?_;refine aF (aU (aF (iS hod hdd ?_)));refine rwl (if_neg (by simp)) ?_;refine aF (aU (aF (oJ hod hdd ?_)));refine rwl (if_neg (by simp)) ?_;refine aU ?_;dsimp only;refine rwl (if_neg (show ¬((i:Int) < 0) from by exact o41)) ?_;rw [bC];refine rwl he ?_;refine aF (aF (gE hit.typeIs (aU ?_)));show wpAny _ _ (setField (.ref it) 0 .none>>=_) _ _ s;refine aF (kC ho hd (by simp) ?_);show wpAny _ _ (newExc (.type "StopIteration") []>>=_) _ _ _;refine aF ?_;simp only [newExc,newTuple];refine aF (iR ?_ (by size_fits));refine aF (m:=firstArgMember _ _) (wpAny_of_eq (a:=eQ) (by first | rfl | (simp only [firstArgMember];rfl)) ?_);refine iR ?_ (by size_fits);simp only [raiseNew];refine aF (wpAny_handled ?_);refine rwl (show A.in1.handled=none from hh) ?_;refine aF (aU (wpAny_throw ?_));refine aF (sQ (T:="StopIteration") (b:=true) ⟨_,cJ _ rfl,rfl⟩ isSubtype_stop ?_);exact aU (q _ (((eT ..).extBut.push _).push _))
theorem Ac2(lo:(d == sysModules)=false):KdlSrc prog w "dict" d d es.size (fun i v=>∃ e,es[i]?=some e/\v=e.key) (fun h=>RawD h d es ep) where
 type:=fun _ x=>x.type
 there:=fun _ x=>⟨x.lt,x.lt⟩
 keep:=fun _ _ x hk=>x.at fun o e=>hk d (.inl rfl) o e
 notList:=by decide
 notTuple:=by decide
 hint:=fun _ _ _ _ x q=>kdl_hint_dict x.type q
 iter:=fun A s hh x=>⟨_,fun i h=>h.IsKeyIter s.heap.objs.size d i es.size ep/\RawD h d es ep,(fun _ _ q=>Yh lo x q),{
  sub:=fun b hb=>by simp at hb;simp [hb]
  frame:=fun _ _ _ st hk=>⟨st.1.at fun o e=>hk _ (by simp) o e,st.2.at fun o e=>hk d (by simp) o e⟩
  item:=fun i s' Q E hi st hQ=>by
   refine Yi st.1 st.2 (cY hi) fun h' hit' hs'=>?_
   exact hQ _ h' s'.toks ⟨_,cY hi,rfl⟩ ⟨hit',st.2.at fun o e=>hs'.extBut d o (dB x.lt) e⟩ fun b o hb e=>hs'.extBut b o (fun h=>hb (by simp [h])) e
  done:=fun s' Q E st hQ=>Ac1 hh st.1 st.2 (by simp) fun h' he'=>hQ h' s'.toks fun b o hb e=>he' b o (fun h=>hb (by simp [h])) e
  self:=fun _ _ _ _ st hQ=>wpAny_pyIter_keyiter st.1 hQ },⟨⟨_,cJ _ rfl,rfl,rfl⟩,x.at fun o e=>bR _ e⟩⟩
end
section
theorem Yj(r:DRs ρ h es zs):VRs ρ h (es.map fun p=>Aa p.1) (zs.map fun x=>.ref x.2.1):=by
 induction r with
 | nil=>exact .nil
 | cons _ n _ ih=>exact .cons n ih
theorem Po(hh:A.handled=none)(R:Rel H ρ s)(hq:ρ[l]?=some q)(hx:Ec l H=some xs)(hl:xs.length<=sizeLine)
 (k:∀ h' tk vs,(∀ b o,s.heap.get? b=some o->h'.get? b=some o)->VRs ρ h' xs vs->Q vs { s with heap:=h',toks:=tk }):wpAny (model cx.prog cx.w) A (collect (.ref q.1)) Q E s:=by
 refine Afl (C:=fun xs=>xs.length<=sizeLine->(∀ h' tk vs,(∀ b o,s.heap.get? b=some o->h'.get? b=some o)->VRs ρ h' xs vs->Q vs { s with heap:=h',toks:=tk })->wpAny (model cx.prog cx.w) A (collect (.ref q.1)) Q E s) hx ?_ ?_ hl k
 . intro xs hl z k;refine Ae fun G kG=>?_;refine ex2 (R.listAt hl hq) fun vs n zz=>Cf zz fun _ g r _=>?_;refine kG ?_;have kp:∀ b o,s.heap.get? b=some o->((s.heap.push (seqObj "list" #[] 0)).update s.heap.objs.size (eE (·++vs.toArray))).get? b=some o:=fun b o e =>
    (fB _ _ (dW (gS e))).trans (bR _ e)
   exact collect_list (vs:=vs) ⟨_,g,rfl,n,rfl⟩ (k _ s.toks vs kp (r.step (Full.more kp).step)) (by refine rwr r.length ?_;exact z)
 . intro es hl z k;refine Ae fun G kG=>?_;refine ex1 (R.dictAt hl hq) fun zs zz=>Cf zz fun _ D r _=>?_;refine ex3 D fun o ds ep zz=>Mq zz fun ho hc hd he hk _=>?_;refine kG ?_;have zl:zs.length=ds.size:=by have:=congrArg hU he;rw [aM,aV] at this;exact this.symm
   have el:es.length=zs.length:=r.length.symm;refine kdu_collect (Ac2 (es:=ds) (ep:=ep) (D1 R hq)) hh ⟨o,ho,hc,hd⟩ (by rw [aM] at z;exact aC (aC (aD zl.symm) (aD el.symm)) z) fun h' tk acc kp it=>?_;refine k h' tk acc.toList kp ?_;have e:acc.toList=zs.map fun x=>gB x.2.1:=by
    refine eZ fun i=>?_;by_cases c:i < acc.size
    . have e1:acc[i]?=some acc[i]:=cY c;refine ex1 (it.2 i _ e1) fun e zz=>Ad zz fun e2 e3=>?_;refine rwl dK (rwl e1 (rwl e3 ?_));rw [<- dK,he,aX] at e2;refine ex1 (bY.mp e2) fun x zz=>Ad zz fun e4 e5=>?_;refine rwl aX (rwl e4 (rwr e5 ?_));rfl
    . have:=it.1;exact rwl (dZ (by rw [aV];exact aW.mp c)) (rwl (dZ (by rw [aM];exact aC (aC (aD zl) (aD this.symm)) (aW.mp c))) rfl)
   refine rwl e ?_;exact Yj (r.step (Full.more kp).step)
end
end Mine.Internal
namespace Mine.Internal
open PySem PyProof.Rows
noncomputable def N5(M:Model)(A:fI)(s:bD)(κ:nN)(S:Keyed->Prop)(ρ:Keyed->Nat):Prop :=
 ∀ x y,S x->S y->∀ (Q:Bool->bD->Prop) (E:Value->bD->Prop),Q (decide (ρ x < ρ y)) s->wpAny M A (keyLt' κ x.1 y.1) Q E s
noncomputable def gt(a:Array Keyed)(i:Nat):Keyed:=a.getD i (eQ,eQ)
structure Bg(κ:nN)(a₀:Array Keyed)(st:cO):Prop where
 kind:kindOf st=κ
 fail:failedOf st=none
 perm:(arrOf st).toList.Perm a₀.toList
noncomputable def Asc(ρ:Keyed->Nat)(arr:Array Keyed)(lo n:Nat):Prop:=∀ p q,lo<=p->p < q->q < lo+n->ρ (gt arr p) < ρ (gt arr q)
noncomputable def Sc(p:Model × fI × (Value->bD->Prop) × bD × nN × (Keyed->Nat) × Array Keyed):Prop :=
 N5 p.1 p.2.1 p.2.2.2.1 p.2.2.2.2.1 (·∈p.2.2.2.2.2.2.toList) p.2.2.2.2.2.1->(p.2.2.2.2.2.2.toList.map p.2.2.2.2.2.1).Nodup->2<=p.2.2.2.2.2.2.size->∀ {st:cO} {Q:Unit->cO->Prop},Bg p.2.2.2.2.1 p.2.2.2.2.2.2 st->pendingOf st=#[]->(∀ st',Bg p.2.2.2.2.1 p.2.2.2.2.2.2 st'->Asc p.2.2.2.2.2.1 (arrOf st') 0 p.2.2.2.2.2.2.size->Q () st')->wpS p.1 p.2.1 p.2.2.1 p.2.2.2.1 sortRuns' Q st
theorem Ey:∃ p,(∃ c,¬Sc c)->¬Sc p:=by
 by_cases h:∃ c,¬Sc c
 . obtain ⟨c,hc⟩:=h;exact ⟨c,fun _=>hc⟩
 . exact ⟨(model cx.prog cx.w,callerA,fun _ _=>True,cx.s₀,oneType',fun _=>0,#[]),fun x=>absurd x h⟩
noncomputable def sM:Model:=Ey.choose.1
noncomputable def sA:fI:=Ey.choose.2.1
noncomputable def sE:Value->bD->Prop:=Ey.choose.2.2.1
noncomputable def sS:bD:=Ey.choose.2.2.2.1
noncomputable def sK:nN:=Ey.choose.2.2.2.2.1
noncomputable def sR:Keyed->Nat:=Ey.choose.2.2.2.2.2.1
noncomputable def sZ:Array Keyed:=Ey.choose.2.2.2.2.2.2
noncomputable def sP:Keyed->Prop:=(·∈sZ.toList)
theorem Yk(h:Sc (sM,sA,sE,sS,sK,sR,sZ)) c:Sc c:=jK fun k=>Ey.choose_spec ⟨c,k⟩ h
noncomputable def M5:Bool->Keyed->Array Keyed->Nat->Nat->Nat->StateT SortSt Sem (Option Nat):=sortPriv% PySem.Builtin.gallop
section
variable{st:cO}
theorem Ahz(C:N5 sM sA sS sK sP sR)(hk:kindOf st=sK)(hx:sP x)(hy:sP y)(h:Q (some (decide (sR x < sR y))) st):wpS sM sA sE sS (lt' x y) Q st:=by rw [lt'_eq];refine dL (wpS_get ?_);refine rwl hk ?_;refine dL (wpS_lift (pK (C x y hx hy _ _ ⟨rfl,?_⟩)));exact aY h
theorem Um(hx:arr[i]?=some x)(h:Q x st):wpS sM sA sE sS (elem' arr i) Q st:=by rw [elem'_eq];refine rwl hx ?_;exact aY h
theorem Qy(h:ia < a.size):a[ia]?=some (gt a ia):=by unfold gt;refine rwl nJ (rwl (cY h) ?_);rfl
theorem D8{α:Type}{c:Prop}[Decidable c]{m1 m2:StateT cO Sem α}{Q:α->cO->Prop}(h1:c->wpS sM sA sE sS m1 Q st)(h2:¬c->wpS sM sA sE sS m2 Q st):wpS sM sA sE sS (if c then m1 else m2) Q st:=by
 by_cases h:c
 . refine rwl (if_pos h) ?_;exact h1 h
 . refine rwl (if_neg h) ?_;exact h2 h
section
variable{α β:Type}{Q:β->cO->Prop}
theorem Agd(P:α->cO->Prop)(h1:wpS sM sA sE sS m P st)(h2:∀ a st',P a st'->wpS sM sA sE sS (f a) Q st'):wpS sM sA sE sS (m>>=f) Q st:=dL (wpS_mono h1 h2)
theorem Ma(h:wpS sM sA sE sS (f ⟨⟩) Q st):wpS sM sA sE sS (liftM (rule n)>>=f) Q st:=dL (wpS_lift (rN ⟨rfl,h⟩))
theorem N6(h:wpS sM sA sE sS (f st) Q st):wpS sM sA sE sS (get>>=f) Q st:=dL (wpS_get h)
theorem Cw(hx:i < arr.size)(h:wpS sM sA sE sS (f (gt arr i)) Q st):wpS sM sA sE sS (elem' arr i>>=f) Q st:=dL (Um (Qy hx) h)
theorem Akw(C:N5 sM sA sS sK sP sR)(hk:kindOf st=sK)(hx:sP x)(hy:sP y)(h:wpS sM sA sE sS (f (some (decide (sR x < sR y)))) Q st):wpS sM sA sE sS (lt' x y>>=f) Q st:=dL (Ahz C hk hx hy h)
theorem Qz(h:wpS sM sA sE sS (f ()) Q (iI (kindOf st) (arrOf st) (pendingOf st) g (failedOf st))):wpS sM sA sE sS ((modify fun sS=>iI (kindOf sS) (arrOf sS) (pendingOf sS) g (failedOf sS))>>=f) Q st:=dL (mS h)
theorem E3{n k:Nat}(h1:n=k->wpS sM sA sE sS m1 Q st)(h2:n≠k->wpS sM sA sE sS m2 Q st):wpS sM sA sE sS (if (n == k)=true then m1 else m2) Q st:=D8 (fun h=>h1 (eq_of_beq h)) fun h=>h2 fun e=>h (beq_iff_eq.mpr e)
theorem Mb(h1:c=true->wpS sM sA sE sS m1 Q st)(h2:c=false->wpS sM sA sE sS m2 Q st):wpS sM sA sE sS (if c=true then m1 else m2) Q st:=D8 h1 fun h=>h2 (qJ.mpr h)
theorem G8{γ:Type}{F:Nat->γ->StateT cO Sem (ForInStep γ)}{f:γ->StateT cO Sem β}{c:γ}(I:Nat->γ->cO->Prop)(P:γ->cO->Prop)
 (h0:I a c st) (step:∀ i c st,a<=i->i < b->I i c st->∀ R:ForInStep γ->cO->Prop,(∀ c st,I (i+1) c st->R (.yield c) st)->(∀ c st,P c st->R (.done c) st)->wpS sM sA sE sS (F i c) R st) (fin:∀ c st,I (max a b) c st->P c st) (h:∀ c st,P c st->wpS sM sA sE sS (f c) Q st) :
 wpS sM sA sE sS (forIn [a:b] c F>>=f) Q st:=Agd P (wpS_forRange I (fun i c st h1 h2 h3=>step i c st h1 h2 h3 _ (fun _ _ h=>h) fun _ _ h=>h) fin h0) h
end
structure Bn(b:Nat->Bool)(n k lo hi:Nat):Prop where
 l1:lo<=hi
 l2:hi<=n
 l3:hi - lo<=n - k
 l4:∀ i,i < lo->b i=true
 l5:∀ i,hi<=i->i < n->b i=false
section
variable{b:Nat->Bool}{n k lo hi hint of:Nat}
noncomputable def Pp(b:Nat->Bool)(n:Nat):Prop:=∀ i j,i<=j->j < n->b j=true->b i=true
theorem Pp.no(bm:Pp b n)(hij:i<=j)(hj:j < n)(h:b i=false):b j=false:=by
 cases y:b j with
 | false=>rfl
 | true=>rw [bm i j hij hj y] at h;exact nomatch h
theorem Ah0(h:¬hi<=lo):lo+(hi - lo) / 2 < hi:=by exact cF (rH (dY (eR.mp h)) Nat.one_lt_two)
theorem Bn.up(B:Bn b n k lo hi)(bm:Pp b n)(h:¬hi<=lo)(z:b (lo+(hi - lo) / 2)=true):Bn b n (k+1) (lo+(hi - lo) / 2+1) hi :=
 ⟨Ah0 h,B.l2,by have t1:=B.l3;exact o46 t1 h,fun i hi=>bm i _ (bK hi) (aA (Ah0 h) B.l2) z,B.l5⟩
theorem Bn.down(B:Bn b n k lo hi)(bm:Pp b n)(h:¬hi<=lo)(z:b (lo+(hi - lo) / 2)=false):Bn b n (k+1) lo (lo+(hi - lo) / 2) :=
 ⟨aG _ _,aC (aJ (Ah0 h)) B.l2,by have t2:=B.l3;exact aC (aD (eH ..)) (qQ (aA (rH (dY (qZ h)) (bQ 1)) t2)),B.l4,fun i h1 h2=>bm.no h1 h2 z⟩
theorem Bn.same(B:Bn b n k lo hi)(h:hi<=lo):lo=hi:=cP B.l1 h
theorem Bn.fin(B:Bn b n (max 0 n) lo hi):lo=hi:=by have t3:=B.l1;have t4:=B.l3;exact o48 t4 t3
structure Rt(b:Nat->Bool)(n hint k lo of:Nat):Prop where
 l1:lo < of
 l2:k+1<=of
 l3:hint+lo < n
 l4:b (hint+lo)=true
structure Lf(b:Nat->Bool)(hint k lo of:Nat):Prop where
 l1:lo < of
 l2:k+1<=of
 l3:lo<=hint
 l4:b (hint - lo)=false
theorem Yl(h:k+1<=of):of < 2 * of+1/\k+1+1<=2 * of+1:=by exact ⟨iD (kX _ jY),cG (aC h (kX _ jY))⟩
theorem Rt.more(B:Rt b n hint k lo of)(h:¬of ≥ n - hint)(z:b (hint+of)=true):Rt b n hint (k+1) of (2 * of+1):=⟨(Yl B.l2).1,(Yl B.l2).2,by exact cF (eR.mp h),z⟩
theorem Lf.more(B:Lf b hint k lo of)(h:¬of ≥ hint+1)(z:b (hint - of)=false):Lf b hint (k+1) of (2 * of+1):=⟨(Yl B.l2).1,(Yl B.l2).2,by exact bK (eR.mp h),z⟩
theorem Rt.fin(B:Rt b n hint k lo of)(bm:Pp b n)(h:n - hint<=of\/(hint+of < n/\b (hint+of)=false)):Bn b n 0 (hint+lo+1) (hint+min of (n - hint)):=by
 have l1:=B.l1;have l3:=B.l3;refine ⟨by exact o52 l3 l1,by exact o53 l3,by exact o54 l3,fun i h=>bm i _ (bK h) l3 B.l4,fun i h1 h2=>?_⟩;rcases h with h | h
 . exact (o55 h1 l3 h h2).elim
 . exact bm.no (o56 h1 l3 h2) h2 h.2
theorem Lf.fin(B:Lf b hint k lo of)(bm:Pp b n)(hh:hint < n)(h:hint+1<=of\/(of<=hint/\b (hint - of)=true)):Bn b n 0 (hint+1 - min of (hint+1)) (hint - lo):=by
 have l1:=B.l1;have l3:=B.l3;refine ⟨by exact o57 l1 l3,by exact aJ (aB (eG _ _) hh),by exact gL (aJ (aB (aC (aC (aD (cN _)) (eG _ _)) (eG _ _)) hh)),fun i q=>?_,fun i h1 h2=>bm.no h1 h2 B.l4⟩;rcases h with h | h
 . exact (o60 h q).elim
 . exact bm i _ (bK (aA q (aD ((congrArg (hint+1 - ·) (eK (mJ h.1))).trans (Nat.succ_sub h.1))))) (aB (eG hint of) hh) h.2
end
theorem Ym(C:N5 sM sA sS sK sP sR)(hk:kindOf st=sK)(hS:sP key)(hx:∀ i,i < n->base+i < arr.size/\sP (gt arr (base+i)))(mono:∀ i j,i < j->j < n->sR (gt arr (base+i)) < sR (gt arr (base+j)))(hh:hint < n)
 (q:∀ k,k<=n->(∀ i,i < k->if left=true then sR (gt arr (base+i)) < sR key else sR (gt arr (base+i))<=sR key)->(∀ i,k<=i->i < n->if left=true then sR key<=sR (gt arr (base+i)) else sR key < sR (gt arr (base+i)))->Q (some k) st) :
 wpS sM sA sE sS (M5 left key arr base n hint) Q st:=by
 obtain ⟨b,ask,fin,bm⟩:∃ b:Nat->Bool,(∀ {β:Type} {f:Option Bool->StateT cO Sem β} {Q:β->cO->Prop} (i:Nat),i < n->wpS sM sA sE sS (f (some (b i))) Q st->wpS sM sA sE sS ((do
  let x<-elem' arr (base+i)
  if left=true then lt' x key else do
   let r<-lt' key x
   pure (kE (fun x=>!x) r))>>=f) Q st)/\(∀ lo,lo<=n->(∀ i,i < lo->b i=true)->(∀ i,lo<=i->i < n->b i=false)->Q (some lo) st)/\Pp b n:=by
  cases left with
  | true =>
   refine ⟨fun i=>decide (sR (gt arr (base+i)) < sR key),fun i hi h=>dL (Cw (hx i hi).1 (Ahz C hk (hx i hi).2 hS h)),fun lo l1 l2 l3=>q lo l1 (fun i h=>of_decide_eq_true (l2 i h)) fun i h1 h2=>aW.mp (of_decide_eq_false (l3 i h1 h2)),fun i j hij hj h=>decide_eq_true ?_⟩
   have h:=of_decide_eq_true h
   by_cases e:i=j
   . refine rwl e ?_;exact h
   . exact aR (mono i j (aQ hij e) hj) h
  | false =>
   refine ⟨fun i=>!decide (sR key < sR (gt arr (base+i))),fun i hi h=>dL (Cw (hx i hi).1 (dL (Ahz C hk hS (hx i hi).2 (aY h)))),fun lo l1 l2 l3=>q lo l1 (fun i h=>aW.mp (of_decide_eq_false ((iB _).mp (l2 i h)))) fun i h1 h2=>of_decide_eq_true ((pZ _).mp (l3 i h1 h2)),fun i j hij hj h=>(iB _).mpr (decide_eq_false ?_)⟩
   have h:=of_decide_eq_false ((iB _).mp h)
   by_cases e:i=j
   . refine rwl e ?_;exact h
   . exact fun w=>h (aR w (mono i j (aQ hij e) hj))
 delta M5;k_delta "gallop";extract_lets -underBinder +onlyGivenNames bey z0 z1;refine ask hint hh ?_;dsimp -zeta only;extract_lets -underBinder +onlyGivenNames jp;have last:∀ l o lo hi,Bn b n 0 lo hi->wpS sM sA sE sS (jp () l o lo hi) Q st:=by
  intro l o lo hi B;refine G8 (fun k c st'=>st=st'/\c.1=none/\Bn b n k c.2.1 c.2.2) (fun c st'=>st=st'/\c.1=none/\∃ k,Bn b n k c.2.1 c.2.2/\c.2.1=c.2.2) ⟨rfl,rfl,B⟩ ?step (fun c st' h=>⟨h.1,h.2.1,_,h.2.2,h.2.2.fin⟩) ?post;case post =>
   rintro ⟨_,lo,hi⟩ _ ⟨rfl,rfl,k,B,e⟩;have e:lo=hi:=e;subst e;exact aY (fin _ B.l2 B.l4 B.l5)
  case step =>
   rintro k c _ _ _ ⟨rfl,_,B⟩ R R1 R2;extract_lets -underBinder +onlyGivenNames s1 lo hi m;have B:Bn b n k lo hi:=B;clear_value lo hi;exact D8 (fun c=>aY (R2 _ _ ⟨rfl,rfl,k,B,B.same c⟩)) fun c=>ask (lo+(hi - lo) / 2) (aA (Ah0 c) B.l2) (Mb (fun z=>aY (R1 _ _ ⟨rfl,rfl,B.up bm c z⟩)) fun z=>aY (R1 _ _ ⟨rfl,rfl,B.down bm c z⟩))
 clear_value jp;refine Mb (fun z=>?_) fun z=>?_
 . extract_lets -underBinder +onlyGivenNames mo;refine G8 (fun k c st'=>st=st'/\c.1=none/\Rt b n hint k c.2.1 c.2.2) (fun c st'=>st=st'/\c.1=none/\∃ k,Rt b n hint k c.2.1 c.2.2/\(n - hint<=c.2.2\/(hint+c.2.2 < n/\b (hint+c.2.2)=false))) ⟨rfl,rfl,dR,aN _,hh,z⟩ ?step (fun c st' h=>⟨h.1,h.2.1,_,h.2.2,.inl (by have t5:=h.2.2.l2;exact aJ (aB (aC (eG _ _) (eS _ _)) t5))⟩) ?post;case post =>
    rintro ⟨_,lo,of⟩ _ ⟨rfl,rfl,k,B,e⟩;exact last _ _ _ _ (B.fin bm e)
   case step =>
    rintro k c _ _ _ ⟨rfl,_,B⟩ R R1 R2;extract_lets -underBinder +onlyGivenNames s1 lo of;have B:Rt b n hint k lo of:=B;clear_value lo of;refine D8 (fun c=>aY (R2 _ _ ⟨rfl,rfl,k,B,.inl c⟩)) fun c=>?_;have lt:hint+of < n:=cF (eR.mp c);exact ask (hint+of) lt (Mb (fun z=>aY (R2 _ _ ⟨rfl,rfl,k,B,.inr ⟨lt,(iB _).mp z⟩⟩)) fun z=>aY (R1 _ _ ⟨rfl,rfl,B.more c ((pZ _).mp z)⟩))
 . extract_lets -underBinder +onlyGivenNames mo;refine G8 (fun k c st'=>st=st'/\c.1=none/\Lf b hint k c.2.1 c.2.2) (fun c st'=>st=st'/\c.1=none/\∃ k,Lf b hint k c.2.1 c.2.2/\(hint+1<=c.2.2\/(c.2.2<=hint/\b (hint - c.2.2)=true))) ⟨rfl,rfl,dR,aN _,bH _,z⟩ ?step (fun c st' h=>⟨h.1,h.2.1,_,h.2.2,.inl (by have t7:=h.2.2.l2;exact aJ (aA (lN (aA hh (eS _ _)) _) t7))⟩) ?post;case post =>
    rintro ⟨_,lo,of⟩ _ ⟨rfl,rfl,k,B,e⟩;exact last _ _ _ _ (B.fin bm hh e)
   case step =>
    rintro k c _ _ _ ⟨rfl,_,B⟩ R R1 R2;extract_lets -underBinder +onlyGivenNames s1 lo of;have B:Lf b hint k lo of:=B;clear_value lo of;refine D8 (fun c=>aY (R2 _ _ ⟨rfl,rfl,k,B,.inl c⟩)) fun c=>?_;have le:of<=hint:=bK (qZ c);exact ask (hint - of) (aB (eG _ _) hh) (Mb (fun z=>aY (R2 _ _ ⟨rfl,rfl,k,B,.inr ⟨le,z⟩⟩)) fun z=>aY (R1 _ _ ⟨rfl,rfl,B.more c z⟩))
end
section
theorem Ee(h:ia < a.size):a.toList[ia]?=some (gt a ia):=by rw [dK];exact Qy h
noncomputable def Srt(ρ:Keyed->Nat)(l:List Keyed):Prop:=l.Pairwise fun x y=>ρ x < ρ y
theorem Srt.at(h:Srt sR a.toList)(hij:i < j)(hj:j < a.size):sR (gt a i) < sR (gt a j):=by have:=gV.mp h i j (by rw [aV];exact aR hij hj) (by rw [aV];assumption) hij;have e1:a.toList[i]?=some (gt a i):=Ee (aR hij hj);have e2:a.toList[j]?=some (gt a j):=Ee hj;rw [aI (show _ < a.toList.length from aR hij hj)] at e1;rw [aI (show _ < a.toList.length from hj)] at e2;rw [<- aO e1,<- aO e2];exact this
theorem Un(h:∀ i j,i < j->j < a.size->ρ (gt a i) < ρ (gt a j)):Srt ρ a.toList:=by refine gV.mpr fun i j hi hj hij=>?_;rw [aV] at hi hj;have e1:=Ee hi;have e2:=Ee hj;rw [aI (by rw [aV];assumption)] at e1 e2;rw [aO e1,aO e2];exact h i j hij hj
theorem Aan(h:x∈a.toList):∃ i,i < a.size/\x=gt a i:=by obtain ⟨i,hi⟩:=jA h;have lt:=(aE.mp hi).1;rw [aV] at lt;rw [Ee lt] at hi;exact ⟨i,lt,(aO hi).symm⟩
theorem J1(h:x∈a.toList.drop ia):∃ i,ia<=i/\i < a.size/\x=gt a i:=by obtain ⟨i,hi⟩:=jA h;rw [jP] at hi;have lt:=(aE.mp hi).1;rw [aV] at lt;rw [Ee lt] at hi;exact ⟨ia+i,by exact o64,lt,(aO hi).symm⟩
theorem Ig(h:x∈(a.toList.drop ia).take k):∃ i,i < k/\ia+i < a.size/\x=gt a (ia+i):=by obtain ⟨i,hi⟩:=jA h;have lt:=(aE.mp hi).1;rw [fC,iP,aV] at lt;rw [kA (o65 lt),jP,Ee (o66 lt)] at hi;exact ⟨i,by exact o65 lt,by exact o66 lt,(aO hi).symm⟩
theorem J2(h:x∈a.toList.take k):∃ i,i < k/\i < a.size/\x=gt a i:=by rw [<- nU (l:=a.toList)] at h;refine ex1 (Ig h) fun i zz=>Ap zz fun h1 h2 h3=>?_;rw [cN] at h2 h3;exact ⟨i,h1,h2,h3⟩
theorem Ih(h:ia < a.size):(a.toList.drop ia).take 1=[gt a ia]:=by have e:=Ee h;rw [fJ (by rw [aV];exact h),List.take_succ_cons,jO];rw [aI (by rw [aV];exact h)] at e;rw [aO e]
structure MI(ρ:Keyed->Nat)(a b out:List Keyed)(ia ib:Nat):Prop where
 pa:Srt ρ (out++a.drop ia)
 pb:Srt ρ (out++b.drop ib)
 pm:(out++(a.drop ia++b.drop ib)).Perm (a++b)
 ln:out.length=ia+ib
theorem MI.swap{a b:List Keyed}(m:MI sR a b out ia ib):MI sR b a out ib ia :=
 ⟨m.pb,m.pa,(kD _ gG).trans (m.pm.trans gG),m.ln.trans (fZ _ _)⟩
theorem MI.move{a b:List Keyed}(m:MI sR a b out ia ib)(k:Nat)(hk:ia+k<=a.length)(h:∀ x∈(a.drop ia).take k,∀ y∈b.drop ib,sR x < sR y):MI sR a b (out++(a.drop ia).take k) (ia+k) ib:=by
 have e:(a.drop ia).take k++a.drop (ia+k)=a.drop ia:=by rw [<- nW,eO]
 refine ⟨?_,?_,?_,?_⟩
 . rw [bJ,e];exact m.pa
 . refine Ap (dP.mp m.pb) fun p1 p2 p3=>?_;refine Ap (dP.mp m.pa) fun q1 q2 q3=>?_;refine dP.mpr ⟨dP.mpr ⟨p1,q2.sublist (mE _ _),fun x hx y hy=>q3 x hx y (pD hy)⟩,p2,fun x hx y hy=>?_⟩;rcases bM.mp hx with hx | hx
   . exact p3 x hx y hy
   . exact h x hx y hy
 . rw [bJ,<- bJ ((a.drop ia).take k),e];exact m.pm
 . rw [aK,fC,iP,m.ln];exact o67 hk
theorem MI.done{a b:List Keyed}(m:MI sR a b out ia ib)(h:ia=a.length\/ib=b.length):(out++(a.drop ia++b.drop ib)).Perm (a++b)/\Srt sR (out++(a.drop ia++b.drop ib)):=by
 refine ⟨m.pm,?_⟩;rcases h with h | h
 . rw [h,mR,bL,];exact m.pb
 . rw [h,mR,dJ];exact m.pa
structure MH(ρ:Keyed->Nat)(a b out:List Keyed)(na nb:Nat):Prop where
 pa:Srt ρ (a.take na++out)
 pb:Srt ρ (b.take nb++out)
 pm:(a.take na++b.take nb++out).Perm (a++b)
 la:na<=a.length
 lb:nb<=b.length
 ln:out.length+na+nb=a.length+b.length
theorem MH.swap{a b:List Keyed}(m:MH sR a b out na nb):MH sR b a out nb na :=
 ⟨m.pb,m.pa,(jW _ gG).trans (m.pm.trans gG),m.lb,m.la,by have:=m.ln;exact cP (aC (aC (aD (cQ _ _ _)) (aD this)) (aD (fZ _ _))) (aC (aC (aD (fZ _ _)) (aD this.symm)) (aD (cQ _ _ _)))⟩
theorem MH.move{a b:List Keyed}(m:MH sR a b out na nb)(n:Nat)(hn:n<=na)(h:∀ x∈b.take nb,∀ y∈(a.take na).drop n,sR x < sR y):MH sR a b ((a.take na).drop n++out) n nb:=by
 have e:a.take n++(a.take na).drop n=a.take na:=by
  have:a.take n=(a.take na).take n:=by rw [List.take_take,eK hn]
  rw [this,eO]
 have la:=m.la;refine ⟨?_,?_,?_,by exact aC hn la,m.lb,?_⟩
 . rw [<- bJ,e];exact m.pa
 . refine Ap (dP.mp m.pb) fun p1 p2 p3=>?_;refine Ap (dP.mp m.pa) fun q1 q2 q3=>?_;refine dP.mpr ⟨p1,dP.mpr ⟨q1.sublist (qF _ _),p2,fun x hx y hy=>q3 x (List.mem_of_mem_drop hx) y hy⟩,fun x hx y hy=>?_⟩;rcases bM.mp hy with hy | hy
   . exact h x hx y hy
   . exact p3 x hx y hy
 . refine pH ?_ m.pm;rw [<- bJ];refine jW _ ?_;have p:a.take n++((a.take na).drop n++b.take nb)=a.take na++b.take nb:=by rw [<- bJ,e]
   rw [<- p,bJ];exact kD _ gG
 . rw [aK,iP,fC];have:=m.ln;exact o70 this hn la
theorem MH.done{a b:List Keyed}(m:MH sR a b out na nb)(h:na=0\/nb=0):(a.take na++b.take nb++out).Perm (a++b)/\Srt sR (a.take na++b.take nb++out):=by
 refine ⟨m.pm,?_⟩;rcases h with h | h
 . rw [h,jO,bL];exact m.pb
 . rw [h,jO,dJ];exact m.pa
theorem Fo(a:Array Keyed)(i j:Nat):(a.extract i j).toList=(a.toList.drop i).take (j - i):=by rw [Array.toList_extract]
theorem Hj(a:Array Keyed)(i:Nat):(a.extract i a.size).toList=a.toList.drop i:=by rw [Fo,List.take_of_length_le (by rw [iP,aV];exact aN _)]
end
noncomputable def Q0:Array Keyed->Array Keyed->StateT SortSt Sem (Array Keyed):=sortPriv% PySem.Builtin.mergeLo
section
variable{st:cO}{a b:Array Keyed}
structure Same(st st':cO):Prop where
 arr:arrOf st'=arrOf st
 kind:kindOf st'=kindOf st
 pend:pendingOf st'=pendingOf st
 fail:failedOf st'=failedOf st
theorem Same.refl(st:cO):Same st st:=⟨rfl,rfl,rfl,rfl⟩
structure Two(S:Keyed->Prop)(ρ:Keyed->Nat)(a b:Array Keyed):Prop where
 sa:Srt ρ a.toList
 sb:Srt ρ b.toList
 ma:∀ i,i < a.size->S (gt a i)
 mb:∀ i,i < b.size->S (gt b i)
 ne:∀ i j,i < a.size->j < b.size->ρ (gt a i)≠ρ (gt b j)
 na:1<=a.size
 nb:1<=b.size
 fst:ρ (gt b 0) < ρ (gt a 0)
 lst:ρ (gt b (b.size - 1)) < ρ (gt a (a.size - 1))
noncomputable def Ch(ρ:Keyed->Nat)(a b r:Array Keyed):Prop:=r.toList.Perm (a.toList++b.toList)/\Srt ρ r.toList
theorem Ls(h:Srt sR a.toList)(hij:i<=j)(hj:j < a.size):sR (gt a i)<=sR (gt a j):=by
 by_cases e:i=j
 . refine rwl e ?_;exact aN _
 . exact aJ (h.at (aQ hij e) hj)
section
variable{out:Array Keyed}{ia ib:Nat}
theorem Kn(m:MI sR a.toList b.toList out.toList ia ib)(h:ia=a.size\/ib=b.size):Ch sR a b (out++a.extract ia a.size++b.extract ib b.size):=by have:=m.done (by refine rwl aV (rwl aV ?_);exact h);unfold Ch;refine rwl cI (rwl cI ?_);rw [Hj,Hj,bJ];exact this
theorem Q1(m:MI sR a.toList b.toList out.toList ia ib)(T:Two sP sR a b)(hib:ib < b.size)(h:sR (gt b ib) < sR (gt a ia)):MI sR a.toList b.toList (out.push (gt b ib)).toList ia (ib+1):=by
 have t1:=(m.swap.move 1 (by refine rwl aV ?_;exact hib) fun x hx y hy=>?_).swap
 . rw [Ih hib] at t1;refine rwl hZ ?_;exact t1
 . rw [Ih hib] at hx;refine rwl (aT.mp hx) ?_;refine ex1 (J1 hy) fun i zz=>Ap zz fun h1 h2 e=>?_;refine rwl e ?_;exact aA h (Ls T.sa h1 h2)
theorem Yn(m:MI sR a.toList b.toList out.toList ia ib)(T:Two sP sR a b)(hia:ia < a.size)(h:sR (gt a ia) < sR (gt b ib)):MI sR a.toList b.toList (out.push (gt a ia)).toList (ia+1) ib:=by
 have t2:=m.move 1 (by refine rwl aV ?_;exact hia) fun x hx y hy=>?_
 . rw [Ih hia] at t2;refine rwl hZ ?_;exact t2
 . rw [Ih hia] at hx;refine rwl (aT.mp hx) ?_;refine ex1 (J1 hy) fun i zz=>Ap zz fun h1 h2 e=>?_;refine rwl e ?_;exact aA h (Ls T.sb h1 h2)
theorem Yo(m:MI sR a.toList b.toList out.toList ia ib)(T:Two sP sR a b)(hk:ia+k<=a.size)(hib:ib < b.size)(h:∀ i,i < k->sR (gt a (ia+i))<=sR (gt b ib)):MI sR a.toList b.toList (out++a.extract ia (ia+k)).toList (ia+k) ib:=by
 have t3:=m.move k (by refine rwl aV ?_;exact hk) fun x hx y hy=>?_
 . refine rwl cI ?_;rw [Fo,eH];exact t3
 . refine ex1 (Ig hx) fun i zz=>Ap zz fun h1 h2 e=>?_;refine ex1 (J1 hy) fun j zz=>Ap zz fun h3 h4 e'=>?_;refine rwl e (rwl e' ?_);have t4:=h i h1;have t5:=T.ne _ _ h2 hib;have t6:=Ls T.sb h3 h4;exact aA (aQ t4 t5) t6
theorem Q2(m:MI sR a.toList b.toList out.toList ia ib)(T:Two sP sR a b)(hk:ib+k<=b.size)(hia:ia < a.size)(h:∀ i,i < k->sR (gt b (ib+i)) < sR (gt a ia)):MI sR a.toList b.toList (out++b.extract ib (ib+k)).toList ia (ib+k):=by
 have:=(m.swap.move k (by refine rwl aV ?_;exact hk) fun x hx y hy=>?_).swap
 . refine rwl cI ?_;rw [Fo,eH];exact this
 . refine ex1 (Ig hx) fun i zz=>Ap zz fun h1 h2 e=>?_;refine ex1 (J1 hy) fun j zz=>Ap zz fun h3 h4 e'=>?_;refine rwl e (rwl e' ?_);exact aA (h i h1) (Ls T.sa h3 h4)
theorem Pq(m:MI sR a.toList b.toList out.toList ia ib)(T:Two sP sR a b)(h:ia+1=a.size)(hib:ib<=b.size):Ch sR a b (out++b.extract ib b.size++a.extract ia a.size):=by
 have nb:=T.nb;have m':=Q2 (k:=b.size - ib) m T (aD (bG hib)) (aD h) fun i hi=>?_
 . rw [show ib+(b.size - ib)=b.size by exact o76 hib] at m';have t7:=Kn m' (.inr rfl);unfold Ch at t7 ⊢;rw [cI,cI,cI,Hj,Hj,Hj,show b.toList.drop b.size=[] by exact rwr aV (rwl mR rfl),dJ] at t7;refine rwl cI (rwl cI ?_);rw [Hj,Hj];exact t7
 . have t8:=T.lst;rw [show a.size - 1=ia by exact o77 h] at t8;exact aB (Ls T.sb (bU (cF hi)) (o79 nb)) t8
end
theorem Uo(C:N5 sM sA sS sK sP sR){β:Type}{Q:β->cO->Prop}{f:Option Nat->StateT cO Sem β}(hk:kindOf st=sK)(hS:sP key)(hb:base+n<=arr.size)(hx:∀ i,i < base+n->sP (gt arr i))(mono:∀ i j,base<=i->i < j->j < base+n->sR (gt arr i) < sR (gt arr j))(hh:hint < n)
 (h:∀ k,k<=n->(∀ i,i < k->if left=true then sR (gt arr (base+i)) < sR key else sR (gt arr (base+i))<=sR key)->(∀ i,k<=i->i < n->if left=true then sR key<=sR (gt arr (base+i)) else sR key < sR (gt arr (base+i)))->wpS sM sA sE sS (f (some k)) Q st):wpS sM sA sE sS (M5 left key arr base n hint>>=f) Q st :=
 dL (Ym C hk hS (fun i hi=>⟨by exact aA (aZ hi _) hb,hx _ (o81 hi)⟩) (fun i j hij hj=>mono _ _ (aG _ _) (o81 hij) (o81 hj)) hh h)
theorem Yp(C:N5 sM sA sS sK sP sR){β:Type}{Q:β->cO->Prop}{f:Option Nat->StateT cO Sem β}(hk:kindOf st=sK)(hS:sP key)(hb:base+n<=arr.size)(hx:∀ i,i < arr.size->sP (gt arr i))(mono:Srt sR arr.toList)(hh:hint < n)
 (h:∀ k,k<=n->(∀ i,i < k->if left=true then sR (gt arr (base+i)) < sR key else sR (gt arr (base+i))<=sR key)->(∀ i,k<=i->i < n->if left=true then sR key<=sR (gt arr (base+i)) else sR key < sR (gt arr (base+i)))->wpS sM sA sE sS (f (some k)) Q st):wpS sM sA sE sS (M5 left key arr base n hint>>=f) Q st :=
 Uo C hk hS hb (fun i hi=>hx _ (aA hi hb)) (fun i j _ hij hj=>mono.at hij (aA hj hb)) hh h
structure Lo(ρ:Keyed->Nat)(a b:Array Keyed)(x:Nat)(out:Array Keyed)(ia ib:Nat):Prop where
 m:MI ρ a.toList b.toList out.toList ia ib
 h1:ia+1 < a.size
 h2:ib < b.size
 h3:x < out.size
noncomputable def Fin(ρ:Keyed->Nat)(a b:Array Keyed)(st:cO)(P:Prop)(o:Option (Array Keyed))(st':cO):Prop:=Same st st'/\((∃ r,o=some r/\Ch ρ a b r)\/(o=none/\P))
theorem Fin.one{P:Prop}(h:Same st st')(m:Ch sR a b r):Fin sR a b st P (some r) st':=⟨h,.inl ⟨r,rfl,m⟩⟩
theorem Fin.two{P:Prop}(h:Same st st'/\o=none/\P):Fin sR a b st P o st':=⟨h.1,.inr h.2⟩
theorem Same.setG(h:Same st st')(g:Nat):Same st (iI (kindOf st') (arrOf st') (pendingOf st') g (failedOf st')):=⟨h.arr,h.kind,h.pend,h.fail⟩
theorem Aao(h:x < n):x+1<=x+max 0 n:=aP (aC (aB (bH x) h) (eS 0 n)) x
section
variable{out:Array Keyed}{x y ia ib k:Nat}
theorem Lo.start(T:Two sP sR a b)(n1:1≠b.size)(n2:0+1≠a.size)(m:MI sR a.toList b.toList (#[gt b 0]:Array Keyed).toList 0 1):Lo sR a b 0 #[gt b 0] 0 1:=⟨m,aQ T.na n2,aQ T.nb n1,dR⟩
theorem Lo.ha(L:Lo sR a b x out ia ib):ia < a.size:=fN L.h1
theorem Lo.weak(L:Lo sR a b y out ia ib)(h:x<=y):Lo sR a b x out ia ib:=⟨L.m,L.h1,L.h2,aB h L.h3⟩
theorem Lo.stop(L:Lo sR a b (max 0 (a.size+b.size)) out ia ib):False:=by have h:out.size=ia+ib:=L.m.ln;have t9:=L.h1;have t10:=L.h2;have t11:=L.h3;exact o83 t9 t11 t10 h
theorem Lo.pushB(L:Lo sR a b x out ia ib)(T:Two sP sR a b)(h:sR (gt b ib) < sR (gt a ia)):(ib+1=b.size->Ch sR a b (out.push (gt b ib)++a.extract ia a.size++b.extract (ib+1) b.size))/\(ib+1≠b.size->Lo sR a b (x+1) (out.push (gt b ib)) ia (ib+1)) :=
 have m:=Q1 L.m T L.h2 h
 ⟨fun e=>Kn m (.inr e),fun e=>⟨m,L.h1,aQ L.h2 e,by rw [kR];exact gT L.h3⟩⟩
theorem Lo.pushA(L:Lo sR a b x out ia ib)(T:Two sP sR a b)(h:¬sR (gt b ib) < sR (gt a ia)):(ia+1+1=a.size->Ch sR a b (out.push (gt a ia)++b.extract ib b.size++a.extract (ia+1) a.size))/\(ia+1+1≠a.size->Lo sR a b (x+1) (out.push (gt a ia)) (ia+1) ib) :=
 have m:=Yn L.m T L.ha (aQ (aW.mp h) (T.ne ia ib L.ha L.h2))
 ⟨fun e=>Pq m T e (aJ L.h2),fun e=>⟨m,aQ L.h1 e,L.h2,by rw [kR];exact gT L.h3⟩⟩
theorem Ii(h:x < out.size):x < (out++z).size:=by refine rwl Array.size_append ?_;exact aA h (aG _ _)
theorem Lo.moveA(L:Lo sR a b x out ia ib)(T:Two sP sR a b)(k1:k<=a.size - ia)(h:∀ i,i < k->sR (gt a (ia+i))<=sR (gt b ib)):(ia+k+1=a.size->Ch sR a b (out++a.extract ia (ia+k)++b.extract ib b.size++a.extract (ia+k) a.size)) /\
 (ia+k=a.size->Ch sR a b (out++a.extract ia (ia+k)++a.extract (ia+k) a.size++b.extract ib b.size))/\(ia+k+1≠a.size->ia+k≠a.size->Lo sR a b x (out++a.extract ia (ia+k)) (ia+k) ib/\k < a.size - ia):=by
 have l1:=L.h1;have m:=Yo L.m T (gN (aJ (aR (bQ _) l1)) k1) L.h2 h;exact ⟨fun e=>Pq m T e (aJ L.h2),fun e=>Kn m (.inl e),fun e1 e2=>⟨⟨m,by exact aQ (aQ (gN (aJ (fN l1)) k1) e2) e1,L.h2,Ii L.h3⟩,by exact o86 e1 l1 e2 k1⟩⟩
theorem Lo.moveB(L:Lo sR a b x out ia ib)(T:Two sP sR a b)(k1:k<=b.size - ib)(h:∀ i,i < k->sR (gt b (ib+i)) < sR (gt a ia)):(ib+k=b.size->Ch sR a b (out++b.extract ib (ib+k)++a.extract ia a.size++b.extract (ib+k) b.size)) /\
 (ib+k≠b.size->Lo sR a b x (out++b.extract ib (ib+k)) ia (ib+k)/\k < b.size - ib):=by
 have l1:=L.h2;have m:=Q2 L.m T (gN (aJ l1) k1) L.ha h;exact ⟨fun e=>Kn m (.inr e),fun e=>⟨⟨m,L.h1,by exact aQ (gN (aJ l1) k1) e,Ii L.h3⟩,by exact o89 e l1 k1⟩⟩
theorem Up(C:N5 sM sA sS sK sP sR)(T:Two sP sR a b)(hk:kindOf st=sK)(q:∀ r st',Same st st'->Ch sR a b r->Q r st'):wpS sM sA sE sS (Q0 a b) Q st:=by
 have m0:MI sR a.toList b.toList (#[gt b 0]:Array Keyed).toList 0 1:=Q1 (out:=#[]) ⟨T.sa,T.sb,jE _,rfl⟩ T T.nb T.fst;have kd:∀ {st'},Same st st'->kindOf st'=sK:=fun h=>h.kind.trans hk;delta Q0;k_delta "mergeLo";refine Ma ?_;extract_lets -underBinder +onlyGivenNames total done last;refine Cw T.nb ?_;extract_lets -underBinder +onlyGivenNames o0 i0 i1;refine E3 (fun e=>aY (q _ _ (Same.refl _) (Kn m0 (.inr e)))) fun n1=>E3 (fun e=>aY (q _ _ (Same.refl _) (Pq m0 T e T.nb))) fun n2=>N6 ?_;have L0:Lo sR a b 0 o0 i0 i1:=Lo.start T n1 n2 m0;clear_value o0 i0 i1;extract_lets -underBinder +onlyGivenNames mg;clear_value mg;refine G8 (fun x c st'=>Same st st'/\c.1=none/\Lo sR a b x c.2.1 c.2.2.1 c.2.2.2.1) (fun c st'=>Fin sR a b st False c.1 st') ⟨Same.refl _,rfl,L0⟩ ?step (fun c st' h=>h.2.2.stop.elim) ?post;case post =>
  intro c st' h;extract_lets -underBinder +onlyGivenNames o;have h:Fin sR a b st False o st':=h;clear_value o;refine h.2.elim (fun ⟨r,e,hm⟩=>?_) fun e=>e.2.elim;subst e;exact aY (q r st' h.1 hm)
 case step =>
  intro x c st' _ hx h R R1 R2;extract_lets -underBinder +onlyGivenNames s1 out s2 ia s3 ib mg ac;have L:Lo sR a b x out ia ib:=h.2.2;clear_value out ia ib mg ac;refine G8 (fun y c st'=>Same st st'/\c.1=none/\Lo sR a b (x+y) c.2.1 c.2.2.1 c.2.2.2.1) (fun c st'=>Fin sR a b st (Lo sR a b (x+1) c.2.1 c.2.2.1 c.2.2.2.1) c.1 st') ⟨h.1,rfl,L⟩ ?step1 (fun c st' h=>.two ⟨h.1,h.2.1,h.2.2.weak (Aao hx)⟩) ?post1;case step1 =>
   intro y c st' _ hy h R R1 R2;extract_lets -underBinder +onlyGivenNames s1 out s2 ia s3 ib s4 ac bc;have L:Lo sR a b (x+y) out ia ib:=h.2.2;clear_value out ia ib ac bc;have wk:∀ {out ia ib},Lo sR a b (x+y+1) out ia ib->Lo sR a b (x+1) out ia ib:=fun L=>L.weak (aP (cE 1 y) x);refine Cw L.h2 (Cw L.ha (Akw C (kd h.1) (T.mb _ L.h2) (T.ma _ L.ha) (Mb (fun e=>Cw L.h2 ?_) fun e=>Cw L.ha ?_)))
   . have g:=L.pushB T (of_decide_eq_true e);exact E3 (fun e=>aY (R2 _ _ (.one h.1 (g.1 e)))) fun e=>D8 (fun _=>aY (R2 _ _ (.two ⟨h.1,rfl,wk (g.2 e)⟩))) fun _=>aY (R1 _ _ ⟨h.1,rfl,g.2 e⟩)
   . have g:=L.pushA T (of_decide_eq_false e);exact E3 (fun e=>aY (R2 _ _ (.one h.1 (g.1 e)))) fun e=>D8 (fun _=>aY (R2 _ _ (.two ⟨h.1,rfl,wk (g.2 e)⟩))) fun _=>aY (R1 _ _ ⟨h.1,rfl,g.2 e⟩)
  case post1 =>
   intro c st' h;extract_lets -underBinder +onlyGivenNames o s1 out s2 ia s3 ib s4 ac bc;have h:Fin sR a b st (Lo sR a b (x+1) out ia ib) o st':=h;clear_value o out ia ib ac bc;refine h.2.elim (fun ⟨r,e,hm⟩=>?_) fun ⟨e,L⟩=>?_
   . subst e;exact aY (R2 _ _ (.one h.1 hm))
   subst e;refine Ma ?_;extract_lets -underBinder +onlyGivenNames mg;clear_value mg;refine G8 (fun y c st'=>Same st st'/\c.1=none/\Lo sR a b (x+1) c.2.1 c.2.2.1 c.2.2.2.1) (fun c st'=>Fin sR a b st (Lo sR a b (x+1) c.2.1 c.2.2.1 c.2.2.2.1) c.1 st') ⟨h.1,rfl,L⟩ ?step2 (fun c st' h=>.two h) ?post2;case post2 =>
    intro c st' h;extract_lets -underBinder +onlyGivenNames o s1 out s2 ia s3 ib s4 mg;have h:Fin sR a b st (Lo sR a b (x+1) out ia ib) o st':=h;clear_value o out ia ib mg;refine h.2.elim (fun ⟨r,e,hm⟩=>?_) fun ⟨e,L⟩=>?_
    . subst e;exact aY (R2 _ _ (.one h.1 hm))
    subst e;exact Qz (aY (R1 _ _ ⟨h.1.setG _,rfl,L⟩))
   case step2 =>
    intro y c st' _ hy h R R1 R2;extract_lets -underBinder +onlyGivenNames s1 out s2 ia s3 ib s4 mg s5 ac bc jp;have L:Lo sR a b (x+1) out ia ib:=h.2.2;clear_value out ia ib mg ac bc;suffices hj:∀ g,wpS sM sA sE sS (jp () g) R st' from D8 (fun _=>hj _) fun _=>hj _;intro g;have sm':=h.1.setG g;refine Qz (Cw L.h2 (Yp C (kd sm') (T.mb _ L.h2) (aD (bG (aJ L.ha))) T.ma T.sa (dY L.ha) fun k k1 k2 k3=>?_));dsimp -zeta only;extract_lets -underBinder +onlyGivenNames ac jp;have g1:=L.moveA T k1 k2;suffices hj:∀ out ia,Lo sR a b (x+1) out ia ib->sR (gt b ib) < sR (gt a ia)->wpS sM sA sE sS (jp () out ia) R (iI (kindOf st') (arrOf st') (pendingOf st') g (failedOf st')) from
     D8 (fun _=>E3 (fun e=>aY (R2 _ _ (.one sm' (g1.1 e)))) fun e=>E3 (fun e=>aY (R2 _ _ (.one sm' (g1.2.1 e)))) fun e'=>hj _ _ (g1.2.2 e e').1 (k3 k (aN _) (g1.2.2 e e').2)) fun z=>hj _ _ L (k3 0 (kK z) (dY L.ha))
    intro out ia L kb;refine Cw L.h2 ?_;have g2:=L.pushB T kb;extract_lets -underBinder +onlyGivenNames out ib;refine E3 (fun e=>aY (R2 _ _ (.one sm' (g2.1 e)))) fun e=>?_;have L:Lo sR a b (x+1+1) out ia ib:=g2.2 e;clear_value out ib;refine Cw L.ha (Yp C (kd sm') (T.ma _ L.ha) (aD (bG (aJ L.h2))) T.mb T.sb (dY L.h2) fun n n1 n2 n3=>?_);dsimp -zeta only;extract_lets -underBinder +onlyGivenNames bc jp;have g1:=L.moveB T n1 n2;suffices hj:∀ out ib,Lo sR a b (x+1+1) out ia ib->sR (gt a ia)<=sR (gt b ib)->wpS sM sA sE sS (jp () out ib) R (iI (kindOf st') (arrOf st') (pendingOf st') g (failedOf st')) from
     D8 (fun _=>E3 (fun e=>aY (R2 _ _ (.one sm' (g1.1 e)))) fun e=>hj _ _ (g1.2 e).1 (n3 n (aN _) (g1.2 e).2)) fun z=>hj _ _ L (n3 0 (kK z) (dY L.h2))
    intro out ib L ka;refine Cw L.ha ?_;have g2:=L.pushA T (aW.mpr ka);extract_lets -underBinder +onlyGivenNames out ia;have lo:ia+1≠a.size->Lo sR a b (x+1) out ia ib:=fun e=>(g2.2 e).weak (aG (x+1) 2);exact E3 (fun e=>aY (R2 _ _ (.one sm' (g2.1 e)))) fun e=>D8 (fun _=>aY (R2 _ _ (.two ⟨sm',rfl,lo e⟩))) fun _=>aY (R1 _ _ ⟨sm',rfl,lo e⟩)
end
end
noncomputable def Q3:Array Keyed->Array Keyed->StateT SortSt Sem (Array Keyed):=sortPriv% PySem.Builtin.mergeHi
section
variable{st:cO}{a b:Array Keyed}
section
variable{out:Array Keyed}{na nb n:Nat}
theorem M6(h:n < a.size):(a.toList.take (n+1)).drop n=[gt a n]:=by refine rwl nV ?_;rw [eH];exact rwl (Ih h) rfl
theorem Uq(h:x∈(a.toList.take na).drop n):∃ i,n<=i/\i < na/\i < a.size/\x=gt a i:=by rw [nV] at h;refine ex1 (Ig h) fun i zz=>Ap zz fun h1 h2 e=>?_;exact ⟨n+i,by exact o64,by exact cF h1,h2,e⟩
theorem Q4(a:Array Keyed)(n:Nat):(a.extract 0 n).toList=a.toList.take n:=by rw [Fo];refine rwl nU ?_;rw [Nat.sub_zero]
theorem M7(m:MH sR a.toList b.toList out.toList.reverse na nb)(h:na=0\/nb=0):Ch sR a b (a.extract 0 na++b.extract 0 nb++out.reverse):=by unfold Ch;refine rwl cI (rwl cI ?_);rw [Q4,Q4];refine rwl lF ?_;exact m.done h
theorem Q5(m:MH sR a.toList b.toList out.toList.reverse (na+1) nb)(T:Two sP sR a b)(hb:1<=nb)(h:sR (gt b (nb - 1)) < sR (gt a na)):MH sR a.toList b.toList (out.push (gt a na)).toList.reverse na nb:=by
 have la:=m.la;have lb:=m.lb;rw [aV] at la lb;have t1:=m.move na o91 fun x hx y hy=>?_
 . rw [M6 la] at t1;refine rwl hZ (rwl lQ ?_);exact t1
 . rw [M6 la] at hy;refine rwl (aT.mp hy) ?_;refine ex1 (J2 hx) fun i zz=>Ap zz fun h1 h2 e=>?_;refine rwl e ?_;exact aB (Ls T.sb (bU h1) (o94 hb lb)) h
theorem Yq(m:MH sR a.toList b.toList out.toList.reverse na (nb+1))(T:Two sP sR a b)(ha:1<=na)(h:sR (gt a (na - 1)) < sR (gt b nb)):MH sR a.toList b.toList (out.push (gt b nb)).toList.reverse na nb:=by
 have la:=m.la;have lb:=m.lb;rw [aV] at la lb;have t2:=(m.swap.move nb o91 fun x hx y hy=>?_).swap
 . rw [M6 lb] at t2;refine rwl hZ (rwl lQ ?_);exact t2
 . rw [M6 lb] at hy;refine rwl (aT.mp hy) ?_;refine ex1 (J2 hx) fun i zz=>Ap zz fun h1 h2 e=>?_;refine rwl e ?_;exact aB (Ls T.sa (bU h1) (o94 ha la)) h
theorem Pr(out a:Array Keyed)(n na:Nat):(out++(a.extract n na).reverse).toList.reverse=(a.toList.take na).drop n++out.toList.reverse:=by refine rwl cI (rwl lQ (rwl lF ?_));rw [List.reverse_reverse,Fo];exact rwl nV rfl
theorem Q6(m:MH sR a.toList b.toList out.toList.reverse na nb)(T:Two sP sR a b)(hn:n<=na)(hb:1<=nb)(h:∀ i,n<=i->i < na->sR (gt b (nb - 1)) < sR (gt a i)):MH sR a.toList b.toList (out++(a.extract n na).reverse).toList.reverse n nb:=by have lb:=m.lb;rw [aV] at lb;rw [Pr];refine m.move n hn fun x hx y hy=>?_;refine ex1 (J2 hx) fun i zz=>Ap zz fun h1 h2 e=>?_;refine ex1 (Uq hy) fun j zz=>Cf zz fun h3 h4 h5 e'=>?_;refine rwl e (rwl e' ?_);exact aB (Ls T.sb (bU h1) (o94 hb lb)) (h j h3 h4)
theorem Yr(m:MH sR a.toList b.toList out.toList.reverse na nb)(T:Two sP sR a b)(hn:n<=nb)(ha:1<=na)(h:∀ i,n<=i->i < nb->sR (gt a (na - 1))<=sR (gt b i)):MH sR a.toList b.toList (out++(b.extract n nb).reverse).toList.reverse na n:=by have la:=m.la;rw [aV] at la;rw [Pr];refine (m.swap.move n hn fun x hx y hy=>?_).swap;refine ex1 (J2 hx) fun i zz=>Ap zz fun h1 h2 e=>?_;refine ex1 (Uq hy) fun j zz=>Cf zz fun h3 h4 h5 e'=>?_;refine rwl e (rwl e' ?_);have t3:=h j h3 h4;have t4:=T.ne (na - 1) j (o94 ha la) h5;have t5:=Ls T.sa (i:=i) (j:=na - 1) (bU h1) (o94 ha la);exact aB t5 (aQ t3 t4)
theorem M8(m:MH sR a.toList b.toList out.toList.reverse na nb)(T:Two sP sR a b)(h:nb=1):Ch sR a b (b.extract 0 nb++a.extract 0 na++out.reverse):=by subst h;have la:=m.la;rw [aV] at la;have m':=Q6 (n:=0) m T (bH _) (aN _) fun i _ hi=>aA T.fst (Ls T.sa (bH _) (aA hi la));have t6:=m'.done (.inl rfl);rw [Pr,jO,bL,nU] at t6;unfold Ch;refine rwl cI (rwl cI ?_);rw [Q4,Q4];refine rwl lF ?_;rw [bJ];exact t6
structure Hi(ρ:Keyed->Nat)(a b:Array Keyed)(x na nb:Nat)(out:Array Keyed):Prop where
 m:MH ρ a.toList b.toList out.toList.reverse na nb
 h1:1<=na
 h2:2<=nb
 h3:x < out.size
variable{x y k:Nat}
theorem Hi.la(L:Hi sR a b x na nb out):na - 1 < a.size:=aA (cS L.h1 dR) L.m.la
theorem Hi.lb(L:Hi sR a b x na nb out):nb - 1 < b.size:=aA (cS (fN L.h2) dR) L.m.lb
theorem Hi.ga(L:Hi sR a b x na nb out):0+na<=a.size:=by rw [cN];exact L.m.la
theorem Hi.gb(L:Hi sR a b x na nb out):0+nb<=b.size:=by rw [cN];exact L.m.lb
theorem Hi.pa(L:Hi sR a b x na nb out):na - 1 < na:=cS L.h1 dR
theorem Hi.pb(L:Hi sR a b x na nb out):nb - 1 < nb:=cS (fN L.h2) dR
theorem Hi.weak(L:Hi sR a b y na nb out)(h:x<=y):Hi sR a b x na nb out:=⟨L.m,L.h1,L.h2,aB h L.h3⟩
theorem Hi.stop(L:Hi sR a b (max 0 (a.size+b.size)) na nb out):False:=by have h:=L.m.ln;have t7:=L.h1;have t8:=L.h3;rw [List.length_reverse] at h;have h:out.size+na+nb=a.size+b.size:=h;exact o98 h t8 t7
theorem Hi.pushA(L:Hi sR a b x na nb out)(T:Two sP sR a b)(h:sR (gt b (nb - 1)) < sR (gt a (na - 1))):(na - 1=0->Ch sR a b (a.extract 0 (na - 1)++b.extract 0 nb++(out.push (gt a (na - 1))).reverse))/\(na - 1≠0->Hi sR a b (x+1) (na - 1) nb (out.push (gt a (na - 1)))) :=
 have m:=Q5 (na:=na - 1) (by refine rwl (dQ L.h1) ?_;exact L.m) T (iE L.h2) h
 ⟨fun e=>M7 m (.inl e),fun e=>⟨m,fG e,L.h2,by rw [kR];exact gT L.h3⟩⟩
theorem Hi.pushB(L:Hi sR a b x na nb out)(T:Two sP sR a b)(h:¬sR (gt b (nb - 1)) < sR (gt a (na - 1))):(nb - 1=1->Ch sR a b (b.extract 0 (nb - 1)++a.extract 0 na++(out.push (gt b (nb - 1))).reverse))/\(nb - 1≠1->Hi sR a b (x+1) na (nb - 1) (out.push (gt b (nb - 1)))) :=
 have m:=Yq (nb:=nb - 1) (by refine rwl (dQ (iE L.h2)) ?_;exact L.m) T L.h1 (aQ (aW.mp h) (T.ne _ _ L.la L.lb))
 ⟨fun e=>M8 m T e,fun e=>⟨m,L.h1,aQ (jD L.h2) e.symm,by rw [kR];exact gT L.h3⟩⟩
theorem Hi.moveA(L:Hi sR a b x na nb out)(T:Two sP sR a b)(hk:k<=na)(h:∀ i,k<=i->i < na->sR (gt b (nb - 1)) < sR (gt a (0+i))):(k=0->Ch sR a b (a.extract 0 k++b.extract 0 nb++(out++(a.extract k na).reverse).reverse))/\(k≠0->Hi sR a b x k nb (out++(a.extract k na).reverse)) :=
 have m:=Q6 L.m T hk (iE L.h2) fun i p q=>cN i▸h i p q
 ⟨fun e=>M7 m (.inl e),fun e=>⟨m,fG e,L.h2,Ii L.h3⟩⟩
theorem Hi.moveB(L:Hi sR a b x na nb out)(T:Two sP sR a b)(hk:k<=nb)(h:∀ i,k<=i->i < nb->sR (gt a (na - 1))<=sR (gt b (0+i))):(k=1->Ch sR a b (b.extract 0 k++a.extract 0 na++(out++(b.extract k nb).reverse).reverse)) /\
 (k=0->Ch sR a b (a.extract 0 na++b.extract 0 k++(out++(b.extract k nb).reverse).reverse))/\(k≠1->k≠0->Hi sR a b x na k (out++(b.extract k nb).reverse)) :=
 have m:=Yr L.m T hk L.h1 fun i p q=>cN i▸h i p q
 ⟨fun e=>M8 m T e,fun e=>M7 m (.inr e),fun e1 e2=>⟨m,L.h1,aQ (fG e2) e1.symm,Ii L.h3⟩⟩
theorem Q7(h:n≠0):n - 1 < n:=cS (fG h) dR
theorem Ur(hk:k<=n)(h:¬n - k > 0)(h1:n - 1 < n):n - 1 < k:=by exact aA h1 (kW.mp (kY h))
theorem Us(C:N5 sM sA sS sK sP sR)(T:Two sP sR a b)(hk:kindOf st=sK)(q:∀ r st',Same st st'->Ch sR a b r->Q r st'):wpS sM sA sE sS (Q3 a b) Q st:=by
 have na0:=T.na;have m0:MH sR a.toList b.toList (#[gt a (a.size - 1)]:Array Keyed).toList.reverse (a.size - 1) b.size:=by
  refine Q5 (out:=#[]) ?_ T T.nb T.lst;have e1:a.toList.take (a.size - 1+1)=a.toList:=by exact rwl (dQ na0) (rwr aV (rwl dS rfl))
  have e2:b.toList.take b.size=b.toList:=by exact rwr aV (rwl dS rfl)
  refine ⟨?_,?_,?_,aD (dQ na0),aN _,by show 0+(a.size - 1+1)+b.size=a.size+b.size;refine rwl (dQ na0) ?_;rw [cN]⟩
  . refine rwl e1 ?_;show Srt sR (_++[]);rw [dJ];exact T.sa
  . refine rwl e2 ?_;show Srt sR (_++[]);rw [dJ];exact T.sb
  . refine rwl e1 (rwl e2 ?_);show (_++[]).Perm _;rw [dJ]
 have kd:∀ {st'},Same st st'->kindOf st'=sK:=fun h=>h.kind.trans hk;delta Q3;k_delta "mergeHi";refine Ma ?_;extract_lets -underBinder +onlyGivenNames total done last i0 i1;refine Cw (cS na0 dR) ?_;extract_lets -underBinder +onlyGivenNames o0;refine E3 (fun e=>aY (q _ _ (Same.refl _) (M7 m0 (.inl e)))) fun n1=>E3 (fun e=>aY (q _ _ (Same.refl _) (M8 m0 T e))) fun n2=>N6 ?_;have L0:Hi sR a b 0 i0 i1 o0:=⟨m0,fG n1,aQ T.nb (gO n2),dR⟩;clear_value o0 i0 i1;extract_lets -underBinder +onlyGivenNames mg;clear_value mg;refine G8 (fun x c st'=>Same st st'/\c.1=none/\Hi sR a b x c.2.1 c.2.2.1 c.2.2.2.1) (fun c st'=>Fin sR a b st False c.1 st') ⟨Same.refl _,rfl,L0⟩ ?step (fun c st' h=>h.2.2.stop.elim) ?post;case post =>
  intro c st' h;extract_lets -underBinder +onlyGivenNames o;have h:Fin sR a b st False o st':=h;clear_value o;refine h.2.elim (fun ⟨r,e,hm⟩=>?_) fun e=>e.2.elim;subst e;exact aY (q r st' h.1 hm)
 case step =>
  intro x c st' _ hx h R R1 R2;extract_lets -underBinder +onlyGivenNames s1 na s2 nb s3 out mg ac;have L:Hi sR a b x na nb out:=h.2.2;clear_value out na nb mg ac;refine G8 (fun y c st'=>Same st st'/\c.1=none/\Hi sR a b (x+y) c.2.1 c.2.2.1 c.2.2.2.1) (fun c st'=>Fin sR a b st (Hi sR a b (x+1) c.2.1 c.2.2.1 c.2.2.2.1) c.1 st') ⟨h.1,rfl,L⟩ ?step1 (fun c st' h=>.two ⟨h.1,h.2.1,h.2.2.weak (Aao hx)⟩) ?post1;case step1 =>
   intro y c st' _ hy h R R1 R2;extract_lets -underBinder +onlyGivenNames s1 na s2 nb s3 out s4 ac bc;have L:Hi sR a b (x+y) na nb out:=h.2.2;clear_value out na nb ac bc;have wk:∀ {na nb out},Hi sR a b (x+y+1) na nb out->Hi sR a b (x+1) na nb out:=fun L=>L.weak (aP (cE 1 y) x);refine Cw L.lb (Cw L.la (Akw C (kd h.1) (T.mb _ L.lb) (T.ma _ L.la) (Mb (fun e=>Cw L.la ?_) fun e=>Cw L.lb ?_)))
   . have g:=L.pushA T (of_decide_eq_true e);exact E3 (fun e=>aY (R2 _ _ (.one h.1 (g.1 e)))) fun e=>D8 (fun _=>aY (R2 _ _ (.two ⟨h.1,rfl,wk (g.2 e)⟩))) fun _=>aY (R1 _ _ ⟨h.1,rfl,g.2 e⟩)
   . have g:=L.pushB T (of_decide_eq_false e);exact E3 (fun e=>aY (R2 _ _ (.one h.1 (g.1 e)))) fun e=>D8 (fun _=>aY (R2 _ _ (.two ⟨h.1,rfl,wk (g.2 e)⟩))) fun _=>aY (R1 _ _ ⟨h.1,rfl,g.2 e⟩)
  case post1 =>
   intro c st' h;extract_lets -underBinder +onlyGivenNames o s1 na s2 nb s3 out s4 ac bc;have h:Fin sR a b st (Hi sR a b (x+1) na nb out) o st':=h;clear_value o out na nb ac bc;refine h.2.elim (fun ⟨r,e,hm⟩=>?_) fun ⟨e,L⟩=>?_
   . subst e;exact aY (R2 _ _ (.one h.1 hm))
   subst e;refine Ma ?_;extract_lets -underBinder +onlyGivenNames mg;clear_value mg;refine G8 (fun y c st'=>Same st st'/\c.1=none/\Hi sR a b (x+1) c.2.1 c.2.2.1 c.2.2.2.1) (fun c st'=>Fin sR a b st (Hi sR a b (x+1) c.2.1 c.2.2.1 c.2.2.2.1) c.1 st') ⟨h.1,rfl,L⟩ ?step2 (fun c st' h=>.two h) ?post2;case post2 =>
    intro c st' h;extract_lets -underBinder +onlyGivenNames o s1 na s2 nb s3 out s4 mg;have h:Fin sR a b st (Hi sR a b (x+1) na nb out) o st':=h;clear_value o out na nb mg;refine h.2.elim (fun ⟨r,e,hm⟩=>?_) fun ⟨e,L⟩=>?_
    . subst e;exact aY (R2 _ _ (.one h.1 hm))
    subst e;exact Qz (aY (R1 _ _ ⟨h.1.setG _,rfl,L⟩))
   case step2 =>
    intro y c st' _ hy h R R1 R2;extract_lets -underBinder +onlyGivenNames s1 na s2 nb s3 out s4 mg s5 ac bc jp;have L:Hi sR a b (x+1) na nb out:=h.2.2;clear_value out na nb mg ac bc;suffices hj:∀ g,wpS sM sA sE sS (jp () g) R st' from D8 (fun _=>hj _) fun _=>hj _;intro g;have sm':=h.1.setG g;refine Qz (Cw L.lb (Yp C (kd sm') (T.mb _ L.lb) L.ga T.ma T.sa L.pa fun k k1 k2 k3=>?_));dsimp -zeta only;extract_lets -underBinder +onlyGivenNames kk ac jp;have g1:=L.moveA T k1 k3;suffices hj:∀ na out,Hi sR a b (x+1) na nb out->sR (gt a (0+(na - 1)))<=sR (gt b (nb - 1))->wpS sM sA sE sS (jp () na out) R (iI (kindOf st') (arrOf st') (pendingOf st') g (failedOf st')) from
     D8 (fun _=>E3 (fun e=>aY (R2 _ _ (.one sm' (g1.1 e)))) fun e=>hj _ _ (g1.2 e) (k2 _ (Q7 e))) fun z=>hj _ _ L (k2 _ (Ur k1 z L.pa))
    intro na out L kb;rw [cN] at kb;refine Cw L.lb ?_;have g2:=L.pushB T (aW.mpr kb);extract_lets -underBinder +onlyGivenNames out;refine E3 (fun e=>aY (R2 _ _ (.one sm' (g2.1 e)))) fun e=>?_;have L:Hi sR a b (x+1+1) na (nb - 1) out:=g2.2 e;clear_value out;clear g2 kb e;generalize nb - 1=nb at L ⊢;refine Cw L.la (Yp C (kd sm') (T.ma _ L.la) L.gb T.mb T.sb L.pb fun n n1 n2 n3=>?_);dsimp -zeta only;extract_lets -underBinder +onlyGivenNames kk bc jp;have g1:=L.moveB T n1 n3;suffices hj:∀ nb out,Hi sR a b (x+1+1) na nb out->sR (gt b (0+(nb - 1))) < sR (gt a (na - 1))->wpS sM sA sE sS (jp () nb out) R (iI (kindOf st') (arrOf st') (pendingOf st') g (failedOf st')) from
     D8 (fun _=>E3 (fun e=>aY (R2 _ _ (.one sm' (g1.1 e)))) fun e=>E3 (fun e=>aY (R2 _ _ (.one sm' (g1.2.1 e)))) fun e'=>hj _ _ (g1.2.2 e e') (n2 _ (Q7 e'))) fun z=>hj _ _ L (n2 _ (Ur n1 z L.pb))
    intro nb out L ka;rw [cN] at ka;refine Cw L.la ?_;have g2:=L.pushA T ka;extract_lets -underBinder +onlyGivenNames out;have lo:na - 1≠0->Hi sR a b (x+1) (na - 1) nb out:=fun e=>(g2.2 e).weak (aG (x+1) 2);exact E3 (fun e=>aY (R2 _ _ (.one sm' (g2.1 e)))) fun e=>D8 (fun _=>aY (R2 _ _ (.two ⟨sm',rfl,lo e⟩))) fun _=>aY (R1 _ _ ⟨sm',rfl,lo e⟩)
end
end
section
variable{st:cO}{lo n nrem:Nat}
theorem Bg.size(h:Bg κ a₀ st):(arrOf st).size=a₀.size:=h.perm.length_eq
theorem Bg.mem(h:Bg sK sZ st)(hi:i < sZ.size):gt (arrOf st) i∈sZ.toList:=h.perm.mem_iff.mp (aH (Ee (by refine rwl h.size ?_;exact hi)))
theorem Bg.ne(h:Bg sK sZ st)(inj:(sZ.toList.map sR).Nodup)(hij:i < j)(hj:j < sZ.size):sR (gt (arrOf st) i)≠sR (gt (arrOf st) j):=by
 have nd:((arrOf st).toList.map sR).Nodup:=(h.perm.map sR).nodup_iff.mpr inj;have hs:=h.size;have e1:((arrOf st).toList.map sR)[i]?=some (sR (gt (arrOf st) i)):=by refine rwl aX (rwl (Ee (aA (aR hij hj) (aD hs.symm))) ?_);rfl
 have e2:((arrOf st).toList.map sR)[j]?=some (sR (gt (arrOf st) j)):=by refine rwl aX (rwl (Ee (Ah2 hj hs)) ?_);rfl
 have l1:=(aE.mp e1).1;have l2:=(aE.mp e2).1;rw [aI l1] at e1;rw [aI l2] at e2;intro q;rw [<- aO e1,<- aO e2] at q;exact gV.mp nd i j l1 l2 hij q
structure BKeep(lo:Nat)(arr arr':Array Keyed):Prop where
 size:arr'.size=arr.size
 low:∀ p,p < lo->gt arr' p=gt arr p
theorem BKeep.refl(lo:Nat)(arr:Array Keyed):BKeep lo arr arr:=⟨rfl,fun _ _=>rfl⟩
theorem BKeep.trans(x:BKeep lo a b)(y:BKeep lo b c):BKeep lo a c:=⟨y.size.trans x.size,fun p hp=>(y.low p hp).trans (x.low p hp)⟩
theorem Ps(h:a[i]?=o):gt a i=o.getD (eQ,eQ):=by unfold gt;exact rwl nJ (rwl h rfl)
theorem M9(a:Array Keyed)(i:Nat):(a[i]?).getD (eQ,eQ)=gt a i:=(Ps rfl).symm
theorem Age(C:N5 sM sA sS sK sP sR)(hB:Bg sK sZ st)(hi:i < sZ.size)(hj:j < sZ.size)(h:Q (some (decide (sR (gt (arrOf st) i) < sR (gt (arrOf st) j)))) st):wpS sM sA sE sS (ltAt' i j) Q st:=by rw [ltAt'_eq];refine dL (wpS_get ?_);have hs:=hB.size;exact dL (Um (Qy (show i < (arrOf st).size by exact Ah2 hi hs)) (dL (Um (Qy (show j < (arrOf st).size by exact Ah2 hj hs)) (Ahz C hB.kind (hB.mem hi) (hB.mem hj) h))))
theorem An3{β:Type}{m1 m2:StateT cO Sem β}{Q:β->cO->Prop}(h:wpS sM sA sE sS m1 Q st):wpS sM sA sE sS (if true=true then m1 else m2) Q st:=h
theorem An4{β:Type}{m1 m2:StateT cO Sem β}{Q:β->cO->Prop}(h:wpS sM sA sE sS m2 Q st):wpS sM sA sE sS (if false=true then m1 else m2) Q st:=h
theorem Mc(C:N5 sM sA sS sK sP sR)(hB:Bg sK sZ st){β:Type}{f:Option Bool->StateT cO Sem β}{Q:β->cO->Prop}(hi:i < sZ.size)(hj:j < sZ.size)(h1:sR (gt (arrOf st) i) < sR (gt (arrOf st) j)->wpS sM sA sE sS (f (some true)) Q st)(h2:¬sR (gt (arrOf st) i) < sR (gt (arrOf st) j)->wpS sM sA sE sS (f (some false)) Q st):wpS sM sA sE sS (ltAt' i j>>=f) Q st:=by
 refine dL (Age C hB hi hj ?_);by_cases c:sR (gt (arrOf st) i) < sR (gt (arrOf st) j)
 . refine rwl (decide_eq_true c) ?_;exact h1 c
 . refine rwl (decide_eq_false c) ?_;exact h2 c
theorem Asc.snoc(h:Asc sR arr lo n)(h1:1<=n)(l:sR (gt arr (lo+n - 1)) < sR (gt arr (lo+n))):Asc sR arr lo (n+1):=by
 intro p q hp hpq hq;by_cases e:q=lo+n
 . refine rwl e ?_;by_cases e':p=lo+n - 1
   . refine rwl e' ?_;exact l
   . exact aR (h p (lo+n - 1) hp (aQ (bU (cH hpq e)) e') (cS (aA (aB (bH _) hpq) (aD e)) dF)) l
 . exact h p q hp hpq (aQ (bK hq) e)
theorem Agf{β:Type}{Q:β->cO->Prop}{g:Option (Option Nat) × Nat->StateT cO Sem β}(ne:∀ n,1<=n->n < nrem->sR (gt (arrOf st) (lo+n))≠sR (gt (arrOf st) (lo+n - 1)))(h1:1<=a)(h2:a<=nrem)(asc:Asc sR (arrOf st) lo a)
 (hf:∀ k n (R:ForInStep (Option (Option Nat) × Nat)->cO->Prop),1<=n->n < nrem->(sR (gt (arrOf st) (lo+n)) < sR (gt (arrOf st) (lo+n - 1))->R (.done (none,n)) st)->(¬sR (gt (arrOf st) (lo+n)) < sR (gt (arrOf st) (lo+n - 1))->R (.yield (none,n+1)) st)->wpS sM sA sE sS (f k (none,n)) R st)
 (h:∀ c,c.1=none->a<=c.2->c.2<=nrem->Asc sR (arrOf st) lo c.2->(c.2=nrem\/sR (gt (arrOf st) (lo+c.2)) < sR (gt (arrOf st) (lo+c.2 - 1)))->wpS sM sA sE sS (g c) Q st):wpS sM sA sE sS (forIn [a:nrem] (none,a) f>>=g) Q st:=by
 refine G8 (fun x c st'=>st=st'/\c=(none,x)/\Asc sR (arrOf st) lo x) (fun c st'=>st=st'/\∃ n,c=(none,n)/\a<=n/\n<=nrem/\Asc sR (arrOf st) lo n/\(n=nrem\/sR (gt (arrOf st) (lo+n)) < sR (gt (arrOf st) (lo+n - 1)))) ⟨rfl,rfl,asc⟩ ?_ ?_ ?_
 . rintro x _ _ hx hx' ⟨rfl,rfl,h⟩ R R1 R2;exact hf x x _ (aC h1 hx) hx' (fun l=>R2 _ _ ⟨rfl,x,rfl,hx,by exact aJ hx',h,.inr l⟩) fun l=>R1 _ _ ⟨rfl,rfl,h.snoc (aC h1 hx) (by have t1:=ne x (aC h1 hx) hx';exact aQ (aW.mp l) (fun e=>t1 e.symm))⟩
 . rintro _ _ ⟨rfl,rfl,h⟩;rw [mW h2] at h ⊢;exact ⟨rfl,nrem,rfl,h2,aN _,h,.inl rfl⟩
 . intro _ _ zz;refine Ad zz fun zr0 zz=>ex1 zz fun n zz=>G7 zz fun zr2 n1 n2 n3 n4=>?_;subst zr0;subst zr2;exact h (none,n) rfl n1 n2 n3 n4
theorem Ai4{β:Type}{f:Unit->StateT cO Sem β}{Q:β->cO->Prop}(h:wpS sM sA sE sS (f ()) Q (setArr st (mirror (arrOf st) i j ((j - i) / 2)))):wpS sM sA sE sS (reverseSlice' i j>>=f) Q st:=by rw [reverseSlice'_eq];exact dL (mS h)
theorem Agg{β:Type}{f:Unit->StateT cO Sem β}{Q:β->cO->Prop}(h:wpS sM sA sE sS (f ()) Q (setArr st (bubble (arrOf st) src (src - dst)))):wpS sM sA sE sS (moveDown' src dst>>=f) Q st:=by rw [moveDown'_eq];exact dL (mS h)
theorem Agh(h:lo+n<=arr.size)(p:Nat):gt (mirror arr lo (lo+n) ((lo+n - lo) / 2)) p=if lo<=p/\p < lo+n then gt arr (lo+(lo+n) - 1 - p) else gt arr p:=by
 refine rwl (Ps (getElem?_mirror_all h p)) ?_;split
 . exact M9 _ _
 . exact M9 _ _
theorem Sd(C:N5 sM sA sS sK sP sR)(inj:(sZ.toList.map sR).Nodup)(hB:Bg sK sZ st)(hn:lo+nrem=sZ.size)(h1:1<=nrem)
 (q:∀ m st',Bg sK sZ st'->pendingOf st'=pendingOf st->BKeep lo (arrOf st) (arrOf st')->1<=m->m<=nrem->Asc sR (arrOf st') lo m->Q (some m) st'):wpS sM sA sE sS (countRun' lo nrem) Q st:=by
 have hs:=hB.size;have ne:∀ {st'},Bg sK sZ st'->∀ i,1<=i->i < nrem->sR (gt (arrOf st') (lo+i))≠sR (gt (arrOf st') (lo+i - 1)):=fun hB _ h1 h2=>(hB.ne inj (cS (aA (aA (by decide:0 < 1) h1) (cE _ _)) dF) (Afb hn h2)).symm;delta countRun';k_delta "countRun";refine Agf (lo:=lo) (ne hB) (aN 1) h1 (fun p q h1 h2 h3=>by exact absurd h2 (aW.mpr (aC (bK h3) h1))) (fun k n R n1 n2 g1 g2=>Mc C hB (Afb hn n2) (Ajl hn n1 n2 hs) (fun c=>aY (g1 c)) fun c=>aY (g2 c)) ?_;intro c c0 n1 n2 asc nx;extract_lets -underBinder +onlyGivenNames r n;have c0:r=none:=c0;have n1:1<=n:=n1;have n2:n<=nrem:=n2;have asc:Asc sR (arrOf st) lo n:=asc;have nx:n=nrem\/sR (gt (arrOf st) (lo+n)) < sR (gt (arrOf st) (lo+n - 1)):=nx;clear_value r n;subst c0;have ok:=q n _ hB rfl (BKeep.refl _ _) n1 n2 asc;refine E3 (fun _=>aY ok) fun c=>?_;have nx:=nx.resolve_left c;extract_lets -underBinder +onlyGivenNames jp;refine D8 (fun c1=>Mc C hB (aA (bX (aA (aR (by decide:0 < 1) c1) n2)) (aD hn)) (aA (aA (cS (aA (aR (by decide:0 < 1) c1) (cE _ _)) dF) (aP n2 _)) (aD hn)) (fun _=>aY ok) fun e=>absurd (asc lo (lo+n - 1) (aN _) (gQ (aZ c1 _)) (cS (aA (aR (by decide:0 < 1) c1) (cE _ _)) dF)) e) fun c1=>?_;clear ok asc;refine Ma ?_;refine G8 (fun x c st'=>st=st'/\c.1=none/\c.2.1=x/\c.2.2=0/\∀ p q,lo<=p->p < q->q < lo+x->sR (gt (arrOf st) q) < sR (gt (arrOf st) p))
  (fun c st'=>st=st'/\c.1=none/\c.2.2=0/\2<=c.2.1/\c.2.1<=nrem/\∀ p q,lo<=p->p < q->q < lo+c.2.1->sR (gt (arrOf st) q) < sR (gt (arrOf st) p)) ⟨rfl,rfl,rfl,rfl,fun p q h1 h2 h3=>?_⟩ ?step ?fin ?post
 . have e1:p=lo+n - 1:=by exact Akz hn n1 h3 h2 hs h1 c1
   have e2:q=lo+n:=by exact Ak0 hn n1 h3 h2 e1 hs h1 c1
   refine rwl e1 (rwl e2 ?_);exact nx
 case fin =>
  intro cc _ zz;refine G7 zz fun zr0 c0 d1 d2 h=>?_;subst zr0;rw [mW (show n+1<=nrem from aQ n2 c)] at d1 h;rw [<- d1] at h;exact ⟨rfl,c0,d2,by exact aC (aQ h1 (fun e=>c ((cP (aW.mp c1) n1).trans e))) (aD d1.symm),by exact aD d1,h⟩
 case step =>
  rintro x cc _ hx hx' ⟨rfl,c0,d1,d2,h⟩ R R1 R2;extract_lets -underBinder +onlyGivenNames s1 m neq;replace d1:m=x:=d1;replace d2:neq=0:=d2;clear_value m neq;clear s1;subst d1 d2;have nn:=ne hB m (Ak1 hx n1 c1) hx';refine Mc C hB (Afb hn hx') (Ajm hx hn n1 hx' hs c1) (fun c=>?_) fun c=>An4 (Mc C hB (Ajm hx hn n1 hx' hs c1) (Afb hn hx') (fun _=>aY (R2 _ _ ⟨rfl,rfl,rfl,by show 2<=m;exact aC (cG n1) hx,by show m<=nrem;exact aJ hx',h⟩)) fun c'=>by exact (Ak2 nn c c').elim);refine An3 (D8 (fun e=>absurd e (cA 0)) fun _=>aY (R1 _ _ ⟨rfl,rfl,rfl,rfl,fun p q hp hpq hq=>?_⟩));by_cases e:q=lo+m
  . refine rwl e ?_;by_cases e':p=lo+m - 1
    . refine rwl e' ?_;exact c
    . exact aR c (h p (lo+m - 1) hp (aQ (bU (aA hpq (aD e))) e') (Ak3 hx hn n1 e hs c1))
  . exact h p q hp hpq (aQ (bK hq) e)
 case post =>
  clear c1 nx n1 n2 c jp;intro c _ zz;refine Mq zz fun zr0 c0 c2 n1 n2 h=>?_;subst zr0;extract_lets -underBinder +onlyGivenNames r s1 n neq;have c0:r=none:=c0;have c2:neq=0:=c2;have n1:2<=n:=n1;have n2:n<=nrem:=n2;have h:∀ p q,lo<=p->p < q->q < lo+n->sR (gt (arrOf st) q) < sR (gt (arrOf st) p):=h;clear_value r n neq;clear s1;subst c0 c2;refine D8 (fun e=>absurd e (cA 0)) fun _=>Ai4 ?_;have hB':Bg sK sZ (setArr st (mirror (arrOf st) lo (lo+n) ((lo+n - lo) / 2))):=⟨hB.kind,hB.fail,(nS.mp (mirror_perm _ _ _ _)).trans hB.perm⟩;have mg:∀ p,gt (arrOf (setArr st (mirror (arrOf st) lo (lo+n) ((lo+n - lo) / 2)))) p=if lo<=p/\p < lo+n then gt (arrOf st) (lo+(lo+n) - 1 - p) else gt (arrOf st) p:=fun p=>Agh (aC (aC (aP n2 _) (aD hn)) (aD hs.symm)) p;have kp:BKeep lo (arrOf st) (arrOf (setArr st (mirror (arrOf st) lo (lo+n) ((lo+n - lo) / 2)))):=⟨mirror_size _ _ _ _,fun p hp=>by rw [mg];exact rwl (if_neg (fun z=>cA _ (aA hp z.1))) rfl⟩;have asc:Asc sR (arrOf (setArr st (mirror (arrOf st) lo (lo+n) ((lo+n - lo) / 2)))) lo n:=fun p q hp hpq hq=>by rw [mg,mg];refine rwl (if_pos ⟨hp,by exact aR hpq hq⟩) (rwl (if_pos ⟨by exact aJ (aB hp hpq),hq⟩) ?_);exact h _ _ (Ak4 hn hq hs) (jM (jD (aC (cG hpq) (aC hq (cE ..)))) hpq) (dG (bU (aA (aR hpq hq) (cE _ _))) (aA (cS (aA (aB (bH _) hq) (cE _ _)) dF) (eW hp _)))
  have pe:pendingOf (setArr st (mirror (arrOf st) lo (lo+n) ((lo+n - lo) / 2)))=pendingOf st:=rfl;generalize setArr st (mirror (arrOf st) lo (lo+n) ((lo+n - lo) / 2))=st2 at hB' kp asc pe;clear mg h;refine Agf (lo:=lo) (ne hB') (show 1<=n by exact aJ (aA (by decide:1 < 2) n1)) n2 asc (fun k n R n1 n2 g1 g2=>Mc C hB' (Afb hn n2) (Ajl hn n1 n2 hs) (fun c=>aY (g1 c)) fun c=>aY (g2 c)) ?_;rintro ⟨_,m⟩ rfl m1 m2 asc _;exact aY (q m _ hB' pe kp (show 1<=m by have t2:n<=m:=m1;exact aJ (aA (aA (by decide:1 < 2) n1) m1)) m2 asc)
theorem Se(C:N5 sM sA sS sK sP sR)(inj:(sZ.toList.map sR).Nodup)(hB:Bg sK sZ st){β:Type}{f:Option Nat->StateT cO Sem β}{Q:β->cO->Prop}(hn:lo+nrem=sZ.size)(h1:1<=nrem)
 (q:∀ m st',Bg sK sZ st'->pendingOf st'=pendingOf st->BKeep lo (arrOf st) (arrOf st')->1<=m->m<=nrem->Asc sR (arrOf st') lo m->wpS sM sA sE sS (f (some m)) Q st'):wpS sM sA sE sS (countRun' lo nrem>>=f) Q st:=dL (Sd C inj hB hn h1 q)
theorem Agi(hs:src < arr.size)(hd:d<=src)(p:Nat):gt (bubble arr src d) p=if p=src - d then gt arr src else if src - d < p/\p<=src then gt arr (p - 1) else gt arr p:=by
 refine rwl (Ps (getElem?_bubble hs d hd p)) ?_;split
 . exact M9 _ _
 . split
   . exact M9 _ _
   . exact M9 _ _
theorem Ut(C:N5 sM sA sS sK sP sR)(inj:(sZ.toList.map sR).Nodup)(hB:Bg sK sZ st)(hn:lo+n<=sZ.size)(h1:1<=ok)(h2:ok<=n)(asc:Asc sR (arrOf st) lo ok)
 (q:∀ st',Bg sK sZ st'->pendingOf st'=pendingOf st->BKeep lo (arrOf st) (arrOf st')->Asc sR (arrOf st') lo n->Q true st'):wpS sM sA sE sS (binarySort' lo n ok) Q st:=by
 delta binarySort';k_delta "binarySort";refine G8 (fun x c st'=>c.1=none/\Bg sK sZ st'/\pendingOf st'=pendingOf st/\BKeep lo (arrOf st) (arrOf st')/\Asc sR (arrOf st') lo x) (fun c st'=>c.1=none/\Bg sK sZ st'/\pendingOf st'=pendingOf st/\BKeep lo (arrOf st) (arrOf st')/\Asc sR (arrOf st') lo n)
  ⟨rfl,hB,rfl,BKeep.refl _ _,by refine rwl (rG h1) ?_;exact asc⟩ ?step ?fin ?post
 case fin =>
  intro c st' zz;refine G7 zz fun c0 hB pe kp asc=>?_;rw [mW (show max ok 1<=n by exact Ak5 h1 h2)] at asc;exact ⟨c0,hB,pe,kp,asc⟩
 case post =>
  rintro ⟨_,_⟩ st' ⟨rfl,hB,pe,kp,asc⟩;exact aY (q st' hB pe kp asc)
 case step =>
  clear asc hB;rintro k c st' hk hk' ⟨_,hB,pe,kp,asc⟩ R R1 R2;have hs:=hB.size;have k1:1<=k:=by exact Ak6 hk
  refine G8 (fun x c st₁=>st'=st₁/\c.1=none/\c.2.1<=c.2.2/\c.2.2<=k/\c.2.2 - c.2.1<=k - x/\(∀ p,p < c.2.1->sR (gt (arrOf st') (lo+p)) < sR (gt (arrOf st') (lo+k)))/\∀ p,c.2.2<=p->p < k->sR (gt (arrOf st') (lo+k)) < sR (gt (arrOf st') (lo+p)))
   (fun c st₁=>st'=st₁/\c.1=none/\c.2.1<=k/\(∀ p,p < c.2.1->sR (gt (arrOf st') (lo+p)) < sR (gt (arrOf st') (lo+k)))/\∀ p,c.2.1<=p->p < k->sR (gt (arrOf st') (lo+k)) < sR (gt (arrOf st') (lo+p))) ⟨rfl,rfl,bH _,aN _,aN _,(fun p h=>absurd h (nP _)),fun p h h'=>absurd h' (aW.mpr h)⟩ ?step ?fin ?post
  case fin =>
   intro c _ zz;refine Pb zz fun zr0 c0 l1 l2 l3 l4 l5=>?_;subst zr0;have e:c.2.2=c.2.1:=by exact Ak7 l3 k1 l1
   exact ⟨rfl,c0,by exact o39 e l2,l4,e▸l5⟩
  case step =>
   clear R1 R2 R;rintro x c _ _ hx ⟨rfl,c0,l1,l2,l3,l4,l5⟩ R R1 R2;extract_lets -underBinder +onlyGivenNames s1 l r m;have l1:l<=r:=l1;have l2:r<=k:=l2;have l3:r - l<=k - x:=l3;have l4:∀ p,p < l->sR (gt (arrOf st') (lo+p)) < sR (gt (arrOf st') (lo+k)):=l4;have l5:∀ p,r<=p->p < k->sR (gt (arrOf st') (lo+k)) < sR (gt (arrOf st') (lo+p)):=l5;clear_value l r;clear s1;refine D8 (fun c=>aY (R2 _ _ ?_)) fun c=>?_
   . have e:r=l:=by exact Ak8 l1 c
     exact ⟨rfl,rfl,aC l1 l2,l4,e▸l5⟩
   have em:(l+r) / 2=m:=rfl;clear_value m;have m1:l<=m:=by exact Ak9 em c
   have m2:m < r:=by exact Ala em m1 c
   have m3:m - l<=k - (x+1):=bU (aA (pN m1 m2) l3);have m4:r - (m+1)<=k - (x+1):=aC (lS (cG m1) r) (jB l3 1);refine Mc C hB (Ajn hn hk' hs) (Alb hn hk' m2 hs l2) (fun d=>aY (R1 _ _ ⟨rfl,rfl,m1,by show m<=k;exact Alc m2 l2,m3,l4,fun p hp hp'=>?_⟩)) fun d=>aY (R1 _ _ ⟨rfl,rfl,m2,l2,m4,fun p hp=>?_,l5⟩)
   . by_cases e:p=m
     . refine rwl e ?_;exact d
     . have hp:m<=p:=hp;exact aR d (asc _ _ o64 (Ald hp e) (o81 hp'))
   . have hp:p < m+1:=hp;have d':sR (gt (arrOf st') (lo+m)) < sR (gt (arrOf st') (lo+k)):=by have t3:=hB.ne inj (i:=lo+m) (j:=lo+k) (Ajo m2 l2) (Ajn hn hk' hs);exact Ale t3 d
     by_cases e:p=m
     . refine rwl e ?_;exact d'
     . exact aR (asc _ _ o64 (Alf hp e) (Ajo m2 l2)) d'
  case post =>
   intro c _ zz;refine G7 zz fun zr0 c0 l2 l4 l5=>?_;subst zr0;extract_lets -underBinder +onlyGivenNames r s1 l;have c0:r=none:=c0;have l2:l<=k:=l2;have l4:∀ p,p < l->sR (gt (arrOf st') (lo+p)) < sR (gt (arrOf st') (lo+k)):=l4;have l5:∀ p,l<=p->p < k->sR (gt (arrOf st') (lo+k)) < sR (gt (arrOf st') (lo+p)):=l5;clear_value r l;clear s1;subst c0;refine Agg (aY (R1 _ _ ?_));have bg:∀ p,gt (bubble (arrOf st') (lo+k) (lo+k - (lo+l))) p=if p=lo+l then gt (arrOf st') (lo+k) else if lo+l < p/\p<=lo+k then gt (arrOf st') (p - 1) else gt (arrOf st') p:=fun p=>by exact rwl (Agi (Alg hn hk' hs) (Alh l2) p) (rwl (show lo+k - (lo+k - (lo+l))=lo+l by exact Ali l2) rfl)
   refine ⟨rfl,⟨hB.kind,hB.fail,(nS.mp (bubble_perm _ _ _)).trans hB.perm⟩,pe,kp.trans ⟨bubble_size _ _ _,fun p hp=>?_⟩,fun p q hp hpq hq=>?_⟩
   . show gt (bubble _ _ _) p=_;rw [bg];exact rwl (if_neg (Alj hp)) (rwl (if_neg (Alk hp)) rfl)
   . show sR (gt (bubble _ _ _) p) < sR (gt (bubble _ _ _) q);rw [bg,bg];have low:∀ p,lo<=p->p < lo+l->sR (gt (arrOf st') p) < sR (gt (arrOf st') (lo+k)):=fun p h1 h2=>by have t4:=l4 (p - lo) (Alm h2 h1);rw [show lo+(p - lo)=p by exact o76 h1] at t4;exact t4
     have upp:∀ p,lo+l<=p->p < lo+k->sR (gt (arrOf st') (lo+k)) < sR (gt (arrOf st') p):=fun p h1 h2=>by have t5:=l5 (p - lo) (Aln h1) (Alo h1 h2);rw [show lo+(p - lo)=p by exact Alp h1] at t5;exact t5
     by_cases c1:q < lo+l
     . refine rwl (if_neg (show ¬p=lo+l by exact Alq c1 hpq)) (rwl (if_neg (show ¬(lo+l < p/\p<=lo+k) by exact Alr c1 hpq)) (rwl (if_neg (show ¬q=lo+l by exact Als c1)) (rwl (if_neg (show ¬(lo+l < q/\q<=lo+k) by exact Ajp c1)) ?_)));exact asc p q hp hpq (Alt hq c1 l2)
     by_cases c2:q=lo+l
     . refine rwl (if_neg (show ¬p=lo+l by exact Alu hpq c2)) (rwl (if_neg (show ¬(lo+l < p/\p<=lo+k) by exact Alv hpq c2)) (rwl (if_pos c2) ?_));exact low p hp (Alw hpq c2)
     refine rwl (if_neg c2) (rwl (if_pos (show lo+l < q/\q<=lo+k by exact Alx hq c1 c2)) ?_);by_cases c3:p=lo+l
     . refine rwl (if_pos c3) ?_;exact upp (q - 1) (Aly hpq c3) (Alz k1 hq c3)
     refine rwl (if_neg c3) ?_;by_cases c4:p < lo+l
     . refine rwl (if_neg (show ¬(lo+l < p/\p<=lo+k) by exact Ajp c4)) ?_;by_cases c5:p=q - 1
       . exact Al0 c4 hpq c5 c1 c2 c3
       . exact asc p (q - 1) hp (Al1 hpq c5) (Al2 k1 hq)
     . refine rwl (if_pos (show lo+l < p/\p<=lo+k by exact Al3 hq hpq c4 c3)) ?_;exact asc (p - 1) (q - 1) (Al4 hp c4 c3) (Al5 hpq c4 c3) (Al6 hq hpq)
end
section
variable{st:cO}
theorem Ai5(h:Q ⟨⟩ st'):wpS sM sA sE sS (set st':StateT cO Sem PUnit) Q st:=by unfold wpS;rw [StateT.run_set];exact aU ⟨rfl,h⟩
theorem Agj(h:∀ st1,kindOf st1=kindOf st'->arrOf st1=arrOf st'->pendingOf st1=pendingOf st'->failedOf st1=failedOf st'->Q ⟨⟩ st1):wpS sM sA sE sS (set st':StateT cO Sem PUnit) Q st:=Ai5 (h st' rfl rfl rfl rfl)
theorem Ac3:∀ (r:List Keyed) (base off:Nat) (arr:Array Keyed),base+off+r.length<=arr.size->((r.zipIdx off).foldl (fun a (x:Keyed × Nat)=>a.setIfInBounds (base+x.2) x.1) arr).toList=arr.toList.take (base+off)++r++arr.toList.drop (base+off+r.length):=by
 intro r;induction r with
 | nil =>intro base off arr _;show arr.toList=_;rw [dJ];refine rwl kZ ?_;rw [mK,eO]
 | cons x r ihh =>
  intro base off arr h;refine rwl List.zipIdx_cons (rwl List.foldl_cons ?_);rw [cM] at h ⊢;have ih:=ihh base (off+1) (arr.setIfInBounds (base+off) x) (by refine rwl jX ?_;exact Al7 h);refine ih.trans ?_;have lt:base+off < arr.toList.length:=by refine rwl aV ?_;exact aA (bX (aB (bH _) (bQ _))) h
  refine rwl nR ?_;have e1:(arr.toList.set (base+off) x).take (base+(off+1))=arr.toList.take (base+off)++[x]:=by refine rwl (show base+(off+1)=base+off+1 by exact (cX _ _ _).symm) (rwl mF (rwl (pQ (aN _)) (rwl (dA lt) ?_)));rfl
  have e2:(arr.toList.set (base+off) x).drop (base+(off+1)+r.length)=arr.toList.drop (base+off+(r.length+1)):=by exact rwl (show base+off+(r.length+1)=base+(off+1)+r.length by exact Al8) (rwl (pS (aA (aZ (bQ _) _) (aG _ _))) rfl)
  refine rwl e1 (rwl e2 ?_);rw [bJ _ [x]];rfl
theorem Q8(h:i+p < j)(hj:j<=a.size):gt (a.extract i j) p=gt a (i+p):=by
 have t1:(a.extract i j)[p]?=a[i+p]?:=by exact rwl Array.getElem?_extract (rwl (if_pos (gQ (aA (aB (aD (fZ _ _)) h) (aD (eK hj).symm)))) rfl)
 refine rwl (Ps t1) ?_;rw [M9]
theorem G4{a:Array Keyed}(hj:j<=a.size):(a.extract i j).size=j - i:=by refine rwl Array.size_extract ?_;exact Al9 hj
theorem Ys(ne:∀ i j,i < j->j < arr.size->sR (gt arr i)≠sR (gt arr j))(s1:Asc sR arr sa na)(s2:Asc sR arr (sa+na) nb)(hs:sa+na+nb<=arr.size)(k1:k < na)(k2:∀ i,i < k->sR (gt arr (sa+i))<=sR (gt arr (sa+na)))(m1:1<=m)(m2:m<=nb)(m3:∀ i,m<=i->i < nb->sR (gt arr (sa+na - 1))<=sR (gt arr (sa+na+i)))
 (sM:Ch sR (arr.extract (sa+k) (sa+na)) (arr.extract (sa+na) (sa+na+m)) r) (e:arr'.toList=arr.toList.take (sa+k)++r.toList++arr.toList.drop (sa+k+r.toList.length)) :
 arr'.toList.Perm arr.toList/\Asc sR arr' sa (na+nb)/\∀ p,p < sa\/sa+na+nb<=p->gt arr' p=gt arr p:=by
 obtain ⟨pm,sr⟩:=sM
 have rl:r.size=(na - k)+m:=by
  have t2:=pm.length_eq
  rw [aK] at t2
  have e1:(arr.extract (sa+k) (sa+na)).toList.length=sa+na - (sa+k):=G4 (aC (aG _ _) hs)
  have e2:(arr.extract (sa+na) (sa+na+m)).toList.length=sa+na+m - (sa+na):=G4 (aC (aP m2 _) hs)
  have e3:r.toList.length=r.size:=rfl
  exact e3.symm.trans (t2.trans (congr (congrArg HAdd.hAdd (e1.trans (lM ..))) (e2.trans (eH ..))))
 have rl':r.toList.length=(na - k)+m:=rl
 have tl:(arr.toList.take (sa+k)).length=sa+k:=by refine rwl fC (rwl aV ?_);exact (eK (aJ (aA (aA (aZ k1 _) (aG _ _)) hs)))
 -- where the things are now
 have low:∀ p,p < sa+k->gt arr' p=gt arr p:=fun p hp=>by
  have t3:arr'[p]?=arr[p]?:=by
   refine rwr dK (rwl e ?_);rw [bJ];exact rwl (bB (aA hp (aD tl.symm))) (rwl (kA hp) (rwl dK rfl))
  refine rwl (Ps t3) ?_;rw [M9]
 have mid:∀ p,sa+k<=p->p < sa+na+m->gt arr' p=gt r (p - (sa+k)):=fun p hp hp'=>by
  have t4:arr'[p]?=r[p - (sa+k)]?:=by
   refine rwr dK (rwl e ?_);rw [bJ];exact rwl (aS (aC (aD tl) hp)) (rwl tl (rwl (bB (Ama hp hp' k1 rl rl' tl)) (rwl dK rfl)))
  refine rwl (Ps t4) ?_;rw [M9]
 have upp:∀ p,sa+na+m<=p->gt arr' p=gt arr p:=fun p hp=>by
  have t5:arr'[p]?=arr[p]?:=by
   refine rwr dK (rwl e (rwl (aS (by rw [aK];exact Amc hp k1 rl rl' tl)) (rwl aK (rwl jP (rwl rl' (rwl tl (rwl dK ?_)))))))
   congr 1;exact bG (aC (aD (Ahn k1)) hp)
  refine rwl (Ps t5) ?_;rw [M9]
 have of:∀ j,j < r.size->(∃ i,sa+k<=i/\i < sa+na/\gt r j=gt arr i)\/∃ i,sa+na<=i/\i < sa+na+m/\gt r j=gt arr i:=fun j hj=>by
  have t6:=pm.mem_iff.mp (aH (Ee hj))
  rcases bM.mp t6 with h | h
  . refine ex1 (Aan h) fun i zz=>Ad zz fun hi e=>?_
    rw [G4 (Ajq hs tl)] at hi
    rw [Q8 (cF hi) (Ajq hs tl)] at e
    exact .inl ⟨sa+k+i,by exact aG _ _,by exact cF hi,e⟩
  . refine ex1 (Aan h) fun i zz=>Ad zz fun hi e=>?_
    rw [G4 (Ah3 hs rl rl' tl m2)] at hi
    rw [Q8 (cF hi) (Ah3 hs rl rl' tl m2)] at e
    exact .inr ⟨sa+na+i,by exact aG _ _,by exact cF hi,e⟩
 have le1:∀ i j,sa<=i->i<=j->j < sa+na->sR (gt arr i)<=sR (gt arr j):=fun i j a b c=>by
  by_cases e:i=j
  . refine rwl e ?_;exact aN _
  . exact aJ (s1 i j a (aQ b e) c)
 have le2:∀ i j,sa+na<=i->i<=j->j < sa+na+nb->sR (gt arr i)<=sR (gt arr j):=fun i j a b c=>by
  by_cases e:i=j
  . refine rwl e ?_;exact aN _
  . exact aJ (s2 i j a (aQ b e) c)
 have kk:∀ i,sa<=i->i < sa+k->sR (gt arr i) < sR (gt arr (sa+na)):=fun i a b=>by
  have t7:=k2 (i - sa) (dG a b)
  rw [show sa+(i - sa)=i by exact Amd tl a] at t7
  have t8:=ne i (sa+na) (Ajr b k1 tl) (aA (bX (aA (aA (by decide:0 < 1) m1) m2)) hs)
  exact aQ t7 t8
 have mm:∀ i,sa+na+m<=i->i < sa+na+nb->sR (gt arr (sa+na - 1)) < sR (gt arr i):=fun i a b=>by
  have t9:=m3 (i - (sa+na)) (gL a) (Ame m1 b rl rl' tl m2)
  rw [show sa+na+(i - (sa+na))=i by exact Amf a m1 rl rl' tl] at t9
  have t10:=ne (sa+na - 1) i (aA (aB (eG _ _) (bX (aA (by decide:0 < 1) m1))) a) (aA b hs)
  exact aQ t9 t10
 refine ⟨?_,fun p q hp hpq hq=>?_,fun p hp=>?_⟩
 . refine rwl e (rwl rl' ?_)
   have e1:arr.toList=arr.toList.take (sa+k)++((arr.extract (sa+k) (sa+na)).toList++(arr.extract (sa+na) (sa+na+m)).toList)++arr.toList.drop (sa+k+(na - k+m)):=by
    rw [Fo,Fo,eH]
    have d1:(arr.toList.drop (sa+k)).take (sa+na - (sa+k))++((arr.toList.drop (sa+na)).take m++arr.toList.drop (sa+k+(na - k+m)))=arr.toList.drop (sa+k):=by
     have d2:(arr.toList.drop (sa+na)).take m++arr.toList.drop (sa+k+(na - k+m))=arr.toList.drop (sa+na):=by
      have t11:arr.toList.drop (sa+na+m)=(arr.toList.drop (sa+na)).drop m:=by exact rwl nW rfl
      refine rwl (show sa+k+(na - k+m)=sa+na+m by exact Amg k1) (rwl t11 ?_);rw [eO]
     refine rwl d2 ?_
     have t12:arr.toList.drop (sa+na)=(arr.toList.drop (sa+k)).drop (sa+na - (sa+k)):=by exact rwl nW (rwl (show sa+k+(sa+na - (sa+k))=sa+na by exact (bG (aJ (aZ k1 _)))) rfl)
     refine rwl t12 ?_;rw [eO]
    rw [bJ,bJ];refine rwl d1 ?_;rw [eO]
   refine pH ?_ (lZ e1.symm)
   exact jW _ (kD _ pm)
 . by_cases c1:q < sa+k
   . refine rwl (low p (aR hpq c1)) (rwl (low q c1) ?_)
     exact s1 p q hp hpq (Ajr c1 k1 tl)
   by_cases c2:p < sa+k
   . refine rwl (low p c2) ?_
     by_cases c3:q < sa+na+m
     . refine rwl (mid q (aW.mp c1) c3) ?_
       rcases of (q - (sa+k)) (Ah4 c3 k1 rl rl' tl c1) with ⟨i,a,b,e⟩ | ⟨i,a,b,e⟩
       . refine rwl e ?_;exact s1 p i hp (aA c2 a) b
       . refine rwl e ?_;exact aA (kk p hp c2) (le2 _ _ (aN _) a (aA b (aP m2 _)))
     . refine rwl (upp q (aW.mp c3)) ?_
       exact aA (kk p hp c2) (le2 _ _ (aN _) (Ajs m1 rl rl' tl c3) (Ahq hq tl))
   by_cases c3:p < sa+na+m
   . refine rwl (mid p (aW.mp c2) c3) ?_
     by_cases c4:q < sa+na+m
     . refine rwl (mid q (aW.mp c1) c4) ?_
       exact sr.at (dG (aW.mp c2) (aA hpq (aD (bG (aW.mp c1)).symm))) (Ah4 c4 k1 rl rl' tl c1)
     . refine rwl (upp q (aW.mp c4)) ?_
       rcases of (p - (sa+k)) (Ah4 c3 k1 rl rl' tl c2) with ⟨i,a,b,e⟩ | ⟨i,a,b,e⟩
       . refine rwl e ?_;exact aB (le1 i (sa+na - 1) (aC (aG _ _) a) (bU b) (cS (aB (bH _) b) dF)) (mm q (aW.mp c4) (Ahq hq tl))
       . refine rwl e ?_;exact s2 i q a (aA b (aW.mp c4)) (Ahq hq tl)
   . refine rwl (upp p (aW.mp c3)) (rwl (upp q (aJ (aB (aW.mp c3) hpq))) ?_)
     exact s2 p q (Ajs m1 rl rl' tl c3) hpq (Ahq hq tl)
 . rcases hp with h | h
   . exact low p (aA h (aG _ _))
   . exact upp p (Ah3 h rl rl' tl m2)
theorem Ac4(s1:Asc sR arr sa na)(s2:Asc sR arr (sa+na) nb)(h1:1<=na)(h2:1<=nb)(h:sR (gt arr (sa+na - 1)) < sR (gt arr (sa+na))):Asc sR arr sa (na+nb):=by
 intro p q hp hpq hq;by_cases c1:q < sa+na
 . exact s1 p q hp hpq c1
 by_cases c2:p < sa+na
 . have a:sR (gt arr p)<=sR (gt arr (sa+na - 1)):=by
    by_cases e:p=sa+na - 1
    . refine rwl e ?_;exact aN _
    . exact aJ (s1 p _ hp (Amh h1 c2 e) (Ami c2))
   have b:sR (gt arr (sa+na))<=sR (gt arr q):=by
    by_cases e:q=sa+na
    . refine rwl e ?_;exact aN _
    . exact aJ (s2 _ q (aN _) (Amj c1 e) (Ajt hq))
   exact Amk h a b
 . exact s2 p q (Aml c2) hpq (Ajt hq)
theorem Uu(C:N5 sM sA sS sK sP sR)(inj:(sZ.toList.map sR).Nodup)(hB:Bg sK sZ st)(p1:(pendingOf st)[i]?=some (sa,na,pw))(p2:(pendingOf st)[i+1]?=some (sa+na,nb,pw'))(h1:1<=na)(h2:1<=nb)(hs:sa+na+nb<=sZ.size)(s1:Asc sR (arrOf st) sa na)(s2:Asc sR (arrOf st) (sa+na) nb)
 (q:∀ st',Bg sK sZ st'->pendingOf st'=((pendingOf st).setIfInBounds i (sa,na+nb,pw)).eraseIdxIfInBounds (i+1)->Asc sR (arrOf st') sa (na+nb)->(∀ p,p < sa\/sa+na+nb<=p->gt (arrOf st') p=gt (arrOf st) p)->Q true st'):wpS sM sA sE sS (mergeAt' i) Q st:=by
 have sz:=hB.size
 have ne:∀ i j,i < j->j < (arrOf st).size->sR (gt (arrOf st) i)≠sR (gt (arrOf st) j):=fun i j a b=>hB.ne inj a (aA b (aD sz))
 delta mergeAt'
 k_delta "mergeAt"
 refine N6 ?_
 simp -zeta only [p1,p2]
 refine dL (Agj fun st1 e1 e2 e3 e4=>?_)
 have B1:Bg sK sZ st1:=⟨e1.trans hB.kind,e4.trans hB.fail,by refine rwl e2 ?_;exact hB.perm⟩
 have P1:pendingOf st1=((pendingOf st).setIfInBounds i (sa,na+nb,pw)).eraseIdxIfInBounds (i+1):=e3
 have A1:arrOf st1=arrOf st:=e2
 clear e1 e2 e3 e4
 have fin:sR (gt (arrOf st) (sa+na - 1))<=sR (gt (arrOf st) (sa+na))->Q true st1:=fun h=>q st1 B1 P1 (by refine rwl A1 ?_;exact Ac4 s1 s2 h1 h2 (by have t13:=ne (sa+na - 1) (sa+na) (cS (aA (aA (by decide:0 < 1) h1) (cE _ _)) dF) (Aju hs h2 sz);exact aQ h t13)) fun p _=>by exact rwl A1 rfl
 refine Cw (show sa+na < (arrOf st).size by exact Aju hs h2 sz) (Uo C B1.kind (hB.mem (aA (bX (aA (by decide:0 < 1) h2)) hs)) (show sa+na<=(arrOf st).size by exact Ah5 hs h2 sz) (fun i hi=>hB.mem (aA (aA hi (aG _ _)) hs)) s1 (Ajv h1) fun k k1 k2 k3=>?_)
 dsimp -zeta only
 have k2:∀ i,i < k->sR (gt (arrOf st) (sa+i))<=sR (gt (arrOf st) (sa+na)):=k2
 have k3:∀ i,k<=i->i < na->sR (gt (arrOf st) (sa+na)) < sR (gt (arrOf st) (sa+i)):=k3
 refine E3 (fun c1=>aY (fin ?_)) fun c1=>?_
 . have a:=k2 (na - 1) (aA (cS h1 dF) (kW.mp c1))
   rwa [show sa+(na - 1)=sa+na - 1 by exact Amm h1] at a
 have c1:k < na:=by exact Nat.lt_of_sub_pos (fG c1)
 refine rwl (show sa+k+(na - k) - 1=sa+na - 1 by exact Amn h1 c1) ?_
 refine Cw (show sa+na - 1 < (arrOf st).size by exact aA (aA (aB (eG _ _) (bX (aA (by decide:0 < 1) h2))) hs) (aD sz.symm)) (Uo C B1.kind (hB.mem (aA (aB (eG _ _) (bX (aA (by decide:0 < 1) h2))) hs)) (show sa+na+nb<=(arrOf st).size by exact Ajw hs sz) (fun i hi=>hB.mem (aA hi hs)) s2 (o79 h2) fun m m1 m2 m3=>?_)
 dsimp -zeta only
 have m2:∀ i,i < m->sR (gt (arrOf st) (sa+na+i)) < sR (gt (arrOf st) (sa+na - 1)):=m2
 have m3:∀ i,m<=i->i < nb->sR (gt (arrOf st) (sa+na - 1))<=sR (gt (arrOf st) (sa+na+i)):=m3
 refine E3 (fun c2=>aY (fin (m3 0 (aD c2) (Ajv h2)))) fun c2=>?_
 have c2:1<=m:=by exact fG c2
 have z1:((arrOf st).extract (sa+k) (sa+na)).size=na - k:=by refine rwl (G4 (Ah5 hs h2 sz)) ?_;exact (lM _ _ _)
 have z2:((arrOf st).extract (sa+na) (sa+na+m)).size=m:=by refine rwl (G4 (aC (aC (aP m1 _) hs) (aD sz.symm))) ?_;exact eH ..
 have g1:∀ p,p < na - k->gt ((arrOf st).extract (sa+k) (sa+na)) p=gt (arrOf st) (sa+k+p):=fun p hp=>Q8 (Ajx hp c1) (Ah5 hs h2 sz)
 have g2:∀ p,p < m->gt ((arrOf st).extract (sa+na) (sa+na+m)) p=gt (arrOf st) (sa+na+p):=fun p hp=>Q8 (cT (aN _) hp) (aC (aC (aP m1 _) hs) (aD sz.symm))
 have T:Two sP sR ((arrOf st).extract (sa+k) (sa+na)) ((arrOf st).extract (sa+na) (sa+na+m)):=by
  refine ⟨Un fun i j hij hj=>?_,Un fun i j hij hj=>?_,fun i hi=>?_,fun i hi=>?_,fun i j hi hj=>?_,by exact cH (dY c1) z1.symm,by exact aC c2 (aD z2.symm),?_,?_⟩
  . rw [z1] at hj
    refine rwl (g1 i (aR hij hj)) (rwl (g1 j hj) ?_);exact s1 _ _ (aC (aG _ _) (aG _ _)) (Ajy hij) (Ajx hj c1)
  . rw [z2] at hj
    refine rwl (g2 i (aR hij hj)) (rwl (g2 j hj) ?_);exact s2 _ _ (aG _ _) (Ajy hij) (cT (aN _) (aA hj m1))
  . rw [z1] at hi
    refine rwl (g1 i hi) ?_;exact hB.mem (Amo hs c2 hi c1 sz z2 m1)
  . rw [z2] at hi
    refine rwl (g2 i hi) ?_;exact hB.mem (aA (aZ (aA hi m1) _) hs)
  . rw [z1] at hi
    rw [z2] at hj
    refine rwl (g1 i hi) (rwl (g2 j hj) ?_);exact ne _ _ (Amp hi c1) (aA (aA (aZ (aA hj m1) _) hs) (aD sz.symm))
  . refine rwl (g1 0 (gQ (aB (aD (cN _)) c1))) (rwl (g2 0 (aA (by decide:0 < 1) c2)) ?_);exact k3 k (aN _) c1
  . refine rwl z1 (rwl z2 (rwl (g1 _ (cS (gQ (aB (aD (cN _)) c1)) dF)) (rwl (g2 _ (Ajz c2 z2)) (rwl (show sa+k+(na - k - 1)=sa+na - 1 by exact Amq h1 c1) ?_))));exact m2 (m - 1) (Ajz c2 z2)
 -- what is merged is put back
 have back:∀ (r:Array Keyed) (st2:cO),Same st1 st2->Ch sR ((arrOf st).extract (sa+k) (sa+na)) ((arrOf st).extract (sa+na) (sa+na+m)) r ->
  Q true (iI (kindOf st2) (r.toList.zipIdx.foldl (fun a (x:Keyed × Nat)=>a.setIfInBounds (sa+k+x.2) x.1) (arrOf st2)) (pendingOf st2) (gallopOf st2) (failedOf st2))/\failedOf st2=none:=by
  intro r st2 sm sM
  have ea:arrOf st2=arrOf st:=sm.arr.trans A1
  have rl:r.toList.length=(na - k)+m:=by
   have t14:=sM.1.length_eq
   rw [aK] at t14
   have e1:((arrOf st).extract (sa+k) (sa+na)).toList.length=na - k:=z1
   have e2:((arrOf st).extract (sa+na) (sa+na+m)).toList.length=m:=z2
   exact Amr t14 e1 z2 e2
  have e:=Ac3 r.toList (sa+k) 0 (arrOf st2) (by refine rwl ea (rwl rl ?_);exact Ams hs c1 rl sz z2 m1)
  rw [ea,mK] at e
  refine Ap (Ys (arr':=r.toList.zipIdx.foldl (fun a (x:Keyed × Nat)=>a.setIfInBounds (sa+k+x.2) x.1) (arrOf st)) ne s1 s2 (Ajw hs sz) c1 k2 c2 m1 m3 sM e) fun q1 q2 q3=>?_
  refine rwl ea ?_
  exact ⟨q _ ⟨sm.kind.trans B1.kind,sm.fail.trans B1.fail,q1.trans hB.perm⟩ (sm.pend.trans P1) q2 q3,sm.fail.trans B1.fail⟩
 extract_lets -underBinder +onlyGivenNames x y jp
 have hj:∀ r st2,Same st1 st2->Ch sR x y r->wpS sM sA sE sS (jp r) Q st2:=fun r st2 sm sM=>by
  obtain ⟨q1,q2⟩:=back r st2 sm sM
  refine dL (mS (N6 (aY ?_)))
  show Q (failedOf st2).isNone _
  refine rwl q2 ?_;exact q1
 exact D8 (fun _=>dL (Up C T B1.kind hj)) fun _=>dL (Us C T B1.kind hj)
end
section
variable{st:cO}
noncomputable def Md(ρ:Keyed->Nat)(arr:Array Keyed):List (Nat × Nat)->Nat->Nat->Prop
 | [],a,b=>a=b
 | x :: l,a,b=>x.1=a/\1<=x.2/\Asc ρ arr a x.2/\Md ρ arr l (a+x.2) b
theorem Md.le:∀ {l:List (Nat × Nat)} {a b:Nat},Md sR arr l a b->a+l.length<=b:=by
 intro l;induction l with
 | nil=>intro a b h;exact aD h
 | cons x l ihh =>intro a b h;have t1:=ihh h.2.2.2;have t2:=h.2.1;refine rwl cM ?_;exact Amt t1 t2
theorem Md.congr:∀ {l:List (Nat × Nat)} {a b:Nat},(∀ p,a<=p->p < b->gt arr' p=gt arr p)->Md sR arr l a b->Md sR arr' l a b:=by
 intro l;induction l with
 | nil=>intro a b _ h;exact h
 | cons x l ihh =>intro a b e h;have le:=Md.le h.2.2.2;refine ⟨h.1,h.2.1,fun p q hp hpq hq=>?_,ihh (fun p hp hp'=>e p (Amu hp) hp') h.2.2.2⟩;refine rwl (e p hp (aA (aA (aR hpq hq) (aG _ _)) le)) (rwl (e q (aJ (aB hp hpq)) (aA (aA hq (aG _ _)) le)) ?_);exact h.2.2.1 p q hp hpq hq
theorem Md.split:∀ {l l':List (Nat × Nat)} {a b:Nat},Md sR arr (l++l') a b->∃ m,Md sR arr l a m/\Md sR arr l' m b:=by
 intro l;induction l with
 | nil=>intro l' a b h;exact ⟨a,rfl,h⟩
 | cons x l ihh =>intro l' a b h;obtain ⟨m,h3⟩:=ihh h.2.2.2;exact ⟨m,⟨h.1,h.2.1,h.2.2.1,h3.1⟩,h3.2⟩
theorem Md.join:∀ {l l':List (Nat × Nat)} {a m b:Nat},Md sR arr l a m->Md sR arr l' m b->Md sR arr (l++l') a b:=by
 intro l;induction l with
 | nil=>intro l' a m b h h';exact (show a=m from h)▸h'
 | cons x l ihh=>intro l' a m b h h';exact ⟨h.1,h.2.1,h.2.2.1,ihh h.2.2.2 h'⟩
noncomputable def rn(P:Array (Nat × Nat × Nat)):List (Nat × Nat):=P.toList.map fun x=>(x.1,x.2.1)
theorem Uv(P:Array (Nat × Nat × Nat)):(rn P).length=P.size:=by unfold rn;rw [aM];rfl
theorem Ac5(P:Array (Nat × Nat × Nat))(a b c:Nat):rn (P.push (a,b,c))=rn P++[(a,b)]:=by unfold rn;refine rwl hZ (rwl cD ?_);rfl
theorem Uw(P:Array (Nat × Nat × Nat))(i:Nat)(h:∀ x,((f x).1,(f x).2.1)=(x.1,x.2.1)):rn (P.modify i f)=rn P:=by
 unfold rn;refine rwl Array.toList_modify ?_;refine eZ fun j=>?_;refine rwl aX (rwl aX ?_);rw [List.getElem?_modify];cases P.toList[j]? with
 | none=>rfl
 | some x =>
  show some _=some _;by_cases e:i=j
  . simp only [e,if_true];exact congrArg some (h x)
  . simp only [e,if_false]
theorem Yt(h:i+1 < P.size):∃ l1 l2 sa na p sb nb p',P[i]?=some (sa,na,p)/\P[i+1]?=some (sb,nb,p')/\rn P=l1++(sa,na) :: (sb,nb) :: l2/\∀ z,rn ((P.setIfInBounds i z).eraseIdxIfInBounds (i+1))=l1++(z.1,z.2.1) :: l2:=by
 have hl:i+1 < P.toList.length:=h;have e1:P[i]?=some P[i]:=cY (Ahr h);have e2:P[i+1]?=some P[i+1]:=cY h;have e:P.toList=P.toList.take i++P[i] :: P[i+1] :: P.toList.drop (i+2):=by have a:P.toList.drop i=P[i] :: P.toList.drop (i+1):=fJ (Ahr hl);have b:P.toList.drop (i+1)=P[i+1] :: P.toList.drop (i+2):=fJ hl;refine rwr b (rwr a ?_);rw [eO]
 have tl:(P.toList.take i).length=i:=by refine rwl fC ?_;exact (eK (aJ (aR (bQ _) hl)))
 refine ⟨(P.toList.take i).map fun x=>(x.1,x.2.1),(P.toList.drop (i+2)).map fun x=>(x.1,x.2.1),P[i].1,P[i].2.1,P[i].2.2,P[i+1].1,P[i+1].2.1,P[i+1].2.2,e1,e2,?_,fun z=>?_⟩
 . show P.toList.map _=_;refine rwl e (rwl cD ?_);refine rwr e ?_;rfl
 . show mG _ ((P.setIfInBounds i z).eraseIdxIfInBounds (i+1)).toList=_;refine rwl Array.toList_eraseIdxIfInBounds (rwl nR ?_);have e3:(P.toList.set i z).eraseIdx (i+1)=P.toList.take i++z :: P.toList.drop (i+2):=by rw [mL];refine rwl mF (rwl (pQ (aN _)) (rwl (dA (aR (bQ _) hl)) (rwl (pS (aR (bQ _) (bQ _))) ?_)));rw [bJ];rfl
   refine rwl e3 (rwl cD ?_);rfl
structure Ok(κ:nN)(ρ:Keyed->Nat)(a₀:Array Keyed)(top:Nat)(st:cO):Prop where
 bg:Bg κ a₀ st
 runs:Md ρ (arrOf st) (rn (pendingOf st)) 0 top
 le:top<=a₀.size
theorem Ux(C:N5 sM sA sS sK sP sR)(inj:(sZ.toList.map sR).Nodup)(O:Ok sK sR sZ top st)(hi:i+1 < (pendingOf st).size)
 (q:∀ st',Ok sK sR sZ top st'->(pendingOf st').size+1=(pendingOf st).size->(∀ p,top<=p->gt (arrOf st') p=gt (arrOf st) p)->Q true st'):wpS sM sA sE sS (mergeAt' i) Q st:=by
 refine ex8 (Yt hi) fun l1 l2 sa na pw sb nb pw' zz=>Cf zz fun p1 p2 e e'=>?_;have r:=O.runs;rw [e] at r;refine ex1 r.split fun m zz=>Ad zz fun r1 zz=>Cf zz fun h0 h1 h2 zz=>Cf zz fun h3 h4 h5 r2=>?_;dsimp only at h0 h1 h2 h3 h4 h5 r2;subst h0;subst h3;have le:=r2.le;have hle:=O.le;refine Uu C inj O.bg p1 p2 h1 h4 (Aj0 le hle) h2 h5 fun st' B P as kp=>q st' ⟨B,?_,hle⟩ ?_ fun p hp=>kp p (.inr (Aj0 le hp))
 . refine rwl P ?_;rw [e'];refine Md.join (r1.congr fun p _ hp=>kp p (.inl hp)) ⟨rfl,by show 1<=na+nb;exact aC h4 (cE _ _),as,?_⟩;show Md sR (arrOf st') l2 (sa+(na+nb)) top;rw [<- cX];exact r2.congr fun p hp _=>kp p (.inr hp)
 . have a1:=congrArg hU e;have a2:=congrArg hU (e' (sa,na+nb,pw));rw [Uv] at a1 a2;refine rwl P ?_;simp only [aK,cM] at a1 a2;exact (congrArg (·+1) a2).trans a1.symm
theorem Q9{β:Type}{f:PUnit->StateT cO Sem β}{Q:β->cO->Prop}(h:wpS sM sA sE sS (f ⟨⟩) Q (g st)):wpS sM sA sE sS (modify g>>=f) Q st:=dL (mS h)
theorem Ai6{β:Type}{m1 m2:StateT cO Sem β}{Q:β->cO->Prop}(h:wpS sM sA sE sS m2 Q st):wpS sM sA sE sS (if (!true)=true then m1 else m2) Q st:=h
theorem Agk{c:Prop}[Decidable c](h:2<=n):(if c then n - 2 - 1 else n - 2)+1 < n:=by
 by_cases q:c
 . refine rwl (if_pos q) ?_;exact aB (eW (eG _ _) 1) (cH (bQ _) (dQ h))
 . refine rwl (if_neg q) ?_;exact cH (bQ _) (dQ h)
theorem Ac6:Sc (sM,sA,sE,sS,sK,sR,sZ):=by
 intro C inj h2 st Q B0 P0 q;have h2:2<=sZ.size:=h2;have B0:Bg sK sZ st:=B0;delta sortRuns';k_delta "sortRuns";refine N6 ?_;extract_lets -underBinder +onlyGivenNames size mr lo0;have sz:size=sZ.size:=B0.size;clear_value size mr;subst sz;refine G8 (fun x c st'=>c.1=none/\Ok sK sR sZ c.2 st'/\x<=c.2) (fun c st'=>c.1=none/\Ok sK sR sZ sZ.size st') ⟨rfl,⟨B0,by refine rwl P0 ?_;rfl,bH _⟩,aN _⟩ ?step ?fin ?post;case fin =>
  intro c st' h;have e:c.2=sZ.size:=cP h.2.1.le (aC (eS 0 _) h.2.2);exact ⟨h.1,e▸h.2.1⟩
 case step =>
  intro x c st1 _ hx h R R1 R2;extract_lets -underBinder +onlyGivenNames lo;have O:Ok sK sR sZ lo st1:=h.2.1;have hl:x<=lo:=h.2.2;clear_value lo;have le:=O.le;refine D8 (fun c=>aY (R2 _ _ ⟨rfl,(show lo=sZ.size by exact cP le c)▸O⟩)) fun c=>Se C inj O.bg (show lo+(sZ.size - lo)=sZ.size by exact (bG (aJ (eR.mp c)))) (gL (eR.mp c)) fun n st2 B2 pe kp n1 n2 asc=>?_;have O2:Ok sK sR sZ lo st2:=⟨B2,by refine rwl pe ?_;exact O.runs.congr fun p _ hp=>kp.low p hp,le⟩;clear O pe kp B2;dsimp -zeta only;extract_lets -underBinder +onlyGivenNames n' jp;have hj:∀ n st,Ok sK sR sZ lo st->1<=n->lo+n<=sZ.size->Asc sR (arrOf st) lo n->wpS sM sA sE sS (jp () n) R st:=by
   clear asc n1 n2 O2;intro n st O n1 n2 asc;refine N6 ?_;extract_lets -underBinder +onlyGivenNames jp2;have hj:∀ st,Ok sK sR sZ lo st->Asc sR (arrOf st) lo n->wpS sM sA sE sS (jp2 ()) R st:=fun st O asc=>by refine Q9 (aY (R1 _ _ ⟨rfl,⟨⟨O.bg.kind,O.bg.fail,O.bg.perm⟩,?_,n2⟩,by show x+1<=lo+n;exact eB hl n1⟩));show Md sR (arrOf st) (rn ((pendingOf st).push (lo,n,0))) 0 (lo+n);rw [Ac5];exact O.runs.join ⟨rfl,n1,asc,rfl⟩
   clear_value jp2;generalize (pendingOf st).back?=bk;rcases bk with _ | ⟨s1,k1,pz⟩
   . exact hj st O asc
   refine G8 (fun _ c st'=>c.1=none/\Ok sK sR sZ lo st'/\Asc sR (arrOf st') lo n) (fun c st'=>c.1=none/\Ok sK sR sZ lo st'/\Asc sR (arrOf st') lo n) ⟨rfl,O,asc⟩ ?step2 (fun _ _ h=>h) ?post2;case post2 =>
    rintro ⟨_,_⟩ st4 ⟨rfl,O4,asc4⟩;refine Q9 (hj _ ⟨⟨O4.bg.kind,O4.bg.fail,O4.bg.perm⟩,?_,le⟩ asc4);show Md sR (arrOf st4) (rn ((pendingOf st4).modify ((pendingOf st4).size - 1) _)) 0 lo;rw [Uw]
    . exact O4.runs
    . exact fun _=>rfl
   case step2 =>
    rintro y _ st4 _ _ ⟨_,O4,asc4⟩ R' S1 S2;refine N6 ?_;by_cases c2:(pendingOf st4).size > 1
    . have e1:(pendingOf st4)[(pendingOf st4).size - 2]?=some (pendingOf st4)[(pendingOf st4).size - 2]:=cY (cS (fN c2) jY);obtain ⟨z1,z2,z3⟩:=(pendingOf st4)[(pendingOf st4).size - 2];simp only [if_pos c2,e1];exact D8 (fun _=>aY (S2 _ _ ⟨rfl,O4,asc4⟩)) fun _=>dL (Ux C inj O4 (show (pendingOf st4).size - 2+1 < (pendingOf st4).size by exact cH (bQ _) (dQ c2)) fun st5 O5 _ kp=>Ai6 (aY (S1 _ _ ⟨rfl,O5,fun p q hp hpq hq=>by refine rwl (kp p hp) (rwl (kp q (aJ (aB hp hpq))) ?_);exact asc4 p q hp hpq hq⟩)))
    . simp only [if_neg c2];exact aY (S2 _ _ ⟨rfl,O4,asc4⟩)
  refine D8 (fun c1=>Ma (dL (Ut C inj O2.bg (n:=min (sZ.size - lo) mr) (Aj1 c) n1 (oB.mpr ⟨n2,aJ c1⟩) asc fun st3 B3 pe kp asc3=>Ai6 (hj _ _ ⟨B3,by refine rwl pe ?_;exact O2.runs.congr fun p _ hp=>kp.low p hp,le⟩ (by have t5:n < mr:=c1;exact oB.mpr ⟨aC n1 n2,aC n1 (aJ c1)⟩) (Aj1 c) asc3)))) fun c1=>hj _ _ O2 n1 (gN le n2) asc
 case post =>
  rintro ⟨_,_⟩ st1 ⟨rfl,O⟩;have pl:(pendingOf st1).size<=sZ.size:=by have t6:=O.runs.le;rw [Uv] at t6;exact aC (cE _ _) t6
  refine G8 (fun x c st'=>c.1=none/\Ok sK sR sZ sZ.size st'/\((pendingOf st').size<=1\/(pendingOf st').size<=sZ.size - x)) (fun c st'=>c.1=none/\Ok sK sR sZ sZ.size st'/\(pendingOf st').size<=1) ⟨rfl,O,.inr pl⟩ ?step3 ?fin3 ?post3;case step3 =>
   rintro x c st2 _ hx ⟨_,O2,p2⟩ R R1 R2;refine N6 (D8 (fun c=>aY (R2 _ _ ⟨rfl,O2,c⟩)) fun c=>?_);have c:¬(pendingOf st2).size<=1:=c;exact dL (Ux C inj O2 (Agk (n:=(pendingOf st2).size) (eR.mp c)) fun st3 O3 e _=>Ai6 (aY (R1 _ _ ⟨rfl,O3,.inr (bU (aC (aD e) (p2.resolve_left c)))⟩)))
  case fin3=>exact fun c st2 h=>⟨h.1,h.2.1,by have t7:=h.2.2;exact Amv t7 h2⟩
  case post3 =>
   rintro ⟨_,_⟩ st2 ⟨rfl,O2,p2⟩;refine aY (q st2 O2.bg ?_);have r:=O2.runs;have rl:=Uv (pendingOf st2);cases hr:rn (pendingOf st2) with
   | nil =>rw [hr] at r;have r:0=sZ.size:=r;exact (Amw r h2).elim
   | cons z l =>
    rw [hr] at r rl;refine Cf r fun r0 r1 r2 r3=>?_;cases l with
    | nil =>have r3:0+z.2=sZ.size:=r3;rw [cN] at r3;refine rwr r3 ?_;exact r2
    | cons z' l' =>rw [cM,cM] at rl;exact (Amx rl p2).elim
end
theorem Agl{M:Model}{st:cO}(C:N5 M A s κ (·∈a₀.toList) ρ)(inj:(a₀.toList.map ρ).Nodup)(h2:2<=a₀.size)(B0:Bg κ a₀ st)(P0:pendingOf st=#[])(q:∀ st',Bg κ a₀ st'->Asc ρ (arrOf st') 0 a₀.size->Q () st'):wpS M A E s sortRuns' Q st:=Yk Ac6 (M,A,E,s,κ,ρ,a₀) C inj h2 B0 P0 q
end Mine.Internal
namespace Mine.Internal
open PySem PySem.W PyProof.Rows
section
theorem Yu(vs:List Value)(h:vs.length < 2):(vs.toArray.zip vs.toArray).map (·.2)=kN vs:=by
 apply mP.mp;cases vs with
 | nil=>simp
 | cons v l =>
  cases l with
  | nil=>simp
  | cons _ _=>exact absurd h (by simp)
set_option backward.match.sparseCases true in
theorem Ac7{P:PySem.Fin->bD->Prop}{G:List Value->Prop}(ho:s.heap.get? a=some (B4 vs n))(h64:vs.length<=1000)
 (small:vs.length < 2->G vs)
 (ask:∀ h',(∀ b o,b≠a->s.heap.get? b=some o->h'.get? b=some o)->2<=vs.length->∀ (Q:nN->bD->Prop),(∀ κ,(∀ st:cO,arrOf st=vs.toArray.zip vs.toArray->kindOf st=κ->pendingOf st=#[]->failedOf st=none->wpS (model cx.prog cx.w) A E { s with heap:=h' } sortRuns' (fun _ st'=>failedOf st'=none/\∃ ws,G ws/\ws.length=vs.length/\(arrOf st').map (·.2)=kN ws) st)->Q κ { s with heap:=h' })->wpAny (model cx.prog cx.w) A (keyKind' vs.toArray) Q E { s with heap:=h' })
 (k:∀ h' ws c,G ws->(∀ b o,b≠a->s.heap.get? b=some o->h'.get? b=some o)->h'.get? a=some (B4 ws c)->P (.done (.ret .none)) { s with heap:=h' }) :
 wpAny (model cx.prog cx.w) A (Builtin.«list.sort» ⟨[.ref a],[]⟩) P E s:=by
 have ha:a < s.heap.objs.size:=gS ho;have s1:=eT s.heap a (eE fun _=>(#[]:Array Value));obtain ⟨e1,ho1⟩:∃ e1,(s.heap.update a (eE fun _=>(#[]:Array Value))).get? a=some (B4 [] e1):=⟨_,tD ho fun _=>#[]⟩;have kp:∀ b o,b≠a->s.heap.get? b=some o->(((s.heap.update a (eE fun _=>(#[]:Array Value))).push (seqObj "tuple" vs.toArray 0)).push (seqObj "list" #[] 0)).get? b=some o:=fun b o nb e=>bR _ (bR _ (s1.extBut b o nb e));have g1:(((s.heap.update a (eE fun _=>(#[]:Array Value))).push (seqObj "tuple" vs.toArray 0)).push (seqObj "list" #[] 0)).get? a=some (B4 [] e1):=bR _ (bR _ ho1);generalize hh:((s.heap.update a (eE fun _=>(#[]:Array Value))).push (seqObj "tuple" vs.toArray 0)).push (seqObj "list" #[] 0)=h1 at kp g1;have last:∀ (ws:List Value) (st':cO),G ws->ws.length=vs.length->(arrOf st').map (·.2)=kN ws->failedOf st'=none->wpAny (model cx.prog cx.w) A (do
  let sorted:=(arrOf st').map (·.2)
  let touched:=(<- seqEpoch a) != e1
  uD (.ref a) fun _=>sorted
  if let some e:=failedOf st' then rule "list.sort.comparison-raised";throw e
  if touched then rule "list.sort.modified";raiseError "ValueError" "list modified during sort"
  ret .none) P E { s with heap:=h1 }:=by
  intro ws st' hG hp hout hf
  refine rwl hout ?_
  dsimp only
  refine aF (seqEpoch_at g1 rfl ?_)
  have hsz:(kN ws).size=vs.length:=by exact rwl dN (rwl hp rfl)
  refine aF (listUpdate_at g1 rfl ?_ (bH _) (aC (aD hsz) (by refine rwl eC ?_;exact aJ (aB h64 (by decide:1000 < (16777216+1))))))
  refine rwl hf ?_
  simp only [bne_self_eq_false,fF,if_false]
  refine aU (k _ ws _ hG (fun b o nb e=>(fB _ _ (gO nb)).trans (kp b o nb e)) (tD g1 fun _=>kN ws))
 rw [list_sort_plain];refine aF (listItems_at ho rfl ?_);refine aF (listUpdate_at ho rfl ?_ (by refine rwl dN (rwl eC ?_);exact o27 h64) (bH _));refine aF (seqEpoch_at ho1 rfl ?_);refine aF (wpAny_newTuple ?_ (by show vs.length<=_;refine rwl eC ?_;exact o27 h64));refine aF (wpAny_newList ?_ (bH _));refine eY ?_;show wpAny (model cx.prog cx.w) A _ P E { s with heap:=((s.heap.update a (eE fun _=>(#[]:Array Value))).push (seqObj "tuple" vs.toArray 0)).push (seqObj "list" #[] 0) };refine rwl hh ?_;dsimp only;by_cases h2:vs.toArray.size < 2
 . refine rwl (if_pos h2) (rwl (if_pos h2) ?_);rw [dN] at h2;refine aF (aU ?_);refine aF (aU ?_);exact last vs _ (small h2) rfl (Yu vs h2) rfl
 . refine rwl (if_neg h2) (rwl (if_neg h2) ?_);have h2':2<=vs.length:=by rw [dN] at h2;exact aW.mp h2
   refine aF (ask h1 kp h2' _ fun κ hk=>?_);refine aF (aL (hk _ rfl rfl rfl rfl) ?_ fun _ _ e=>e);rintro ⟨⟨⟩,st'⟩ s' ⟨hr0,hf,ws,hG,hl,har⟩;refine rwl hr0 ?_;exact last ws st' hG hl har hf
theorem Ac8(R:Rel H ρ s)(hk:A.units+20+k < cLine)(hQ:Q r s)(ms:List Val):∀ (ks:List Val) (vs ws:List Value) (i:Nat),VRs ρ s.heap ms vs->VRs ρ s.heap ks ws->lts (Ga []) (Lq k) ms ks=some r ->
 (i=0->∃ x y ms' ks',ms=.int x :: ms'/\ks=.int y :: ks')->KatLex cx.prog cx.w A true (decide (i+ms.length < i+ks.length)) Q (vs.zip ws) i s:=by
 induction ms with
 | nil =>
  intro ks vs ws i q1 q2 h _;cases q1;cases ks with
  | nil =>cases h;refine rwl (decide_eq_false (cA _)) ?_;exact hQ
  | cons y ks =>cases h;have:decide (i+([]:List Val).length < i+(y :: ks).length)=true:=decide_eq_true (bX (kT _));refine rwl this ?_;exact hQ
 | cons x ms ih =>
  intro ks vs ws i q1 q2 h hi;cases q1 with
  | cons a1 q1 =>
   cases q2 with
   | nil =>cases h;have:decide (i+(x :: ms).length < i+([]:List Val).length)=false:=decide_eq_false (aW.mpr (aG i _));refine rwl this ?_;exact hQ
   | @cons y _ ks _ a2 q2 =>
    refine kat_cons ?_;rcases Qo h with ⟨he,hl⟩ | ⟨he,hl⟩
    . refine H9 R a1 a2 (eq_nil he) (Aj2 hk) ?_;refine kat_yes ?_;have:=ih ks _ _ (i+1) q1 q2 hl (fun q=>absurd q (mV _));rw [cQ i 1,cQ i 1] at this;exact this
    . refine H9 R a1 a2 (eq_nil he) (Aj2 hk) ?_;refine kat_no ?_;by_cases q:i=0
      . refine ex4 (hi q) fun u v _ _ zz=>Ad zz fun e1 e2=>?_;cases e1;cases e2;obtain ⟨t,hr0⟩:=a1.int_inv;refine rwl hr0 ?_;obtain ⟨t',hr1⟩:=a2.int_inv;refine rwl hr1 ?_;refine rwl q ?_;have hr:r=decide (u < v):=by
         cases k with
         | zero=>cases hl
         | succ k=>exact (aO hl).symm
        exact oneLt_int (by refine rwr hr ?_;exact hQ)
      . refine rwl (show (true && i == 0)=false by simp [q]) ?_;exact kat_one _ _ (Aak R k A _ _ _ _ r _ _ a1 a2 hl (by assumption) hQ)
theorem Ac9(y:VRs ρ h ms vs)(hm:∀ x∈ms,∃ i r,x=.tup (.int i :: r)):∃ fs,KatTups h vs fs/\fs.length=vs.length/\∀ f∈fs,∃ i t,f=.int i t:=by
 induction ms generalizing vs with
 | nil=>cases y;exact ⟨[],trivial,rfl,fun f hf=>by cases hf⟩
 | cons m ms ih =>
  cases y with
  | cons a r =>
   refine Ae fun G kG=>?_;refine ex1 (ih r fun x hx=>hm x (.tail _ hx)) fun fs zz=>Ap zz fun h1 h2 h3=>?_;refine ex2 (hm _ (.head _)) fun i q zr2=>?_;subst zr2;refine ex3 a.tup_inv fun p vs n zz=>Ap zz fun zr3 g r=>?_;subst zr3;refine kG ?_;cases r with
   | cons b r =>
    obtain ⟨t,rfl⟩:=b.int_inv;refine ⟨.int i t :: fs,KatTups.cons g rfl rfl rfl h1,congrArg rR h2,fun f hf=>?_⟩;cases hf with
    | head=>exact ⟨i,t,rfl⟩
    | tail _ hf=>exact h3 f hf
theorem Na{α:Type}:∀ l:List α,l.zip l=l.map fun v=>(v,v)
 | []=>rfl
 | v :: l=>congrArg ((v,v) :: ·) (Na l)
theorem Pt{α:Type}{p q:α->Bool}{a:α}(h1:p a=false)(h2:q a=true):∀ {l:List α},(∀ x∈l,p x=true->q x=true)->a∈l->l.countP p < l.countP q:=by
 intro l h ha;induction ha with
 | head l =>refine rwl (oL (by rw [h1];exact dH)) (rwl (kH h2) ?_);exact iD (oW fun x hx=>h x (.tail _ hx))
 | tail x _ ihh =>
  have k:=ihh fun x hx=>h x (.tail _ hx);cases z:p x with
  | false=>refine rwl (oL (by rw [z];exact dH)) ?_;exact aA k (by refine rwl List.countP_cons ?_;exact aG ..)
  | true=>refine rwl (kH z) (rwl (kH (h x (.head _) z)) ?_);exact gT k
theorem Nb(O:Order xs lt)(hx:x∈xs)(hy:y∈xs):decide (xs.countP (fun z=>lt z x) < xs.countP fun z=>lt z y)=lt x y:=by
 cases h:lt x y with
 | true =>
  refine decide_eq_true (Pt (a:=x) ?_ h (fun z hz q=>?_) hx)
  . cases q:lt x x with
    | false=>rfl
    | true=>rw [O.asym x hx x hx q] at q;exact nomatch q
  . cases w:lt z y with
    | true=>rfl
    | false=>rw [O.tr x hx y hy z hz (O.asym x hx y hy h) w] at q;exact nomatch q
 | false =>
  refine decide_eq_false (aW.mpr (oW fun z hz q=>?_));cases w:lt z x with
  | true=>rfl
  | false=>rw [O.tr y hy x hx z hz h w] at q;exact nomatch q
open Classical in
noncomputable def idx(vs:List Value)(v:Value):Nat:=if h:∃ i:Nat,vs[i]?=some v then h.choose else 0
theorem Agm{i:Nat}(h:vs[i]?=some v):vs[idx vs v]?=some v:=by have q:∃ i:Nat,vs[i]?=some v:=⟨i,h⟩;unfold idx;refine rwl (dif_pos q) ?_;exact q.choose_spec
theorem VR.key_inj(x:VR ρ h (Aa k) v)(y:VR ρ h (Aa k') v):k=k':=by
 refine Ae fun G kG=>?_;refine ex3 x.tup_inv fun p vs n zz=>Ap zz fun e g r=>?_;refine ex3 y.tup_inv fun p' vs' n' zz=>Ap zz fun e' g' r'=>?_;refine ex2 r.two_inv fun a b zz=>Ap zz fun e1 q1 q2=>?_;refine ex2 r'.two_inv fun a' b' zz=>Ap zz fun e2 q3 q4=>?_;refine kG ?_;rw [e] at e';cases e';rw [g] at g';have ev:vs=vs':=by have:=congrArg Obj.data (aO g');injection this with this _;exact congrArg Array.toList this
 rw [e1,e2] at ev;obtain ⟨t1,f1⟩:=q1.int_inv;obtain ⟨t2,f2⟩:=q2.int_inv;obtain ⟨t3,f3⟩:=q3.int_inv;obtain ⟨t4,f4⟩:=q4.int_inv;rw [f1,f2,f3,f4] at ev;injection ev with ev1 ev2;injection ev2 with ev2 _;injection ev1 with ev1 _;injection ev2 with ev2 _;exact iY ev1 ev2
section
noncomputable def vat(xs:List Val)(vs:List Value)(v:Value):Val:=xs.getD (idx vs v) .none
theorem Aap(r:VRs ρ h xs vs)(kind:∀ x∈xs,∃ k:Key,x=Aa k){i:Nat}(hv:vs[i]?=some v)(hx:xs[i]?=some x):vat xs vs v=x:=by
 refine ex1 (r.get' (Agm hv)) fun y zz=>Ad zz fun hy q=>?_;refine ex1 (r.get hx) fun w zz=>Ad zz fun hw q'=>?_;rw [hv] at hw;cases hw;have e:vat xs vs v=y:=by unfold vat;refine rwl jQ (rwl hy ?_);rfl
 obtain ⟨k,e1⟩:=kind y (aH hy);obtain ⟨k',e2⟩:=kind x (aH hx);refine rwl e (rwl e1 (rwl e2 ?_));rw [e1] at q;rw [e2] at q';exact rwl (q.key_inj q') rfl
theorem Hk(r:VRs ρ h xs vs)(kind:∀ x∈xs,∃ k:Key,x=Aa k)(hv:v∈vs):vat xs vs v∈xs/\VR ρ h (vat xs vs v) v:=by obtain ⟨i,hi⟩:=jA hv;refine ex1 (r.get' hi) fun x zz=>Ad zz fun hx q=>?_;refine rwl (Aap r kind hi hx) ?_;exact ⟨aH hx,q⟩
theorem Uy(r:VRs ρ h xs vs)(kind:∀ x∈xs,∃ k:Key,x=Aa k):vs.map (vat xs vs)=xs:=by
 refine eZ fun i=>?_;refine rwl aX ?_;cases hv:vs[i]? with
 | none =>have:=cZ.mp hv;refine rwl (dZ (by rw [r.length];exact this)) ?_;rfl
 | some v =>refine ex1 (r.get' hv) fun x zz=>Ad zz fun hx _=>?_;refine rwl hx ?_;exact congrArg some (Aap r kind hv hx)
theorem Ada(ws:List Value)(q:∀ v∈ws,VR ρ h (vat xs vs v) v):VRs ρ h (ws.map (vat xs vs)) ws:=by
 induction ws with
 | nil=>exact .nil
 | cons v ws ih=>exact .cons (q v (.head _)) (ih fun x hx=>q x (.tail _ hx))
theorem Pu(r:VRs ρ h xs vs)(kind:∀ x∈xs,∃ k:Key,x=Aa k)(O:Order xs lt){ws:List Value}(p:ws.Perm vs)(srt:ws.Pairwise fun v w=>lt (vat xs vs v) (vat xs vs w)=true):Hw xs (ws.map (vat xs vs)):=by refine ⟨(p.map _).trans (lZ (Uy r kind)),fM.mpr (srt.imp_of_mem fun {v w} hv hw q=>?_)⟩;have m1:=(Hk r kind (p.mem_iff.mp hv)).1;have m2:=(Hk r kind (p.mem_iff.mp hw)).1;exact rwl (O.is _ m2 _ m1) (rwl (O.asym _ m1 _ m2 q) rfl)
noncomputable def rk(lt:Val->Val->Bool)(xs:List Val)(vs:List Value)(y:Keyed):Nat:=xs.countP fun z=>lt z (vat xs vs y.1)
theorem Agn(r:VRs ρ h xs vs)(kind:∀ x∈xs,∃ k:Key,x=Aa k)(O:Order xs lt)(nd:xs.Nodup):((vs.toArray.zip vs.toArray).toList.map (rk lt xs vs)).Nodup:=by
 have e:(vs.toArray.zip vs.toArray).toList.map (rk lt xs vs)=xs.map fun x=>xs.countP fun z=>lt z x:=by
  have e1:(vs.toArray.zip vs.toArray).toList=vs.map fun v=>(v,v):=by refine rwl qK ?_;exact Na vs
  refine rwl e1 (rwl iA ?_);have:(rk lt xs vs ∘ fun v=>(v,v))=(fun x=>xs.countP fun z=>lt z x) ∘ vat xs vs:=rfl;exact rwl this (rwr iA (rwl (Uy r kind) rfl))
 refine rwl e ?_;refine fM.mpr (nd.imp_of_mem fun {x y} hx hy ne q=>ne (O.anti x hx y hy ?_ ?_))
 . refine rwr (Nb O hx hy) ?_;exact decide_eq_false (fun z=>cA _ (aB (aD q.symm) z))
 . refine rwr (Nb O hy hx) ?_;exact decide_eq_false (fun z=>cA _ (aB (aD q) z))
end
theorem Pv(hh:A.handled=none)(hu:A.units+100 < cLine)(R0:Rel H ρ s0)
 (hc:∀ (E:Value->bD->Prop) (Q:List Value->bD->Prop),(∀ h' tk xs vs,(∀ b o,s0.heap.get? b=some o->h'.get? b=some o)->VRs ρ h' xs vs->E6 xs=some ys->Q vs { s0 with heap:=h',toks:=tk })->wpAny (model cx.prog cx.w) A.in1 (collect (.ref p)) Q E s0) :
 A8 A (M.alloc (.list ys) H) (call (.builtin "sorted") [.ref p]) (Amb.vr) ρ s0:=by
 refine (show wpAny _ _ _ _ _ _ from ?_);refine Calls.call_function_entry kind_sorted plain_sorted entry_sorted (args_sorted1 _) ?_;unfold Builtin.«sorted»;refine aF (m:=checkCount "sorted" 1 1 _) (aU ?_);refine aF (hc _ _ fun h1' tk xs vs kp0 r hs=>?_);refine Ae fun G kG=>?_;obtain ⟨⟨few,nd,kind,lt,O⟩,srt⟩:=Kb hs;refine kG ?_;have R:Rel H ρ { s0 with heap:=h1',toks:=tk }:=R0.more (tk:=tk) kp0;have F0:Full ρ s0.heap ρ h1':=Full.more kp0;generalize hs1:({ s0 with heap:=h1',toks:=tk }:bD)=s at R;have F1:Full ρ s0.heap ρ s.heap:=by rw [<- hs1];exact F0
 have r:VRs ρ s.heap xs vs:=by rw [<- hs1];exact r
 clear F0 kp0 hs1;have len:=r.length;have few':vs.length<=1000:=by exact aC (aD len.symm) few
 refine aF (wpAny_newList ?_ (by rw [eC];exact aJ (aB (aC (aD len.symm) few) (by decide:1000 < 16777216))));have hoL:(s.heap.push (seqObj "list" vs.toArray 0)).get? s.heap.objs.size=some (B4 vs 0):=cJ _ rfl;have keep:∀ b o,s.heap.get? b=some o->(s.heap.push (seqObj "list" vs.toArray 0)).get? b=some o:=fun b o q=>bR _ q;show wpAny _ _ _ _ _ { s with heap:=s.heap.push (seqObj "list" vs.toArray 0) };generalize s.heap.push (seqObj "list" vs.toArray 0)=h0 at hoL keep;have fr:s.heap.get? s.heap.objs.size=none:=Ar _;have ne:∀ {b:Addr} {o:Obj},s.heap.get? b=some o->b≠s.heap.objs.size:=fun {b o} e w=>by rw [w,fr] at e;exact nomatch e
 refine aF (eY (fX slot_list_sort ⟨_,hoL,rfl⟩ entry_list_sort ?body (args_list_sort _)));refine Ac7 (s:={ s with heap:=h0 }) (G:=fun ws=>ws.Perm vs/\ws.Pairwise fun v w=>lt (vat xs vs v) (vat xs vs w)=true) hoL few' (fun h2=>?_) (fun h' kp h2 Q kQ=>?_) fun h' ws c hG kp e=>?_
 . refine ⟨jE _,?_⟩;cases vs with
   | nil=>exact .nil
   | cons v l =>
    cases l with
    | nil=>exact List.pairwise_singleton _ _
    | cons _ _=>exact absurd h2 (by simp)
 . have kp':∀ b o,s.heap.get? b=some o->h'.get? b=some o:=fun b o e=>kp b o (ne e) (keep b o e);have R':Rel H ρ { s with heap:=h' }:=R.more (tk:=s.toks) kp';have r':VRs ρ h' xs vs:=r.step (Full.more kp').step;have hu2:A.in1.in1.units+30 < cLine:=by simp only [iK];exact Amy hu
   refine Ae fun G kG=>?_;obtain ⟨fs,hT,hl2,hfs⟩:=Ac9 r' fun x hx=>by obtain ⟨k,e⟩:=kind x hx;exact ⟨_,_,e⟩
   refine kG ?_;refine kat_kind (s:={ s with heap:=h' }) (T:=.type "int") hT (aA (aA (by decide:0 < 2) h2) (aD hl2.symm)) (fun f hf=>?_) rfl ?_
   . obtain ⟨i,t,rfl⟩:=hfs f hf;exact .now
   refine kQ _ fun st e1 e2 e3 e4=>?_;have zl:(vs.toArray.zip vs.toArray).toList=vs.map fun v=>(v,v):=by rw [qK];exact Na vs
   have zs:(vs.toArray.zip vs.toArray).size=vs.length:=by have:=congrArg hU zl;rw [aM] at this;exact this
   have C:N5 (model cx.prog cx.w) A.in1.in1 { s with heap:=h' } (tuples' true) (·∈(vs.toArray.zip vs.toArray).toList) (rk lt xs vs):=by intro x y hx hy Q E hQ;rw [zl] at hx hy;obtain ⟨v,hv,rfl⟩:=cC.mp hx;obtain ⟨w,hw,rfl⟩:=cC.mp hy;obtain ⟨m1,w1⟩:=Hk r' kind hv;obtain ⟨m2,w2⟩:=Hk r' kind hw;have hQ:Q (decide (xs.countP (fun z=>lt z (vat xs vs v)) < xs.countP fun z=>lt z (vat xs vs w))) { s with heap:=h' }:=hQ;rw [Nb O m1 m2] at hQ;have is:=O.is _ m1 _ m2;refine Ae fun G kG=>?_;obtain ⟨k1,hk1⟩:=kind _ m1;obtain ⟨k2,hk2⟩:=kind _ m2;refine kG ?_;rw [hk1] at w1 is hQ;rw [hk2] at w2 is hQ;refine Ae fun G kG=>?_;obtain ⟨p1,us,n1,ht,g1,q1⟩:=w1.tup_inv;obtain ⟨p2,ws,n2,ht',g2,q2⟩:=w2.tup_inv;refine kG ?_;show wpAny _ _ (keyLt' (tuples' true) v w) _ _ _;rw [ht,ht'];refine kat_lt (s:={ s with heap:=h' }) g1 rfl g2 rfl ?_;have kl:=Ac8 (A:=A.in1.in1) R' (k:=5) (Amz hu2) hQ _ _ _ _ 0 q1 q2 is (fun _=>⟨k1.1,k2.1,_,_,rfl,rfl⟩);rw [cN,cN,q1.length,q2.length] at kl;simpa using kl
   refine wpS_mono (Agl C (Agn r' kind O nd) (by rw [zs];exact h2) (st:=st) ⟨e2,e4,by rw [e1]⟩ e3 fun st' B as=>?_) fun _ _ h=>h;refine ⟨B.fail,(arrOf st').toList.map (·.2),⟨?_,?_⟩,?_,?_⟩
   . refine (B.perm.map _).trans (lZ ?_);rw [zl,iA];exact sW _
   . refine fM.mpr ?_;have sr:Srt (rk lt xs vs) (arrOf st').toList:=Un fun i j hij hj=>as i j (bH _) hij (by rw [cN,<- B.size];exact hj);refine sr.imp_of_mem fun {x y} hx hy q=>?_;have hx:=B.perm.mem_iff.mp hx;have hy:=B.perm.mem_iff.mp hy;rw [zl] at hx hy;obtain ⟨v,hv,rfl⟩:=cC.mp hx;obtain ⟨w,hw,rfl⟩:=cC.mp hy;rw [<- Nb O (Hk r' kind hv).1 (Hk r' kind hw).1];exact decide_eq_true q
   . rw [aM,aV,B.size,zs]
   . apply mP.mp;rw [Array.toList_map]
 . refine ⟨_,rfl,aU ⟨_,rfl,?_⟩⟩;have kp':∀ b o,s.heap.get? b=some o->h'.get? b=some o:=fun b o e=>kp b o (ne e) (keep b o e);have eq:ys=ws.map (vat xs vs):=aO (hs.symm.trans (Nu ⟨few,nd,kind,lt,O⟩ (Pu r kind O hG.1 hG.2)));have yl:ys.length<=sizeLine:=by rw [srt.1.length_eq,eC];exact aJ (aB few (by decide:1000 < 16777216))
   obtain ⟨F,R'⟩:=R.alloc (tk:=s.toks) (o:=.list ys) (p:=(s.heap.objs.size,s.heap.objs.size)) kp' ⟨fr,fr⟩
    (.list e (by rw [eq];exact Ada ws fun v hv=>(Hk r kind (hG.1.mem_iff.mp hv)).2.step (Full.alloc kp' ⟨fr,fr⟩).step) yl)
   refine ⟨_,F1.trans F,R',?_⟩;rw [R.len];exact VR.loc (p:=(s.heap.objs.size,s.heap.objs.size)) (by rw [aS (aN _)];simp)
theorem Sf(hh:A.handled=none)(hu:A.units+100 < cLine)(h1:∀ ρ h,P.P ρ h->VR ρ h a v):Sim A P (call (.builtin "sorted") [v]) (bfV .sorted [a]) (Amb.vr):=by
 intro H ρ s0 R0 p;have x:=h1 _ _ p;cases x with
 | @loc l q hq =>
  show A8 A (match (Ec l H).bind E6 with
   | some ys=>M.alloc (.list ys) H
   | none=>.bad) _ _ ρ s0
  cases hs0:(Ec l H).bind E6 with
  | none=>trivial
  | some ys =>refine ex1 (dC.mp hs0) fun xs zz=>Ad zz fun hx hs=>?_;exact Pv hh hu R0 fun E Q k=>Po hh R0 hq hx (by have:=(Kb hs).1.1;refine rwl eC ?_;exact o27 this) fun h' tk vs kp r=>k h' tk xs vs kp r hs
 | _=>trivial
end
end Mine.Internal
namespace Mine.Internal
open PySem
theorem Bh{α β γ:Type}(m:M α)(f:α->M β)(g:β->M γ):(m.bnd f).bnd g=m.bnd fun x=>(f x).bnd g:=by funext H;unfold M.bnd;cases m H <;> rfl
section
variable{α β:Type}
theorem Sim.rule{tag:String}{k:Unit->Sem α}(x:Sim A P (k ()) m V):Sim A P (rule tag>>=k) m V:=x.pre fun _ _ _ h=>aF (rN h)
theorem Sim.relse(x:Sim A P (k ()) m V):Sim A P (release vs keep>>=k) m V:=x.pre fun _ _ _ h=>aF (wpAny_release h)
theorem Sim.oper{t:Sem Value}{V:β->Value->Amb}(x:Sim A P t m V):Sim A P (operate vs t) m V:=x.pre fun _ _ _ h=>fun Γ p hΓ=>by
 rw [Sem.wp_operate];exact h Γ p hΓ
theorem Sim.of_eq(e:t'=t)(x:Sim A P t m V):Sim A P t' m V:=e▸x
theorem Sim.of_m(e:m'=m)(x:Sim A P t m V):Sim A P t m' V:=e▸x
noncomputable abbrev BV:Bool->Bool->Amb:=fun b b'=>Amb.prop (b'=b)
end
section
variable{A:fI}{P:Amb}
structure EOk(A:fI)(P:Amb)(Φ:Funs)(env:Env)(Γ:Env')(m:ME)(e:Expr):Prop where
 val:Sim A P (eval e env) (Aj cx.T Φ m Γ) (Amb.vr)
 tru:Sim A P (isTrue e env (eval e env)) ((Aj cx.T Φ m Γ).bnd Di) BV
theorem Hl:Sim A (P.and (Amb.vr a v)) (truthy v) (Di a) BV:=R6 fun _ _ p=>p.2
theorem EOk.of(x:Sim A P (eval e env) (Aj cx.T Φ m Γ) (Amb.vr))(h:isTrue e env (eval e env)=(do let v<-eval e env;standAt e.pos;holding [v] (truthy v))):EOk A P Φ env Γ m e :=
 ⟨x,Sim.of_eq h (x.bind fun b a=>Sim.stand (Sim.holding Hl))⟩
theorem Sim.and1{α β:Type}{t:Sem α}{m:M β}{V:β->α->Amb}(x:Sim A P t m V):Sim A (P.and Q) t m V:=x.weak fun _ _ p=>p.1
theorem Adb(ho:Ahw op o=true)(x:EOk A P Φ env Γ a l)(y:EOk A P Φ env Γ b r):EOk A P Φ env Γ (.bin op a b) (.BinOp l o r pos):=by refine EOk.of ?_ rfl;exact x.val.bind fun x1 v=>(Sim.holding y.val.and1).bind fun y1 w=>Sim.stand (Sim.oper (Acb ho (fun _ _ p=>p.1.2) fun _ _ p=>p.2))
theorem Adc(x:EOk A P Φ env Γ a l):EOk A P Φ env Γ (.neg a) (.UnaryOp .USub l pos):=by refine EOk.of ?_ rfl;exact x.val.bind fun x1 v=>Sim.stand (Sim.holding (Acd fun _ _ p=>p.2))
theorem Ade(x:EOk A P Φ env Γ a l):EOk A P Φ env Γ (.not a) (.UnaryOp .Not l pos):=by
 refine ⟨?_,?_⟩
 . skip;exact x.val.bind fun x1 v=>Sim.stand (Sim.holding (Ace fun _ _ p=>p.2))
 . rw [arm_isTrue_UnaryOp,Afg];refine Sim.of_m (m:=((Aj cx.T Φ a Γ).bnd Di).bnd fun b=>M.ret (!b)) ?_ (x.tru.bind fun b b'=>Sim.ret fun ρ h p=>?_)
   . rw [Bh,Bh];congr 1;funext x1;rw [Bh];congr 1
   . have:b'=b:=p.2;show (!b')=!b;exact rwl this rfl
theorem Adf{α:Type}(m:M α):(m.bnd fun b=>M.ret b)=m:=by funext H;unfold M.bnd;cases m H <;> rfl
noncomputable def Xi(A:fI)(P:Amb)(Φ:Funs)(env:Env)(Γ:Env')(op:BoolOp)(pos:Pos)(m:ME)(ys:List Expr):Prop :=
 Sim A P (boolOp pos op (evalEach ys env)) (Aj cx.T Φ m Γ) (Amb.vr)/\Sim A P (allTrue op ys env) ((Aj cx.T Φ m Γ).bnd Di) BV
theorem Xi.one(x:EOk A P Φ env Γ m y):Xi A P Φ env Γ op pos m [y]:=by refine ⟨x.val,?_⟩;refine Sim.of_m (Adf _).symm (x.tru.bind fun b b'=>?_);intro H ρ s R p;have e:b'=b:=p.2;subst e;cases op <;> cases b' <;> exact aU ⟨ρ,Full.refl _ _,R,rfl⟩
theorem Xi.more(x:EOk A P Φ env Γ m (.BoolOp op (y :: rest) pos)):Xi A P Φ env Γ op pos m (y :: rest):=⟨x.val,x.tru⟩
theorem Fp:Sim A (P.and (Amb.vr a v)) (truthy v) (Di a) (fun b b'=>Amb.prop (b'=b/\v=.bool b)):=by
 intro H ρ s R p;have x:VR ρ s.heap a v:=p.2;cases x with
 | bool b=>exact A5 R fun Q E k=>nK (k _ s.toks ⟨rfl,rfl⟩)
 | _=>trivial
set_option backward.match.sparseCases true in
theorem Adg(hx:EOk A P Φ env Γ a x)(hy:Xi A P Φ env Γ .And pos b (y :: rest)):EOk A P Φ env Γ (.and a b) (.BoolOp .And (x :: y :: rest) pos):=by
 refine ⟨?_,?_⟩
 . skip;refine hx.val.bind (f:=fun v=>do
    standAt pos
    let t<-holding [v] (truthy v)
    match BoolOp.And,t with
    | .And,false | .Or,true=>pure v
    | _,_=>boolOp pos .And (evalEach (y :: rest) env)) fun x1 v=>Sim.stand ((Sim.holding Fp).bind fun b b'=>?_)
   intro H ρ s R p;obtain ⟨e1,e2⟩:b'=b/\v=.bool b:=p.2;subst e1 e2;cases b' with
   | true=>exact hy.1 H ρ s R p.1.1
   | false=>exact aU ⟨ρ,Full.refl _ _,R,.bool _⟩
 . rw [rZ,sU,Afh];refine Sim.of_m (m:=((Aj cx.T Φ a Γ).bnd Di).bnd fun t=>match t with
    | true=>(Aj cx.T Φ b Γ).bnd Di
    | false=>M.ret false) ?_ (hx.tru.bind fun b b'=>?_)
   . rw [Bh,Bh];congr 1;funext x1;rw [Bh];congr 1;funext t;cases t <;> rfl
   . intro H ρ s R p;have e:b'=b:=p.2;refine rwr e ?_;cases b' with
     | true=>exact hy.2 H ρ s R p.1
     | false=>exact aU ⟨ρ,Full.refl _ _,R,rfl⟩
set_option backward.match.sparseCases true in
theorem Ago(hx:EOk A P Φ env Γ a x)(hy:Xi A P Φ env Γ .Or pos b (y :: rest)):EOk A P Φ env Γ (.or a b) (.BoolOp .Or (x :: y :: rest) pos):=by
 refine ⟨?_,?_⟩
 . skip;refine hx.val.bind (f:=fun v=>do
    standAt pos
    let t<-holding [v] (truthy v)
    match BoolOp.Or,t with
    | .And,false | .Or,true=>pure v
    | _,_=>boolOp pos .Or (evalEach (y :: rest) env)) fun x1 v=>Sim.stand ((Sim.holding Fp).bind fun b b'=>?_)
   intro H ρ s R p;obtain ⟨e1,e2⟩:b'=b/\v=.bool b:=p.2;subst e1 e2;cases b' with
   | false=>exact hy.1 H ρ s R p.1.1
   | true=>exact aU ⟨ρ,Full.refl _ _,R,.bool _⟩
 . rw [rZ,sU,Aib];refine Sim.of_m (m:=((Aj cx.T Φ a Γ).bnd Di).bnd fun t=>match t with
    | true=>M.ret true
    | false=>(Aj cx.T Φ b Γ).bnd Di) ?_ (hx.tru.bind fun b b'=>?_)
   . rw [Bh,Bh];congr 1;funext x1;rw [Bh];congr 1;funext t;cases t <;> rfl
   . intro H ρ s R p;have e:b'=b:=p.2;refine rwr e ?_;cases b' with
     | false=>exact hy.2 H ρ s R p.1
     | true=>exact aU ⟨ρ,Full.refl _ _,R,rfl⟩
theorem Ez(h:Ei r=true)(op:CmpOp):behindInMarks op r=false:=by cases r <;> first | rfl | exact C0 h
theorem Adh(hu:A.units+100 < cLine)(hn:Ei r=true)(x:EOk A P Φ env Γ a l)(y:EOk A P Φ env Γ b r):EOk A P Φ env Γ (.cmp op a b) (.Compare l [Ju op] [r] pos):=by
 have V:∀ (x1 y1:Val) (v w:Value),Sim A ((P.and (Amb.vr x1 v)).and (Amb.vr y1 w)) (operate [v,w] (compareOp (Ju op) v w)) ((M.look (Cu op x1 y1)).bnd fun r=>M.ret (Val.bool r)) (Amb.vr) :=
  fun x1 y1 v w=>Sim.oper (Mx hu (fun _ _ p=>p.1.2) fun _ _ p=>p.2)
 refine ⟨?_,?_⟩
 . rw [eval_Compare1];refine rwl (iH (Ez hn _)) ?_;exact x.val.bind fun x1 v=>(Sim.holding y.val.and1).bind fun y1 w=>Sim.stand (V x1 y1 v w)
 . rw [isTrue_Compare1];refine rwl (iH (Ez hn _)) ?_;rw [Afi];rw [Bh];refine x.val.bind fun x1 v=>?_;rw [Bh];exact (Sim.holding y.val.and1).bind fun y1 w=>Sim.stand ((V x1 y1 v w).bind fun r c=>Sim.holding Hl)
theorem Yv(hu:A.units+100 < cLine)(hn:Ei r=true)(x:EOk A P Φ env Γ a l)(y:EOk A P Φ env Γ b m)(z:EOk A P Φ env Γ c r):EOk A P Φ env Γ (.cmp2 op1 op2 a b c) (.Compare l [Ju op1,Ju op2] [m,r] pos):=by
 have V1:∀ (x1 y1:Val) (v w:Value),Sim A ((P.and (Amb.vr x1 v)).and (Amb.vr y1 w)) (holding [v,w] (compareOp (Ju op1) v w)) ((M.look (Cu op1 x1 y1)).bnd fun r=>M.ret (Val.bool r)) (Amb.vr) :=
  fun x1 y1 v w=>Sim.holding (Mx hu (fun _ _ p=>p.1.2) fun _ _ p=>p.2)
 have e0:∀ (x1 y1:Val) (k:Bool->M Val),((M.look (Cu op1 x1 y1)).bnd k)=(((M.look (Cu op1 x1 y1)).bnd fun r=>M.ret (Val.bool r)).bnd fun v=>(Di v).bnd k):=fun x1 y1 k=>by rw [Bh];rfl
 refine ⟨?_,?_⟩
 . rw [arm_eval_Compare,Tp];have em:markedEach [Ju op1,Ju op2] [m,r] (evalEach [m,r] env)=[eval m env,eval r env]:=by show [eval m env,markedBehindIn (Ju op2) r (eval r env)]=_;exact rwl (iH (Ez hn _)) rfl
   refine rwl em ?_;refine x.val.bind (f:=fun left=>do
    let rv<-holding [left] (eval m env)
    standAt pos
    let c<-holding [left,rv] (compareOp (Ju op1) left rv)
    release [left,rv] [c]
    if<-holding [c,rv] (truthy c) then compareChain pos rv [Ju op2] [eval r env] else pure c) fun x1 v=>?_
   refine (Sim.holding y.val.and1).bind fun y1 w=>Sim.stand ?_;rw [e0];refine (V1 x1 y1 v w).bind fun r1 c1=>Sim.relse ?_;refine (Sim.holding Fp).bind fun t t'=>?_;intro H ρ s R p;obtain ⟨e1,e2⟩:t'=t/\c1=.bool t:=p.2;subst e1 e2;cases t' with
   | false=>exact aU ⟨ρ,Full.refl _ _,R,.bool _⟩
   | true =>
    have W:Sim A (P.and (Amb.vr y1 w)) (compareChain pos w [Ju op2] [eval r env]) ((Aj cx.T Φ c Γ).bnd fun z=>(M.look (Cu op2 y1 z)).bnd fun r=>M.ret (Val.bool r)) (Amb.vr) :=
     (Sim.holding z.val.and1).bind fun z1 u=>Sim.stand (Sim.oper (Mx hu (fun _ _ p=>p.1.2) fun _ _ p=>p.2))
    exact W H ρ s R ⟨p.1.1.1.1,p.1.1.2⟩
 . rw [arm_isTrue_Compare,Tp];have em:markedEach [Ju op1,Ju op2] [m,r] (evalEach [m,r] env)=[eval m env,eval r env]:=by show [eval m env,markedBehindIn (Ju op2) r (eval r env)]=_;exact rwl (iH (Ez hn _)) rfl
   refine rwl em ?_;rw [Bh];refine x.val.bind (f:=fun left=>do
    let rv<-holding [left] (eval m env)
    standAt pos
    let c<-holding [left,rv] (compareOp (Ju op1) left rv)
    release [left,rv] [c]
    if<-holding [c,rv] (truthy c) then testChain pos rv [Ju op2] [eval r env] else pure false) fun x1 v=>?_
   rw [Bh];refine (Sim.holding y.val.and1).bind fun y1 w=>Sim.stand ?_;rw [e0,Bh];refine (V1 x1 y1 v w).bind fun r1 c1=>Sim.relse ?_;rw [Bh];refine (Sim.holding Fp).bind fun t t'=>?_;intro H ρ s R p;obtain ⟨e1,e2⟩:t'=t/\c1=.bool t:=p.2;subst e1 e2;cases t' with
   | false=>exact aU ⟨ρ,Full.refl _ _,R,rfl⟩
   | true =>
    have W:Sim A (P.and (Amb.vr y1 w)) (testChain pos w [Ju op2] [eval r env]) (((Aj cx.T Φ c Γ).bnd fun z=>(M.look (Cu op2 y1 z)).bnd fun r=>M.ret (Val.bool r)).bnd Di) BV:=by
     rw [Bh];have V2:∀ (z1:Val) (u:Value),Sim A ((P.and (Amb.vr y1 w)).and (Amb.vr z1 u)) (operate [w,u] (compareOp (Ju op2) w u)) ((M.look (Cu op2 y1 z1)).bnd fun r=>M.ret (Val.bool r)) (Amb.vr) :=
      fun z1 u=>Sim.oper (Mx hu (fun _ _ p=>p.1.2) fun _ _ p=>p.2)
     exact (Sim.holding z.val.and1).bind fun z1 u=>Sim.stand ((V2 z1 u).bind fun _ _=>Sim.holding Hl)
    exact W H ρ s R ⟨p.1.1.1.1,p.1.1.2⟩
end
theorem Ij{α:Type}{f:Hp->Option α}{a:α}(h:f H=some a):M.look f H=.ok a H:=by unfold M.look;exact rwl h rfl
theorem Ik{α:Type}{f:Hp->Option α}(h:f H=none):M.look f H=.bad:=by unfold M.look;exact rwl h rfl
theorem Adi(f:BF):((Hb f).1,My f)∈Ha:=by
 unfold Ha;cases f <;> first
  | repeat (first | exact lE _ | apply lD)
theorem Agp(t:Ty)(h:∀ c,t≠.cls c):(Ny t,Xy t)∈Ha:=by
 unfold Ha;cases t <;> first
  | exact absurd rfl (h _)
  | repeat (first | exact lE _ | apply lD)
theorem Adk:(("isinstance":Str),Value.builtin "isinstance")∈Ha:=by unfold Ha;repeat (first | exact lE _ | apply lD)
section
theorem An5{α:Type}{xs:List α}(h:xs.length=2):∃ a b,xs=[a,b]:=by
 match xs,h with
 | [a,b],_=>exact ⟨a,b,rfl⟩
theorem Sg(hh:A.handled=none)(hu:A.units+100 < cLine)(f:BF)(hl:ms.length=(Hb f).2):Sim A (Amb.vrs ms vs) (call (My f) vs) (bfV f ms) (Amb.vr):=by
 have one:∀ {t:Sem Value} {m:Val->M Val},ms.length=1->(∀ (a:Val) (v:Value),ms=[a]->vs=[v]->Sim A (Amb.vr a v) t (bfV f ms) (Amb.vr))->Sim A (Amb.vrs ms vs) t (bfV f ms) (Amb.vr):=by intro t m h1 k H ρ s R p;have p':VRs ρ s.heap ms vs:=p;have hv:=p'.length;obtain ⟨a,rfl⟩:=List.length_eq_one_iff.mp h1;refine ex1 p'.one_inv fun v zz=>Ad zz fun zr1 x=>?_;subst zr1;exact k a v rfl rfl H ρ s R x
 have two:∀ {t:Sem Value} {m:Val->M Val},ms.length=2->(∀ (a b:Val) (v w:Value),ms=[a,b]->vs=[v,w]->Sim A ((Amb.vr a v).and (Amb.vr b w)) t (bfV f ms) (Amb.vr))->Sim A (Amb.vrs ms vs) t (bfV f ms) (Amb.vr):=by intro t m h1 k H ρ s R p;have p':VRs ρ s.heap ms vs:=p;have hv:=p'.length;refine ex2 (An5 h1) fun a b zr2=>?_;subst zr2;refine ex2 p'.two_inv fun v w zz=>Ap zz fun zr2 x y=>?_;subst zr2;exact k a b v w rfl rfl H ρ s R ⟨x,y⟩
 cases f with
 | len=>exact one (m:=fun _=>.bad) hl fun a v e1 e2=>by subst e1 e2;exact Acg fun _ _ p=>p
 | range=>exact one (m:=fun _=>.bad) hl fun a v e1 e2=>by subst e1 e2;exact T8 fun _ _ p=>p
 | list=>exact one (m:=fun _=>.bad) hl fun a v e1 e2=>by subst e1 e2;exact R7 hh fun _ _ p=>p
 | sorted=>exact one (m:=fun _=>.bad) hl fun a v e1 e2=>by subst e1 e2;exact Sf hh hu fun _ _ p=>p
 | max2=>exact two (m:=fun _=>.bad) hl fun a b v w e1 e2=>by subst e1 e2;exact X0 hh (fun _ _ p=>p.1) fun _ _ p=>p.2
 | int=>exact one (m:=fun _=>.bad) hl fun a v e1 e2=>by subst e1 e2;exact X1 fun _ _ p=>p
theorem Agq(B:Base)(hh:A.handled=none)(hu:A.units+100 < cLine)(hg:B6 sc x=true)(hx:(Hb f).1=x)(hl:(Hb f).2=xs.length)(hes:ckEs N sc ns es xs=true)
 (y:Sim A ((Amb.env env sc ns Γ).and (Amb.frames l)) (spliced (xs.map fun e=>(false,eval e env))) (evalEs cx.T Φ es Γ) (Amb.vrs)) :
 EOk A ((Amb.env env sc ns Γ).and (Amb.frames l)) Φ env Γ (.bf f es) (.Call (.Name x np) xs [] pos):=by
 refine EOk.of ?_ rfl;refine ex2 B.ns fun mg mb zz=>Mq zz fun ng nb _ _ _ q=>?_;intro H ρ s R p;have q12:mg (Hb f).1=none/\mb (Hb f).1=some (My f):=q _ (Adi f);obtain ⟨q1,q2⟩:=q12;rw [hx] at q1 q2;first | rw [Ms] | rw [Qn] | rw [Jz] | rw [Xk] | rw [Hx] | rw [Xl]
 refine Gy.mono (Gg (f:=My f) (K:=fun vs Q E s=>wpAny (model cx.prog cx.w) A (call (My f) vs) Q E s) (fun e=>Ib (e▸hes)) R (y H ρ s R p) ?_ fun _=>J0 _) ?_
 . intro ms vs H1 ρ1 s1 e1 F1 R1 vrs;exact Sg hh hu f (rwl (El hes e1) (rwl hl rfl)) H1 ρ1 s1 R1 vrs
 . intro Q E h;refine iU (wp_glob R p.1.st hg ng nb (v:=My f) (.inr ⟨q1,q2⟩) ?_);refine rwl (Az pos (Dc hes)) ?_;have hq:(∃ id,My f=.builtin id)\/∃ T,My f=.type T:=by cases f <;> first | exact .inl ⟨_,rfl⟩ | exact .inr ⟨_,rfl⟩
   generalize My f=bv at h hq ⊢;rcases hq with ⟨id,rfl⟩ | ⟨T,rfl⟩
   . exact kL (Es _) (aL h (fun a s₁ h₁=>by refine rwl h₁.1 ?_;exact h₁.2) fun _ _ q=>q)
   . exact lU (Es _) (aL h (fun a s₁ h₁=>by refine rwl h₁.1 ?_;exact h₁.2) fun _ _ q=>q)
theorem Ko(B:Base)(ht:∀ c,t≠.cls c)(hg:B6 sc f=true)(hf:f=("isinstance":Str))(hy:B6 sc y=true)(hty:Ny t=y)(hp:M2 x=true)
 (z:EOk A ((Amb.env env sc ns Γ).and (Amb.frames l)) Φ env Γ a x) :
 EOk A ((Amb.env env sc ns Γ).and (Amb.frames l)) Φ env Γ (.isinst a t) (.Call (.Name f fp) [x,.Name y yp] [] pos):=by
 refine EOk.of ?_ rfl;refine ex2 B.ns fun mg mb zz=>Mq zz fun ng nb _ _ _ q=>?_;intro H ρ s R p;have q12:mg ("isinstance":Str)=none/\mb ("isinstance":Str)=some (.builtin "isinstance"):=q _ Adk;have q34:mg (Ny t)=none/\mb (Ny t)=some (Xy t):=q _ (Agp t ht);obtain ⟨q1,q2⟩:=q12;obtain ⟨q3,q4⟩:=q34;rw [<- hf] at q1 q2;rw [hty] at q3 q4;first | rw [Ms] | rw [Qn] | rw [Jz] | rw [Xk] | rw [Hx] | rw [Xl]
 refine A8.bindK (K':=fun Q E s=>wpAny (model cx.prog cx.w) A (eval (.Call (.Name f fp) [x,.Name y yp] [] pos) env) Q E s) (K:=fun v Q E s=>wpAny (model cx.prog cx.w) A (eval (.Name y yp) env) (fun w s'=>wpAny (model cx.prog cx.w) A (call (.builtin "isinstance") [v,w]) Q E s') E s) (z.val H ρ s R p) ?_ ?_ ?_
 . intro b v H1 ρ1 s1 _ F1 R1 vr;have e1:=(p.1.full F1).st;have ht2:(Bp cx.T b t)=M.look (fun H=>(Ql H b).map fun k=>Val.bool (Aac t k)):=by cases t <;> first | rfl | exact absurd rfl (ht _)
   show Gy (Bp cx.T b t H1) _ _ ρ1 s1;refine rwl ht2 ?_;cases ek:Ql H1 b with
   | none =>have:M.look (fun H=>(Ql H b).map fun k=>Val.bool (Aac t k)) H1=.bad:=Ik (by show kE _ (Ql H1 b)=none;refine rwl ek ?_;rfl);refine rwl this ?_;trivial
   | some k =>have:M.look (fun H=>(Ql H b).map fun k=>Val.bool (Aac t k)) H1=.ok (Val.bool (Aac t k)) H1:=Ij (by show kE _ (Ql H1 b)=_;refine rwl ek ?_;rfl);refine rwl this ?_;refine wp_glob R1 e1 hy ng nb (v:=Xy t) (.inr ⟨q3,q4⟩) ?_;exact Af5 R1 vr ek ht fun tk=>⟨ρ1,Full.refl _ _,R1.toks tk,.bool _⟩
 . exact fun v Q E Q' E' s h k1 k2=>aL h (fun _ _ h'=>aL h' k1 k2) k2
 . intro Q E h;refine iU (wp_glob R p.1.st hg ng nb (v:=.builtin "isinstance") (.inr ⟨q1,q2⟩) ?_);have pl:Cp env [x,.Name y yp]:=⟨D2 hp,D2 rfl,trivial⟩;refine rwl (Az pos pl) ?_;refine kL (Es _) (iW (jN (aL h (fun v s' h'=>?_) fun _ _ q=>q)));exact jN (aL h' (fun w s'' h''=>pY h'') fun _ _ q=>q)
theorem Adl(hu:A.units+100 < cLine)(x:EOk A P Φ env Γ a v)(y:EOk A P Φ env Γ i s):EOk A P Φ env Γ (.sub a i) (.Subscript v s pos):=by
 refine EOk.of ?_ rfl;intro H ρ st R p;refine A8.bindK (K':=fun Q E s'=>wpAny (model cx.prog cx.w) A (eval (.Subscript v s pos) env) Q E s') (K:=fun o Q E s'=>wpAny (model cx.prog cx.w) A (eval s env) (fun i s''=>wpAny (model cx.prog cx.w) A (iM v s o i) Q E s'') E s') (x.val H ρ st R p) ?_ ?_ ?_
 . intro b o H1 ρ1 s1 _ F1 R1 vr;refine A8.bindK (K':=fun Q E s'=>wpAny (model cx.prog cx.w) A (eval s env) (fun i s''=>wpAny (model cx.prog cx.w) A (iM v s o i) Q E s'') E s') (K:=fun i Q E s'=>wpAny (model cx.prog cx.w) A (iM v s o i) Q E s') (y.val H1 ρ1 s1 R1 (P.st _ _ _ _ p F1)) ?_ (fun _=>J0 _) fun Q E h=>h;intro b2 i2 H2 ρ2 s2 _ F2 R2 vr2;exact Ph (P:=(Amb.vr b o).and (Amb.vr b2 i2)) hu (fun _ _ p=>p.1) (fun _ _ p=>p.2) H2 ρ2 s2 R2 ⟨vr.step F2.step,vr2⟩
 . exact fun v Q E Q' E' s h k1 k2=>aL h (fun _ _ h'=>aL h' k1 k2) k2
 . exact fun Q E h=>tY h
end
noncomputable def F8(env:Env):List (Str × iV)->List (Str × Addr)->List (Str × Addr)
 | [],acc=>acc
 | (n,k) :: r,acc=>if k == .free then F8 env r ((n,(env.cells.lookup n).getD 0) :: acc) else F8 env r acc
theorem Il(h:∀ p∈scope.names,p.2=.free->∃ c,env.cells.lookup p.1=some c):closureFor scope env=pure (F8 env scope.names []):=by
 have gen:∀ (names:List (Str × iV)) (acc:List (Str × Addr)),(∀ p∈names,p.2=.free->∃ c,env.cells.lookup p.1=some c) ->
  (forIn names acc fun x cs=>if (x.2 == .free)=true then (do let c<-cellOf env x.1;pure (fE ((x.1,c) :: cs))) else pure (fE cs):Sem _)=pure (F8 env names acc):=by
  intro names
  induction names with
  | nil=>intro acc _;rfl
  | cons p r ih =>
   intro acc hp
   obtain ⟨n,k⟩:=p
   rw [List.forIn_cons]
   unfold F8
   by_cases q:(k == .free)=true
   . obtain ⟨c,hc⟩:=hp (n,k) (.head _) (by simpa using q)
     have hc':env.cells.lookup n=some c:=hc
     have e:cellOf env n=pure c:=by unfold cellOf;exact rwl hc' rfl
     simp only [q,if_true,e,pure_bind,hc',Option.getD_some]
     exact ih _ fun p hp'=>hp p (.tail _ hp')
   . simp only [q,if_false,pure_bind]
     exact ih _ fun p hp'=>hp p (.tail _ hp')
 unfold closureFor;have:=gen scope.names [] h;simp only [bind_pure] at this ⊢;exact rwr this rfl
set_option tactic.hygienic true in
theorem Adm:∀ {names:List (Str × iV)} {acc:List (Str × Addr)} {y:Str} {c:Addr},(∀ z d,acc.lookup z=some d->d=(env.cells.lookup z).getD 0)->(F8 env names acc).lookup y=some c->c=(env.cells.lookup y).getD 0:=by
 intro names;induction names with
 | nil =>intro acc y c ha h;exact ha y c h
 | cons xx r ihh =>
  intro acc y c ha h;obtain ⟨n,k⟩:=xx;unfold F8 at h;split at h
  . refine ihh (fun z d hd=>?_) h;rw [bN] at hd;split at hd
    . rename_i e;have:z=n:=by simpa using e
      refine rwl this ?_;cases hd;rfl
    . exact ha z d hd
  . exact ihh ha h
set_option tactic.hygienic true in
theorem Adn:∀ {names:List (Str × iV)} {acc:List (Str × Addr)} {y:Str},((y,eN)∈names\/(acc.lookup y).isSome=true)->((F8 env names acc).lookup y).isSome=true:=by
 intro names;induction names with
 | nil =>
  intro _ _ h;rcases h with h | h
  . cases h
  . exact h
 | cons xx r ihh =>
  intro acc y h;obtain ⟨n,k⟩:=xx;unfold F8;split
  . rename_i hk;refine ihh ?_;rcases h with h | h
    . rcases bO.mp h with e | h
      . cases e;right;simp
      . exact .inl h
    . right;refine rwl bN ?_;split
      . rfl
      . exact h
  . rename_i hk;refine ihh ?_;rcases h with h | h
    . rcases bO.mp h with e | h
      . cases e;simp at hk
      . exact .inl h
    . exact .inr h
set_option tactic.hygienic true in
theorem Ado:∀ {names:List (Str × iV)} {acc:List (Str × Addr)} {y:Str} {c:Addr},(F8 env names acc).lookup y=some c->(y,eN)∈names\/(acc.lookup y).isSome=true:=by
 intro names;induction names with
 | nil =>intro _ _ _ h;right;have h':fT _ _=_:=h;unfold F8 at h';refine rwl h' ?_;rfl
 | cons xx r ihh =>
  intro acc y c h;obtain ⟨n,k⟩:=xx;unfold F8 at h;split at h
  . rename_i hk;rcases ihh h with h | h
    . exact .inl (.tail _ h)
    . rw [bN] at h;split at h
      . rename_i e;have:y=n:=by simpa using e
        refine rwr this ?_;have:k=.free:=by simpa using hk
        refine rwl this ?_;exact .inl (.head _)
      . exact .inr h
  . rcases ihh h with h | h
    . exact .inl (.tail _ h)
    . exact .inr h
theorem Jv:∀ (names:List (Str × iV)) (n:Nat) (acc:List (Str × Addr)),cellsFrom n names acc=cellsFrom n names []++acc:=by
 intro names;induction names with
 | nil =>intro _ _;exact rfl
 | cons xx r ihh =>
  intro n acc;obtain ⟨y,k⟩:=xx;unfold cellsFrom;split
  . refine rwl (ihh (n+1) ((y,n) :: acc)) (rwl (ihh (n+1) [(y,n)]) ?_);rw [bJ];rfl
  . exact ihh n acc
set_option tactic.hygienic true in
theorem Im:∀ {names:List (Str × iV)} {n:Nat} {acc:List (Str × Addr)} {y:Str} {c:Addr},(y,c)∈cellsFrom n names acc->(y,gR)∈names\/(y,c)∈acc:=by
 intro names;induction names with
 | nil =>intro _ _ _ _ h;exact .inr h
 | cons xx r ihh =>
  intro n acc y c h;obtain ⟨z,k⟩:=xx;unfold cellsFrom at h;split at h
  . rename_i hk;rcases ihh h with h | h
    . exact .inl (.tail _ h)
    . rcases bO.mp h with e | h
      . cases e;have:k=.cell:=by simpa using hk
        refine rwr this ?_;exact .inl (.head _)
      . exact .inr h
  . rcases ihh h with h | h
    . exact .inl (.tail _ h)
    . exact .inr h
theorem Lu{env:Env}:∀ (names:List (Str × iV)) (y:Str),(names.map fun (n,k)=>if (k == eN && env.scope.kind == .function && env.kindOf n == some .cell) then (n,gR) else (n,k)).lookup y =
 (names.lookup y).map fun k=>if (k == eN && env.scope.kind == .function && env.kindOf y == some .cell)=true then gR else k:=by
 intro names;induction names with
 | nil =>intro _;exact rfl
 | cons xx r ihh =>
  intro y;obtain ⟨n,k⟩:=xx;have ih:=ihh y;show fT y ((if (k == eN && env.scope.kind == .function && env.kindOf n == some .cell)=true then (n,gR) else (n,k)) :: _)=_;cases hx:y == n with
  | true =>
   have:y=n:=by simpa using hx
   refine rwr this ?_;by_cases hc:(k == eN && env.scope.kind == .function && env.kindOf y == some .cell)=true
   . refine rwl (if_pos hc) ?_;simp only [bN,beq_self_eq_true,iZ];exact rwl (if_pos hc) rfl
   . refine rwl (if_neg hc) ?_;simp only [bN,beq_self_eq_true,iZ];exact rwl (if_neg hc) rfl
  | false =>
   by_cases hc:(k == eN && env.scope.kind == .function && env.kindOf n == some .cell)=true
   . refine rwl (if_pos hc) ?_;simp only [bN,hx];exact ih
   . refine rwl (if_neg hc) ?_;simp only [bN,hx];exact ih
noncomputable def Fq(csc:Scope)(env:Env)(L:Addr):Env :=
 { scope:=relabel csc env,locals:=L,globals:=env.globals,cells:=cellsFrom (L+1) csc.names (F8 env csc.names []),qual:=env.qual,func:=none,code:=env.code,frame:=env.frame,builtins:=env.builtins }
noncomputable def C6(csc:Scope)(h:Heap):Heap:=pushCells (h.push { cls:=.type "dict",data:=.dict #[] }) csc.names
theorem Jw{M:Model}(cl:List (Str × Addr))
 (h:Q (newEnv csc s.heap.objs.size env.globals (cellsFrom (s.heap.objs.size+1) csc.names cl) env.qual none .none (some env) builtinsNs) { s with heap:=C6 csc s.heap }) :
 wpAny M A (newFunctionEnv csc env.globals cl [] env.qual none .none (some env)) Q E s:=by
 simp only [newFunctionEnv,Option.isSome_some,if_true];refine aF (wpAny_alloc ?_);refine aF (wpAny_layCells _ (fun name kind cells=>by cases hkc:kind == gR <;> simp [hkc]) _ _ _ _ ?_);refine rwl (show ({ s with heap:=s.heap.push { cls:=.type "dict",data:=.dict #[] } }:bD).heap.objs.size=s.heap.objs.size+1 from fD ..) ?_;exact aF (aU (aU h))
section
theorem Cb(h:Ki sc csc x=true):csc.kind=.function/\(csc.names.lookup x=some .local\/csc.names.lookup x=some .cell) /\
 (∀ p∈csc.names,csc.names.lookup p.1=some p.2/\(p.2=.free->sc.names.lookup p.1=some .cell\/sc.names.lookup p.1=some .free)) :=
 ⟨of_decide_eq_true (an1 h),Tv (an1 (an2 h)),fun p hp=>have q:=dU.mp (an2 (an2 h)) p hp
  ⟨of_decide_eq_true (an1 q),fun w=>((eJ _ _).mp (an2 q)).elim (fun z=>absurd w (of_decide_eq_false (not_not z))) Tv⟩⟩
theorem Ra{i:Nat}(h:(Ew csc ns)[i]?=some (some y)):ns[i]?=some (some y)/\csc.names.lookup y=some .free:=by refine ex1 (bY.mp (aX.symm.trans h)) fun o zz=>Ad zz fun e h=>?_;refine ex1 (dC.mp h) fun z zz=>Ad zz fun e2 h=>?_;obtain ⟨q,h⟩:=Mw h;exact h▸⟨e.trans (congrArg some e2),q⟩
theorem Cs(csc:Scope)(h:Heap):∀ b o,h.get? b=some o->(C6 csc h).get? b=some o:=fun b o e=>tC _ _ b o (bR _ e)
theorem Yw(R:Rel H ρ s)(e0:EnvOk env sc ns Γ ρ s.heap)(hc:Ki sc csc x=true)(hΓ:Γ.length=ns.length) :
 EnvOk (Fq csc env s.heap.objs.size) csc (Ew csc ns++[some x]) (Γ++[none]) ρ (C6 csc s.heap) /\
 (∀ q,csc.names.lookup x=some .cell->(Fq csc env s.heap.objs.size).cells.lookup x=some q->s.heap.get? q=none):=by
 refine Ap (Cb hc) fun c1 c2 c3=>?_;have F:Full ρ s.heap ρ (C6 csc s.heap):=Full.more (Cs csc s.heap);have lvB:F5 cx.h₀ s.heap:=fun b o e=>⟨o,R.base b o e⟩;have ok:=cellsFrom_ok csc.names (s.heap.push { cls:=.type "dict",data:=.dict #[] }) (s.heap.objs.size+1) [] ⟨fun _ _ hm=>(nomatch hm),nX⟩ (by rw [fD];exact aN _);rw [fD] at ok;have hcells:(Fq csc env s.heap.objs.size).cells=cellsFrom (s.heap.objs.size+1) csc.names []++F8 env csc.names []:=Jv _ _ _;have hlook:∀ y c,(Fq csc env s.heap.objs.size).cells.lookup y=some c ->
  ((cellsFrom (s.heap.objs.size+1) csc.names []).lookup y=some c/\(C6 csc s.heap).IsCell c none/\s.heap.get? c=none/\csc.names.lookup y=some .cell) \/
  (env.cells.lookup y=some c/\csc.names.lookup y=some .free):=by
  intro y c h
  rw [hcells,lX] at h
  cases q:(cellsFrom (s.heap.objs.size+1) csc.names []).lookup y with
  | some d =>
   rw [q] at h
   cases h
   have m:=ok.empty y c (mem_of_lookup q)
   refine .inl ⟨rfl,m.1,Gx (iE m.2),?_⟩
   rcases Im (mem_of_lookup q) with w | w
   . exact (c3 _ w).1
   . exact nomatch w
  | none =>
   rw [q] at h
   have h':(F8 env csc.names []).lookup y=some c:=h
   have m:=Ado h'
   have mf:(y,eN)∈csc.names:=by
    rcases m with m | m
    . exact m
    . exact C0 m
   obtain ⟨l1,l2⟩:=c3 _ mf
   obtain ⟨d,hd⟩:=e0.st.hasCell y (l2 rfl)
   have v:=Adm (acc:=[]) (fun z d h=>by simp at h) h'
   rw [hd] at v
   exact .inr ⟨by refine rwl hd (rwl v ?_);rfl,l1⟩
 have hfree:∀ y,csc.names.lookup y=some .free->∃ c,(Fq csc env s.heap.objs.size).cells.lookup y=some c/\env.cells.lookup y=some c:=by
  intro y hy;have:=Adn (env:=env) (acc:=[]) (.inl (mem_of_lookup hy));obtain ⟨c,h⟩:=dI.mp this;have hn:(cellsFrom (s.heap.objs.size+1) csc.names []).lookup y=none:=by
   cases q:(cellsFrom (s.heap.objs.size+1) csc.names []).lookup y with
   | none=>rfl
   | some d =>
    rcases Im (mem_of_lookup q) with w | w
    . have:=(c3 _ w).1;rw [hy] at this;cases this
    . exact nomatch w
  have hl:(Fq csc env s.heap.objs.size).cells.lookup y=some c:=by refine rwl hcells (rwl lX (rwl hn ?_));exact h
  refine ⟨c,hl,?_⟩;rcases hlook y c hl with ⟨_,_,_,w⟩ | ⟨w,_⟩
  . rw [hy] at w;exact nomatch w
  . exact w
 have hkind:∀ y,(Fq csc env s.heap.objs.size).kindOf y=(csc.names.lookup y).map fun k=>if (k == eN && env.scope.kind == .function && env.kindOf y == some .cell)=true then gR else k:=fun y=>Lu csc.names y;have locNs:(C6 csc s.heap).Ns s.heap.objs.size fun _=>none:=(Heap.Ns.new s.heap (.type "dict")).keeps (tC _ _);refine ⟨⟨⟨c1,e0.st.glob,e0.st.blt,fun y k hy=>?_,⟨_,locNs⟩,R.fresh_not (Ar _),lvB.none (Ar _),fun y c hy=>?_,fun y hy=>?_,fun y z c hy hz=>?_⟩,by unfold Ew;refine rwl aK (rwl aK ?_);rw [aM];refine rwl hΓ ?_;rfl,fun i y mv hi hm=>?_⟩,fun q hx hq=>?_⟩
 . rw [hkind];refine rwl hy ?_;cases k;case free =>
    by_cases q:(eN == eN && env.scope.kind == .function && env.kindOf y == some .cell)=true
    . exact .inr (congrArg some (if_pos q))
    . exact .inl (congrArg some (if_neg q))
   all_goals first | rfl | trivial
 . rcases hlook y c hy with ⟨_,w1,w2,_⟩ | ⟨w,_⟩
   . exact ⟨⟨_,w1⟩,R.fresh_not w2,lvB.none w2⟩
   . refine Ap (e0.st.cells y c w) fun zn0 n b=>?_;obtain ⟨v,hv⟩:=zn0;exact ⟨⟨v,Bq hv (F.data n)⟩,n,b⟩
 . rcases hy with hy | hy
   . refine rwl hcells (rwl lX ?_);obtain ⟨c,h⟩:=dI.mp (Ie (n:=s.heap.objs.size+1) (acc:=[]) (.inl (mem_of_lookup hy)));exact ⟨c,by refine rwl h ?_;rfl⟩
   . refine ex1 (hfree y hy) fun c zz=>Ad zz fun h _=>?_;exact ⟨c,h⟩
 . rcases hlook y c hy with ⟨w0,w1,w2,_⟩ | ⟨w,_⟩ <;> rcases hlook z c hz with ⟨u0,u1,u2,_⟩ | ⟨u,_⟩
   . exact name_of_addr ok.apart (mem_of_lookup w0) (mem_of_lookup u0)
   . obtain ⟨⟨v,o,ho,_⟩,_⟩:=e0.st.cells z c u;rw [w2] at ho;exact Af ho
   . obtain ⟨⟨v,o,ho,_⟩,_⟩:=e0.st.cells y c w;rw [u2] at ho;exact Af ho
   . exact e0.st.apart y z c w u
 . by_cases lt:i < ns.length
   . rw [bB (by unfold Ew;rw [aM];exact lt)] at hi;rw [bB (by refine rwl hΓ ?_;exact lt)] at hm;obtain ⟨hn,hf⟩:=Ra hi
     . . . refine Ae fun G kG=>?_;refine ex1 (e0.vals i y mv hn hm) fun v zz=>Ad zz fun hv vr=>?_;refine ex1 (hfree y hf) fun c zz=>Ad zz fun k1 k2=>?_;refine kG ?_;have ks:env.kindOf y=some .cell\/env.kindOf y=some .free:=by
            rcases (c3 _ (mem_of_lookup hf)).2 rfl with w | w
            . exact .inl (e0.st.kinds y _ w)
            . rcases e0.st.kinds y _ w with w | w
              . exact .inr w
              . exact .inl w
           have hcell:s.heap.IsCell c (some v):=by
            rcases hv with ⟨kd,_⟩ | ⟨_,c',hc',hv⟩
            . rcases ks with w | w <;> rw [w] at kd <;> cases kd
            . rw [k2] at hc';cases hc';exact hv
           refine ⟨v,.inr ⟨?_,c,k1,hcell.keeps (Cs csc s.heap)⟩,vr.step F.step⟩;rw [hkind];refine rwl hf ?_;simp only [iZ];split
           . exact .inl rfl
           . exact .inr rfl
   . exfalso;rw [aS (by refine rwl hΓ ?_;exact aW.mp lt)] at hm;cases q:i - Γ.length with
     | zero=>rw [q] at hm;simp at hm
     | succ n=>rw [q] at hm;simp at hm
 . rcases hlook x q hq with ⟨_,_,w,_⟩ | ⟨_,w⟩
   . exact w
   . rw [hx] at w;cases w
end
section
variable{A:fI}{env:Env}{ns:List (Option Str)}{Γ:Env'}{H:Hp}{ρ ρ':Rho}{s:bD}
theorem Full.fresh(F:Full ρ h ρ' h1)(hq:h.get? q=none)(hs:∀ b o,b≠q->h1.get? b=some o->h2.get? b=some o):Full ρ h ρ' h2:=by
 have ne:∀ b o,h.get? b=some o->b≠q:=fun b o e w=>by rw [w,hq] at e;exact Af e
 refine ⟨F.grow,fun b o e n=>?_,fun b o e=>?_⟩
 . refine ex1 (F.keep b o e n) fun o' zz=>Ad zz fun e' u=>?_;exact ⟨o',hs b o' (ne b o e) e',u⟩
 . obtain ⟨o',e'⟩:=F.live b o e;exact ⟨o',hs b o' (ne b o e) e'⟩
theorem Full.addOwn(F:Full ρ h ρ' h1)(hp:h.get? p.1=none/\h.get? p.2=none):Full ρ h (ρ'++[p]) h1:=by
 refine ex1 F.grow fun e zz=>Ad zz fun hr0 he=>?_;refine rwl hr0 ?_;refine ⟨⟨e++[p],by rw [bJ],fun q hq=>?_⟩,F.keep,F.live⟩;rcases bM.mp hq with hq | hq
 . exact he q hq
 . refine rwl (aT.mp hq) ?_;exact hp
theorem EnvOk.but(x:EnvOk env sc ns Γ ρ h)(hs:∀ b o,b≠q->h.get? b=some o->h'.get? b=some o)(n1:q≠env.locals)(n2:∀ y,env.cells.lookup y≠some q)(st:Step ρ h ρ h'):EnvOk env sc ns Γ ρ h':=by
 have kl:∀ o,h.get? env.locals=some o->∃ o',h'.get? env.locals=some o'/\o'.data=o.data:=fun o e=>⟨o,hs _ o (fun w=>n1 w.symm) e,rfl⟩;have kc:∀ y c,env.cells.lookup y=some c->∀ o,h.get? c=some o->∃ o',h'.get? c=some o'/\o'.data=o.data:=fun y c hc o e=>⟨o,hs _ o (fun w=>n2 y (w▸hc)) e,rfl⟩;obtain ⟨m,hm⟩:=x.st.loc;refine ⟨⟨x.st.fn,x.st.glob,x.st.blt,x.st.kinds,⟨m,Bo hm kl⟩,x.st.locN,x.st.locB,fun y c hc=>?_,x.st.hasCell,x.st.apart⟩,x.len,fun i y mv hi hm=>?_⟩
 . refine Ap (x.st.cells y c hc) fun zn0 a b=>?_;obtain ⟨v,hv⟩:=zn0;exact ⟨⟨v,Bq hv (kc y c hc)⟩,a,b⟩
 . refine ex1 (x.vals i y mv hi hm) fun v zz=>Ad zz fun hv r=>?_;refine ⟨v,?_,r.step st⟩;rcases hv with ⟨k,m,hm,e⟩ | ⟨k,c,hc,e⟩
   . exact .inl ⟨k,m,Bo hm kl,e⟩
   . exact .inr ⟨k,c,hc,Bq e (kc y c hc)⟩
theorem Rel.adopt(R:Rel H ρ s)(e:s.heap.get? D=some (B4 vs n))(r:VRs ρ s.heap xs vs)(z:xs.length<=sizeLine)(no:¬Ay ρ D)(nb:cx.h₀.get? D=none) :
 Rel (H++[.list xs]) (ρ++[(D,D)]) s/\VR (ρ++[(D,D)]) s.heap (.loc H.length) (.ref D):=by
 have notF:¬F7 (B4 vs n):=Fa.1;have notC:∀ C,¬Ds (B4 vs n) C:=Fa.2;have own:∀ b,¬Ay ρ b->b≠D->¬Ay (ρ++[(D,D)]) b:=fun b nb ne ⟨p,hp,h⟩=>by
  rcases bM.mp hp with hp | hp
  . exact nb ⟨p,hp,h⟩
  . rw [aT.mp hp] at h;rcases h with h | h <;> exact ne h
 have st:Step ρ s.heap (ρ++[(D,D)]) s.heap:=⟨⟨_,rfl⟩,fun b o eb f nb=>⟨eb,own b nb fun w=>by rw [w,e] at eb;cases eb;exact notF f⟩,fun b o C eb c nb=>⟨o,eb,c,own b nb fun w=>by rw [w,e] at eb;cases eb;exact notC C c⟩⟩;have nD:∀ p∈ρ,p.1≠D/\p.2≠D:=fun p hp=>⟨fun w=>no ⟨p,hp,.inl w.symm⟩,fun w=>no ⟨p,hp,.inr w.symm⟩⟩;have at':∀ {i:Nat} {q:Addr × Addr},(ρ++[(D,D)])[i]?=some q->ρ[i]?=some q\/(i=ρ.length/\q=(D,D)):=by
  intro i q h;by_cases lt:i < ρ.length
  . rw [bB lt] at h;exact .inl h
  . have hl':=(aE.mp h).1;have le:i=ρ.length:=by rw [aK] at hl';simp at hl';exact o1 hl' lt
    subst le;rw [aS (aN _)] at h;simp at h;exact .inr ⟨rfl,h.symm⟩
 refine ⟨⟨by refine rwl aK (rwl aK (rwl R.len ?_));rfl,fun l ob q hl hq=>?_,fun i j q r hij hi hj=>?_,fun q hq=>?_,R.base,R.sys,R.rest⟩,?_⟩
 . rcases at' hq with hq | ⟨rfl,rfl⟩
   . have lt:l < H.length:=by refine rwl R.len ?_;exact (aE.mp hq).1
     rw [bB lt] at hl;exact (R.objs l ob q hl hq).step st fun b ob _ e=>e
   . rw [<- R.len,aS (aN _)] at hl;simp at hl;subst hl;exact .list e (r.step st) z
 . rcases at' hi with hi' | ⟨hi',eq⟩ <;> rcases at' hj with hj' | ⟨hj',er⟩
   . exact R.apart i j q r hij hi' hj'
   . have q:=nD _ (aH hi');refine rwl er ?_;exact ⟨⟨q.1,q.1⟩,q.2,q.2⟩
   . have q:=nD _ (aH hj');refine rwl eq ?_;exact ⟨⟨q.1.symm,q.2.symm⟩,q.1.symm,q.2.symm⟩
   . exact absurd (hi'.trans hj'.symm) hij
 . rcases bM.mp hq with hq | hq
   . exact R.new q hq
   . refine rwl (aT.mp hq) ?_;exact ⟨nb,nb⟩
 . refine rwl R.len ?_;exact VR.loc (p:=(D,D)) (by refine rwl (aS (aN _)) ?_;simp)
structure CInv(ρ₁:Rho)(h₁:Heap)(D I:Addr)(cenv:Env)(csc:Scope)(ns':List (Option Str))(Γ:Env')(xs:List Val)(src:Option Nat)(i:Nat)(done:List Val)(H:Hp)(ρ:Rho)(s:bD):Prop where
 full:Full ρ₁ h₁ ρ s.heap
 rel:Rel H ρ s
 env:∃ o,EnvOk cenv csc ns' (Γ++[o]) ρ s.heap
 it:ItOk xs I i ρ s.heap src
 acc:∃ vs n,s.heap.get? D=some (B4 vs n)/\VRs ρ s.heap done vs
 nD:¬Ay ρ D
 nI:¬Ay ρ I
variable{Φ:Funs}{l:List Env}{csc:Scope}{x:Str}{cond:MEo}{elt:ME}{ifs:List Expr}{e:Expr}
noncomputable def Jp(T:Tab)(Φ:Funs)(cond:MEo)(elt:ME)(Γ:Env')(x:Val):M (Option Val):=(evalC T Φ cond (Γ++[some x])).bnd fun b=>match b with
 | true=>(Aj T Φ elt (Γ++[some x])).bnd fun y=>.ret (some y)
 | false=>.ret none
theorem Uz(g:s.heap.get? D=some (B4 vs n))(z:vs.length<=sizeLine)
 (k:∀ h' n',h'.get? D=some (B4 (vs++[v]) n')->eU D s.heap h'->Q .none { s with heap:=h' }):wpAny (model cx.prog cx.w) A (call (.builtin "list.append") [.ref D,v]) Q E s:=by
 refine mU mO ⟨_,g,rfl⟩ qV (qH _ _) (list_append D vs.toArray n v (by simpa using z)) ⟨g,?_⟩;obtain ⟨n',e⟩:=Kl vs n (fun x=>x.push v);refine k _ n' ?_ (eT ..);refine rwl (eP _ g (by skip;rfl)) (rwl e ?_);simp
theorem U0(h:Fm c f [] H=.ok r H'):c H=true/\r=[]/\H=H':=by
 have h:(if c H=true then Res.ok [] H else .bad)=Res.ok r H':=h;by_cases q:c H=true
 . rw [if_pos q] at h;cases h;exact ⟨q,rfl,rfl⟩
 . rw [if_neg q] at h;exact Eo h
theorem Sh(h:Fm c f (m :: xs) H=.ok rest H') :
 c H=true/\∃ r H3,f m H=.ok r H3/\∃ rest',Fm c f xs H3=.ok rest' H'/\rest=(match r with | some y=>y :: rest' | none=>rest'):=by
 have h:(if c H=true then ((f m).bnd fun r=>(Fm c f xs).bnd fun ys=>M.ret (match r with | some y=>y :: ys | none=>ys)) H else .bad)=.ok rest H':=h;by_cases q:c H=true
 . rw [if_pos q] at h;refine ⟨q,?_⟩;cases e1:f m H with
   | bad=>rw [Dt e1] at h;exact nomatch h
   | exc c H3=>rw [Fk e1] at h;exact L2 h
   | ok r H3 =>
    rw [Eh e1] at h;cases e2:Fm c f xs H3 with
    | bad=>rw [Dt e2] at h;exact nomatch h
    | exc c H4=>rw [Fk e2] at h;exact L2 h
    | ok rest' H4 =>rw [Eh e2] at h;cases h;exact ⟨r,H3,rfl,rest',e2,rfl⟩
 . rw [if_neg q] at h;exact Eo h
theorem U1(h:Jp T Φ cond elt Γ m H=.ok r H3) :
 ∃ b H4,evalC T Φ cond (Γ++[some m]) H=.ok b H4/\((b=false/\r=none/\H4=H3)\/(b=true/\∃ y,Aj T Φ elt (Γ++[some m]) H4=.ok y H3/\r=some y)):=by
 unfold Jp at h;cases e3:evalC T Φ cond (Γ++[some m]) H with
 | bad=>rw [Dt e3] at h;exact Eo h
 | exc c H4=>rw [Fk e3] at h;exact L2 h
 | ok b H4 =>
  rw [Eh e3] at h;refine ⟨b,H4,rfl,?_⟩;cases b with
  | false=>cases h;exact .inl ⟨rfl,rfl,rfl⟩
  | true =>
   refine .inr ⟨rfl,?_⟩;dsimp only at h;cases e4:Aj T Φ elt (Γ++[some m]) H4 with
   | bad=>rw [Dt e4] at h;exact Eo h
   | exc c H5=>rw [Fk e4] at h;exact L2 h
   | ok y H5=>rw [Eh e4] at h;cases h;exact ⟨y,rfl,rfl⟩
theorem U2(hl:ns'.length=ns.length+1)(hx':ns'[ns.length]?=some (some x)){s₁:bD}(hh:A.handled=none)
 (hD:s₁.heap.get? D=none) (hI:s₁.heap.get? I=none) (hDI:D≠I) (hC:s₁.heap.get? cenv.locals=none) (hX:∀ q,csc.names.lookup x=some .cell->cenv.cells.lookup x=some q->s₁.heap.get? q=none)
 (hnd:∀ (i j:Nat) (y:Str),ns'[i]?=some (some y)->ns'[j]?=some (some y)->i=j) (hΓ:Γ.length=ns.length) (hxk:csc.names.lookup x=some .local\/csc.names.lookup x=some .cell)
 (fr:A6 l ρ₁ s₁.heap) (lvB:F5 cx.h₀ s₁.heap)
 (tests:∀ Γ':Env',Γ'.length=ns'.length->Sim A ((Amb.env cenv csc ns' Γ').and (Amb.frames l)) (forIn ifs true fun c r=>if r=true then do let ok<-isTrue c cenv (eval c cenv);pure (fE ok) else pure (fE r)) (evalC cx.T Φ cond Γ') BV)
 (elts:∀ Γ':Env',Γ'.length=ns'.length->Sim A ((Amb.env cenv csc ns' Γ').and (Amb.frames l)) (eval e cenv) (Aj cx.T Φ elt Γ') (Amb.vr))
 (hz:ys.length < sizeLine) (ci:CInv ρ₁ s₁.heap D I cenv csc ns' Γ xs src 0 [] H₁ ρ s) (hres:Fm (chk src xs) (Jp cx.T Φ cond elt Γ) xs H₁=.ok ys H₂)
 (k:∀ ρ' s',Full ρ₁ s₁.heap ρ' s'.heap->Rel (H₂++[.list ys]) ρ' s'->VR ρ' s'.heap (.loc H₂.length) (.ref D)->(∃ m,s'.heap.Ns cenv.locals m)->¬Ay ρ' cenv.locals->R (.ok .next) s') :
 codeAny (model cx.prog cx.w) A (.compLoop (.ListComp e [⟨.Name x px,iter,ifs,0⟩] csc pos) 0 (.ref I) (.ref D) cenv) R s:=by
 obtain ⟨Inv,hInv⟩:∃ Inv:Nat->bD->Prop,∀ n s,Inv n s↔∃ i done H ρ rest,CInv ρ₁ s₁.heap D I cenv csc ns' Γ xs src i done H ρ s/\i<=xs.length/\n=xs.length+1 - i /\
  Fm (chk src xs) (Jp cx.T Φ cond elt Γ) (xs.drop i) H=.ok rest H₂/\done++rest=ys:=⟨_,fun _ _=>oX⟩
 refine codeAny_compLoop_tests Inv ?_ (xs.length+1) ((hInv _ _).mpr ⟨0,[],H₁,ρ,ys,ci,bH _,rfl,hres,rfl⟩)
 intro n s hin
 refine Ae fun G kG=>?_
 refine ex5 ((hInv _ _).mp hin) fun i done H ρ rest zz=>G7 zz fun ci hi hr0 hr hys=>?_
 refine ex2 ci.acc fun vs nn zz=>Ad zz fun gD rD=>?_
 obtain ⟨oo,eok⟩:=ci.env
 refine ex1 ci.it.obj fun oI zz=>Ad zz fun gI iO=>?_
 refine kG ?_
 cases hx:xs[i]? with
 | none =>
  have hlen:=cZ.mp hx
  rw [kO hlen] at hr
  refine Ap (U0 hr) fun ck zr1 zr2=>?_;subst zr1;subst zr2
  rw [dJ] at hys
  subst hys
  refine iter_end hh ci.rel ci.it ck hx fun h' tk he=>?_
  have gD':h'.get? D=some (B4 vs nn):=he D _ hDI gD
  have st:Step ρ s.heap ρ h':=Step.ext gI he iO.not.1 iO.not.2
  have bI:cx.h₀.get? I=none:=lvB.none hI
  have R':Rel H ρ { s with heap:=h',toks:=tk }:=ci.rel.same st (fun b o ho eb=>he b o (fun w=>ci.nI (w▸ho)) eb) fun b o eb=>he b o (fun w=>by rw [w,bI] at eb;exact nomatch eb) (ci.rel.base b o eb)
  obtain ⟨R2,v2⟩:=Rel.adopt (s:={ s with heap:=h',toks:=tk }) R' gD' (rD.step st) (aJ hz) ci.nD (lvB.none hD)
  have F2:Full ρ₁ s₁.heap ρ h':=ci.full.fresh hI he
  obtain ⟨m,hm⟩:=eok.st.loc
  have nIl:I≠cenv.locals:=eok.st.notLoc gI iO.notDict
  refine k _ _ (F2.addOwn ⟨hD,hD⟩) R2 v2 ⟨m,Bo hm fun o eo=>⟨o,he _ o (fun w=>nIl w.symm) eo,rfl⟩⟩ ?_
  intro ⟨p,hp,h⟩
  rcases bM.mp hp with hp | hp
  . exact eok.st.locN ⟨p,hp,h⟩
  . rw [aT.mp hp] at h
    have:cenv.locals=D:=by rcases h with h | h <;> exact h
    exact eok.st.notLoc gD (fun es k q=>by cases q) this.symm
 | some m =>
  have lt:i < xs.length:=(aE.mp hx).1
  have hdrop:xs.drop i=m :: xs.drop (i+1):=by
   refine rwl (fJ lt) ?_
   rw [aI lt] at hx
   cases hx;rfl
  rw [hdrop] at hr
  refine Ae fun G kG=>?_
  refine Ad (Sh hr) fun ck zz=>ex2 zz fun r H3 zz=>Ad zz fun e1 zz=>ex1 zz fun rest' zz=>Ad zz fun e2 hrest=>?_
  refine kG ?_
  refine Km ci.rel ci.it ck hx fun v h' tk hs hlive kk=>?_
  obtain ⟨oI',gI'⟩:=hlive
  have st:Step ρ s.heap ρ h':=Step.but gI' gI hs iO.not.1 iO.not.2
  obtain ⟨vm,it'⟩:=kk st
  have bI:cx.h₀.get? I=none:=lvB.none hI
  have R':Rel H ρ { s with heap:=h',toks:=tk }:=ci.rel.but gI' gI hs iO.not.1 iO.not.2 ci.nI bI
  have ext:∀ b o,b≠I->s.heap.get? b=some o->h'.get? b=some o:=fun b o nb eb=>by refine rwl (hs.2 b nb) ?_;exact eb
  have eok':EnvOk cenv csc ns' (Γ++[oo]) ρ h':=eok.but ext (eok.st.notLoc gI iO.notDict) (eok.st.notCell gI iO.notCell) st
  have F':Full ρ₁ s₁.heap ρ h':=ci.full.fresh hI ext
  have gD':h'.get? D=some (B4 vs nn):=ext D _ hDI gD
  have own:E7 csc ns' ns.length x=true:=(fR _ _).mpr ⟨(eJ _ _).mpr (hxk.imp decide_eq_true decide_eq_true),decide_eq_true hx'⟩
  refine iT (E9 (s:={ s with heap:=h',toks:=tk }) (Γ:=Γ++[oo]) (by refine rwl aK (rwl hΓ (rwl hl ?_));rfl) hnd R' eok' own vm fun h2 tk2 FS R2 eok2 hq=>?_)
  refine Ae fun G kG=>?_
  refine ex2 hq fun q oq zz=>Ap zz fun hqd hqs gq=>?_
  have set_eq:(Γ++[oo]).set ns.length (some m)=Γ++[some m]:=by
   refine rwr hΓ (rwl (lB _ _ (aN _)) ?_);rw [iC];rfl
  rw [set_eq] at eok2
  have qfresh:s₁.heap.get? q=none:=by
   rcases hqd with ⟨_,rfl⟩ | ⟨w1,w2⟩
   . exact hC
   . exact hX q w1 w2
  have ext2:∀ b o,b≠q->h'.get? b=some o->h2.get? b=some o:=fun b o nb eb=>by refine rwl (hqs.2 b nb) ?_;exact eb
  have F2:Full ρ₁ s₁.heap ρ h2:=F'.fresh qfresh ext2
  have qD:D≠q:=by
   rcases hqd with ⟨_,rfl⟩ | ⟨w1,w2⟩
   . exact eok'.st.notLoc gD' (fun es k q=>by cases q)
   . exact fun w=>eok'.st.notCell gD' (fun v q=>by cases q) x (w▸w2)
  refine ex1 it'.obj fun oI2 zz=>Ad zz fun gI2 iO2=>?_
  refine kG ?_
  have qI:I≠q:=by
   rcases hqd with ⟨_,rfl⟩ | ⟨w1,w2⟩
   . exact eok'.st.notLoc gI2 iO2.notDict
   . exact fun w=>eok'.st.notCell gI2 iO2.notCell x (w▸w2)
  have St2:Step ρ h' ρ h2:=FullS.step eok'.st FS
  have it2:ItOk xs I (i+1) ρ h2 src:=it'.step St2 fun o eo=>ext2 I o qI eo
  have rD2:VRs ρ h2 done vs:=(rD.step st).step St2
  have gD2:h2.get? D=some (B4 vs nn):=ext2 D _ qD gD'
  have lenG:(Γ++[some m]).length=ns'.length:=by refine rwl aK (rwl hΓ (rwl hl ?_));rfl
  -- the tests
  refine ex2 (U1 e1) fun b H4 zz=>Ad zz fun e3 e4=>?_
  have T:=tests (Γ++[some m]) lenG H ρ { s with heap:=h2,toks:=tk2 } R2 ⟨eok2,fr.full F2⟩
  rw [e3] at T
  refine aL T (fun b' s3 ⟨ρ3,F3,R3,hb⟩=>?_) fun _ _ q=>q.elim
  have hb':b'=b:=hb
  refine rwl hb' ?_
  have F3':Full ρ₁ s₁.heap ρ3 s3.heap:=F2.trans F3
  have gD3:s3.heap.get? D=some (B4 vs nn):=F3.keep.exact gD2 ci.nD (fun es k q=>by cases q)
  have nD3:¬Ay ρ3 D:=F3.grow.not ci.nD gD2
  refine ex1 it2.obj fun oI3 zz=>Ad zz fun gI3 iO3=>?_
  have it3:ItOk xs I (i+1) ρ3 s3.heap src:=it2.step F3.step fun o eo=>by
   rw [gI3] at eo;cases eo
   exact F3.keep.exact gI3 ci.nI iO3.notDict
  have nI3:¬Ay ρ3 I:=F3.grow.not ci.nI gI3
  have rD3:VRs ρ3 s3.heap done vs:=rD2.step F3.step
  have eok3:EnvOk cenv csc ns' (Γ++[some m]) ρ3 s3.heap:=eok2.full F3
  rcases e4 with ⟨rfl,rfl,rfl⟩ | ⟨rfl,y,e4,rfl⟩
  . skip
    exact ⟨xs.length+1 - (i+1),by exact Ah6 lt hr0,(hInv _ _).mpr ⟨i+1,done,H4,ρ3,rest',⟨F3',R3,⟨_,eok3⟩,it3,⟨vs,nn,gD3,rD3⟩,nD3,nI3⟩,lt,rfl,e2,by exact rwr hys (rwl hrest rfl)⟩⟩
  . skip
    have T2:=elts (Γ++[some m]) lenG H4 ρ3 s3 R3 ⟨eok3,fr.full F3'⟩
    rw [e4] at T2
    refine aL T2 (fun yv s4 ⟨ρ4,F4,R4,hy⟩=>?_) fun _ _ q=>q.elim
    have F4':Full ρ₁ s₁.heap ρ4 s4.heap:=F3'.trans F4
    have gD4:s4.heap.get? D=some (B4 vs nn):=F4.keep.exact gD3 nD3 (fun es k q=>by cases q)
    have nD4:¬Ay ρ4 D:=F4.grow.not nD3 gD3
    refine ex1 it3.obj fun oI4 zz=>Ad zz fun gI4 iO4=>?_
    have it4:ItOk xs I (i+1) ρ4 s4.heap src:=it3.step F4.step fun o eo=>by
     rw [gI4] at eo;cases eo
     exact F4.keep.exact gI4 nI3 iO4.notDict
    have nI4:¬Ay ρ4 I:=F4.grow.not nI3 gI4
    have rD4:VRs ρ4 s4.heap done vs:=rD3.step F4.step
    have eok4:=eok3.full F4
    have hlenD:vs.length < sizeLine:=by
     refine rwr rD.length ?_
     have t1:ys.length=done.length+rest.length:=by exact rwr hys (rwl aK rfl)
     have t2:done.length < ys.length:=by refine rwl t1 (rwl hrest ?_);simp
     exact aR t2 hz
    refine Uz gD4 (aJ hlenD) fun h5 n5 gD5 hs5=>?_
    have St5:Step ρ4 s4.heap ρ4 h5:=Step.but gD5 gD4 hs5 Fa.1 Fa.2
    have ext5:∀ b o,b≠D->s4.heap.get? b=some o->h5.get? b=some o:=fun b o nb eb=>by refine rwl (hs5.2 b nb) ?_;exact eb
    have R5:Rel H3 ρ4 { s4 with heap:=h5 }:=R4.but (tk:=s4.toks) gD5 gD4 hs5 Fa.1 Fa.2 nD4 (lvB.none hD)
    refine ⟨xs.length+1 - (i+1),by exact Ah6 lt hr0,(hInv _ _).mpr ⟨i+1,done++[y],H3,ρ4,rest',⟨F4'.fresh hD ext5,R5,⟨_,eok4.but ext5 (eok4.st.notLoc gD4 (fun es k q=>by cases q)) (eok4.st.notCell gD4 (fun v q=>by cases q)) St5⟩,it4.step St5 fun o eo=>ext5 I o (fun w=>hDI w.symm) eo,⟨_,_,gD5,(rD4.step St5).append (.one (hy.step St5))⟩,nD4,nI4⟩,lt,rfl,e2,?_⟩⟩
    refine rwr hys (rwl hrest ?_);rw [bJ];rfl
end
theorem E0(h:Ei i=true)(env:Env)(x:Value):foldedSetIterable i env x=pure x:=by cases i <;> first | rfl | exact C0 h
section
variable{A:fI}{env:Env}{sc csc:Scope}{ns:List (Option Str)}{Γ:Env'}{H:Hp}{ρ ρ':Rho}{s:bD}{Φ:Funs}{l:List Env}{x:Str}{cond:MEo}{elt:ME}{ifs:List Expr}{e:Expr}
theorem Rel.ext(R:Rel H ρ s)(e:s.heap.get? a=some o)(hs:lH a s.heap h')(n1:¬F7 o)(n2:∀ C,¬Ds o C)(no:¬Ay ρ a)(nb:cx.h₀.get? a=none) :
 Rel H ρ { s with heap:=h',toks:=tk } :=
 R.same (Step.ext e hs n1 n2) (fun b ob ho eb=>hs b ob (fun q=>no (q▸ho)) eb) fun b ob eb=>hs b ob (fun q=>by subst q;rw [nb] at eb;cases eb) (R.base b ob eb)
theorem U3(x:ItOk xs I i ρ s.heap src)(k:Q (.ref I) s):wpAny (model cx.prog cx.w) A (pyIter (.ref I)) Q E s:=by
 cases x with
 | list hp hi=>exact wpAny_pyIter_listiter hi k
 | tup e n r hi=>exact wpAny_pyIter_tupleiter hi k
 | rng e hi=>exact wpAny_pyIter_rangeiter hi k
structure CParts(A:fI)(Φ:Funs)(l:List Env)(csc:Scope)(ns':List (Option Str))(cond:MEo)(elt:ME)(ifs:List Expr)(e:Expr):Prop where
 tests:∀ (cenv:Env) (Γ':Env'),Γ'.length=ns'.length->Sim A ((Amb.env cenv csc ns' Γ').and (Amb.frames l)) (forIn ifs true fun c r=>if r=true then do let ok<-isTrue c cenv (eval c cenv);pure (fE ok) else pure (fE r)) (evalC cx.T Φ cond Γ') BV
 elts:∀ (cenv:Env) (Γ':Env'),Γ'.length=ns'.length->Sim A ((Amb.env cenv csc ns' Γ').and (Amb.frames l)) (eval e cenv) (Aj cx.T Φ elt Γ') (Amb.vr)
theorem Gh(hnd:∀ (i j:Nat) (y:Str),ns[i]?=some (some y)->ns[j]?=some (some y)->i=j)(hx:csc.names.lookup x=some .local\/csc.names.lookup x=some .cell) :
 ∀ (i j:Nat) (y:Str),(Ew csc ns++[some x])[i]?=some (some y)->(Ew csc ns++[some x])[j]?=some (some y)->i=j:=by
 have lenN:(Ew csc ns).length=ns.length:=by unfold Ew;rw [aM]
 have at':∀ (i:Nat) (y:Str),(Ew csc ns++[some x])[i]?=some (some y)->(ns[i]?=some (some y)/\csc.names.lookup y=some .free)\/(i=ns.length/\y=x):=by
  intro i y h;by_cases lt:i < ns.length
  . rw [bB (by refine rwl lenN ?_;exact lt)] at h;exact .inl (Ra h)
  . rw [aS (by refine rwl lenN ?_;exact aW.mp lt),lenN] at h;cases q:i - ns.length with
    | zero=>rw [q] at h;simp at h;exact .inr ⟨by exact Aj3 q lt,h.symm⟩
    | succ n=>rw [q] at h;simp at h
 intro i j y hi hj;rcases at' i y hi with ⟨a1,a2⟩ | ⟨a1,a2⟩ <;> rcases at' j y hj with ⟨b1,b2⟩ | ⟨b1,b2⟩
 . exact hnd i j y a1 b1
 . subst b2;rcases hx with w | w <;> rw [w] at a2 <;> cases a2
 . subst a2;rcases hx with w | w <;> rw [w] at b2 <;> cases b2
 . exact cP (aC (aD a1) (aD b1.symm)) (aC (aD b1) (aD a1.symm))
theorem Me(hh:A.handled=none)(hc:Ki sc csc x=true)(hnd:∀ (i j:Nat) (y:Str),ns[i]?=some (some y)->ns[j]?=some (some y)->i=j)(hΓ:Γ.length=ns.length)
 (pt:CParts A Φ l csc (Ew csc ns++[some x]) cond elt ifs e)
 {RR:Value->Addr->Result->bD->Prop} 
 (R:Rel H ρ s) (e0:EnvOk env sc ns Γ ρ s.heap) (fr:A6 l ρ s.heap) (vr:VR ρ s.heap v xv) (hit:Dg v H=some (xs,src)) (hres:Fm (chk src xs) (Jp cx.T Φ cond elt Γ) xs H=.ok ys H₂) (hz:ys.length < sizeLine)
 (k:∀ D C ρ' s',Full ρ s.heap ρ' s'.heap->Rel (H₂++[.list ys]) ρ' s'->VR ρ' s'.heap (.loc H₂.length) (.ref D)->(∃ m,s'.heap.Ns C m)->¬Ay ρ' C->s.heap.get? C=none->RR (.ref D) C (.ok .next) s') :
 wpAny (model cx.prog cx.w) A (pyIter xv) (fun it s₂=>wpAny (model cx.prog cx.w) A (newList []) (fun acc s₃=>wpAny (model cx.prog cx.w) A (newFunctionEnv csc env.globals (F8 env csc.names []) [] env.qual none .none (some env)) (fun cenv s₄ =>
  codeAny (model cx.prog cx.w) A (.compStart (.ListComp e [⟨.Name x px,iter,ifs,0⟩] csc pos) 0 it acc { cenv with scope:=relabel csc env }) (RR acc cenv.locals) s₄) E s₃) E s₂) E s:=by
 refine Ap (Cb hc) fun c1 c2 c3=>?_
 have lvB:F5 cx.h₀ s.heap:=fun b o e=>⟨o,R.base b o e⟩
 refine I8 R vr hit fun o go it0=>?_
 refine iR ?_
 refine Jw _ ?_
 -- the three heaps
 generalize hs1:({ s with heap:=s.heap.push o }:bD)=s1 at it0
 have h1:s1.heap=s.heap.push o:=by exact rwr hs1 rfl
 have F1:Full ρ s.heap ρ s1.heap:=by refine rwl h1 ?_;exact Full.push _ _ _
 have R1:Rel H ρ s1:=by refine rwr hs1 ?_;exact R.push o s.toks
 generalize hs2:({ s1 with heap:=s1.heap.push (B4 [] 0) }:bD)=s2
 have h2:s2.heap=s1.heap.push (B4 [] 0):=by exact rwr hs2 rfl
 have F2:Full ρ s1.heap ρ s2.heap:=by refine rwl h2 ?_;exact Full.push _ _ _
 have R2:Rel H ρ s2:=by refine rwr hs2 ?_;exact R1.push (B4 [] 0) s1.toks
 have z1:s1.heap.objs.size=s.heap.objs.size+1:=by refine rwl h1 ?_;rw [fD]
 have z2:s2.heap.objs.size=s.heap.objs.size+2:=by refine rwl h2 ?_;rw [fD];exact rwl z1 rfl
 have F12:Full ρ s.heap ρ s2.heap:=F1.trans F2
 have e2:EnvOk env sc ns Γ ρ s2.heap:=e0.full F12
 obtain ⟨ce,cf⟩:=Yw R2 e2 hc hΓ
 have F3:Full ρ s2.heap ρ (C6 csc s2.heap):=Full.more (Cs csc s2.heap)
 have R3:Rel H ρ { s2 with heap:=C6 csc s2.heap }:=R2.more (tk:=s2.toks) (Cs csc s2.heap)
 have hDn:s.heap.get? s1.heap.objs.size=none:=Gx (by refine rwl z1 ?_;exact jC _)
 have hIn:s.heap.get? s.heap.objs.size=none:=Ar _
 have hCn:s.heap.get? s2.heap.objs.size=none:=Gx (by refine rwl z2 ?_;exact aG _ _)
 have gD2:s2.heap.get? s1.heap.objs.size=some (B4 [] 0):=by refine rwl h2 ?_;exact cJ _ rfl
 have it1:ItOk xs s.heap.objs.size 0 ρ s1.heap src:=by refine rwl h1 ?_;exact it0
 have go1:s1.heap.get? s.heap.objs.size=some o:=by refine rwl h1 ?_;exact go
 have it3:ItOk xs s.heap.objs.size 0 ρ (C6 csc s2.heap) src:=(it1.step F2.step fun o' eo=>by refine rwl h2 ?_;exact bR _ eo).step F3.step (Cs csc s2.heap _)
 have ci:CInv ρ s.heap s1.heap.objs.size s.heap.objs.size (Fq csc env s2.heap.objs.size) csc (Ew csc ns++[some x]) Γ xs src 0 [] H ρ { s2 with heap:=C6 csc s2.heap } :=
  ⟨F12.trans F3,R3,⟨none,ce⟩,it3,⟨[],0,Cs csc s2.heap _ _ gD2,.nil⟩,R.fresh_not hDn,R.fresh_not hIn⟩
 have loop:codeAny (model cx.prog cx.w) A (.compLoop (.ListComp e [⟨.Name x px,iter,ifs,0⟩] csc pos) 0 (.ref s.heap.objs.size) (.ref s1.heap.objs.size) (Fq csc env s2.heap.objs.size)) (RR (.ref s1.heap.objs.size) s2.heap.objs.size) { s2 with heap:=C6 csc s2.heap }:=by
  have lenN:(Ew csc ns).length=ns.length:=by unfold Ew;rw [aM]
  refine U2 (by refine rwl aK (rwl lenN ?_);rfl) (by refine rwl (aS (by rw [lenN];exact aN _)) (rwl lenN ?_);rw [iC];rfl) (s₁:=s) (ρ₁:=ρ) (l:=l) hh hDn hIn (by refine rwl z1 ?_;exact qX _) hCn (fun q w1 w2=>?_) (Gh hnd c2) hΓ c2 fr lvB (fun Γ' h'=>pt.tests _ Γ' h') (fun Γ' h'=>pt.elts _ Γ' h') hz ci hres fun ρ' s' F' R' v' m' n'=>?_
  . have:=cf q w1 w2
    cases g:s.heap.get? q with
    | none=>rfl
    | some ob =>
     obtain ⟨o',eo'⟩:=F12.live q ob g
     rw [this] at eo';exact Af eo'
  . exact k _ _ ρ' s' F' R' v' m' n' hCn
 have key:=codeAny_compStart_list loop (U3 (ρ:=ρ) (s:={ s2 with heap:=C6 csc s2.heap }) it3 loop)
 refine rwl hs2 ?_
 exact key
theorem Io{M:Model}(h:compPost M A E use Q acc C r s')(k1:∀ a s,Q a s->Q' a s)(k2:∀ e s,E e s->E' e s):compPost M A E' use Q' acc C r s':=by
 unfold compPost at h ⊢;cases r with
 | ok f =>
  cases use with
  | none=>refine ex1 h fun m zz=>Ad zz fun hm h=>?_;exact ⟨m,hm,fun h' hs=>k1 _ _ (h h' hs)⟩
  | some u=>exact aL h (fun _ s'' ⟨m,hm,h⟩=>⟨m,hm,fun h' hs=>k1 _ _ (h h' hs)⟩) k2
 | error x =>
  cases use with
  | none=>refine ex1 h fun m zz=>Ad zz fun hm h=>?_;exact ⟨m,hm,fun h' hs c hc=>aL (h h' hs c hc) (fun _ _ q=>q) k2⟩
  | some u=>refine ex1 h fun m zz=>Ad zz fun hm h=>?_;exact ⟨m,hm,fun h' hs c hc=>aL (h h' hs c hc) (fun _ _ q=>q) k2⟩
theorem Yx{α:Type}{m:M α}{a:α}(h:M.quiet m H=.ok a H'):m H=.ok a H':=by
 delta M.quiet at h;cases e:m H with
 | exc c K=>rw [e] at h;exact Eo h
 | _=>rw [e] at h;exact h
theorem U4{α:Type}{m:M α}(h:M.quiet m H=.exc c H'):False:=by
 delta M.quiet at h;cases e:m H with
 | _=>rw [e] at h;cases h
noncomputable def J3(T:Tab)(Φ:Funs)(cond:MEo)(elt:ME)(Γ:Env')(v:Val):M Val:=(M.look (Dg v)).bnd fun p =>
 (M.quiet (Fm (chk p.2 p.1) (Jp T Φ cond elt Γ) p.1)).bnd fun ys=>if ys.length < lid then M.alloc (.list ys) else .bad
theorem N7(T:Tab)(Φ:Funs)(cond:MEo)(elt it:ME)(Γ:Env'):Aj T Φ (.comp elt it cond) Γ=(Aj T Φ it Γ).bnd (J3 T Φ cond elt Γ):=by rfl
theorem Hd:J3 T Φ cond elt Γ v H=.bad \/
 ∃ xs src ys H₂,Dg v H=some (xs,src)/\Fm (chk src xs) (Jp T Φ cond elt Γ) xs H=.ok ys H₂/\ys.length < sizeLine/\J3 T Φ cond elt Γ v H=.ok (.loc H₂.length) (H₂++[.list ys]):=by
 unfold J3;cases e1:Dg v H with
 | none=>left;exact rwl (Dt (Ik e1)) rfl
 | some p =>
  refine rwl (Eh (Ij e1)) ?_;obtain ⟨xs,src⟩:=p;dsimp only;cases e2:M.quiet (Fm (chk src xs) (Jp T Φ cond elt Γ) xs) H with
  | bad=>left;exact rwl (Dt e2) rfl
  | exc c H'=>exact (U4 e2).elim
  | ok ys H₂ =>
   refine rwl (Eh e2) ?_;by_cases q:ys.length < lid
   . right;refine ⟨xs,src,ys,H₂,rfl,Yx e2,by skip;exact q,?_⟩;refine rwl (if_pos q) ?_;rfl
   . left;refine rwl (if_neg q) ?_;rfl
theorem U5{h:Heap}(n:h.Ns C m):∃ o,h.get? C=some o/\¬F7 o/\∀ D,¬Ds o D:=by refine Ae fun G kG=>?_;refine ex3 n fun o es ep zz=>Ap zz fun e d _=>?_;refine kG ?_;exact ⟨o,e,fun f=>f.notDict _ _ d,fun D f=>f.notDict _ _ d⟩
theorem Yy(hh:A.handled=none)(hi:Ei i=true)(hc:Ki sc csc x=true)(hnd:∀ (i j:Nat) (y:Str),ns[i]?=some (some y)->ns[j]?=some (some y)->i=j)(hΓ:Γ.length=ns.length)
 (pt:CParts A Φ l csc (Ew csc ns++[some x]) cond elt ifs e) (y:EOk A ((Amb.env env sc ns Γ).and (Amb.frames l)) Φ env Γ it i) :
 EOk A ((Amb.env env sc ns Γ).and (Amb.frames l)) Φ env Γ (.comp elt it cond) (.ListComp e [⟨.Name x px,i,ifs,0⟩] csc pos):=by
 refine Ap (Cb hc) fun c1 c2 c3=>?_;refine EOk.of ?_ rfl;intro H ρ s R p;rw [N7];refine A8.bindK (K':=fun Q E s=>wpAny (model cx.prog cx.w) A (eval (.ListComp e [⟨.Name x px,i,ifs,0⟩] csc pos) env) Q E s)
  (K:=fun xv Q E s=>wpAny (model cx.prog cx.w) A (pyIter xv) (fun it s₂=>wpAny (model cx.prog cx.w) A (newList []) (fun acc s₃=>wpAny (model cx.prog cx.w) A (newFunctionEnv csc env.globals (F8 env csc.names []) [] env.qual none .none (some env)) (fun cenv s₄ =>
   codeAny (model cx.prog cx.w) A (.compStart (.ListComp e [⟨.Name x px,i,ifs,0⟩] csc pos) 0 it acc { cenv with scope:=relabel csc env }) (compPost (model cx.prog cx.w) A E none Q acc cenv.locals) s₄) E s₃) E s₂) E s) (y.val H ρ s R p) ?_ ?_ ?_
 . intro b xv H1 ρ1 s1 _ F1 R1 vr;rcases Hd (T:=cx.T) (Φ:=Φ) (cond:=cond) (elt:=elt) (Γ:=Γ) (v:=b) (H:=H1) with w | ⟨xs,src,ys,H₂,w1,w2,w3,w4⟩
   . refine rwl w ?_;trivial
   . refine rwl w4 ?_;refine Me hh hc hnd hΓ pt R1 (p.1.full F1) (p.2.full F1) vr w1 w2 w3 fun D C ρ' s' F' R' v' m' n' hC=>?_;refine Ae fun G kG=>?_;obtain ⟨m,hm⟩:=m';refine ex1 (U5 hm) fun oC zz=>Ap zz fun gC nf nx=>?_;refine kG ?_;have lvB:F5 cx.h₀ s1.heap:=fun b o e=>⟨o,R1.base b o e⟩;refine ⟨m,hm,fun h' hs=>?_⟩;have st:Step ρ' s'.heap ρ' h':=Step.ext gC hs.extBut nf nx;exact ⟨ρ',F'.fresh hC hs.extBut,R'.ext (tk:=s'.toks) gC hs.extBut nf nx n' (lvB.none hC),v'.step st⟩
 . intro xv Q E Q' E' s h k1 k2;exact aL h (fun it s₂ h2=>aL h2 (fun acc s₃ h3=>aL h3 (fun cenv s₄ h4=>nM h4 fun r s' hr=>Io hr k1 k2) k2) k2) k2
 . intro Q E h;exact pJ (use:=none) (g:=⟨.Name x px,i,ifs,0⟩) (gs:=[]) rfl (fun xv=>E0 hi env xv)
    (Il fun p' hp' hf=>p.1.st.hasCell p'.1 (by rcases (c3 p' hp').2 hf with w | w;exact .inl w;exact .inr w)) c1 (fun p' hp' hl=>by exact rwl ((c3 p' hp').1) (rwl hl rfl)) h
end
section
variable{H:Hp}
theorem VR.handed(x:VR ρ h m v):handedOut v=pure v:=by cases x <;> rfl
theorem Rel.instAt(R:Rel H ρ s){i c:Nat}(hH:H[i]?=some (.inst c fs))(hρ:ρ[i]?=some p) :
 ∃ C o mA,(cx.T.meth c 0).isSome=true/\cx.cls[c]?=some (.ref C)/\s.heap.get? p.1=some o/\o.cls=.ref C/\(∀ c,o.data≠.cls c)/\o.dict=some p.2/\p.2≠p.1/\s.heap.Ns1 p.2 mA /\
  (∀ n v,fs.lookup n=some v->∃ y x,cx.attrs[n]?=some y/\mA y=some x/\VR ρ s.heap v x)/\(∀ y,mA y≠none->∃ n v,cx.attrs[n]?=some y/\fs.lookup n=some v):=by
 have:=R.objs i _ p hH hρ;generalize ho:HObj.inst c fs=o at this;cases this with
 | list _ _ _=>exact nomatch ho
 | dict _ _ _=>cases ho
 | hid _=>cases ho
 | inst k0 k e k1 k2 k3 k4 n f g=>cases ho;exact ⟨_,_,_,k0,k,e,k1,k2,k3,k4,n,f,g⟩
theorem Pw{h:Heap}(e:h.get? a=some o)(k1:o.cls=.ref C)(k2:∀ c,o.data≠.cls c)(k3:o.dict=some b)(k4:b≠a)(n:h.Ns1 b mA):h.Inst a C mA :=
 ⟨o,e,k1,k2,.inr ⟨b,k3,k4,n⟩⟩
theorem Gy.looks{α β:Type}{f:Hp->Option β}{K:(α->bD->Prop)->(Value->bD->Prop)->bD->Prop}{V:β->α->Amb}(y:∀ b,f H=some b->Gy (.ok b H) K V ρ s):Gy (M.look f H) K V ρ s:=by
 cases e:f H with
 | none=>refine rwl (Ik e) ?_;trivial
 | some b=>refine rwl (Ij e) ?_;exact y b e
theorem Si(CB:ClsBase)(R:Rel H ρ s){i c n:Nat}(hH:H[i]?=some (.inst c fs))(hρ:ρ[i]?=some p)(hy:cx.attrs[n]?=some y)(hm:fs.lookup n=some m)
 (k:∀ v tk,VR ρ s.heap m v->Q v { s with toks:=tk }):wpAny (model cx.prog cx.w) A (getAttr (.ref p.1) y true) Q E s:=by
 refine Ae fun G kG=>?_;refine ex3 (R.instAt hH hρ) fun C o mA zz=>Abt zz fun k0 kc e k1 k2 k3 k4 nn f g=>?_;refine Abs ((CB.cls c C kc k0).is) fun nm q Nn bs sn sub col dd q0 q1 q2 q3 q5 mN zz=>Pb zz fun hC hN h1 h2 h3 h4 h5=>?_;refine ex2 (f n m hm) fun y' x zz=>Ap zz fun hy' hx vr=>?_;refine kG ?_;rw [hy] at hy';cases hy';exact load_attr (R.base _ _ hC) (hN.keeps R.base) h1 (h4 n y hy).1 (h4 n y hy).2 (Pw e k1 k2 k3 k4 nn) hx vr.handed (k x _ vr)
set_option tactic.hygienic true in
theorem Yz(CB:ClsBase)(hn:Ek N.attrs y n=true)(hs:C5 v=true)(x:EOk A P Φ env Γ a v) :
 EOk A P Φ env Γ (.attr a n) (.Attribute v y pos):=by
 refine EOk.of ?_ rfl;intro H ρ s R p;refine A8.bindK (K':=fun Q E s=>wpAny (model cx.prog cx.w) A (eval (.Attribute v y pos) env) Q E s) (K:=fun o Q E s=>wpAny (model cx.prog cx.w) A (getAttr o y true) Q E s) (x.val H ρ s R p) ?_ (fun _=>J0 _) ?_
 . intro b o H1 ρ1 s1 _ F1 R1 vr;have vr':VR ρ1 s1.heap b o:=vr;refine Gy.looks fun m hm=>?_;split at hm
   . rename_i i;refine ex1 vr'.loc_inv fun p1 zz=>Ad zz fun hp1 hr0=>?_;refine rwl hr0 ?_;split at hm
     . rename_i c fs hi;exact Si CB R1 hi hp1 (CB.attr y n (D0 hn)) hm fun v tk vr=>⟨ρ1,Full.refl _ _,R1.toks tk,vr⟩
     . exact Af hm
   . exact Af hm
 . intro Q E h;rw [arm_eval_Attribute,Ed hs];exact aF (aL h (fun o s₁ h₁=>aF (jL (aF (eY (aL h₁ (fun r s₂ h₂=>aF (qW (aU h₂))) fun _ _ q=>q))))) fun _ _ q=>q)
theorem N8:∀ (fs:List (Nat × Val)) (n:Nat) (v:Val),(Th fs n v).lookup n=some v:=by
 intro fs;induction fs with
 | nil =>intro n v;show fT n [(n,v)]=_;simp
 | cons xx r ihh =>
  intro n v;obtain ⟨m,u⟩:=xx;refine rwl Nv ?_;by_cases e:m=n
  . refine rwl (if_pos e) (rwl e ?_);simp
  . refine rwl (if_neg e) (rwl bN ?_);have:(n == m)=false:=by simpa using fun q:n=m=>e q.symm
    refine rwl this ?_;exact ihh n v
theorem Mf:∀ (fs:List (Nat × Val)) (n k:Nat) (v:Val),k≠n->(Th fs n v).lookup k=fs.lookup k:=by
 intro fs;induction fs with
 | nil =>
  intro n k v h;have:(k == n)=false:=by simpa using h
  show fT k [(n,v)]=none;refine rwl bN (rwl this ?_);rfl
 | cons xx r ihh =>
  intro n k v h;obtain ⟨m,u⟩:=xx;refine rwl Nv ?_;by_cases e:m=n
  . refine rwl (if_pos e) (rwl e (rwl bN (rwl bN ?_)));have:(k == n)=false:=by simpa using h
    exact rwl this rfl
  . exact rwl (if_neg e) (rwl bN (rwl bN (rwl (ihh n k v h) rfl)))
theorem Sj(CB:ClsBase)(R:Rel H ρ s)(hH:H[i]?=some (.inst c fs))(hρ:ρ[i]?=some p)(hy:cx.attrs[n]?=some y)(vr:VR ρ s.heap m v)
 (k:∀ s',Full ρ s.heap ρ s'.heap->Rel (H.set i (.inst c (Th fs n m))) ρ s'->Q () s'):wpAny (model cx.prog cx.w) A (setAttr (.ref p.1) y v) Q E s:=by
 refine Ae fun G kG=>?_;refine ex3 (R.instAt hH hρ) fun C o mA zz=>Abt zz fun k0 kc e k1 k2 k3 k4 nn f g=>?_;refine Abs ((CB.cls c C kc k0).is) fun nm q Nn bs sn sub col dd q0 q1 q2 q3 q5 mN zz=>Pb zz fun hC hN h1 h2 h3 h4 h5=>?_;refine kG ?_;have hxC:p.1≠C:=fun w=>by have:=(R.new p (aH hρ)).1;rw [w,hC] at this;cases this
 refine store_attr F.store_object (R.base _ _ hC) (hN.keeps R.base) h3 (h4 n y hy).1 (h4 n y hy).2 hxC (Pw e k1 k2 k3 k4 nn) (fun h' tk' I' hk hsame=>?_)
  (ns:=cx.attrs) (fun z hz=>by refine ex2 (g z hz) fun j _ zz=>Ad zz fun hj _=>?_;exact aH hj) CB.few
 refine Ae fun G kG=>?_;refine ex1 (hsame o e) fun o₁ zz=>G7 zz fun e1 c1 d1 _ dd1=>?_;refine ex1 I' fun o₂ zz=>Cf zz fun e2 c2 n2 hd2=>?_;refine kG ?_;rw [e1] at e2;cases e2;have nn':h'.Ns1 p.2 (fun z=>if z=y then some v else mA z):=by
  rcases hd2 with ⟨w,_⟩ | ⟨b,w,_,w2⟩
  . rw [dd1 _ k3] at w;cases w
  . rw [dd1 _ k3] at w;cases w;exact w2
 have keep:∀ b ob,s.heap.get? b=some ob->b≠p.1->b≠p.2->h'.get? b=some ob:=fun b ob eb w1 w2=>hk b ob w1 (fun o₀ dx f1 f2=>by rw [e] at f1;cases f1;rw [k3] at f2;cases f2;exact w2) eb;have lv:F5 s.heap h':=fun b ob eb=>by
  by_cases w1:b=p.1
  . refine rwl w1 ?_;exact ⟨o₁,e1⟩
  . by_cases w2:b=p.2
    . refine ex3 nn' fun on _ _ zz=>Ad zz fun en _=>?_;refine rwl w2 ?_;exact ⟨on,en⟩
    . exact ⟨ob,keep b ob eb w1 w2⟩
 have own:∀ b,¬Ay ρ b->b≠p.1/\b≠p.2:=fun b n=>⟨fun e=>n ⟨p,aH hρ,.inl e⟩,fun e=>n ⟨p,aH hρ,.inr e⟩⟩;have F:Full ρ s.heap ρ h':=⟨Kk.refl _ _,fun b ob eb n=>⟨ob,keep b ob eb (own b n).1 (own b n).2,.refl ob⟩,lv⟩;obtain ⟨_,R'⟩:=R.set (tk:=tk') (o:=.inst c (Th fs n m)) hρ keep lv (by
  obtain ⟨p1,p2⟩:=p;refine .inst k0 kc e1 (c1.trans k1) n2 (dd1 _ k3) k4 nn' (fun j u hj=>?_) (fun z hz=>?_)
  . by_cases w:j=n
    . subst w;rw [N8] at hj;cases hj;exact ⟨y,v,hy,by simp,vr.step F.step⟩
    . rw [Mf _ _ _ _ w] at hj;refine ex2 (f j u hj) fun y' x zz=>Ap zz fun hy' hx vx=>?_;have ne:y'≠y:=fun q=>w (CB.inj j n y (q▸hy') hy);exact ⟨y',x,hy',by simp [ne,hx],vx.step F.step⟩
  . by_cases w:z=y
    . exact ⟨n,m,w▸hy,N8 _ _ _⟩
    . simp only [w,if_false] at hz;refine ex2 (g z hz) fun j u zz=>Ad zz fun hj hu=>?_;have ne:j≠n:=fun q=>w (by rw [q,hy] at hj;cases hj;rfl);exact ⟨j,u,hj,by refine rwl (Mf _ _ _ _ ne) ?_;exact hu⟩)
 exact k _ F R'
theorem Lw(hs:C5 o=true)(hp:Cp env args)(hz:args.length<=20)(hline:(apos.endLine == pos.line)=true)
 (h:wpAny (model cx.prog cx.w) A (eval o env) (fun ov s₁=>∀ pl,wpAny (model cx.prog cx.w) A (getMethod ov name pl) (fun r s₂=>wpAny (model cx.prog cx.w) A (callWith pos r.1 r.2 (args.map fun e=>(false,eval e env)) []) Q E s₂) E s₁) E s) :
 wpAny (model cx.prog cx.w) A (eval (.Call (.Attribute o name apos) args [] pos) env) Q E s:=by
 rw [arm_eval_Call,Ed hs];refine aF (aL h (fun ov s₁ h₁=>?_) fun _ _ e=>e);refine aF (jL ?_);have hform:methodCallForm (args.length+([]:List sG).length) (backTo pos (starEach args env)) (backToKw pos (keywordEach [] env))=true:=Ia hp hz;have hpos:methodCallPos true o env apos pos=pure pos:=by unfold methodCallPos;simp [hline]
 unfold methodCall;refine rwl hform (rwl (Az pos hp) ?_);refine aF (eY (aL (h₁ _) (fun r s₂ h₂=>?_) fun _ _ e=>e));exact aF (wpAny_of_eq hpos h₂)
theorem Sk{T:Tab}{v:Val}(h:(match v with | .loc i=>(match H[i]? with | some (.inst c _)=>T.meth c m | _=>none) | _=>none)=some k):∃ i c fs,v=.loc i/\H[i]?=some (.inst c fs)/\T.meth c m=some k:=by
 split at h
 . split at h
   . exact ⟨_,_,_,rfl,by assumption,h⟩
   . exact Af h
 . exact Af h
theorem U6(CB:ClsBase)(hΦ:Id Φ d)(room:Room A d)(hfr:A.frames=some l)(hm:Ek N.meths y m=true)(hes:ckEs N sc ns es xs=true)(hz:xs.length<=20)(hs:C5 o=true)(hline:(apos.endLine == pos.line)=true)
 (x:EOk A ((Amb.env env sc ns Γ).and (Amb.frames l)) Φ env Γ a o) (y':Sim A ((Amb.env env sc ns Γ).and (Amb.frames l)) (spliced (xs.map fun e=>(false,eval e env))) (evalEs cx.T Φ es Γ) (Amb.vrs)) :
 EOk A ((Amb.env env sc ns Γ).and (Amb.frames l)) Φ env Γ (.umeth a m es) (.Call (.Attribute o y apos) xs [] pos):=by
 refine EOk.of ?_ rfl;intro H ρ s R p;first | rw [Ms] | rw [Qn] | rw [Jz] | rw [Xk] | rw [Hx] | rw [Xl]
 refine A8.bindK (K':=fun Q E s=>wpAny (model cx.prog cx.w) A (eval (.Call (.Attribute o y apos) xs [] pos) env) Q E s) (K:=fun ov Q E s=>∀ pl,wpAny (model cx.prog cx.w) A (getMethod ov y pl) (fun r s₂=>wpAny (model cx.prog cx.w) A (callWith pos r.1 r.2 (xs.map fun e=>(false,eval e env)) []) Q E s₂) E s) (x.val H ρ s R p) ?_ ?_
  (fun Q E h=>Lw hs (Dc hes) hz hline h)
 . intro b ov H1 ρ1 s1 _ F1 R1 vr;have vr':VR ρ1 s1.heap b ov:=vr;refine Gy.lookK fun k hk=>?_;refine Ae fun G kG=>?_;refine ex3 (Sk hk) fun i c fs zz=>Ap zz fun zr3 hi hk'=>?_;subst zr3;refine ex1 vr'.loc_inv fun p1 zz=>Ad zz fun hp1 zr2=>?_;subst zr2;refine ex3 (R1.instAt hi hp1) fun C ob mA zz=>Abt zz fun k0 kc e k1 k2 k3 k4 nn f g=>?_;refine Abs ((CB.cls c C kc k0).is) fun nm q Nn bs sn sub col dd q0 q1 q2 q3 q5 mN zz=>Pb zz fun hC hN h1 h2 h3 h4 h5=>?_;refine ex3 (h5 y m k (D0 hm) hk') fun fa fo fd zz=>Pb zz fun hfa hmN hfo hfc hfd hna zz=>ex1 zz fun r hr=>?_;refine kG ?_;have hmA:mA y=none:=by
    cases w:mA y with
    | none=>rfl
    | some z=>refine ex2 (g y (by refine rwl w ?_;exact fun q=>nomatch q)) fun j _ zz=>Ad zz fun hj _=>?_;exact absurd hj (hna j)
   refine Gy.mono (Gg (f:=.ref fa) (K:=fun vs Q E s=>(s.heap.get? fa=some fo/\fo.data=.func fd)/\wpAny (model cx.prog cx.w) A (call (.ref fa) (.ref p1.1 :: vs)) Q E s) (fun e=>Ib (e▸hes)) R1 (y' H1 ρ1 s1 R1 (((Amb.env env sc ns Γ).and (Amb.frames l)).st _ _ _ _ p F1)) ?_ ?_) ?_
   . intro ms vs H2 ρ2 s2 _ F2 R2 vrs;exact Gy.andK ⟨R2.base _ _ hfo,hfd⟩ (hΦ k fa (.loc i :: ms) (.ref p1.1 :: vs) A l hfa room.toF hfr H2 ρ2 s2 R2 ⟨.cons (VR.step F2.step vr) vrs,(p.2.full F1).full F2⟩)
   . exact fun vs Q E Q' E' s h k1 k2=>⟨h.1,aL h.2 k1 k2⟩
   . intro Q E h pl;refine method_of (R1.base _ _ hC) (hN.keeps R1.base) h1 h2 hmN (R1.base _ _ hfo) hfc hr (Pw e k1 k2 k3 k4 nn) hmA ?_;exact oH (o:=fo) (fd:=fd) (aL h (fun b s₁ h₁=>by refine rwl h₁.1 ?_;exact h₁.2) fun _ _ q=>q)
 . exact fun ov Q E Q' E' s h k1 k2 pl=>aL (h pl) (fun r s₂ h₂=>aL h₂ k1 k2) k2
theorem callWith_own{dd:Option Addr}(hplain:args.any (·.1)=false)
 (h:wpAny (model cx.prog cx.w) A (evalArgs (.ref C) true args []) (fun as s₁=>as.kw=[]/\s₁.heap.get? C=some (excClassObj nm q C Nn bs [.type "object"] true sn sub false col dd k0 k1 k2 k3 k5 "object.__new__")/\wpAny (model cx.prog cx.w) A (call (.ref C) as.pos) Q E s₁) E s) :
 wpAny (model cx.prog cx.w) A (callWith pos (.ref C) [] args []) Q E s:=by
 unfold callWith;refine aF (eY (aL h (fun as s₁ h₁=>?_) fun _ _ x=>x));refine Ap h₁ fun e hC hc=>?_;obtain ⟨ps,kw⟩:=as;dsimp only at e hc;refine rwl e ?_;obtain ⟨hh,g,dr,t,os⟩:=s₁;have f1:=tc_lookup;have hT:(⟨hh,g,dr,t,os⟩:bD).TypeIs (.ref C) "type":=⟨_,hC,rfl⟩;refine aF (jL ?_);unfold keeperOf specialOf;repeat (any_goals (first | assumption | with_reducible refine nL hC ?_ | with_reducible refine wpAny_load' hC ?_ | wp_step))
 refine rwl (if_pos (by rfl)) (rwl hplain ?_);exact aF (aL hc (fun r s' hr=>aF (eY (wpAny_point (aU hr)))) fun _ _ x=>x)
theorem Room.made(r:Room A d):RoomF (A.under (.builtin "type.__call__" ⟨.ref C :: vs,[]⟩)) d:=by
 refine ⟨r.hh,?_,?_⟩
 . show A.depth+1+5 * d+147 < recursionLimit;have:=r.depth;exact Aho this (by decide)
 . show A.units+1+20 * d+90 < cLine;have:=r.units;exact Aho this (by decide)
theorem U7(h:T.meth c 0=some k):Rv T Φ c ms H=(match Φ k (.loc H.length :: ms) (H++[.inst c []]) with
 | .ok r H'=>(match r with | .none=>Res.ok (.loc H.length) H' | _=>.bad)
 | .exc e H'=>.exc e H'
 | .bad=>.bad):=by
 unfold Rv;refine rwl h ?_;show M.bnd _ _ _=_;refine rwl (Eh (show M.alloc (.inst c []) H=.ok (.loc H.length) (H++[.inst c []]) from rfl)) ?_;cases e:Φ k (.loc H.length :: ms) (H++[.inst c []]) with
 | bad=>exact rwl (Dt e) rfl
 | exc x H'=>exact rwl (Fk e) rfl
 | ok r H'=>refine rwl (Eh e) ?_;cases r <;> rfl
theorem Y0(CB:ClsBase)(hΦ:Id Φ d)(room:Room A d)(hfr:A.frames=some l)(hc:cx.cls[c]?=some (.ref C))(R:Rel H ρ s)(vrs:VRs ρ s.heap ms vs)(fr:A6 l ρ s.heap) :
 Gy (Rv cx.T Φ c ms H) (fun Q E s=>wpAny (model cx.prog cx.w) A (call (.ref C) vs) Q E s) (Amb.vr) ρ s:=by
 cases hk:cx.T.meth c 0 with
 | none=>unfold Rv;refine rwl hk ?_;trivial
 | some k =>
  have hks:(cx.T.meth c 0).isSome=true:=by refine rwl hk ?_;rfl
  refine Ae fun G kG=>?_;refine Abs ((CB.cls c C hc hks).is) fun nm q Nn bs sn sub col dd q0 q1 q2 q3 q5 mN zz=>Pb zz fun hC hN h1 h2 h3 h4 h5=>?_;refine ex3 (h5 _ 0 k CB.init hk) fun fa fo fd zz=>Pb zz fun hfa hmN hfo hfc hfd hna _=>?_;refine kG ?_;refine rwl (U7 hk) ?_;have main:∀ (Q:Value->bD->Prop) (E:Value->bD->Prop),(∀ h' x dx,sH s.heap h' x dx C->wpAny (model cx.prog cx.w) (A.under (.builtin "type.__call__" ⟨.ref C :: vs,[]⟩)) (call (.ref fa) (.ref x :: vs)) (fun r s'=>r=.none/\Q (.ref x) s') E { s with heap:=h' })->wpAny (model cx.prog cx.w) A (call (.ref C) vs) Q E s:=by intro Q E hq;exact wpAny_call_obj_init F.objNew (R.base _ _ hC) (hN.keeps R.base) hmN (R.base _ _ hfo) hfc hq
  have Ew:∀ h' x dx,sH s.heap h' x dx C->Full ρ s.heap (ρ++[(x,dx)]) h'/\A8 (A.under (.builtin "type.__call__" ⟨.ref C :: vs,[]⟩)) (Φ k (.loc H.length :: ms) (H++[.inst c []])) (call (.ref fa) (.ref x :: vs)) (Amb.vr) (ρ++[(x,dx)]) { s with heap:=h' }:=by
   intro h' x dx mo;refine Ae fun G kG=>?_;refine ex1 mo.inst fun o zz=>Cf zz fun ho oc od odd=>?_;have hdx:=mo.dict o ho;have nn:dx≠x/\h'.Ns1 dx (fun _=>none):=by
    rcases odd with ⟨w,_⟩ | ⟨b,w,w1,w2⟩
    . rw [hdx] at w;cases w
    . rw [hdx] at w;cases w;exact ⟨w1,w2⟩
   obtain ⟨F,R'⟩:=R.alloc (tk:=s.toks) (o:=.inst c []) (p:=(x,dx)) mo.keeps ⟨mo.newX,mo.newD⟩ (.inst hks hc ho oc od hdx nn.1 nn.2 (fun n v hv=>by cases hv) (fun y hy=>absurd rfl hy));refine kG ?_;have vx:VR (ρ++[(x,dx)]) h' (.loc H.length) (.ref x):=VR.loc (p:=(x,dx)) (by refine rwl R.len (rwl (aS (aN _)) ?_);simp);exact ⟨F,hΦ k fa (.loc H.length :: ms) (.ref x :: vs) _ l hfa room.made hfr _ _ _ R' ⟨.cons vx (vrs.step F.step),fr.full F⟩⟩
  cases hr:Φ k (.loc H.length :: ms) (H++[.inst c []]) with
  | bad=>trivial
  | exc e H' =>refine main _ _ fun h' x dx mo=>?_;obtain ⟨F,sm⟩:=Ew h' x dx mo;rw [hr] at sm;exact aL sm (fun _ _ q=>q.elim) fun ex s' ⟨ρ',F',R',fl⟩=>⟨ρ',F.trans F',R',fl.older F.live⟩
  | ok r H' =>
   cases r with
   | none =>refine main _ _ fun h' x dx mo=>?_;obtain ⟨F,sm⟩:=Ew h' x dx mo;rw [hr] at sm;refine aL sm (fun r' s' ⟨ρ',F',R',vr⟩=>⟨VR.none_inv vr,ρ',F.trans F',R',?_⟩) fun _ _ q=>q.elim;exact VR.loc (p:=(x,dx)) (F'.grow.get (by refine rwl R.len (rwl (aS (aN _)) ?_);simp))
   | _=>trivial
theorem Adp(B:Base)(hΦ:Id Φ d)(room:Room A d)(hfr:A.frames=some l)(hg:B6 sc x=true)(hk:Ek N.clss x c=true)(hes:ckEs N sc ns es xs=true)
 (y':Sim A ((Amb.env env sc ns Γ).and (Amb.frames l)) (spliced (xs.map fun e=>(false,eval e env))) (evalEs cx.T Φ es Γ) (Amb.vrs)) :
 EOk A ((Amb.env env sc ns Γ).and (Amb.frames l)) Φ env Γ (.new c es) (.Call (.Name x np) xs [] pos):=by
 refine EOk.of ?_ rfl;intro H ρ s R p;first | rw [Ms] | rw [Qn] | rw [Jz] | rw [Xk] | rw [Hx] | rw [Xl]
 cases hm:cx.T.meth c 0 with
 | none=>trivial
 | some k =>
  have hks:(cx.T.meth c 0).isSome=true:=by refine rwl hm ?_;rfl
  refine Ae fun G kG=>?_;refine ex2 B.ns fun mg mb zz=>Mq zz fun ng nb _ _ q _=>?_;refine ex1 (q x c (D0 hk)) fun Cv zz=>Ad zz fun hC hx=>?_;obtain ⟨C,rfl⟩:=B.cls.ref c Cv hC hks;refine Abs ((B.cls.cls c C hC hks).is) fun nm qn Nn bs sn sub col dd q0 q1 q2 q3 q5 mN zz=>Ad zz fun hCo _=>?_;refine kG ?_;refine Gy.mono (Gg (f:=.ref C) (K:=fun vs Q E s=>s.heap.get? C=some (excClassObj nm qn C Nn bs [.type "object"] true sn sub false col dd q0 q1 q2 q3 q5 "object.__new__")/\wpAny (model cx.prog cx.w) A (call (.ref C) vs) Q E s) (fun e=>Ib (e▸hes)) R (y' H ρ s R p) ?_ ?_) ?_
  . intro ms vs H1 ρ1 s1 _ F1 R1 vrs;exact Gy.andK (R1.base _ _ hCo) (Y0 B.cls hΦ room hfr hC R1 vrs (p.2.full F1))
  . exact fun vs Q E Q' E' s h k1 k2=>⟨h.1,aL h.2 k1 k2⟩
  . intro Q E h;refine iU (wp_glob R p.1.st hg ng nb hx ?_);refine rwl (Az pos (Dc hes)) ?_;exact callWith_own (Es _) (aL h (fun b s₁ h₁=>by refine Ap h₁ fun h1 h2 h3=>?_;exact ⟨h1,h2,h3⟩) fun _ _ q=>q)
end
section
theorem VRs.cut{h:Heap}{ms:List Val}{vs:List Value}(r:VRs ρ h ms vs)(p:Bool × Nat):VRs ρ h (cut p ms) (cut p vs):=by
 obtain ⟨b,k⟩:=p;cases b with
 | true=>exact r.drop k
 | false=>exact VRs.take r k
theorem Agr{α:Type}(p:Bool × Nat)(xs:List α):(cut p xs).length<=xs.length:=by
 obtain ⟨b,k⟩:=p;cases b with
 | true=>show (xs.drop k).length<=_;refine rwl iP ?_;exact eG _ _
 | false=>show (xs.take k).length<=_;refine rwl fC ?_;exact gU _ _
set_option tactic.hygienic true in
theorem U8(e:Afe lo hi n=some p)(x:VR ρ h lo vl)(y:VR ρ h hi vu):∃ a b,IsPart vl a/\IsPart vu b/\∀ vs:List Value,vs.length=n->slicePick vs.toArray a b none=(cut p vs).toArray:=by
 cases lo with
 | int k =>
  cases hi with
  | none =>
   have e:some (true,if 0<=k then k.toNat else n - k.natAbs)=some p:=e;cases e;obtain ⟨t,hr0⟩:=x.int_inv;refine rwl hr0 ?_;obtain hr0:=y.none_inv;refine rwl hr0 ?_;refine ⟨_,_,.int k t,.none,fun vs hn=>?_⟩;by_cases h0:0<=k
   . refine rwl (if_pos h0) ?_;have:=slicePick_from' vs.toArray k.toNat;rwa [fQ h0] at this
   . refine rwl (if_neg h0) (rwr hn ?_);have:=slicePick_last vs.toArray k.natAbs (Int.natAbs_pos.mpr fun e=>h0 (gW e.symm));rwa [show -(k.natAbs:Int)=k by exact Am0 h0] at this
  | _=>exact Af e
 | none =>
  cases hi with
  | int k =>
   have e:(if 0<=k then some (false,k.toNat) else none)=some p:=e;split at e
   . rename_i h0;cases e;obtain ⟨t,hr2⟩:=y.int_inv;refine rwl hr2 ?_;obtain hr1:=x.none_inv;refine rwl hr1 ?_;refine ⟨_,_,.none,.int k t,fun vs _=>?_⟩;have:=slicePick_upto' vs.toArray k.toNat;rwa [fQ h0] at this
   . exact Af e
  | _=>exact Af e
 | _=>exact Af e
noncomputable def Dj(o vl vu:Value)(Q:Value->bD->Prop)(s₃:bD):Prop :=
 ∃ l items lo hi,o=.ref l/\s₃.heap.IsList l items/\items.size<=sizeLine/\IsPart vl lo/\IsPart vu hi /\
  Q (.ref (s₃.heap.objs.size+1)) { s₃ with heap:=(s₃.heap.push { cls:=.type "slice",data:=.fields #[vl,vu,.none] }).push { cls:=.type "list",data:=.seq (slicePick items lo hi none) } }
theorem Dj.mono(h:Dj o vl vu Q s₃)(k:∀ a s,Q a s->Q' a s):Dj o vl vu Q' s₃:=by refine Ae fun G kG=>?_;refine ex4 h fun l items lo hi zz=>Mq zz fun h1 h2 h3 h4 h5 h6=>?_;refine kG ?_;exact ⟨l,items,lo,hi,h1,h2,h3,h4,h5,k _ _ h6⟩
theorem items_list(R:Rel H ρ s)(x:VR ρ s.heap a v)(h:Cm a H=some xs)(ht:Abx a=false):∃ p vs n,v=.ref p/\s.heap.get? p=some (B4 vs n)/\VRs ρ s.heap xs vs/\xs.length<=sizeLine:=by
 cases a with
 | loc i =>refine ex1 x.loc_inv fun p zz=>Ad zz fun hp hr0=>?_;refine rwl hr0 ?_;refine Ae fun G kG=>?_;refine ex2 (R.listAt (Kh h) hp) fun vs n zz=>Cf zz fun _ g r z=>?_;refine kG ?_;exact ⟨p.1,vs,n,rfl,g,r,z⟩
 | script ms =>
  cases h;cases x with
  | script e z r=>exact ⟨_,_,_,rfl,R.base _ _ e,r,by rw [aM];exact z⟩
 | tup ms=>cases ht
 | _=>exact Af h
theorem Px
 (h:wpAny (model cx.prog cx.w) A (eval value env) (fun o s₁=>wpAny (model cx.prog cx.w) A (evalPart lower env) (fun vl s₂=>wpAny (model cx.prog cx.w) A (evalPart upper env) (fun vu s₃=>Dj o vl vu Q s₃) E s₂) E s₁) E s) :
 wpAny (model cx.prog cx.w) A (eval (.Subscript value (.Slice lower upper none p) pos) env) Q E s:=by
 refine aF (aL h (fun o s₁ h₁=>aF (eY (wpAny_Slice (aL h₁ (fun vl s₂ h₂=>aL h₂ (fun vu s₃ h₃=>?_) fun _ _ x=>x) fun _ _ x=>x)))) fun _ _ x=>x);refine Ae fun G kG=>?_;refine ex4 h₃ fun l items lo hi zz=>Mq zz fun zr4 hl hsz pl pu hQ=>?_;subst zr4;refine kG ?_;refine aU (aF (jL ?_));have ty:=(hl.push { cls:=.type "slice",data:=.fields #[vl,vu,.none] }).typeIs (s:={ s₃ with heap:=s₃.heap.push { cls:=.type "slice",data:=.fields #[vl,vu,.none] } });have get:wpAny (model cx.prog cx.w) A (getItem (.ref l) (.ref s₃.heap.objs.size)) Q E { s₃ with heap:=s₃.heap.push { cls:=.type "slice",data:=.fields #[vl,vu,.none] } }:=by refine wpAny_getItem_list_slice (hl.push _) (sI ..) pl pu .none (by simp) ?_ hsz;rw [fD];exact hQ
 have fin:∀ i,wpAny (model cx.prog cx.w) A (getItem (.ref l) i) Q E _->wpAny (model cx.prog cx.w) A (operate [i,.ref l] (getItem (.ref l) i)) (fun r s₃=>wpAny (model cx.prog cx.w) A (letTemporaryGo value (.ref l) r>>=fun _=>pure r) Q E s₃) E { s₃ with heap:=s₃.heap.push { cls:=.type "slice",data:=.fields #[vl,vu,.none] } } :=
  fun i g=>wpAny_operating (aL g (fun r s₃ h₃=>aF (qW (aU h₃))) fun _ _ x=>x)
 refine aF ?_;exact aF (wpAny_specialOf ty list_getitem_lookup (aU (aF (fin _ get))))
set_option tactic.hygienic true in
theorem U9(ha:EOk A P Φ env Γ a x)(hl:Sim A P (evalPart lw env) (evalO cx.T Φ lo Γ) (Amb.vr))(hu:Sim A P (evalPart up env) (evalO cx.T Φ hi Γ) (Amb.vr)) :
 EOk A P Φ env Γ (.slice a lo hi) (.Subscript x (.Slice lw up none p) pos):=by
 refine EOk.of ?_ rfl;intro H ρ s R p0;refine A8.bindK (K':=fun Q E s=>wpAny (model cx.prog cx.w) A (eval (.Subscript x (.Slice lw up none p) pos) env) Q E s)
  (K:=fun o Q E s=>wpAny (model cx.prog cx.w) A (evalPart lw env) (fun vl s₂=>wpAny (model cx.prog cx.w) A (evalPart up env) (fun vu s₃=>Dj o vl vu Q s₃) E s₂) E s) (ha.val H ρ s R p0) ?_ ?_ (fun Q E h=>Px h)
 . intro b ov H1 ρ1 s1 _ F1 R1 vr;refine A8.bindK (K':=fun Q E s=>wpAny (model cx.prog cx.w) A (evalPart lw env) (fun vl s₂=>wpAny (model cx.prog cx.w) A (evalPart up env) (fun vu s₃=>Dj ov vl vu Q s₃) E s₂) E s)
    (K:=fun vl Q E s=>wpAny (model cx.prog cx.w) A (evalPart up env) (fun vu s₃=>Dj ov vl vu Q s₃) E s) (hl H1 ρ1 s1 R1 (P.st _ _ _ _ p0 F1)) ?_ ?_ (fun Q E h=>h)
   . intro b2 vl H2 ρ2 s2 _ F2 R2 vr2;refine A8.bindK (K':=fun Q E s=>wpAny (model cx.prog cx.w) A (evalPart up env) (fun vu s₃=>Dj ov vl vu Q s₃) E s)
      (K:=fun vu Q E s₃=>Dj ov vl vu Q s₃) (hu H2 ρ2 s2 R2 (P.st _ _ _ _ (P.st _ _ _ _ p0 F1) F2)) ?_ ?_ (fun Q E h=>h)
     . intro b3 vu H3 ρ3 s3 _ F3 R3 vr3;have v1:VR ρ3 s3.heap b ov:=VR.step F3.step (VR.step F2.step vr);have v2:VR ρ3 s3.heap b2 vl:=VR.step F3.step vr2;have v3:VR ρ3 s3.heap b3 vu:=vr3;show Gy (Jm b b2 b3 H3) _ _ ρ3 s3;unfold Jm;split
       . rename_i xs hx;split
         . rename_i q hq;by_cases ht:Abx b=true
           . refine rwl (if_pos ht) ?_;trivial
           . refine rwl (if_neg ht) ?_;refine Ae fun G kG=>?_;refine ex3 (items_list R3 v1 hx (by simpa using ht)) fun a vs n zz=>Cf zz fun zr3 g r z=>?_;subst zr3;refine ex2 (U8 hq v2 v3) fun pa pb zz=>Ap zz fun q1 q2 q3=>?_;refine kG ?_;refine ⟨a,vs.toArray,pa,pb,rfl,⟨_,g,rfl,n,rfl⟩,by simp only [dN];refine rwr r.length ?_;exact z,q1,q2,?_⟩;refine rwl (q3 vs r.length.symm) ?_;have F4:Full ρ3 s3.heap ρ3 (s3.heap.push { cls:=.type "slice",data:=.fields #[vl,vu,.none] }):=Full.push _ _ _;have R4:=R3.push { cls:=.type "slice",data:=.fields #[vl,vu,.none] } s3.toks;have:=R4.newList (s:={ s3 with heap:=s3.heap.push { cls:=.type "slice",data:=.fields #[vl,vu,.none] } }) s3.toks ((VRs.cut r q).step F4.step) (aC (Agr _ _) z);rw [fD] at this;refine Ae fun G kG=>?_;refine ex1 this fun ρ' zz=>Ap zz fun F' R' vr'=>?_;refine kG ?_;exact ⟨ρ',F4.trans F',R',vr'⟩
         . trivial
       . trivial
     . exact fun vu Q E Q' E' s h k1 _=>h.mono k1
   . exact fun vl Q E Q' E' s h k1 k2=>aL h (fun vu s₃ h'=>h'.mono k1) k2
 . exact fun ov Q E Q' E' s h k1 k2=>aL h (fun vl s₂ h'=>aL h' (fun vu s₃ h''=>h''.mono k1) k2) k2
end
section
structure Ground(A:fI)(Φ:Funs)(l:List Env)(d:Nat):Prop where
 base:Base
 room:Room A d
 frames:A.frames=some l
 funs:Id Φ d
 defs:∀ (f:Nat) (a:Addr),cx.fns[f]?=some a->∃ g,cx.T.funs[f]?=some g
theorem Ground.u(G:Ground A Φ l d):A.units+100 < cLine:=by have:=G.room.units;exact aB (eW (aG _ _) _) this
noncomputable def Ex(ns:List (Option Str)):Prop:=∀ (i j:Nat) (y:Str),ns[i]?=some (some y)->ns[j]?=some (some y)->i=j
theorem Ags{ms:List Val}{xs:List Expr}(h1:(Hz m).2=xs.length)(h2:ms.length=xs.length):ms.length=(Hz m).2:=by exact rwl h1 (rwl h2 rfl)
theorem Agt(hu:A.units+100 < cLine)(m:BM)(b:Val)(v:Value)(ms:List Val)(vs:List Value)(hl:ms.length=(Hz m).2):Sim A ((Amb.vr b v).and (Amb.vrs ms vs)) (call (.builtin (Xh m).2) (v :: vs)) (bmV m b ms) (Amb.vr):=by
 cases m with
 | append=>exact Ua b v ms vs hl
 | pop=>exact Af7 b v ms vs hl
 | clear=>exact X3 b v ms vs hl
 | dpop=>exact Ack hu b v ms vs hl
 | remove=>exact Ub hu b v ms vs hl
 | get=>exact Af9 hu b v ms vs hl
 | get2=>exact Acm hu b v ms vs hl
set_option maxHeartbeats 4000000 in
mutual
theorem eok(G:Ground A Φ l d):∀ (m:ME) (e:Expr) (env:Env) (sc:Scope) (ns:List (Option Str)) (Γ:Env'),ck N sc ns m e=true->Ex ns->Γ.length=ns.length->EOk A ((Amb.env env sc ns Γ).and (Amb.frames l)) Φ env Γ m e
 | .none,e,env,sc,ns,Γ,h,_,_=>by refine ex2 (X5 h) fun k pos hr0=>?_;refine rwl hr0 ?_;refine EOk.of (fun H ρ s R p=>?_) rfl;exact A5 R fun Q E k=>wpAny_Constant_none (k _ s.toks .none)
 | .bool b,e,env,sc,ns,Γ,h,_,_=>by refine ex2 (X6 h) fun k pos hr0=>?_;refine rwl hr0 ?_;refine EOk.of (fun H ρ s R p=>?_) rfl;exact A5 R fun Q E k=>wpAny_Constant_bool (k _ s.toks (.bool b))
 | .int i,e,env,sc,ns,Γ,h,_,_=>by refine ex2 (Acn h) fun k pos hr1=>?_;refine rwl hr1 ?_;refine EOk.of (fun H ρ s R p=>?_) rfl;exact A5 R fun Q E k=>wpAny_Constant_int (k _ _ (.int _ _))
 | .str v,e,env,sc,ns,Γ,h,_,_=>by refine ex2 (Aco h) fun k pos zz=>Ad zz fun hr3 z=>?_;refine rwl hr3 ?_;refine EOk.of (fun H ρ s R p=>?_) rfl;exact A5 R fun Q E k=>wpAny_Constant_str (k _ _ (.str _ _ (by refine rwl eC ?_;exact o27 z)))
 | .glob k,e,env,sc,ns,Γ,h,_,_=>by refine ex2 (X7 h) fun x pos zz=>Ap zz fun hr2 h1 h2=>?_;refine rwl hr2 ?_;exact EOk.of (Xv G.base h1 h2 Φ).and1 rfl
 | .var i,e,env,sc,ns,Γ,h,_,_=>by refine ex2 (Acp h) fun x pos zz=>Ad zz fun hr3 h1=>?_;refine rwl hr3 ?_;exact EOk.of (Acc h1 Φ).and1 rfl
 | .bin op a b,e,env,sc,ns,Γ,h,ha,hΓ=>by refine ex4 (Acq h) fun x o y pos zz=>Cf zz fun hr6 h1 h2 h3=>?_;refine rwl hr6 ?_;exact Adb h1 (eok G a x env sc ns Γ h2 ha hΓ) (eok G b y env sc ns Γ h3 ha hΓ)
 | .neg a,e,env,sc,ns,Γ,h,ha,hΓ=>by refine ex2 (Acr h) fun x pos zz=>Ad zz fun hr4 h1=>?_;refine rwl hr4 ?_;exact Adc (eok G a x env sc ns Γ h1 ha hΓ)
 | .not a,e,env,sc,ns,Γ,h,ha,hΓ=>by refine ex2 (Acs h) fun x pos zz=>Ad zz fun hr5 h1=>?_;refine rwl hr5 ?_;exact Ade (eok G a x env sc ns Γ h1 ha hΓ)
 | .and a b,e,env,sc,ns,Γ,h,ha,hΓ=>by
  refine ex4 (Act h) fun x y rest pos zz=>Ap zz fun zr4 h1 h2=>?_;subst zr4;refine Adg (eok G a x env sc ns Γ h1 ha hΓ) ?_;rcases h2 with ⟨rfl,h2⟩ | h2
  . exact Xi.one (eok G b y env sc ns Γ h2 ha hΓ)
  . exact Xi.more (eok G b _ env sc ns Γ h2 ha hΓ)
 | .or a b,e,env,sc,ns,Γ,h,ha,hΓ=>by
  refine ex4 (Aga h) fun x y rest pos zz=>Ap zz fun zr4 h1 h2=>?_;subst zr4;refine Ago (eok G a x env sc ns Γ h1 ha hΓ) ?_;rcases h2 with ⟨rfl,h2⟩ | h2
  . exact Xi.one (eok G b y env sc ns Γ h2 ha hΓ)
  . exact Xi.more (eok G b _ env sc ns Γ h2 ha hΓ)
 | .cmp op a b,e,env,sc,ns,Γ,h,ha,hΓ=>by refine ex3 (Acu h) fun x y pos zz=>Cf zz fun hr11 h1 h2 h3=>?_;refine rwl hr11 ?_;exact Adh G.u h3 (eok G a x env sc ns Γ h1 ha hΓ) (eok G b y env sc ns Γ h2 ha hΓ)
 | .cmp2 op1 op2 a b c,e,env,sc,ns,Γ,h,ha,hΓ=>by refine ex4 (X8 h) fun x y z pos zz=>G7 zz fun hr12 h1 h2 h3 h4=>?_;refine rwl hr12 ?_;exact Yv G.u h4 (eok G a x env sc ns Γ h1 ha hΓ) (eok G b y env sc ns Γ h2 ha hΓ) (eok G c z env sc ns Γ h3 ha hΓ)
 | .sub a i,e,env,sc,ns,Γ,h,ha,hΓ=>by refine ex3 (Acv h) fun x y pos zz=>Ap zz fun hr13 h1 h2=>?_;refine rwl hr13 ?_;exact Adl G.u (eok G a x env sc ns Γ h1 ha hΓ) (eok G i y env sc ns Γ h2 ha hΓ)
 | .slice a lo hi,e,env,sc,ns,Γ,h,ha,hΓ=>by refine ex5 (Uc h) fun v lw up p pos zz=>Cf zz fun hr8 h1 h2 h3=>?_;refine rwl hr8 ?_;exact U9 (eok G a v env sc ns Γ h1 ha hΓ) (eopt G lo lw env sc ns Γ h2 ha hΓ) (eopt G hi up env sc ns Γ h3 ha hΓ)
 | .tup es,e,env,sc,ns,Γ,h,ha,hΓ=>by refine ex3 (Acw h) fun xs k pos zz=>Ap zz fun hr15 h1 h2=>?_;refine rwl hr15 ?_;exact EOk.of (Acz (Dc h1) h2 (fun _ _ _ e=>El h1 e) (eoks G es xs env sc ns Γ h1 ha hΓ)) rfl
 | .list es,e,env,sc,ns,Γ,h,ha,hΓ=>by refine ex2 (X9 h) fun xs pos zz=>Ap zz fun hr9 h1 h2=>?_;refine rwl hr9 ?_;exact EOk.of (Yg (Dc h1) h2 (fun _ _ _ e=>El h1 e) (eoks G es xs env sc ns Γ h1 ha hΓ)) rfl
 | .dict,e,env,sc,ns,Γ,h,ha,hΓ=>by obtain ⟨pos,hr17⟩:=Yb h;refine rwl hr17 ?_;exact EOk.of X4 rfl
 | .attr a n,e,env,sc,ns,Γ,h,ha,hΓ=>by refine ex3 (Yc h) fun x y pos zz=>Cf zz fun hr10 h1 h2 h3=>?_;refine rwl hr10 ?_;exact Yz G.base.cls h2 h3 (eok G a x env sc ns Γ h1 ha hΓ)
 | .call f es,e,env,sc,ns,Γ,h,ha,hΓ=>by refine ex4 (Yd h) fun x np xs pos zz=>G7 zz fun hr11 h1 h2 h3 h4=>?_;refine rwl hr11 ?_;refine EOk.of ?_ rfl;refine ex2 G.base.ns fun mg mb zz=>Cf zz fun ng nb q _=>?_;refine ex1 (q x f (D0 h2)) fun a zz=>Ad zz fun ha' _=>?_;exact Ug G.base (fun a args vals h=>G.funs f a args vals A l h G.room.toF G.frames) h1 h2 (G.defs f a ha') h3 (eoks G es xs env sc ns Γ h3 ha hΓ)
 | .new c es,e,env,sc,ns,Γ,h,ha,hΓ=>by refine ex4 (Acx h) fun x np xs pos zz=>G7 zz fun zr4 h1 h2 h3 h4=>?_;subst zr4;exact Adp G.base G.funs G.room G.frames h1 h2 h3 (eoks G es xs env sc ns Γ h3 ha hΓ)
 | .umeth a m es,e,env,sc,ns,Γ,h,ha,hΓ=>by refine ex5 (Ud h) fun o y apos xs pos zz=>Pb zz fun hr21 h1 h2 h3 h4 h5 h6=>?_;refine rwl hr21 ?_;exact U6 G.base.cls G.funs G.room G.frames h2 h3 h4 h5 h6 (eok G a o env sc ns Γ h1 ha hΓ) (eoks G es xs env sc ns Γ h3 ha hΓ)
 | .bf f es,e,env,sc,ns,Γ,h,ha,hΓ=>by refine ex4 (Agb h) fun x np xs pos zz=>G7 zz fun zr4 h1 h2 h3 h4=>?_;subst zr4;exact Agq G.base G.room.hh G.u h1 h2 h3 h4 (eoks G es xs env sc ns Γ h4 ha hΓ)
 | .bm a m es,e,env,sc,ns,Γ,h,ha,hΓ=>by
  refine ex5 (Agc h) fun o y apos xs pos zz=>Pb zz fun zr5 h1 zr7 h3 h4 h5 h6=>?_;subst zr5;subst zr7;refine EOk.of ?_ rfl;exact Af6 h5 (Dc h4) (by refine rwr h3 ?_;cases m <;> decide) (fun e=>Ib (e▸h4)) h6 (eok G a o env sc ns Γ h1 ha hΓ).val (eoks G es xs env sc ns Γ h4 ha hΓ)
   (fun b v ms vs hl=>Agt G.u m b v ms vs (Ags h3 hl)) (fun _ _ _ e=>El h4 e)
 | .isinst a t,e,env,sc,ns,Γ,h,ha,hΓ=>by
  refine ex6 (R9 h) fun f np x y yp pos zz=>Mq zz fun hr23 h1 h2 h3 h4 h5=>?_;refine rwl hr23 ?_;have z:=eok G a x env sc ns Γ h4 ha hΓ;cases t with
  | cls c=>exact C0 h5
  | int=>exact Ko G.base (fun c=>by intro q;cases q) h1 h2 h3 (of_decide_eq_true h5) (Du h4) z
  | bool=>exact Ko G.base (fun c=>by intro q;cases q) h1 h2 h3 (of_decide_eq_true h5) (Du h4) z
  | str=>exact Ko G.base (fun c=>by intro q;cases q) h1 h2 h3 (of_decide_eq_true h5) (Du h4) z
  | tuple=>exact Ko G.base (fun c=>by intro q;cases q) h1 h2 h3 (of_decide_eq_true h5) (Du h4) z
  | list=>exact Ko G.base (fun c=>by intro q;cases q) h1 h2 h3 (of_decide_eq_true h5) (Du h4) z
 | .comp elt it cond,e,env,sc,ns,Γ,h,ha,hΓ=>by refine ex7 (Qw h) fun el x px i ifs csc pos zz=>Mq zz fun hr24 h1 h2 h3 h4 h5=>?_;refine rwl hr24 ?_;exact Yy G.room.hh h2 h3 ha hΓ ⟨fun cenv Γ' hΓ'=>econd G cond ifs cenv csc _ Γ' h5 (Gh ha (Cb h3).2.1) hΓ',fun cenv Γ' hΓ'=>(eok G elt el cenv csc _ Γ' h4 (Gh ha (Cb h3).2.1) hΓ').val⟩ (eok G it i env sc ns Γ h1 ha hΓ)
theorem eopt(G:Ground A Φ l d):∀ (o:MEo) (x:Option Expr) (env:Env) (sc:Scope) (ns:List (Option Str)) (Γ:Env'),ckO N sc ns o x=true->Ex ns->Γ.length=ns.length->Sim A ((Amb.env env sc ns Γ).and (Amb.frames l)) (evalPart x env) (evalO cx.T Φ o Γ) (Amb.vr)
 | .none,none,env,sc,ns,Γ,_,_,_=>by intro H ρ s R p;exact aU ⟨ρ,Full.refl _ _,R,.none⟩
 | .some e,some x,env,sc,ns,Γ,h,ha,hΓ=>by exact (eok G e x env sc ns Γ h ha hΓ).val
 | .none,some _,env,sc,ns,Γ,h,ha,hΓ=>by cases (show false=true from h)
 | .some _,none,env,sc,ns,Γ,h,ha,hΓ=>by cases (show false=true from h)
theorem econd(G:Ground A Φ l d):∀ (cond:MEo) (ifs:List Expr) (cenv:Env) (csc:Scope) (ns':List (Option Str)) (Γ':Env'),ckC N csc ns' cond ifs=true->Ex ns'->Γ'.length=ns'.length ->
 Sim A ((Amb.env cenv csc ns' Γ').and (Amb.frames l)) (forIn ifs true fun c r=>if r=true then do let ok<-isTrue c cenv (eval c cenv);pure (fE ok) else pure (fE r)) (evalC cx.T Φ cond Γ') BV
 | .none,[],cenv,csc,ns',Γ',h2,ha,hΓ=>by intro H ρ s R p;exact wpAny_tests_nil ⟨ρ,Full.refl _ _,R,rfl⟩
 | .some c,[i],cenv,csc,ns',Γ',h2,ha,hΓ=>by exact (eok G c i cenv csc ns' Γ' h2 ha hΓ).tru.pre fun Q E s h=>wpAny_tests_one h
 | .none,_ :: _,cenv,csc,ns',Γ',h2,ha,hΓ=>by cases (show false=true from h2)
 | .some _,[],cenv,csc,ns',Γ',h2,ha,hΓ=>by cases (show false=true from h2)
 | .some _,_ :: _ :: _,cenv,csc,ns',Γ',h2,ha,hΓ=>by cases (show false=true from h2)
theorem eoks(G:Ground A Φ l d):∀ (ms:MEs) (xs:List Expr) (env:Env) (sc:Scope) (ns:List (Option Str)) (Γ:Env'),ckEs N sc ns ms xs=true->Ex ns->Γ.length=ns.length ->
 Sim A ((Amb.env env sc ns Γ).and (Amb.frames l)) (spliced (xs.map fun e=>(false,eval e env))) (evalEs cx.T Φ ms Γ) (Amb.vrs)
 | .nil,[],env,sc,ns,Γ,h,ha,hΓ=>Acy
 | .nil,_ :: _,env,sc,ns,Γ,h,ha,hΓ=>by cases (show false=true from h)
 | .cons _ _,[],env,sc,ns,Γ,h,ha,hΓ=>by cases (show false=true from h)
 | .cons m ms,x :: xs,env,sc,ns,Γ,h,ha,hΓ=>by have h:=nB (an1 h) (an2 h);exact Ye (eok G m x env sc ns Γ h.1 ha hΓ).val (eoks G ms xs env sc ns Γ h.2 ha hΓ)
end
end
section
noncomputable def Ci(env:Env)(sc:Scope)(ns:List (Option Str))(r:ResS)(T:(Flow->bD->Prop)->(Value->bD->Prop)->bD->Prop)(ρ:Rho)(s:bD):Prop :=
 match r with
 | .bad=>True
 | .next Γ' H'=>T (fun f s'=>f=.next/\∃ ρ',FullS env ρ s.heap ρ' s'.heap/\Rel H' ρ' s'/\EnvOk env sc ns Γ' ρ' s'.heap) (fun _ _=>False) s
 | .ret v H'=>T (fun f s'=>∃ v' ρ',f=.ret v'/\FullS env ρ s.heap ρ' s'.heap/\Rel H' ρ' s'/\(VR ρ' s'.heap v v'/\EnvSt env sc ρ' s'.heap)) (fun _ _=>False) s
 | .exc c Γ' H'=>T (fun _ _=>False) (fun e s'=>∃ ρ',FullS env ρ s.heap ρ' s'.heap/\Rel H' ρ' s'/\EnvOk env sc ns Γ' ρ' s'.heap/\Flying ρ' s.heap s'.heap c e) s
theorem Ci.of(x:Cg A env sc ns r t ρ s):Ci env sc ns r (fun Q E s=>wpAny (model cx.prog cx.w) A t Q E s) ρ s:=by cases r <;> exact x
theorem Ci.to(x:Ci env sc ns r (fun Q E s=>wpAny (model cx.prog cx.w) A t Q E s) ρ s):Cg A env sc ns r t ρ s:=by cases r <;> exact x
theorem Ci.mono(x:Ci env sc ns r T ρ s)(k:∀ Q E,T Q E s->T' Q E s):Ci env sc ns r T' ρ s:=by cases r <;> first | trivial | exact k _ _ x
theorem Cg.bindK{α β:Type}{t:Sem α}{m:M β}{V:β->α->Amb}{g:β->Hp->ResS}{K:α->(Flow->bD->Prop)->(Value->bD->Prop)->bD->Prop}(e0:EnvOk env sc ns Γ ρ s.heap)(x:A8 A (m H) t V ρ s)
 (y:∀ b a H' ρ' s',m H=.ok b H'->Full ρ s.heap ρ' s'.heap->Rel H' ρ' s'->EnvOk env sc ns Γ ρ' s'.heap->(V b a).P ρ' s'.heap->Ci env sc ns (g b H') (K a) ρ' s')
 (mk:∀ a,Rz (K a))
 (k:∀ Q E,wpAny (model cx.prog cx.w) A t (fun a s'=>K a Q E s') E s->K' Q E s) :
 Ci env sc ns (Gw m Γ g H) K' ρ s:=by
 unfold Gw;cases e:m H with
 | bad=>trivial
 | exc c H' =>rw [e] at x;exact k _ _ (aL x (fun _ _ q=>q.elim) fun ex s' ⟨ρ',F,R,fl⟩=>⟨ρ',F.toS,R,e0.full F,fl⟩)
 | ok b H' =>
  rw [e] at x;show Ci env sc ns (g b H') K' ρ s;cases e2:g b H' with
  | bad=>trivial
  | next Γ2 H2 =>refine k _ _ (aL x (fun a s' ⟨ρ',F,R,v⟩=>?_) fun _ _ q=>q.elim);have z:=y b a H' ρ' s' e F R (e0.full F) v;rw [e2] at z;exact mk a _ _ _ _ _ z (fun f s'' ⟨h1,ρ'',F',R',e'⟩=>⟨h1,ρ'',F.toS.trans F',R',e'⟩) fun _ _ q=>q.elim
  | ret v2 H2 =>refine k _ _ (aL x (fun a s' ⟨ρ',F,R,v⟩=>?_) fun _ _ q=>q.elim);have z:=y b a H' ρ' s' e F R (e0.full F) v;rw [e2] at z;exact mk a _ _ _ _ _ z (fun f s'' ⟨v',ρ'',h1,F',R',e'⟩=>⟨v',ρ'',h1,F.toS.trans F',R',e'⟩) fun _ _ q=>q.elim
  | exc c2 Γ2 H2 =>refine k _ _ (aL x (fun a s' ⟨ρ',F,R,v⟩=>?_) fun _ _ q=>q.elim);have z:=y b a H' ρ' s' e F R (e0.full F) v;rw [e2] at z;exact mk a _ _ _ _ _ z (fun _ _ q=>q) fun ex s'' ⟨ρ'',F',R',e',fl⟩=>⟨ρ'',F.toS.trans F',R',e',fl.older F.live⟩
theorem Ci.look{β:Type}{f:Hp->Option β}{g:β->Hp->ResS}(y:∀ b,f H=some b->Ci env sc ns (g b H) K ρ s):Ci env sc ns (Gw (M.look f) Γ g H) K ρ s:=by
 unfold Gw;cases e:f H with
 | none=>refine rwl (Ik e) ?_;trivial
 | some b=>refine rwl (Ij e) ?_;exact y b e
theorem A6.stmt(fr:A6 l ρ h)(F:FullS env ρ h ρ' h')(e0:EnvSt env sc ρ h)(e1:EnvSt env sc ρ' h'):A6 l ρ' h':=fun en he=>by
 refine Ae fun G kG=>?_
 refine Ad (fr en he) fun k zz=>ex2 zz fun L o zz=>G7 zz fun h1 h2 h3 h5 h6=>?_
 refine kG ?_
 by_cases q:L=env.locals
 . refine Ae fun G kG=>?_
   refine ex1 e1.loc fun m zz=>ex3 zz fun o' es ep zz=>Ap zz fun e' d _=>?_
   refine kG ?_
   rw [<- q] at e'
   exact ⟨k,L,o',h1,h2,e',⟨_,_,d⟩,by refine rwl q ?_;exact e1.locN⟩
 . refine ex2 h5 fun es n hd=>?_
   refine ex1 (F.keep L o h3 h6 q (e0.notCell h3 fun v w=>by rw [hd] at w;cases w)) fun o' zz=>Ad zz fun e' u=>?_
   exact ⟨k,L,o',h1,h2,e',⟨es,n,by refine rwl u.data ?_;exact hd⟩,F.grow.not h6 h3⟩
theorem Y1{m:Env'->Hp->ResS}(e0:EnvOk env sc ns Γ ρ s.heap)(fr:A6 l ρ s.heap)(x:Cg A env sc ns (m Γ H) (exec st env) ρ s)(y:I7 A l env sc ns (execs rest env) g) :
 Cg A env sc ns (Nw (m Γ H) g) (execs (st :: rest) env) ρ s:=by
 cases e:m Γ H with
 | bad=>trivial
 | ret v H' =>rw [e] at x;exact gZ (aL x (fun f s' q=>by obtain ⟨v',ρ',rfl,q⟩:=q;exact ⟨v',ρ',rfl,q⟩) fun _ _ q=>q)
 | exc c Γ' H' =>rw [e] at x;exact gZ (aL x (fun f s' q=>q.elim) fun _ _ q=>q)
 | next Γ' H' =>
  rw [e] at x;show Cg A env sc ns (g Γ' H') _ ρ s;cases e2:g Γ' H' with
  | bad=>trivial
  | next Γ2 H2 =>refine gZ (aL x (fun f s' q=>?_) fun _ _ q=>q.elim);obtain ⟨rfl,ρ',F,R,e'⟩:=q;have z:=y Γ' H' ρ' s' R e' (fr.stmt F e0.st e'.st);rw [e2] at z;exact aL z (fun f s'' ⟨h1,ρ'',F',R',e'⟩=>⟨h1,ρ'',F.trans F',R',e'⟩) fun _ _ q=>q.elim
  | ret v2 H2 =>refine gZ (aL x (fun f s' q=>?_) fun _ _ q=>q.elim);obtain ⟨rfl,ρ',F,R,e'⟩:=q;have z:=y Γ' H' ρ' s' R e' (fr.stmt F e0.st e'.st);rw [e2] at z;exact aL z (fun f s'' ⟨v',ρ'',h1,F',R',e'⟩=>⟨v',ρ'',h1,F.trans F',R',e'⟩) fun _ _ q=>q.elim
  | exc c2 Γ2 H2 =>refine gZ (aL x (fun f s' q=>?_) fun _ _ q=>q.elim);obtain ⟨rfl,ρ',F,R,e'⟩:=q;have z:=y Γ' H' ρ' s' R e' (fr.stmt F e0.st e'.st);rw [e2] at z;exact aL z (fun _ _ q=>q.elim) fun ex s'' ⟨ρ'',F',R',e',fl⟩=>⟨ρ'',F.trans F',R',e',fl.older F.live⟩
theorem Va(ha:Ex ns)(R:Rel H ρ s)(e0:EnvOk env sc ns Γ ρ s.heap)(ho:E7 sc ns i y=true)(hv:VR ρ s.heap mv v) :
 Ci env sc ns (.next (Γ.set i (some mv)) H) (fun Q E s=>wpAny (model cx.prog cx.w) A (storeName env y v) (fun _=>Q .next) E s) ρ s :=
 E9 e0.len ha R e0 ho hv fun h' tk F' R' e' _=>⟨rfl,ρ,F',R',e'⟩
theorem Py:Rz (α:=Flow) fun Q E s=>wpAny (model cx.prog cx.w) A (storeName env y v) (fun _=>Q .next) E s:=fun _ _ _ _ _ h k1 k2=>aL h (fun _ _=>k1 _ _) k2
end
section
noncomputable def Adq(env:Env)(sc:Scope)(ns:List (Option Str))(ρ:Rho)(h:Heap)(r:ResS)(Q:Flow->bD->Prop)(E:Value->bD->Prop):Prop :=
 match r with
 | .bad=>True
 | .next Γ' H'=>∀ s' ρ',FullS env ρ h ρ' s'.heap->Rel H' ρ' s'->EnvOk env sc ns Γ' ρ' s'.heap->Q .next s'
 | .ret v H'=>∀ s' ρ' v',FullS env ρ h ρ' s'.heap->Rel H' ρ' s'->(VR ρ' s'.heap v v'/\EnvSt env sc ρ' s'.heap)->Q (.ret v') s'
 | .exc c Γ' H'=>∀ e s' ρ',FullS env ρ h ρ' s'.heap->Rel H' ρ' s'->EnvOk env sc ns Γ' ρ' s'.heap->Flying ρ' h s'.heap c e->E e s'
theorem Ci.ofPost(k:∀ Q E,r≠.bad->Adq env sc ns ρ s.heap r Q E->T Q E s):Ci env sc ns r T ρ s:=by
 cases r with
 | bad=>trivial
 | next Γ' H'=>exact k _ _ (fun q=>by cases q) fun s' ρ' F R e=>⟨rfl,ρ',F,R,e⟩
 | ret v H'=>exact k _ _ (fun q=>by cases q) fun s' ρ' v' F R e=>⟨v',ρ',rfl,F,R,e⟩
 | exc c Γ' H'=>exact k _ _ (fun q=>by cases q) fun e s' ρ' F R e' fl=>⟨ρ',F,R,e',fl⟩
theorem FullS.fresh{qs:List Addr}(F:FullS env ρ h ρ' h1)(hq:∀ q∈qs,h.get? q=none)(hs:∀ b o,b ∉ qs->¬Ay ρ' b->h1.get? b=some o->h2.get? b=some o)(lv:F5 h1 h2):FullS env ρ h ρ' h2:=by refine ⟨F.grow,fun b o e n n1 n2=>?_,F.live.trans lv⟩;refine ex1 (F.keep b o e n n1 n2) fun o' zz=>Ad zz fun e' u=>?_;refine ⟨o',hs b o' (fun w=>?_) (F.grow.not n e) e',u⟩;rw [hq b w] at e;exact Af e
theorem EnvOk.priv{qs:List Addr}(x:EnvOk env sc ns Γ ρ h)(hs:∀ b o,b ∉ qs->¬Ay ρ b->h.get? b=some o->h'.get? b=some o)(hq:∀ q∈qs,∃ o,h.get? q=some o/\Hh o)(st:Step ρ h ρ h'):EnvOk env sc ns Γ ρ h':=by
 have nl:env.locals ∉ qs:=fun w=>by refine ex1 (hq _ w) fun o zz=>Ad zz fun e i=>?_;exact x.st.notLoc e i.notDict rfl
 have nc:∀ y c,env.cells.lookup y=some c->c ∉ qs:=fun y c hc w=>by refine ex1 (hq _ w) fun o zz=>Ad zz fun e i=>?_;exact x.st.notCell e i.notCell y hc
 have kl:∀ o,h.get? env.locals=some o->∃ o',h'.get? env.locals=some o'/\o'.data=o.data:=fun o e=>⟨o,hs _ o nl x.st.locN e,rfl⟩;have kc:∀ y c,env.cells.lookup y=some c->∀ o,h.get? c=some o->∃ o',h'.get? c=some o'/\o'.data=o.data:=fun y c hc o e=>⟨o,hs _ o (nc y c hc) (x.st.cells y c hc).2.1 e,rfl⟩;obtain ⟨m,hm⟩:=x.st.loc;refine ⟨⟨x.st.fn,x.st.glob,x.st.blt,x.st.kinds,⟨m,Bo hm kl⟩,x.st.locN,x.st.locB,fun y c hc=>?_,x.st.hasCell,x.st.apart⟩,x.len,fun i y mv hi hm=>?_⟩
 . refine Ap (x.st.cells y c hc) fun zn0 a b=>?_;obtain ⟨v,hv⟩:=zn0;exact ⟨⟨v,Bq hv (kc y c hc)⟩,a,b⟩
 . refine ex1 (x.vals i y mv hi hm) fun v zz=>Ad zz fun hv r=>?_;refine ⟨v,?_,r.step st⟩;rcases hv with ⟨k,m,hm,e⟩ | ⟨k,c,hc,e⟩
   . exact .inl ⟨k,m,Bo hm kl,e⟩
   . exact .inr ⟨k,c,hc,Bq e (kc y c hc)⟩
structure Walk(A:fI)(it:Value)(target:Expr)(xs:List Val)(ck:Hp->Bool) where
 Ok:Nat->Rho->Heap->Prop
 priv:List Addr
 obj:∀ {i ρ h},Ok i ρ h->∀ q∈priv,(∃ o,h.get? q=some o/\Hh o)/\¬Ay ρ q
 step:∀ {i ρ h ρ' h'},Ok i ρ h->Step ρ h ρ' h'->(∀ q∈priv,(∀ o,h.get? q=some o->h'.get? q=some o)/\¬Ay ρ' q)->Ok i ρ' h'
 item:∀ {i:Nat} {ρ:Rho} {H:Hp} {s:bD} {m:Val} {Q:Value->bD->Prop} {E E':Value->bD->Prop} {QQ:Option Value->bD->Prop},Rel H ρ s->Ok i ρ s.heap->ck H=true->xs[i]?=some m->(∀ q∈priv,cx.h₀.get? q=none) ->
  (∀ v s₁,wpAny (model cx.prog cx.w) A (letOwnedTupleGo target it v) (fun _ s₂=>Q v s₂) E' s₁->QQ (some v) s₁) ->
  (∀ v h' tk,Rel H ρ { s with heap:=h',toks:=tk }->Step ρ s.heap ρ h'->(∀ b o,b ∉ priv->¬Ay ρ b->s.heap.get? b=some o->h'.get? b=some o)->F5 s.heap h'->VR ρ h' m v->Ok (i+1) ρ h'->Q v { s with heap:=h',toks:=tk }) ->
  wpAny (model cx.prog cx.w) A (pyNext it) QQ E s
 fin:∀ {i:Nat} {ρ:Rho} {H:Hp} {s:bD} {Q:Option Value->bD->Prop} {E:Value->bD->Prop},Rel H ρ s->Ok i ρ s.heap->ck H=true->xs[i]?=none->(∀ q∈priv,cx.h₀.get? q=none) ->
  (∀ h' tk,Rel H ρ { s with heap:=h',toks:=tk }->Step ρ s.heap ρ h'->(∀ b o,b ∉ priv->¬Ay ρ b->s.heap.get? b=some o->h'.get? b=some o)->Q none { s with heap:=h',toks:=tk }) ->
  wpAny (model cx.prog cx.w) A (pyNext it) Q E s
noncomputable def Vb(A:fI)(env:Env)(sc:Scope)(ns:List (Option Str))(target:Expr)(bind:Val->Env'->Option Env'):Prop :=
 ∀ (Γ Γ':Env') (H:Hp) (ρ:Rho) (s:bD) (m:Val) (v:Value) (Q:Unit->bD->Prop) (E:Value->bD->Prop),bind m Γ=some Γ'->Rel H ρ s->EnvOk env sc ns Γ ρ s.heap->VR ρ s.heap m v ->
  (∀ h' tk,FullS env ρ s.heap ρ h'->Rel H ρ { s with heap:=h',toks:=tk }->EnvOk env sc ns Γ' ρ h'->Q () { s with heap:=h',toks:=tk })->wpAny (model cx.prog cx.w) A (assign target env v) Q E s
theorem Vc(ha:Ex ns)(ho:E7 sc ns i y=true):Vb A env sc ns (.Name y py) (Tn i):=by intro Γ Γ' H ρ s m v Q E hb R e0 vr k;cases hb;exact iT (E9 e0.len ha R e0 ho vr fun h' tk F R' e' _=>k h' tk F R' e')
theorem Sl(hfr:A.frames=some (env :: l))(R:Rel H ρ s)(fr:A6 (env :: l) ρ s.heap)(e0:EnvOk env sc ns Γ ρ s.heap)(lb:F5 cx.h₀ h)(F:FullS env ρ₀ h ρ s.heap)(fl:Flying ρ h s.heap c e)
 (k:∀ s',FullS env ρ₀ h ρ s'.heap->Rel H ρ s'->EnvOk env sc ns Γ ρ s'.heap->Flying ρ h s'.heap c e->E e s') :
 notedBy (model cx.prog cx.w) A env (fun e s'=>cameBackBy (model cx.prog cx.w) A env E e s') e s:=by
 refine Ae fun G kG=>?_;refine Ad (fr env (.head _)) fun _ zz=>ex2 zz fun L _ zz=>Ad zz fun hf _=>?_;refine kG ?_;refine Pn hfr hf fr R lb F.live fl fun h1 o1 fl1=>Ac0 (s:={ s with heap:=h1 }) lb fl1 fun h2 o2 fl2=>?_;have o:=o1.trans o2;exact k { s with heap:=h2 } (o.fullS F) (o.rel R) (o.envK e0) fl2.to
theorem Nc{ck:Hp->Bool}{bind:Val->Env'->Option Env'}{s₁:bD}(W:Walk A it target xs ck)(hfr:A.frames=some (env :: l))(hB:Vb A env sc ns target bind)
 (hb:I7 A (env :: l) env sc ns (execs stmts env) (execSs cx.T Φ body))
 (e1:EnvOk env sc ns Γ ρ₁ s₁.heap) (fr:A6 (env :: l) ρ₁ s₁.heap) (lvB:F5 cx.h₀ s₁.heap) (hpriv:∀ q∈W.priv,s₁.heap.get? q=none)
 (F0:FullS env ρ₁ s₁.heap ρ s.heap) (R0:Rel H ρ s) (e0:EnvOk env sc ns Γ ρ s.heap) (ok:W.Ok 0 ρ s.heap) 
 (nb:Fn ck bind (execSs cx.T Φ body) xs Γ H≠.bad) (p:Adq env sc ns ρ₁ s₁.heap (Fn ck bind (execSs cx.T Φ body) xs Γ H) Q E) :
 codeAny (model cx.prog cx.w) A (.forLoop target it stmts [] env) (fun r s'=>match r with | .ok f=>Q f s' | .error e=>cameBackBy (model cx.prog cx.w) A env E e s') s:=by
 generalize hres:Fn ck bind (execSs cx.T Φ body) xs Γ H=res at nb p;refine codeAny_forLoop_any (fun n s=>∃ i Γ H ρ,FullS env ρ₁ s₁.heap ρ s.heap/\Rel H ρ s/\EnvOk env sc ns Γ ρ s.heap/\W.Ok i ρ s.heap/\i<=xs.length/\n=xs.length+1 - i/\Fn ck bind (execSs cx.T Φ body) (xs.drop i) Γ H=res) ?_ (xs.length+1)
  ⟨0,Γ,H,ρ,F0,R0,e0,ok,bH _,rfl,hres⟩
 have privB:∀ q∈W.priv,cx.h₀.get? q=none:=fun q hq=>lvB.none (hpriv q hq);clear F0 R0 e0 ok hres;intro n s zz;refine ex4 zz fun i Γ H ρ zz=>Pb zz fun F R e0 ok hi hr0 hr=>?_;cases hx:xs[i]? with
 | none =>
  rw [kO (cZ.mp hx)] at hr;rw [Nx] at hr;by_cases ckh:ck H=true
  . rw [if_pos ckh] at hr;subst hr;refine W.fin R ok ckh hx privB fun h' tk R' st ex=>?_;refine lP ?_;have e':EnvOk env sc ns Γ ρ h':=e0.priv ex (fun q hq=>(W.obj ok q hq).1) st;have F':FullS env ρ₁ s₁.heap ρ h':=by
     refine ⟨F.grow,fun b o e n n1 n2=>?_,fun b o e=>?_⟩
     . refine ex1 (F.keep b o e n n1 n2) fun o' zz=>Ad zz fun eo' u=>?_;exact ⟨o',ex b o' (fun w=>by rw [hpriv b w] at e;cases e) (F.grow.not n e) eo',u⟩
     . by_cases ow:Ay ρ b
       . exact R'.owned_lt ow
       . obtain ⟨o',eo'⟩:=F.live b o e;exact ⟨o',ex b o' (fun w=>by rw [hpriv b w] at e;cases e) ow eo'⟩
    exact p _ ρ F' R' e'
  . rw [if_neg ckh] at hr;exact absurd hr.symm nb
 | some m =>
  have lt:i < xs.length:=(aE.mp hx).1;have hdrop:xs.drop i=m :: xs.drop (i+1):=by refine rwl (fJ lt) ?_;rw [aI lt] at hx;cases hx;rfl
  rw [hdrop] at hr;rw [L4] at hr;by_cases ckh:ck H=true
  . rw [if_pos ckh] at hr;cases hbd:bind m Γ with
    | none=>rw [hbd] at hr;exact absurd hr.symm nb
    | some Γ1 =>
     rw [hbd] at hr;dsimp only at hr;refine W.item R ok ckh hx privB (fun v s₁ h=>h) fun v h' tk R' st ex lv vr ok'=>?_
     . have e':EnvOk env sc ns Γ ρ h':=e0.priv ex (fun q hq=>(W.obj ok q hq).1) st;have F':FullS env ρ₁ s₁.heap ρ h':=F.fresh hpriv ex lv;refine hB Γ Γ1 H ρ { s with heap:=h',toks:=tk } m v _ _ hbd R' e' vr fun h2 tk2 F2 R2 e2=>?_;have F12:FullS env ρ₁ s₁.heap ρ h2:=F'.trans F2;have priv2:∀ q∈W.priv,(∀ o,h'.get? q=some o->h2.get? q=some o)/\¬Ay ρ q:=fun q hq=>by obtain ⟨⟨o,eo,io⟩,no⟩:=W.obj ok' q hq;refine ⟨fun o2 eo2=>?_,no⟩;rw [eo] at eo2;cases eo2;refine ex1 (F2.keep q o eo no (e'.st.notLoc eo io.notDict) (e'.st.notCell eo io.notCell)) fun o3 zz=>Ad zz fun eo3 u=>?_;exact rwl eo3 (rwl (u.exact io.notDict) rfl)
       have ok2:W.Ok (i+1) ρ h2:=W.step ok' (FullS.step e'.st F2) priv2;have fr2:A6 (env :: l) ρ h2:=fr.stmt F12 e1.st e2.st;have B:=hb Γ1 H ρ { s with heap:=h2,toks:=tk2 } R2 e2 fr2;cases hbody:execSs cx.T Φ body Γ1 H with
       | bad=>rw [hbody] at hr;exact absurd hr.symm nb
       | next Γ3 H3 =>rw [hbody] at hr B;dsimp only [Nw] at hr;refine aL B (fun f s3 q=>?_) fun _ _ q=>q.elim;refine Ad q fun zr0 zz=>ex1 zz fun ρ3 zz=>Ap zz fun F3 R3 e3=>?_;subst zr0;refine ⟨xs.length+1 - (i+1),by exact Ah6 lt hr0,i+1,Γ3,H3,ρ3,F12.trans F3,R3,e3,?_,lt,rfl,hr⟩;refine W.step ok2 (FullS.step e2.st F3) fun q hq=>?_;refine Ae fun G kG=>?_;obtain ⟨⟨o,eo,io⟩,no⟩:=W.obj ok2 q hq;refine kG ?_;refine ⟨fun o2 eo2=>?_,F3.grow.not no eo⟩;rw [eo] at eo2;cases eo2;refine ex1 (F3.keep q o eo no (e2.st.notLoc eo io.notDict) (e2.st.notCell eo io.notCell)) fun o3 zz=>Ad zz fun eo3 u=>?_;exact rwl eo3 (rwl (u.exact io.notDict) rfl)
       | ret v3 H3 =>rw [hbody] at hr B;dsimp only [Nw] at hr;subst hr;refine aL B (fun f s3 q=>?_) fun _ _ q=>q.elim;refine Ae fun G kG=>?_;refine ex2 q fun v' ρ3 zz=>Cf zz fun zr2 F3 R3 vr3=>?_;subst zr2;refine kG ?_;exact p s3 ρ3 v' (F12.trans F3) R3 vr3
       | exc c3 Γ3 H3 =>rw [hbody] at hr B;dsimp only [Nw] at hr;subst hr;refine aL B (fun _ _ q=>q.elim) fun e s3 ⟨ρ3,F3,R3,e3,fl⟩=>?_;exact Sl hfr R3 (fr.stmt (F12.trans F3) e1.st e3.st) e3 lvB (F12.trans F3) (fl.older F12.live) fun s4 F4 R4 e4 fl4=>p e s4 ρ3 F4 R4 e4 fl4
  . rw [if_neg ckh] at hr;exact absurd hr.symm nb
noncomputable def Vd(hh:A.handled=none)(xs:List Val)(I:Addr)(src:Option Nat)(y:Str)(py:Pos):Walk A (.ref I) (.Name y py) xs (chk src xs) where
 Ok i ρ h:=ItOk xs I i ρ h src/\¬Ay ρ I
 priv:=[I]
 obj:=fun ⟨h1,h2⟩ q hq=>by refine rwl (aT.mp hq) ?_;exact ⟨h1.obj,h2⟩
 step:=fun ⟨h1,h2⟩ st k=>⟨h1.step st (k I (.head _)).1,(k I (.head _)).2⟩
 item:=by
  intro i ρ H s m Q E E' QQ R ⟨ok,no⟩ ck hx hb qq k
  refine ex1 ok.obj fun o zz=>Ad zz fun e io=>?_
  refine Km R ok ck hx fun v h' tk hs hl kk=>qq v _ ?_
  obtain ⟨o',e'⟩:=hl
  have st:Step ρ s.heap ρ h':=Step.but e' e hs io.not.1 io.not.2
  obtain ⟨vr,ok'⟩:=kk st
  refine aU (k v h' tk (R.but e' e hs io.not.1 io.not.2 no (hb I (.head _))) st (fun b o nb _ eb=>by refine rwl (hs.2 b (fun w=>nb (w▸.head _))) ?_;exact eb) (SameBut.live hs e') vr ⟨ok',no⟩)
 fin:=by
  intro i ρ H s Q E R ⟨ok,no⟩ ck hx hb k
  refine ex1 ok.obj fun o zz=>Ad zz fun e io=>?_
  refine iter_end hh R ok ck hx fun h' tk he=>?_
  exact k h' tk (R.ext e he io.not.1 io.not.2 no (hb I (.head _))) (Step.ext e he io.not.1 io.not.2) fun b o nb _ eb=>he b o (fun w=>nb (w▸.head _)) eb
theorem Ip{M:Model}(h:cameBackBy M A env E e s)(k:∀ e s,E e s->E' e s):cameBackBy M A env E' e s:=aL h (fun _ _=>k _ _) k
theorem Y2(hh:A.handled=none)(hfr:A.frames=some (env :: l))(ha:Ex ns)(ho:E7 sc ns i y=true)(hn:Ei x=true)
 (hx:∀ Γ:Env',Γ.length=ns.length->EOk A ((Amb.env env sc ns Γ).and (Amb.frames (env :: l))) Φ env Γ it x) (hb:I7 A (env :: l) env sc ns (execs stmts env) (execSs cx.T Φ body)) :
 I7 A (env :: l) env sc ns (exec (.For (.Name y py) x stmts [] pos) env) (D7 cx.T Φ (.each i it body)):=by
 intro Γ H ρ s R e0 fr;refine Ci.to ?_;refine Cg.bindK (K:=fun xv Q E s=>wpAny (model cx.prog cx.w) A (pyIter xv) (fun it s₂=>codeAny (model cx.prog cx.w) A (.forLoop (.Name y py) it stmts [] env) (fun r s'=>match r with | .ok f=>Q f s' | .error e=>cameBackBy (model cx.prog cx.w) A env E e s') s₂) E s) e0 ((hx Γ e0.len).val H ρ s R ⟨e0,fr⟩) ?_ ?_ ?_
 . intro v xv H1 ρ1 s1 _ F1 R1 e1 vr;refine Ci.look fun pr hp=>?_;obtain ⟨xs,src⟩:=pr;refine Ci.ofPost fun Q E nb p=>?_;refine I8 R1 vr hp fun o go it0=>?_;have F2:Full ρ1 s1.heap ρ1 (s1.heap.push o):=Full.push _ _ _;exact Nc (Vd hh xs s1.heap.objs.size src y py) hfr (Vc ha ho) hb e1 ((Amb.frames (env :: l)).st _ _ _ _ fr F1) (fun b o e=>⟨o,R1.base b o e⟩) (fun q hq=>by refine rwl (aT.mp hq) ?_;exact Ar _) F2.toS (R1.push o s1.toks) (e1.full F2) ⟨it0,R1.fresh_not (Ar _)⟩ nb p
 . intro xv Q E Q' E' s h k1 k2;exact aL h (fun it s₂ h2=>nM h2 fun r s' hr=>by
    cases r with
    | ok f=>exact k1 _ _ hr
    | error e=>exact Ip hr k2) k2
 . intro Q E h;exact sT h (fun xv=>E0 hn env xv)
end
section
theorem Rel.turn(R:Rel H ρ s){l:Nat}(hl:ρ[l]?=some p)(hp:H[l]?=some o)(k:∀ b ob,s.heap.get? b=some ob->Ay ρ b->b≠p.1->b≠p.2->h'.get? b=some ob)(st:Step ρ s.heap ρ h')(kb:∀ b o,cx.h₀.get? b=some o->h'.get? b=some o)(x:HR ρ h' o p) :
 Rel H ρ { s with heap:=h',toks:=tk }:=by
 refine ⟨R.len,fun i ob q hi hq=>?_,R.apart,R.new,kb,R.sys,?_⟩
 . by_cases e:i=l
   . subst e;rw [hl] at hq;cases hq;rw [hp] at hi;cases hi;exact x
   . refine (R.objs i ob q hi hq).step st fun b ob' hb eb=>?_;refine Ap (R.apart i l q p e hq hl) fun zn0 a3 a4=>?_;obtain ⟨a1,a2⟩:=zn0;have ow:Ay ρ b:=⟨q,aH hq,hb⟩;rcases hb with rfl | rfl
     . exact k _ _ eb ow a1 a2
     . exact k _ _ eb ow a3 a4
 . refine ex2 R.rest fun h t hr0=>?_;refine rwl hr0 ?_;exact ⟨h',tk,rfl⟩
theorem N9(hh:A.handled=none)(ha:Ex ns)(hy:E7 sc ns i y=true)(hz:E7 sc ns j z=true):Vb A env sc ns (.Tuple [.Name y py,.Name z pz] k pt) (To i j):=by
 intro Γ Γ' H ρ s m v Q E hb R e0 vr kk;refine ex1 (bY.mp hb) fun zn0 zz=>Ad zz fun e1 hb=>?_;obtain ⟨a,b⟩:=zn0;cases Tr e1;cases hb
 . cases vr with
   | @tup t vs n ms g no zz r =>
    cases r with
    | @cons _ va _ _ ra r =>
     cases r with
     | @cons _ vb _ _ rb r =>cases r;refine wpAny_assign_Tuple (items:=[va,vb].toArray) hh ⟨_,g,rfl,n,rfl⟩ rfl rfl fun h1 ex=>?_;have kp:∀ b o,s.heap.get? b=some o->h1.get? b=some o:=fun b o e=>ex b o (dB (gS e)) e;have F1:Full ρ s.heap ρ h1:=Full.more kp;have R1:Rel H ρ { s with heap:=h1 }:=R.more (tk:=s.toks) kp;refine pL (iT (E9 (s:={ s with heap:=h1 }) (e0.full F1).len ha R1 (e0.full F1) hy (ra.step F1.step) fun h2 tk2 F2 R2 e2 _=>?_));have St2:=FullS.step (e0.full F1).st F2;refine pL (iT (E9 (s:={ s with heap:=h2,toks:=tk2 }) e2.len ha R2 e2 hz ((rb.step F1.step).step St2) fun h3 tk3 F3 R3 e3 _=>?_));exact wpAny_assignInOrder_none (kk h3 tk3 ((F1.toS.trans F2).trans F3) R3 e3)
theorem Gi{h:Heap}{i l:Addr}(x:h.IsListIter i l k):∃ o,h.get? i=some o/\Hh o:=by refine ex1 x fun o zz=>Ap zz fun e c d=>?_;exact ⟨o,e,⟨_,d⟩,_,c,by decide⟩
theorem Y3{h:Heap}(x:∃ o,h.get? a=some o/\Hh o)(e:h.get? b=some o)(n:∀ vs,o.data≠.fields vs):a≠b:=fun w=>by
 refine ex1 x fun o' zz=>Ad zz fun e' zz=>Ad zz fun zn2 _=>?_;obtain ⟨vs,d⟩:=zn2
 rw [w,e] at e';cases e'
 exact n vs d
noncomputable def Pz(_:Bool)(h:Heap)(I a:Addr)(k:Nat)(items:Array Value):Prop:=h.IsListIter I a k/\h.IsList a items
section
theorem Pz.ext(x:Pz b h I a k items)(hs:lH c h h')(n1:I≠c)(n2:a≠c):Pz b h' I a k items:=⟨x.1.extBut hs n1,x.2.extBut hs n2⟩
theorem Pz.obj(x:Pz b h I a k items):∃ o,h.get? I=some o/\Hh o:=Gi x.1
theorem Pz.ne(x:Pz b h I a k items):a≠I:=fun w=>by
 refine ex1 x.2 fun o' zz=>Ap zz fun e' c zz=>ex1 zz fun n d'=>?_
 exact Y3 x.obj e' (fun vs q=>by rw [d'] at q;cases q) w.symm
end
theorem Ve{qs:List Addr}(hq:∀ q∈qs,Ay ρ q\/∃ o,h.get? q=some o/\Hh o)(k:∀ b o,b ∉ qs->h.get? b=some o->h'.get? b=some o):Step ρ h ρ h':=by
 refine ⟨⟨[],by simp⟩,fun b o e f n=>⟨k b o (fun w=>?_) e,n⟩,fun b o C e f n=>⟨o,k b o (fun w=>?_) e,f,n⟩⟩
 . rcases hq b w with w | ⟨o',e',io⟩
   . exact n w
   . rw [e] at e';cases e';exact io.not.1 f
 . rcases hq b w with w | ⟨o',e',io⟩
   . exact n w
   . rw [e] at e';cases e';exact io.not.2 C f
inductive ZIt(xs:List Val)(I:Addr)(i:Nat)(ρ:Rho)(h:Heap):Option Nat->Prop
 | list {l:Nat} {p:Addr × Addr}:ρ[l]?=some p->h.IsListIter I p.1 i->ZIt xs I i ρ h (some l)
section
theorem ZIt.obj(x:ZIt xs I i ρ h src):∃ o,h.get? I=some o/\Hh o:=by
 cases x with
 | list hp hi=>exact Gi hi
theorem ZIt.step(x:ZIt xs I i ρ h src)(st:Step ρ h ρ' h')(k:∀ o,h.get? I=some o->h'.get? I=some o):ZIt xs I i ρ' h' src:=by
 cases x with
 | list hp hi=>exact .list (st.get hp) (hi.at k)
end
structure ZOk(xs ys:List Val)(l1 l2:Option Nat)(hl:Nat)(z TI i1 i2:Addr)(i:Nat)(ρ:Rho)(h:Heap):Prop where
 zip:∃ TO,ρ[hl]?=some (TO,TO)/\IsZip h z TI TO .none
 ti:h.get? TI=some (T5 [.ref i1,.ref i2] 0)/\¬Ay ρ TI
 it1:ZIt xs i1 i ρ h l1
 it2:ZIt ys i2 i ρ h l2
 no:¬Ay ρ z/\¬Ay ρ i1/\¬Ay ρ i2
end
section
set_option tactic.hygienic true in
theorem Oa{l:Nat}(h:G9 v H=some (xs,l)):v=.loc l/\H[l]?=some (.list xs):=by
 unfold G9 at h;split at h
 . split at h
   . rename_i hl;cases h;exact ⟨rfl,hl⟩
   . exact Af h
 . exact Af h
theorem Y4:(("enumerate":Str),lR "enumerate")∈Ha:=by unfold Ha;repeat (first | exact lE _ | apply lD)
noncomputable abbrev loopK(A:fI)(env:Env)(target:Expr)(stmts:List Stmt)(zv:Value):(Flow->bD->Prop)->(Value->bD->Prop)->bD->Prop:=fun Q E s =>
 wpAny (model cx.prog cx.w) A (pyIter zv) (fun it s₂=>codeAny (model cx.prog cx.w) A (.forLoop target it stmts [] env) (fun r s'=>match r with | .ok f=>Q f s' | .error e=>cameBackBy (model cx.prog cx.w) A env E e s') s₂) E s
theorem Mg:Rz (loopK A env target stmts zv):=by
 intro Q E Q' E' s h k1 k2;exact aL h (fun it s₂ h2=>nM h2 fun r s' hr=>by
  cases r with
  | ok f=>exact k1 _ _ hr
  | error e=>exact Ip hr k2) k2
theorem Agu(x:IsEnum h e it i f):∃ o,h.get? e=some o/\Hh o:=⟨_,x,⟨_,rfl⟩,_,rfl,by decide⟩
theorem P2:∀ {xs:List Val} {n i:Nat} {m:Val},(Gb n xs)[i]?=some m->∃ a,xs[i]?=some a/\m=.tup [.int ((n+i:Nat):Int),a]:=by
 intro xs;induction xs with
 | nil=>intro n k x h;exact nomatch h
 | cons z zs ihh =>
  intro n k x h;cases k with
  | zero=>exact ⟨z,rfl,(aO h).symm⟩
  | succ k =>have q:=ihh (n:=n+1) (i:=k) (m:=x) h;rw [kU] at q;exact q
theorem Ob:∀ {xs:List Val} {n i:Nat},(Gb n xs)[i]?=none->xs[i]?=none:=by
 intro xs;induction xs with
 | nil=>intro _ _ _;rfl
 | cons z zs ihh =>
  intro n k h;cases k with
  | zero=>exact nomatch h
  | succ k=>exact ihh (n:=n+1) (i:=k) h
structure EnOk(xs:List Val)(l1:Nat)(e it:Addr)(i:Nat)(ρ:Rho)(h:Heap):Prop where
 en:∃ old,IsEnum h e it i old
 it1:∃ p,ρ[l1]?=some p/\h.IsListIter it p.1 i
 no:¬Ay ρ e/\¬Ay ρ it
noncomputable def Y5(hh:A.handled=none)(xs:List Val)(l1:Nat)(e it:Addr)(n1:e≠it)(elts:List Expr)(k:Nat)(pt:Pos):Walk A (.ref e) (.Tuple elts k pt) (Gb 0 xs) (chk (some l1) xs) where
 Ok i ρ h:=EnOk xs l1 e it i ρ h
 priv:=[e,it]
 obj:=by
  intro i ρ h ok q hq
  refine Ae fun G kG=>?_
  obtain ⟨old,he⟩:=ok.en
  refine ex1 ok.it1 fun p1 zz=>Ad zz fun _ hi1=>?_
  refine kG ?_
  simp only [bO,dT,or_false] at hq
  rcases hq with rfl | rfl
  . exact ⟨Agu he,ok.no.1⟩
  . exact ⟨Gi hi1,ok.no.2⟩
 step:=by
  intro i ρ h ρ' h' ok st kk
  refine Ae fun G kG=>?_
  obtain ⟨old,he⟩:=ok.en
  refine ex1 ok.it1 fun p1 zz=>Ad zz fun e1 hi1=>?_
  refine kG ?_
  have kz:=kk e (by simp)
  have k1:=kk it (by simp)
  exact ⟨⟨old,kz.1 _ he⟩,⟨p1,st.get e1,hi1.at k1.1⟩,kz.2,k1.2⟩
 item:=by
  intro i ρ H s m Q E E' QQ R ok ck hx hb qq kk
  obtain ⟨old,he⟩:=ok.en
  refine ex1 ok.it1 fun p1 zz=>Ad zz fun e1 hi1=>?_
  have H1:=Qp ck
  refine ex2 (R.listAt H1 e1) fun vs nv zz=>Cf zz fun pp1 g1 r1 z1=>?_
  refine ex1 (P2 hx) fun a zz=>Ad zz fun ha zr2=>?_;subst zr2
  refine ex1 (r1.get ha) fun va zz=>Ad zz fun eva ra=>?_
  refine wpAny_pyNext_enum_item (items:=vs.toArray) (x:=va) he hi1 ⟨_,g1,rfl,nv,rfl⟩ (by simpa using eva) n1 fun h1 he1 hi1' hT1 hsz1 hk1=>qq _ _ ?_
  refine wpAny_letOwnedTupleGo_enum he1 fun h2 he2 hs2=>?_
  have zT:s.heap.objs.size≠e:=fun w=>by have:=gS he;rw [<- w] at this;exact cA _ this
  have keep:∀ b o,b ∉ [e,it]->s.heap.get? b=some o->h2.get? b=some o:=fun b o nb eb=>by
   simp only [bO,dT,or_false,not_or] at nb
   exact hs2.extBut _ _ nb.1 (hk1 b o nb.1 nb.2 eb)
  have hT2:h2.get? s.heap.objs.size=some (T5 [.int i s.toks,va] 0):=hs2.extBut _ _ zT hT1
  have hi1'':=hi1'.extBut hs2.extBut n1.symm
  have st:Step ρ s.heap ρ h2:=Ve (qs:=[e,it]) (fun q hq=>by
   simp only [bO,dT,or_false] at hq
   rcases hq with rfl | rfl
   . exact .inr (Agu he)
   . exact .inr (Gi hi1)) keep
  have R2:Rel H ρ { s with heap:=h2,toks:=s.toks+1 }:=by
   refine R.same st (fun b o ow eb=>keep b o (by simp only [bO,dT,or_false,not_or];exact ⟨fun w=>ok.no.1 (w▸ow),fun w=>ok.no.2 (w▸ow)⟩) eb) fun b o eb=>keep b o ?_ (R.base b o eb)
   simp only [bO,dT,or_false,not_or]
   refine ⟨fun w=>?_,fun w=>?_⟩
   . rw [w,hb e (by simp)] at eb;exact nomatch eb
   . rw [w,hb it (by simp)] at eb;exact nomatch eb
  have lv:F5 s.heap h2:=fun b o eb=>by
   by_cases q:b∈[e,it]
   . simp only [bO,dT,or_false] at q
     rcases q with rfl | rfl
     . exact ⟨_,he2⟩
     . refine ex1 hi1'' fun o zz=>Ad zz fun e _=>?_;exact ⟨o,e⟩
   . exact ⟨o,keep b o q eb⟩
  refine kk _ h2 (s.toks+1) R2 st (fun b o nb no eb=>keep b o nb eb) lv ?_ ?_
  . refine .tup hT2 (R.fresh_not (Ar _)) (show 2<=sizeLine by skip;decide) (.cons ?_ (.cons (ra.step st) .nil))
    rw [cN];exact .int _ _
  . refine ⟨⟨va,?_⟩,⟨p1,e1,hi1''⟩,ok.no⟩
    have e':(((i+1:Nat)):Int)=(i:Int)+1:=by exact rfl
    skip;exact he2
 fin:=by
  intro i ρ H s Q E R ok ck hx hb kk
  refine Ae fun G kG=>?_
  obtain ⟨old,he⟩:=ok.en
  refine ex1 ok.it1 fun p1 zz=>Ad zz fun e1 hi1=>?_
  have H1:=Qp ck
  refine ex2 (R.listAt H1 e1) fun vs nv zz=>Cf zz fun pp1 g1 r1 z1=>?_
  have hn:=Ob hx
  refine ex1 (Gi hi1) fun oi zz=>Ad zz fun ei ioi=>?_
  refine kG ?_
  refine wpAny_pyNext_enum_end hh he hi1 ⟨_,g1,rfl,nv,rfl⟩ (by rw [cZ] at hn;have:=r1.length;simp;exact o39 this hn) fun h' keep=>?_
  exact kk h' s.toks (R.ext ei keep ioi.not.1 ioi.not.2 ok.no.2 (hb it (by simp))) (Step.ext ei keep ioi.not.1 ioi.not.2) fun b o nb _ eb=>keep b o (fun w=>nb (by refine rwl w ?_;simp)) eb
theorem Oc(B:Base)(hh:A.handled=none)(hfr:A.frames=some (env :: l))(ha:Ex ns)(hy:E7 sc ns i y=true)(hz:E7 sc ns j z=true)
 (hg:B6 sc f=true) (hf:f=("enumerate":Str)) (np:M2 p=true)
 (hp:∀ Γ:Env',Γ.length=ns.length->EOk A ((Amb.env env sc ns Γ).and (Amb.frames (env :: l))) Φ env Γ a p)
 (hb:I7 A (env :: l) env sc ns (execs stmts env) (execSs cx.T Φ body)) :
 I7 A (env :: l) env sc ns (exec (.For (.Tuple [.Name y py,.Name z pz] kk pt) (.Call (.Name f fp) [p] [] cp) stmts [] pos) env) (D7 cx.T Φ (.eachEnum i j a body)):=by
 refine Ae fun G kG=>?_;refine ex2 B.ns fun mg mb zz=>Mq zz fun ng nb' _ _ _ tab=>?_;have q12:mg ("enumerate":Str)=none/\mb ("enumerate":Str)=some (.type "enumerate"):=tab _ Y4;obtain ⟨q1,q2⟩:=q12;refine kG ?_;rw [<- hf] at q1 q2;intro Γ H ρ s R e0 fr;refine Ci.to ?_;refine Cg.bindK (K:=fun va Q E s=>wpAny (model cx.prog cx.w) A (call (.type "enumerate") [va]) (fun zv s''=>loopK A env (.Tuple [.Name y py,.Name z pz] kk pt) stmts zv Q E s'') E s) e0 ((hp Γ e0.len).val H ρ s R ⟨e0,fr⟩) ?_ ?_ ?_
 . intro v va H2 ρ2 s2 _ F1 R2 e2 vr1;have fr2:A6 (env :: l) ρ2 s2.heap:=fr.full F1;refine Ci.look fun pr1 h1=>?_;obtain ⟨xs,l1⟩:=pr1;obtain ⟨rfl,H1'⟩:=Oa h1;refine Ci.ofPost fun Q E nb p=>?_;cases vr1 with
   | @loc _ p1 e1' =>
    refine Ae fun G kG=>?_;refine ex2 (R2.listAt H1' e1') fun vs nv zz=>Cf zz fun pp1 g1 r1 z1=>?_;refine kG ?_;refine call_enumerate_1 (items:=vs.toArray) g1 fun h3 he3 hi1 hsz kp=>?_;refine wpAny_pyIter_enum he3 ?_;have fresh:∀ k,s2.heap.get? (s2.heap.objs.size+k)=none:=fun k=>Gx (aG _ _);have F3:Full ρ2 s2.heap ρ2 h3:=Full.more kp;have R3:Rel H2 ρ2 { s2 with heap:=h3 }:=R2.more (tk:=s2.toks) kp;refine Nc (Y5 hh xs l1 (s2.heap.objs.size+1) s2.heap.objs.size (qX _) [.Name y py,.Name z pz] kk pt) hfr (N9 hh ha hy hz) hb e2 fr2 (fun b o e=>⟨o,R2.base b o e⟩) ?_ F3.toS R3 (e2.full F3) ?_ nb p
    . intro q hq;have hq':q=s2.heap.objs.size+1\/q=s2.heap.objs.size:=by have hq2:q∈[s2.heap.objs.size+1,s2.heap.objs.size]:=hq;simpa using hq2
      rcases hq' with rfl | rfl
      . exact fresh 1
      . exact fresh 0
    . exact ⟨⟨_,he3⟩,⟨p1,e1',hi1⟩,R2.fresh_not (fresh 1),R2.fresh_not (fresh 0)⟩
 . intro va Q E Q' E' s h k1 k2;exact aL h (fun zv s'' h''=>Mg _ _ _ _ _ h'' k1 k2) k2
 . intro Q E h;refine sT ?_ (fun xv=>rfl);refine iU (wp_glob R e0.st hg ng nb' (v:=.type "enumerate") (.inr ⟨q1,q2⟩) ?_);have pl:Cp env [p]:=⟨D2 np,trivial⟩;refine rwl (Az cp pl) ?_;refine lU (Es _) (iW (jN (aL h (fun v s' h'=>?_) fun _ _ q=>q)));exact pY h'
noncomputable def Y6(hh:A.handled=none)(xs:List Val)(I:Addr)(l1:Nat)(elts:List Expr)(k:Nat)(pt:Pos):Walk A (.ref I) (.Tuple elts k pt) xs (chk (some l1) xs) where
 Ok i ρ h:=ItOk xs I i ρ h (some l1)/\¬Ay ρ I
 priv:=[I]
 obj:=fun ⟨h1,h2⟩ q hq=>by refine rwl (aT.mp hq) ?_;exact ⟨h1.obj,h2⟩
 step:=fun ⟨h1,h2⟩ st k=>⟨h1.step st (k I (.head _)).1,(k I (.head _)).2⟩
 item:=by
  intro i ρ H s m Q E E' QQ R ⟨ok,no⟩ ck hx hb qq k
  refine ex1 ok.obj fun o zz=>Ad zz fun e io=>?_
  refine Km R ok ck hx fun v h' tk hs hl kk=>qq v _ ?_
  obtain ⟨o',e'⟩:=hl
  have st:Step ρ s.heap ρ h':=Step.but e' e hs io.not.1 io.not.2
  obtain ⟨vr,ok'⟩:=kk st
  have done:=k v h' tk (R.but e' e hs io.not.1 io.not.2 no (hb I (.head _))) st (fun b o nb _ eb=>by refine rwl (hs.2 b (fun w=>nb (w▸.head _))) ?_;exact eb) (SameBut.live hs e') vr ⟨ok',no⟩
  cases ok' with
  | list hp hi =>
   cases v with
   | ref T=>exact wpAny_letOwnedTupleGo_listiter hi done
   | _=>exact aU done
 fin:=by
  intro i ρ H s Q E R ⟨ok,no⟩ ck hx hb k
  refine ex1 ok.obj fun o zz=>Ad zz fun e io=>?_
  refine iter_end hh R ok ck hx fun h' tk he=>?_
  exact k h' tk (R.ext e he io.not.1 io.not.2 no (hb I (.head _))) (Step.ext e he io.not.1 io.not.2) fun b o nb _ eb=>he b o (fun w=>nb (w▸.head _)) eb
theorem Od(hh:A.handled=none)(hfr:A.frames=some (env :: l))(ha:Ex ns)(hy:E7 sc ns i y=true)(hz:E7 sc ns j z=true)(hn:Ei x=true)
 (hx:∀ Γ:Env',Γ.length=ns.length->EOk A ((Amb.env env sc ns Γ).and (Amb.frames (env :: l))) Φ env Γ it x) (hb:I7 A (env :: l) env sc ns (execs stmts env) (execSs cx.T Φ body)) :
 I7 A (env :: l) env sc ns (exec (.For (.Tuple [.Name y py,.Name z pz] kk pt) x stmts [] pos) env) (D7 cx.T Φ (.eachPair i j it body)):=by
 intro Γ H ρ s R e0 fr;refine Ci.to ?_;refine Cg.bindK (K:=fun xv=>loopK A env (.Tuple [.Name y py,.Name z pz] kk pt) stmts xv) e0 ((hx Γ e0.len).val H ρ s R ⟨e0,fr⟩) ?_ (fun _=>Mg) ?_
 . intro v xv H1 ρ1 s1 _ F1 R1 e1 vr;refine Ci.look fun pr hp=>?_;obtain ⟨xs,src⟩:=pr;obtain ⟨rfl,H1'⟩:=Oa hp;refine Ci.ofPost fun Q E nb p=>?_;refine I8 (xs:=xs) (src:=some src) R1 vr (Tu H1') fun o go it0=>?_;have F2:Full ρ1 s1.heap ρ1 (s1.heap.push o):=Full.push _ _ _;exact Nc (Y6 hh xs s1.heap.objs.size src [.Name y py,.Name z pz] kk pt) hfr (N9 hh ha hy hz) hb e1 ((Amb.frames (env :: l)).st _ _ _ _ fr F1) (fun b o e=>⟨o,R1.base b o e⟩) (fun q hq=>by refine rwl (aT.mp hq) ?_;exact Ar _) F2.toS (R1.push o s1.toks) (e1.full F2) ⟨it0,R1.fresh_not (Ar _)⟩ nb p
 . intro Q E h;exact sT h (fun xv=>E0 hn env xv)
end
section
theorem Oe(h:ck N sc ns m x=true)(hm:∀ a b c,m≠.comp a b c):swapsWith x t ln env=pure false:=by
 have z:=Uf h;have hc:Aal m=false:=by cases m <;> first | rfl | exact absurd rfl (hm _ _ _)
 rw [hc] at z;cases x <;> first | rfl | exact C0 z
theorem Sm:swapsWith x (some (.Name y py)) ln env=pure true\/swapsWith x (some (.Name y py)) ln env=pure false:=by
 have:∃ b,swapsWith x (some (.Name y py)) ln env=pure b:=by cases x <;> exact ⟨_,rfl⟩
 obtain ⟨b,e⟩:=this;cases b
 . exact .inr e
 . exact .inl e
theorem F6(ha:Ex ns)(ho:E7 sc ns i y=true)(hs:swapsWith x (some (.Name y py)) pos.line env=pure false)
 (hx:∀ Γ:Env',Γ.length=ns.length->EOk A ((Amb.env env sc ns Γ).and (Amb.frames l)) Φ env Γ m x) :
 I7 A l env sc ns (exec (.Assign [.Name y py] x pos) env) (D7 cx.T Φ (.assign i m)):=by
 intro Γ H ρ s R e0 fr;refine Ci.to (Cg.bindK (K:=fun v Q E s=>wpAny (model cx.prog cx.w) A (storeName env y v) (fun _=>Q .next) E s) e0 ((hx Γ e0.len).val H ρ s R ⟨e0,fr⟩) (fun b v H1 ρ1 s1 _ F1 R1 e1 vr=>Va ha R1 e1 ho vr) (fun _=>Py) fun Q E h=>wpAny_Assign_Name h hs)
theorem Kq(hh:A.handled=none){cond:MEo}(ha:Ex ns)(ho:E7 sc ns i y=true)(hs:swapsWith (.ListComp e [⟨.Name t tp,x,ifs,0⟩] csc cp) (some (.Name y py)) pos.line env=pure true)(hi:Ei x=true)(hc:Ki sc csc t=true)
 (pt:CParts A Φ l csc (Ew csc ns++[some t]) cond elt ifs e) (hx:∀ Γ:Env',Γ.length=ns.length->EOk A ((Amb.env env sc ns Γ).and (Amb.frames l)) Φ env Γ it x) :
 I7 A l env sc ns (exec (.Assign [.Name y py] (.ListComp e [⟨.Name t tp,x,ifs,0⟩] csc cp) pos) env) (D7 cx.T Φ (.assign i (.comp elt it cond))):=by
 refine Ap (Cb hc) fun c1 c2 c3=>?_;intro Γ H ρ s R e0 fr;rw [Tq,N7];have assoc:∀ (m:M Val) (f:Val->M Val) (g:Val->Hp->ResS) (H:Hp),Gw (m.bnd f) Γ g H=Gw m Γ (fun v=>Gw (f v) Γ g) H:=by intro m f g H;unfold Gw M.bnd;cases m H <;> rfl
 rw [assoc];refine Ci.to (Cg.bindK (K:=fun xv Q E s=>wpAny (model cx.prog cx.w) A (pyIter xv) (fun it s₂=>wpAny (model cx.prog cx.w) A (newList []) (fun acc s₃=>wpAny (model cx.prog cx.w) A (newFunctionEnv csc env.globals (F8 env csc.names []) [] env.qual none .none (some env)) (fun cenv s₄ =>
  codeAny (model cx.prog cx.w) A (.compStart (.ListComp e [⟨.Name t tp,x,ifs,0⟩] csc cp) 0 it acc { cenv with scope:=relabel csc env }) (compPost (model cx.prog cx.w) A E (some (assign (.Name y py) env)) (fun _ s'=>Q .next s') acc cenv.locals) s₄) E s₃) E s₂) E s) e0 ((hx Γ e0.len).val H ρ s R ⟨e0,fr⟩) ?_ ?_ ?_)
 . intro v xv H1 ρ1 s1 _ F1 R1 e1 vr;rcases Hd (T:=cx.T) (Φ:=Φ) (cond:=cond) (elt:=elt) (Γ:=Γ) (v:=v) (H:=H1) with w | ⟨xs,src,ys,H₂,w1,w2,w3,w4⟩
   . unfold Gw;refine rwl w ?_;trivial
   . unfold Gw;refine rwl w4 ?_;refine Me hh hc ha e1.len pt R1 e1 ((Amb.frames l).st _ _ _ _ fr F1) vr w1 w2 w3 fun D C ρ' s' F' R' v' m' n' hC=>?_;obtain ⟨m,hm⟩:=m';have e':=e1.full F';have lvB:F5 cx.h₀ s1.heap:=fun b o e=>⟨o,R1.base b o e⟩;refine iT (E9 e'.len ha R' e' ho v' fun h2 tk2 F2 R2 e2 hq=>?_);refine Ae fun G kG=>?_;refine ex2 hq fun q oq zz=>Ap zz fun hqd hqs gq=>?_;have live:∀ {b:Addr},(∃ o,s1.heap.get? b=some o)->b≠C:=fun ⟨o,eo⟩ w=>by rw [w,hC] at eo;exact Af eo
     have locL:env.locals≠C:=live (by refine ex1 e1.st.loc fun m zz=>ex3 zz fun o es ep zz=>Ad zz fun e _=>?_;exact ⟨o,e⟩);have celL:∀ z c,env.cells.lookup z=some c->c≠C:=fun z c hc=>live (by obtain ⟨⟨v,o,e,_⟩,_⟩:=e1.st.cells z c hc;exact ⟨o,e⟩);have qC:C≠q:=by
      rcases hqd with ⟨_,rfl⟩ | ⟨_,w⟩
      . exact locL.symm
      . exact (celL y q w).symm
     have hm2:h2.Ns C m:=Bo hm fun o eo=>⟨o,by refine rwl (hqs.2 C qC) ?_;exact eo,rfl⟩;refine ex1 (U5 hm2) fun oC zz=>Ap zz fun gC nf nx=>?_;refine kG ?_;refine ⟨m,hm2,fun h3 hs3=>?_⟩;have st:Step ρ' h2 ρ' h3:=Step.ext gC hs3.extBut nf nx;have FF:FullS env ρ1 s1.heap ρ' h2:=F'.toS.trans F2;refine ⟨rfl,ρ',?_,R2.ext (tk:=tk2) gC hs3.extBut nf nx n' (lvB.none hC),e2.but hs3.extBut locL.symm (fun z w=>celL z C w rfl) st⟩;refine ⟨FF.grow,fun b o eb n n1 n2=>?_,fun b o eb=>?_⟩
     . refine ex1 (FF.keep b o eb n n1 n2) fun o' zz=>Ad zz fun e' u=>?_;exact ⟨o',hs3.extBut b o' (live ⟨o,eb⟩) e',u⟩
     . obtain ⟨o',e'⟩:=FF.live b o eb;exact ⟨o',hs3.extBut b o' (live ⟨o,eb⟩) e'⟩
 . intro xv Q E Q' E' s h k1 k2;exact aL h (fun it s₂ h2=>aL h2 (fun acc s₃ h3=>aL h3 (fun cenv s₄ h4=>nM h4 fun r s' hr=>Io hr (fun _ s=>k1 _ s) k2) k2) k2) k2
 . intro Q E h;refine rwl (exec_Assign_Name_used _ _ _ _ hs) ?_;refine aF (jL (aF ?_));show wpAny _ A (do let _<-comprehension (.ListComp e [⟨.Name t tp,x,ifs,0⟩] csc cp) csc env _ (newList []) false (eval x env) (some (assign (.Name y py) env))) _ _ s;refine aF (aL (pJ (use:=some (assign (.Name y py) env)) (Q:=fun _ s'=>Q .next s') (g:=⟨.Name t tp,x,ifs,0⟩) (gs:=[]) rfl (fun xv=>E0 hi env xv)
    (Il fun p' hp' hf=>e0.st.hasCell p'.1 (by rcases (c3 p' hp').2 hf with w | w;exact .inl w;exact .inr w)) c1 (fun p' hp' hl=>by exact rwl ((c3 p' hp').1) (rwl hl rfl)) h) (fun _ s' hq=>aU (aU hq)) fun _ _ e=>e)
theorem Sn(G:Ground A Φ l d)(ha:Ex ns)(ho:E7 sc ns i y=true)(hm:ck N sc ns m x=true) :
 I7 A l env sc ns (exec (.Assign [.Name y py] x pos) env) (D7 cx.T Φ (.assign i m)):=by
 rcases Sm (env:=env) (x:=x) (y:=y) (py:=py) (ln:=pos.line) with hs | hs
 . by_cases hc:∃ a b c,m=.comp a b c
   . refine ex3 hc fun elt it cond zr3=>?_;subst zr3;refine ex7 (Qw hm) fun el t px i' ifs csc cp zz=>Mq zz fun zr7 h1 h2 h3 h4 h5=>?_;subst zr7;exact Kq G.room.hh ha ho hs h2 h3 ⟨fun cenv Γ' hΓ'=>econd G cond ifs cenv csc _ Γ' h5 (Gh ha (Cb h3).2.1) hΓ',fun cenv Γ' hΓ'=>(eok G elt el cenv csc _ Γ' h4 (Gh ha (Cb h3).2.1) hΓ').val⟩
      fun Γ hΓ=>eok G it i' env sc ns Γ h1 ha hΓ
   . have:=Oe (env:=env) (t:=some (.Name y py)) (ln:=pos.line) hm fun a b c w=>hc ⟨a,b,c,w⟩;exact F6 ha ho this fun Γ hΓ=>eok G m x env sc ns Γ hm ha hΓ
 . exact F6 ha ho hs fun Γ hΓ=>eok G m x env sc ns Γ hm ha hΓ
end
section
theorem So(h:Bv v n m H=.ok u H'):∃ i c fs,v=.loc i/\H[i]?=some (.inst c fs)/\H'=H.set i (.inst c (Th fs n m)):=by
 unfold Bv at h;split at h
 . split at h
   . cases h;exact ⟨_,_,_,rfl,by assumption,rfl⟩
   . exact Eo h
 . exact Eo h
theorem Nd(h:Bv v n m H=.exc c H'):False:=by
 unfold Bv at h;split at h
 . split at h <;> cases h
 . cases h
theorem Sp:swapsWith x (some (.Attribute p y q)) ln env=pure false:=by cases x <;> rfl
theorem P3(G:Ground A Φ l d)(ha:Ex ns)(hx:ck N sc ns e x=true)(hp:ck N sc ns o p=true)(hn:Ek N.attrs y n=true) :
 I7 A l env sc ns (exec (.Assign [.Attribute p y q] x pos) env) (D7 cx.T Φ (.setattr o n e)):=by
 intro Γ H ρ s R e0 fr;refine Ci.to (Cg.bindK (K:=fun v Q E s=>wpAny (model cx.prog cx.w) A (eval p env) (fun ov s₂=>wpAny (model cx.prog cx.w) A (setAttr ov y v) (fun _=>Q .next) E s₂) E s) e0 ((eok G e x env sc ns Γ hx ha e0.len).val H ρ s R ⟨e0,fr⟩) ?_ ?_ fun Q E h=>plainObj_wpAny_Assign_Attribute h Sp)
 . intro b v H1 ρ1 s1 _ F1 R1 e1 vr;refine Cg.bindK (K:=fun ov Q E s=>wpAny (model cx.prog cx.w) A (setAttr ov y v) (fun _=>Q .next) E s) e1 ((eok G o p env sc ns Γ hp ha e1.len).val H1 ρ1 s1 R1 ⟨e1,fr.full F1⟩) ?_ ?_ (fun Q E h=>h)
   . intro b2 ov H2 ρ2 s2 _ F2 R2 e2 vo;have vo':VR ρ2 s2.heap b2 ov:=vo;unfold Gw;cases hr:Bv b2 n b H2 with
     | bad=>trivial
     | exc c H3=>exact (Nd hr).elim
     | ok u H3 =>refine ex3 (So hr) fun i c fs zz=>Ap zz fun zr3 hi zr5=>?_;subst zr3;subst zr5;refine ex1 vo'.loc_inv fun p1 zz=>Ad zz fun hp1 hr0=>?_;refine rwl hr0 ?_;exact Sj G.base.cls R2 hi hp1 (G.base.cls.attr y n (D0 hn)) (VR.step F2.step vr) fun s' F R'=>⟨rfl,ρ2,F.toS,R',e2.full F⟩
   . exact fun _ Q E Q' E' s h k1 k2=>aL h (fun _ _=>k1 _ _) k2
 . exact fun _ Q E Q' E' s h k1 k2=>aL h (fun _ _ h'=>aL h' (fun _ _=>k1 _ _) k2) k2
theorem Vf(G:Ground A Φ (env :: l) d)(ha:Ex ns)(hc:ck N sc ns c x=true)(hb:I7 A (env :: l) env sc ns (execs ts env) (execSs cx.T Φ b)) :
 I7 A (env :: l) env sc ns (exec (.While x ts [] pos) env) (D7 cx.T Φ (.loop c b)):=by
 intro Γ₀ H₀ ρ₁ s₁ R₀ e₁ fr;rw [Ab0];refine Ci.to (Ci.ofPost fun Q E nb p=>wpAny_While ?_);generalize hres:Jn (fun Γ=>(Aj cx.T Φ c Γ).bnd Di) (execSs cx.T Φ b) Pd Γ₀ H₀=res at nb p;refine codeAny_whileLoop (fun n s=>∃ Γ H ρ,FullS env ρ₁ s₁.heap ρ s.heap/\Rel H ρ s/\EnvOk env sc ns Γ ρ s.heap/\Jn (fun Γ=>(Aj cx.T Φ c Γ).bnd Di) (execSs cx.T Φ b) n Γ H=res) ?_ Pd ⟨Γ₀,H₀,ρ₁,FullS.refl _ _ _,R₀,e₁,hres⟩;intro n s zz;refine ex3 zz fun Γ H ρ zz=>Cf zz fun F R e0 hr=>?_;cases n with
 | zero=>exact absurd hr.symm nb
 | succ n =>
  rw [Ke] at hr;have fr0:A6 (env :: l) ρ s.heap:=fr.stmt F e₁.st e0.st;have C:=(eok G c x env sc ns Γ hc ha e0.len).tru H ρ s R ⟨e0,fr0⟩;cases hcd:((Aj cx.T Φ c Γ).bnd Di) H with
  | bad=>rw [hcd] at hr;exact absurd hr.symm nb
  | exc k H1=>rw [hcd] at hr;exact absurd hr.symm nb
  | ok t H1 =>
   rw [hcd] at hr C;refine aL C (fun t' s2 ⟨ρ2,F2,R2,ht⟩=>?_) fun _ _ q=>q.elim;have ht':t'=t:=ht;subst ht';have e2:=e0.full F2;have F12:=F.trans F2.toS;cases t' with
   | false =>dsimp only at hr;subst hr;exact lP (p s2 ρ2 F12 R2 e2)
   | true =>
    dsimp only at hr;refine rwl (if_pos rfl) ?_;have B:=hb Γ H1 ρ2 s2 R2 e2 (fr0.full F2);cases hbd:execSs cx.T Φ b Γ H1 with
    | bad=>rw [hbd] at hr;exact absurd hr.symm nb
    | exc k Γ3 H3=>rw [hbd] at hr;exact absurd hr.symm nb
    | next Γ3 H3 =>rw [hbd] at hr B;refine aL B (fun f s3 q=>?_) fun _ _ q=>q.elim;refine Ad q fun zr0 zz=>ex1 zz fun ρ3 zz=>Ap zz fun F3 R3 e3=>?_;subst zr0;exact ⟨n,bQ n,Γ3,H3,ρ3,F12.trans F3,R3,e3,hr⟩
    | ret v H3 =>rw [hbd] at hr B;subst hr;refine aL B (fun f s3 q=>?_) fun _ _ q=>q.elim;refine Ae fun G kG=>?_;refine ex2 q fun v' ρ3 zz=>Cf zz fun zr2 F3 R3 vr3=>?_;subst zr2;refine kG ?_;exact p s3 ρ3 v' (F12.trans F3) R3 vr3
end
section
set_option maxRecDepth 100000 in
theorem Sq{k:Int}(g:s.heap.get? a=some (B4 vs n))(h0:0<=k)(hk:k < vs.length)(hf:k < 2 ^ 63)
 (hQ:Q () { s with heap:=s.heap.update a (eE (·.setIfInBounds k.toNat v)) }):wpAny (model cx.prog cx.w) A (setItem (.ref a) (.int k t) v) Q E s:=by
 have hl:s.heap.IsList a vs.toArray:=⟨_,g,rfl,n,rfl⟩;unfold setItem;try with_reducible refine eY ?_
 first | refine aF (aU ?_) | skip
 refine aF (wpAny_sequenceKey hl.typeIs (by decide) ?_);refine aF (lC (name:=oS "__setitem__") hl.typeIs rW (fX rW hl.typeIs entry_list_setitem ?_ (args_list_setitem _ _ _)));show wpAny _ _ (uE (.int k t)>>=_) _ _ s;refine aF (wpAny_listSubscript_int (fitsIndex_of h0 hf) ?_);clear hf;obtain ⟨j,rfl⟩:=Int.eq_ofNat_of_zero_le h0;have hj:j < vs.toArray.size:=by simp only [dN];exact bS.mp hk
 have hx':vs.toArray[j]?=some vs.toArray[j]:=cY hj;refine aF (aF (wpAny_seqItemAt g rfl (aU ?_)));refine rwl hx' ?_;refine aF (wpAny_setSeqItemAt g rfl ?_);first
  | exact aF (aU (aU ⟨.none,rfl,aU hQ⟩))
  | exact aU ⟨.none,rfl,aU hQ⟩
theorem VRs.setArr(r:VRs ρ h xs vs)(k:Nat)(a:VR ρ h m v):VRs ρ h (xs.set k m) (vs.toArray.setIfInBounds k v).toList:=by
 have:(vs.toArray.setIfInBounds k v).toList=vs.set k v:=by simp
 refine rwl this ?_;exact r.set k a
set_option tactic.hygienic true in
theorem Sr(h:Av o i m H=.ok u H'):∃ l,o=.loc l/\((∃ xs k,H[l]?=some (.list xs)/\i=.int k/\0<=k/\k < xs.length/\H'=H.set l (.list (xs.set k.toNat m))) \/
 ∃ es k,H[l]?=some (.dict es)/\C1 i=some k/\es.length < lid/\H'=H.set l (.dict (E2 es k m))):=by
 unfold Av at h;split at h
 . rename_i l;split at h
   . rename_i xs hl;split at h
     . rename_i k;by_cases q:0<=k/\k < xs.length
       . rw [if_pos q] at h;cases h;exact ⟨l,rfl,.inl ⟨xs,k,hl,rfl,q.1,q.2,rfl⟩⟩
       . rw [if_neg q] at h;exact Eo h
     . exact Eo h
   . rename_i es hl;split at h
     . rename_i k hk;by_cases q:es.length < lid
       . rw [if_pos q] at h;cases h;exact ⟨l,rfl,.inr ⟨es,k,hl,hk,q,rfl⟩⟩
       . rw [if_neg q] at h;exact Eo h
     . exact Eo h
   . exact Eo h
 . exact Eo h
theorem Nf(h:Av o i m H=.exc c H'):False:=by
 unfold Av at h;split at h
 . split at h
   . split at h
     . split at h <;> cases h
     . cases h
   . split at h
     . split at h <;> cases h
     . cases h
   . cases h
 . cases h
theorem Ss(hu:A.units+100 < cLine)(R:Rel H ρ s){l:Nat}(hp:ρ[l]?=some p)(hl:H[l]?=some (.dict es))(hk:C1 i=some k)(q:es.length < lid)
 (xi:VR ρ s.heap i iv) (xm:VR ρ s.heap m v) (hQ:∀ h' tk,Full ρ s.heap ρ h'->Rel (H.set l (.dict (E2 es k m))) ρ { s with heap:=h',toks:=tk }->Q () { s with heap:=h',toks:=tk }):wpAny (model cx.prog cx.w) A (setItem (.ref p.1) iv v) Q E s:=by
 refine Ae fun G kG=>?_;refine ex1 (R.dictAt hl hp) fun xs zz=>Cf zz fun hpp D rr z=>?_;refine ex1 (L7 xi hk) fun bb zz=>Ap zz fun zr1 hb no=>?_;subst zr1;refine kG ?_;refine wpAny_setItem_heap (knd:=cellKind) (fK (o9 hu)) hb D (fun h' hm hs=>?_) (by refine rwl rr.length ?_;exact z);refine Ae fun G kG=>?_;refine ex3 D fun _ _ _ zz=>Mq zz fun _ _ _ _ ks nd=>?_;rw [Ge] at q;obtain ⟨F,R'⟩:=Qv (tk:=s.toks+(cellKind).draws [k.1,k.2]) R hp hpp hm hs (Pk ks hb) (rr.put nd xm (show VR ρ s.heap (.tup [.int k.1,.int k.2]) (.ref bb) from Aad hk▸xi)) (aC (Pl es k m) q);refine kG ?_;exact hQ h' _ F R'
theorem Su:swapsWith x (some (.Subscript p i q)) ln env=pure false:=by cases x <;> rfl
theorem P4(G:Ground A Φ l d)(ha:Ex ns)(hx:ck N sc ns e x=true)(hp:ck N sc ns o p=true)(hi:ck N sc ns i j=true) :
 I7 A l env sc ns (exec (.Assign [.Subscript p j q] x pos) env) (D7 cx.T Φ (.setitem o i e)):=by
 intro Γ H ρ s R e0 fr;refine Ci.to (Cg.bindK (K:=fun v Q E s=>wpAny (model cx.prog cx.w) A (eval p env) (fun ov s₂=>wpAny (model cx.prog cx.w) A (eval j env) (fun iv s₃=>wpAny (model cx.prog cx.w) A (setItem ov iv v) (fun _=>Q .next) E s₃) E s₂) E s) e0 ((eok G e x env sc ns Γ hx ha e0.len).val H ρ s R ⟨e0,fr⟩) ?_ ?_ fun Q E h=>wpAny_Assign_Subscript h Su)
 . intro b v H1 ρ1 s1 _ F1 R1 e1 vr;refine Cg.bindK (K:=fun ov Q E s=>wpAny (model cx.prog cx.w) A (eval j env) (fun iv s₃=>wpAny (model cx.prog cx.w) A (setItem ov iv v) (fun _=>Q .next) E s₃) E s) e1 ((eok G o p env sc ns Γ hp ha e1.len).val H1 ρ1 s1 R1 ⟨e1,fr.full F1⟩) ?_ ?_ (fun Q E h=>h)
   . intro b2 ov H2 ρ2 s2 _ F2 R2 e2 vo;refine Cg.bindK (K:=fun iv Q E s=>wpAny (model cx.prog cx.w) A (setItem ov iv v) (fun _=>Q .next) E s) e2 ((eok G i j env sc ns Γ hi ha e2.len).val H2 ρ2 s2 R2 ⟨e2,(fr.full F1).full F2⟩) ?_ ?_ (fun Q E h=>h)
     . intro b3 iv H3 ρ3 s3 _ F3 R3 e3 vi;have vo':VR ρ3 s3.heap b2 ov:=VR.step F3.step vo;have vi':VR ρ3 s3.heap b3 iv:=vi;have vr':VR ρ3 s3.heap b v:=VR.step F3.step (VR.step F2.step vr);unfold Gw;cases hr:Av b2 b3 b H3 with
       | bad=>trivial
       | exc c H4=>exact (Nf hr).elim
       | ok u H4 =>
        refine ex1 (Sr hr) fun a zz=>Ad zz fun zr1 hs=>?_;subst zr1;refine ex1 vo'.loc_inv fun p1 zz=>Ad zz fun hp1 hr1=>?_;refine rwl hr1 ?_;rcases hs with ⟨xs,k,hl,rfl,k0,k1,rfl⟩ | ⟨es,k,hl,hk,q,rfl⟩
        . refine Ae fun G kG=>?_;obtain ⟨t,rfl⟩:=vi'.int_inv;refine ex2 (R3.listAt hl hp1) fun vs n zz=>Cf zz fun hpp g rr z=>?_;refine kG ?_;have z':=z;rw [eC] at z';refine Sq g k0 (by refine rwr rr.length ?_;exact k1) (b63 z' k1) ?_;refine ex1 (Gf (b:=.none) (v:=.none) (ys:=xs.set k.toNat b) R3 hp1 hpp g (fun w=>w.setIfInBounds k.toNat v) (rr.setArr k.toNat vr') (by refine rwl bW ?_;exact z) fun _ _=>.none) fun ρ' zz=>Ap zz fun F R' _=>?_;exact ⟨rfl,ρ',F.toS,R',e3.full F⟩
        . exact Ss G.u R3 hp1 hl hk q vi' vr' fun h' tk F R'=>⟨rfl,ρ3,F.toS,R',e3.full F⟩
     . exact fun _ Q E Q' E' s h k1 k2=>aL h (fun _ _=>k1 _ _) k2
   . exact fun _ Q E Q' E' s h k1 k2=>aL h (fun _ _ h'=>aL h' (fun _ _=>k1 _ _) k2) k2
 . exact fun _ Q E Q' E' s h k1 k2=>aL h (fun _ _ h'=>aL h' (fun _ _ h2=>aL h2 (fun _ _=>k1 _ _) k2) k2) k2
end
section
theorem Vg(G:Ground A Φ l d)(ha:Ex ns)(hg:B6 sc x=true)(hn:Ek N.clss x c=true)(hck:ckEs N sc ns (.cons (.str msg) .nil) [.Constant (.str msg) k mp]=true) :
 I7 A l env sc ns (exec (.Raise (some (.Call (.Name x np) [.Constant (.str msg) k mp] [] cpos)) none pos) env) (D7 cx.T Φ (.raise c msg)):=by
 intro Γ H ρ s R e0 fr;rw [Xm];by_cases hi:¬cx.T.isExc c=true
 . refine rwl (if_neg hi) ?_;trivial
 have hi:cx.T.isExc c=true:=Classical.not_not.mp hi;refine rwl (if_pos hi) ?_;refine ex1 (G.base.exc c hi) fun C zz=>Ad zz fun hC ok=>?_;refine ex2 G.base.ns fun mg mb zz=>Mq zz fun ng nb _ _ q _=>?_;refine ex1 (q x c (D0 hn)) fun Cv zz=>Ad zz fun hC' hx=>?_;rw [hC] at hC';cases hC';refine Abs ok.is fun nm qn Nn bs bm hdct sn sub ab col dd k0 k1 k2 zz=>ex3 zz fun k3 k5 mN zz=>Cf zz fun hCo hNs hin tl=>?_;have y:=eoks G (.cons (.str msg) .nil) [.Constant (.str msg) k mp] env sc ns Γ hck ha e0.len H ρ s R ⟨e0,fr⟩;have ev:evalEs cx.T Φ (.cons (.str msg) .nil) Γ H=.ok [.str msg] H:=rfl;rw [ev] at y;have pl:=Az (env:=env) cpos (Dc hck);refine wpAny_Raise_call_subT (C:=C) (nm:=nm) (q:=qn) (N:=Nn) (bs:=bs) (hdct:=hdct) (sn:=sn) (sub:=sub) (ab:=ab) (col:=col) (dd:=dd) (k0:=k0) (k1:=k1) (k2:=k2) (k3:=k3) (k5:=k5) F.excBase_ValueError (mN:=mN) (bm:=bm) (tl.hasType (by decide)) G.room.hh (by refine rwl pl ?_;exact Es _) hin ?_;refine wp_glob R e0.st hg ng nb hx ⟨rfl,?_⟩;refine rwl pl ?_;refine iW (aL y (fun vs s' ⟨ρ',F,R',vrs⟩=>?_) fun _ _ q=>q.elim);refine ⟨rfl,by have:=vrs.length;skip;refine rwr this ?_;show 1<=16777216;decide,R'.base _ _ hCo,hNs.keeps R'.base,tl.keeps R'.base,fun h' e m=>?_⟩;have F':Full ρ s.heap ρ' h':=F.trans (Full.more m.keeps);refine Ae fun G kG=>?_;refine ex1 m.there fun t zz=>Ap zz fun ht _ _=>?_;refine kG ?_;exact ⟨ρ',F'.toS,R'.more (tk:=s'.toks) m.keeps,e0.full F',e,C,_,rfl,hC,F.live.none m.new,ht,rfl,R'.fresh_not m.new,.inl rfl⟩
end
section
variable{M:Model}{A:fI}{E:Value->bD->Prop}{h:Heap}{g:Array GenState}{d:Drawn}{t:Nat}{os:sD}
variable{nm q:Str}{C N:Addr}{bs bm:List Value}{hdct:Bool}{sn:List Str}{sub:List Value}{ab:Bool}{col:Option Bool}{dd:Option Addr}{k0 k1 k2 k3 k5:Option Value}{newId:String}
variable{nm' q':Str}{C' N':Addr}{bs' bm':List Value}{hdct':Bool}{sn':List Str}{sub':List Value}{ab':Bool}{col':Option Bool}{dd':Option Addr}{k0' k1' k2' k3' k5':Option Value}{newId':String}
theorem Sv(hC:h.get? C=some (excClassObj nm q C N bs bm hdct sn sub ab col dd k0 k1 k2 k3 k5 newId))(hD:h.get? C'=some (excClassObj nm' q' C' N' bs' bm' hdct' sn' sub' ab' col' dd' k0' k1' k2' k3' k5' newId'))(he:h.get? e=some oe)(hcls:oe.cls=.ref C)(hbase:bm'.contains (.type "BaseException")=true)
 (hq:Q ((gB C :: bm).contains (.ref C')) ⟨h,g,d,t,os⟩):wpAny M A (excMatches (.ref e) (.ref C')) Q E ⟨h,g,d,t,os⟩:=by
 have hcB:(gB C' :: bm').contains (.type "BaseException")=true:=by refine rwl pX (rwl hbase ?_);rw [oP]
 have f:=tc_notTuple;generalize hb:(gB C :: bm).contains (.ref C')=b at hq;unfold excMatches;repeat (first | (with_reducible refine nL he ?_;refine rwl hcls ?_) | with_reducible refine nL hD ?_ | (with_reducible refine rE hD ?_;refine rwl hcB ?_) | (with_reducible refine rE hC ?_;refine rwl hb ?_) | wp_step)
 cases b <;> (wp_walk;exact hq)
end
section
theorem Vh(B:Base)(lb:F5 cx.h₀ h)(hg:B6 sc x=true)(hn:Ek N.clss x c=true)(hi:cx.T.isExc c=true)(R:Rel H ρ s)(e0:EnvOk env sc ns Γ ρ s.heap)(F:FullS env ρ₀ h ρ s.heap)(fl:Flown ρ h s.heap c e)(p:Adq env sc ns ρ₀ h (.ret .none H) Q E):wpAny (model cx.prog cx.w) A (handleBy e env [.ExceptHandler (some (.Name x xp)) none [.Return none rp] pos]) Q E s:=by
 refine ex2 B.ns fun mg mb zz=>Mq zz fun ng nbl _ _ qc _=>?_;refine ex1 (qc _ c (D0 hn)) fun Dv zz=>Ad zz fun hDv hxv=>?_;refine ex1 (B.exc c hi) fun C zz=>Ad zz fun hC okC=>?_;rw [hC] at hDv;cases hDv;refine Abs okC.is fun nm qn Nn bs bm hdct sn sub ab col dd k0 k1 k2 zz=>ex3 zz fun k3 k5 mN zz=>Cf zz fun hCo hNs hin tl=>?_;refine ex5 (id fl.is) fun a C' vs tb tvs zz=>Pb zz fun he hC' hna ga hz no h7=>?_;rw [hC] at hC';cases hC';refine wpAny_handleBy_cons (codeAny_handlers_test (wp_glob (A:=A.mark (some e)) R e0.st hg ng nbl hxv ?_)) (by refine rwl he ?_;intro q;cases q);have g:codeAny (model cx.prog cx.w) (A.mark (some e)) (.handlers e [.ExceptHandler none none [.Return none rp] pos] env) (fun r s₂=>match r with
  | .ok f=>Q f s₂
  | .error x=>cameBackBy (model cx.prog cx.w) A env E x s₂) s:=codeAny_handlers_suite (Ic lb fl fun h1 o1 fl1=>gZ (rV (p { s with heap:=h1 } ρ .none (o1.fullS F) (o1.rel R) ⟨.none,(o1.envK e0).st⟩)))
 rw [he] at g ⊢;obtain ⟨hp,gg,dr,tk,os⟩:=s;refine Sv (R.base _ _ hCo) (R.base _ _ hCo) ga rfl (tl.hasType (by decide)) ?_;refine rwl (show (gB C :: bm).contains (.ref C)=true by rw [pX,beq_self_eq_true];rfl) ?_;exact g
theorem Adr(G:Ground A Φ (env :: l) d)(hef:env.frame=some env.locals)(hb:I7 A (env :: l) env sc ns (execs ts env) (execSs cx.T Φ b))(hk:(B6 sc x && Ek N.clss x k)=true) :
 I7 A (env :: l) env sc ns (exec (.Try ts [.ExceptHandler (some (.Name x xp)) none [.Return none rp] hp] [] [] pos) env) (D7 cx.T Φ (.tryx b k)):=by
 intro Γ H ρ s R e0 fr;have B:=hb Γ H ρ s R e0 fr;have ex:D7 cx.T Φ (.tryx b k) Γ H=(match execSs cx.T Φ b Γ H with | .exc c _ H'=>if (decide (c=k) && cx.T.isExc c)=true then .ret .none H' else .bad | r=>r):=rfl;refine rwl ex ?_;cases hr:execSs cx.T Φ b Γ H with
 | bad=>trivial
 | next Γ' H' =>rw [hr] at B;exact oA (aL B (fun f s' ⟨h1,q⟩=>by refine rwl h1 ?_;exact lP ⟨rfl,q⟩) fun _ _ q=>q.elim)
 | ret v H' =>rw [hr] at B;exact oA (aL B (fun f s' ⟨v',ρ',h1,q⟩=>by refine rwl h1 ?_;exact ⟨v',ρ',rfl,q⟩) fun _ _ q=>q.elim)
 | exc c Γ' H' =>
  rw [hr] at B;dsimp only;refine Ci.to (Ci.ofPost (T:=fun Q E s=>wpAny (model cx.prog cx.w) A (exec (.Try ts [.ExceptHandler (some (.Name x xp)) none [.Return none rp] hp] [] [] pos) env) Q E s) fun Q E nb p=>?_);by_cases z:(decide (c=k) && cx.T.isExc c)=true
  . rw [if_pos z] at p;refine oA (aL B (fun _ _ q=>q.elim) fun e s' ⟨ρ',F,R',e',fl⟩=>?_);have w':=fr.stmt F e0.st e'.st;have lb:F5 cx.h₀ s.heap:=fun b o e=>⟨o,R.base b o e⟩;refine Pn G.frames hef w' R' lb F.live fl fun h1 o1 fl1=>Ic (s:={ s' with heap:=h1 }) lb fl1 fun h2 o2 fl2=>?_;have o:=o1.trans o2;exact Vh (s:={ s' with heap:=h2 }) G.base lb (an1 hk) (of_decide_eq_true (an1 z)▸an2 hk) (an2 z) (o.rel R') (o.envK e') (o.fullS F) fl2 p
  . rw [if_neg z] at nb;exact absurd rfl nb
end
section
theorem Y7(G:Ground A Φ l d)(ha:Ex ns)(hm:ck N sc ns m x=true)(hc:Tx m=true):I7 A l env sc ns (exec (.Expr x pos) env) (D7 cx.T Φ (.expr m)):=by
 intro Γ H ρ s R e0 fr;have nc:∀ a b c,m≠.comp a b c:=fun a b c q=>by subst q;exact C0 hc
 refine Ci.to (Cg.bindK (K:=fun _ Q _ s=>Q .next s) e0 ((eok G m x env sc ns Γ hm ha e0.len).val H ρ s R ⟨e0,fr⟩) (fun b v H1 ρ1 s1 _ F1 R1 e1 vr=>⟨rfl,ρ1,FullS.refl _ _ _,R1,e1⟩) (fun _ Q E Q' E' s h k1 _=>k1 _ _ h) fun Q E h=>?_);refine wpAny_Expr_any h ?_ (Oe hm nc);unfold interactive;refine rwl e0.st.fn ?_;rfl
theorem Ads(G:Ground A Φ l d)(ha:Ex ns)(hm:ckO N sc ns m x=true):I7 A l env sc ns (exec (.Return x pos) env) (D7 cx.T Φ (.ret m)):=by
 intro Γ H ρ s R e0 fr;match m,x,hm with
 | .none,none,_ =>exact rV ⟨_,ρ,rfl,FullS.refl _ _ _,R,.none,e0.st⟩
 | .some e,some x,hm =>exact Ci.to (Cg.bindK (K:=fun v Q _ s=>Q (.ret v) s) e0 ((eok G e x env sc ns Γ hm ha e0.len).val H ρ s R ⟨e0,fr⟩) (fun b v H1 ρ1 s1 _ F1 R1 e1 vr=>⟨v,ρ1,rfl,FullS.refl _ _ _,R1,vr,e1.st⟩) (fun _ Q E Q' E' s h k1 _=>k1 _ _ h) fun Q E h=>wpAny_Return_some h)
 | .none,some _,h=>cases (show false=true from h)
 | .some _,none,h=>cases (show false=true from h)
theorem Adt(G:Ground A Φ l d)(ha:Ex ns)(hm:ck N sc ns c x=true)(ht:I7 A l env sc ns (execs ts env) (execSs cx.T Φ t))(hf:I7 A l env sc ns (execs fs env) (execSs cx.T Φ f)) :
 I7 A l env sc ns (exec (.If x ts fs pos) env) (D7 cx.T Φ (.ite c t f)):=by
 intro Γ H ρ s R e0 fr;refine Ci.to (Cg.bindK (K:=fun b Q E s=>if b=true then wpAny (model cx.prog cx.w) A (execs ts env) Q E s else wpAny (model cx.prog cx.w) A (execs fs env) Q E s) e0 ((eok G c x env sc ns Γ hm ha e0.len).tru H ρ s R ⟨e0,fr⟩) ?_ ?_ fun Q E h=>wpAny_If h)
 . intro b b' H1 ρ1 s1 _ F1 R1 e1 hb;have hb':b'=b:=hb;refine rwr hb' ?_;cases b' with
   | true=>exact (Ci.of (ht Γ H1 ρ1 s1 R1 e1 (fr.full F1))).mono fun Q E h=>h
   | false=>exact (Ci.of (hf Γ H1 ρ1 s1 R1 e1 (fr.full F1))).mono fun Q E h=>by simpa using h
 . intro b Q E Q' E' s h k1 k2;cases b
   . simp only [fF,if_false] at h ⊢;exact aL h k1 k2
   . simp only [if_true] at h ⊢;exact aL h k1 k2
set_option maxHeartbeats 4000000 in
mutual
theorem sok(G:Ground A Φ (env :: l) d)(ha:Ex ns)(hef:env.frame=some env.locals):∀ (m:MS) (st:Stmt),ckS N sc ns m st=true->I7 A (env :: l) env sc ns (exec st env) (D7 cx.T Φ m)
 | .expr e,st,h=>by obtain ⟨t,h⟩:=Ac h;refine rwl t.2 ?_;exact Y7 G ha (an1 h) (an2 h)
 | .assign i e,st,h=>by obtain ⟨t,h⟩:=Ac h;refine rwl t.2 ?_;exact Sn G ha (an1 h) (an2 h)
 | .setattr o n e,st,h=>by obtain ⟨t,h⟩:=Ac h;refine rwl t.2 ?_;exact P3 G ha (an1 (an1 h)) (an2 (an1 h)) (an2 h)
 | .setitem o i e,st,h=>by obtain ⟨t,h⟩:=Ac h;refine rwl t.2 ?_;exact P4 G ha (an1 (an1 h)) (an2 (an1 h)) (an2 h)
 | .ret e,st,h=>by obtain ⟨t,h⟩:=Ac h;refine rwl t.2 ?_;exact Ads G ha h
 | .ite c t f,st,h=>by obtain ⟨p,h⟩:=Ac h;refine rwl p.2 ?_;exact Adt G ha (an1 (an1 h)) (soks G ha hef t p.1.2.1 (an2 (an1 h))) (soks G ha hef f p.1.2.2.1 (an2 h))
 | .loop c b,st,h=>by obtain ⟨t,h⟩:=Ac h;refine rwl t.2 ?_;exact Vf G ha (an1 h) (soks G ha hef b t.1.2.1 (an2 h))
 | .each i it b,st,h=>by obtain ⟨t,h⟩:=Ac h;refine rwl t.2 ?_;exact Y2 G.room.hh G.frames ha (an1 (an1 (an1 h))) (an2 (an1 h)) (fun Γ hΓ=>eok G it t.1.2.2.1 env sc ns Γ (an2 (an1 (an1 h))) ha hΓ) (soks G ha hef b t.1.2.2.2.1 (an2 h))
 | .eachPair i j it b,st,h=>by obtain ⟨t,h⟩:=Ac h;refine rwl t.2 ?_;exact Od G.room.hh G.frames ha (an1 (an1 (an1 (an1 h)))) (an2 (an1 (an1 (an1 h)))) (an2 (an1 h)) (fun Γ hΓ=>eok G it t.1.2.1 env sc ns Γ (an2 (an1 (an1 h))) ha hΓ) (soks G ha hef b t.1.2.2.1 (an2 h))
 | .eachEnum i j a body,st,h=>by obtain ⟨t,h⟩:=Ac h;refine rwl t.2 ?_;obtain ⟨u,h4⟩:=Ac (an2 h);refine rwl u.2 ?_;exact Oc G.base G.room.hh G.frames ha (an1 (an1 (an1 h))) (an2 (an1 (an1 h))) (an1 (an1 h4)) (of_decide_eq_true (an2 (an1 h4))) (Du (an2 h4)) (fun Γ hΓ=>eok G a u.1.2.2.1 env sc ns Γ (an2 h4) ha hΓ) (soks G ha hef body t.1.2.2.1 (an2 (an1 h)))
 | .raise c msg,st,h=>by obtain ⟨t,h⟩:=Ac h;refine rwl t.2 ?_;have e:=of_decide_eq_true (an2 (an1 h));have hk:=an2 h;rw [e] at hk ⊢;exact Vg G ha (an1 (an1 (an1 h))) (an2 (an1 (an1 h))) hk
 | .tryx b k,st,h=>by obtain ⟨t,h⟩:=Ac h;refine rwl t.2 ?_;exact Adr G hef (soks G ha hef b t.1.1 (an1 h)) (an2 h)
theorem soks(G:Ground A Φ (env :: l) d)(ha:Ex ns)(hef:env.frame=some env.locals):∀ (m:MSs) (sts:List Stmt),ckSs N sc ns m sts=true->I7 A (env :: l) env sc ns (execs sts env) (execSs cx.T Φ m)
 | .nil,[],_=>by intro Γ H ρ s R e0 fr;exact lP ⟨rfl,ρ,FullS.refl _ _ _,R,e0⟩
 | .nil,_ :: _,h=>by cases (show false=true from h)
 | .cons _ _,[],h=>by cases (show false=true from h)
 | .cons m ms,st :: sts,h=>by have h:=nB (an1 h) (an2 h);intro Γ H ρ s R e0 fr;exact Y1 e0 fr (sok G ha hef m st h.1 Γ H ρ s R e0 fr) (soks G ha hef ms sts h.2)
end
theorem Adu(B:Base)(defs:∀ (f:Nat) (a:Addr),cx.fns[f]?=some a->∃ g,cx.T.funs[f]?=some g)(hΦ:Id Φ d):Aam Φ d :=
 fun body stmts env sc ns A l hck ha room hfr hef=>soks (Φ:=Φ) ⟨B,room,hfr,hΦ,defs⟩ ha hef body stmts hck
theorem Vi(B:Base)(defs:∀ (f:Nat) (a:Addr),cx.fns[f]?=some a->∃ g,cx.T.funs[f]?=some g):∀ d,Id (Ag cx.T d) d
 | 0=>fun k a args vals A l _ _ _ H ρ s R p=>trivial
 | d+1=>Id.step B (Adu B defs (Vi B defs d))
end
end Mine.Internal
namespace Mine.Internal
open PySem PySem.W.X
theorem D3(h:Gd a b=true):a=b:=of_decide_eq_true h
theorem Y8(h:Afx w=some a):∃ t,w=.int a t:=by
 cases w with
 | int b t=>cases h;exact ⟨t,rfl⟩
 | _=>exact Af h
theorem Y9(h:Ab7 w=some a):∃ t,w=.str a t:=by
 cases w with
 | str b t=>cases h;exact ⟨t,rfl⟩
 | _=>exact Af h
theorem Za(x:Afy v w=true):VR ρ h v w:=by
 cases v with
 | int a =>obtain ⟨t,hr0⟩:=Y8 (of_decide_eq_true x);refine rwl hr0 ?_;exact .int _ _
 | str a =>have x:(decide (Ab7 w=some a) && decide (a.length<=1000))=true:=x;obtain ⟨t,hr1⟩:=Y9 (of_decide_eq_true (an1 x));refine rwl hr1 ?_;exact .str _ _ (aC (of_decide_eq_true (an2 x)) (by skip;decide))
 | _=>exact C0 x
theorem Br{α:Type}{o:Option α}{f:α->Bool}(h:Bm o f=true):∃ a,o=some a/\f a=true:=by
 cases o with
 | none=>exact C0 h
 | some a=>exact ⟨a,rfl,h⟩
theorem Vj(h:Qq v=true):∃ a b,v=.str a b:=by obtain ⟨x,_⟩:=dI.mp h;exact ⟨_,_,x.2⟩
theorem He(Z:Has h t)(e:t a=some o):h.get? a=some o:=Z a o e
set_option tactic.hygienic true in
theorem Sw(Z:Has h t)(x:Aah t c q=true):h.CodeRec c q:=by obtain ⟨a,x⟩:=Ac x;refine ex1 (Br x) fun o zz=>Ad zz fun e x=>?_;obtain ⟨vs,x⟩:=Ac x;refine ex1 (Br x) fun v zz=>Ad zz fun hv x=>?_;obtain ⟨y,x⟩:=Ac x;exact of_decide_eq_true x▸⟨_,o,vs.1,y.1.2,a.2,He Z e,vs.2,hv.trans (congrArg some y.2)⟩
theorem Adv(Z:Has cx.h₀ t)(x:Aiu N t a f ns=true):FnOk a f:=by refine ex1 (Br x) fun o zz=>Ad zz fun e x=>?_;obtain ⟨p,x⟩:=Ac x;obtain ⟨b,x⟩:=Ac x;have x2:=an2 x;have x3:=an2 x2;have x4:=an2 x3;have x5:=an2 x4;have x6:=an2 x5;have x7:=an2 x6;exact ⟨o,p.1,b.1,ns,He Z e,D3 (an2 x7),p.2,Sw Z (an1 x7),b.2,iQ.mp (an1 x2),pC (an1 x3),pC (an1 x4),D3 (an1 x5),D3 (an1 x6),an1 x⟩
theorem Vk:∀ {fns:List Addr} {fs:List MFun} {nss:List (List Str)},Ab8 N t fns fs nss=true->fns.length=fs.length/\∀ (k:Nat) (a:Addr) (f:MFun),fns[k]?=some a->fs[k]?=some f->∃ ns,Aiu N t a f ns=true:=by
 intro fns;induction fns with
 | nil =>
  intro fs nss h;cases fs with
  | nil=>exact ⟨rfl,fun k a f h _=>nomatch h⟩
  | cons f fs=>cases (show false=true from h)
 | cons a as ihh =>
  intro fs nss h;cases fs with
  | nil=>cases (show false=true from h)
  | cons f fs =>
   cases nss with
   | nil=>cases (show false=true from h)
   | cons ns nss =>
    have h:=nB (an1 h) (an2 h);have q:=ihh h.2;refine ⟨congrArg rR q.1,fun k b g h1 h2=>?_⟩;cases k with
    | zero=>cases h1;cases h2;exact ⟨ns,h.1⟩
    | succ k=>exact q.2 k b g h1 h2
theorem Zb(h:Afz y=true):typeLookup (.type "object") y=pure none:=by refine ex1 (Br h) fun r zz=>Ad zz fun e h=>?_;rw [tB];exact rwl qN (rwl e (rwl (bZ.mp h) rfl))
theorem Vl(h:Tz y=true):∃ r,typeLookup (.type "object") y=pure r:=by obtain ⟨r,e⟩:=dI.mp h;exact ⟨r,by rw [tB];exact rwl qN (rwl e rfl)⟩
theorem Adw(Z:Has h t)(x:Aiw t a=true):∃ o fd,h.get? a=some o/\o.cls=.type "function"/\o.data=.func fd:=by refine ex1 (Br x) fun o zz=>Ad zz fun e x=>?_;obtain ⟨p,_⟩:=dI.mp (an2 x);exact ⟨o,p.1,He Z e,D3 (an1 x),p.2⟩
theorem Aaq(x1:o.cls=.type "type")(hd:o.data=.cls cd)(x2:cd.mro=.ref C :: bm)(x5:cd.hasDel=false)(hp:o.slots.toList=[k0,k1,k2,k3,some (.builtin nw),k5]) :
 o=excClassObj cd.name cd.qualname C cd.ns cd.bases bm cd.hasDict cd.slotNames cd.subclasses cd.abstract cd.collection o.dict k0 k1 k2 k3 k5 nw:=by
 obtain ⟨oc,od,odata,oslots⟩:=o;obtain ⟨cn,cb,cm,cns,cq,chd,csn,csub,cab,ccol,cdel⟩:=cd;cases x1;cases hd;cases x2;cases x5;exact congrArg _ (mP.mp hp)
theorem Vm{g:Option Value->Bool}(hg:∀ o,g o=true->o=some v)(x:(Bm (T0 l) fun q=>g q.1.2.2.2.2.1)=true):∃ k0 k1 k2 k3 k5,l=[k0,k1,k2,k3,some v,k5]:=by obtain ⟨q,x⟩:=Ac x;exact ⟨q.1.1,q.1.2.1,q.1.2.2.1,q.1.2.2.2.1,q.1.2.2.2.2.2,hg _ x▸q.2⟩
theorem Vn(x:(Bm o fun w=>Gd w v)=true):o=some v:=by refine ex1 (Br x) fun w zz=>Ad zz fun e x=>?_;exact e.trans (congrArg some (D3 x))
theorem Vo{es:Array jJ}(x:(es.toList.all fun e=>Qq e.key)=true):∀ e∈es,∃ a b,e.key=.str a b:=fun e he=>Vj (dU.mp x e (oY.mpr he))
theorem Zc(Z:Has cx.h₀ t)(x:(N.meths.all fun p=>(cx.T.meth c p.2).isNone || Bm (cx.T.meth c p.2) fun k=>Bm cx.fns[k]? fun fa=>Bm (nsFind es p.1) fun v=>Gd (.ref fa) v && (Aiw t fa && (!(cx.attrs.contains p.1) && Tz p.1)))=true)(hz:N.meths.lookup z=some m)(hk:cx.T.meth c m=some k) :
 ∃ fa fo fd,cx.fns[k]?=some fa/\nsFind es z=some (.ref fa)/\cx.h₀.get? fa=some fo/\fo.cls=.type "function"/\fo.data=.func fd/\(∀ n:Nat,cx.attrs[n]?≠some z)/\∃ r,typeLookup (.type "object") z=pure r:=by
 have x:=dU.mp x (z,m) (mem_of_lookup hz);rcases (eJ _ _).mp x with q | q
 . cases hk.symm.trans (bZ.mp q)
 . refine ex1 (Br q) fun k' zz=>Ad zz fun e q1=>?_;cases hk.symm.trans e;refine ex1 (Br q1) fun fa zz=>Ad zz fun hf q2=>?_;refine ex1 (Br q2) fun v zz=>Ad zz fun hv q=>?_;refine ex2 (Adw Z (an1 (an2 q))) fun fo fd zz=>Ap zz fun f1 f2 f3=>?_;exact ⟨fa,fo,fd,hf,hv.trans (congrArg some (D3 (an1 q)).symm),f1,f2,f3,fun n hn=>of_decide_eq_false ((List.contains_eq_mem z cx.attrs).symm.trans (not_not (an1 (an2 (an2 q))))) (aH hn),Vl (an2 (an2 (an2 q)))⟩
theorem Zd(Z:Has cx.h₀ t)(x:Aca t N cx.T cx.attrs cx.fns c v=true):∃ C,v=.ref C/\ClsOk c C:=by
 obtain ⟨C,x⟩:=Ac x;refine ex1 (Br x) fun o zz=>Ad zz fun e x=>?_;obtain ⟨p,x⟩:=Ac x;have x2:=an2 x;have x3:=an2 x2;have x4:=an2 x3;have x5:=an2 x4;have x6:=an2 x5;refine ex1 (Br (an2 x6)) fun on zz=>Ad zz fun en x7=>?_;obtain ⟨es,x7⟩:=Ac x7;refine ex5 (Vm (fun _=>Vn) (an1 x6)) fun k0 k1 k2 k3 k5 hp=>?_;have ho:=Aaq (D3 (an1 x)) p.2 (of_decide_eq_true (an1 x2)) (not_not (an1 x5)) hp;rw [an1 x3,not_not (an1 x4)] at ho;have y2:=an2 x7;have y3:=an2 y2;have y4:=an2 y3;have y5:=an2 y4;exact ⟨C.1,C.2,p.1.name,p.1.qualname,p.1.ns,p.1.bases,p.1.slotNames,p.1.subclasses,p.1.collection,o.dict,k0,k1,k2,k3,k5,fun z=>nsFind es.1.1 z,ho▸He Z e,⟨on,es.1.1,es.1.2,He Z en,es.2,Vo (an1 x7),fun _=>rfl⟩,bZ.mp (an1 y2),bZ.mp (an1 y3),bZ.mp (an1 y4),
  fun n z hz=>have w:=dU.mp (an1 y5) z (aH hz);⟨bZ.mp (an1 w),Zb (an2 w)⟩,fun z m k hz hk=>Zc Z (an2 y5) hz hk⟩
theorem Sx:∀ {l:List Value} {c i:Nat} {v:Value},L6 t N T attrs fns c l=true->l[i]?=some v->(T.meth (c+i) 0).isSome=true->Aca t N T attrs fns (c+i) v=true:=by
 intro l;induction l with
 | nil =>intro _ i _ _ h _;simp at h
 | cons w ws ihh =>
  intro c i v x h hm;have x:=nB (eJ _ _ |>.mp (an1 x)) (an2 x);cases i with
  | zero =>
   simp at h;subst h;rcases x.1 with q | q
   . rw [mK,Option.isSome_iff_ne_none] at hm;exact absurd (bZ.mp q) hm
   . exact q
  | succ i =>
   have e:c+(i+1)=c+1+i:=by exact Am1
   rw [e] at hm ⊢;exact ihh x.2 (by simpa using h) hm
theorem Sy(Z:Has cx.h₀ t)(h1:L6 t N cx.T cx.attrs cx.fns 0 cx.cls=true)(h2:Mu N cx.attrs=true):ClsBase:=by
 have a3:=of_decide_eq_true (an1 (an2 (an2 h2)));have get:∀ (c:Nat) (v:Value),cx.cls[c]?=some v->(cx.T.meth c 0).isSome=true->∃ C,v=.ref C/\ClsOk c C:=fun c v hc hm=>by have:=Sx h1 hc (by rw [cN];exact hm);rw [cN] at this;exact Zd Z this
 refine ⟨fun y n h=>?_,fun i j y hi hj=>?_,by refine rwl eC ?_;exact o27 a3,D0 (an2 (an2 (an2 h2))),fun c v hc hm=>?_,fun c C hc hm=>?_⟩
 . refine ex1 (Br (dU.mp (an1 h2) (y,n) (mem_of_lookup h))) fun z zz=>Ad zz fun hz q=>?_;exact hz.trans (congrArg some (of_decide_eq_true q))
 . exact L9 (an1 (an2 h2)) i j y (by refine rwl aX (rwl hi ?_);rfl) (by refine rwl aX (rwl hj ?_);rfl)
 . refine ex1 (get c v hc hm) fun C zz=>Ad zz fun e _=>?_;exact ⟨C,e⟩
 . refine ex1 (get c (.ref C) hc hm) fun C' zz=>Ad zz fun e k=>?_;cases e;exact k
theorem Kr(Z:Has h t)(x:Mv t a=true):∃ m,h.Ns a m/\m "__init__"=none:=by refine ex1 (Br x) fun on zz=>Ad zz fun en x=>?_;obtain ⟨es,x⟩:=Ac x;exact ⟨fun z=>nsFind es.1.1 z,⟨on,es.1.1,es.1.2,He Z en,es.2,Vo (an1 x),fun _=>rfl⟩,bZ.mp (an2 x)⟩
theorem Ze(Z:Has h t)(x:Af0 t v=true)(T:sC h bm tl):sC h bm (v :: tl):=by obtain ⟨a,x⟩:=Ac x;refine ex1 (Br x) fun o zz=>Ad zz fun e x=>?_;obtain ⟨p,x⟩:=Ac x;refine ex1 (Kr Z x) fun m zz=>Ad zz fun n i=>?_;obtain ⟨oc,od,odata,oslots⟩:=o;obtain ⟨p,hd⟩:=p;dsimp only at hd;subst hd;exact a.2▸.own (He Z e) n i T
theorem Vp(Z:Has h t):∀ {vs:List Value},T4 t vs=true->sC h Air vs:=by
 intro vs;induction vs with
 | nil =>intro x;cases (show false=true from x)
 | cons v vs ihh =>
  intro x;rcases (eJ _ _).mp x with q | q
  . refine rwl (of_decide_eq_true q) ?_;exact .base
  . exact Ze Z (an1 q) (ihh (an2 q))
theorem Zf(Z:Has cx.h₀ t)(x:Af2 t v=true):∃ C,v=.ref C/\ExcOk C:=by obtain ⟨C,x⟩:=Ac x;refine ex1 (Br x) fun o zz=>Ad zz fun e x=>?_;obtain ⟨p,x⟩:=Ac x;have x2:=an2 x;have x3:=an2 x2;have x4:=an2 x3;have x5:=an2 x4;refine ex1 (Kr Z (an1 x5)) fun m zz=>Ad zz fun n i=>?_;refine ex5 (Vm (fun _=>Vn) (an1 x4)) fun k0 k1 k2 k3 k5 hp=>?_;have ho:=Aaq (D3 (an1 x)) p.2 (of_decide_eq_true (an1 x2)) (not_not (an1 x3)) hp;exact ⟨C.1,C.2,⟨⟨p.1.name,p.1.qualname,p.1.ns,p.1.bases,p.1.mro.tail,p.1.hasDict,p.1.slotNames,p.1.subclasses,p.1.abstract,p.1.collection,o.dict,k0,k1,k2,k3,k5,m,ho▸He Z e,n,i,Vp Z (an2 x5)⟩⟩⟩
theorem Vq(Z:Has cx.h₀ t)(x:Qr t cx.T cx.cls=true)(c:Nat)(h:cx.T.isExc c=true):∃ C,cx.cls[c]?=some (.ref C)/\ExcOk C:=by refine ex1 (Br x) fun v zz=>Ad zz fun e x=>?_;refine ex1 (Zf Z x) fun C zz=>Ad zz fun q k=>?_;refine rwl (of_decide_eq_true h) ?_;exact ⟨C,by exact rwl e (rwl q rfl),k⟩
theorem I9{α:Type}{l:List (Str × α)}{p:Str × α->Bool}(h:l.all p=true){k:α}(e:l.lookup x=some k):p (x,k)=true:=dU.mp h _ (mem_of_lookup e)
theorem P5(x:(Bm o fun w=>Gd v w)=true):o=some v:=by refine ex1 (Br x) fun w zz=>Ad zz fun e x=>?_;exact e.trans (congrArg some (D3 x).symm)
theorem Adx(Z:Has cx.h₀ t)(g:cx.h₀.Ns mainGlobals mg)(b:cx.h₀.Ns builtinsNs mb)(hb:∀ x:Str,x≠"__name__"->mb x=bootBuiltins x)(lim:cx.h₀.NoLimit)
 (ok:T3 t N cx.T cx.cls cx.fns nss=true) (okc:L6 t N cx.T cx.attrs cx.fns 0 cx.cls=true) (oka:Mu N cx.attrs=true) (okx:Qr t cx.T cx.cls=true):Base/\∀ (f:Nat) (a:Addr),cx.fns[f]?=some a->∃ g,cx.T.funs[f]?=some g:=by
 obtain ⟨hlen,hfn⟩:=Vk (an2 ok);refine ex1 (Br (an1 ok)) fun o zz=>Ad zz fun e ok=>?_;obtain ⟨es,ok⟩:=Ac ok;have hmg:∀ x,mg x=nsFind es.1.1 x:=by refine Ae fun G kG=>?_;refine ex3 g fun o' es' ep' zz=>Cf zz fun e' d' _ h'=>?_;refine kG ?_;cases (He Z e).symm.trans e';cases es.2.symm.trans d';exact fun x=>(h' x).symm
 have c2:=an2 ok;have c3:=an2 c2;refine ⟨⟨⟨mg,mb,g,b,fun x k h=>?_,fun x k h=>?_,fun x c h=>?_,fun p hp=>?_⟩,lim,fun k a f h1 h2=>?_,Sy Z okc oka,Vq Z okx⟩,fun f a h=>?_⟩
 . refine ex1 (Br (I9 (an1 ok) h)) fun a zz=>Ad zz fun e q=>?_;exact ⟨a,e,(hmg x).trans (P5 q)⟩
 . refine ex1 (Br (I9 (an1 c2) h)) fun m zz=>Ad zz fun e q=>?_;refine ex1 (Br q) fun v zz=>Ad zz fun e' q=>?_;exact ⟨m,v,e,(hmg x).trans e',fun ρ h=>Za q⟩
 . refine ex1 (Br (I9 (an1 c3) h)) fun c' zz=>Ad zz fun e q=>?_;refine ⟨c',e,((eJ _ _).mp q).imp (fun q=>(hmg x).trans (P5 q)) fun q=>⟨(hmg x).trans (bZ.mp (an1 q)),?_⟩⟩;refine ex1 (Br (an2 q)) fun v zz=>Ad zz fun e' q=>?_;exact (hb _ (of_decide_eq_false (not_not (an2 q)))).trans (e'.trans (congrArg some (D3 (an1 q)).symm))
 . have q:=dU.mp (an2 c3) p hp;exact ⟨(hmg _).trans (bZ.mp (an1 q)),(hb _ (of_decide_eq_false (not_not (an1 (an2 q))))).trans (P5 (an2 (an2 q)))⟩
 . obtain ⟨ns,h⟩:=hfn k a f h1 h2;exact Adv Z h
 . exact ⟨_,aI (hlen▸(aE.mp h).1)⟩
theorem Ady{h:Heap}(x:h.Ns a m)(y:h.Ns a m')(n:Str):m n=m' n:=by refine Ae fun G kG=>?_;refine ex3 x fun o es ep zz=>Cf zz fun e d _ f=>?_;refine ex3 y fun o' es' ep' zz=>Cf zz fun e' d' _ f'=>?_;refine kG ?_;rw [e] at e';cases e';rw [d] at d';cases d';exact rwr (f n) (rwl (f' n) rfl)
theorem Sz(x:nC vs ns):VRs ρ h (ns.map .int) vs:=by
 induction x with
 | nil=>exact .nil
 | cons n tk r ih=>exact .cons (.int n tk) ih
theorem finish:Ry cx N:=by
 intro t nss k d mg mb ns vs fa a Q E Z g b hb lim ok okc oka okx hsys hobj hI hlen hf hk room hlaw kq;refine Ae fun G kG=>?_;obtain ⟨B,defs⟩:=Adx (nss:=nss) Z g b hb lim ok okc oka okx;refine ex2 B.ns fun mg' mb' zz=>Cf zz fun g' b' q _=>?_;refine ex1 (q "law" k hk) fun a' zz=>Ad zz fun ha' hx=>?_;refine kG ?_;have e:fa=a':=by have:=Ady g g' "law";rw [hf,hx] at this;cases this;rfl
 subst e;obtain ⟨o1,e1⟩:=dI.mp hsys;have R:Rel [] [] cx.s₀ :=
  ⟨rfl,fun l o p h _=>by simp at h,fun i j p q _ h _=>by simp at h,fun p hp=>by simp at hp,fun _ _ e=>e,⟨o1,He Z e1⟩,⟨cx.s₀.heap,cx.s₀.toks,rfl⟩⟩
 obtain ⟨H',hH⟩:=hlaw;have x:=Vi B defs d k fa [.script ns] [.ref a] callerA [] ha' room.toF rfl [] [] cx.s₀ R ⟨.cons (.script hobj (by refine rwl eC ?_;exact aJ (aB hlen (by decide:63 < 16777216))) (Sz hI)) .nil,fun en he=>by cases he⟩;change A8 callerA (Ag cx.T d k [.script ns] []) _ _ _ _ at x;rw [hH] at x;refine aL x (fun v s' ⟨ρ',F,R',vr⟩=>?_) fun _ _ q=>q.elim;have vr':VR ρ' s'.heap (.bool true) v:=vr;cases vr';refine ex2 R'.rest fun h tk e=>?_;exact kq s' R'.base (rwl e rfl) (rwl e rfl)
end Mine.Internal
namespace Mine.Internal
open PySem PySem.W PySem.Calls
noncomputable def Ks(tb:String->Option Builtin)(p:sB)(w:World)(n₀:Nat)(ann:Option Value):Nat->gK->oR->Option gK
 | 0,_,_=>none
 | n+1,s,t=>match through t with
  | true=>some s
  | false=>match stepOk n₀ ann t with
   | false=>none
   | true=>match stepT (denote tb) p w s t with
    | some (s',t')=>Ks tb p w n₀ ann n s' t'
    | none=>none
theorem Jq:Ks tb p w n₀ ann (n+1) s t=(match through t with
 | true=>some s
 | false=>match stepOk n₀ ann t with
  | false=>none
  | true=>match stepT (denote tb) p w s t with
   | some (s',t')=>Ks tb p w n₀ ann n s' t'
   | none=>none):=rfl
theorem S3:∀ {n:Nat} {s s':gK} {t:oR},Ks tb p w n₀ ann n s t=some s'->topRun tb p w n₀ ann n s.abs t=some s'.abs:=by
 intro n;induction n with
 | zero =>intro _ _ _ h;cases h
 | succ n ihh =>
  intro s s' t h;rw [Jq] at h;unfold topRun;cases ht:through t with
  | true=>rw [ht] at h;cases h;rfl
  | false =>
   rw [ht] at h;cases hk:stepOk n₀ ann t with
   | false=>rw [hk] at h;cases h
   | true =>
    rw [hk] at h;cases hs:stepT (denote tb) p w s t with
    | none=>rw [hs] at h;exact nomatch h
    | some r=>obtain ⟨s₂,t₂⟩:=r;rw [hs] at h;refine rwl (stepT_spec hs) ?_;exact ihh h
noncomputable def P6(p:sB)(w:World)(n₀:Nat)(ann:Option Value)(n:Nat):gK->oR->Option gK :=
 @Nat.rec (fun _=>gK->oR->Option gK) (fun _ _=>none) (fun _ ih s t=>@pI (fun _=>Option gK)
  (@pI (fun _=>Option gK) none (@sF (gK × oR) (fun _=>Option gK) none (fun r=>ih r.1 r.2) (kJ (kI treeTable) p w s t)) (kM n₀ ann t)) (some s) (through t)) n
theorem S4:∀ (n:Nat) (s:gK) (t:oR),P6 p w n₀ ann n s t=Ks treeTable p w n₀ ann n s t:=by
 intro n;induction n with
 | zero =>intro _ _;exact rfl
 | succ n ihh =>
  intro s t;show @pI (fun _=>Option gK) (@pI (fun _=>Option gK) none (@sF (gK × oR) (fun _=>Option gK) none (fun r=>P6 p w n₀ ann n r.1 r.2) (kJ (kI treeTable) p w s t)) (kM n₀ ann t)) (some s) (through t)=_;refine rwr tJ (rwr tI (rwr tG ?_));refine rwl Jq ?_;cases through t with
  | true=>rfl
  | false =>
   cases stepOk n₀ ann t with
   | false=>rfl
   | true =>
    cases hs:stepT (denote treeTable) p w s t with
    | none=>rfl
    | some r=>obtain ⟨s₂,t₂⟩:=r;exact ihh s₂ t₂
noncomputable def Ai7(P:Params):BT:=((fY P).objs.toList.foldl (fun (x:BT × Nat) o=>(x.1.ins x.2 o,x.2+1)) (.nil,0)).1
noncomputable def Agv(w:World)(os:sD):gK:=⟨Ai7 w.params,(fY w.params).objs.size,(fY w.params).life,#[],oQ,pT,os⟩
theorem Vr(w:World):((fY w.params).isNs mainGlobals && (#[]:Array GenState).size == 0,(fY w.params).objs.size,(fY w.params).nsMap mainGlobals "__annotations__")=(true,11,some (.ref 6)):=by kernel_rfl
theorem Vs(w:World)(os:sD):(Agv w os).abs=⟨fY w.params,#[],oQ,pT,os⟩:=by kernel_rfl
theorem Adz{α:Type}{Yf:bD->α}{Ya:World->α}{N M:Nat}
 (e:opening p=plainProg p.main.scope.names) (hN:Nat.ble 600 N=true) (f:∀ s,fenceModules? p s=some s) (le:Nat.ble M N=true)
 (run:∀ (w:World) (os:sD),(P6 p w 11 (some (.ref 6)) M (Agv w os) (topStub p)).map (fun s=>(staticsOk (importedModules p.main.body) (fY w.params) s.abs.heap && namesBound p s.abs.heap && gensDone s.abs && laidKept (fY w.params) s.abs.heap,
  openSeen q loose (importedModules p.main.body) Xt g0 s.abs,Yf s.abs))=some (true,openGood q loose,Ya w)):LeftO p q loose Xt Yf Ya N g0:=fun w=>by
 refine ex1 (bY.mp (boot_open e hN f w)) fun zn0 zz=>Ad zz fun e1 e'=>?_;obtain ⟨h,gs,d,k,os⟩:=zn0
 obtain ⟨rfl,rfl,rfl,rfl⟩:h=fY w.params/\gs=#[]/\d=oQ/\k=pT:=by simpa using e'
 obtain ⟨z1,z2,z3⟩:_/\_/\_:=by simpa only [nO] using Vr w
 refine ex1 (bY.mp (run w os)) fun s zz=>Ad zz fun h1 h2=>?_
 obtain ⟨l1,l2,l3⟩:_/\_/\_:=by simpa only [nO] using h2
 rw [S4] at h1
 have r:=S3 h1
 rw [Vs] at r
 replace r:=topRun_mono (N - M) _ _ _ _ r
 rw [show M+(N - M)=N by have:=Nat.le_of_ble_eq_true le;exact o76 this] at r
 have t:topFrom treeTable p w N ⟨fY w.params,#[],oQ,pT,os⟩=some s.abs:=by
  unfold topFrom
  dsimp only
  refine rwl z1 (rwl z2 (rwl z3 (rwl r ?_)))
  show (match staticsOk (importedModules p.main.body) (fY w.params) s.abs.heap && namesBound p s.abs.heap && gensDone s.abs && laidKept (fY w.params) s.abs.heap with | true=>_ | false=>_)=_
  exact rwl l1 rfl
 unfold openEnds
 refine rwl e1 ?_
 show (topFrom treeTable p w N _).map _=_
 refine rwl t ?_
 exact congrArg some (iY l2 l3)
end Mine.Internal
namespace Mine.Internal.Pure
open PySem
section
variable{α β:Type}
theorem fcn{α:Type}{p:α->Prop}:∀ x∈([]:List α),p x:=fun _ h=>nomatch h
theorem fc{α:Type}{p:α->Prop}{a:α}{l:List α}(h:p a)(k:∀ x∈l,p x):∀ x∈a :: l,p x:=List.forall_mem_cons.mpr ⟨h,k⟩
theorem Aar(a:α)(H:Hp):M.ret a H=.ok a H:=rfl
theorem Dl(f:Hp->Option α)(H:Hp):M.look f H=(match f H with | some a=>.ok a H | none=>.bad):=rfl
theorem Ng(ns:List Int):bfV .len [.script ns]=M.ret (.int ns.length):=by funext H;show (match (some (Val.int (ns.map Val.int).length):Option Val) with | some a=>Res.ok a H | none=>.bad)=_;rw [aM];rfl
theorem S5(h:H[l]?=some (.list xs)):bfV .len [.loc l] H=.ok (.int xs.length) H:=by have e:bfV .len [.loc l]=M.look (fun H=>(Cm (.loc l) H).map fun xs=>Val.int xs.length):=rfl;refine rwl e ?_;rw [Dl];refine rwl (Xq h) ?_;rfl
theorem add_int(x y:Int):Ae8 .add (.int x) (.int y)=M.ret (.int (x+y)):=rfl
theorem sub_int(x y:Int):Ae8 .sub (.int x) (.int y)=M.ret (.int (x - y)):=rfl
theorem S6{k:Nat}(h:ns[k]?=some v):Dh (.script ns) (.int k)=M.ret (.int v):=by
 have lt:=(aE.mp h).1;funext H;have e:Dh (.script ns) (.int k)=M.look (fun _=>(C2 (k:Int) ns.length).bind fun p=>(ns[p]?).map Val.int):=rfl;have:C2 (k:Int) ns.length=some k:=by unfold C2;refine rwl (if_pos Mr) (rwl (if_pos (Xg lt)) ?_);rfl
 refine rwl e ?_;rw [Dl];refine rwl this ?_;simp only [iJ,h,iZ,Aar]
theorem sub_tup{k:Nat}(h:xs[k]?=some v):Dh (.tup xs) (.int k)=M.ret v:=by funext H;have e:Dh (.tup xs) (.int k)=M.look (fun _=>if 0<=(k:Int) then xs[(k:Int).toNat]? else none):=rfl;refine rwl e ?_;rw [Dl];simp only [if_pos (show 0<=(k:Int) by exact Mr),bC,h,Aar]
theorem Ad0(h:T.funs[k]?=some g)(ha:args.length=g.arity) :
 Ag T (d+1) k args H=Aby (execSs T (Ag T d) g.body (args.map some++eA g.nvars none) H):=by
 rw [Ag];refine rwl h ?_;show Ahv T (Ag T d) g args H=_;unfold Ahv;exact rwl (if_pos ha) rfl
end
noncomputable def Wp{α:Type}(m:M α)(H:Hp)(Q:α->Hp->Prop)(E:Nat->Hp->Prop):Prop :=
 match m H with
 | .ok a H'=>Q a H'
 | .exc c H'=>E c H'
 | .bad=>False
noncomputable def WpS(r:ResS)(Q:Env'->Hp->Prop)(R:Val->Hp->Prop)(E:Nat->Env'->Hp->Prop):Prop :=
 match r with
 | .next Γ H=>Q Γ H
 | .ret v H=>R v H
 | .exc c Γ H=>E c Γ H
 | .bad=>False
noncomputable def Ti:Env'->Nat->(Val->Prop)->Prop
 | [],_,_=>False
 | some v :: _,0,k=>k v
 | none :: _,0,_=>False
 | _ :: Γ,n+1,k=>Ti Γ n k
noncomputable def E1:Val->(Bool->Prop)->Prop
 | .bool b,k=>k b
 | _,_=>False
noncomputable def De{α:Type}:Option α->(α->Prop)->Prop
 | some a,k=>k a
 | none,_=>False
noncomputable def brB:Bool->Prop->Prop->Prop
 | true,a,_=>a
 | false,_,b=>b
noncomputable def NoE:Nat->Hp->Prop:=fun _ _=>False
noncomputable def NoX:Nat->Env'->Hp->Prop:=fun _ _ _=>False
noncomputable def Nh(op:BOp)(a b:Val)(H:Hp)(Q:Val->Hp->Prop)(E:Nat->Hp->Prop):Prop :=
 match a,b with
 | .int x,.int y=>(match op with
  | .add=>Q (.int (x+y)) H
  | .sub=>Q (.int (x - y)) H
  | .mul=>(small x || small y)=true/\Q (.int (x * y)) H
  | .fdiv=>¬(y=0\/1073741824<=y.natAbs)/\Q (.int (cR x y)) H
  | .mod=>¬(y=0)/\Q (.int (dO x y)) H)
 | a,b=>Wp (Ae8 op a b) H Q E
mutual
noncomputable def wpE(T:Tab)(Φ:Funs):ME->Env'->Hp->(Val->Hp->Prop)->(Nat->Hp->Prop)->Prop
 | .none,_,H,Q,_=>Q .none H
 | .bool b,_,H,Q,_=>Q (.bool b) H
 | .int i,_,H,Q,_=>Q (.int i) H
 | .str s,_,H,Q,_=>Q (.str s) H
 | .glob k,_,H,Q,_=>De T.globs[k]? fun v=>Q v H
 | .var i,Γ,H,Q,_=>Ti Γ i fun v=>Q v H
 | .bin op a b,Γ,H,Q,E=>wpE T Φ a Γ H (fun x H=>wpE T Φ b Γ H (fun y H=>Nh op x y H Q E) E) E
 | .neg a,Γ,H,Q,E=>Wp (Aj T Φ (.neg a) Γ) H Q E
 | .not a,Γ,H,Q,E=>wpE T Φ a Γ H (fun x H=>E1 x fun b=>Q (.bool (!b)) H) E
 | .and a b,Γ,H,Q,E=>wpE T Φ a Γ H (fun x H=>E1 x fun t=>brB t (wpE T Φ b Γ H Q E) (Q (.bool false) H)) E
 | .or a b,Γ,H,Q,E=>wpE T Φ a Γ H (fun x H=>E1 x fun t=>brB t (Q (.bool true) H) (wpE T Φ b Γ H Q E)) E
 | .cmp op a b,Γ,H,Q,E=>wpE T Φ a Γ H (fun x H=>wpE T Φ b Γ H (fun y H=>De (Cu op x y H) fun r=>Q (.bool r) H) E) E
 | .cmp2 op1 op2 a b c,Γ,H,Q,E=>wpE T Φ a Γ H (fun x H=>wpE T Φ b Γ H (fun y H=>De (Cu op1 x y H) fun r=>brB r (wpE T Φ c Γ H (fun z H=>De (Cu op2 y z H) fun r=>Q (.bool r) H) E) (Q (.bool false) H)) E) E
 | .sub a i,Γ,H,Q,E=>wpE T Φ a Γ H (fun x H=>wpE T Φ i Γ H (fun y H=>Wp (Dh x y) H Q E) E) E
 | .slice a lo hi,Γ,H,Q,E=>wpE T Φ a Γ H (fun x H=>wpO T Φ lo Γ H (fun l H=>wpO T Φ hi Γ H (fun h H=>Wp (Jm x l h) H Q E) E) E) E
 | .tup es,Γ,H,Q,E=>wpEs T Φ es Γ H (fun vs H=>Q (.tup vs) H) E
 | .list es,Γ,H,Q,E=>wpEs T Φ es Γ H (fun vs H=>Q (.loc H.length) (H++[.list vs])) E
 | .dict,_,H,Q,_=>Q (.loc H.length) (H++[.dict []])
 | .attr a n,Γ,H,Q,E=>wpE T Φ a Γ H (fun x H=>Wp (Jt x n) H Q E) E
 | .call f es,Γ,H,Q,E=>wpEs T Φ es Γ H (fun vs H=>Wp (Φ f vs) H Q E) E
 | .new c es,Γ,H,Q,E=>De (T.meth c 0) (fun _=>wpEs T Φ es Γ H (fun vs H=>Wp (Rv T Φ c vs) H Q E) E)
 | .umeth a m es,Γ,H,Q,E=>wpE T Φ a Γ H (fun o H=>Wp (C8 T o m) H (fun k H=>wpEs T Φ es Γ H (fun vs H=>Wp (Φ k (o :: vs)) H Q E) E) E) E
 | .bf f es,Γ,H,Q,E=>wpEs T Φ es Γ H (fun vs H=>Wp (bfV f vs) H Q E) E
 | .bm a m es,Γ,H,Q,E=>wpE T Φ a Γ H (fun o H=>De (Db m o H) fun _=>wpEs T Φ es Γ H (fun vs H=>Wp (bmV m o vs) H Q E) E) E
 | .isinst a t,Γ,H,Q,E=>wpE T Φ a Γ H (fun x H=>Wp (Bp T x t) H Q E) E
 | .comp elt it cond,Γ,H,Q,E=>Wp (Aj T Φ (.comp elt it cond) Γ) H Q E
noncomputable def wpO(T:Tab)(Φ:Funs):MEo->Env'->Hp->(Val->Hp->Prop)->(Nat->Hp->Prop)->Prop
 | .none,_,H,Q,_=>Q .none H
 | .some e,Γ,H,Q,E=>wpE T Φ e Γ H Q E
noncomputable def wpEs(T:Tab)(Φ:Funs):MEs->Env'->Hp->(List Val->Hp->Prop)->(Nat->Hp->Prop)->Prop
 | .nil,_,H,Q,_=>Q [] H
 | .cons e es,Γ,H,Q,E=>wpE T Φ e Γ H (fun v H=>wpEs T Φ es Γ H (fun vs H=>Q (v :: vs) H) E) E
end
mutual
noncomputable def wpS(T:Tab)(Φ:Funs):MS->Env'->Hp->(Env'->Hp->Prop)->(Val->Hp->Prop)->(Nat->Env'->Hp->Prop)->Prop
 | .expr e,Γ,H,Q,_,E=>wpE T Φ e Γ H (fun _ H=>Q Γ H) fun c H=>E c Γ H
 | .assign i e,Γ,H,Q,_,E=>wpE T Φ e Γ H (fun v H=>Q (Γ.set i (some v)) H) fun c H=>E c Γ H
 | .setattr o n e,Γ,H,Q,_,E=>wpE T Φ e Γ H (fun v H=>wpE T Φ o Γ H (fun o H=>Wp (Bv o n v) H (fun _ H=>Q Γ H) fun c H=>E c Γ H) fun c H=>E c Γ H) fun c H=>E c Γ H
 | .setitem o i e,Γ,H,Q,_,E=>wpE T Φ e Γ H (fun v H=>wpE T Φ o Γ H (fun o H=>wpE T Φ i Γ H (fun i H=>Wp (Av o i v) H (fun _ H=>Q Γ H) fun c H=>E c Γ H) fun c H=>E c Γ H) fun c H=>E c Γ H) fun c H=>E c Γ H
 | .ret e,Γ,H,_,R,E=>wpO T Φ e Γ H R fun c H=>E c Γ H
 | .ite c t f,Γ,H,Q,R,E=>wpE T Φ c Γ H (fun v H=>E1 v fun b=>brB b (wpSs T Φ t Γ H Q R E) (wpSs T Φ f Γ H Q R E)) fun c H=>E c Γ H
 | .raise c _,Γ,H,_,_,E=>T.isExc c=true/\E c Γ H
 | .loop c b,Γ,H,Q,R,E=>WpS (D7 T Φ (.loop c b) Γ H) Q R E
 | .each i a b,Γ,H,Q,R,E=>WpS (D7 T Φ (.each i a b) Γ H) Q R E
 | .eachPair i j a b,Γ,H,Q,R,E=>WpS (D7 T Φ (.eachPair i j a b) Γ H) Q R E
 | .eachEnum i j a b,Γ,H,Q,R,E=>WpS (D7 T Φ (.eachEnum i j a b) Γ H) Q R E
 | .tryx a b,Γ,H,Q,R,E=>WpS (D7 T Φ (.tryx a b) Γ H) Q R E
noncomputable def wpSs(T:Tab)(Φ:Funs):MSs->Env'->Hp->(Env'->Hp->Prop)->(Val->Hp->Prop)->(Nat->Env'->Hp->Prop)->Prop
 | .nil,Γ,H,Q,_,_=>Q Γ H
 | .cons s ss,Γ,H,Q,R,E=>wpS T Φ s Γ H (fun Γ H=>wpSs T Φ ss Γ H Q R E) R E
end
section
variable{α β:Type}
theorem Of{Q:α->Hp->Prop}(a:α):Wp (M.ret a) H Q E=Q a H:=rfl
theorem Aw{Q:β->Hp->Prop}(m:M α)(f:α->M β):Wp (m.bnd f) H Q E=Wp m H (fun a H'=>Wp (f a) H' Q E) E:=by unfold Wp M.bnd;cases m H <;> rfl
theorem Zg(o:HObj):Wp (M.alloc o) H Q E=Q (.loc H.length) (H++[o]):=rfl
theorem Wp.mono{Q Q':α->Hp->Prop}(h:Wp m H Q E)(hq:∀ a H',Q a H'->Q' a H')(he:∀ c H',E c H'->E' c H'):Wp m H Q' E':=by
 unfold Wp at h ⊢;cases hm:m H with
 | ok a H'=>rw [hm] at h;exact hq _ _ h
 | exc c H'=>rw [hm] at h;exact he _ _ h
 | bad=>rw [hm] at h;exact h
theorem Wp.then{Q Q':α->Hp->Prop}(h:Wp m H Q NoE)(hq:∀ a H',Q a H'->Q' a H'):Wp m H Q' E :=
 h.mono hq (fun _ _ f=>f.elim)
theorem Wp.of_eq{Q:α->Hp->Prop}(h:m H=.ok a H')(q:Q a H'):Wp m H Q E:=by unfold Wp;refine rwl h ?_;exact q
theorem Wp.get{Q:α->Hp->Prop}(h:Wp m H Q NoE):∃ a H',m H=.ok a H'/\Q a H':=by
 unfold Wp at h;cases hm:m H with
 | ok a H'=>rw [hm] at h;exact ⟨a,H',rfl,h⟩
 | exc c H'=>rw [hm] at h;exact h.elim
 | bad=>rw [hm] at h;exact h.elim
theorem WpS.mono(h:WpS r QS R ES)(hq:∀ Γ H',QS Γ H'->Q' Γ H')(hr:∀ v H',R v H'->R' v H')(he:∀ c Γ H',ES c Γ H'->E' c Γ H'):WpS r Q' R' E':=by
 cases r with
 | next Γ H=>exact hq _ _ h
 | ret v H=>exact hr _ _ h
 | exc c Γ H=>exact he _ _ _ h
 | bad=>exact h
theorem Cq(m:M α)(Γ:Env')(f:α->Hp->ResS):WpS (Gw m Γ f H) QS R ES=Wp m H (fun a H'=>WpS (f a H') QS R ES) (fun c H'=>ES c Γ H'):=by unfold Wp Gw;cases m H <;> rfl
theorem Rb(r:ResS)(f:Env'->Hp->ResS):WpS (Nw r f) QS R ES=WpS r (fun Γ H=>WpS (f Γ H) QS R ES) R ES:=by cases r <;> rfl
theorem Aas{Q:α->Hp->Prop}(o:Option α):Wp (M.ofOpt o) H Q E=De o (fun v=>Q v H):=by cases o <;> rfl
theorem Gj{Q:α->Hp->Prop}(f:Hp->Option α):Wp (M.look f) H Q E=De (f H) (fun v=>Q v H):=by unfold Wp M.look;cases f H <;> rfl
theorem Fr:∀ (Γ:Env') (i:Nat) (k:Val->Prop),Ti Γ i k=De (match Γ[i]? with | some (some v)=>some v | _=>none) k:=by
 intro Γ;induction Γ with
 | nil=>intro i k;cases i <;> rfl
 | cons o Γ ihh =>
  intro i k;cases i with
  | zero=>cases o <;> rfl
  | succ i=>cases o <;> exact ihh i k
theorem Ai(v:Val)(Γ:Env')(k:Val->Prop):Ti (some v :: Γ) 0 k=k v:=rfl
theorem At(o:Option Val)(Γ:Env')(n:Nat)(k:Val->Prop):Ti (o :: Γ) (n+1) k=Ti Γ n k:=by cases o <;> rfl
theorem D9(v:Val)(Γ:Env')(n:Nat)(k:Val->Prop):Ti (some v :: Γ) (n+1) k=Ti Γ n k:=rfl
theorem Vt(Γ:Env')(n:Nat)(k:Val->Prop):Ti (none :: Γ) (n+1) k=Ti Γ n k:=rfl
theorem Ab(b:Bool)(k:Bool->Prop):E1 (.bool b) k=k b:=rfl
theorem Bi{α:Type}(a:α)(k:α->Prop):De (some a) k=k a:=rfl
theorem Bj{α:Type}{o:Option α}{a:α}(h:o=some a)(k:α->Prop):De o k=k a:=by refine rwl h ?_;rfl
theorem Bw(A B:Prop):brB true A B=A:=rfl
theorem Bx(A B:Prop):brB false A B=B:=rfl
theorem Dw(b:Bool)(A B:Prop):brB (!b) A B=brB b B A:=by cases b <;> rfl
theorem Cr{p:Prop}[Decidable p](h:p)(A B:Prop):brB (decide p) A B=A:=by refine rwl (decide_eq_true h) ?_;rfl
theorem Bc{p:Prop}[Decidable p](h:¬p)(A B:Prop):brB (decide p) A B=B:=by refine rwl (decide_eq_false h) ?_;rfl
theorem By{p:Prop}[Decidable p]{A B:Prop}(h1:p->A)(h2:¬p->B):brB (decide p) A B:=by
 by_cases h:p
 . rw [Cr h];exact h1 h
 . rw [Bc h];exact h2 h
theorem Dm{A B:Prop}(h1:b=true->A)(h2:b=false->B):brB b A B:=by
 cases b
 . exact h2 rfl
 . exact h1 rfl
theorem Iq{Q:Bool->Hp->Prop}(v:Val):Wp (Di v) H Q E=E1 v (fun b=>Q b H):=by cases v <;> rfl
theorem Kt(x:Val)(A B:Prop)(f:Bool->Prop)(h1:f true=A)(h2:f false=B):E1 x f=E1 x (fun t=>brB t A B):=by
 cases x with
 | bool b=>cases b;exact h2;exact h1
 | _=>rfl
theorem Ad1(x:Option Bool)(A B:Prop)(f:Bool->Prop)(h1:f true=A)(h2:f false=B):De x f=De x (fun t=>brB t A B):=by
 cases x with
 | some b=>cases b;exact h2;exact h1
 | _=>rfl
theorem Aat{Q:α->Hp->Prop}(p:Prop)[Decidable p](m:M α):Wp (if p then m else M.bad) H Q E=(p/\Wp m H Q E):=by
 by_cases h:p
 . refine rwl (if_pos h) ?_;simp [h]
 . refine rwl (if_neg h) ?_;simp [h];exact fun h=>h
theorem Vu{Q:α->Hp->Prop}(p:Prop)[Decidable p](m:M α):Wp (if p then M.bad else m) H Q E=(¬p/\Wp m H Q E):=by
 by_cases h:p
 . refine rwl (if_pos h) ?_;simp [h];exact fun h=>h
 . refine rwl (if_neg h) ?_;simp [h]
theorem Zh(op:BOp)(a b:Val):Wp (Ae8 op a b) H Q E=Nh op a b H Q E:=by
 unfold Nh;split
 . cases op with
   | add=>rfl
   | sub=>rfl
   | mul=>exact Aat _ _
   | fdiv=>exact Vu _ _
   | mod=>exact Vu _ _
 . rfl
theorem Ef:wpE T Φ .none Γ H Q E=Q .none H:=rfl
theorem Gk(b:Bool):wpE T Φ (.bool b) Γ H Q E=Q (.bool b) H:=rfl
theorem A7(i:Int):wpE T Φ (.int i) Γ H Q E=Q (.int i) H:=rfl
theorem Vv(s:Str):wpE T Φ (.str s) Γ H Q E=Q (.str s) H:=rfl
theorem wp_glob(k:Nat):wpE T Φ (.glob k) Γ H Q E=De T.globs[k]? (fun v=>Q v H):=rfl
theorem A2(i:Nat):wpE T Φ (.var i) Γ H Q E=Ti Γ i (fun v=>Q v H):=rfl
theorem Dd(op:BOp)(a b:ME):wpE T Φ (.bin op a b) Γ H Q E=wpE T Φ a Γ H (fun x H=>wpE T Φ b Γ H (fun y H=>Nh op x y H Q E) E) E:=rfl
theorem Cj(a:ME):wpE T Φ (.not a) Γ H Q E=wpE T Φ a Γ H (fun x H=>E1 x fun b=>Q (.bool (!b)) H) E:=rfl
theorem Cy(a b:ME):wpE T Φ (.and a b) Γ H Q E=wpE T Φ a Γ H (fun x H=>E1 x fun t=>brB t (wpE T Φ b Γ H Q E) (Q (.bool false) H)) E:=rfl
theorem Ea(a b:ME):wpE T Φ (.or a b) Γ H Q E=wpE T Φ a Γ H (fun x H=>E1 x fun t=>brB t (Q (.bool true) H) (wpE T Φ b Γ H Q E)) E:=rfl
theorem Au(op:COp)(a b:ME):wpE T Φ (.cmp op a b) Γ H Q E=wpE T Φ a Γ H (fun x H=>wpE T Φ b Γ H (fun y H=>De (Cu op x y H) fun r=>Q (.bool r) H) E) E:=rfl
theorem Ja(op1 op2:COp)(a b c:ME):wpE T Φ (.cmp2 op1 op2 a b c) Γ H Q E=wpE T Φ a Γ H (fun x H=>wpE T Φ b Γ H (fun y H=>De (Cu op1 x y H) fun r=>brB r (wpE T Φ c Γ H (fun z H=>De (Cu op2 y z H) fun r=>Q (.bool r) H) E) (Q (.bool false) H)) E) E:=rfl
theorem Bd(a i:ME):wpE T Φ (.sub a i) Γ H Q E=wpE T Φ a Γ H (fun x H=>wpE T Φ i Γ H (fun y H=>Wp (Dh x y) H Q E) E) E:=rfl
theorem Ir(a:ME)(lo hi:MEo):wpE T Φ (.slice a lo hi) Γ H Q E=wpE T Φ a Γ H (fun x H=>wpO T Φ lo Γ H (fun l H=>wpO T Φ hi Γ H (fun h H=>Wp (Jm x l h) H Q E) E) E) E:=rfl
theorem J4:wpO T Φ .none Γ H Q E=Q .none H:=rfl
theorem Be(e:ME):wpO T Φ (.some e) Γ H Q E=wpE T Φ e Γ H Q E:=rfl
theorem Gl(es:MEs):wpE T Φ (.tup es) Γ H Q E=wpEs T Φ es Γ H (fun vs H=>Q (.tup vs) H) E:=rfl
theorem E4(es:MEs):wpE T Φ (.list es) Γ H Q E=wpEs T Φ es Γ H (fun vs H=>Q (.loc H.length) (H++[.list vs])) E:=rfl
theorem Jb:wpE T Φ .dict Γ H Q E=Q (.loc H.length) (H++[.dict []]):=rfl
theorem Eg(a:ME)(n:Nat):wpE T Φ (.attr a n) Γ H Q E=wpE T Φ a Γ H (fun x H=>Wp (Jt x n) H Q E) E:=rfl
theorem Ax(f:Nat)(es:MEs):wpE T Φ (.call f es) Γ H Q E=wpEs T Φ es Γ H (fun vs H=>Wp (Φ f vs) H Q E) E:=rfl
theorem Rd(c:Nat)(es:MEs):wpE T Φ (.new c es) Γ H Q E=De (T.meth c 0) (fun _=>wpEs T Φ es Γ H (fun vs H=>Wp (Rv T Φ c vs) H Q E) E):=rfl
theorem Bt(a:ME)(m:Nat)(es:MEs):wpE T Φ (.umeth a m es) Γ H Q E=wpE T Φ a Γ H (fun o H=>Wp (C8 T o m) H (fun k H=>wpEs T Φ es Γ H (fun vs H=>Wp (Φ k (o :: vs)) H Q E) E) E) E:=rfl
theorem Fs(f:BF)(es:MEs):wpE T Φ (.bf f es) Γ H Q E=wpEs T Φ es Γ H (fun vs H=>Wp (bfV f vs) H Q E) E:=rfl
theorem Ni(a:ME)(m:BM)(es:MEs):wpE T Φ (.bm a m es) Γ H Q E=wpE T Φ a Γ H (fun o H=>De (Db m o H) fun _=>wpEs T Φ es Γ H (fun vs H=>Wp (bmV m o vs) H Q E) E) E:=rfl
theorem B7(a:ME)(t:Ty):wpE T Φ (.isinst a t) Γ H Q E=wpE T Φ a Γ H (fun x H=>Wp (Bp T x t) H Q E) E:=rfl
theorem A3{Q:List Val->Hp->Prop}:wpEs T Φ .nil Γ H Q E=Q [] H:=rfl
theorem Am{Q:List Val->Hp->Prop}(e:ME)(es:MEs):wpEs T Φ (.cons e es) Γ H Q E=wpE T Φ e Γ H (fun v H=>wpEs T Φ es Γ H (fun vs H=>Q (v :: vs) H) E) E:=rfl
theorem Cn:wpSs T Φ .nil Γ H QS R ES=QS Γ H:=rfl
theorem Ah(s:MS)(ss:MSs):wpSs T Φ (.cons s ss) Γ H QS R ES=wpS T Φ s Γ H (fun Γ H=>wpSs T Φ ss Γ H QS R ES) R ES:=rfl
theorem D4(e:ME):wpS T Φ (.expr e) Γ H QS R ES=wpE T Φ e Γ H (fun _ H=>QS Γ H) (fun c H=>ES c Γ H):=rfl
theorem Cl(i:Nat)(e:ME):wpS T Φ (.assign i e) Γ H QS R ES=wpE T Φ e Γ H (fun v H=>QS (Γ.set i (some v)) H) (fun c H=>ES c Γ H):=rfl
theorem B8(e:MEo):wpS T Φ (.ret e) Γ H QS R ES=wpO T Φ e Γ H R (fun c H=>ES c Γ H):=rfl
theorem Ba(c:ME)(t f:MSs):wpS T Φ (.ite c t f) Γ H QS R ES=wpE T Φ c Γ H (fun v H=>E1 v fun b=>brB b (wpSs T Φ t Γ H QS R ES) (wpSs T Φ f Γ H QS R ES)) (fun c H=>ES c Γ H):=rfl
theorem Ft(o:ME)(n:Nat)(e:ME):wpS T Φ (.setattr o n e) Γ H QS R ES=wpE T Φ e Γ H (fun v H=>wpE T Φ o Γ H (fun o H=>Wp (Bv o n v) H (fun _ H=>QS Γ H) (fun c H=>ES c Γ H)) (fun c H=>ES c Γ H)) (fun c H=>ES c Γ H):=rfl
theorem Bk(o i e:ME):wpS T Φ (.setitem o i e) Γ H QS R ES=wpE T Φ e Γ H (fun v H=>wpE T Φ o Γ H (fun o H=>wpE T Φ i Γ H (fun i H=>Wp (Av o i v) H (fun _ H=>QS Γ H) (fun c H=>ES c Γ H)) (fun c H=>ES c Γ H)) (fun c H=>ES c Γ H)) (fun c H=>ES c Γ H):=rfl
theorem Ku(c:Nat)(m:Str):wpS T Φ (.raise c m) Γ H QS R ES=(T.isExc c=true/\ES c Γ H):=rfl
theorem Agw(T:Tab)(c:Nat)(Γ:Env')(H:Hp)(Q:Env'->Hp->Prop)(R:Val->Hp->Prop)(E:Nat->Env'->Hp->Prop):WpS (if T.isExc c=true then .exc c Γ H else .bad) Q R E=(T.isExc c=true/\E c Γ H):=by
 by_cases h:T.isExc c=true
 . refine rwl (if_pos h) ?_;simp [h];rfl
 . refine rwl (if_neg h) ?_;simp [h];exact fun x=>x
theorem C4(h:∀ v H,Q v H=Q' v H):wpE T Φ e Γ H Q E=wpE T Φ e Γ H Q' E:=congrArg (fun q=>wpE T Φ e Γ H q E) (funext fun v=>funext fun H=>h v H)
theorem Agx(h:∀ v H,Q v H=Q' v H):wpO T Φ e Γ H Q E=wpO T Φ e Γ H Q' E:=congrArg (fun q=>wpO T Φ e Γ H q E) (funext fun v=>funext fun H=>h v H)
theorem Ai8{Q Q':α->Hp->Prop}(h:∀ v H,Q v H=Q' v H):Wp m H Q E=Wp m H Q' E:=congrArg (fun q=>Wp m H q E) (funext fun v=>funext fun H=>h v H)
theorem Ad2{Q Q':α->Prop}(h:∀ v,Q v=Q' v):De o Q=De o Q':=congrArg (De o) (funext h)
theorem Agy{Q Q':Env'->Hp->Prop}(h:∀ v H,Q v H=Q' v H):wpS T Φ e Γ H Q R ES=wpS T Φ e Γ H Q' R ES:=congrArg (fun q=>wpS T Φ e Γ H q R ES) (funext fun v=>funext fun H=>h v H)
end
mutual
theorem Bb(T:Tab)(Φ:Funs):∀ (e:ME) (Γ:Env') (H:Hp) (Q:Val->Hp->Prop) (E:Nat->Hp->Prop),Wp (Aj T Φ e Γ) H Q E=wpE T Φ e Γ H Q E
 | .none,_,_,_,_=>rfl
 | .bool _,_,_,_,_=>rfl
 | .int _,_,_,_,_=>rfl
 | .str _,_,_,_,_=>rfl
 | .glob k,_,H,Q,E=>Aas _
 | .var i,Γ,H,Q,E=>(Aas _).trans (Fr Γ i fun v=>Q v H).symm
 | .bin op a b,Γ,H,Q,E=>(Aw _ _).trans ((Bb T Φ a Γ H _ E).trans ((C4 fun x H=>(Aw _ _).trans ((Bb T Φ b Γ H _ E).trans (C4 fun y H=>Zh op x y))).trans (Dd op a b).symm))
 | .neg _,_,_,_,_=>rfl
 | .not a,Γ,H,Q,E=>(Aw _ _).trans ((Bb T Φ a Γ H _ E).trans ((C4 fun x H=>(Aw _ _).trans (Iq x)).trans (Cj a).symm))
 | .and a b,Γ,H,Q,E=>(Aw _ _).trans ((Bb T Φ a Γ H _ E).trans ((C4 fun x H=>(Aw _ _).trans ((Iq x).trans (Kt _ _ _ _ (Bb T Φ b Γ H Q E) rfl))).trans (Cy a b).symm))
 | .or a b,Γ,H,Q,E=>(Aw _ _).trans ((Bb T Φ a Γ H _ E).trans ((C4 fun x H=>(Aw _ _).trans ((Iq x).trans (Kt _ _ _ _ rfl (Bb T Φ b Γ H Q E)))).trans (Ea a b).symm))
 | .cmp op a b,Γ,H,Q,E=>(Aw _ _).trans ((Bb T Φ a Γ H _ E).trans ((C4 fun x H=>(Aw _ _).trans ((Bb T Φ b Γ H _ E).trans (C4 fun y H=>(Aw _ _).trans (Gj _)))).trans (Au op a b).symm))
 | .cmp2 op1 op2 a b c,Γ,H,Q,E=>(Aw _ _).trans ((Bb T Φ a Γ H _ E).trans ((C4 fun x H=>(Aw _ _).trans ((Bb T Φ b Γ H _ E).trans (C4 fun y H=>(Aw _ _).trans ((Gj _).trans (Ad1 _ _ _ _ ((Aw _ _).trans ((Bb T Φ c Γ H _ E).trans (C4 fun z H=>(Aw _ _).trans (Gj _)))) rfl))))).trans (Ja op1 op2 a b c).symm))
 | .sub a i,Γ,H,Q,E=>(Aw _ _).trans ((Bb T Φ a Γ H _ E).trans ((C4 fun x H=>(Aw _ _).trans (Bb T Φ i Γ H _ E)).trans (Bd a i).symm))
 | .slice a lo hi,Γ,H,Q,E=>(Aw _ _).trans ((Bb T Φ a Γ H _ E).trans ((C4 fun x H=>(Aw _ _).trans ((wpO_eq T Φ lo Γ H _ E).trans (Agx fun l H=>(Aw _ _).trans (wpO_eq T Φ hi Γ H _ E)))).trans (Ir a lo hi).symm))
 | .tup es,Γ,H,Q,E=>(Aw _ _).trans ((wpEs_eq T Φ es Γ H _ E).trans rfl)
 | .list es,Γ,H,Q,E=>(Aw _ _).trans ((wpEs_eq T Φ es Γ H _ E).trans rfl)
 | .dict,_,_,_,_=>rfl
 | .attr a n,Γ,H,Q,E=>(Aw _ _).trans (Bb T Φ a Γ H _ E)
 | .call f es,Γ,H,Q,E=>(Aw _ _).trans (wpEs_eq T Φ es Γ H _ E)
 | .new c es,Γ,H,Q,E=>by
  have h:Aj T Φ (.new c es) Γ=(match T.meth c 0 with
   | some _=>(evalEs T Φ es Γ).bnd fun vs=>Rv T Φ c vs
   | none=>M.bad):=rfl
  refine rwl h ?_;show _=De (T.meth c 0) _;cases T.meth c 0 with
  | none=>rfl
  | some k=>exact (Aw _ _).trans (wpEs_eq T Φ es Γ H _ E)
 | .umeth a m es,Γ,H,Q,E=>(Aw _ _).trans ((Bb T Φ a Γ H _ E).trans ((C4 fun o H=>(Aw _ _).trans (Ai8 fun k H=>(Aw _ _).trans (wpEs_eq T Φ es Γ H _ E))).trans (Bt a m es).symm))
 | .bf f es,Γ,H,Q,E=>(Aw _ _).trans (wpEs_eq T Φ es Γ H _ E)
 | .bm a m es,Γ,H,Q,E=>(Aw _ _).trans ((Bb T Φ a Γ H _ E).trans ((C4 fun o H=>(Aw _ _).trans ((Gj _).trans (Ad2 fun _=>(Aw _ _).trans (wpEs_eq T Φ es Γ H _ E)))).trans (Ni a m es).symm))
 | .isinst a t,Γ,H,Q,E=>(Aw _ _).trans (Bb T Φ a Γ H _ E)
 | .comp _ _ _,_,_,_,_=>rfl
theorem wpO_eq(T:Tab)(Φ:Funs):∀ (e:MEo) (Γ:Env') (H:Hp) (Q:Val->Hp->Prop) (E:Nat->Hp->Prop),Wp (evalO T Φ e Γ) H Q E=wpO T Φ e Γ H Q E
 | .none,_,_,_,_=>rfl
 | .some e,Γ,H,Q,E=>Bb T Φ e Γ H Q E
theorem wpEs_eq(T:Tab)(Φ:Funs):∀ (es:MEs) (Γ:Env') (H:Hp) (Q:List Val->Hp->Prop) (E:Nat->Hp->Prop),Wp (evalEs T Φ es Γ) H Q E=wpEs T Φ es Γ H Q E
 | .nil,_,_,_,_=>rfl
 | .cons e es,Γ,H,Q,E=>(Aw _ _).trans ((Bb T Φ e Γ H _ E).trans ((C4 fun v H=>(Aw _ _).trans (wpEs_eq T Φ es Γ H _ E)).trans (Am e es).symm))
end
mutual
theorem Aau(T:Tab)(Φ:Funs):∀ (s:MS) (Γ:Env') (H:Hp) (Q:Env'->Hp->Prop) (R:Val->Hp->Prop) (E:Nat->Env'->Hp->Prop),WpS (D7 T Φ s Γ H) Q R E=wpS T Φ s Γ H Q R E
 | .expr e,Γ,H,Q,R,E=>(Cq _ _ _).trans (Bb T Φ e Γ H _ _)
 | .assign i e,Γ,H,Q,R,E=>(Cq _ _ _).trans (Bb T Φ e Γ H _ _)
 | .setattr o n e,Γ,H,Q,R,E=>(Cq _ _ _).trans ((Bb T Φ e Γ H _ _).trans ((C4 fun v H=>(Cq _ _ _).trans ((Bb T Φ o Γ H _ _).trans (C4 fun o H=>Cq _ _ _))).trans (Ft o n e).symm))
 | .setitem o i e,Γ,H,Q,R,E=>(Cq _ _ _).trans ((Bb T Φ e Γ H _ _).trans ((C4 fun v H=>(Cq _ _ _).trans ((Bb T Φ o Γ H _ _).trans (C4 fun o H=>(Cq _ _ _).trans ((Bb T Φ i Γ H _ _).trans (C4 fun i H=>Cq _ _ _))))).trans (Bk o i e).symm))
 | .ret e,Γ,H,Q,R,E=>(Cq _ _ _).trans (wpO_eq T Φ e Γ H _ _)
 | .ite c t f,Γ,H,Q,R,E=>(Cq _ _ _).trans ((Aw _ _).trans ((Bb T Φ c Γ H _ _).trans ((C4 fun x H=>(Iq x).trans (Kt _ _ _ _ (wpSs_eq T Φ t Γ H Q R E) (wpSs_eq T Φ f Γ H Q R E))).trans (Ba c t f).symm)))
 | .raise c m,Γ,H,Q,R,E=>Agw T c Γ H Q R E
 | .loop _ _,_,_,_,_,_=>rfl
 | .each _ _ _,_,_,_,_,_=>rfl
 | .eachPair _ _ _ _,_,_,_,_,_=>rfl
 | .eachEnum _ _ _ _,_,_,_,_,_=>rfl
 | .tryx _ _,_,_,_,_,_=>rfl
theorem wpSs_eq(T:Tab)(Φ:Funs):∀ (ss:MSs) (Γ:Env') (H:Hp) (Q:Env'->Hp->Prop) (R:Val->Hp->Prop) (E:Nat->Env'->Hp->Prop),WpS (execSs T Φ ss Γ H) Q R E=wpSs T Φ ss Γ H Q R E
 | .nil,_,_,_,_,_=>rfl
 | .cons s ss,Γ,H,Q,R,E=>(Rb _ _).trans ((Aau T Φ s Γ H _ R E).trans ((Agy fun Γ H=>wpSs_eq T Φ ss Γ H Q R E).trans (Ah s ss).symm))
end
section
variable{α β:Type}
theorem Re(h:wpE T Φ e Γ H Q E)(hq:∀ a H',Q a H'->Q' a H')(he:∀ c H',E c H'->E' c H'):wpE T Φ e Γ H Q' E':=by rw [<- Bb] at h ⊢;exact h.mono hq he
theorem A9(h:wpE T Φ e Γ H Q NoE)(hq:∀ a H',Q a H'->Q' a H'):wpE T Φ e Γ H Q' E:=Re h hq fun _ _ f=>f.elim
theorem wpS_mono(h:wpS T Φ s Γ H QS R ES)(hq:∀ Γ H',QS Γ H'->Q' Γ H')(hr:∀ v H',R v H'->R' v H')(he:∀ c Γ H',ES c Γ H'->E' c Γ H'):wpS T Φ s Γ H Q' R' E':=by rw [<- Aau] at h ⊢;exact h.mono hq hr he
theorem Vw(h:wpSs T Φ s Γ H QS R ES)(hq:∀ Γ H',QS Γ H'->Q' Γ H')(hr:∀ v H',R v H'->R' v H')(he:∀ c Γ H',ES c Γ H'->E' c Γ H'):wpSs T Φ s Γ H Q' R' E':=by rw [<- wpSs_eq] at h ⊢;exact h.mono hq hr he
theorem Aq(h:T.funs[k]?=some g)(ha:args.length=g.arity) :
 Wp (Ag T (d+1) k args) H Q E=wpSs T (Ag T d) g.body (args.map some++eA g.nvars none) H (fun _ H'=>Q .none H') Q (fun c _ H'=>E c H'):=by
 rw [<- wpSs_eq];unfold Wp;refine rwl (Ad0 h ha) ?_;cases execSs T (Ag T d) g.body (args.map some++eA g.nvars none) H <;> rfl
theorem Ad3(h:wpSs T Φ body Γ H QS R (fun c _ H=>(decide (c=d) && T.isExc c)=true/\R .none H)):wpS T Φ (.tryx body d) Γ H QS R ES:=by
 rw [<- wpSs_eq] at h;show WpS (match execSs T Φ body Γ H with
  | .exc c _ H'=>if (decide (c=d) && T.isExc c)=true then .ret .none H' else .bad
  | r=>r) QS R ES
 generalize execSs T Φ body Γ H=r at h;cases r with
 | exc c Γ' H' =>show WpS (if (decide (c=d) && T.isExc c)=true then .ret .none H' else .bad) QS R ES;refine rwl (if_pos h.1) ?_;exact h.2
 | _=>exact h
theorem Dn(h:wpE T Φ it Γ H (fun v H=>De (Dg v H) fun p=>WpS (Fn (chk p.2 p.1) (Tn i) (execSs T Φ body) p.1 Γ H) QS R ES) (fun c H=>ES c Γ H)):wpS T Φ (.each i it body) Γ H QS R ES:=by rw [<- Bb] at h;refine ((Cq _ _ _).trans ?_).mpr h;simp only [Cq,Gj]
theorem Og(h:wpE T Φ it Γ H (fun v H=>De (G9 v H) fun p=>WpS (Fn (chk (some p.2) p.1) (To i j) (execSs T Φ body) p.1 Γ H) QS R ES) (fun c H=>ES c Γ H)):wpS T Φ (.eachPair i j it body) Γ H QS R ES:=by rw [<- Bb] at h;refine ((Cq _ _ _).trans ?_).mpr h;simp only [Cq,Gj]
theorem Oh(h:wpE T Φ it Γ H (fun v H=>De (G9 v H) fun p=>WpS (Fn (chk (some p.2) p.1) (To i j) (execSs T Φ body) (Gb 0 p.1) Γ H) QS R ES) (fun c H=>ES c Γ H)):wpS T Φ (.eachEnum i j it body) Γ H QS R ES:=by rw [<- Bb] at h;refine ((Cq _ _ _).trans ?_).mpr h;simp only [Cq,Gj]
theorem Vx{chk:Hp->Bool}{bind:Val->Env'->Option Env'}(I:List Val->Env'->Hp->Prop) :
 ∀ (xs:List Val) (Γ:Env') (H:Hp),I xs Γ H->(∀ Γ H,I [] Γ H->QS Γ H)->(∀ ys Γ H,I ys Γ H->chk H=true) ->
 (∀ x ys Γ H,I (x :: ys) Γ H->∃ Γ',bind x Γ=some Γ'/\wpSs T Φ body Γ' H (I ys) R ES)->WpS (Fn chk bind (execSs T Φ body) xs Γ H) QS R ES:=by
 intro xs;induction xs with
 | nil =>intro Γ H h hd hc _;refine rwl Nx (rwl (if_pos (hc _ _ _ h)) ?_);exact hd _ _ h
 | cons x xs ihh =>intro Γ H h hd hc hs;refine rwl L4 (rwl (if_pos (hc _ _ _ h)) ?_);refine ex1 (hs _ _ _ _ h) fun Γ' zz=>Ad zz fun e w=>?_;refine rwl e ?_;rw [<- wpSs_eq] at w;rw [Rb];exact w.mono (fun Γ H h=>ihh Γ H h hd hc hs) (fun _ _ h=>h) (fun _ _ _ h=>h)
theorem B9{chk:Hp->Bool}{bind:Val->Env'->Option Env'}(I:Nat->Env'->Hp->Prop)
 (h0:I 0 Γ H) (hd:∀ Γ H,I xs.length Γ H->QS Γ H) (hc:∀ k Γ H,k<=xs.length->I k Γ H->chk H=true)
 (hs:∀ k x Γ H,xs[k]?=some x->I k Γ H->∃ Γ',bind x Γ=some Γ'/\wpSs T Φ body Γ' H (I (k+1)) R ES):WpS (Fn chk bind (execSs T Φ body) xs Γ H) QS R ES:=by
 refine Vx (fun ys Γ H=>∃ k,ys=xs.drop k/\k<=xs.length/\I k Γ H) xs Γ H ⟨0,rfl,bH _,h0⟩ ?_ ?_ ?_
 . intro Γ H zz;refine ex1 zz fun k zz=>Ap zz fun e l h=>?_;have:k=xs.length:=by have:=congrArg hU e;simp at this;exact Aj4 this l
   subst this;exact hd _ _ h
 . intro ys Γ H zz;refine ex1 zz fun k zz=>Ap zz fun e l h=>?_;exact hc k Γ H l h
 . intro x ys Γ H zz;refine ex1 zz fun k zz=>Ap zz fun e l h=>?_;have hx:xs[k]?=some x:=by have:=congrArg (fun z=>z[0]?) e;simpa using this.symm
   have lt:=(aE.mp hx).1;refine ex1 (hs k x Γ H hx h) fun Γ' zz=>Ad zz fun hb w=>?_;refine ⟨Γ',hb,Vw w ?_ (fun _ _ h=>h) (fun _ _ _ h=>h)⟩;intro Γ H h;refine ⟨k+1,?_,lt,h⟩;have:=congrArg List.tail e;simpa using this
theorem Zi{chk:Hp->Bool}{step:Val->M (Option Val)}{Q:List Val->Hp->Prop}(I:List Val->List Val->Hp->Prop) :
 ∀ (xs:List Val) (out:List Val) (H:Hp),I xs out H->(∀ ys out H,I ys out H->chk H=true) ->
 (∀ x ys out H,I (x :: ys) out H->Wp (step x) H (fun r H=>I ys (out++r.toList) H) E) ->
 (∀ zs H,I [] (out++zs) H->Q zs H)->Wp (Fm chk step xs) H Q E:=by
 intro xs;induction xs generalizing Q with
 | nil =>
  intro out H h hc _ hd;have:Fm chk step [] H=.ok [] H:=by exact if_pos (hc _ _ _ h)
  exact Wp.of_eq this (hd [] H (by simpa using h))
 | cons x xs ihh =>
  intro out H h hc hs hd;have:Fm chk step (x :: xs) H=((step x).bnd fun r=>(Fm chk step xs).bnd fun ys=>.ret (match r with | some y=>y :: ys | none=>ys)) H:=by exact if_pos (hc _ _ _ h)
  unfold Wp;refine rwl this ?_;show Wp _ H Q E;rw [Aw];refine (hs _ _ _ _ h).mono ?_ (fun _ _ h=>h);intro r H h;rw [Aw];simp only [Of];refine ihh _ H h hc hs ?_;intro zs H h;refine hd _ H ?_;cases r with
  | none=>simpa using h
  | some y=>simpa using h
theorem Zj{Q:α->Hp->Prop}(h:Wp m H Q NoE):Wp (M.quiet m) H Q E:=by
 unfold Wp at h ⊢;unfold M.quiet;cases hm:m H with
 | ok a H'=>rw [hm] at h;exact h
 | exc c H'=>rw [hm] at h;exact h.elim
 | bad=>rw [hm] at h;exact h.elim
theorem Kv{cond:MEo}(h:wpE T Φ it Γ H (fun v H=>De (Dg v H) fun p =>
 Wp (Fm (chk p.2 p.1) (fun x=>(evalC T Φ cond (Γ++[some x])).bnd fun b=>match b with
  | true=>(Aj T Φ elt (Γ++[some x])).bnd fun y=>.ret (some y)
  | false=>.ret none) p.1) H (fun ys H=>ys.length < lid/\Q (.loc H.length) (H++[.list ys])) NoE) E):wpE T Φ (.comp elt it cond) Γ H Q E:=by
 rw [<- Bb] at h ⊢;refine (Aw _ _).mpr (h.mono ?_ (fun _ _ h=>h));intro v H h;rw [Aw,Gj];cases hp:Dg v H with
 | none=>rw [hp] at h;exact h
 | some p =>
 rw [hp] at h;show Wp _ _ _ _;rw [Aw];refine Zj (Wp.mono h ?_ (fun _ _ h=>h));rintro ys H ⟨hl,q⟩;refine rwl (if_pos hl) ?_;exact q
theorem Nj{Q:Option Val->Hp->Prop}(h:wpE T Φ elt Γ H (fun y H=>Q (some y) H) E) :
 Wp ((evalC T Φ .none Γ).bnd fun b=>match b with
  | true=>(Aj T Φ elt Γ).bnd fun y=>M.ret (some y)
  | false=>.ret none) H Q E:=by
 rw [<- Bb] at h;exact (Aw _ _).mpr (show Wp _ H Q E from (Aw _ _).mpr h)
theorem wp_step{Q:Option Val->Hp->Prop}(h:wpE T Φ c Γ H (fun v H=>E1 v fun b=>brB b (wpE T Φ elt Γ H (fun y H=>Q (some y) H) E) (Q none H)) E) :
 Wp ((evalC T Φ (.some c) Γ).bnd fun b=>match b with
  | true=>(Aj T Φ elt Γ).bnd fun y=>M.ret (some y)
  | false=>.ret none) H Q E:=by
 simp only [<- Bb] at h;rw [Aw];refine (Aw _ _).mpr (h.mono ?_ (fun _ _ h=>h));intro v H h;cases v with
 | bool b =>
  cases b with
  | true=>exact (Aw _ _).mpr h
  | false=>exact h
 | _=>exact h
end
section
theorem Gm(x y:Int):Nh .add (.int x) (.int y) H Q E=Q (.int (x+y)) H:=rfl
theorem Kw(x y:Int):Nh .sub (.int x) (.int y) H Q E=Q (.int (x - y)) H:=rfl
theorem Kx(x y:Int):Nh .mul (.int x) (.int y) H Q E=((small x || small y)=true/\Q (.int (x * y)) H):=rfl
theorem Gn(x y:Int):Nh .fdiv (.int x) (.int y) H Q E=(¬(y=0\/1073741824<=y.natAbs)/\Q (.int (cR x y)) H):=rfl
theorem Ky(x y:Int):Nh .mod (.int x) (.int y) H Q E=(¬(y=0)/\Q (.int (dO x y)) H):=rfl
theorem It(n:Int):Wp (bfV .range [.int n]) H Q E=((-1073741824<=n/\n<=1073741824)/\Q (.rng n) H):=Aat _ _
theorem Cc(ns:List Int):Wp (bfV .len [.script ns]) H Q E=Q (.int ns.length) H:=by rw [Ng,Of]
theorem Fb(xs:List Val):Wp (bfV .len [.tup xs]) H Q E=Q (.int xs.length) H:=rfl
theorem As(h:H[l]?=some (.list xs)):Wp (bfV .len [.loc l]) H Q E=Q (.int xs.length) H:=by unfold Wp;exact rwl (S5 h) rfl
theorem Vy(b:Bool):Wp (bfV .int [.bool b]) H Q E=Q (.int (if b=true then 1 else 0)) H:=rfl
theorem P7(a b:Int):Wp (bfV .max2 [.int a,.int b]) H Q E=Q (.int (if b > a then b else a)) H:=rfl
theorem Zk(n:Nat)(i:Int):A0 H n (.int i)=some (.int i):=by cases n <;> rfl
theorem Vz(n:Nat):A0 H n .none=some .none:=by cases n <;> rfl
theorem P8(x y:Int)(k:Bool->Prop):De (Cu .eq (.int x) (.int y) H) k=k (decide (x=y)):=rfl
theorem Oi(x y:Int)(k:Bool->Prop):De (Cu .ne (.int x) (.int y) H) k=k (!decide (x=y)):=rfl
theorem V0(x y:Bool)(k:Bool->Prop):De (Cu .ne (.bool x) (.bool y) H) k=k (!decide (x=y)):=rfl
theorem Lx(x y:Int)(k:Bool->Prop):De (Cu .lt (.int x) (.int y) H) k=k (decide (x < y)):=rfl
theorem Ly(x y:Int)(k:Bool->Prop):De (Cu .gt (.int x) (.int y) H) k=k (decide (y < x)):=rfl
theorem V3(x y:Int)(k:Bool->Prop):De (Cu .le (.int x) (.int y) H) k=k (decide (x<=y)):=rfl
theorem V4(x y:Int)(k:Bool->Prop):De (Cu .ge (.int x) (.int y) H) k=k (decide (y<=x)):=rfl
theorem D5(k:Bool->Prop):De (Cu .is .none .none H) k=k true:=rfl
theorem Do(i:Int)(k:Bool->Prop):De (Cu .is (.int i) .none H) k=k false:=rfl
theorem Dx(k:Bool->Prop):De (Cu .isNot .none .none H) k=k false:=rfl
theorem C7(i:Int)(k:Bool->Prop):De (Cu .isNot (.int i) .none H) k=k true:=rfl
theorem Ai9(v:Val)(t:Ty)(k:Kd)(h:Ql H v=some k)(ht:∀ c,t≠.cls c):Wp (Bp T v t) H Q E=Q (.bool (Aac t k)) H:=by
 have e:Bp T v t H=.ok (.bool (Aac t k)) H:=by
  unfold Bp;rw [Dl];cases t with
  | cls c=>exact absurd rfl (ht c)
  | _=>dsimp only;refine rwl h ?_;rfl
 unfold Wp;exact rwl e rfl
theorem En(i:Int):Wp (Bp T (.int i) .int) H Q E=Q (.bool true) H:=rfl
theorem Dy(i:Int):Wp (Bp T (.int i) .bool) H Q E=Q (.bool false) H:=rfl
theorem Jc(i:Int):Wp (Bp T (.int i) .tuple) H Q E=Q (.bool false) H:=rfl
theorem Hm(i:Int):Wp (Bp T (.int i) .list) H Q E=Q (.bool false) H:=rfl
theorem Hn(i:Bool):Wp (Bp T (.bool i) .int) H Q E=Q (.bool true) H:=rfl
theorem Gp(i:Bool):Wp (Bp T (.bool i) .bool) H Q E=Q (.bool true) H:=rfl
theorem Ho(i:Bool):Wp (Bp T (.bool i) .tuple) H Q E=Q (.bool false) H:=rfl
theorem Hq:Wp (Bp T .none .tuple) H Q E=Q (.bool false) H:=rfl
theorem Hr:Wp (Bp T .none .int) H Q E=Q (.bool false) H:=rfl
theorem Jd(s:Str):Wp (Bp T (.str s) .tuple) H Q E=Q (.bool false) H:=rfl
theorem Je(s:Str):Wp (Bp T (.str s) .int) H Q E=Q (.bool false) H:=rfl
theorem Fc(xs:List Val):Wp (Bp T (.tup xs) .tuple) H Q E=Q (.bool true) H:=rfl
theorem Jf(xs:List Val):Wp (Bp T (.tup xs) .int) H Q E=Q (.bool false) H:=rfl
theorem Kz(l:Nat)(xs:List Val)(h:H[l]?=some (.list xs)):Wp (Bp T (.loc l) .list) H Q E=Q (.bool true) H :=
 Ai9 _ _ .list (Aif h) (by intro c h;cases h)
theorem Fu(x:Val)(xs:List Val):Wp (Dh (.tup (x :: xs)) (.int 0)) H Q E=Q x H:=rfl
theorem Fv(x y:Val)(xs:List Val):Wp (Dh (.tup (x :: y :: xs)) (.int 1)) H Q E=Q y H:=rfl
theorem P9(x y z:Val)(xs:List Val):Wp (Dh (.tup (x :: y :: z :: xs)) (.int 2)) H Q E=Q z H:=rfl
theorem V5(k n:Nat)(h:k < n):C2 (k:Int) n=some k:=by unfold C2;refine rwl (if_pos Mr) (rwl (if_pos (Xg h)) ?_);rfl
theorem Oj(k:Int)(n:Nat)(h0:0<=k)(h:k < n):C2 k n=some k.toNat:=by unfold C2;exact rwl (if_pos h0) (rwl (if_pos h) rfl)
theorem Hs(h:H[l]?=some (.list xs))(h0:0<=k)(hk:xs[k.toNat]?=some v)(q:Q v H):Wp (Dh (.loc l) (.int k)) H Q E:=by have lt:=(aE.mp hk).1;refine Wp.of_eq ?_ q;unfold Dh;rw [Dl];simp only [h,Oj k xs.length h0 ((iF h0).mp lt),iJ,hk]
theorem K6(h:H[l]?=some (.list xs)):Db .append (.loc l) H=some ():=if_pos (Gc h)
theorem S7(h:H[l]?=some (.list xs)):Db .clear (.loc l) H=some ():=if_pos (Gc h)
theorem Rf(h:H[l]?=some (.list xs)):Db .pop (.loc l) H=some ():=if_pos (Gc h)
theorem Ol(h:H[l]?=some (.list xs))(hl:xs.length < lid)(q:Q .none (H.set l (.list (xs++[v])))):Wp (bmV .append (.loc l) [v]) H Q E:=by refine Wp.of_eq ?_ q;unfold bmV;simp only [h];exact if_pos hl
theorem Zl(h:H[l]?=some (.list xs))(q:Q .none (H.set l (.list []))):Wp (bmV .clear (.loc l) []) H Q E:=by refine Wp.of_eq ?_ q;unfold bmV;simp only [h]
theorem Aav(h:H[l]?=some (.list xs))(hv:xs.getLast?=some v)(q:Q v (H.set l (.list xs.dropLast))):Wp (bmV .pop (.loc l) []) H Q E:=by refine Wp.of_eq ?_ q;unfold bmV;simp only [h,hv]
theorem Dz(hi:Γ[i]?=some (some (.loc l)))(h:H[l]?=some (.list xs))
 (q:wpE T Φ e Γ H (fun v H'=>∃ ys,H'[l]?=some (.list ys)/\ys.length < lid/\Q .none (H'.set l (.list (ys++[v])))) E):wpE T Φ (.bm (.var i) .append (.cons e .nil)) Γ H Q E:=by
 rw [Ni,A2];rw [Fr];refine rwl hi ?_;show De (Db _ _ _) _;refine rwl (K6 h) ?_;refine Re q ?_ (fun _ _ h=>h);intro v H' zz;refine ex1 zz fun ys zz=>Ap zz fun hy hl q=>?_;exact Ol hy hl q
end
theorem Gq{n:Nat}(h:n<=16777216):small (n:Int)=true:=by unfold small;rw [decide_eq_true (gA (by decide:-(2 ^ 64) < (0:Int)) (bE n)),decide_eq_true (cU (dD.mpr h) (by decide:((16777216:Nat):Int) < 2 ^ 64))];rfl
noncomputable def Ext(H H':Hp):Prop:=∃ K,H'=H++K
theorem Ext.refl(H:Hp):Ext H H:=⟨[],by simp⟩
theorem Ext.trans:Ext H H1->Ext H1 H2->Ext H H2
 | ⟨K,e⟩,⟨L,f⟩=>⟨K++L,by refine rwl f (rwl e ?_);rw [bJ]⟩
theorem Ext.new(h:Ext H H')(o:HObj):Ext H (H'++[o]):=h.trans ⟨[o],rfl⟩
theorem Ext.get(h:Ext H H'){l:Nat}(g:H[l]?=some o):H'[l]?=some o:=by obtain ⟨K,hr0⟩:=h;refine rwl hr0 ?_;refine rwl (bB (aE.mp g).1) ?_;exact g
theorem Ext.len(h:Ext H H'):H.length<=H'.length:=by obtain ⟨K,rfl⟩:=h;simp
theorem Ext.set(h:Ext H H')(hl:H.length<=l)(o:HObj):Ext H (H'.set l o):=by obtain ⟨K,rfl⟩:=h;exact ⟨K.set (l - H.length) o,by exact rwl (lB _ _ hl) rfl⟩
theorem Ao(H:Hp)(o:HObj):(H++[o])[H.length]?=some o:=by simp
theorem A4{H:Hp}(g:H[l]?=some o):l < H.length:=(aE.mp g).1
theorem Bl{H:Hp}(o':HObj)(g:H[l]?=some o):(H.set l o')[l]?=some o':=by exact rwl (dA (A4 g)) rfl
theorem Al{H:Hp}(o':HObj)(hne:l≠m)(g:H[m]?=some o):(H.set l o')[m]?=some o:=by refine rwl (cB hne) ?_;exact g
theorem Bz(h:H[l]?=some (.list xs)):chk (some l) xs H=true:=by exact Afm h
theorem Bs(h:H[l]?=some (.list xs)):Dg (.loc l) H=some (xs,some l):=Tu h
theorem K7(h:H[l]?=some (.list xs)):G9 (.loc l) H=some (xs,l):=Tt h
noncomputable def Tj(n:Int):List Val:=(bT n.toNat).map (fun (k:Nat)=>.int (k:Int))
theorem Rg{k:Nat}(h:(Tj n)[k]?=some x):x=.int k/\(k:Int) < n:=by
 unfold Tj at h;rw [aX] at h;cases e:(bT n.toNat)[k]? with
 | none=>rw [e] at h;exact nomatch h
 | some j =>rw [e] at h;obtain ⟨lt,g⟩:=aE.mp e;simp at g lt h;subst g;exact ⟨h.symm,by assumption⟩
theorem Rh(n:Int):(Tj n).length=n.toNat:=by simp [Tj]
section
theorem Bu(P:Env'->Hp->Prop)(h:wpS T Φ s Γ H P R ES)(q:∀ Γ H,P Γ H->wpSs T Φ ss Γ H QS R ES):wpSs T Φ (.cons s ss) Γ H QS R ES:=by skip;exact wpS_mono h q (fun _ _ h=>h) (fun _ _ _ h=>h)
theorem Ak(P:Val->Hp->Prop)(h:wpE T Φ e Γ H P NoE)(q:∀ v H,P v H->wpSs T Φ ss (Γ.set i (some v)) H QS R ES):wpSs T Φ (.cons (.assign i e) ss) Γ H QS R ES:=by skip;exact A9 h q
theorem Dp(P:Hp->Prop)(h:wpE T Φ e Γ H (fun _ H=>P H) NoE)(q:∀ H,P H->wpSs T Φ ss Γ H QS R ES):wpSs T Φ (.cons (.expr e) ss) Γ H QS R ES:=by skip;exact A9 h (fun _=>q)
theorem B5(P:Hp->Prop)(h:wpE T Φ c Γ H (fun v H=>v=.bool false/\P H) NoE)(q:∀ H,P H->wpSs T Φ ss Γ H QS R ES):wpSs T Φ (.cons (.ite c t .nil) ss) Γ H QS R ES:=by refine A9 h ?_;rintro v H ⟨rfl,p⟩;exact q H p
theorem Qa(P:Hp->Prop)(h:wpE T Φ c Γ H (fun v H=>v=.bool true/\P H) NoE)(q:∀ H,P H->wpSs T Φ t Γ H (fun Γ H=>wpSs T Φ ss Γ H QS R ES) R ES):wpSs T Φ (.cons (.ite c t f) ss) Γ H QS R ES:=by refine A9 h ?_;rintro v H ⟨rfl,p⟩;exact q H p
theorem Gr(I:Nat->Env'->Hp->Prop)
 (he:wpE T Φ e Γ H (fun v H'=>v=.int n/\H'=H) NoE) (hn:-1073741824<=n/\n<=1073741824) (h0:I 0 Γ H)
 (hs:∀ (k:Nat) Γ H,(k:Int) < n->I k Γ H->wpSs T Φ body (Γ.set i (some (.int k))) H (I (k+1)) R ES)
 (hd:∀ Γ H,I n.toNat Γ H->QS Γ H):wpS T Φ (.each i (.bf .range (.cons e .nil)) body) Γ H QS R ES:=by
 apply Dn;rw [Fs,Am];refine A9 he ?_;rintro v H' ⟨rfl,rfl⟩;refine rwl A3 ?_;rw [It];refine ⟨hn,?_⟩;show WpS (Fn (chk none (Tj n)) _ _ (Tj n) _ _) _ _ _;refine B9 I h0 ?_ (fun _ _ _ _ _=>rfl) ?_
 . rw [Rh];exact hd
 . intro k x Γ H hx hi;obtain ⟨hr0,lt⟩:=Rg hx;refine rwl hr0 ?_;exact ⟨_,rfl,hs k Γ H lt hi⟩
end
end Mine.Internal.Pure
namespace Mine.Internal.Pile
section
variable{α:Type}
noncomputable def par(i:Nat):Nat:=(i - 1) / 2
theorem Aaw(h:0 < i):par i < i:=by unfold par;exact aB (Nat.div_le_self _ _) (cS h dF)
noncomputable def swap(h:List α)(i j:Nat)(a b:α):List α:=(h.set i b).set j a
theorem Nk(h:List α)(i j:Nat)(a b:α):(swap h i j a b).length=h.length:=by simp [swap]
theorem Om(hi:h[i]?=some a)(hj:h[j]?=some b):(swap h i j a b).Perm h:=by obtain ⟨li,hr0⟩:=aE.mp hi;refine rwr hr0 ?_;obtain ⟨lj,hr0⟩:=aE.mp hj;refine rwr hr0 ?_;exact List.set_set_perm li lj
end
end Mine.Internal.Pile
namespace Mine.Internal.Pure
open PySem Pile
noncomputable def DC(v:Val):Prop:=∃ a b c,v=.tup [.int a,.tup [.int b,.int c]]
noncomputable def klt(a b:Val):Bool:=(Lq Ej a b).getD false
theorem V6(x y:Int):Ga [] (.int x) (.int y)=some (x == y):=rfl
theorem Ad4(a b c e:Int):Ga [] (.tup [.int a,.int b]) (.tup [.int c,.int e])=some (a == c && (b == e && true)):=rfl
theorem Iu(e f:Val->Val->Option Bool)(x y:Val)(xs ys:List Val):lts e f (x :: xs) (y :: ys)=(match e x y with | some true=>lts e f xs ys | some false=>f x y | none=>none):=rfl
theorem Aax(n:Nat)(xs ys:List Val):Lq (n+1) (.tup xs) (.tup ys)=lts (Ga []) (Lq n) xs ys:=rfl
theorem getD_some(h:∃ r,o=some r):o=some (o.getD false):=by obtain ⟨r,e⟩:=h;refine rwl e ?_;rfl
theorem Aja(ha:DC a)(hb:DC b):Lq Ej a b=some (klt a b):=by
 refine ex3 ha fun x1 x2 x3 zr3=>?_;subst zr3;refine ex3 hb fun y1 y2 y3 zr3=>?_;subst zr3;refine getD_some ?_;show ∃ r,Lq (5+1) _ _=some r;rw [Aax,Iu,V6];cases (x1 == y1) with
 | false=>exact ⟨_,rfl⟩
 | true =>
  show ∃ r,lts _ _ _ _=some r;rw [Iu,Ad4];cases (x2 == y2 && (x3 == y3 && true)) with
  | true=>exact ⟨_,rfl⟩
  | false =>
   show ∃ r,Lq (4+1) _ _=some r;rw [Aax,Iu,V6];cases (x2 == y2) with
   | false=>exact ⟨_,rfl⟩
   | true =>
    show ∃ r,lts _ _ _ _=some r;rw [Iu,V6];cases (x3 == y3) with
    | false=>exact ⟨_,rfl⟩
    | true=>exact ⟨_,rfl⟩
noncomputable def gv(ys:List Val)(i:Nat):Val:=(ys[i]?).getD .none
theorem S8(h:ys[i]?=some x):gv ys i=x:=by unfold gv;refine rwl h ?_;rfl
noncomputable def under(ys:List Val)(i j:Nat):Bool:=decide (i < ys.length) && klt (gv ys i) (gv ys j)
theorem J5(h:ys[i]?=some x)(k:ys[j]?=some y):under ys i j=klt x y:=by unfold under;refine rwl (decide_eq_true (aE.mp h).1) (rwl (S8 h) (rwl (S8 k) ?_));rw [Bool.true_and]
theorem Zm(h:¬i < ys.length):under ys i j=false:=by unfold under;refine rwl (decide_eq_false h) ?_;rw [Bool.false_and]
noncomputable def upF:Nat->List Val->Nat->List Val
 | 0,ys,_=>ys
 | f+1,ys,n=>if 0 < n/\under ys n (par n)=true then upF f (swap ys (par n) n (gv ys (par n)) (gv ys n)) (par n) else ys
noncomputable def Aay(xs:List Val)(v:Val):List Val:=upF xs.length (xs++[v]) xs.length
theorem V7(h:n=0\/under ys n (par n)=false):upF f ys n=ys:=by
 cases f with
 | zero=>rfl
 | succ f =>
  refine if_neg fun c=>?_;rcases h with h | h
  . exact absurd h (dW c.1)
  . rw [h] at c;exact nomatch c.2
theorem Ajb(hf:n<=f)(h0:0 < n)(hx:ys[n]?=some x)(hy:ys[par n]?=some y)(l:klt x y=true):∃ f',upF f ys n=upF f' (swap ys (par n) n y x) (par n)/\par n<=f':=by
 cases f with
 | zero=>exact absurd hf (eR.mpr h0)
 | succ f =>refine ⟨f,?_,bK (aA (Aaw h0) hf)⟩;refine rwr (S8 hx) (rwr (S8 hy) ?_);exact if_pos ⟨h0,by refine rwl (J5 hx hy) ?_;exact l⟩
noncomputable def pk(ys:List Val)(j m:Nat):Nat:=if under ys j m=true then j else m
theorem Agz(h:under ys j m=true):pk ys j m=j:=if_pos h
theorem Ag0(h:under ys j m=false):pk ys j m=m:=if_neg (by refine rwl h ?_;exact dH)
noncomputable def pks(ys:List Val)(k:Nat):Nat->Nat
 | 0=>k
 | j+1=>pk ys (2 * k+1+j) (pks ys k j)
noncomputable def dnF:Nat->List Val->Nat->List Val
 | 0,ys,_=>ys
 | f+1,ys,k=>if pks ys k 2=k then ys else dnF f (swap ys k (pks ys k 2) (gv ys k) (gv ys (pks ys k 2))) (pks ys k 2)
noncomputable def V8(xs:List Val):List Val:=dnF (xs.dropLast.set 0 (xs.getLast?.getD .none)).length (xs.dropLast.set 0 (xs.getLast?.getD .none)) 0
theorem Ad5(h:pks ys k 2=k):dnF f ys k=ys:=by
 cases f with
 | zero=>rfl
 | succ f=>exact if_pos h
theorem Ajc(hf:0 < f)(h:pks ys k 2=m)(hk:ys[k]?=some xk)(hm:ys[m]?=some x)(l:k < m):∃ f',dnF f ys k=dnF f' (swap ys k m xk x) m/\f<=f'+1:=by
 cases f with
 | zero=>exact absurd hf (cA _)
 | succ f =>refine ⟨f,?_,aN _⟩;refine rwr (S8 hk) (rwr (S8 hm) (rwr h ?_));exact if_neg fun c=>by rw [h] at c;exact absurd l (by refine rwl c ?_;exact cA _)
end Mine.Internal.Pure
namespace Mine.Internal
open PySem
noncomputable abbrev zT20 : MSs := .cons (.expr (.bm (.attr (.var 0) 3) .dpop (.cons (.var 1) .nil))) .nil
noncomputable abbrev zT19 : MSs := .cons (.expr (.call 37 (.cons (.var 3) (.cons (.var 1) (.cons (.var 2) (.cons (.var 8) .nil)))))) .nil
noncomputable abbrev zT18 : MSs := .cons (.expr (.bm (.var 3) .append (.cons (.sub (.var 2) (.sub (.var 3) (.neg (.int 1)))) .nil))) .nil
noncomputable abbrev zT17 : MSs := .cons (.expr (.bm (.var 3) .append (.cons (.comp (.call 11 (.cons (.var 6) (.cons (.var 2) .nil))) (.var 5) .none) .nil))) .nil
noncomputable abbrev zT16 : MSs := .cons (.each 3 (.var 2) (.cons (.ite (.not (.call 4 (.cons (.var 3) .nil))) (.cons (.raise 2 "a height or None is wanted") .nil) .nil) .nil)) .nil
noncomputable abbrev zT15 : MSs := .cons (.ite (.cmp .ne (.bf .len (.cons (.var 1) .nil)) (.bf .len (.cons (.sub (.var 0) (.int 0)) .nil))) (.cons (.raise 1 "all rows are as long") .nil) .nil) .nil
noncomputable abbrev zT14 : MSs := .cons (.ite (.and (.cmp .lt (.var 5) (.bf .len (.cons (.var 1) .nil))) (.cmp .lt (.sub (.var 1) (.var 5)) (.sub (.var 1) (.var 4)))) (.cons (.assign 4 (.var 5)) .nil) .nil) .nil
noncomputable abbrev zT13 : MSs := .cons (.ite (.or (.not (.isinst (.var 10) .list)) (.cmp .ne (.bf .len (.cons (.var 10) .nil)) (.bf .len (.cons (.sub (.var 1) (.int 0)) .nil)))) (.cons (.ret (.some (.bool false))) .nil) .nil) .nil
noncomputable abbrev zT12 : MSs := .cons (.ite (.or (.not (.isinst (.var 1) .list)) (.not (.call 0 (.cons (.bf .len (.cons (.var 1) .nil)) (.cons (.int 1) (.cons (.glob 0) .nil)))))) (.cons (.raise 1 "a row is a list of heights") .nil) .nil) .nil
noncomputable abbrev zT11 : MSs := .cons (.assign 3 (.cmp .ne (.var 4) (.var 2))) (.cons (.assign 6 (.sub (.var 1) (.var 2))) (.cons (.setitem (.var 1) (.var 2) (.sub (.var 1) (.var 4))) (.cons (.setitem (.var 1) (.var 4) (.var 6)) (.cons (.assign 2 (.var 4)) .nil))))
noncomputable abbrev zT10 : MSs := .cons (.setitem (.var 1) (.var 4) (.umeth (.var 0) 2 (.cons (.var 4) .nil))) (.cons (.setitem (.var 2) (.var 4) .none) (.cons (.expr (.umeth (.var 3) 6 (.cons (.tup (.cons (.sub (.var 1) (.var 4)) (.cons (.var 4) .nil))) .nil))) .nil))
noncomputable abbrev zT9 : MSs := .cons (.assign 4 (.bin .fdiv (.bin .sub (.var 3) (.int 1)) (.int 2))) (.cons (.assign 5 (.sub (.var 2) (.var 4))) (.cons (.setitem (.var 2) (.var 4) (.sub (.var 2) (.var 3))) (.cons (.setitem (.var 2) (.var 3) (.var 5)) (.cons (.assign 3 (.var 4)) .nil))))
noncomputable abbrev zT8 : MSs := .cons (.assign 7 (.umeth (.var 0) 2 (.cons (.var 6) .nil))) (.cons (.ite (.and (.cmp .notin (.var 6) (.var 3)) (.and (.cmp .isNot (.var 7) .none) (.cmp .lt (.var 7) (.var 2)))) (.cons (.setitem (.var 3) (.var 6) (.bool true)) (.cons (.expr (.bm (.var 4) .append (.cons (.var 6) .nil))) .nil)) .nil) .nil)
noncomputable abbrev zT7 : MSs := .cons (.assign 7 (.sub (.var 6) (.bin .mul (.bin .mod (.bin .fdiv (.call 8 (.cons (.var 0) (.cons (.int 1) .nil))) (.int 60)) (.bf .len (.cons (.var 6) .nil))) (.bf .int (.cons (.cmp .lt (.bin .mod (.call 8 (.cons (.var 0) (.cons (.int 1) .nil))) (.int 5)) (.int 4)) .nil))))) (.cons (.expr (.umeth (.var 3) 3 (.cons (.var 7) .nil))) (.cons (.ite (.cmp .notin (.var 7) (.var 2)) (.cons (.expr (.bm (.var 2) .append (.cons (.var 7) .nil))) .nil) .nil) .nil))
noncomputable abbrev zT6 : MSs := .cons (.assign 5 (.bm (.var 4) .pop .nil)) (.cons (.each 6 (.call 2 (.cons (.attr (.var 0) 0) (.cons (.attr (.var 0) 1) (.cons (.var 5) .nil)))) zT8) .nil)
noncomputable abbrev zT5 : MSs := .cons (.assign 7 (.bin .add (.bin .mul (.var 5) (.bf .len (.cons (.sub (.var 1) (.int 0)) .nil))) (.var 6))) (.cons (.ite (.and (.cmp .isNot (.sub (.sub (.var 1) (.var 5)) (.var 6)) .none) (.cmp .eq (.bin .mod (.bin .add (.var 2) (.bin .mul (.var 7) (.bin .add (.int 1) (.bin .mod (.bin .fdiv (.var 2) (.int 12)) (.int 5))))) (.var 3)) (.int 0))) (.cons (.expr (.bm (.var 4) .append (.cons (.tup (.cons (.var 5) (.cons (.var 6) .nil))) .nil))) .nil) .nil) .nil)
noncomputable abbrev zT4 : MSs := .cons (.assign 4 (.bin .add (.bin .fdiv (.call 8 (.cons (.var 0) (.cons (.int 2) .nil))) (.int 7)) (.bin .mul (.int 11) (.var 11)))) (.cons (.assign 8 (.tup (.cons (.bin .mod (.var 4) (.bf .len (.cons (.var 1) .nil))) (.cons (.bin .mod (.bin .fdiv (.var 4) (.int 31)) (.bf .len (.cons (.sub (.var 1) (.int 0)) .nil))) .nil)))) (.cons (.ite (.not (.call 41 (.cons (.var 3) (.cons (.var 1) (.cons (.var 2) (.cons (.var 8) (.cons (.var 9) .nil))))))) (.cons (.ret (.some (.bool false))) .nil) .nil) .nil))
noncomputable abbrev zT3 : MSs := .cons (.assign 6 (.umeth (.var 0) 2 (.cons (.var 4) .nil))) (.cons (.ite (.cmp .isNot (.var 6) .none) (.cons (.assign 7 (.bf .max2 (.cons (.var 6) (.cons (.sub (.var 5) (.int 0)) .nil)))) (.cons (.ite (.or (.cmp .notin (.var 4) (.var 1)) (.cmp .lt (.var 7) (.sub (.var 1) (.var 4)))) (.cons (.setitem (.var 1) (.var 4) (.var 7)) (.cons (.setitem (.var 2) (.var 4) (.sub (.var 5) (.int 1))) (.cons (.expr (.umeth (.var 3) 6 (.cons (.tup (.cons (.var 7) (.cons (.var 4) .nil))) .nil))) .nil))) .nil) .nil)) .nil) .nil)
noncomputable abbrev zT2 : MSs := .cons (.ite (.cmp .eq (.bin .mod (.var 3) (.int 4)) (.int 2)) (.cons (.assign 6 (.sub (.list (.cons .none (.cons (.int 0) (.cons (.bin .mod (.bin .fdiv (.var 3) (.int 3)) (.int 1000000001)) (.cons (.bin .mod (.bin .fdiv (.var 3) (.int 3)) (.int 9)) .nil))))) (.bin .mod (.bin .fdiv (.var 3) (.int 5)) (.int 4)))) (.cons (.expr (.umeth (.var 0) 11 (.cons (.var 4) (.cons (.var 6) .nil)))) (.cons (.setitem (.sub (.var 1) (.sub (.var 4) (.int 0))) (.sub (.var 4) (.int 1)) (.var 6)) (.cons (.ite (.and (.cmp .is (.var 6) .none) (.cmp .isin (.var 4) (.var 2))) (.cons (.expr (.bm (.var 2) .remove (.cons (.var 4) .nil))) .nil) .nil) .nil)))) .nil) .nil
noncomputable abbrev zT1 : MSs := .cons (.ite (.or (.and (.cmp .gt (.var 5) (.int 0)) (.cmp .notin (.var 6) (.call 16 (.cons (.var 0) (.cons (.sub (.var 2) (.bin .sub (.var 5) (.int 1))) .nil))))) (.and (.cmp .isin (.var 6) (.var 1)) (.cmp .lt (.bin .add (.var 5) (.int 1)) (.bf .len (.cons (.var 2) .nil))))) (.cons (.ret (.some (.bool false))) .nil) .nil) (.cons (.assign 7 (.sub (.sub (.var 3) (.sub (.var 6) (.int 0))) (.sub (.var 6) (.int 1)))) (.cons (.ite (.or (.not (.call 9 (.cons (.var 7) .nil))) (.or (.cmp .gt (.sub (.sub (.var 0) (.sub (.var 6) (.int 0))) (.sub (.var 6) (.int 1))) (.var 7)) (.and (.cmp .isNot (.var 4) .none) (.cmp .gt (.var 7) (.var 4))))) (.cons (.ret (.some (.bool false))) .nil) .nil) (.cons (.assign 4 (.var 7)) .nil)))
noncomputable abbrev zT0 : MSs := .cons (.assign 5 (.umeth (.var 3) 8 .nil)) (.cons (.ite (.cmp .eq (.sub (.var 1) (.sub (.var 5) (.int 1))) (.sub (.var 5) (.int 0))) (.cons (.each 4 (.call 2 (.cons (.attr (.var 0) 0) (.cons (.attr (.var 0) 1) (.cons (.sub (.var 5) (.int 1)) .nil)))) zT3) .nil) .nil) .nil)
noncomputable def V9:MFun:=⟨3,0,(.cons (.ite (.or (.not (.isinst (.var 0) .int)) (.isinst (.var 0) .bool)) (.cons (.ret (.some (.bool false))) .nil) .nil) (.cons (.ret (.some (.cmp2 .le .le (.var 1) (.var 0) (.var 2)))) .nil))⟩
noncomputable def Wa:MFun:=⟨3,0,(.cons (.ite (.or (.not (.isinst (.var 2) .tuple)) (.cmp .ne (.bf .len (.cons (.var 2) .nil)) (.int 2))) (.cons (.ret (.some (.bool false))) .nil) .nil) (.cons (.ret (.some (.and (.call 0 (.cons (.sub (.var 2) (.int 0)) (.cons (.int 0) (.cons (.bin .sub (.var 0) (.int 1)) .nil)))) (.call 0 (.cons (.sub (.var 2) (.int 1)) (.cons (.int 0) (.cons (.bin .sub (.var 1) (.int 1)) .nil))))))) .nil))⟩
noncomputable def Ad6:MFun:=⟨3,3,(.cons (.assign 3 (.sub (.var 2) (.int 0))) (.cons (.assign 4 (.sub (.var 2) (.int 1))) (.cons (.assign 5 (.list (.cons (.tup (.cons (.bin .sub (.var 3) (.int 1)) (.cons (.var 4) .nil))) (.cons (.tup (.cons (.var 3) (.cons (.bin .sub (.var 4) (.int 1)) .nil))) (.cons (.tup (.cons (.var 3) (.cons (.bin .add (.var 4) (.int 1)) .nil))) (.cons (.tup (.cons (.bin .add (.var 3) (.int 1)) (.cons (.var 4) .nil))) .nil)))))) (.cons (.ret (.some (.comp (.var 6) (.var 5) (.some (.call 1 (.cons (.var 0) (.cons (.var 1) (.cons (.var 6) .nil)))))))) .nil))))⟩
noncomputable def Ag1:MFun:=⟨2,3,(.cons (.assign 2 (.list .nil)) (.cons (.each 3 (.bf .range (.cons (.var 0) .nil)) (.cons (.each 4 (.bf .range (.cons (.var 1) .nil)) (.cons (.expr (.bm (.var 2) .append (.cons (.tup (.cons (.var 3) (.cons (.var 4) .nil))) .nil))) .nil)) .nil)) (.cons (.ret (.some (.var 2))) .nil)))⟩
noncomputable def Ad7:MFun:=⟨1,0,(.cons (.ret (.some (.or (.cmp .is (.var 0) .none) (.call 0 (.cons (.var 0) (.cons (.int 0) (.cons (.glob 1) .nil))))))) .nil)⟩
noncomputable def Ad8:MFun:=⟨1,1,(.cons (.ite (.or (.not (.isinst (.var 0) .list)) (.not (.call 0 (.cons (.bf .len (.cons (.var 0) .nil)) (.cons (.int 1) (.cons (.glob 0) .nil)))))) (.cons (.raise 1 "a list of rows is wanted") .nil) .nil) (.cons (.each 1 (.var 0) zT12) (.cons (.each 1 (.var 0) zT15) .nil)))⟩
noncomputable def Ag2:MFun:=⟨1,7,(.cons (.assign 1 .dict) (.cons (.assign 2 .dict) (.cons (.assign 3 (.new 8 .nil)) (.cons (.each 4 (.umeth (.var 0) 4 .nil) zT10) (.cons (.loop (.cmp .gt (.umeth (.var 3) 10 .nil) (.int 0)) zT0) (.cons (.ret (.some (.tup (.cons (.var 1) (.cons (.var 2) .nil))))) .nil))))))⟩
noncomputable def Ad9:MFun:=⟨2,6,(.cons (.ite (.not (.call 1 (.cons (.attr (.var 0) 0) (.cons (.attr (.var 0) 1) (.cons (.var 1) .nil))))) (.cons (.raise 3 "no such cell") .nil) .nil) (.cons (.ite (.cmp .is (.umeth (.var 0) 2 (.cons (.var 1) .nil)) .none) (.cons (.ret (.some (.list .nil))) .nil) .nil) (.cons (.assign 2 (.bm (.sub (.call 6 (.cons (.var 0) .nil)) (.int 0)) .get2 (.cons (.var 1) (.cons (.bin .add (.glob 1) (.int 1)) .nil)))) (.cons (.ite (.cmp .ge (.umeth (.var 0) 2 (.cons (.var 1) .nil)) (.var 2)) (.cons (.ret (.some (.list .nil))) .nil) .nil) (.cons (.assign 3 .dict) (.cons (.setitem (.var 3) (.var 1) (.bool true)) (.cons (.assign 4 (.list (.cons (.var 1) .nil))) (.cons (.loop (.cmp .gt (.bf .len (.cons (.var 4) .nil)) (.int 0)) zT6) (.cons (.ret (.some (.bf .sorted (.cons (.var 3) .nil)))) .nil)))))))))⟩
noncomputable def Aea:MFun:=⟨2,0,(.cons (.ite (.cmp .lt (.var 1) (.bf .len (.cons (.var 0) .nil))) (.cons (.ret (.some (.sub (.var 0) (.var 1)))) .nil) .nil) (.cons (.ret (.some (.int 0))) .nil))⟩
noncomputable def Aeb:MFun:=⟨1,0,(.cons (.ret (.some (.and (.isinst (.var 0) .int) (.not (.isinst (.var 0) .bool))))) .nil)⟩
noncomputable def On:MFun:=⟨1,0,(.cons (.ite (.cmp .eq (.bin .mod (.bin .fdiv (.var 0) (.int 20)) (.int 8)) (.int 1)) (.cons (.ret (.some (.sub (.list (.cons (.tup (.cons (.int 1) (.cons (.int 30) .nil))) (.cons (.tup (.cons (.int 30) (.cons (.int 1) .nil))) (.cons (.tup (.cons (.int 5) (.cons (.int 5) .nil))) (.cons (.tup (.cons (.int 2) (.cons (.int 12) .nil))) (.cons (.tup (.cons (.int 2) (.cons (.int 30) .nil))) (.cons (.tup (.cons (.int 30) (.cons (.int 2) .nil))) (.cons (.tup (.cons (.int 6) (.cons (.int 7) .nil))) (.cons (.tup (.cons (.int 12) (.cons (.int 11) .nil))) .nil))))))))) (.bin .mod (.bin .fdiv (.var 0) (.int 160)) (.int 8))))) .nil) .nil) (.cons (.ret (.some (.tup (.cons (.bin .add (.int 1) (.bin .mod (.var 0) (.int 4))) (.cons (.bin .add (.int 1) (.bin .mod (.bin .fdiv (.var 0) (.int 4)) (.int 5))) .nil))))) .nil))⟩
noncomputable def Aaz:MFun:=⟨2,0,(.cons (.ite (.cmp .eq (.bin .mod (.var 0) (.int 9)) (.int 8)) (.cons (.ret (.some .none)) .nil) .nil) (.cons (.ite (.cmp .eq (.var 1) (.int 4)) (.cons (.ret (.some (.int 5))) .nil) .nil) (.cons (.ite (.cmp .eq (.var 1) (.int 0)) (.cons (.ret (.some (.bin .mod (.bin .fdiv (.var 0) (.int 9)) (.int 3)))) .nil) .nil) (.cons (.ite (.cmp .eq (.var 1) (.int 1)) (.cons (.ret (.some (.bin .mod (.bin .fdiv (.var 0) (.int 9)) (.int 12)))) .nil) .nil) (.cons (.ite (.cmp .eq (.var 1) (.int 2)) (.cons (.ret (.some (.bin .mod (.bin .fdiv (.var 0) (.int 9)) (.int 1000000001)))) .nil) .nil) (.cons (.ret (.some (.bin .sub (.int 1000000000) (.bin .mod (.bin .fdiv (.var 0) (.int 9)) (.int 2))))) .nil))))))⟩
noncomputable def Oo:MFun:=⟨2,0,(.cons (.ite (.cmp .lt (.bin .add (.var 1) (.int 3)) (.bf .len (.cons (.var 0) .nil))) (.cons (.ret (.some (.sub (.var 0) (.bin .add (.var 1) (.int 3))))) .nil) .nil) (.cons (.ret (.some (.bin .add (.bin .add (.bin .mul (.int 7) (.call 8 (.cons (.var 0) (.cons (.int 1) .nil)))) (.bin .mul (.bin .mul (.call 8 (.cons (.var 0) (.cons (.int 2) .nil))) (.var 1)) (.var 1))) (.bin .mul (.int 13) (.var 1))))) .nil))⟩
noncomputable def Aa0:MFun:=⟨1,5,(.cons (.assign 1 (.call 10 (.cons (.call 8 (.cons (.var 0) (.cons (.int 0) .nil))) .nil))) (.cons (.assign 2 (.bin .mod (.call 8 (.cons (.var 0) (.cons (.int 1) .nil))) (.int 5))) (.cons (.assign 3 (.list .nil)) (.cons (.each 4 (.bf .range (.cons (.sub (.var 1) (.int 0)) .nil)) (.cons (.assign 5 (.comp (.call 12 (.cons (.var 0) (.cons (.bin .add (.bin .mul (.var 4) (.sub (.var 1) (.int 1))) (.var 6)) .nil))) (.bf .range (.cons (.sub (.var 1) (.int 1)) .nil)) .none)) zT17)) (.cons (.ret (.some (.var 3))) .nil)))))⟩
noncomputable def Aa1:MFun:=⟨2,6,(.cons (.assign 2 (.call 8 (.cons (.var 0) (.cons (.int 2) .nil)))) (.cons (.assign 3 (.sub (.list (.cons (.int 2) (.cons (.int 3) (.cons (.int 5) (.cons (.int 9) (.cons (.int 14) .nil)))))) (.bin .mod (.bin .fdiv (.var 2) (.int 60)) (.int 5)))) (.cons (.assign 4 (.list .nil)) (.cons (.each 5 (.bf .range (.cons (.bf .len (.cons (.var 1) .nil)) .nil)) (.cons (.each 6 (.bf .range (.cons (.bf .len (.cons (.sub (.var 1) (.int 0)) .nil)) .nil)) zT5) .nil)) (.cons (.ret (.some (.var 4))) .nil)))))⟩
noncomputable def Aa2:MFun:=⟨2,4,(.cons (.assign 2 (.comp (.bf .list (.cons (.var 6) .nil)) (.var 0) .none)) (.cons (.assign 3 (.new 7 (.cons (.var 2) .nil))) (.cons (.each 4 (.var 2) (.cons (.expr (.bm (.var 4) .clear .nil)) .nil)) (.cons (.each 5 (.var 1) (.cons (.expr (.umeth (.var 3) 3 (.cons (.var 5) .nil))) .nil)) (.cons (.ret (.some (.var 3))) .nil)))))⟩
noncomputable def Aa3:MFun:=⟨2,1,(.cons (.assign 2 (.list .nil)) (.cons (.ite (.cmp .gt (.sub (.var 1) (.int 0)) (.int 0)) (.cons (.expr (.bm (.var 2) .append (.cons (.tup (.cons (.bin .sub (.sub (.var 1) (.int 0)) (.int 1)) (.cons (.sub (.var 1) (.int 1)) .nil))) .nil))) .nil) .nil) (.cons (.ite (.cmp .gt (.sub (.var 1) (.int 1)) (.int 0)) (.cons (.expr (.bm (.var 2) .append (.cons (.tup (.cons (.sub (.var 1) (.int 0)) (.cons (.bin .sub (.sub (.var 1) (.int 1)) (.int 1)) .nil))) .nil))) .nil) .nil) (.cons (.ite (.cmp .lt (.bin .add (.sub (.var 1) (.int 1)) (.int 1)) (.bf .len (.cons (.sub (.var 0) (.int 0)) .nil))) (.cons (.expr (.bm (.var 2) .append (.cons (.tup (.cons (.sub (.var 1) (.int 0)) (.cons (.bin .add (.sub (.var 1) (.int 1)) (.int 1)) .nil))) .nil))) .nil) .nil) (.cons (.ite (.cmp .lt (.bin .add (.sub (.var 1) (.int 0)) (.int 1)) (.bf .len (.cons (.var 0) .nil))) (.cons (.expr (.bm (.var 2) .append (.cons (.tup (.cons (.bin .add (.sub (.var 1) (.int 0)) (.int 1)) (.cons (.sub (.var 1) (.int 1)) .nil))) .nil))) .nil) .nil) (.cons (.ret (.some (.comp (.var 3) (.var 2) (.some (.cmp .isNot (.sub (.sub (.var 0) (.sub (.var 3) (.int 0))) (.sub (.var 3) (.int 1))) .none))))) .nil))))))⟩
noncomputable def Aa4:MFun:=⟨2,0,(.cons (.expr (.call 19 (.cons (.var 0) .nil))) (.cons (.expr (.call 21 (.cons (.var 0) (.cons (.list (.cons (.tup (.cons (.var 1) (.cons (.int 1) .nil))) .nil)) .nil)))) (.cons (.expr (.call 7 (.cons (.var 0) (.cons (.var 1) .nil)))) (.cons (.tryx (.cons (.expr (.call 20 (.cons (.var 0) (.cons (.var 1) .nil)))) .nil) 5) .nil))))⟩
noncomputable def Aa5:MFun:=⟨3,0,(.cons (.expr (.umeth (.var 0) 1 (.cons (.var 1) .nil))) (.cons (.ite (.not (.call 4 (.cons (.var 2) .nil))) (.cons (.raise 2 "a height or None is wanted") .nil) .nil) (.cons (.setitem (.sub (.attr (.var 0) 2) (.sub (.var 1) (.int 0))) (.sub (.var 1) (.int 1)) (.var 2)) (.cons (.ite (.and (.cmp .is (.var 2) .none) (.cmp .isin (.var 1) (.attr (.var 0) 3))) zT20 .nil) .nil))))⟩
noncomputable def Aa6:MFun:=⟨1,1,(.cons (.assign 1 (.sub (.call 6 (.cons (.var 0) .nil)) (.int 0))) (.cons (.ret (.some (.comp (.comp (.bm (.var 1) .get (.cons (.tup (.cons (.var 2) (.cons (.var 3) .nil))) .nil)) (.bf .range (.cons (.attr (.var 0) 1) .nil)) .none) (.bf .range (.cons (.attr (.var 0) 0) .nil)) .none))) .nil))⟩
noncomputable def Aa7:MFun:=⟨2,2,(.cons (.ite (.not (.call 1 (.cons (.attr (.var 0) 0) (.cons (.attr (.var 0) 1) (.cons (.var 1) .nil))))) (.cons (.raise 3 "no such cell") .nil) .nil) (.cons (.assign 2 (.sub (.call 6 (.cons (.var 0) .nil)) (.int 1))) (.cons (.ite (.cmp .notin (.var 1) (.var 2)) (.cons (.raise 5 "no way leads out") .nil) .nil) (.cons (.assign 3 (.list (.cons (.var 1) .nil))) (.cons (.loop (.cmp .isNot (.sub (.var 2) (.sub (.var 3) (.neg (.int 1)))) .none) zT18) (.cons (.ret (.some (.var 3))) .nil))))))⟩
noncomputable def Aa8:MFun:=⟨2,7,(.cons (.expr (.call 35 (.cons (.var 0) (.cons (.var 1) .nil)))) (.cons (.assign 2 (.sub (.call 6 (.cons (.var 0) .nil)) (.int 1))) (.cons (.assign 3 .dict) (.cons (.each 4 (.umeth (.var 0) 4 .nil) (.cons (.setitem (.var 3) (.var 4) (.int 0)) .nil)) (.cons (.assign 5 (.int 0)) (.cons (.eachPair 6 7 (.var 1) (.cons (.ite (.cmp .isin (.var 6) (.var 2)) (.cons (.assign 8 (.var 6)) (.cons (.loop (.cmp .isNot (.sub (.var 2) (.var 8)) .none) (.cons (.assign 8 (.sub (.var 2) (.var 8))) .nil)) (.cons (.setitem (.var 3) (.var 8) (.bin .add (.sub (.var 3) (.var 8)) (.var 7))) .nil))) (.cons (.assign 5 (.bin .add (.var 5) (.var 7))) .nil)) .nil)) (.cons (.ret (.some (.tup (.cons (.comp (.tup (.cons (.var 9) (.cons (.sub (.var 3) (.var 9)) .nil))) (.umeth (.var 0) 4 .nil) .none) (.cons (.var 5) .nil))))) .nil)))))))⟩
noncomputable def Aa9:MFun:=⟨1,11,(.cons (.assign 1 (.call 13 (.cons (.var 0) .nil))) (.cons (.assign 2 (.call 14 (.cons (.var 0) (.cons (.var 1) .nil)))) (.cons (.assign 3 (.call 15 (.cons (.var 1) (.cons (.var 2) .nil)))) (.cons (.assign 4 (.bin .fdiv (.call 8 (.cons (.var 0) (.cons (.int 2) .nil))) (.int 7))) (.cons (.assign 5 (.tup (.cons (.bin .mod (.var 4) (.bf .len (.cons (.var 1) .nil))) (.cons (.bin .mod (.bin .fdiv (.var 4) (.int 31)) (.bf .len (.cons (.sub (.var 1) (.int 0)) .nil))) .nil)))) (.cons (.expr (.call 17 (.cons (.var 3) (.cons (.var 5) .nil)))) (.cons (.assign 6 (.call 16 (.cons (.var 1) (.cons (.var 5) .nil)))) (.cons (.ite (.and (.cmp .ne (.var 6) (.list .nil)) (.cmp .gt (.bin .mod (.bin .fdiv (.call 8 (.cons (.var 0) (.cons (.int 1) .nil))) (.int 20)) (.int 3)) (.int 0))) zT7 .nil) (.cons (.each 8 (.slice (.var 0) (.some (.bin .sub (.bf .len (.cons (.var 0) .nil)) (.bin .mod (.bin .fdiv (.call 8 (.cons (.var 0) (.cons (.int 1) .nil))) (.int 4)) (.int 5)))) .none) zT19) (.cons (.assign 9 (.call 19 (.cons (.var 3) .nil))) (.cons (.ite (.or (.not (.isinst (.var 9) .list)) (.cmp .ne (.bf .len (.cons (.var 9) .nil)) (.bf .len (.cons (.var 1) .nil)))) (.cons (.ret (.some (.bool false))) .nil) .nil) (.cons (.each 10 (.var 9) zT13) (.cons (.each 11 (.tup (.cons (.int 0) (.cons (.int 3) .nil))) zT4) (.cons (.ret (.some (.and (.cmp .eq (.umeth (.var 3) 5 .nil) (.var 1)) (.cmp .eq (.umeth (.var 3) 4 .nil) (.bf .sorted (.cons (.var 2) .nil)))))) .nil))))))))))))))⟩
noncomputable def Aba:MFun:=⟨2,2,(.cons (.expr (.call 5 (.cons (.var 1) .nil))) (.cons (.each 2 (.var 1) zT16) (.cons (.setattr (.var 0) 0 (.bf .len (.cons (.var 1) .nil))) (.cons (.setattr (.var 0) 1 (.bf .len (.cons (.sub (.var 1) (.int 0)) .nil))) (.cons (.setattr (.var 0) 2 (.comp (.bf .list (.cons (.var 4) .nil)) (.var 1) .none)) (.cons (.setattr (.var 0) 3 .dict) .nil))))))⟩
noncomputable def Wb:MFun:=⟨2,0,(.cons (.ite (.not (.call 1 (.cons (.attr (.var 0) 0) (.cons (.attr (.var 0) 1) (.cons (.var 1) .nil))))) (.cons (.raise 3 "no such cell") .nil) .nil) .nil)⟩
noncomputable def Wc:MFun:=⟨2,0,(.cons (.expr (.umeth (.var 0) 1 (.cons (.var 1) .nil))) (.cons (.ret (.some (.sub (.sub (.attr (.var 0) 2) (.sub (.var 1) (.int 0))) (.sub (.var 1) (.int 1))))) .nil))⟩
noncomputable def We:MFun:=⟨2,0,(.cons (.expr (.umeth (.var 0) 1 (.cons (.var 1) .nil))) (.cons (.ite (.cmp .is (.sub (.sub (.attr (.var 0) 2) (.sub (.var 1) (.int 0))) (.sub (.var 1) (.int 1))) .none) (.cons (.raise 4 "stone is no drain") .nil) .nil) (.cons (.setitem (.attr (.var 0) 3) (.var 1) (.bool true)) .nil)))⟩
noncomputable def Wf:MFun:=⟨1,0,(.cons (.ret (.some (.comp (.var 1) (.call 3 (.cons (.attr (.var 0) 0) (.cons (.attr (.var 0) 1) .nil))) (.some (.cmp .isin (.var 1) (.attr (.var 0) 3)))))) .nil)⟩
noncomputable def Wg:MFun:=⟨1,0,(.cons (.ret (.some (.comp (.bf .list (.cons (.var 1) .nil)) (.attr (.var 0) 2) .none))) .nil)⟩
noncomputable def Wh:MFun:=⟨1,0,(.cons (.setattr (.var 0) 4 (.list .nil)) .nil)⟩
noncomputable def Abb:MFun:=⟨2,4,(.cons (.assign 2 (.attr (.var 0) 4)) (.cons (.expr (.bm (.var 2) .append (.cons (.var 1) .nil))) (.cons (.assign 3 (.bin .sub (.bf .len (.cons (.var 2) .nil)) (.int 1))) (.cons (.loop (.and (.cmp .gt (.var 3) (.int 0)) (.cmp .lt (.sub (.var 2) (.var 3)) (.sub (.var 2) (.bin .fdiv (.bin .sub (.var 3) (.int 1)) (.int 2))))) zT9) .nil))))⟩
noncomputable def Ag3:MFun:=⟨1,0,(.cons (.ite (.cmp .eq (.bf .len (.cons (.attr (.var 0) 4) .nil)) (.int 0)) (.cons (.ret (.some .none)) .nil) .nil) (.cons (.ret (.some (.sub (.attr (.var 0) 4) (.int 0)))) .nil))⟩
noncomputable def Abc:MFun:=⟨1,3,(.cons (.assign 1 (.attr (.var 0) 4)) (.cons (.ite (.cmp .eq (.bf .len (.cons (.var 1) .nil)) (.int 0)) (.cons (.ret (.some .none)) .nil) .nil) (.cons (.assign 2 (.sub (.var 1) (.int 0))) (.cons (.assign 3 (.bm (.var 1) .pop .nil)) (.cons (.ite (.cmp .gt (.bf .len (.cons (.var 1) .nil)) (.int 0)) (.cons (.setitem (.var 1) (.int 0) (.var 3)) (.cons (.expr (.umeth (.var 0) 9 .nil)) .nil)) .nil) (.cons (.ret (.some (.var 2))) .nil))))))⟩
noncomputable def Abd:MFun:=⟨1,6,(.cons (.assign 1 (.attr (.var 0) 4)) (.cons (.assign 2 (.int 0)) (.cons (.assign 3 (.bool true)) (.cons (.loop (.var 3) (.cons (.assign 4 (.var 2)) (.cons (.each 5 (.list (.cons (.bin .add (.bin .mul (.int 2) (.var 2)) (.int 1)) (.cons (.bin .add (.bin .mul (.int 2) (.var 2)) (.int 2)) .nil))) zT14) zT11))) .nil))))⟩
noncomputable def Wi:MFun:=⟨1,0,(.cons (.ret (.some (.bf .len (.cons (.attr (.var 0) 4) .nil)))) .nil)⟩
noncomputable def Abe:MFun:=⟨2,1,(.cons (.each 2 (.var 1) (.cons (.ite (.or (.not (.isinst (.var 2) .tuple)) (.cmp .ne (.bf .len (.cons (.var 2) .nil)) (.int 2))) (.cons (.raise 6 "a pair is wanted") .nil) .nil) (.cons (.ite (.not (.call 1 (.cons (.attr (.var 0) 0) (.cons (.attr (.var 0) 1) (.cons (.sub (.var 2) (.int 0)) .nil))))) (.cons (.raise 3 "no such cell") .nil) .nil) (.cons (.ite (.not (.call 0 (.cons (.sub (.var 2) (.int 1)) (.cons (.int 0) (.cons (.glob 2) .nil))))) (.cons (.raise 6 "an amount is wanted") .nil) .nil) .nil)))) .nil)⟩
noncomputable def Abf:MFun:=⟨2,0,(.cons (.expr (.umeth (.var 0) 1 (.cons (.var 1) .nil))) (.cons (.ite (.cmp .notin (.var 1) (.attr (.var 0) 3)) (.cons (.raise 4 "no drain") .nil) .nil) zT20))⟩
noncomputable def Abg:MFun:=⟨4,3,(.cons (.assign 4 (.tup (.cons (.bin .mod (.bin .fdiv (.var 3) (.int 4)) (.bf .len (.cons (.var 1) .nil))) (.cons (.bin .mod (.bin .fdiv (.var 3) (.int 124)) (.bf .len (.cons (.sub (.var 1) (.int 0)) .nil))) .nil)))) (.cons (.assign 5 (.sub (.sub (.var 1) (.sub (.var 4) (.int 0))) (.sub (.var 4) (.int 1)))) (.cons (.ite (.and (.cmp .eq (.bin .mod (.var 3) (.int 4)) (.int 0)) (.cmp .isNot (.var 5) .none)) (.cons (.expr (.umeth (.var 0) 3 (.cons (.var 4) .nil))) (.cons (.ite (.cmp .notin (.var 4) (.var 2)) (.cons (.expr (.bm (.var 2) .append (.cons (.var 4) .nil))) .nil) .nil) .nil)) (.cons (.ite (.and (.cmp .eq (.bin .mod (.var 3) (.int 4)) (.int 1)) (.cmp .isin (.var 4) (.var 2))) (.cons (.expr (.umeth (.var 0) 12 (.cons (.var 4) .nil))) (.cons (.expr (.bm (.var 2) .remove (.cons (.var 4) .nil))) .nil)) zT2) .nil)) .nil)))⟩
noncomputable def Abh:MFun:=⟨4,4,(.cons (.ite (.or (.not (.isinst (.var 2) .list)) (.or (.cmp .eq (.bf .len (.cons (.var 2) .nil)) (.int 0)) (.cmp .notin (.sub (.var 2) (.neg (.int 1))) (.var 1)))) (.cons (.ret (.some (.bool false))) .nil) .nil) (.cons (.assign 4 .none) (.cons (.eachEnum 5 6 (.var 2) zT1) (.cons (.ret (.some (.bool true))) .nil))))⟩
noncomputable def Abi:MFun:=⟨5,2,(.cons (.ite (.or (.not (.isinst (.var 2) .list)) (.cmp .notin (.var 3) (.var 2))) (.cons (.ret (.some (.bool false))) .nil) .nil) (.cons (.each 5 (.var 2) (.cons (.ite (.or (.cmp .isin (.var 5) (.var 1)) (.cmp .is (.sub (.sub (.var 0) (.sub (.var 5) (.int 0))) (.sub (.var 5) (.int 1))) .none)) (.cons (.ret (.some (.bool false))) .nil) .nil) (.cons (.ite (.and (.cmp .isNot (.var 4) .none) (.cmp .ge (.sub (.sub (.var 0) (.sub (.var 5) (.int 0))) (.sub (.var 5) (.int 1))) (.var 4))) (.cons (.ret (.some (.bool false))) .nil) .nil) (.cons (.each 6 (.call 16 (.cons (.var 0) (.cons (.var 5) .nil))) (.cons (.ite (.and (.cmp .notin (.var 6) (.var 2)) (.or (.cmp .is (.var 4) .none) (.cmp .lt (.sub (.sub (.var 0) (.sub (.var 6) (.int 0))) (.sub (.var 6) (.int 1))) (.var 4)))) (.cons (.ret (.some (.bool false))) .nil) .nil) .nil)) .nil)))) (.cons (.ret (.some (.bool true))) .nil)))⟩
noncomputable def Abj:MFun:=⟨4,1,(.cons (.assign 4 (.tup (.cons (.comp (.tup (.cons (.var 5) (.cons (.bf .int (.cons (.cmp .eq (.var 5) (.var 3)) .nil)) .nil))) (.bf .sorted (.cons (.var 1) .nil)) .none) (.cons (.bf .int (.cons (.cmp .is (.var 3) .none) .nil)) .nil)))) (.cons (.ret (.some (.cmp .eq (.call 21 (.cons (.var 0) (.cons (.list (.cons (.tup (.cons (.var 2) (.cons (.int 1) .nil))) .nil)) .nil))) (.var 4)))) .nil))⟩
noncomputable def Abk:MFun:=⟨5,3,(.cons (.assign 5 (.sub (.sub (.var 1) (.sub (.var 3) (.int 0))) (.sub (.var 3) (.int 1)))) (.cons (.assign 6 (.sub (.sub (.var 4) (.sub (.var 3) (.int 0))) (.sub (.var 3) (.int 1)))) (.cons (.ite (.cmp .is (.var 5) .none) (.cons (.ret (.some (.and (.cmp .is (.var 6) .none) (.cmp .eq (.call 7 (.cons (.var 0) (.cons (.var 3) .nil))) (.list .nil))))) .nil) .nil) (.cons (.ite (.cmp .is (.var 6) .none) (.cons (.ite (.not (.call 40 (.cons (.var 0) (.cons (.var 2) (.cons (.var 3) (.cons .none .nil)))))) (.cons (.ret (.some (.bool false))) .nil) .nil) (.cons (.ret (.some (.call 39 (.cons (.var 1) (.cons (.var 2) (.cons (.call 7 (.cons (.var 0) (.cons (.var 3) .nil))) (.cons (.var 3) (.cons .none .nil)))))))) .nil)) .nil) (.cons (.assign 7 (.call 20 (.cons (.var 0) (.cons (.var 3) .nil)))) (.cons (.ite (.or (.not (.call 9 (.cons (.var 6) .nil))) (.or (.cmp .lt (.var 6) (.var 5)) (.or (.not (.call 38 (.cons (.var 1) (.cons (.var 2) (.cons (.var 7) (.cons (.var 4) .nil)))))) (.cmp .ne (.sub (.var 7) (.int 0)) (.var 3))))) (.cons (.ret (.some (.bool false))) .nil) .nil) (.cons (.ite (.or (.and (.cmp .gt (.bf .len (.cons (.var 7) .nil)) (.int 1)) (.cmp .ne (.call 20 (.cons (.var 0) (.cons (.sub (.var 7) (.int 1)) .nil))) (.slice (.var 7) (.some (.int 1)) .none))) (.not (.call 40 (.cons (.var 0) (.cons (.var 2) (.cons (.var 3) (.cons (.sub (.var 7) (.neg (.int 1))) .nil))))))) (.cons (.ret (.some (.bool false))) .nil) .nil) (.cons (.ret (.some (.or (.cmp .eq (.var 6) (.var 5)) (.call 39 (.cons (.var 1) (.cons (.var 2) (.cons (.call 7 (.cons (.var 0) (.cons (.var 3) .nil))) (.cons (.var 3) (.cons (.var 6) .nil))))))))) .nil))))))))⟩
noncomputable def T_14:Tab:=⟨[V9,Wa,Ad6,Ag1,Ad7,Ad8,Ag2,Ad9,Aea,Aeb,On,Aaz,Oo,Aa0,Aa1,Aa2,Aa3,Aa4,Aa5,Aa6,Aa7,Aa8,Aa9,Aba,Wb,Wc,We,Wf,Wg,Wh,Abb,Ag3,Abc,Abd,Wi,Abe,Abf,Abg,Abh,Abi,Abj,Abk],[[],[],[],[],[],[],[],[(11,18),(0,23),(1,24),(2,25),(3,26),(4,27),(5,28),(12,36)],[(0,29),(6,30),(7,31),(8,32),(9,33),(10,34)],[]],5,[.int 30,.int 1000000000,.int 1000000000]⟩
noncomputable def N_14:Names:=⟨[("whole",0),("lies_in",1),("beside",2),("all_cells",3),("is_height",4),("look_at_rows",5),("flood",6),("held_by",7),("_law_cell_at",8),("_law_whole",9),("_law_size",10),("_law_height_by",11),("_law_number",12),("_law_grid",13),("_law_drains",14),("_law_land",15),("_law_beside",16),("_law_asked",17),("levels",19),("way_out",20),("runoff",21),("law",22),("look_at_rain",35),("_law_change",37),("_law_is_way",38),("_law_holds",39),("_law_runs",40),("_law_is_least",41)],[("LandError",0),("NoLand",1),("NoHeight",2),("NoCell",3),("NoDrain",4),("NoWay",5),("NoRain",6),("Land",7),("Pile",8),("ValueError",9)],[("MOST_SIDE",0),("MOST_HEIGHT",1),("MOST_AMOUNT",2)],[("rows",0),("columns",1),("grid",2),("sinks",3),("heap",4)],[("__init__",0),("look_at",1),("height",2),("opened",3),("drains",4),("heights",5),("put",6),("least",7),("take",8),("sink",9),("many",10),("raised",11),("shut",12)]⟩
noncomputable def V_14:List (List Str):=([["thing","low","high"],["rows","columns","cell"],["rows","columns","cell","row","column","near"],["rows","columns","found","row","column"],["thing"],["heights","row"],["land","found","goals","pile","cell","here","high","level"],["land","cell","level","seen","row","here","one","high"],["_law_script","_law_k"],["_law_found"],["_law_cell"],["_law_number_here","_law_kind"],["_law_script","_law_k"],["_law_script","_law_size_here","_law_kind","_law_rows","_law_row","_law_numbers"],["_law_script","_law_rows","_law_cell","_law_every","_law_found","_law_row","_law_column","_law_at"],["_law_rows","_law_drains_here","_law_given","_law_land_here","_law_row","_law_cell"],["_law_rows","_law_cell","_law_found"],["_law_land_here","_law_cell"],["self","cell","height"],["land","found"],["land","cell","goals","found"],["land","rain","goals","amounts","drain","stays","cell","amount","here"],["_law_script","_law_rows","_law_drains_here","_law_land_here","_law_number_here","_law_first","_law_near","_law_place","_law_cell","_law_found","_law_one","_law_step"],["self","heights","row","one"],["self","cell"],["self","cell"],["self","cell"],["self"],["self"],["self"]]:List (List Str)).append ([["self","value","heap","at","above","kept"],["self"],["self","heap","found","last"],["self","heap","at","going","small","below","kept"],["self"],["land","rain","pair"],["self","cell"],["_law_land_here","_law_rows","_law_drains_here","_law_cell","_law_place","_law_own","_law_height"],["_law_rows","_law_drains_here","_law_found","_law_table","_law_most","_law_k","_law_one","_law_level"],["_law_rows","_law_drains_here","_law_found","_law_cell","_law_level","_law_one","_law_other"],["_law_land_here","_law_drains_here","_law_cell","_law_end","_law_due"],["_law_land_here","_law_rows","_law_drains_here","_law_cell","_law_table","_law_own","_law_level","_law_way"]]:List (List Str))
end Mine.Internal
namespace Mine.Internal.Pure
open PySem Pile
section
theorem K8(h:H[i]?=some (.inst c fs))(hf:fs.lookup n=some v):Wp (Jt (.loc i) n) H Q E=Q v H:=by
 have:Jt (.loc i) n H=.ok v H:=by unfold Jt;rw [Dl];simp only [h,hf]
 unfold Wp;exact rwl this rfl
theorem Fd{k:Int}{Q:Unit->Hp->Prop}(h:H[l]?=some (.list xs))(h0:0<=k)(h1:k < xs.length):Wp (Av (.loc l) (.int k) v) H Q E=Q () (H.set l (.list (xs.set k.toNat v))):=by
 have:Av (.loc l) (.int k) v H=.ok () (H.set l (.list (xs.set k.toNat v))):=by unfold Av;simp only [h];exact if_pos ⟨h0,h1⟩
 unfold Wp;exact rwl this rfl
theorem Nl(h:H[l]?=some (.list xs))(h0:0<=k)(hk:xs[k.toNat]?=some v):Wp (Dh (.loc l) (.int k)) H Q E=Q v H:=by
 have lt:=(aE.mp hk).1;have:Dh (.loc l) (.int k) H=.ok v H:=by unfold Dh;rw [Dl];simp only [h,Oj k xs.length h0 ((iF h0).mp lt),iJ,hk]
 unfold Wp;exact rwl this rfl
theorem G5(I:Nat->Env'->Hp->Prop)(hn:n < Pd)(h:I n Γ H)
 (step:∀ n Γ H,I n Γ H->wpE T Φ c Γ H (fun v H'=>E1 v fun b=>brB b (wpSs T Φ body Γ H' (fun Γ' H''=>∃ m,m < n/\I m Γ' H'') R NoX) (QS Γ H')) NoE):wpS T Φ (.loop c body) Γ H QS R ES:=by
 have main:∀ (f n:Nat) (Γ:Env') (H:Hp),n < f->I n Γ H->WpS (Jn (fun Γ=>(Aj T Φ c Γ).bnd Di) (execSs T Φ body) f Γ H) QS R ES:=by
  intro f;induction f with
  | zero=>intro n Γ H l;exact (Am2 l).elim
  | succ f ih =>
   intro n Γ H l hI;have w:=step n Γ H hI;rw [<- Bb] at w;have w':Wp ((Aj T Φ c Γ).bnd Di) H (fun b H'=>brB b (wpSs T Φ body Γ H' (fun Γ' H''=>∃ m,m < n/\I m Γ' H'') R NoX) (QS Γ H')) NoE:=by rw [Aw];simp only [Iq];exact w
   refine ex2 w'.get fun b H' zz=>Ad zz fun e q=>?_;refine rwl Ke ?_;refine rwl e ?_;cases b with
   | false=>exact q
   | true =>
    dsimp only;have q':wpSs T Φ body Γ H' (fun Γ' H''=>∃ m,m < n/\I m Γ' H'') R NoX:=q;rw [<- wpSs_eq] at q';cases hb:execSs T Φ body Γ H' with
    | bad=>rw [hb] at q';exact q'.elim
    | exc c' Γ2 H2=>rw [hb] at q';exact q'.elim
    | ret v H2=>rw [hb] at q';exact q'
    | next Γ2 H2 =>rw [hb] at q';refine ex1 q' fun m zz=>Ad zz fun lm hm=>?_;exact ih m Γ2 H2 (aA lm (bK l)) hm
 exact main Pd n Γ H hn h
end
theorem Wj(h:Γ[i]?=some (some v)):Ti Γ i k=k v:=by rw [Fr];refine rwl h ?_;rfl
theorem wvr(h:Γ[i]?=some (some v)):wpE T Φ (.var i) Γ H Q E=Q v H:=Wj h
theorem wcv(h:Γ[i]?=some (some v)):wpEs T Φ (.cons (.var i) es) Γ H Q E=wpEs T Φ es Γ H (fun vs H=>Q (v :: vs) H) E:=Wj h
theorem wsv(h:Γ[i]?=some (some v))(k:Γ[j]?=some (some w)):wpE T Φ (.sub (.var i) (.var j)) Γ H Q E=Wp (Dh v w) H Q E:=by rw [Bd];exact rwl (wvr h) (rwl (wvr k) rfl)
theorem wbf(h:Γ[i]?=some (some v)):wpE T Φ (.bf f (.cons (.var i) .nil)) Γ H Q E=Wp (bfV f [v]) H Q E:=by rw [Fs];exact rwl (wcv h) (rwl A3 rfl)
theorem wat(h:Γ[i]?=some (some (.loc o)))(f0:H[o]?=some (.inst c fs))(f1:fs.lookup n=some v):wpE T Φ (.attr (.var i) n) Γ H Q E=Q v H:=by rw [Eg];exact rwl (wvr h) (rwl (K8 f0 f1) rfl)
theorem Ag4(k:Nat)(h:0 < k):cR ((k:Int) - 1) 2=((par k:Nat):Int):=by
 have:((k:Int) - 1)=((k - 1:Nat):Int):=by exact (Int.ofNat_sub h).symm
 refine rwl this (rwl (Int.fdiv_eq_ediv_of_nonneg _ (by decide)) ?_);unfold par;exact rfl
theorem Abl(ha:DC a)(hb:DC b):De (Cu .lt a b H) k=k (klt a b):=Bj (show Cu .lt a b H=some (klt a b) from Aja ha hb) k
theorem Nm(H:Hp)(l:Nat)(a b:HObj):(H.set l a).set l b=H.set l b:=oN ..
theorem Fe{α β γ:Type}(p:α->β->γ->Prop):∃ q:α->β->γ->Prop,∀ a b c,q a b c↔p a b c:=⟨p,fun _ _ _=>oX⟩
inductive UInv(H:Hp)(l:Nat)(x0 x1:Val)(zs tg:List Val):Nat->Env'->Hp->Prop
 | mk {n:Nat} (ys:List Val) (a b:Option Val) (hp:ys.Perm zs) (hn:n < ys.length) (f:Nat) (hf:n<=f) (hu:upF f ys n=tg):UInv H l x0 x1 zs tg n [some x0,some x1,some (.loc l),some (.int (n:Nat)),a,b] (H.set l (.list ys))
theorem Aec(g:H[l]?=some (.list ys))(hpos:0 < n)(hx:ys[n]?=some x)(hy:ys[par n]?=some y)
 (q:QS [some x0,some x1,some (.loc l),some (.int (par n:Nat)),some (.int (par n:Nat)),some y] (H.set l (.list ((ys.set (par n) x).set n y)))) :
 wpSs T Φ zT9
  [some x0,some x1,some (.loc l),some (.int (n:Nat)),a,b] H QS R NoX:=by
 have ln:=(aE.mp hx).1;have lp:=(aE.mp hy).1;have hxn:ys[((n:Nat):Int).toNat]?=some x:=hx;have hyn:ys[((par n:Nat):Int).toNat]?=some y:=hy;refine ⟨by decide,?_⟩;show Wp (Dh (.loc l) (.int (cR ((n:Int) - 1) 2))) H _ _;refine rwl (Ag4 n hpos) (rwl (Nl g Mr hyn) ?_);show Wp (Dh (.loc l) (.int (n:Int))) H _ _;refine rwl (Nl g (bE _) hxn) ?_;show Wp (Av (.loc l) (.int (par n:Int)) x) H _ _;refine rwl (Fd g Mr (Xg lp)) ?_;show Wp (Av (.loc l) (.int (n:Int)) y) _ _ _;refine rwl (Fd (Bl _ g) (bE _) (by rw [bW];exact Xg ln)) ?_;rw [Nm,bC,bC];exact q
theorem Wk(d:Nat)(hi:H[i]?=some (.inst 8 [(4,.loc l)]))(hl:H[l]?=some (.list xs))(hD:∀ x∈xs,DC x)(hv:DC v)(hn:xs.length < 100000) :
 Wp (Ag T_14 (d+1) 30 [.loc i,v]) H (fun r H'=>r=.none/\∃ ys,H'=H.set l (.list ys)/\ys.Perm (xs++[v])/\Aay xs v=ys) NoE:=by
 have hlid:lid=16777216:=rfl;have hDz:∀ x∈xs++[v],DC x:=fun x hx=>by
  rcases bM.mp hx with h | h
  . exact hD x h
  . cases aT.mp h;exact hv
 refine rwl (Aq (g:=Abb) rfl rfl) ?_;refine Ak (fun w K=>w=.loc l/\H=K) ?_ ?_
 . show Wp (Jt (.loc i) 4) H _ _;refine rwl (K8 hi (show fT 4 [(4,Val.loc l)]=some (.loc l) from rfl)) ?_;exact ⟨rfl,rfl⟩
 rintro _ _ ⟨rfl,rfl⟩;refine Dp (fun K=>K=H.set l (.list (xs++[v]))) ?_ ?_
 . refine Dz rfl hl ?_;exact ⟨xs,hl,by exact Afc hn hlid,rfl⟩
 rintro _ rfl;refine Ak (fun w K=>w=.int (xs.length:Nat)/\H.set l (.list (xs++[v]))=K) ?_ ?_
 . show Wp (bfV .len [.loc l]) _ _ _;refine rwl (As (Bl _ hl)) (rwl aK ?_);exact ⟨congrArg Val.int (by show ((xs.length+1:Nat):Int) - 1=_;exact Aj5),rfl⟩
 rintro _ _ ⟨rfl,rfl⟩;obtain ⟨I,hI⟩:=Fe (UInv H l (.loc i) v (xs++[v]) (Aay xs v));refine G5 I (n:=xs.length) (aR hn (by decide)) ((hI _ _ _).mpr (.mk (xs++[v]) _ _ (jE _) (by simp) _ (aN _) rfl)) ?_;clear hi hv hD;intro n Γ K h;obtain ⟨ys,a,b,hperm,hlt,f,hf,hu⟩:=(hI _ _ _).mp h;have g:(H.set l (.list ys))[l]?=some (.list ys):=Bl _ hl;refine By (fun hpos=>?_) (fun hz=>?_)
 . have hpos':0 < n:=by exact eM.mp hpos
   have hpl:=Aaw hpos';obtain ⟨x,hx⟩:∃ x,ys[n]?=some x:=⟨_,aI hlt⟩;obtain ⟨y,hy⟩:∃ y,ys[par n]?=some y:=⟨_,aI (aR hpl hlt)⟩;have hDy:∀ x∈ys,DC x:=fun x hx=>hDz x (hperm.mem_iff.mp hx);show Wp (Dh (.loc l) (.int (n:Int))) _ _ _;refine rwl (Nl g (iG hpos) (show ys[((n:Nat):Int).toNat]?=some x from hx)) ?_;refine ⟨by decide,?_⟩;show Wp (Dh (.loc l) (.int (cR ((n:Int) - 1) 2))) _ _ _;refine rwl (Ag4 n hpos') (rwl (Nl g Mr (show ys[((par n:Nat):Int).toNat]?=some y from hy)) ?_);show De (Cu .lt x y _) _;refine rwl (Abl (hDy x (aH hx)) (hDy y (aH hy))) ?_;refine Dm (fun hlt'=>?_) (fun hge=>?_)
   . refine Aec g hpos' hx hy ⟨par n,hpl,(hI _ _ _).mpr ?_⟩;rw [Nm];refine ex1 (Ajb hf hpos' hx hy hlt') fun f' zz=>Ad zz fun e' hf'=>?_;exact .mk (swap ys (par n) n y x) _ _ ((Om hy hx).trans hperm) (by rw [Nk];exact aR hpl hlt) f' hf' (e'▸hu)
   . exact ⟨rfl,ys,rfl,hperm,hu.symm.trans (V7 (.inr (by refine rwl (J5 hx hy) ?_;exact hge)))⟩
 . exact ⟨rfl,ys,rfl,hperm,hu.symm.trans (V7 (.inl (pP.mp (aW.mp fun w=>hz (eM.mpr w)))))⟩
structure Only(l:Nat)(H H':Hp):Prop where
 keep:∀ m o,m≠l->H[m]?=some o->H'[m]?=some o
 len:H.length<=H'.length
theorem Only.refl(l:Nat)(H:Hp):Only l H H:=⟨fun _ _ _ h=>h,aN _⟩
theorem Only.trans(a:Only l H H1)(b:Only l H1 H2):Only l H H2:=⟨fun m o n h=>b.keep m o n (a.keep m o n h),aC a.len b.len⟩
theorem Only.set(a:Only l H H')(o:HObj):Only l H (H'.set l o):=⟨fun m ob n h=>by refine rwl (cB (fun q=>n q.symm)) ?_;exact a.keep m ob n h,by refine rwl bW ?_;exact a.len⟩
theorem Only.new(a:Only l H H')(o:HObj):Only l H (H'++[o]):=⟨fun m ob n h=>by have:=a.keep m ob n h;refine rwl (bB (A4 this)) ?_;exact this,by refine rwl aK ?_;have:=a.len;exact aC this (aG _ _)⟩
structure Small(ys:List Val)(k m:Nat)(x:Val):Prop where
 at':ys[m]?=some x
 one:m=k\/k < m
section
theorem Ag5(hg:H[l]?=some (.list ys))(hD:∀ x∈ys,DC x)(hsm:Small ys k m xm)
 (q:∀ x,Small ys k (pk ys (2 * k+1+j) m) x->QS [x0,some (.loc l),x2,x3,some (.int (pk ys (2 * k+1+j) m:Nat)),some (.int ((2 * k+1+j:Nat):Int)),x6] H) :
 wpSs T_14 Φ zT14
  [x0,some (.loc l),x2,x3,some (.int (m:Nat)),some (.int ((2 * k+1+j:Nat):Int)),x6] H QS R NoX:=by
 simp only [↓Ah,↓Ba,↓Cn,↓Cl,↓Cy,↓Au,↓Fs,↓Am,↓A3,↓A2,↓Bd,↓D9,↓Ai,↓At];refine rwl (As hg) ?_;refine By (fun hlt=>?_) (fun hge=>?_)
 . obtain ⟨z,hz⟩:∃ z,ys[2 * k+1+j]?=some z:=⟨_,aI (bS.mp hlt)⟩;refine rwl (Nl hg (v:=z) (bE _) (by skip;exact hz)) (rwl (Nl hg (v:=xm) Mr (by skip;exact hsm.at')) (rwl (Abl (hD z (aH hz)) (hD xm (aH hsm.at'))) ?_));refine Dm (fun h1=>?_) (fun h1=>?_)
   . rw [Agz (by refine rwl (J5 hz hsm.at') ?_;exact h1)] at q;exact q _ ⟨hz,.inr Am3⟩
   . rw [Ag0 (by refine rwl (J5 hz hsm.at') ?_;exact h1)] at q;exact q _ hsm
 . rw [Ag0 (Zm (fun z=>cA _ (aB (aW.mp fun z=>hge (bS.mpr z)) z)))] at q;exact q _ hsm
theorem Aed(hg:H[l]?=some (.list ys))(hD:∀ x∈ys,DC x)(hxk:ys[k]?=some xk)
 (q:∀ x b',Small ys k (pks ys k 2) x->QS [x0,some (.loc l),some (.int (k:Nat)),x3,some (.int (pks ys k 2:Nat)),b',x6] (H++[.list [.int (2 * (k:Int)+1),.int (2 * (k:Int)+2)]])) :
 wpS T_14 Φ (.each 5 (.list (.cons (.bin .add (.bin .mul (.int 2) (.var 2)) (.int 1)) (.cons (.bin .add (.bin .mul (.int 2) (.var 2)) (.int 2)) .nil))) zT14) [x0,some (.loc l),some (.int (k:Nat)),x3,some (.int (k:Nat)),x5,x6] H QS R NoX:=by
 apply Dn;simp only [↓E4,↓Am,↓A3,↓Dd,↓A7,↓A2,↓D9,↓Ai,↓At,↓Gm,↓Kx];refine ⟨rfl,rfl,?_⟩;rw [Bj (Bs (Ao _ _))];have g2:(H++[.list [.int (2 * (k:Int)+1),.int (2 * (k:Int)+2)]])[l]?=some (.list ys):=(Ext.refl H |>.new _).get hg;have gn:=Ao H (.list [.int (2 * (k:Int)+1),.int (2 * (k:Int)+2)]);generalize (H++[HObj.list [Val.int (2 * (k:Int)+1),Val.int (2 * (k:Int)+2)]])=H1 at *
 obtain ⟨I,hI⟩:=Fe (fun (j:Nat) (Γ:Env') (H2:Hp)=>H2=H1/\∃ x b',Γ=[x0,some (.loc l),some (.int (k:Nat)),x3,some (.int (pks ys k j:Nat)),b',x6]/\Small ys k (pks ys k j) x);refine B9 I ((hI _ _ _).mpr ⟨rfl,xk,x5,rfl,hxk,.inl rfl⟩) ?_ ?_ ?_
 . intro Γ H2 h;refine Ae fun G kG=>?_;refine Ad ((hI _ _ _).mp h) fun zr0 zz=>ex2 zz fun x b' zz=>Ad zz fun zr3 hsm=>?_;subst zr0;subst zr3;refine kG ?_;exact q x b' hsm
 . intro j Γ H2 _ h;obtain ⟨hr0,_⟩:=(hI _ _ _).mp h;refine rwl hr0 ?_;exact Bz gn
 . clear q;intro j x Γ H2 hx h;refine Ad ((hI _ _ _).mp h) fun zr0 zz=>ex2 zz fun xm b' zz=>Ad zz fun zr3 hsm=>?_;subst zr0;subst zr3;have hj:j < 2/\x=.int ((2 * k+1+j:Nat):Int):=by
    cases j with
    | zero=>cases hx;exact ⟨by decide,congrArg Val.int rfl⟩
    | succ j =>
     cases j with
     | zero=>cases hx;exact ⟨by decide,congrArg Val.int Am4⟩
     | succ j=>exact nomatch hx
   obtain ⟨_,hr1⟩:=hj;refine rwl hr1 ?_;exact ⟨_,rfl,Ag5 g2 hD hsm fun x h=>(hI _ _ _).mpr ⟨rfl,x,_,rfl,h⟩⟩
theorem Aee(hg:H[l]?=some (.list ys))(hx:ys[m]?=some x)(hxk:ys[k]?=some xk)
 (q:QS [x0,some (.loc l),some (.int (m:Nat)),some (.bool (!decide ((m:Int)=(k:Int)))),some (.int (m:Nat)),x5,some xk] (H.set l (.list ((ys.set k x).set m xk)))) :
 wpSs T_14 Φ zT11
  [x0,some (.loc l),some (.int (k:Nat)),some (.bool true),some (.int (m:Nat)),x5,x6] H QS R NoX:=by
 have lm:=(aE.mp hx).1;have lk:=(aE.mp hxk).1;have hx':ys[((m:Nat):Int).toNat]?=some x:=hx;have hxk':ys[((k:Nat):Int).toNat]?=some xk:=hxk;simp only [↓Ef,↓Gk,↓A7,↓Vv,↓wp_glob,↓A2,↓Dd,↓Cj,↓Cy,↓Ea,↓Au,↓Ja,↓Bd,↓J4,↓Be,↓Gl,↓E4,↓Jb,↓Ax,↓Fs,↓Ni,↓B7,↓A3,↓Am,↓Eg,↓Bt,↓Rd,↓Ir,↓Cn,↓Ah,↓D4,↓Cl,↓B8,↓Ba,↓Ku,↓Ft,↓Bk,↓Gm,↓Kw,↓Kx,↓Gn,↓Ky,↓It,↓Cc,↓Fb,↓Vy,↓P7,↓P8,↓Oi,↓V0,↓Lx,↓Ly,↓V3,↓V4,↓D5,↓Do,↓Dx,↓C7,↓En,↓Dy,↓Jc,↓Hm,↓Hn,↓Gp,↓Ho,↓Hq,↓Hr,↓Jd,↓Je,↓Fc,↓Jf,↓Fu,↓Fv,↓P9,↓Ai,↓D9,↓Vt,↓At,↓Ab,↓Bi,↓Bw,↓Bx,↓Dw,↓Of,bA,cL,bP,bL,fU,fV,jI,bF,fP,jR,and_true,true_and,and_self];refine rwl (Nl hg Mr hxk') (rwl (Nl hg Mr hx') (rwl (Fd hg Mr (Xg lk)) (rwl (Fd (Bl _ hg) Mr (by rw [bW];exact Xg lm)) ?_)));rw [Nm,bC,bC];exact q
inductive SInv(H:Hp)(i l:Nat)(xs tg:List Val):Nat->Env'->Hp->Prop
 | go {n:Nat} {K:Hp} (ys:List Val) (k:Nat) (a b c:Option Val) (ho:Only l H K) (hg:K[l]?=some (.list ys)) (hp:ys.Perm xs) (hk:k < ys.length) (hn:n=ys.length - k) (f:Nat) (hf:n<=f) (hu:dnF f ys k=tg):SInv H i l xs tg n [some (.loc i),some (.loc l),some (.int (k:Nat)),some (.bool true),a,b,c] K
 | stop {n:Nat} {K:Hp} (ys:List Val) (k:Nat) (a b c:Option Val) (ho:Only l H K) (hg:K[l]?=some (.list ys)) (hp:ys.Perm xs) (hu:ys=tg):SInv H i l xs tg n [some (.loc i),some (.loc l),some (.int (k:Nat)),some (.bool false),a,b,c] K
theorem Zn(d:Nat)(hil:i≠l)(hi:H[i]?=some (.inst 8 [(4,.loc l)]))(hl:H[l]?=some (.list xs))(hD:∀ x∈xs,DC x)(h0:0 < xs.length)(hn:xs.length < 100000) :
 Wp (Ag T_14 (d+1) 33 [.loc i]) H (fun r H'=>r=.none/\Only l H H'/\∃ ys,H'[l]?=some (.list ys)/\ys.Perm xs/\ys=dnF xs.length xs 0) NoE:=by
 refine rwl (Aq (g:=Abd) rfl rfl) ?_;refine Ak (fun w K=>w=.loc l/\H=K) ?_ ?_
 . show Wp (Jt (.loc i) 4) H _ _;refine rwl (K8 hi (show fT 4 [(4,Val.loc l)]=some (.loc l) from rfl)) ?_;exact ⟨rfl,rfl⟩
 rintro _ _ ⟨rfl,rfl⟩;refine Ak (fun w K=>w=.int (0:Nat)/\H=K) ⟨rfl,rfl⟩ ?_;rintro _ _ ⟨rfl,rfl⟩;refine Ak (fun w K=>w=.bool true/\H=K) ⟨rfl,rfl⟩ ?_;rintro _ _ ⟨rfl,rfl⟩;obtain ⟨I,hI⟩:=Fe (SInv H i l xs (dnF xs.length xs 0));refine Bu (fun Γ K=>Only l H K/\∃ ys,K[l]?=some (.list ys)/\ys.Perm xs/\ys=dnF xs.length xs 0) ?_ (fun Γ K h=>⟨rfl,h⟩);refine G5 I (n:=xs.length) (aR hn (by decide)) ((hI _ _ _).mpr (.go xs 0 _ _ _ (Only.refl _ _) hl (jE _) h0 rfl _ (aN _) rfl)) ?_;clear hi hl;intro n Γ K h;rcases (hI _ _ _).mp h with ⟨ys,k,a,b,c,ho,hg,hperm,hk,hnn,f,hf,hu⟩ | ⟨ys,k,a,b,c,ho,hg,hperm,hu⟩
 . have hDy:∀ x∈ys,DC x:=fun x hx=>hD x (hperm.mem_iff.mp hx);obtain ⟨xk,hxk⟩:∃ x,ys[k]?=some x:=⟨_,aI hk⟩;refine Ak (fun w H2=>w=.int (k:Nat)/\K=H2) ⟨rfl,rfl⟩ ?_;rintro _ _ ⟨rfl,rfl⟩;refine Aed hg hDy hxk fun x b' hsm=>?_;generalize pe:pks ys k 2=m at hsm ⊢;have hg2:=(Ext.refl K |>.new (.list [.int (2 * (k:Int)+1),.int (2 * (k:Int)+2)])).get hg;have ho2:=ho.new (.list [.int (2 * (k:Int)+1),.int (2 * (k:Int)+2)]);refine Aee hg2 hsm.at' hxk ?_;have g3:∀ zs,(((K++[HObj.list [Val.int (2 * (k:Int)+1),Val.int (2 * (k:Int)+2)]])).set l (.list zs))[l]?=some (.list zs):=fun zs=>Bl _ hg2;rcases hsm.one with rfl | pk
   . have exk:x=xk:=aO (hsm.at'.symm.trans hxk);subst exk;have same:(ys.set m x).set m x=ys:=by
      rw [oN];apply eZ;intro q;by_cases e:m=q
      . subst e;exact rwl (dA hk) (rwl hxk rfl)
      . exact rwl (cB e) rfl
     refine rwl same (rwl (show decide ((m:Int)=(m:Int))=true by simp) ?_);exact ⟨0,by exact cH (dY hk) hnn.symm,(hI _ _ _).mpr (.stop ys m _ _ _ (ho2.set _) (g3 _) hperm (hu▸(Ad5 pe).symm))⟩
   . have lm:=(aE.mp hsm.at').1;refine rwl (show decide ((m:Int)=(k:Int))=false by simpa using fun q:(m:Int)=k=>by exact Am5 q pk) ?_;refine ex1 (Ajc (f:=f) (aA (cH (dY hk) hnn.symm) hf) pe hxk hsm.at' pk) fun f' zz=>Ad zz fun e' hf'=>?_;exact ⟨ys.length - m,by exact cH (jM hk pk) hnn.symm,(hI _ _ _).mpr (.go (swap ys k m xk x) m _ _ _ (ho2.set _) (g3 _) ((Om hxk hsm.at').trans hperm) (by rw [Nk];exact lm) (by rw [Nk]) f' (bK (aA (cH (jM hk pk) hnn.symm) (aC hf hf'))) (e'▸hu))⟩
 . exact ⟨ho,ys,hg,hperm,hu⟩
end
theorem K9(h:H[i]?=some (.inst c fs))(hk:T.meth c m=some k):Wp (C8 T (.loc i) m) H Q E=Q k H:=by
 have:C8 T (.loc i) m H=.ok k H:=by unfold C8;rw [Dl];simp only [h,hk]
 unfold Wp;exact rwl this rfl
theorem Wl(m:Val)(t:List Val)(z:Val)(h:t.getLast?=some z):(((m :: t).dropLast).set 0 z).Perm t:=by
 cases t with
 | nil=>cases h
 | cons a t' =>
  have e:(m :: a :: t').dropLast=m :: (a :: t').dropLast:=rfl;show (z :: (a :: t').dropLast).Perm (a :: t');have e2:(a :: t')=(a :: t').dropLast++[z]:=by rw [mX (by simp)] at h;cases h;exact (nE (by simp)).symm
  refine rwl e2 (rwl List.dropLast_concat ?_);exact (List.perm_append_singleton z _).symm
theorem Zo(d:Nat)(hil:i≠l)(hi:H[i]?=some (.inst 8 [(4,.loc l)]))(hl:H[l]?=some (.list xs))(hD:∀ x∈xs,DC x)(hn:xs.length < 100000)(h0:xs≠[]) :
 Wp (Ag T_14 (d+2) 32 [.loc i]) H (fun r H'=>∃ t ys,xs=r :: t/\Only l H H'/\H'[l]?=some (.list ys)/\ys.Perm t/\ys=V8 xs) NoE:=by
 refine ex2 (List.exists_cons_of_ne_nil h0) fun m t zr2=>?_;subst zr2;refine rwl (Aq (g:=Abc) rfl rfl) ?_;refine Ak (fun w K=>w=.loc l/\H=K) ?_ ?_
 . show Wp (Jt (.loc i) 4) H _ _;refine rwl (K8 hi (show fT 4 [(4,Val.loc l)]=some (.loc l) from rfl)) ?_;exact ⟨rfl,rfl⟩
 rintro _ _ ⟨rfl,rfl⟩;refine B5 (fun K=>H=K) ?_ ?_
 . show Wp (bfV .len [.loc l]) H _ _;refine rwl (As hl) ?_;rw [A7,P8];exact ⟨congrArg Val.bool (decide_eq_false (by refine rwl cM ?_;exact Aj6)),rfl⟩
 rintro _ rfl;refine Ak (fun w K=>m=w/\H=K) ?_ ?_
 . show Wp (Dh (.loc l) (.int 0)) H _ _;refine rwl (Nl hl (v:=m) (k:=0) (by decide) rfl) ?_;exact ⟨rfl,rfl⟩
 rintro _ _ ⟨rfl,rfl⟩;obtain ⟨z,hz⟩:∃ z,(m :: t).getLast?=some z:=⟨_,mX (by simp)⟩;refine Ak (fun w K=>z=w/\K=H.set l (.list (m :: t).dropLast)) ?_ ?_
 . show De (Db .pop (.loc l) H) _;rw [Bj (Rf hl)];exact Aav hl hz ⟨rfl,rfl⟩
 rintro _ H1 ⟨hr2,e1⟩;refine rwr hr2 ?_;have g1:H1[l]?=some (.list (m :: t).dropLast):=by refine rwl e1 ?_;exact Bl _ hl
 have o1:Only l H H1:=by refine rwl e1 ?_;exact (Only.refl l H).set _
 clear e1 hl;show Wp (bfV .len [.loc l]) H1 _ _;refine rwl (As g1) ?_;cases t with
 | nil=>exact ⟨[],[],rfl,o1,g1,jE _,rfl⟩
 | cons a t' =>
  have hzl:(a :: t').getLast?=some z:=by simpa using hz
  have perm:=Wl m (a :: t') z hzl;have len1:((m :: a :: t').dropLast).length=t'.length+1:=by simp
  have i2:(List.set H1 l (.list (((m :: a :: t').dropLast).set 0 z)))[i]?=some (.inst 8 [(4,.loc l)]):=(o1.set _).keep i _ hil hi;rw [A7,Ly];refine rwl len1 ?_;show brB (decide (0 < ((t'.length+1:Nat):Int))) _ _;rw [Cr Ah7];show Wp (Av (.loc l) (.int 0) z) H1 _ _;refine rwl (Fd g1 (by decide) (by rw [len1];exact Ah7)) ?_;show Wp (C8 T_14 (.loc i) 9) (H1.set l (.list (((m :: a :: t').dropLast).set 0 z))) _ _;refine rwl (K9 i2 (show T_14.meth 8 9=some 33 from rfl)) ?_;refine (Zn d hil i2 (Bl _ g1) (fun x hx=>hD x (.tail _ (perm.mem_iff.mp hx))) (by refine rwl bW (rwl len1 ?_);exact aB (bH _) (bQ _)) (by refine rwl bW ?_;simp at hn;exact aR (aB (aD len1) (bQ _)) hn)).then ?_;intro _ H3 zz;refine Ap zz fun zr0 o3 zz=>ex1 zz fun ys zz=>Ap zz fun g3 p3 e3=>?_;subst zr0;exact ⟨a :: t',ys,rfl,(o1.set _).trans o3,g3,p3.trans perm,by refine rwl e3 ?_;rw [V8];refine rwl hz ?_;rfl⟩
theorem Zp(d:Nat)(hi:H[i]?=some (.inst 8 [(4,.loc l)]))(hl:H[l]?=some (.list xs)) :
 Wp (Ag T_14 (d+1) 34 [.loc i]) H (fun r H'=>H'=H/\r=.int (xs.length:Nat)) NoE:=by
 refine rwl (Aq (g:=Wi) rfl rfl) ?_;rw [Wi];simp only [↓Ef,↓Gk,↓A7,↓Vv,↓wp_glob,↓A2,↓Dd,↓Cj,↓Cy,↓Ea,↓Au,↓Ja,↓Bd,↓J4,↓Be,↓Gl,↓E4,↓Jb,↓Ax,↓Fs,↓Ni,↓B7,↓A3,↓Am,↓Eg,↓Bt,↓Rd,↓Ir,↓Cn,↓Ah,↓D4,↓Cl,↓B8,↓Ba,↓Ku,↓Ft,↓Bk,↓Gm,↓Kw,↓Kx,↓Gn,↓Ky,↓It,↓Cc,↓Fb,↓Vy,↓P7,↓P8,↓Oi,↓V0,↓Lx,↓Ly,↓V3,↓V4,↓D5,↓Do,↓Dx,↓C7,↓En,↓Dy,↓Jc,↓Hm,↓Hn,↓Gp,↓Ho,↓Hq,↓Hr,↓Jd,↓Je,↓Fc,↓Jf,↓Fu,↓Fv,↓P9,↓Ai,↓D9,↓Vt,↓At,↓Ab,↓Bi,↓Bw,↓Bx,↓Dw,↓Of,bA,cL,bP,bL,fU,fV,jI,bF,fP,jR,and_true,true_and,and_self,K8 hi (show fT 4 [(4,Val.loc l)]=some (.loc l) from rfl),As hl]
theorem Aef(d:Nat)(H:Hp)(q:Q (.loc H.length) (H++[.inst 8 [(4,.loc (H.length+1))],.list []])) :
 Wp (Rv T_14 (Ag T_14 (d+1)) 8 []) H Q E:=by
 have e:Rv T_14 (Ag T_14 (d+1)) 8 [] H=.ok (.loc H.length) (H++[.inst 8 [(4,.loc (H.length+1))],.list []]):=by
  unfold Rv;show M.bnd _ _ _=_;refine rwl (Eh (show M.alloc (.inst 8 []) H=.ok (.loc H.length) (H++[.inst 8 []]) from rfl)) ?_;have c:Ag T_14 (d+1) 29 [.loc H.length] (H++[.inst 8 []])=.ok .none (H++[.inst 8 [(4,.loc (H.length+1))],.list []]):=by
   have w:Wp (Ag T_14 (d+1) 29 [.loc H.length]) (H++[.inst 8 []]) (fun r H'=>r=.none/\H'=H++[.inst 8 [(4,.loc (H.length+1))],.list []]) NoE:=by
    refine rwl (Aq (g:=Wh) rfl rfl) ?_;rw [Wh];simp only [↓Ef,↓Gk,↓A7,↓Vv,↓wp_glob,↓A2,↓Dd,↓Cj,↓Cy,↓Ea,↓Au,↓Ja,↓Bd,↓J4,↓Be,↓Gl,↓E4,↓Jb,↓Ax,↓Fs,↓Ni,↓B7,↓A3,↓Am,↓Eg,↓Bt,↓Rd,↓Ir,↓Cn,↓Ah,↓D4,↓Cl,↓B8,↓Ba,↓Ku,↓Ft,↓Bk,↓Gm,↓Kw,↓Kx,↓Gn,↓Ky,↓It,↓Cc,↓Fb,↓Vy,↓P7,↓P8,↓Oi,↓V0,↓Lx,↓Ly,↓V3,↓V4,↓D5,↓Do,↓Dx,↓C7,↓En,↓Dy,↓Jc,↓Hm,↓Hn,↓Gp,↓Ho,↓Hq,↓Hr,↓Jd,↓Je,↓Fc,↓Jf,↓Fu,↓Fv,↓P9,↓Ai,↓D9,↓Vt,↓At,↓Ab,↓Bi,↓Bw,↓Bx,↓Dw,↓Of,bA,cL,bP,bL,fU,fV,jI,bF,fP,jR,and_true,true_and,and_self];have g:((H++[HObj.inst 8 []])++[HObj.list []])[H.length]?=some (.inst 8 []):=((Ext.refl _).new _).get (Ao _ _);have st:Bv (.loc H.length) 4 (.loc (H++[HObj.inst 8 []]).length) ((H++[HObj.inst 8 []])++[HObj.list []])=.ok () (((H++[HObj.inst 8 []])++[HObj.list []]).set H.length (HObj.inst 8 [(4,.loc (H++[HObj.inst 8 []]).length)])):=by unfold Bv;simp only [g];rfl
    refine Wp.of_eq st ?_;simp
   refine Ae fun G kG=>?_;refine ex2 w.get fun r H' zz=>Ap zz fun e1 zr3 zr4=>?_;subst zr3;subst zr4;refine kG ?_;exact e1
  refine rwl (Eh c) ?_;rfl
 exact Wp.of_eq e q
end Mine.Internal.Pure
namespace Mine.Internal.Pure
open PySem
section
noncomputable def HV(v:Val):Prop:=v=.none\/∃ i:Int,v=.int i/\0<=i/\i<=1000000000
theorem Aeg:T_14.globs[0]?=some (.int 30):=rfl
theorem Wm:T_14.globs[1]?=some (.int 1000000000):=rfl
theorem Iv(h1:lo<=x)(h2:x<=hi):Wp (Ag T_14 (d+1) 0 [.int x,.int lo,.int hi]) H Q E=Q (.bool true) H:=by refine rwl (Aq (g:=V9) rfl rfl) ?_;rw [V9];simp only [bA,cL,bF,bP,bL,↓Ah,↓Ba,↓Ea,↓Cj,↓B7,↓A2,↓Ai,↓En,↓Ab,↓Dw,↓Bw,↓Dy,↓Bx,↓Cn,↓B8,↓Be,↓Ja,↓At,↓V3,decide_eq_true h1,decide_eq_true h2]
theorem Ri(h1:0<=i)(h2:i < r)(h3:0<=j)(h4:j < c):Wp (Ag T_14 (d+2) 1 [.int r,.int c,.tup [.int i,.int j]]) H Q E=Q (.bool true) H:=by refine rwl (Aq (g:=Wa) rfl rfl) ?_;rw [Wa];simp only [bA,cL,bF,bP,bL,↓Ah,↓Ba,↓Ea,↓Cj,↓B7,↓A2,↓At,↓Ai,↓Fc,↓Ab,↓Dw,↓Bw,↓Au,↓Fs,↓Am,↓A3,↓Fb,↓A7,↓Oi,↓Cn,↓B8,↓Be,↓Cy,↓Ax,↓Bd,↓Fu,↓Dd,↓Kw,↓Fv,↓Gk];refine rwl (Iv h1 (fO h2)) ?_;rw [Ab,Bw];refine rwl (Iv h3 (fO h4)) ?_;rfl
theorem Mh(h:HV v):Wp (Ag T_14 (d+2) 4 [v]) H Q E=Q (.bool true) H:=by
 refine rwl (Aq (g:=Ad7) rfl rfl) ?_;rw [Ad7];rcases h with rfl | ⟨i,rfl,h1,h2⟩
 . simp only [bA,cL,bF,bP,bL,↓Ah,↓B8,↓Be,↓Ea,↓Au,↓A2,↓Ai,↓Ef,↓D5,↓Ab,↓Bw]
 . simp only [bA,cL,bF,bP,bL,↓Ah,↓B8,↓Be,↓Ea,↓Au,↓A2,↓Ai,↓Ef,↓Do,↓Ab,↓Bx,↓Ax,↓Am,↓A7,↓wp_glob,Wm,↓A3,↓Bi];exact Iv h1 h2
theorem Mi(i:Int):Wp (Ag T_14 (d+1) 9 [.int i]) H Q E=Q (.bool true) H:=by refine rwl (Aq (g:=Aeb) rfl rfl) ?_;rw [Aeb];simp only [bA,cL,bF,bP,bL,↓Ah,↓B8,↓Be,↓Cy,↓B7,↓A2,↓Ai,↓En,↓Ab,↓Bw,↓Cj,↓Dy,jR]
end
noncomputable def Ff(ns:List Int)(k:Nat):Int:=ns.getD k 0
section
theorem Op{k:Nat}(h:k < ns.length):Wp (Dh (.script ns) (.int (k:Int))) H Q E=Q (.int (ns.getD k 0)) H:=by
 have e:ns[k]?=some (ns.getD k 0):=by refine rwl jQ (rwl (aI h) ?_);rfl
 refine rwl (S6 e) ?_;rfl
theorem G6(ns:List Int)(k:Nat):Wp (Ag T_14 (d+1) 8 [.script ns,.int (k:Int)]) H Q E=Q (.int (Ff ns k)) H:=by
 refine rwl (Aq (g:=Aea) rfl rfl) ?_;rw [Aea];simp only [bA,cL,bF,bP,bL,↓Ah,↓Ba,↓Au,↓A2,↓At,↓Ai,↓Fs,↓Am,↓A3,↓Cc,↓Lx,↓Ab,↓B8,↓Be,↓Bd,↓Cn,↓A7];by_cases q:(k:Int) < ns.length
 . rw [Cr q];refine rwl (Op (bS.mp q)) ?_;rfl
 . rw [Bc q];show Q (.int 0) H=_;exact rwl (show Ff ns k=0 by unfold Ff;rw [jQ,dZ (aW.mp fun z=>q (bS.mpr z))];rfl) rfl
noncomputable def OkS(r c:Nat):Prop:=1<=r/\r<=30/\1<=c/\c<=30
noncomputable def Mj(p:Nat × Nat):Prop:=OkS p.1 p.2->p.1 * p.2<=132->∀ ns:List Int,ns.length<=63->(∀ d H,Wp (Ag T_14 (d+1) 10 [.int (Ff ns 0)]) H (fun v H'=>v=.tup [.int p.1,.int p.2]/\Ext H H') NoE)->∀ d H,Wp (Ag T_14 (d+9) 22 [.script ns]) H (fun v _=>v=.bool true) NoE
theorem Wn:∃ p,(∃ q,¬Mj q)->¬Mj p:=by
 by_cases h:∃ q,¬Mj q
 . exact h.imp fun q k _=>k
 . exact ⟨(0,0),fun x=>absurd x h⟩
noncomputable def r:Nat:=Wn.choose.1
noncomputable def c:Nat:=Wn.choose.2
theorem Ajd(h:Mj (r,c))(q:Nat × Nat):Mj q:=jK fun k=>Wn.choose_spec ⟨q,k⟩ h
theorem Cd(a:Int)(n:Nat)(h:0 < n):∃ k:Nat,dO a n=k/\k < n:=by have h1:=Int.fmod_nonneg_of_pos a (show (0:Int) < n by exact eM.mpr h);have h2:=Int.fmod_lt_of_pos a (show (0:Int) < n by exact eM.mpr h);exact ⟨(dO a n).toNat,by exact (fQ h1).symm,by exact (iF h1).mpr h2⟩
theorem Lb{A B A' B':Prop}(h:brB b A B)(h1:A->A')(h2:B->B'):brB b A' B':=by
 cases b
 . exact h2 h
 . exact h1 h
theorem Ag6(n:Int)(k:Int)(hk:0<=k):∃ v,HV v/\∀ (H:Hp),Wp (Ag T_14 (d+1) 11 [.int n,.int k]) H (fun w H'=>w=v/\H'=H) NoE:=by
 refine Ae fun G kG=>?_;refine ex1 (Cd (cR n 9) 3 (by decide)) fun a zz=>Ad zz fun ha la=>?_;refine ex1 (Cd (cR n 9) 12 (by decide)) fun b zz=>Ad zz fun hb lb=>?_;refine ex1 (Cd (cR n 9) 1000000001 (by decide)) fun c zz=>Ad zz fun hc lc=>?_;refine ex1 (Cd (cR n 9) 2 (by decide)) fun e zz=>Ad zz fun he le=>?_;refine kG ?_;have st:∀ (v:Val) (H:Hp),brB (decide (dO n 9=8)) (Val.none=v) (brB (decide (k=4)) (Val.int 5=v) (brB (decide (k=0)) (Val.int a=v) (brB (decide (k=1)) (Val.int b=v) (brB (decide (k=2)) (Val.int c=v) (Val.int (1000000000 - e)=v)))))->Wp (Ag T_14 (d+1) 11 [.int n,.int k]) H (fun w H'=>w=v/\H'=H) NoE:=fun v H h=>by refine rwl (Aq (g:=Aaz) rfl rfl) ?_;refine ⟨by decide,?_⟩;show brB (decide (dO n 9=8)) (Val.none=v/\H=H) (brB (decide (k=4)) (Val.int 5=v/\H=H) (brB (decide (k=0)) (_/\_/\(Val.int (dO (cR n 9) ((3:Nat):Int))=v/\H=H)) (brB (decide (k=1)) (_/\_/\(Val.int (dO (cR n 9) ((12:Nat):Int))=v/\H=H)) (brB (decide (k=2)) (_/\_/\(Val.int (dO (cR n 9) ((1000000001:Nat):Int))=v/\H=H)) (_/\_/\(Val.int (1000000000 - dO (cR n 9) ((2:Nat):Int))=v/\H=H))))));refine rwl ha (rwl hb (rwl hc (rwl he ?_)));refine Lb h (fun h=>⟨h,rfl⟩) fun h=>Lb h (fun h=>⟨h,rfl⟩) fun h=>Lb h (fun h=>⟨by decide,by decide,h,rfl⟩) fun h=>Lb h (fun h=>⟨by decide,by decide,h,rfl⟩) fun h=>Lb h (fun h=>⟨by decide,by decide,h,rfl⟩) fun h=>⟨by decide,by decide,h,rfl⟩
 by_cases q:dO n 9=8
 . exact ⟨.none,.inl rfl,fun H=>st _ H (by rw [Cr q])⟩
 by_cases q4:k=4
 . exact ⟨.int 5,.inr ⟨5,rfl,by decide,by decide⟩,fun H=>st _ H (by rw [Bc q,Cr q4])⟩
 by_cases q0:k=0
 . exact ⟨.int a,.inr ⟨a,rfl,by exact bE _,by exact dD.mpr (aJ (aR la (by decide:3 < 1000000000)))⟩,fun H=>st _ H (by rw [Bc q,Bc q4,Cr q0])⟩
 by_cases q1:k=1
 . exact ⟨.int b,.inr ⟨b,rfl,by exact bE _,by exact dD.mpr (aJ (aR lb (by decide:12 < 1000000000)))⟩,fun H=>st _ H (by rw [Bc q,Bc q4,Bc q0,Cr q1])⟩
 by_cases q2:k=2
 . exact ⟨.int c,.inr ⟨c,rfl,by exact bE _,by exact Aj7 lc⟩,fun H=>st _ H (by rw [Bc q,Bc q4,Bc q0,Bc q1,Cr q2])⟩
 . exact ⟨.int (1000000000 - (e:Int)),.inr ⟨_,rfl,by exact Int.sub_nonneg_of_le (dD.mpr (aC (aJ le) (by decide:2<=1000000000))),by exact Am6 le⟩,fun H=>st _ H (by rw [Bc q,Bc q4,Bc q0,Bc q1,Bc q2])⟩
theorem S9(ns:List Int)(k:Nat)(hk:k<=900):∃ n:Int,∀ (H:Hp),Wp (Ag T_14 (d+2) 12 [.script ns,.int (k:Int)]) H (fun w H'=>w=.int n/\H'=H) NoE:=by
 have sm:small (k:Int)=true:=Gq (aJ (aB hk (by decide:900 < 16777216)));by_cases q:(k:Int)+3 < ns.length
 . refine ⟨ns.getD (k+3) 0,fun H=>?_⟩;refine rwl (Aq (g:=Oo) rfl rfl) ?_;rw [Oo];simp only [bA,cL,bF,bP,bL,↓Ah,↓Ba,↓Au,↓Dd,↓A2,↓At,↓Ai,↓A7,↓Gm,↓Fs,↓Am,↓A3,↓Cc,↓Lx,↓Ab,↓B8,↓Be,↓Bd,↓Cn,↓Ax,↓Kx];rw [Cr q];refine rwl (show (k:Int)+3=((k+3:Nat):Int) by exact rfl) (rwl (Op (bS.mp q)) ?_);exact ⟨rfl,rfl⟩
 . refine ⟨7 * Ff ns 1+Ff ns 2 * k * k+13 * k,fun H=>?_⟩;refine rwl (Aq (g:=Oo) rfl rfl) ?_;rw [Oo];simp only [bA,cL,bF,bP,bL,↓Ah,↓Ba,↓Au,↓Dd,↓A2,↓At,↓Ai,↓A7,↓Gm,↓Fs,↓Am,↓A3,↓Cc,↓Lx,↓Ab,↓B8,↓Be,↓Bd,↓Cn,↓Ax,↓Kx];rw [Bc q];show Wp (Ag T_14 (d+1) 8 [.script ns,.int ((1:Nat):Int)]) H _ _;rw [G6];refine ⟨rfl,?_⟩;show Wp (Ag T_14 (d+1) 8 [.script ns,.int ((2:Nat):Int)]) H _ _;rw [G6];refine ⟨by rw [sm,oP],by rw [sm,oP],rfl,rfl,rfl⟩
end
structure GAt(H:Hp)(l b s:Nat)(g:List (List Val)):Prop where
 top:H[l]?=some (.list ((bT g.length).map fun i=>.loc (b+s * i)))
 row:∀ i r,g[i]?=some r->H[b+s * i]?=some (.list r)
theorem GAt.ext(x:GAt H l b s g)(e:Ext H H'):GAt H' l b s g:=⟨e.get x.top,fun i r h=>e.get (x.row i r h)⟩
theorem GAt.other(x:GAt H l b s g)(o:HObj)(h1:m≠l)(h2:∀ i,i < g.length->m≠b+s * i):GAt (H.set m o) l b s g :=
 ⟨Al o h1 x.top,fun i r h=>Al o (h2 i (aE.mp h).1) (x.row i r h)⟩
theorem GAt.item(x:GAt H l b s g)(h:i < g.length):((bT g.length).map fun i=>Val.loc (b+s * i))[i]?=some (.loc (b+s * i)):=by refine rwl aX (rwl (gX h) ?_);rfl
section
theorem Iw{chk:Hp->Bool}{step:Val->M (Option Val)}{Q:List Val->Hp->Prop}(I:Nat->List Val->Hp->Prop)(h0:I 0 [] H)(hc:∀ k out H,I k out H->chk H=true)
 (hs:∀ k x out H,xs[k]?=some x->I k out H->Wp (step x) H (fun r H=>I (k+1) (out++r.toList) H) E) (hd:∀ zs H,I xs.length zs H->Q zs H):Wp (Fm chk step xs) H Q E:=by
 refine Zi (fun ys out H=>∃ k,ys=xs.drop k/\k<=xs.length/\I k out H) xs [] H ⟨0,rfl,bH _,h0⟩ ?_ ?_ ?_
 . rintro ys out H ⟨k,_,_,h⟩;exact hc k out H h
 . intro x ys out H zz;refine ex1 zz fun k zz=>Ap zz fun e l h=>?_;have hx:xs[k]?=some x:=by have:=congrArg (fun z=>z[0]?) e;simpa using this.symm
   refine (hs k x out H hx h).mono ?_ (fun _ _ h=>h);intro r H h;refine ⟨k+1,?_,(aE.mp hx).1,h⟩;have:=congrArg List.tail e;simpa using this
 . intro zs H zz;refine ex1 zz fun k zz=>Ap zz fun e l h=>?_;have:k=xs.length:=by have:=congrArg hU e;simp at this;exact Aj4 this l
   subst this;exact hd _ _ h
theorem Lc(P:Nat->Val->Prop)(hit:wpE T Φ it Γ H (fun v H'=>H'=H/\Dg v H=some (xs,src)) NoE)(hck:chk src xs H=true)(hz:xs.length < lid)
 (he:∀ k x,xs[k]?=some x->wpE T Φ elt (Γ++[some x]) H (fun v H'=>P k v/\H'=H) NoE) (q:∀ ys,ys.length=xs.length->(∀ k v,ys[k]?=some v->P k v)->Q (.loc H.length) (H++[.list ys])):wpE T Φ (.comp elt it .none) Γ H Q E:=by
 refine Kv (A9 hit ?_);rintro v H' ⟨e,hi⟩;refine rwl e (rwl hi ?_);clear e;refine Iw (fun k out H'=>H'=H/\out.length=k/\∀ j v,out[j]?=some v->P j v) ⟨rfl,rfl,fun j v h=>by cases h⟩ ?_ ?_ ?_
 . rintro k out _ ⟨hr0,_⟩;refine rwl hr0 ?_;exact hck
 . rintro k x out _ hx ⟨hr1,hl,hp⟩;refine rwl hr1 ?_;refine Nj (A9 (he k x hx) ?_);rintro v _ ⟨hv,hr2⟩;refine rwr hr2 ?_;refine ⟨rfl,by refine rwl aK (rwl hl ?_);rfl,fun j w hj=>?_⟩;by_cases c:j < out.length
   . rw [bB c] at hj;exact hp j w hj
   . rw [aS (aW.mp c)] at hj;have:j - out.length=0:=lL.mp (aE.mp hj).1;rw [this] at hj;cases hj;have:j=k:=by exact Aj8 this hl c
     refine rwl this ?_;exact hv
 . rintro zs _ ⟨hr3,hl0,hp⟩;refine rwl hr3 ?_;have hl:zs.length=xs.length:=hl0;clear hl0;exact ⟨by exact aB (aD hl) hz,q zs hl hp⟩
theorem Oq(s:Nat)(P:Nat->List Val->Prop)(hit:wpE T Φ it Γ H (fun v H'=>H'=H/\Dg v H=some (xs,src)) NoE)(hck:∀ K,Ext H K->chk src xs K=true)(hz:xs.length < lid)
 (he:∀ k x K,xs[k]?=some x->Ext H K->wpE T Φ elt (Γ++[some x]) K (fun v K'=>∃ r,P k r/\v=.loc (K.length+s)/\Ext K K'/\K'.length=K.length+s+1/\K'[K.length+s]?=some (.list r)) NoE)
 (q:∀ g K,g.length=xs.length->(∀ k r,g[k]?=some r->P k r)->Ext H K->GAt K (H.length+(s+1) * g.length) (H.length+s) (s+1) g->K.length=H.length+(s+1) * g.length+1->Q (.loc (H.length+(s+1) * g.length)) K):wpE T Φ (.comp elt it .none) Γ H Q E:=by
 refine Kv (A9 hit ?_);rintro v H' ⟨e,hi⟩;refine rwl e (rwl hi ?_);clear e;refine Iw (fun k out K=>Ext H K/\K.length=H.length+(s+1) * k/\out=(bT k).map (fun i=>Val.loc (H.length+s+(s+1) * i))/\∃ g:List (List Val),g.length=k/\(∀ j r,g[j]?=some r->P j r/\K[H.length+s+(s+1) * j]?=some (.list r)))
  ⟨Ext.refl H,rfl,rfl,[],rfl,fun j r h=>by cases h⟩ ?_ ?_ ?_
 . rintro k out K ⟨e,_⟩;exact hck K e
 . intro k x out K hx zz;refine Cf zz fun e hl zr2 zz=>ex1 zz fun g zz=>Ad zz fun hg hp=>?_;subst zr2;refine Nj (A9 (he k x K hx e) ?_);intro v K' zz;refine ex1 zz fun r zz=>G7 zz fun pr hr1 e' hl' hr=>?_;refine rwl hr1 ?_;have pos:K.length+s=H.length+s+(s+1) * k:=by exact Am7 hl
   refine ⟨e.trans e',by refine rwl hl' (rwl hl ?_);rw [Nat.mul_succ];exact Am8,?_,g++[r],by refine rwl aK (rwl hg ?_);rfl,fun j w hj=>?_⟩
   . refine rwl hE (rwl cD (rwl pos ?_));rfl
   . by_cases c:j < g.length
     . rw [bB c] at hj;exact ⟨(hp j w hj).1,e'.get (hp j w hj).2⟩
     . rw [aS (aW.mp c)] at hj;have:j - g.length=0:=lL.mp (aE.mp hj).1;rw [this] at hj;cases hj;have:j=k:=by exact Aj8 this hg c
       refine rwl this (rwr pos ?_);exact ⟨pr,hr⟩
 . intro zs K zz;refine Cf zz fun e hl hr2 zz=>ex1 zz fun g zz=>Ad zz fun hg hp=>?_;refine rwl hr2 ?_;have gl:g.length=xs.length:=hg;refine ⟨by rw [aM];refine rwl bV ?_;exact hz,?_⟩;refine rwl hl (rwr gl ?_);refine q g _ gl (fun k r h=>(hp k r h).1) (e.new _) ⟨?_,fun i r h=>Ext.get ⟨_,rfl⟩ (hp i r h).2⟩ (by refine rwl aK (rwl hl (rwr gl ?_));rfl);have:=Ao K (.list ((bT g.length).map fun i=>Val.loc (H.length+s+(s+1) * i)));rw [hl,<- gl] at this;exact this
theorem Wo{n:Nat}(hn:n<=1000)(h:wpE T Φ it Γ H (fun v H'=>v=.int (n:Int)/\H'=H) NoE):wpE T Φ (.bf .range (.cons it .nil)) Γ H (fun v H'=>H'=H/\Dg v H=some (Tj n,none)) NoE:=by rw [Fs,Am];refine A9 h ?_;rintro v _ ⟨rfl,rfl⟩;refine rwl A3 ?_;rw [It];exact ⟨⟨by exact Ahp,by exact dD.mpr (aJ (aB hn (by decide:1000 < 1073741824)))⟩,rfl,rfl⟩
theorem No{n k:Nat}(h:(Tj n)[k]?=some x):x=.int (k:Int)/\k < n:=by obtain ⟨a,b⟩:=Rg h;exact ⟨a,by exact bS.mp b⟩
theorem Fw(n:Nat):(Tj n).length=n:=by rw [Rh];exact rfl
theorem Qb(hk:Γ.length=k)(G:GAt H l b s g)(hz:g.length < lid)(hit:wpE T Φ it Γ H (fun v H'=>v=.loc l/\H'=H) NoE)
 (q:∀ K,Ext H K->GAt K (H.length+g.length) H.length 1 g->K.length=H.length+g.length+1->Q (.loc (H.length+g.length)) K):wpE T Φ (.comp (.bf .list (.cons (.var k) .nil)) it .none) Γ H Q E:=by
 refine Oq (xs:=(bT g.length).map fun i=>Val.loc (b+s * i)) (src:=some l) 0 (fun j r=>g[j]?=some r) (A9 hit ?_) (fun K e=>Bz (e.get G.top)) (by rw [aM];refine rwl bV ?_;exact hz) ?_ ?_
 . rintro v _ ⟨rfl,rfl⟩;exact ⟨rfl,Bs G.top⟩
 . intro j x K hx e;rw [aX] at hx;cases hj:(bT g.length)[j]? with
   | none=>rw [hj] at hx;cases hx
   | some i =>
    rw [hj] at hx;obtain ⟨lt,ej⟩:=aE.mp hj;rw [List.getElem_range] at ej;subst ej;cases hx;have lt':j < g.length:=by rw [bV] at lt;exact lt
    have hg:g[j]?=some g[j]:=aI lt';have hr:=e.get (G.row j _ hg);rw [Fs,Am,A2,Fr];refine rwl (aS (aD hk)) (rwl hk ?_);rw [iC];have:bfV .list [.loc (b+s * j)] K=.ok (.loc K.length) (K++[.list g[j]]):=by show (match Cm (.loc (b+s * j)) K with | some xs=>M.alloc (.list xs) K | none=>.bad)=_;refine rwl (show Cm (.loc (b+s * j)) K=some g[j] by simp only [Cm,hr]) ?_;rfl
    exact Wp.of_eq this ⟨_,hg,rfl,⟨_,rfl⟩,by refine rwl aK ?_;rfl,Ao K _⟩
 . intro g' K hl hp e G' hK;have:g'=g:=by
    rw [aM,bV] at hl;refine eZ fun i=>?_;cases h:g'[i]? with
    | some r=>exact rwl (hp i r h) rfl
    | none =>rw [cZ] at h;exact rwl (dZ (aC (aD hl.symm) h)) rfl
   subst this;rw [cN,jZ] at G' hK ⊢;exact q K e G' hK
end
structure OkG(r:Nat)(g:List (List Val)):Prop where
 len:g.length=r
 row:∀ (i:Nat) (w:List Val),g[i]?=some w->w.length=c/\∀ v∈w,HV v
section
theorem Wq{α:Type}{l:List α}{x:α}{w:α}(h:(l++[x])[j]?=some w):l[j]?=some w\/(j=l.length/\w=x):=by
 by_cases c:j < l.length
 . rw [bB c] at h;exact .inl h
 . rw [aS (aW.mp c)] at h;have e:j - l.length=0:=lL.mp (aE.mp h).1;rw [e] at h;cases h;exact .inr ⟨by exact Aj3 e c,rfl⟩
end
section
noncomputable def Ce(i c:Nat):List Val:=(bT c).map fun (j:Nat)=>.tup [.int (i:Int),.int (j:Int)]
noncomputable def cells(r c:Nat):List Val:=(bT r).flatMap fun i=>Ce i c
theorem Jg(r c:Nat):cells (r+1) c=cells r c++Ce r c:=by unfold cells;refine rwl hE ?_;simp
theorem Ix(i c:Nat):Ce i (c+1)=Ce i c++[.tup [.int (i:Int),.int (c:Int)]]:=by unfold Ce;refine rwl hE (rwl cD ?_);rfl
theorem Gs(r c:Nat):(cells r c).length=r * c:=by
 induction r with
 | zero=>simp [cells]
 | succ r ih=>rw [Jg];refine rwl aK (rwl ih ?_);rw [Ce,aM];refine rwl bV ?_;rw [oT]
theorem Np(K:Hp)(a b:HObj):(K++[a]).set K.length b=K++[b]:=by refine rwl (lB _ _ (aN _)) ?_;rw [iC];rfl
theorem Wr{r c:Nat}(hr:r<=30)(hc:c<=30):Wp (Ag T_14 (d+1) 3 [.int (r:Int),.int (c:Int)]) H (fun v H'=>v=.loc H.length/\H'=H++[.list (cells r c)]) NoE:=by
 have hlid:lid=16777216:=rfl;refine rwl (Aq (g:=Ag1) rfl rfl) ?_;refine Ak (fun v H'=>v=.loc H.length/\H'=H++[.list []]) ?_ ?_
 . simp only [↓E4,↓A3,and_self]
 rintro _ H1 ⟨rfl,e⟩;refine rwl e ?_;clear e H1;refine Bu (fun Γ H'=>∃ a b,Γ=[some (.int r),some (.int c),some (.loc H.length),a,b]/\H'=H++[.list (cells r c)]) ?_ ?_
 . refine Gr (n:=r) (fun k Γ K=>∃ a b,Γ=[some (.int r),some (.int c),some (.loc H.length),a,b]/\K=H++[.list (cells k c)]/\k<=r) ?_ ?_ ?_ ?_ ?_
   . simp only [↓A2,bA,cL,jI,bF,bP,bL,fV,fU,and_true,↓Ai]
   . exact Aj9 hr
   . exact ⟨_,_,rfl,rfl,bH _⟩
   . intro k Γ K hk zz;refine ex2 zz fun a b zz=>Ap zz fun zr2 zr3 _=>?_;subst zr2;subst zr3;refine Bu (fun Γ K=>∃ a b,Γ=[some (.int r),some (.int c),some (.loc H.length),a,b]/\K=H++[.list (cells (k+1) c)]/\k+1<=r) ?_ (fun Γ K h=>by skip;exact h);refine Gr (n:=c) (fun j Γ K=>∃ b,Γ=[some (.int r),some (.int c),some (.loc H.length),some (.int k),b]/\K=H++[.list (cells k c++Ce k j)]/\j<=c) ?_ ?_ ?_ ?_ ?_
     . simp only [↓A2,fV,fU,and_true,↓At,↓Ai]
     . exact Aj9 hc
     . exact ⟨_,rfl,by simp [Ce],bH _⟩
     . intro j Γ K hj zz;refine ex1 zz fun b zz=>Ap zz fun zr1 zr2 _=>?_;subst zr1;subst zr2;refine Dp (fun K'=>K'=H++[.list (cells k c++Ce k (j+1))]) ?_ ?_
       . refine Dz rfl (Ao H _) ?_;simp only [↓Gl,↓Am,↓A2,fV,fU,↓A3,↓At,↓Ai];refine ⟨_,Ao H _,?_,?_⟩
         . refine rwl aK ?_;rw [Gs,Ce,aM];refine rwl bV ?_;have:=fS (show k<=30 by exact aJ (aA (bS.mp hk) hr)) hc;exact hlid▸aB (eB this (aC (aJ (bS.mp hj)) hc)) (by decide)
         . rw [Np,bJ,<- Ix]
       . rintro K' hr1;refine rwr hr1 ?_;exact ⟨_,rfl,rfl,by exact bS.mp hj⟩
     . intro Γ K zz;refine ex1 zz fun b zz=>Ap zz fun zr1 e _=>?_;subst zr1;rw [bC,<- Jg] at e;exact ⟨_,_,rfl,e,by exact bS.mp hk⟩
   . intro Γ K zz;refine ex2 zz fun a b zz=>Ap zz fun e e' _=>?_;rw [bC] at e';exact ⟨a,b,e,e'⟩
 intro Γ K zz;refine ex2 zz fun a b zz=>Ad zz fun zr2 zr3=>?_;subst zr2;subst zr3;simp only [↓Ah,↓B8,↓Be,↓A2,↓At,↓Ai,and_self]
end
section
theorem Dq{i c n:Nat}(h:H[i]?=some (.inst c fs))(hf:fs.lookup n=some v):Wp (Jt (.loc i) n) H Q E=Q v H:=by
 have:Jt (.loc i) n H=.ok v H:=by unfold Jt;rw [Dl];simp only [h,hf]
 unfold Wp;exact rwl this rfl
theorem Fx{i c n:Nat}{Q:Unit->Hp->Prop}(h:H[i]?=some (.inst c fs)):Wp (Bv (.loc i) n v) H Q E=Q () (H.set i (.inst c (Th fs n v))):=by
 have:Bv (.loc i) n v H=.ok () (H.set i (.inst c (Th fs n v))):=by unfold Bv;simp only [h]
 unfold Wp;exact rwl this rfl
theorem Le{k:Int}{Q:Unit->Hp->Prop}(h:H[l]?=some (.list xs))(h0:0<=k)(h1:k < xs.length):Wp (Av (.loc l) (.int k) v) H Q E=Q () (H.set l (.list (xs.set k.toNat v))):=by
 have:Av (.loc l) (.int k) v H=.ok () (H.set l (.list (xs.set k.toNat v))):=by unfold Av;simp only [h];exact if_pos ⟨h0,h1⟩
 unfold Wp;exact rwl this rfl
theorem Et(h:H[l]?=some (.list xs)){k:Nat}(hk:xs[k]?=some v):Wp (Dh (.loc l) (.int (k:Int))) H Q E=Q v H:=by
 have lt:=(aE.mp hk).1;have:Dh (.loc l) (.int (k:Int)) H=.ok v H:=by unfold Dh;rw [Dl];simp only [h,V5 k xs.length lt,iJ,hk]
 unfold Wp;exact rwl this rfl
theorem Em{i c m k:Nat}{Q:Nat->Hp->Prop}(h:H[i]?=some (.inst c fs))(hk:T.meth c m=some k):Wp (C8 T (.loc i) m) H Q E=Q k H:=by
 have:C8 T (.loc i) m H=.ok k H:=by unfold C8;rw [Dl];simp only [h,hk]
 unfold Wp;exact rwl this rfl
theorem Iy(I:Nat->Env'->Hp->Prop)(hit:wpE T Φ it Γ H (fun v H'=>v=.loc l/\H'=H) NoE)(hl:H[l]?=some (.list xs))(h0:I 0 Γ H)(hx:∀ k Γ K,I k Γ K->K[l]?=some (.list xs))
 (hs:∀ k x Γ K,xs[k]?=some x->I k Γ K->wpSs T Φ body (Γ.set i (some x)) K (I (k+1)) R ES) (hd:∀ Γ K,I xs.length Γ K->QS Γ K):wpS T Φ (.each i it body) Γ H QS R ES:=by
 refine Dn (A9 hit ?_);rintro v H' ⟨hr0,e⟩;refine rwl hr0 ?_;refine rwl e ?_;rw [Bj (Bs hl)];exact B9 I h0 hd (fun k Γ K _ h=>Bz (hx k Γ K h)) fun k x Γ K hx h=>⟨_,rfl,hs k x Γ K hx h⟩
theorem Os(og:OkG r g)(G:GAt H l b s g)(hx:((bT g.length).map fun i=>Val.loc (b+s * i))[k]?=some x):∃ w,x=.loc (b+s * k)/\g[k]?=some w/\H[b+s * k]?=some (.list w)/\w.length=c/\∀ v∈w,HV v:=by
 have lt:k < g.length:=by have:=(aE.mp hx).1;simpa using this
 rw [G.item lt] at hx;cases hx;have hg:g[k]?=some g[k]:=aI lt;exact ⟨g[k],rfl,hg,G.row k _ hg,og.row k _ hg⟩
theorem Abm(g:Γ[k]?=some (some (.loc l)))(h:H[l]?=some (.list w))(e:w.length=n)(h1:1<=n)(h2:n<=30):wpE T_14 (Ag T_14 (d+1)) (.or (.not (.isinst (.var k) .list)) (.not (.call 0 (.cons (.bf .len (.cons (.var k) .nil)) (.cons (.int 1) (.cons (.glob 0) .nil)))))) Γ H (fun v K=>v=.bool false/\H=K) NoE:=by rw [Ea,Cj,B7];refine rwl (wvr g) (rwl (Kz _ _ h) ?_);rw [Ab];rw [Ab];show wpE _ _ _ _ _ _ _;rw [Cj,Ax,Am,Fs];refine rwl (wcv g) (rwl A3 (rwl (As h) ?_));rw [Am,A7,Am,wp_glob];refine rwl Aeg ?_;rw [Bi];refine rwl A3 (rwl e (rwl (Iv (dD.mpr h1) (dD.mpr h2)) ?_));exact ⟨rfl,rfl⟩
theorem Aeh(hS:OkS r c)(og:OkG r g)(G:GAt H l b s g)(q:∀ a,QS [some (.loc l),a] H):wpS T_14 (Ag T_14 (d+1)) (.each 1 (.var 0) zT12) [some (.loc l),x1] H QS R NoX:=by
 unfold OkS at hS;obtain ⟨I,hI⟩:=Fe (fun (k:Nat) (Γ:Env') (K:Hp)=>H=K/\∃ a,Γ=[some (.loc l),a]);refine Iy I ⟨rfl,rfl⟩ G.top ((hI _ _ _).mpr ⟨rfl,_,rfl⟩) (fun k Γ K h=>by refine rwr (((hI _ _ _).mp h).1) ?_;exact G.top) ?_ ?_
 . intro k x Γ K hx h;refine Ad ((hI _ _ _).mp h) fun zr0 zz=>ex1 zz fun a zr2=>?_;subst zr0;subst zr2;refine ex1 (Os og G hx) fun w zz=>G7 zz fun hr0 hg hr lw _=>?_;refine rwl hr0 ?_;exact B5 _ (Abm rfl hr lw hS.2.2.1 hS.2.2.2) fun K h=>(hI _ _ _).mpr ⟨h,_,rfl⟩
 . intro Γ K h;refine Ad ((hI _ _ _).mp h) fun zr0 zz=>ex1 zz fun a zr2=>?_;subst zr0;subst zr2;exact q a
theorem Ag7(hS:OkS r c)(og:OkG r g)(G:GAt H l b s g)(q:∀ a,QS [some (.loc l),a] H):wpS T_14 (Ag T_14 (d+1)) (.each 1 (.var 0) zT15) [some (.loc l),x1] H QS R NoX:=by
 unfold OkS at hS;obtain ⟨x0,hx0⟩:∃ x,((bT g.length).map fun i=>Val.loc (b+s * i))[0]?=some x:=⟨_,aI (by rw [aM];refine rwl bV (rwl og.len ?_);exact Aka hS)⟩;refine ex1 (Os og G hx0) fun w0 zz=>G7 zz fun zr1 _ hr0 lw0 _=>?_;subst zr1;obtain ⟨I,hI⟩:=Fe (fun (k:Nat) (Γ:Env') (K:Hp)=>H=K/\∃ a,Γ=[some (.loc l),a]);refine Iy I ⟨rfl,rfl⟩ G.top ((hI _ _ _).mpr ⟨rfl,_,rfl⟩) (fun k Γ K h=>by refine rwr (((hI _ _ _).mp h).1) ?_;exact G.top) ?_ ?_
 . clear q;intro k x Γ K hx h;refine Ad ((hI _ _ _).mp h) fun zr0 zz=>ex1 zz fun a zr2=>?_;subst zr0;subst zr2;refine ex1 (Os og G hx) fun w zz=>G7 zz fun hr1 hg hr lw _=>?_;refine rwl hr1 ?_;refine B5 (fun K=>H=K) ?_ fun K h=>(hI _ _ _).mpr ⟨h,_,rfl⟩;show Wp (bfV .len [.loc (b+s * k)]) H _ _;refine rwl (As hr) ?_;show Wp (Dh (.loc l) (.int ((0:Nat):Int))) H _ _;refine rwl (Et G.top hx0) ?_;show Wp (bfV .len [.loc (b+s * 0)]) H _ _;refine rwl (As hr0) (rwl lw (rwl lw0 ?_));rw [Oi];refine rwl (decide_eq_true rfl) ?_;exact ⟨rfl,rfl⟩
 . intro Γ K h;refine Ad ((hI _ _ _).mp h) fun zr0 zz=>ex1 zz fun a zr2=>?_;subst zr0;subst zr2;exact q a
theorem Zq(hS:OkS r c)(og:OkG r g)(G:GAt H l b s g):Wp (Ag T_14 (d+2) 5 [.loc l]) H (fun v H'=>v=.none/\H'=H) NoE:=by have hS':=hS;unfold OkS at hS';refine rwl (Aq (g:=Ad8) rfl rfl) ?_;rw [Ad8];refine B5 _ (Abm rfl G.top (show _=r by rw [aM];exact rwl bV (rwl og.len rfl)) hS'.1 hS'.2.1) ?_;rintro _ rfl;rw [Ah];refine Aeh hS og G fun a=>?_;rw [Ah];exact Ag7 hS og G fun a=>⟨rfl,rfl⟩
structure LandAt(H:Hp)(o lg b s ls:Nat)(g:List (List Val))(es:List (Key × Val)):Prop where
 inst:∃ fs,H[o]?=some (.inst 7 fs)/\fs.lookup 0=some (.int (r:Int))/\fs.lookup 1=some (.int (c:Int))/\fs.lookup 2=some (.loc lg)/\fs.lookup 3=some (.loc ls)
 grid:GAt H lg b s g
 sinks:H[ls]?=some (.dict es)
theorem LandAt.ext(x:LandAt H o lg b s ls g es)(e:Ext H H'):LandAt H' o lg b s ls g es:=by refine ex1 x.inst fun fs zz=>Ad zz fun h1 h2=>?_;exact ⟨⟨fs,e.get h1,h2⟩,x.grid.ext e,e.get x.sinks⟩
structure But(l:Nat)(H H':Hp):Prop where
 keep:∀ m ob,m≠l->H[m]?=some ob->H'[m]?=some ob
 len:H.length<=H'.length
theorem Zr(og:OkG r g)(G:GAt H l b s g)(q:∀ a b,QS [some (.loc o),some (.loc l),a,b] H) :
 wpS T_14 (Ag T_14 (d+2)) (.each 2 (.var 1) zT16) [some (.loc o),some (.loc l),none,none] H QS R NoX:=by
 obtain ⟨I,hI⟩:=Fe (fun (k:Nat) (Γ:Env') (K:Hp)=>H=K/\∃ a b,Γ=[some (.loc o),some (.loc l),a,b]);refine Iy I ⟨rfl,rfl⟩ G.top ((hI _ _ _).mpr ⟨rfl,_,_,rfl⟩) (fun k Γ K h=>by refine rwr (((hI _ _ _).mp h).1) ?_;exact G.top) ?_ ?_
 . clear q;intro k x Γ K hx h;refine Ad ((hI _ _ _).mp h) fun zr0 zz=>ex2 zz fun a b' zr3=>?_;subst zr0;subst zr3;refine ex1 (Os og G hx) fun w zz=>G7 zz fun hr0 hg hr lw hw=>?_;refine rwl hr0 ?_;refine Iy I ⟨rfl,rfl⟩ hr ((hI _ _ _).mpr ⟨rfl,_,_,rfl⟩) (fun k Γ K h=>by refine rwr (((hI _ _ _).mp h).1) ?_;exact hr) ?_ (fun Γ K h=>(hI _ _ _).mpr ((hI _ _ _).mp h));intro j v Γ K2 hv h;refine Ad ((hI _ _ _).mp h) fun zr0 zz=>ex2 zz fun a b' zr3=>?_;subst zr0;subst zr3;refine B5 (fun K=>H=K) ?_ (fun K h=>(hI _ _ _).mpr ⟨h,_,_,rfl⟩);rw [Cj,Ax];refine rwl (wcv (v:=v) rfl) (rwl A3 (rwl (Mh (hw v (aH hv))) ?_));exact ⟨rfl,rfl⟩
 . intro Γ K h;refine Ad ((hI _ _ _).mp h) fun zr0 zz=>ex2 zz fun a b zr3=>?_;subst zr0;subst zr3;exact q a b
theorem Zs(hS:OkS r c)(og:OkG r g)(G:GAt H l b s g)(ho:H[o]?=some (.inst 7 [])) :
 Wp (Ag T_14 (d+3) 23 [.loc o,.loc l]) H (fun v H'=>v=.none/\But o H H'/\∃ lg b' ls,LandAt H' o lg b' 1 ls g []/\H.length<=b'/\lg=b'+r/\H.length<=ls) NoE:=by
 have hS':=hS;unfold OkS at hS';have len:((bT g.length).map fun i=>Val.loc (b+s * i)).length=r:=by rw [aM];exact rwl bV (rwl og.len rfl)
 have ne:∀ k w,g[k]?=some w->o≠b+s * k:=fun k w hg q=>by have:=G.row k w hg;rw [<- q,ho] at this;cases this
 have nl:o≠l:=fun q=>by have:=G.top;rw [<- q,ho] at this;cases this
 have G1:∀ ob,GAt (H.set o ob) l b s g:=fun ob=>G.other ob nl fun i hi=>ne i g[i] (aI hi);refine rwl (Aq (g:=Aba) rfl rfl) ?_;refine Dp (fun K=>H=K) ?_ ?_
 . exact (Zq hS og G).then fun v H' h=>h.2.symm
 rintro _ hr0;refine rwr hr0 ?_;refine Zr og G fun a b'=>?_;obtain ⟨x0,hx0⟩:∃ x,((bT g.length).map fun i=>Val.loc (b+s * i))[0]?=some x:=⟨_,aI (by skip;exact aA (aA (by decide:0 < 1) hS'.1) (aD len.symm))⟩;refine ex1 (Os og G hx0) fun w0 zz=>G7 zz fun zr1 hg0 hr0 lw0 _=>?_;subst zr1;show Wp (bfV .len [.loc l]) H _ _;refine rwl (As G.top) (rwl len ?_);show Wp (Bv (.loc o) 0 (.int (r:Int))) H _ _;refine rwl (Fx ho) ?_;show Wp (Dh (.loc l) (.int ((0:Nat):Int))) _ _ _;refine rwl (Et (G1 _).top hx0) ?_;show Wp (bfV .len [.loc (b+s * 0)]) _ _ _;refine rwl (As ((G1 _).row 0 w0 hg0)) (rwl lw0 ?_);show Wp (Bv (.loc o) 1 (.int (c:Int))) _ _ _;refine rwl (Fx (Bl _ ho)) ?_;rw [oN];refine Qb (l:=l) (b:=b) (s:=s) (g:=g) rfl (G1 _) (by refine rwl og.len ?_;show r < 16777216;exact aB hS'.2.1 (by decide:30 < 16777216)) ⟨rfl,rfl⟩ ?_;intro K2 e2 G2 hK2;rw [bW] at G2 hK2 ⊢;have o2:=e2.get (Bl (HObj.inst 7 [(0,Val.int (r:Int)),(1,Val.int (c:Int))]) ho);have lo:o < H.length:=A4 ho;have e3:∀ (X:Hp) (ob:HObj),Ext X (X++[ob]):=fun X ob=>⟨_,rfl⟩;show Wp (Bv (.loc o) 2 (.loc (H.length+g.length))) K2 _ _;refine rwl (Fx o2) ?_;show Wp (Bv (.loc o) 3 _) (_++[.dict []]) _ _;refine rwl (Fx ((e3 _ _).get (Bl _ o2))) ?_;have G3:∀ (X:Hp) (ob:HObj),GAt X (H.length+g.length) H.length 1 g->GAt (X.set o ob) (H.length+g.length) H.length 1 g:=fun X ob x=>x.other ob (dB (aA lo (aG _ _))) fun i _=>by exact dB (aA lo (aG _ _))
 refine ⟨rfl,⟨fun m ob hm h=>?_,?_⟩,H.length+g.length,H.length,K2.length,⟨⟨_,Bl _ ((e3 _ _).get (Bl _ o2)),rfl,rfl,rfl,?_⟩,G3 _ _ ((G3 _ _ G2).ext (e3 _ _)),?_⟩,aN _,by exact rwl og.len rfl,by exact aJ (aB (aG _ _) (aD hK2.symm))⟩
 . exact Al _ (gO hm) ((e3 _ _).get (Al _ (gO hm) (e2.get (Al _ (gO hm) h))))
 . refine rwl bW (rwl aK (rwl bW ?_));exact aJ (aA (aB (aG _ _) (aD hK2.symm)) (aG _ _))
 . refine rwl bW ?_;rfl
 . refine Al _ (dB (aR (aA lo (aG _ _)) (aD hK2.symm))) ?_;have:=Ao (K2.set o (HObj.inst 7 (Th [(0,Val.int (r:Int)),(1,Val.int (c:Int))] 2 (Val.loc (H.length+g.length))))) (.dict []);rw [bW] at this;exact this
end
section
theorem Ws(h:∀ (m:Nat) (ob:HObj),H[m]?=some ob->H'[m]?=some ob):Ext H H':=by
 refine ⟨H'.drop H.length,eZ fun i=>?_⟩;by_cases c:i < H.length
 . refine rwl (bB c) (rwl (aI c) ?_);exact h i _ (aI c)
 . exact rwl (aS (aW.mp c)) (rwl jP (rwl (show H.length+(i - H.length)=i by exact bG (aW.mp c)) rfl))
theorem Aei(hS:OkS r c)(og:OkG r g)(G:GAt H l b s g):Wp (Rv T_14 (Ag T_14 (d+3)) 7 [.loc l]) H (fun v H'=>v=.loc H.length/\Ext H H'/\∃ lg b' ls,LandAt H' H.length lg b' 1 ls g []/\H.length < b'/\lg=b'+r/\H.length < ls) NoE:=by
 show Wp ((M.alloc (.inst 7 [])).bnd fun o=>(Ag T_14 (d+3) 23 [o,.loc l]).bnd fun r=>match r with
  | .none=>.ret o
  | _=>.bad) H _ _
 rw [Aw,Zg,Aw];have e0:Ext H (H++[HObj.inst 7 []]):=⟨_,rfl⟩;refine (Zs hS og (G.ext e0) (Ao H _)).then ?_;intro v H' zz;refine Ap zz fun zr0 bt zz=>ex3 zz fun lg b' ls zz=>Cf zz fun L h1 h2 h3=>?_;subst zr0;rw [aK,gH] at h1 h3;refine ⟨rfl,Ws fun m ob hm=>bt.keep m ob (dB (A4 hm)) (e0.get hm),lg,b',ls,L,h1,h2,h3⟩
theorem Qc(og:OkG r g)(hr:r<=30)(L:LandAt H o lg b s ls g es):Wp (Ag T_14 (d+1) 28 [.loc o]) H (fun v H'=>v=.loc (H.length+r)/\Ext H H'/\GAt H' (H.length+r) H.length 1 g) NoE:=by
 have hlid:lid=16777216:=rfl;refine ex1 L.inst fun fs zz=>G7 zz fun h0 h1 h2 h3 h4=>?_;refine rwl (Aq (g:=Wg) rfl rfl) ?_;rw [Wg];simp only [bA,cL,bF,bP,bL,↓Ah,↓B8,↓Be];refine Qb (l:=lg) (b:=b) (s:=s) (g:=g) rfl L.grid (by refine rwl og.len ?_;exact Ahs hlid hr) ?_ ?_
 . simp only [↓Eg,↓A2,↓Ai];refine rwl (Dq h0 h3) ?_;exact ⟨rfl,rfl⟩
 . intro K e G _;rw [og.len] at G ⊢;exact ⟨rfl,e,G⟩
noncomputable def inD(es:List (Key × Val))(x:Val):Bool:=match C1 x with
 | some k=>(C3 es k).isSome
 | none=>false
theorem J6{r c:Nat}(h:x∈cells r c):∃ i j:Nat,x=.tup [.int (i:Int),.int (j:Int)]/\i < r/\j < c:=by unfold cells Ce at h;refine ex1 (mQ.mp h) fun i zz=>Ad zz fun hi h=>?_;refine ex1 (cC.mp h) fun j zz=>Ad zz fun hj h=>?_;exact ⟨i,j,h.symm,eV.mp hi,eV.mp hj⟩
theorem Aej(h:H[ls]?=some (.dict es)):Cu .isin (.tup [.int i,.int j]) (.loc ls) H=some (inD es (.tup [.int i,.int j])):=by have e:Cu .isin (.tup [.int i,.int j]) (.loc ls) H=inV (.tup [.int i,.int j]) (.loc ls) H:=rfl;refine rwl e ?_;unfold inV;simp only [h];rfl
theorem Eb{α:Type}{l:List α}{x:α}(h:l[k]?=some x):l.take (k+1)=l.take k++[x]:=by refine rwl mF (rwl h ?_);rfl
theorem Mk(hr:r<=30)(hc:c<=30)(L:LandAt H o lg b s ls g es):Wp (Ag T_14 (d+2) 27 [.loc o]) H (fun v H'=>∃ m,v=.loc m/\H.length<=m/\Ext H H'/\H'[m]?=some (.list ((cells r c).filter (inD es)))) NoE:=by
 have hlid:lid=16777216:=rfl;refine ex1 L.inst fun fs zz=>G7 zz fun h0 h1 h2 h3 h4=>?_;refine rwl (Aq (g:=Wf) rfl rfl) ?_;rw [Wf];simp only [bA,cL,bF,bP,bL,↓Ah,↓B8,↓Be];refine Kv ?_;simp only [↓Ax,↓Am,↓Eg,↓A2,↓Ai,↓A3,bP,bL];refine rwl (Dq h0 h1) (rwl (Dq h0 h2) ?_);refine (Wr hr hc).then ?_;rintro v K ⟨rfl,e⟩;refine rwl e ?_;clear e K;have e0:Ext H (H++[HObj.list (cells r c)]):=⟨_,rfl⟩;rw [Bj (Bs (Ao H _))];refine Iw (fun k out K=>K=H++[.list (cells r c)]/\out=((cells r c).take k).filter (inD es)) ⟨rfl,rfl⟩ ?_ ?_ ?_
 . rintro k out K ⟨rfl,_⟩;exact Bz (Ao H _)
 . rintro k x out K hx ⟨rfl,rfl⟩;refine ex2 (J6 (aH hx)) fun i j zz=>Ap zz fun zr2 _ _=>?_;subst zr2;refine wp_step ?_;simp only [↓Au,↓A2,↓At,↓Ai,↓Eg,↓Ab];refine rwl (Dq (e0.get h0) h4) ?_;rw [Bj (Aej (e0.get L.sinks))];simp only [true_and];refine rwl (Eb hx) ?_;rw [fW];refine Dm ?_ ?_
   . intro q;refine rwl (hV q) ?_;rfl
   . intro q;refine rwl (hW (by rw [q];exact dH)) ?_;rfl
 . rintro zs K ⟨rfl,rfl⟩;have tl:(cells r c).take (cells r c).length=cells r c:=dS;refine ⟨?_,_,rfl,by refine rwl aK ?_;exact o64,e0.new _,?_⟩
   . refine aB (cV _ _) ?_;refine rwl tl ?_;rw [Gs];have:=fS hr hc;exact hlid▸aB this (by decide)
   . rw [Ao];exact rwl tl rfl
theorem J7(hi:i < r)(hj:j < c)(L:LandAt H o lg b s ls g es):Wp (Ag T_14 (d+3) 24 [.loc o,.tup [.int (i:Int),.int (j:Int)]]) H (fun v H'=>v=.none/\H'=H) NoE:=by
 refine ex1 L.inst fun fs zz=>G7 zz fun h0 h1 h2 h3 h4=>?_;refine rwl (Aq (g:=Wb) rfl rfl) ?_;rw [Wb];refine B5 (fun H'=>H'=H) ?_ ?_
 . simp only [↓Cj,↓Ax,↓Am,↓Eg,↓A2,bA,cL,bF,bP,bL,↓A3,↓At,↓Ai];refine rwl (Dq h0 h1) (rwl (Dq h0 h2) (rwl (Ri Mr (Xg hi) Mr (Xg hj)) ?_));simp only [↓Ab,fP,and_self]
 . rintro H' hr0;refine rwl hr0 ?_;refine rwl Cn ?_;exact ⟨rfl,rfl⟩
theorem J8{o i j:Nat}{P:Hp->Prop}(h0:H[o]?=some (.inst 7 fs))(h:Wp (Ag T_14 d 24 [.loc o,.tup [.int (i:Int),.int (j:Int)]]) H (fun v H'=>v=.none/\H'=H) NoE)(p:P H)(g0:Γ[0]?=some (some (.loc o)))(g1:Γ[1]?=some (some (.tup [.int (i:Int),.int (j:Int)]))) :
 wpE T_14 (Ag T_14 d) (.umeth (.var 0) 1 (.cons (.var 1) .nil)) Γ H (fun _ H'=>P H') NoE:=by
 rw [Bt,A2,Fr];refine rwl g0 ?_;show Wp (C8 T_14 (.loc o) 1) H _ _;refine rwl (Em h0 (show T_14.meth 7 1=some 24 from rfl)) ?_;rw [Am,A2,Fr];refine rwl g1 ?_;show wpEs _ _ _ _ _ _ _;refine rwl A3 ?_;exact h.then fun v H' e=>e.2▸p
theorem Ot(hi:i < r)(hj:j < c)(L:LandAt H o lg b s ls g es)(hw:g[i]?=some w)(hx:w[j]?=some x) :
 Wp (Ag T_14 (d+4) 25 [.loc o,.tup [.int (i:Int),.int (j:Int)]]) H (fun v H'=>v=x/\H'=H) NoE:=by
 refine ex1 L.inst fun fs zz=>G7 zz fun h0 h1 h2 h3 h4=>?_;refine rwl (Aq (g:=Wc) rfl rfl) ?_;rw [Wc];refine Dp (fun H'=>H'=H) (J8 (P:=fun K=>K=H) h0 (J7 hi hj L) rfl rfl rfl) ?_;rintro H' hr0;refine rwl hr0 ?_;simp only [↓Ah,↓B8,↓Be,↓Bd,↓Eg,↓A2,bA,cL,bF,bP,bL,↓A7,↓At,↓Ai,↓Fv,↓Fu];refine rwl (Dq h0 h3) (rwl (Et L.grid.top (L.grid.item (aE.mp hw).1)) (rwl (Et (L.grid.row i w hw) hx) ?_));exact ⟨rfl,rfl⟩
theorem Ta(hi:i < r)(hj:j < c)(L:LandAt H o lg b s ls g es)(hw:g[i]?=some w)(hx:w[j]?=some (.int n))(he:es.length < lid) :
 Wp (Ag T_14 (d+4) 26 [.loc o,.tup [.int (i:Int),.int (j:Int)]]) H (fun v H'=>v=.none/\H'=H.set ls (.dict (E2 es ((i:Int),(j:Int)) (.bool true)))) NoE:=by
 refine ex1 L.inst fun fs zz=>G7 zz fun h0 h1 h2 h3 h4=>?_;refine rwl (Aq (g:=We) rfl rfl) ?_;rw [We];refine Dp (fun H'=>H'=H) (J8 (P:=fun K=>K=H) h0 (J7 hi hj L) rfl rfl rfl) ?_;rintro H' rfl;refine B5 (fun K=>K=H') ?_ ?_
 . simp only [↓Au,↓Bd,↓Eg,↓A2,bA,cL,bF,bP,bL,↓A7,↓Ef,↓At,↓Ai,↓Fv,↓Fu];refine rwl (Dq h0 h3) (rwl (Et L.grid.top (L.grid.item (aE.mp hw).1)) (rwl (Et (L.grid.row i w hw) hx) ?_));simp only [↓Do,and_self]
 rintro K rfl;simp only [↓Ah,↓Bk,↓Gk,↓Eg,↓A2,bA,cL,bF,bP,bL,↓Cn,true_and,↓At,↓Ai];refine rwl (Dq h0 h4) ?_;refine Wp.of_eq (a:=()) (H':=K.set ls (.dict (E2 es ((i:Int),(j:Int)) (.bool true)))) ?_ rfl;unfold Av;simp only [L.sinks];exact if_pos he
end
end Mine.Internal.Pure
namespace Mine.Internal.Pure
open PySem Pile
noncomputable def ent(l:Int)(k:Key):Val:=.tup [.int l,.tup [.int k.1,.int k.2]]
theorem Wt(h:ent l k=ent l' k'):l=l'/\k=k':=by obtain ⟨a,b⟩:=k;obtain ⟨c,d⟩:=k';unfold ent at h;injection h with h;injection h with h1 h2;injection h1 with h1;injection h2 with h2 _;injection h2 with h2;injection h2 with h2 h3;injection h3 with h3 _;injection h2 with h2;injection h3 with h3;exact ⟨h1,iY h2 h3⟩
theorem Wu(l:Int)(k:Key):DC (ent l k):=⟨l,k.1,k.2,rfl⟩
noncomputable def mx(a b:Int):Int:=if b > a then b else a
theorem Aje(a b:Int):a<=mx a b:=by
 unfold mx;by_cases q:b > a
 . refine rwl (if_pos q) ?_;exact iG q
 . refine rwl (if_neg q) ?_;exact jG _
theorem Ae9(a b:Int):b<=mx a b:=by
 unfold mx;by_cases q:b > a
 . refine rwl (if_pos q) ?_;exact jG _
 . refine rwl (if_neg q) ?_;exact eI.mp q
theorem Ajf{a b c:Int}(h1:a<=c)(h2:b<=c):mx a b<=c:=by
 unfold mx;by_cases q:b > a
 . refine rwl (if_pos q) ?_;exact h2
 . refine rwl (if_neg q) ?_;exact h1
theorem Wv(a:Int){b c:Int}(h:b<=c):mx a b<=mx a c:=Ajf (Aje a c) (cW h (Ae9 a c))
noncomputable def Qd(i j:Int):List Key:=[(i - 1,j),(i,j - 1),(i,j+1),(i+1,j)]
noncomputable def Adj(k q:Key):Prop:=q∈Qd k.1 k.2
theorem Adj.symm(h:Adj k q):Adj q k:=by
 obtain ⟨i,j⟩:=k;have h:q∈[(i - 1,j),(i,j - 1),(i,j+1),(i+1,j)]:=h;rcases bO.mp h with rfl | h
 . exact .tail _ (.tail _ (.tail _ (aT.mpr (by rw [qG]))))
 rcases bO.mp h with rfl | h
 . exact .tail _ (.tail _ (bO.mpr (.inl (by rw [qG]))))
 rcases bO.mp h with rfl | h
 . exact .tail _ (bO.mpr (.inl (by rw [mD])))
 cases aT.mp h;exact bO.mpr (.inl (by rw [mD]))
inductive Rc(h:Key->Option Int)(D:Key->Prop):Key->Int->Prop
 | drain {k:Key} {a:Int}:D k->h k=some a->Rc h D k a
 | step {p q:Key} {f a:Int}:Rc h D p f->Adj p q->h q=some a->Rc h D q (mx a f)
theorem Rc.hi(x:Rc h D k f):∃ a,h k=some a/\a<=f:=by
 cases x with
 | drain d e=>exact ⟨_,e,jG _⟩
 | step r n e=>exact ⟨_,e,Aje _ _⟩
theorem Rc.mono(i:∀ k,D k->D' k)(x:Rc h D k f):Rc h D' k f:=by
 induction x with
 | drain d e=>exact .drain (i _ d) e
 | step r n e ih=>exact .step ih n e
structure Lv(h:Key->Option Int)(D:Key->Prop)(F:Key->Option Int):Prop where
 snd:∀ k f,F k=some f->Rc h D k f
 low:∀ k f,Rc h D k f->∃ f',F k=some f'/\f'<=f
theorem Tb{v:Val}(h:xs.Nodup)(n:¬v∈xs):(xs++[v]).Nodup:=by rw [jV];refine ⟨h,by simp,fun a ha b hb e=>?_⟩;cases aT.mp hb;exact n (e▸ha)
noncomputable def upd(F:Key->Option Int)(q:Key)(v:Int)(k:Key):Option Int:=if k=q then some v else F k
theorem D6(F:Key->Option Int)(q:Key)(v:Int):upd F q v q=some v:=if_pos rfl
theorem Hf(F:Key->Option Int)(v:Int)(h:k≠q):upd F q v k=F k:=if_neg h
theorem Ag8{α:Type}{f g:α->Nat}(le:∀ q,f q<=g q):∀ (l:List α),(l.map f).sum<=(l.map g).sum:=by
 intro l;induction l with
 | nil =>exact aN _
 | cons x l ihh =>refine rwl bA (rwl bA (rwl oF (rwl oF ?_)));exact eB (le x) (ihh)
theorem Abn{α:Type}{f g:α->Nat}(le:∀ q,f q<=g q){k:α}(lt:f k < g k):∀ (l:List α),k∈l->(l.map f).sum < (l.map g).sum:=by
 intro l h;induction h with
 | head l=>exact Nat.add_lt_add_of_lt_of_le lt (Ag8 le l)
 | tail x _ ihh=>exact cT (le x) ihh
theorem Lg{α:Type}{f:α->Nat}(h:∀ q,f q<=n):∀ (l:List α),(l.map f).sum<=l.length * n:=by
 intro l;induction l with
 | nil =>exact bH _
 | cons x l ihh =>refine rwl bA (rwl oF (rwl cM ?_));rw [oT,fZ];exact eB (ihh) (h x)
noncomputable def below(h:Key->Option Int)(f:Int)(q:Key):Nat:=match h q with
 | some a=>if a < f then 1 else 0
 | none=>0
theorem Rj(h:Key->Option Int)(f:Int)(q:Key):below h f q<=1:=by
 unfold below;cases h q with
 | none=>exact bH _
 | some a =>
  dsimp only;by_cases c:a < f
  . refine rwl (if_pos c) ?_;exact aN _
  . refine rwl (if_neg c) ?_;exact bH _
theorem Tc(l:f<=f')(q:Key):below h f q<=below h f' q:=by
 unfold below;cases h q with
 | none=>exact aN _
 | some a =>
  dsimp only;by_cases c:a < f
  . refine rwl (if_pos c) (rwl (if_pos (gA c l)) ?_);exact aN _
  . refine rwl (if_neg c) ?_;exact bH _
noncomputable def rnk(h:Key->Option Int)(ks:List Key):Option Int->Nat
 | some f=>(ks.map (below h f)).sum
 | none=>ks.length+1
theorem Ag9(h:Key->Option Int)(ks:List Key)(o:Option Int):rnk h ks o<=ks.length+1:=by
 cases o with
 | none=>exact aN _
 | some f =>have:=Lg (Rj h f) ks;show (ks.map (below h f)).sum<=_;exact aJ (aB (aC this (aD (uA _))) (bQ _))
theorem Abo(new:∀ f,o=some f->v < f)(is:∃ q∈ks,h q=some v):rnk h ks (some v) < rnk h ks o:=by
 cases o with
 | none =>have:=Lg (Rj h v) ks;show (ks.map (below h v)).sum < ks.length+1;exact iD (aC this (aD (uA _)))
 | some f =>refine ex1 is fun q zz=>Ad zz fun hq e=>?_;have l:=new f rfl;refine Abn (Tc (iG l)) (k:=q) ?_ ks hq;unfold below;refine rwl e ?_;dsimp only;refine rwl (if_neg (gJ v)) (rwl (if_pos l) ?_);exact dR
noncomputable def mu(h:Key->Option Int)(ks:List Key)(F:Key->Option Int):Nat:=(ks.map fun k=>rnk h ks (F k)).sum
theorem Ajg(h:Key->Option Int)(ks:List Key)(F:Key->Option Int):mu h ks F<=ks.length * (ks.length+1):=Lg (fun k=>Ag9 h ks (F k)) ks
theorem Aha(hk:k∈ks)(new:∀ f,F k=some f->v < f)(is:∃ q∈ks,h q=some v):mu h ks (upd F k v) < mu h ks F:=by
 have lt:=Abo (ks:=ks) new is;refine Abn (fun q=>?_) (k:=k) ?_ ks hk
 . by_cases e:q=k
   . refine rwl e ?_;rw [D6];exact aJ lt
   . refine rwl (Hf _ _ e) ?_;exact aN _
 . rw [D6];exact lt
theorem Rc.isH(x:Rc h D k f):∃ q,h q=some f:=by
 induction x with
 | drain d e=>exact ⟨_,e⟩
 | @step p q f a r n e ih =>
  unfold mx;by_cases c:f > a
  . refine rwl (if_pos c) ?_;exact ih
  . refine rwl (if_neg c) ?_;exact ⟨_,e⟩
structure Fl(h:Key->Option Int)(D:Key->Prop)(O:Key->Key->Prop)(F:Key->Option Int)(xs:List Val):Prop where
 ents:∀ x∈xs,∃ l k f,x=ent l k/\F k=some f
 drain:∀ k a,D k->h k=some a->∃ f,F k=some f/\f<=a
 snd:∀ k f,F k=some f->Rc h D k f
 near:∀ p fp,F p=some fp->ent fp p∈xs\/∀ q,Adj p q->¬O p q->∀ a,h q=some a->∃ fq,F q=some fq/\fq<=mx a fp
section
theorem Fl.perm(x:Fl h D O F xs)(p:ys.Perm xs):Fl h D O F ys :=
 ⟨fun y hy=>x.ents y (p.mem_iff.mp hy),x.drain,x.snd,fun k f hf=>(x.near k f hf).imp p.mem_iff.mpr id⟩
theorem Fl.start:Fl h (fun _=>False) O (fun _=>none) []:=⟨fun y hy=>(nomatch hy),fun k a hk=>hk.elim,fun k f hf=>(nomatch hf),fun p fp hf=>nomatch hf⟩
theorem Jh(hf:upd F q a k=some f):(k=q/\f=a)\/(k≠q/\F k=some f):=by
 by_cases e:k=q
 . rw [e,D6] at hf;cases hf;exact .inl ⟨e,rfl⟩
 . rw [Hf _ _ e] at hf;exact .inr ⟨e,hf⟩
theorem Ou(new:∀ f,F q=some f->v<=f)(hf:F k=some f):∃ f',upd F q v k=some f'/\f'<=f:=by
 by_cases e:k=q
 . refine rwl e ?_;rw [D6];exact ⟨v,rfl,new f (e▸hf)⟩
 . refine rwl (Hf _ _ e) ?_;exact ⟨f,hf,jG _⟩
theorem Fl.held(x:Fl h D O F xs)(new:∀ f,F q=some f->v<=f):∀ y∈xs++[ent v q],∃ l k f,y=ent l k/\upd F q v k=some f:=fun y hy=>by
 rcases bM.mp hy with hy | hy
 . refine ex3 (x.ents y hy) fun l k f zz=>Ad zz fun e hf=>?_
   refine ex1 (Ou new hf) fun f' zz=>Ad zz fun hf' _=>?_
   exact ⟨l,k,f',e,hf'⟩
 . exact ⟨v,q,v,aT.mp hy,D6 _ _ _⟩
theorem Fl.opened(x:Fl h D O F xs)(hF:F q=none)(ha:h q=some a):Fl h (fun k=>D k\/k=q) O (upd F q a) (xs++[ent a q]):=by
 have new:∀ f,F q=some f->a<=f:=fun f e=>by rw [hF] at e;exact nomatch e
 refine ⟨x.held new,fun k b hk hb=>?_,fun k f hf=>?_,fun p fp hf=>?_⟩
 . rcases hk with hk | hk
   . refine ex1 (x.drain k b hk hb) fun f zz=>Ad zz fun hf le=>?_;refine ex1 (Ou new hf) fun f' zz=>Ad zz fun hf' le'=>?_;exact ⟨f',hf',cW le' le⟩
   . rw [hk] at hb ⊢;rw [ha] at hb;cases hb;exact ⟨a,D6 _ _ _,jG _⟩
 . rcases Jh hf with ⟨e1,e2⟩ | ⟨_,hf⟩
   . refine rwl e1 (rwl e2 ?_);exact .drain (.inr rfl) ha
   . exact (x.snd k f hf).mono fun _ d=>.inl d
 . rcases Jh hf with ⟨e1,e2⟩ | ⟨_,hf⟩
   . refine rwl e1 (rwl e2 ?_);exact .inl (bM.mpr (.inr (aT.mpr rfl)))
   . refine (x.near p fp hf).imp (fun m=>bM.mpr (.inl m)) fun n q' hq' ho b hb=>?_;refine ex1 (n q' hq' ho b hb) fun fq zz=>Ad zz fun h1 h2=>?_;refine ex1 (Ou new h1) fun f' zz=>Ad zz fun hf' le'=>?_;exact ⟨f',hf',cW le' h2⟩
theorem Fl.stale(x:Fl h D O F (ent L p :: t))(hF:F p≠some L):Fl h D O F t:=by
 refine ⟨fun y hy=>x.ents y (.tail _ hy),x.drain,x.snd,fun k f hf=>(x.near k f hf).imp (fun m=>?_) id⟩;rcases bO.mp m with e | e
 . obtain ⟨rfl,rfl⟩:=Wt e;exact absurd hf hF
 . exact e
theorem Fl.pop(x:Fl h D (fun _ _=>False) F (ent L p :: t)):Fl h D (fun p' _=>p'=p) F t:=by
 refine ⟨fun y hy=>x.ents y (.tail _ hy),x.drain,x.snd,fun k f hf=>?_⟩;rcases x.near k f hf with m | n
 . rcases bO.mp m with e | e
   . exact .inr fun q _ ho=>absurd (Wt e).2 ho
   . exact .inl e
 . exact .inr fun q hq _=>n q hq id
theorem Fl.skip(x:Fl h D O F xs)(hO:∀ p' q',O p' q'->O' p' q'\/(p'=p/\q'=q))(hF:F p=some L)(hq:∀ a,h q=some a->∃ fq,F q=some fq/\fq<=mx a L):Fl h D O' F xs:=by
 refine ⟨x.ents,x.drain,x.snd,fun p' fp hf=>(x.near p' fp hf).imp id fun n q' hq' ho a ha=>?_⟩;by_cases o:O p' q'
 . obtain ⟨rfl,rfl⟩:=(hO p' q' o).resolve_left ho;rw [hF] at hf;cases hf;exact hq a ha
 . exact n q' hq' o a ha
theorem Fl.put(x:Fl h D O F xs)(hO:∀ p' q',O p' q'->O' p' q'\/(p'=p/\q'=q))(hF:F p=some L)(hA:Adj p q)(ha:h q=some a)(new:∀ f,F q=some f->mx a L < f) :
 Fl h D O' (upd F q (mx a L)) (xs++[ent (mx a L) q]):=by
 have nw:∀ f,F q=some f->mx a L<=f:=fun f e=>iG (new f e);refine ⟨x.held nw,fun k b hk hb=>?_,fun k f hf=>?_,fun p' fp hf=>?_⟩
 . refine ex1 (x.drain k b hk hb) fun f zz=>Ad zz fun hf le=>?_;refine ex1 (Ou nw hf) fun f' zz=>Ad zz fun hf' le'=>?_;exact ⟨f',hf',cW le' le⟩
 . rcases Jh hf with ⟨e1,e2⟩ | ⟨_,hf⟩
   . refine rwl e1 (rwl e2 ?_);exact .step (x.snd p L hF) hA ha
   . exact x.snd k f hf
 . rcases Jh hf with ⟨e1,e2⟩ | ⟨_,hg⟩
   . refine rwl e1 (rwl e2 ?_);exact .inl (bM.mpr (.inr (aT.mpr rfl)))
   . refine (x.near p' fp hg).imp (fun m=>bM.mpr (.inl m)) fun n q' hq' ho b hb=>?_;by_cases o:O p' q'
     . obtain ⟨rfl,rfl⟩:=(hO p' q' o).resolve_left ho;rw [hF] at hg;cases hg;rw [ha] at hb;cases hb;exact ⟨_,D6 _ _ _,jG _⟩
     . refine ex1 (n q' hq' o b hb) fun fq zz=>Ad zz fun h1 h2=>?_;refine ex1 (Ou nw h1) fun f' zz=>Ad zz fun hf' le'=>?_;exact ⟨f',hf',cW le' h2⟩
theorem Fl.fin(x:Fl h D (fun _ _=>False) F []):Lv h D F:=by
 refine ⟨x.snd,fun k f r=>?_⟩;induction r with
 | drain d e=>exact x.drain _ _ d e
 | @step p q f a r n e ih =>refine ex1 ih fun f' zz=>Ad zz fun h1 h2=>?_;refine ex1 (((x.near p f' h1).resolve_left dT) q n id a e) fun fq zz=>Ad zz fun h3 h4=>?_;exact ⟨fq,h3,cW h4 (Wv a h2)⟩
end
end Mine.Internal.Pure
namespace Mine.Internal.Pure
open PySem
noncomputable def Ov:List (Nat × Nat):=[(1,30),(30,1),(5,5),(2,12),(2,30),(30,2),(6,7),(12,11)]
section
theorem Zt(c:Int):∃ r k:Nat,(OkS r k/\r * k<=132)/\∀ (d:Nat) (H:Hp),Wp (Ag T_14 (d+1) 10 [.int c]) H (fun v H'=>v=.tup [.int r,.int k]/\Ext H H') NoE:=by
 by_cases q:dO (cR c 20) 8=1
 . refine ex1 (Cd (cR c 160) 8 (by decide)) fun j zz=>Ad zz fun hj lj=>?_;have lj':j < Ov.length:=lj;refine ⟨(Ov[j]).1,(Ov[j]).2,?_,fun d H=>?_⟩
   . have:∀ p∈Ov,OkS p.1 p.2/\p.1 * p.2<=132:=by unfold OkS Ov;decide
     exact this _ (kF lj')
   . refine rwl (Aq (g:=On) rfl rfl) ?_;rw [On];simp only [bA,cL,bF,bP,bL,↓Ah,↓Ba,↓Au,↓Dd,↓A2,↓Ai,↓A7,↓Gn,↓Ky,↓P8,↓Ab,↓B8,↓Be,↓Bd,↓E4,↓Am,↓Gl,↓A3,↓Cn,↓Gm];refine ⟨by decide,by decide,?_⟩;rw [Cr q];refine ⟨by decide,by decide,?_⟩;refine rwl (show dO (cR c 160) 8=(j:Int) from hj) ?_;refine Hs (Ao H _) (bE _) (v:=.tup [.int ((Ov[j]).1:Nat),.int ((Ov[j]).2:Nat)]) ?_ ⟨rfl,⟨_,rfl⟩⟩;show (Ov.map fun p=>Val.tup [.int (p.1:Nat),.int (p.2:Nat)])[j]?=_;rw [aX,aI lj'];rfl
 . refine ex1 (Cd c 4 (by decide)) fun i zz=>Ad zz fun hi li=>?_;refine ex1 (Cd (cR c 4) 5 (by decide)) fun j zz=>Ad zz fun hj lj=>?_;refine ⟨1+i,1+j,⟨by unfold OkS;exact ⟨aG _ _,aC (aP (aJ li) 1) (by decide),aG _ _,aC (aP (aJ lj) 1) (by decide)⟩,by have:=fS (show 1+i<=4 by exact Am9 li) (show 1+j<=5 by exact Ana lj);exact aJ (aB this (by decide:(4 * 5) < 132))⟩,fun d H=>?_⟩;refine rwl (Aq (g:=On) rfl rfl) ?_;rw [On];simp only [bA,cL,bF,bP,bL,↓Ah,↓Ba,↓Au,↓Dd,↓A2,↓Ai,↓A7,↓Gn,↓Ky,↓P8,↓Ab,↓B8,↓Be,↓Bd,↓E4,↓Am,↓Gl,↓A3,↓Cn,↓Gm];refine ⟨by decide,by decide,?_⟩;rw [Bc q];refine ⟨by decide,by decide,by decide,?_,Ext.refl H⟩;refine rwl (show dO c 4=(i:Int) from hi) (rwl (show dO (cR c 4) 5=(j:Int) from hj) ?_);rfl
theorem Aek(hS:OkS r c)(hk:k < r):wpE T_14 (Ag T_14 (d+2)) (.comp (.call 12 (.cons (.var 0) (.cons (.bin .add (.bin .mul (.var 4) (.sub (.var 1) (.int 1))) (.var 6)) .nil))) (.bf .range (.cons (.sub (.var 1) (.int 1)) .nil)) .none) [some (.script ns),some (.tup [.int (r:Int),.int (c:Int)]),some x2,some x3,some (.int (k:Int)),a5] H
 (fun v K=>∃ nums:List Val,v=.loc H.length/\K=H++[.list nums]/\nums.length=c/\∀ x∈nums,∃ n:Int,x=.int n) NoE:=by
 have hlid:lid=16777216:=rfl;unfold OkS at hS;refine Lc (xs:=Tj c) (src:=none) (fun _ v=>∃ n:Int,v=.int n) (Wo (aJ (aB hS.2.2.2 (by decide:30 < 1000))) ⟨rfl,rfl⟩) rfl (by rw [Fw];exact hlid▸aB hS.2.2.2 (by decide)) ?_ ?_
 . intro j x hx;obtain ⟨hr0,lj⟩:=No hx;refine rwl hr0 ?_;obtain ⟨n,hn⟩:=S9 (d:=d) ns (k * c+j) (by have:=fS (show k<=29 by exact Akb hS hk) (show c<=30 by exact hS.2.2.2);exact aC (eB this (aC (aJ lj) hS.2.2.2)) (by decide));show wpE _ _ _ [some (.script ns),some (.tup [.int (r:Int),.int (c:Int)]),some x2,some x3,some (.int (k:Int)),a5,some (.int (j:Int))] _ _ _;simp only [↓Ax,↓Am,↓A3,↓A2,↓Dd,↓Bd,↓A7,↓D9,↓Ai,↓At,↓Fv,↓Kx,↓Gm];refine ⟨by rw [Gq (Akc hS hk)];rfl,?_⟩;refine rwl (show (k:Int) * (c:Int)+(j:Int)=((k * c+j:Nat):Int) by rw [rK,rJ]) ?_;exact (hn H).then fun v H' h=>⟨⟨n,h.1⟩,h.2⟩
 . intro ys hl hp;refine ⟨ys,rfl,rfl,hl.trans (Fw c),fun x hx=>?_⟩;obtain ⟨j,hj⟩:=fH.mp hx;exact hp j x hj
theorem Ahb{c l kind:Nat}(hl:H[l]?=some (.list xs))(xl:xs.length < 1000)(cl:c<=1000)(ln:nums.length=c)(hn:∀ x∈nums,∃ n:Int,x=.int n)
 (q:∀ w:List Val,w.length=c->(∀ v∈w,HV v)->QS [some x0,some x1,some (.int (kind:Int)),some (.loc l),some x4,some (.loc H.length)] (((H++[HObj.list nums])++[HObj.list w]).set l (HObj.list (xs++[Val.loc (H.length+1)])))) :
 wpSs T_14 (Ag T_14 (d+2)) zT17 [some x0,some x1,some (.int (kind:Int)),some (.loc l),some x4,some (.loc H.length)] (H++[HObj.list nums]) QS R NoX:=by
 have hlid:lid=16777216:=rfl;have e1:Ext H (H++[HObj.list nums]):=⟨_,rfl⟩;refine Dp (fun K=>QS [some x0,some x1,some (.int (kind:Int)),some (.loc l),some x4,some (.loc H.length)] K) ?_ (fun K h=>h);refine Dz rfl (e1.get hl) ?_;refine Lc (xs:=nums) (src:=some H.length) (fun _ v=>HV v) ⟨rfl,Bs (Ao H _)⟩ (Bz (Ao H _)) (aA (aB (aC (aD ln) cl) (by decide:1000 < 16777216)) (aD hlid.symm)) ?_ ?_
 . intro j x hx;obtain ⟨n,hr0⟩:=hn x (aH hx);refine rwl hr0 ?_;refine ex1 (Ag6 (d:=d+1) n kind Mr) fun v zz=>Ad zz fun hv hw=>?_;exact (hw _).then fun w H' h=>⟨h.1▸hv,h.2⟩
 . intro ys hl' hp;refine ⟨_,Ext.get ⟨_,rfl⟩ (e1.get hl),by exact Aht xl hlid,?_⟩;have:(H++[HObj.list nums]).length=H.length+1:=by refine rwl aK ?_;rfl
   refine rwl this ?_;refine q ys (hl'.trans ln) fun x hx=>?_;obtain ⟨j,hj⟩:=fH.mp hx;exact hp j x hj
theorem Ael(og:OkG k g)(G:GAt K l (l+2) 2 g)(hK:K.length=l+1+2 * k)(lw:w.length=c)(hw:∀ v∈w,HV v) :
 OkG (k+1) (g++[w])/\GAt (((K++[HObj.list nums])++[HObj.list w]).set l (HObj.list ((bT g.length).map (fun i=>Val.loc (l+2+2 * i))++[Val.loc (K.length+1)]))) l (l+2) 2 (g++[w]):=by
 have lK:(K++[HObj.list nums]).length=K.length+1:=by refine rwl aK ?_;rfl
 have e2:Ext K (K++[HObj.list nums]++[HObj.list w]):=⟨[HObj.list nums,HObj.list w],by rw [bJ];rfl⟩;refine ⟨⟨by refine rwl aK (rwl og.len ?_);rfl,fun i z h=>?_⟩,⟨?_,fun i z h=>?_⟩⟩
 . rcases Wq h with h | ⟨_,rfl⟩
   . exact og.row i z h
   . exact ⟨lw,hw⟩
 . exact rwl (Bl _ (e2.get G.top)) (rwl aK (rwl gH (rwl hE (rwl cD (rwl List.map_singleton (rwl og.len (rwl hK (rwl (show l+1+2 * k+1=l+2+2 * k by exact Anb) rfl))))))))
 . rcases Wq h with h | ⟨rfl,rfl⟩
   . exact Al _ Akd (e2.get (G.row i z h))
   . refine Al _ Akd ?_;have:=Ao (K++[HObj.list nums]) (.list z);rw [lK,hK] at this;refine rwl og.len (rwl (show l+2+2 * k=l+1+2 * k+1 by exact Anc) ?_);exact this
inductive GInv(x0 x1 x2:Val)(l:Nat):Nat->Env'->Hp->Prop
 | mk {k:Nat} {K:Hp} (g:List (List Val)) (a b:Option Val) (og:OkG k g) (G:GAt K l (l+2) 2 g) (hK:K.length=l+1+2 * k):GInv x0 x1 x2 l k [some x0,some x1,some x2,some (.loc l),a,b] K
theorem Zu(ns:List Int)(hS:OkS r c)(hsz:∀ d H,Wp (Ag T_14 (d+1) 10 [.int (Ff ns 0)]) H (fun v H'=>v=.tup [.int r,.int c]/\Ext H H') NoE):Wp (Ag T_14 (d+3) 13 [.script ns]) H (fun v H'=>∃ g l,v=.loc l/\OkG r g/\GAt H' l (l+2) 2 g) NoE:=by
 have hS':=hS;unfold OkS at hS';refine rwl (Aq (g:=Aa0) rfl rfl) ?_;refine Ak (fun v H'=>v=.tup [.int r,.int c]/\Ext H H') ?_ ?_
 . show Wp (Ag T_14 (d+2) 8 [.script ns,.int ((0:Nat):Int)]) H _ _;rw [G6];exact hsz (d+1) H
 clear hsz;rintro _ H1 ⟨rfl,e1⟩;refine Ak (fun v K=>∃ k:Nat,v=.int k/\H1=K) ?_ ?_
 . show Wp (Ag T_14 (d+2) 8 [.script ns,.int ((1:Nat):Int)]) H1 _ _;rw [G6];refine ex1 (Cd (Ff ns 1) 5 (by decide)) fun k zz=>Ad zz fun hk _=>?_;exact ⟨by decide,k,congrArg Val.int hk,rfl⟩
 rintro _ _ ⟨kind,rfl,rfl⟩;refine Ak (fun v K=>v=.loc H1.length/\K=H1++[.list []]) ⟨rfl,rfl⟩ ?_;rintro _ _ ⟨rfl,rfl⟩;obtain ⟨I,hI⟩:=Fe (GInv (.script ns) (.tup [.int r,.int c]) (.int kind) H1.length);refine Bu (I r) ?_ ?_
 . refine Gr (n:=r) I ⟨rfl,rfl⟩ ⟨by exact cW (by decide) (bE _),by exact dD.mpr (aJ (aB hS'.2.1 (by decide:30 < 1073741824)))⟩ ((hI _ _ _).mpr (.mk [] _ _ ⟨rfl,fun i w h=>nomatch h⟩ ⟨Ao H1 _,fun i w h=>nomatch h⟩ (by refine rwl aK ?_;rfl))) ?_ (fun Γ K h=>by rw [bC] at h;exact h);intro k Γ K hk h;obtain ⟨g,a,b,og,G,hK⟩:=(hI _ _ _).mp h;refine Ak _ (Aek hS (bS.mp hk)) ?_;intro _ K1 zz;refine ex1 zz fun nums zz=>Cf zz fun zr1 zr2 ln hn=>?_;subst zr1;subst zr2;refine Ahb G.top (by rw [aM];refine rwl bV (rwl og.len ?_);exact aA (bS.mp hk) (aC hS'.2.1 (by decide))) (aJ (aB hS'.2.2.2 (by decide:30 < 1000))) ln hn fun w lw hw=>(hI _ _ _).mpr ?_;obtain ⟨og',G'⟩:=Ael (nums:=nums) og G hK lw hw;exact .mk _ _ _ og' G' (by refine rwl bW (rwl aK (rwl aK (rwl hK ?_)));show _+1+1=_;exact rfl)
 intro Γ K h;refine Ae fun G kG=>?_;obtain ⟨g,a,b,og,G,_⟩:=(hI _ _ _).mp h;refine kG ?_;exact ⟨g,_,rfl,og,G⟩
theorem Zv(ha:H[a]?=some (.list xs))(hb:H[b]?=some (.list xs))(hd:I6 (A0 H 5) xs=some ds)(hq:dE (.list ds) (.list ds)=true):Ga H (.loc a) (.loc b)=some true:=by
 have e:∀ c,H[c]?=some (.list xs)->A0 H Ej (.loc c)=some (.list ds):=fun c hc=>by have:A0 H (5+1) (.loc c)=(match H[c]? with | some (.list xs)=>(I6 (A0 H 5) xs).map .list | _=>none):=rfl;show A0 H (5+1) (.loc c)=_;refine rwl this (rwl hc ?_);show (I6 (A0 H 5) xs).map mI=_;refine rwl hd ?_;rfl
 unfold Ga;refine rwl (e a ha) (rwl (e b hb) ?_);show some (dE _ _)=_;exact rwl hq rfl
theorem An6(hS:OkS r c)(og:OkG r g)(G:GAt H l b s g):∃ w x,g[0]?=some w/\w[0]?=some x/\HV x/\w.length=c/\((bT g.length).map fun i=>Val.loc (b+s * i))[0]?=some (.loc b)/\H[b]?=some (.list w):=by
 unfold OkS at hS;have lt:0 < g.length:=by refine rwl og.len ?_;exact Aka hS
 have hg:g[0]?=some g[0]:=aI lt;obtain ⟨lw,hw⟩:=og.row 0 _ hg;have lt':0 < g[0].length:=by exact aA (aA (by decide:0 < 1) hS.2.2.1) (aD lw.symm)
 have hx:g[0][0]?=some g[0][0]:=aI lt';exact ⟨g[0],g[0][0],hg,hx,hw _ (aH hx),lw,G.item lt,G.row 0 _ hg⟩
theorem LandAt.sink(L:LandAt H o lg b s ls g es):LandAt (H.set ls (.dict es')) o lg b s ls g es':=by refine ex1 L.inst fun fs zz=>Ad zz fun h0 h=>?_;have hs:=L.sinks;exact ⟨⟨fs,Al _ (fun q=>by rw [q,h0] at hs;cases hs) h0,h⟩,L.grid.other _ (fun q=>by have:=L.grid.top;rw [<- q,hs] at this;cases this) (fun i hi q=>by have:=L.grid.row i _ (aI hi);rw [<- q,hs] at this;cases this),Bl _ hs⟩
theorem Rk(og:OkG r g):((bT g.length).map fun i=>Val.loc (b+s * i)).length=r:=by rw [aM];exact rwl bV (rwl og.len rfl)
end
end Mine.Internal.Pure
namespace Mine.Internal.Pure
open PySem Pile
theorem J9(es:List (Key × Val))(k:Key)(v:Val)(k':Key):C3 (E2 es k v) k'=if k'=k then some v else C3 es k':=by
 unfold C3;induction es with
 | nil =>
  show fT k' [(k,v)]=_;refine rwl bN ?_;by_cases q:k'=k
  . refine rwl (if_pos q) (rwl q ?_);rw [beq_self_eq_true]
  . exact rwl (if_neg q) (rwl (beq_eq_false_iff_ne.mpr q) rfl)
 | cons e es ih =>
  obtain ⟨a,b⟩:=e;have st:E2 ((a,b) :: es) k v=if a=k then (a,v) :: es else (a,b) :: E2 es k v:=rfl;refine rwl st ?_;by_cases q:a=k
  . refine rwr q ?_;refine rwl (if_pos rfl) (rwl bN (rwl bN ?_));by_cases c:k'=a
    . refine rwl (if_pos c) (rwl c ?_);rw [beq_self_eq_true]
    . exact rwl (if_neg c) (rwl (beq_eq_false_iff_ne.mpr c) rfl)
  . refine rwl (if_neg q) (rwl bN (rwl bN (rwl ih ?_)));by_cases c:k'=a
    . refine rwl c ?_;rw [beq_self_eq_true];exact (if_neg q).symm
    . exact rwl (beq_eq_false_iff_ne.mpr c) rfl
theorem Iz(es:List (Key × Val))(k:Key)(v:Val):(E2 es k v).length<=es.length+1:=by
 induction es with
 | nil=>exact aN _
 | cons e es ih =>
  obtain ⟨a,b⟩:=e;have st:E2 ((a,b) :: es) k v=if a=k then (a,v) :: es else (a,b) :: E2 es k v:=rfl;refine rwl st ?_;by_cases q:a=k
  . refine rwl (if_pos q) ?_;exact jC _
  . refine rwl (if_neg q) ?_;exact cG ih
noncomputable def Has(es:List (Key × Val))(F:Key->Option Int):Prop:=∀ k,C3 es k=(F k).map Val.int
theorem Has.put(h:Has es F)(q:Key)(v:Int):Has (E2 es q (.int v)) (upd F q v):=by
 intro k;rw [J9];by_cases c:k=q
 . refine rwl (if_pos c) (rwl c ?_);rw [D6];rfl
 . refine rwl (if_neg c) (rwl (Hf _ _ c) ?_);exact h k
section
theorem Fy(h:H[l]?=some (.dict es))(hv:C3 es (i,j)=some v):Wp (Dh (.loc l) (.tup [.int i,.int j])) H Q E=Q v H:=by
 have:Dh (.loc l) (.tup [.int i,.int j]) H=.ok v H:=by unfold Dh;rw [Dl];simp only [h];exact rwl (show (C1 (.tup [.int i,.int j])).bind (C3 es)=C3 es (i,j) from rfl) (rwl hv rfl)
 unfold Wp;exact rwl this rfl
theorem Gu{Q:Unit->Hp->Prop}(h:H[l]?=some (.dict es))(hl:es.length < lid):Wp (Av (.loc l) (.tup [.int i,.int j]) v) H Q E=Q () (H.set l (.dict (E2 es (i,j) v))):=by
 have:Av (.loc l) (.tup [.int i,.int j]) v H=.ok () (H.set l (.dict (E2 es (i,j) v))):=by unfold Av;simp only [h];exact if_pos hl
 unfold Wp;exact rwl this rfl
theorem Fh(h:H[l]?=some (.dict es)):Cu .notin (.tup [.int i,.int j]) (.loc l) H=some (!(C3 es (i,j)).isSome):=by have e:Cu .notin (.tup [.int i,.int j]) (.loc l) H=Tm true (inV (.tup [.int i,.int j]) (.loc l) H):=rfl;refine rwl e ?_;unfold inV;simp only [h];rfl
theorem Ahc(h:H[l]?=some (.dict es)):Wp (bmV .get (.loc l) [.tup [.int i,.int j]]) H Q E=Q ((C3 es (i,j)).getD .none) H:=by
 have:bmV .get (.loc l) [.tup [.int i,.int j]] H=.ok ((C3 es (i,j)).getD .none) H:=by unfold bmV;simp only [h];rfl
 unfold Wp;exact rwl this rfl
theorem Zw(h:H[l]?=some (.dict es)):Db .get (.loc l) H=some ():=if_pos (Hy h)
noncomputable def inR(r c:Nat)(k:Key):Bool:=decide (0<=k.1/\k.1 < r/\0<=k.2/\k.2 < c)
theorem Co{r c:Nat}(h:inR r c k=true):∃ i j:Nat,k=((i:Int),(j:Int))/\i < r/\j < c:=by obtain ⟨a,b⟩:=k;have h:0<=a/\a < r/\0<=b/\b < c:=of_decide_eq_true h;exact ⟨a.toNat,b.toNat,iY (show a=(a.toNat:Int) by exact (fQ h.1).symm) (show b=(b.toNat:Int) by exact (fQ h.2.2.1).symm),by exact (iF h.1).mpr h.2.1,by exact (iF h.2.2.1).mpr h.2.2.2⟩
theorem Ow{r c i j:Nat}(hi:i < r)(hj:j < c):inR r c ((i:Int),(j:Int))=true:=decide_eq_true (show 0<=(i:Int)/\(i:Int) < r/\0<=(j:Int)/\(j:Int) < c by exact ⟨bE _,bS.mpr hi,bE _,bS.mpr hj⟩)
noncomputable def Afa(g:List (List Val))(k:Key):Option Val:=(g[k.1.toNat]?).bind fun w=>w[k.2.toNat]?
noncomputable def Ahd:Option Val->Option Int
 | some (.int i)=>some i
 | _=>none
noncomputable def hgt(g:List (List Val))(k:Key):Option Int:=if inR r c k=true then Ahd (Afa g k) else none
theorem Cz(h:hgt g k=some a):inR r c k=true:=by
 unfold hgt at h;by_cases q:inR r c k=true
 . exact q
 . rw [if_neg q] at h;cases h
theorem Hg(og:OkG r g)(hi:i < r)(hj:j < c):∃ w x,g[i]?=some w/\w[j]?=some x/\((x=.none/\hgt g ((i:Int),(j:Int))=none)\/∃ n,x=.int n/\0<=n/\hgt g ((i:Int),(j:Int))=some n):=by
 refine Ae fun G kG=>?_;obtain ⟨w,hw⟩:∃ w,g[i]?=some w:=⟨_,aI (by refine rwl og.len ?_;exact hi)⟩;obtain ⟨lw,hv⟩:=og.row i _ hw;obtain ⟨x,hx⟩:∃ x,w[j]?=some x:=⟨_,aI (by refine rwl lw ?_;exact hj)⟩;refine kG ?_;have e:Afa g ((i:Int),(j:Int))=some x:=by show (g[((i:Int)).toNat]?).bind (fun w=>w[((j:Int)).toNat]?)=_;rw [bC,bC];refine rwl hw ?_;exact hx
 refine ⟨w,x,hw,hx,?_⟩;unfold hgt;refine rwl (if_pos (Ow hi hj)) (rwl e ?_);rcases hv _ (aH hx) with q | ⟨n,q,h0,_⟩
 . refine rwl q ?_;exact .inl ⟨rfl,rfl⟩
 . refine rwl q ?_;exact .inr ⟨n,rfl,h0,rfl⟩
noncomputable def bes(r c:Nat)(i j:Int):List Key:=(Qd i j).filter (inR r c)
theorem Ww:q∈Qd i j↔Adj (i,j) q:=oX
theorem Ji:q∈bes r c i j↔(Adj (i,j) q/\inR r c q=true):=by unfold bes;rw [fL,Ww]
theorem Qe(r c:Nat)(i j:Int):(bes r c i j).length<=4:=cV _ _
theorem Ml:Wp (Ag T_14 (d+1) 0 [.int x,.int lo,.int hi]) H Q E=Q (.bool (decide (lo<=x/\x<=hi))) H:=by
 refine rwl (Aq (g:=V9) rfl rfl) ?_;rw [V9];simp only [bA,cL,bF,bP,bL,↓Ah,↓Ba,↓Ea,↓Cj,↓B7,↓A2,↓Ai,↓En,↓Ab,↓Dw,↓Bw,↓Dy,↓Bx,↓Cn,↓B8,↓Be,↓Ja,↓At,↓V3];by_cases h1:lo<=x
 . rw [Cr h1];exact rwl (show decide (x<=hi)=decide (lo<=x/\x<=hi) from decide_eq_decide.mpr ⟨fun h=>⟨h1,h⟩,fun h=>h.2⟩) rfl
 . rw [Bc h1];exact rwl (show decide (lo<=x/\x<=hi)=false from decide_eq_false fun h=>h1 h.1) rfl
theorem Lh:Wp (Ag T_14 (d+2) 1 [.int (r:Int),.int (c:Int),.tup [.int i,.int j]]) H Q E=Q (.bool (inR r c (i,j))) H:=by
 refine rwl (Aq (g:=Wa) rfl rfl) ?_;rw [Wa];simp only [bA,cL,bF,bP,bL,↓Ah,↓Ba,↓Ea,↓Cj,↓B7,↓A2,↓At,↓Ai,↓Fc,↓Ab,↓Dw,↓Bw,↓Au,↓Fs,↓Am,↓A3,↓Fb,↓A7,↓Oi,↓Cn,↓B8,↓Be,↓Cy,↓Ax,↓Bd,↓Fu,↓Dd,↓Kw,↓Fv,↓Gk];refine rwl Ml ?_;rw [Ab];have e:∀ b,b=inR r c (i,j)->Q (.bool b) H=Q (.bool (inR r c (i,j))) H:=fun b h=>by exact rwl h rfl
 rw [Cr (show (([Val.int i,Val.int j].length:Nat):Int)=2 from rfl)];by_cases h1:0<=i/\i<=(r:Int) - 1
 . rw [Cr h1];refine rwl Ml ?_;exact e _ (decide_eq_decide.mpr ⟨fun h=>⟨by exact h1.1,by exact jF h1.2,by exact h.1,by exact jF h.2⟩,fun h=>⟨by have:=h.2.2.1;assumption,by have:=h.2.2.2;exact fO h.2.2.2⟩⟩)
 . rw [Bc h1];exact e _ (decide_eq_false fun h=>h1 ⟨h.1,by have:=h.2.1;exact fO h.2.1⟩).symm
theorem Ht{ks:List Key}{n:Nat}(h:(ks.map Aa)[n]?=some x):∃ q,ks[n]?=some q/\x=Aa q:=by
 rw [aX] at h;cases e:ks[n]? with
 | none=>rw [e] at h;cases h
 | some q=>rw [e] at h;cases h;exact ⟨q,rfl,rfl⟩
theorem Wx{it c:ME}{ks:List Key}(hn:Γ.length=n)(hl:K0[l]?=some (.list (ks.map Aa)))(kl:ks.length < 1000)(hit:wpE T Φ it Γ H (fun v H'=>v=.loc l/\H'=K0) NoE)
 (ht:∀ q∈ks,wpE T Φ c (Γ++[some (Aa q)]) K0 (fun v H'=>v=.bool (p q)/\H'=K0) NoE) (q:Q (.loc K0.length) (K0++[.list ((ks.filter p).map Aa)])):wpE T Φ (.comp (.var n) it (.some c)) Γ H Q E:=by
 have hlid:lid=16777216:=rfl;refine Kv (A9 hit ?_);rintro v H' ⟨rfl,rfl⟩;rw [Bj (Bs hl)];refine Iw (fun k out K=>K=H'/\out=((ks.take k).filter p).map Aa) ⟨rfl,rfl⟩ ?_ ?_ ?_
 . rintro k out K ⟨hr0,_⟩;refine rwl hr0 ?_;exact Bz hl
 . rintro k x out K hx ⟨rfl,rfl⟩;refine ex1 (Ht hx) fun q zz=>Ad zz fun hq hr0=>?_;refine rwl hr0 ?_;refine wp_step (A9 (ht q (aH hq)) ?_);rintro v K' ⟨rfl,rfl⟩;rw [Ab];refine rwl (Eb hq) ?_;rw [fW];refine rwl cD ?_;refine Dm (fun h=>?_) (fun h=>?_)
   . refine rwl (hV h) ?_;rw [A2,Fr];refine rwl (aS (aD hn)) (rwl hn ?_);rw [iC];exact ⟨rfl,rfl⟩
   . refine rwl (hW (by rw [h];exact dH)) ?_;exact ⟨rfl,rfl⟩
 . rintro zs K ⟨rfl,rfl⟩;refine rwl (show ks.take (mG Aa ks).length=ks by rw [aM];exact dS) ?_;refine ⟨?_,q⟩;rw [aM];have:=cV p ks;exact hlid▸aR (aB this kl) (by decide)
theorem Mm:Wp (Ag T_14 (d+3) 2 [.int (r:Int),.int (c:Int),.tup [.int i,.int j]]) H (fun v H'=>∃ m,v=.loc m/\H.length<=m/\Ext H H'/\H'[m]?=some (.list ((bes r c i j).map Aa))) NoE:=by refine rwl (Aq (g:=Ad6) rfl rfl) ?_;rw [Ad6];show wpE T_14 (Ag T_14 (d+2)) (.comp (.var 6) (.var 5) (.some (.call 1 (.cons (.var 0) (.cons (.var 1) (.cons (.var 6) .nil)))))) [some (.int (r:Int)),some (.int (c:Int)),some (.tup [.int i,.int j]),some (.int i),some (.int j),some (.loc H.length)] (H++[HObj.list ((Qd i j).map Aa)]) _ _;have e0:Ext H (H++[HObj.list ((Qd i j).map Aa)]):=⟨_,rfl⟩;refine Wx (l:=H.length) (ks:=Qd i j) (p:=inR r c) rfl (Ao H _) (show 4 < 1000 by decide) ⟨rfl,rfl⟩ (fun q _=>?_) ⟨_,rfl,by refine rwl aK ?_;exact o64,e0.new _,Ao _ _⟩;show Wp (Ag T_14 (d+2) 1 [.int (r:Int),.int (c:Int),.tup [.int q.1,.int q.2]]) _ _ _;refine rwl Lh ?_;exact ⟨rfl,rfl⟩
end
structure FS(H K:Hp)(lf lo lp lh:Nat)(es gs:List (Key × Val))(xs:List Val):Prop where
 ext:Ext H K
 bf:H.length<=lf
 bo:H.length<=lo
 bh:H.length<=lh
 ne:lf≠lo
 f:K[lf]?=some (.dict es)
 o:K[lo]?=some (.dict gs)
 p:K[lp]?=some (.inst 8 [(4,.loc lh)])
 h:K[lh]?=some (.list xs)
section
variable{H K:Hp}
theorem FS.more(x:FS H K lf lo lp lh es gs xs)(e:Ext K K'):FS H K' lf lo lp lh es gs xs:=⟨x.ext.trans e,x.bf,x.bo,x.bh,x.ne,e.get x.f,e.get x.o,e.get x.p,e.get x.h⟩
theorem Ca{a b:Nat}(h:K[a]?=some o)(h':K[b]?=some o')(n:o≠o'):a≠b:=fun e=>n (aO (rwr h (rwr h' (rwl e rfl))))
theorem FS.setF(x:FS H K lf lo lp lh es gs xs)(es':List (Key × Val)):FS H (K.set lf (.dict es')) lf lo lp lh es' gs xs :=
 ⟨x.ext.set x.bf _,x.bf,x.bo,x.bh,x.ne,Bl _ x.f,Al _ x.ne x.o,Al _ (Ca x.f x.p (by intro c;cases c)) x.p,Al _ (Ca x.f x.h (by intro c;cases c)) x.h⟩
theorem FS.setO(x:FS H K lf lo lp lh es gs xs)(gs':List (Key × Val)):FS H (K.set lo (.dict gs')) lf lo lp lh es gs' xs :=
 ⟨x.ext.set x.bo _,x.bf,x.bo,x.bh,x.ne,Al _ (gO x.ne) x.f,Bl _ x.o,Al _ (Ca x.o x.p (by intro c;cases c)) x.p,Al _ (Ca x.o x.h (by intro c;cases c)) x.h⟩
theorem FS.setH(x:FS H K lf lo lp lh es gs xs)(ys:List Val):FS H (K.set lh (.list ys)) lf lo lp lh es gs ys :=
 ⟨x.ext.set x.bh _,x.bf,x.bo,x.bh,x.ne,Al _ (Ca x.h x.f (by intro c;cases c)) x.f,Al _ (Ca x.h x.o (by intro c;cases c)) x.o,Al _ (Ca x.h x.p (by intro c;cases c)) x.p,Bl _ x.h⟩
theorem FS.only(x:FS H K lf lo lp lh es gs xs)(o:Only lh K K')(h:K'[lh]?=some (.list ys)):FS H K' lf lo lp lh es gs ys :=
 ⟨Ws fun m ob hm=>o.keep m ob (by have t1:=A4 hm;have t2:=x.bh;exact dB (aA t1 t2)) (x.ext.get hm),x.bf,x.bo,x.bh,x.ne,o.keep _ _ (Ca x.f x.h (by intro c;cases c)) x.f,o.keep _ _ (Ca x.o x.h (by intro c;cases c)) x.o,o.keep _ _ (Ca x.p x.h (by intro c;cases c)) x.p,h⟩
theorem FS.lt(x:FS H K lf lo lp lh es gs xs):lh < K.length:=A4 x.h
end
noncomputable def F9(r c:Nat):List Key:=(bT r).flatMap fun (i:Nat)=>(bT c).map fun (j:Nat)=>((i:Int),(j:Int))
theorem Jj(r c:Nat):(F9 r c).map Aa=cells r c:=by unfold F9 cells Ce;refine rwl List.map_flatMap ?_;congr 1;funext i;refine rwl iA ?_;rfl
theorem I0(r c:Nat):(F9 r c).length=r * c:=by rw [<- Gs,<- Jj,aM]
theorem Ct{r c:Nat}:k∈F9 r c↔inR r c k=true:=by
 unfold F9;constructor
 . intro h;refine ex1 (mQ.mp h) fun i zz=>Ad zz fun hi h=>?_;refine ex1 (cC.mp h) fun j zz=>Ad zz fun hj hr0=>?_;refine rwr hr0 ?_;exact Ow (eV.mp hi) (eV.mp hj)
 . intro h;refine ex2 (Co h) fun i j zz=>Ap zz fun hr1 hi hj=>?_;refine rwl hr1 ?_;exact mQ.mpr ⟨i,eV.mpr hi,cC.mpr ⟨j,eV.mpr hj,rfl⟩⟩
theorem Eu(h:Aa a=Aa b):a=b:=by
 have:C1 (Aa a)=C1 (Aa b):=by exact rwl h rfl
 exact aO this
theorem Wy(i c:Nat):(Ce i c).Nodup:=by
 induction c with
 | zero=>exact lG
 | succ c ih =>rw [Ix];refine Tb ih fun h=>?_;unfold Ce at h;refine ex1 (cC.mp h) fun j zz=>Ad zz fun hj e=>?_;have t0:=Eu (a:=((i:Int),(j:Int))) (b:=((i:Int),(c:Int))) e;have t1:=(rF t0).2;have t2:=eV.mp hj;exact Ake t1 t2
theorem Li(r c:Nat):(cells r c).Nodup:=by
 induction r with
 | zero=>exact lG
 | succ r ih =>rw [Jg,jV];refine ⟨ih,Wy r c,fun a ha b hb e=>?_⟩;refine ex2 (J6 ha) fun i j zz=>Ap zz fun zr2 hi _=>?_;subst zr2;unfold Ce at hb;refine ex1 (cC.mp hb) fun j' zz=>Ad zz fun _ zr2=>?_;subst zr2;have:=Eu (a:=((i:Int),(j:Int))) (b:=((r:Int),(j':Int))) e;have:=(rF this).1;exact Ake this hi
theorem Rl{α:Type}{l:List α}{x:α}(h:l.Nodup)(hx:l[n]?=some x):¬x∈l.take n:=by
 intro c;obtain ⟨m,hm⟩:=fH.mp c;have lm:m < n:=by have:=(aE.mp hm).1;rw [fC] at this;exact aA this (lA _ _)
 rw [kA lm] at hm;obtain ⟨l1,e1⟩:=aE.mp hx;obtain ⟨l2,e2⟩:=aE.mp hm;have:=(List.getElem_inj (h₀:=l2) (h₁:=l1) h).mp (rwl e1 (rwl e2 rfl));exact o30 lm this
theorem Dr{α:Type}{l:List α}{x y:α}(h:l[n]?=some x):y∈l.take (n+1)↔(y∈l.take n\/y=x):=by refine rwl (Eb h) ?_;rw [bM,aT]
theorem I1(gs:List (Key × Val))(q:Key)(v:Val):C3 (E2 gs q v) q=some v:=by rw [J9];exact rwl (if_pos rfl) rfl
theorem C9(gs:List (Key × Val))(v:Val)(n:k≠q):C3 (E2 gs q v) k=C3 gs k:=by rw [J9];exact rwl (if_neg n) rfl
structure Stp(h:Key->Option Int)(F:Key->Option Int)(gs:List (Key × Val))(τ:Key->Nat)(k p:Key)(f:Int)(a fp:Int):Prop where
 g:C3 gs k=some (Aa p)
 adj:Adj p k
 ha:h k=some a
 hp:F p=some fp
 le:mx a fp<=f
 old:fp < f\/τ p < τ k
noncomputable def An7(h:Key->Option Int)(D:Key->Prop)(F:Key->Option Int)(gs:List (Key × Val))(τ:Key->Nat)(k:Key)(f:Int):Prop :=
 (D k/\C3 gs k=some .none)\/(¬D k/\∃ p a fp,Stp h F gs τ k p f a fp)
structure Go(h:Key->Option Int)(D:Key->Prop)(F:Key->Option Int)(gs:List (Key × Val)):Prop where
 no:∀ k,F k=none->C3 gs k=none
 go:∃ (τ:Key->Nat) (t:Nat),∀ k f,F k=some f->τ k<=t/\An7 h D F gs τ k f
structure Fg(h:Key->Option Int)(D:Key->Prop)(O:Key->Key->Prop)(F:Key->Option Int)(xs:List Val)(gs:List (Key × Val)):Prop where
 fl:Fl h D O F xs
 go:Go h D F gs
section
theorem Rm(hk:upd F q v k=none):k≠q/\F k=none:=by
 by_cases e:k=q
 . rw [e,D6] at hk;exact nomatch hk
 . rw [Hf _ _ e] at hk;exact ⟨e,hk⟩
theorem Go.put(x:Go h D F gs)(hF:F p=some L)(hA:Adj p q)(ha:h q=some a)(nd:¬D q)(new:∀ f,F q=some f->mx a L < f):Go h D (upd F q (mx a L)) (E2 gs q (Aa p)):=by
 refine ⟨fun k hk=>?_,?_⟩
 . obtain ⟨e,hk⟩:=Rm hk;refine rwl (C9 _ _ e) ?_;exact x.no k hk
 . refine ex2 x.go fun τ t hg=>?_;have npq:p≠q:=fun e=>absurd (new L (e▸hF)) (eI.mpr (Ae9 a L));refine ⟨fun k=>if k=q then t+1 else τ k,t+1,fun k f hf=>?_⟩;rcases Jh hf with ⟨e1,e2⟩ | ⟨e,hf⟩
   . refine rwl e1 (rwl e2 ?_);refine ⟨aD (if_pos rfl),.inr ⟨nd,p,a,L,I1 _ _ _,hA,ha,(Hf _ _ npq).trans hF,jG _,.inr ?_⟩⟩;refine rwl (if_neg npq) (rwl (if_pos rfl) ?_);exact iD (hg p L hF).1
   . obtain ⟨tk,hk⟩:=hg k f hf;refine ⟨by dsimp only;refine rwl (if_neg e) ?_;exact mJ tk,hk.imp (fun w=>⟨w.1,(C9 _ _ e).trans w.2⟩) fun w=>⟨w.1,?_⟩⟩;refine Ae fun G kG=>?_;refine Ad w fun _ zz=>ex3 zz fun p' b fp s=>?_;refine kG ?_;by_cases e':p'=q
     . have lt:=new fp (e'▸s.hp);have le:mx b (mx a L)<=f:=cW (Wv b (iG lt)) s.le;exact ⟨p',b,mx a L,(C9 _ _ e).trans s.g,s.adj,s.ha,e'▸D6 _ _ _,le,.inl (gA lt (cW (Ae9 b fp) s.le))⟩
     . refine ⟨p',b,fp,(C9 _ _ e).trans s.g,s.adj,s.ha,(Hf _ _ e').trans s.hp,s.le,s.old.imp id fun o=>?_⟩;refine rwl (if_neg e) (rwl (if_neg e') ?_);exact o
theorem Go.opened(x:Go h D F gs)(hF:F q=none):Go h (fun k=>D k\/k=q) (upd F q a) (E2 gs q .none):=by
 refine ⟨fun k hk=>?_,?_⟩
 . obtain ⟨e,hk⟩:=Rm hk;refine rwl (C9 _ _ e) ?_;exact x.no k hk
 . refine ex2 x.go fun τ t hg=>?_;refine ⟨fun k=>if k=q then 0 else τ k,t,fun k f hf=>?_⟩;rcases Jh hf with ⟨e1,_⟩ | ⟨e,hf⟩
   . refine rwl e1 ?_;exact ⟨by dsimp only;refine rwl (if_pos rfl) ?_;exact bH _,.inl ⟨.inr rfl,I1 _ _ _⟩⟩
   . obtain ⟨tk,hk⟩:=hg k f hf;refine ⟨by dsimp only;refine rwl (if_neg e) ?_;exact tk,hk.imp (fun w=>⟨.inl w.1,(C9 _ _ e).trans w.2⟩) fun w=>⟨fun c=>c.elim w.1 e,?_⟩⟩;refine Ae fun G kG=>?_;refine Ad w fun _ zz=>ex3 zz fun p' b fp s=>?_;refine kG ?_;have e':p'≠q:=fun c=>by have:=s.hp;rw [c,hF] at this;exact nomatch this
     refine ⟨p',b,fp,(C9 _ _ e).trans s.g,s.adj,s.ha,(Hf _ _ e').trans s.hp,s.le,s.old.imp id fun o=>?_⟩;refine rwl (if_neg e) (rwl (if_neg e') ?_);exact o
theorem Fg.perm(x:Fg h D O F xs gs)(p:ys.Perm xs):Fg h D O F ys gs:=⟨x.fl.perm p,x.go⟩
theorem Fg.start:Fg h (fun _=>False) O (fun _=>none) [] []:=⟨Fl.start,fun _ _=>rfl,fun _=>0,0,fun k f hf=>nomatch hf⟩
theorem Fg.opened(x:Fg h D O F xs gs)(hF:F q=none)(ha:h q=some a):Fg h (fun k=>D k\/k=q) O (upd F q a) (xs++[ent a q]) (E2 gs q .none):=⟨x.fl.opened hF ha,x.go.opened hF⟩
theorem Fg.stale(x:Fg h D O F (ent L p :: t) gs)(hF:F p≠some L):Fg h D O F t gs:=⟨x.fl.stale hF,x.go⟩
theorem Fg.pop(x:Fg h D (fun _ _=>False) F (ent L p :: t) gs):Fg h D (fun p' _=>p'=p) F t gs:=⟨x.fl.pop,x.go⟩
theorem Fg.skip(x:Fg h D O F xs gs)(hO:∀ p' q',O p' q'->O' p' q'\/(p'=p/\q'=q))(hF:F p=some L)(hq:∀ a,h q=some a->∃ fq,F q=some fq/\fq<=mx a L):Fg h D O' F xs gs:=⟨x.fl.skip hO hF hq,x.go⟩
theorem Fg.put(x:Fg h D O F xs gs)(hO:∀ p' q',O p' q'->O' p' q'\/(p'=p/\q'=q))(hF:F p=some L)(hA:Adj p q)(ha:h q=some a)(new:∀ f,F q=some f->mx a L < f) :
 Fg h D O' (upd F q (mx a L)) (xs++[ent (mx a L) q]) (E2 gs q (Aa p)):=by
 refine ⟨x.fl.put hO hF hA ha new,x.go.put hF hA ha (fun d=>?_) new⟩;refine ex1 (x.fl.drain q a d ha) fun f zz=>Ad zz fun hf le=>?_;exact absurd (new f hf) (eI.mpr (cW le (Aje a L)))
theorem Fg.close(x:Fg h D O F xs gs)(hc:∀ p q a,O p q->Adj p q->h q=some a->False):Fg h D O' F xs gs :=
 ⟨⟨x.fl.ents,x.fl.drain,x.fl.snd,fun p fp hf=>(x.fl.near p fp hf).imp id fun n q hq _ a ha=>n q hq (fun o=>hc p q a o hq ha) a ha⟩,x.go⟩
theorem Fg.dc(x:Fg h D O F xs gs):∀ y∈xs,DC y:=fun y hy=>by
 refine ex3 (x.fl.ents y hy) fun l k f zz=>Ad zz fun e _=>?_
 refine rwl e ?_;exact Wu l k
theorem Fg.imp(x:Fg h D O F xs gs)(hc:∀ p q,O p q->O' p q):Fg h D O' F xs gs :=
 ⟨⟨x.fl.ents,x.fl.drain,x.fl.snd,fun p fp hf=>(x.fl.near p fp hf).imp id fun n q hq ho a ha=>n q hq (fun c=>ho (hc p q c)) a ha⟩,x.go⟩
theorem Fg.drainsAre(x:Fg h D O F xs gs)(hc:∀ k,D k↔D' k):Fg h D' O F xs gs:=by have:D=D':=funext fun k=>propext (hc k);refine rwr this ?_;exact x
end
structure Fst where
 F:Key->Option Int
 gs:List (Key × Val)
 xs:List Val
noncomputable def low(o:Option Int)(l:Int):Bool:=(o.map fun f=>decide (f<=l)).getD false
noncomputable def Lz(h:Key->Option Int)(p:Key)(L:Int)(s:Fst)(q:Key):Fst :=
 ((h q).map fun a=>if low (s.F q) (mx a L)=true then s else ⟨upd s.F q (mx a L),E2 s.gs q (Aa p),Aay s.xs (ent (mx a L) q)⟩).getD s
noncomputable def turn(h:Key->Option Int)(s:Fst)(L:Int)(p:Key):Fst :=
 if s.F p=some L then (bes r c p.1 p.2).foldl (Lz h p L) ⟨s.F,s.gs,V8 s.xs⟩ else ⟨s.F,s.gs,V8 s.xs⟩
noncomputable def nxt(h:Key->Option Int)(s:Fst):Fst :=
 ((s.xs.head?.bind Ahu).bind fun v=>(Abw v.1).bind fun L=>(C1 v.2).map fun k=>turn h s L k).getD s
noncomputable def iter(h:Key->Option Int)(s:Fst):Nat->Fst
 | 0=>s
 | n+1=>nxt h (iter h s n)
noncomputable def An(h:Key->Option Int)(s0 s:Fst):Prop:=∃ n,s=iter h s0 n
section
theorem Td(e:h q=none):Lz h p L s q=s:=by unfold Lz;refine rwl e ?_;rfl
theorem Wz(e:h q=some a)(hf:s.F q=some f)(l:f<=mx a L):Lz h p L s q=s:=by unfold Lz;refine rwl e ?_;exact if_pos (by refine rwl hf ?_;exact decide_eq_true l)
theorem W0(e:h q=some a)(new:∀ f,s.F q=some f->mx a L < f):Lz h p L s q=⟨upd s.F q (mx a L),E2 s.gs q (Aa p),Aay s.xs (ent (mx a L) q)⟩:=by
 unfold Lz;refine rwl e ?_;refine if_neg fun c=>?_;cases hf:s.F q with
 | none=>rw [hf] at c;exact nomatch c
 | some f =>rw [hf] at c;exact absurd (new f hf) (eI.mpr (of_decide_eq_true (show decide (f<=mx a L)=true from c)))
theorem An.next(x:An h s0 s)(e:s.xs=ent L p :: xs):An h s0 (turn h s L p):=by obtain ⟨n,hn⟩:=x;refine ⟨n+1,?_⟩;show _=nxt h _;refine rwr hn ?_;unfold nxt;refine rwl e ?_;rfl
theorem iter_end(e:(iter h s0 n).xs=[]):iter h s0 (n+k)=iter h s0 n:=by
 induction k with
 | zero=>rfl
 | succ k ih =>show nxt h (iter h s0 (n+k))=_;refine rwl ih ?_;unfold nxt;refine rwl e ?_;rfl
theorem An.uniq(x:An h s0 s)(y:An h s0 t)(es:s.xs=[])(et:t.xs=[]):s=t:=by
 obtain ⟨n,x⟩:=x;obtain ⟨m,y⟩:=y;rw [x] at es ⊢;rw [y] at et ⊢;rcases sV n m with l | l
 . obtain ⟨k,hk⟩:=oM l;refine rwl hk ?_;exact (iter_end es).symm
 . obtain ⟨k,hk⟩:=oM l;refine rwl hk ?_;exact iter_end et
end
noncomputable def Ahe(h:Key->Option Int)(s:Fst)(v:Val):Fst :=
 ((C1 v).bind fun k=>(h k).map fun a=>(⟨upd s.F k a,E2 s.gs k .none,Aay s.xs (ent a k)⟩:Fst)).getD s
noncomputable def Jk(h:Key->Option Int)(vs:List Val):Fst:=vs.foldl (Ahe h) ⟨fun _=>none,[],[]⟩
theorem Te(e:h k=some a)(w:(⟨F,gs,xs⟩:Fst)=Jk h vs)(p:Aay xs (ent a k)=ys):(⟨upd F k a,E2 gs k .none,ys⟩:Fst)=Jk h (vs++[Aa k]):=by unfold Jk at w ⊢;refine rwl qE (rwr w (rwr p ?_));show _=((h k).map _).getD _;refine rwl e ?_;rfl
noncomputable def mz(g:List (List Val))(F:Key->Option Int):Nat:=mu (hgt g) (F9 r c) F
section
theorem Zx{i j:Nat}(x:FS H K lf lo lp lh es gs xs)(dc:∀ y∈xs,DC y)(n1:xs.length < 100000)(n2:es.length < 100000)(n3:gs.length < 100000)
 (q:∀ K' ys,FS H K' lf lo lp lh (E2 es ((i:Int),(j:Int)) (.int v)) (E2 gs ((i:Int),(j:Int)) (Aa p)) ys->ys.Perm (xs++[ent v ((i:Int),(j:Int))])->Aay xs (ent v ((i:Int),(j:Int)))=ys->(∀ m,m≠lf->m≠lo->m≠lh->K'[m]?=K[m]?)->QS [some (.loc o),some (.loc lf),some (.loc lo),some (.loc lp),some (.tup [.int (i:Int),.int (j:Int)]),some (ent L p),x6,some (.int v)] K') :
 wpSs T_14 (Ag T_14 (d+4)) (.cons (.setitem (.var 1) (.var 4) (.var 7)) (.cons (.setitem (.var 2) (.var 4) (.sub (.var 5) (.int 1))) (.cons (.expr (.umeth (.var 3) 6 (.cons (.tup (.cons (.var 7) (.cons (.var 4) .nil))) .nil))) .nil)))
  [some (.loc o),some (.loc lf),some (.loc lo),some (.loc lp),some (.tup [.int (i:Int),.int (j:Int)]),some (ent L p),x6,some (.int v)] K QS R NoX:=by
 have hlid:lid=16777216:=rfl;have x1:=x.setF (E2 es ((i:Int),(j:Int)) (.int v));have x2:=x1.setO (E2 gs ((i:Int),(j:Int)) (Aa p));simp only [↓Ah,↓Bk,↓D4,↓Cn,↓A2,↓Bd,↓A7,↓Bt,↓Am,↓A3,↓Gl,↓D9,↓Ai,↓At];refine rwl (Gu x.f (Afc n2 hlid)) ?_;show Wp (Av (.loc lo) (.tup [.int (i:Int),.int (j:Int)]) (Aa p)) _ _ _;refine rwl (Gu x1.o (Afc n3 hlid)) (rwl (K9 x2.p (show T_14.meth 8 6=some 30 from rfl)) ?_);refine (Wk (d+3) x2.p x2.h dc (Wu v ((i:Int),(j:Int))) n1).then ?_;rintro w K' ⟨_,ys,hr0,hp,hput⟩;refine rwl hr0 ?_;refine q _ ys (x2.setH ys) hp hput fun m h1 h2 h3=>?_;exact rwl (cB (gO h3)) (rwl (cB (gO h2)) (rwl (cB (gO h1)) rfl))
theorem Aem{i j:Nat}(x:FS H K lf lo lp lh es gs xs)(hes:Has es F):∃ t:Bool,(t=true->∀ f,F ((i:Int),(j:Int))=some f->a < f)/\(t=false->∃ f,F ((i:Int),(j:Int))=some f/\f<=a) /\
 wpE T_14 (Ag T_14 (d+4)) (.or (.cmp .notin (.var 4) (.var 1)) (.cmp .lt (.var 7) (.sub (.var 1) (.var 4)))) [x4,some (.loc lf),x5,x6,some (.tup [.int (i:Int),.int (j:Int)]),x7,x8,some (.int a)] K (fun v K'=>v=.bool t/\K'=K) NoE:=by
 have hk:=hes ((i:Int),(j:Int));cases hf:F ((i:Int),(j:Int)) with
 | none =>rw [hf] at hk;refine ⟨true,(fun _ f h=>nomatch h),(fun h=>nomatch h),?_⟩;simp only [↓Ea,↓Au,↓A2,↓Bd,↓D9,↓Ai,↓At];rw [Bj (Fh x.f)];refine rwl hk ?_;exact ⟨trivial,trivial⟩
 | some f =>
  rw [hf] at hk;refine ⟨decide (a < f),fun h f' h'=>?_,fun h=>⟨f,rfl,?_⟩,?_⟩
  . cases h';exact of_decide_eq_true h
  . have:=of_decide_eq_false h;exact eI.mp this
  . simp only [↓Ea,↓Au,↓A2,↓Bd,↓D9,↓Ai,↓At];rw [Bj (Fh x.f)];refine rwl hk ?_;show Wp (Dh (.loc lf) (.tup [.int (i:Int),.int (j:Int)])) K _ _;refine rwl (Fy x.f hk) ?_;exact ⟨rfl,rfl⟩
theorem Ajh(og:OkG r g)(LA:LandAt H o lg b s ls g es0)(x:FS H K lf lo lp lh es gs xs)(hes:Has es F)(fl:Fg (hgt g) D O F xs gs)(hO:∀ p' q',O p' q'->O' p' q'\/(p'=p/\q'=q))(hF:F p=some L)(hq:inR r c q=true)(hA:Adj p q)(n1:xs.length < 100000)(n2:es.length < 100000)(n3:gs.length < 100000)
 (k:∀ K' es' gs' xs' F' y4 y6 y7,FS H K' lf lo lp lh es' gs' xs'->Has es' F'->Fg (hgt g) D O' F' xs' gs'->(⟨F',gs',xs'⟩:Fst)=Lz (hgt g) p L ⟨F,gs,xs⟩ q->F' p=some L->5 * mz g F'+xs'.length<=5 * mz g F+xs.length->es'.length+mz g F'<=es.length+mz g F->gs'.length+mz g F'<=gs.length+mz g F->(∀ m,m≠lf->m≠lo->m≠lh->K'[m]?=K[m]?)->QS [some (.loc o),some (.loc lf),some (.loc lo),some (.loc lp),y4,some (ent L p),y6,y7] K') :
 wpSs T_14 (Ag T_14 (d+4)) zT3
  [some (.loc o),some (.loc lf),some (.loc lo),some (.loc lp),some (Aa q),some (ent L p),x6,x7] K QS R NoX:=by
 refine ex2 (Co hq) fun i j zz=>Ap zz fun zr2 hi hj=>?_;subst zr2;have LK:=LA.ext x.ext;refine ex2 (Hg og hi hj) fun w y zz=>Ap zz fun hw hy hcase=>?_;have st:wpE T_14 (Ag T_14 (d+4)) (.umeth (.var 0) 2 (.cons (.var 4) .nil)) [some (.loc o),some (.loc lf),some (.loc lo),some (.loc lp),some (Aa ((i:Int),(j:Int))),some (ent L p),x6,x7] K (fun v K'=>v=y/\K'=K) NoE:=by refine ex1 LK.inst fun fs zz=>Ad zz fun f0 _=>?_;simp only [↓Bt,↓A2,↓Am,↓A3,↓D9,↓Ai];refine rwl (Em f0 (show T_14.meth 7 2=some 25 from rfl)) ?_;exact Ot hi hj LK hw hy
 refine Ak _ st ?_;clear st LK LA;rintro v K' ⟨rfl,rfl⟩;rcases hcase with ⟨rfl,hn⟩ | ⟨a,rfl,_,ha⟩
 . exact k _ _ _ _ _ _ _ _ x hes (fl.skip hO hF (fun a ha=>by rw [hn] at ha;cases ha)) (Td hn).symm hF (aN _) (aN _) (aN _) fun _ _ _ _=>rfl
 . refine Qa (fun K2=>K2=K') ⟨rfl,rfl⟩ ?_;rintro K2 rfl;refine Ak (fun v K'=>v=.int (mx a L)/\K'=K2) ⟨rfl,rfl⟩ ?_;rintro v K' ⟨rfl,rfl⟩;refine ex1 (Aem (d:=d) (i:=i) (j:=j) (a:=mx a L) (x4:=some (.loc o)) (x5:=some (.loc lo)) (x6:=some (.loc lp)) (x7:=some (ent L p)) (x8:=some (.int a)) x hes) fun t zz=>Ap zz fun ht hf hc=>?_;refine A9 hc ?_;clear hc;rintro v K2 ⟨rfl,rfl⟩;refine Dm (fun h=>?_) (fun h=>?_)
   . have new:=ht h;have lt:=Aha (h:=hgt g) (ks:=F9 r c) (F:=F) (k:=((i:Int),(j:Int))) (v:=mx a L) (Ct.mpr hq) new (by obtain ⟨z,hz⟩:=(Rc.step (fl.fl.snd p L hF) hA ha).isH;exact ⟨z,Ct.mpr (Cz hz),hz⟩);refine Zx x fl.dc n1 n2 n3 fun K3 ys x' hperm hput keep=>k _ _ _ _ _ _ _ _ x' (hes.put _ _) ((fl.put hO hF hA ha new).perm hperm) (by refine rwl (W0 (s:=⟨F,gs,xs⟩) ha new) ?_;exact congrArg _ hput.symm) ?_ ?_ ?_ ?_ keep
     . by_cases e:p=((i:Int),(j:Int))
       . have t1:=new L (by refine rwr e ?_;exact hF);have t2:=Ae9 a L;exact (Ane t1 t2).elim
       . refine rwl (Hf _ _ e) ?_;exact hF
     . refine rwl hperm.length_eq (rwl aK ?_);show 5 * mu (hgt g) (F9 r c) _+(xs.length+1)<=5 * mu (hgt g) (F9 r c) F+xs.length;exact Anf lt
     . have:=Iz es ((i:Int),(j:Int)) (.int (mx a L));show _+mu (hgt g) (F9 r c) _<=_+mu (hgt g) (F9 r c) F;exact Akf lt this
     . have:=Iz gs ((i:Int),(j:Int)) (Aa p);show _+mu (hgt g) (F9 r c) _<=_+mu (hgt g) (F9 r c) F;exact Akf lt this
   . refine ex1 (hf h) fun f zz=>Ad zz fun h1 h2=>?_;exact k _ _ _ _ _ _ _ _ x hes (fl.skip hO hF (fun a' ha'=>by rw [ha] at ha';cases ha';exact ⟨f,h1,h2⟩)) (Wz (s:=⟨F,gs,xs⟩) ha h1 h2).symm hF (aN _) (aN _) (aN _) fun _ _ _ _=>rfl
end
inductive EInv(H:Hp)(o lf lo lp lh:Nat)(A:List Key->(Key->Option Int)->List Val->List (Key × Val)->Prop)(p:Key)(L:Int)(bs:List Key)(z:(Key->Option Int)->Nat)(a1 a2 a3 m':Nat):Nat->Env'->Hp->Prop
 | mk {j:Nat} {K:Hp} (es gs:List (Key × Val)) (xs:List Val) (F:Key->Option Int) (y4 y6 y7:Option Val) (x:FS H K lf lo lp lh es gs xs) (hes:Has es F) (fl:A (bs.take j) F xs gs) (hF:F p=some L) (b1:5 * z F+xs.length<=a1) (b2:es.length+z F<=a2) (b3:gs.length+z F<=a3) (gm:K[m']?=some (.list (bs.map Aa))) (hj:j<=4) :
  EInv H o lf lo lp lh A p L bs z a1 a2 a3 m' j [some (.loc o),some (.loc lf),some (.loc lo),some (.loc lp),y4,some (ent L p),y6,y7] K
inductive WInv(H:Hp)(o lf lo lp lh:Nat)(A:(Key->Option Int)->List Val->List (Key × Val)->Prop)(z:(Key->Option Int)->Nat):Nat->Env'->Hp->Prop
 | mk {n:Nat} {K:Hp} (es gs:List (Key × Val)) (xs:List Val) (F:Key->Option Int) (y4 y5 y6 y7:Option Val) (x:FS H K lf lo lp lh es gs xs) (hes:Has es F) (fl:A F xs gs) (hn:5 * z F+xs.length=n) (b1:n < 90000) (b2:es.length+z F < 90000) (b3:gs.length+z F < 90000) :
  WInv H o lf lo lp lh A z n [some (.loc o),some (.loc lf),some (.loc lo),some (.loc lp),y4,y5,y6,y7] K
section
set_option maxHeartbeats 1000000 in
theorem Aen(og:OkG r g)(LA:LandAt H o lg b s ls g es0)(x:FS H K lf lo lp lh es gs xs)(hes:Has es F)(fl:Fg (hgt g) D (fun p' _=>p'=p) F xs gs)(hF:F p=some L)(n1:5 * mz g F+xs.length < 90000)(n2:es.length+mz g F < 90000)(n3:gs.length+mz g F < 90000)
 (q:∀ K' es' gs' xs' F' y4 y6 y7,FS H K' lf lo lp lh es' gs' xs'->Has es' F'->Fg (hgt g) D (fun _ _=>False) F' xs' gs'->(⟨F',gs',xs'⟩:Fst)=(bes r c p.1 p.2).foldl (Lz (hgt g) p L) ⟨F,gs,xs⟩->5 * mz g F'+xs'.length<=5 * mz g F+xs.length->es'.length+mz g F'<=es.length+mz g F->gs'.length+mz g F'<=gs.length+mz g F->QS [some (.loc o),some (.loc lf),some (.loc lo),some (.loc lp),y4,some (ent L p),y6,y7] K') :
 wpS T_14 (Ag T_14 (d+4)) (.each 4 (.call 2 (.cons (.attr (.var 0) 0) (.cons (.attr (.var 0) 1) (.cons (.sub (.var 5) (.int 1)) .nil)))) zT3)
  [some (.loc o),some (.loc lf),some (.loc lo),some (.loc lp),x4,some (ent L p),x6,x7] K QS R NoX:=by
 refine Ae fun G kG=>?_;obtain ⟨p1,p2⟩:=p;have LK:=LA.ext x.ext;refine ex1 LK.inst fun fs zz=>Cf zz fun f0 f1 f2 _=>?_;refine kG ?_;apply Dn;simp only [↓Ax,↓Am,↓Eg,↓A2,↓D9,↓Ai,↓Bd,↓A7,↓A3,↓At];refine rwl (Dq f0 f1) (rwl (Dq f0 f2) ?_);show Wp (Ag T_14 (d+4) 2 [.int (r:Int),.int (c:Int),.tup [.int p1,.int p2]]) K _ _;refine (Mm (d:=d+1)).then ?_;intro v K1 zz;refine ex1 zz fun m' zz=>Cf zz fun zr1 hm e1 gm=>?_;subst zr1;rw [Bj (Bs gm)];have x1:=x.more e1;have blen:=Qe r c p1 p2;have lh':=x.lt;have lf':=A4 x.f;have lo':=A4 x.o;obtain ⟨I,hI⟩:=Fe (EInv H o lf lo lp lh (fun ks F' xs' gs'=>Fg (hgt g) D (fun p' q'=>p'=(p1,p2)/\¬q'∈ks) F' xs' gs'/\(⟨F',gs',xs'⟩:Fst)=ks.foldl (Lz (hgt g) (p1,p2) L) ⟨F,gs,xs⟩) (p1,p2) L (bes r c p1 p2) (mz g) (5 * mz g F+xs.length) (es.length+mz g F) (gs.length+mz g F) m');show WpS (Fn (chk (some m') ((bes r c p1 p2).map Aa)) (Tn 4) _ ((bes r c p1 p2).map Aa) _ _) _ _ _;refine B9 I ((hI _ _ _).mpr (.mk es gs xs F x4 x6 x7 x1 hes ⟨fl.imp (fun p q h=>⟨h,fun c=>nomatch c⟩),rfl⟩ hF (aN _) (aN _) (aN _) gm (bH _))) ?_ ?_ ?_
 . clear x1 x hes fl;intro Γ K' h;refine Ae fun G kG=>?_;obtain ⟨es',gs',xs',F',y4,y6,y7,x',hes',⟨fl',rx⟩,_,b1,b2,b3,_,hj⟩:=(hI _ _ _).mp h;refine kG ?_;rw [aM] at fl' rx;refine q K' es' gs' xs' F' y4 y6 y7 x' hes' (fl'.close ?_) (by rw [dS] at rx;exact rx) b1 b2 b3;rintro p q a ⟨rfl,hn⟩ hA ha;rw [dS] at hn;exact hn (Ji.mpr ⟨hA,Cz ha⟩)
 . intro j Γ K' _ h;obtain ⟨es',gs',xs',F',y4,y6,y7,_,_,_,_,_,_,_,gm',_⟩:=(hI _ _ _).mp h;exact Bz gm'
 . clear x1 x hes fl hF q;intro j z Γ K' hz h;obtain ⟨es',gs',xs',F',y4,y6,y7,x',hes',⟨fl',rx⟩,hF',b1,b2,b3,gm',hj⟩:=(hI _ _ _).mp h;refine ex1 (Ht hz) fun q zz=>Ad zz fun hq hr2=>?_;refine rwl hr2 ?_;obtain ⟨hA,hin⟩:=Ji.mp (aH hq);have lj:=(aE.mp hq).1;refine ⟨_,rfl,Ajh og LA x' hes' fl' (O':=fun p' q'=>p'=(p1,p2)/\¬q'∈(bes r c p1 p2).take (j+1)) (p:=(p1,p2)) (q:=q) ?_ hF' hin hA (aR (aB (aC (cE _ _) b1) n1) (by decide:90000 < 100000)) (Akg n2 b2) (Akg n3 b3) ?_⟩
   . rintro p' q' ⟨hr2,hn⟩;refine rwr hr2 ?_;by_cases e:q'=q
     . exact .inr ⟨rfl,e⟩
     . exact .inl ⟨rfl,fun h=>((Dr hq).mp h).elim hn e⟩
   . intro K2 es2 gs2 xs2 F2 z4 z6 z7 x2 hes2 fl2 rx2 hF2 c1 c2 c3 keep;exact (hI _ _ _).mpr (.mk es2 gs2 xs2 F2 z4 z6 z7 x2 hes2 ⟨fl2,rx2.trans (by refine rwl (Eb hq) (rwl qE (rwr rx ?_));rfl)⟩ hF2 (aC c1 b1) (aC c2 b2) (aC c3 b3) ((keep m' (dW (aA lf' hm)) (dW (aA lo' hm)) (dW (aA lh' hm))).trans gm') (aC lj blen))
set_option maxHeartbeats 1000000 in
theorem Aeo(og:OkG r g)(LA:LandAt H o lg b s ls g es0)(x:FS H K lf lo lp lh es gs xs)(hes:Has es F)(fl:Fg (hgt g) D (fun _ _=>False) F xs gs)(an:An (hgt g) s0 ⟨F,gs,xs⟩)(n1:5 * mz g F+xs.length < 90000)(n2:es.length+mz g F < 90000)(n3:gs.length+mz g F < 90000)
 (q:∀ K' es' gs' F' y4 y5 y6 y7,FS H K' lf lo lp lh es' gs' []->Has es' F'->Lv (hgt g) D F'->Go (hgt g) D F' gs'->An (hgt g) s0 ⟨F',gs',[]⟩->QS [some (.loc o),some (.loc lf),some (.loc lo),some (.loc lp),y4,y5,y6,y7] K') :
 wpS T_14 (Ag T_14 (d+4)) (.loop (.cmp .gt (.umeth (.var 3) 10 .nil) (.int 0)) zT0)
  [some (.loc o),some (.loc lf),some (.loc lo),some (.loc lp),x4,x5,x6,x7] K QS R NoX:=by
 obtain ⟨I,hI⟩:=Fe (WInv H o lf lo lp lh (fun F' xs' gs'=>Fg (hgt g) D (fun _ _=>False) F' xs' gs'/\An (hgt g) s0 ⟨F',gs',xs'⟩) (mz g));refine G5 I (n:=5 * mz g F+xs.length) (aR n1 (by decide)) ((hI _ _ _).mpr (.mk es gs xs F x4 x5 x6 x7 x hes ⟨fl,an⟩ rfl n1 n2 n3)) ?_;clear x hes fl an n1 n2 n3;intro n Γ K' h;obtain ⟨es',gs',xs',F',y4,y5,y6,y7,x',hes',⟨fl',an'⟩,hn,b1,b2,b3⟩:=(hI _ _ _).mp h;rw [Au];simp only [↓Bt,↓A2,↓D9,↓Ai,↓A3,↓A7];refine rwl (K9 x'.p (show T_14.meth 8 10=some 34 from rfl)) ?_;refine (Zp (d+3) x'.p x'.h).then ?_;rintro v K2 ⟨e,rfl⟩;refine rwl e ?_;rw [Ly];clear e;refine By ?_ ?_
 . intro hpos;refine Ak (fun v K2=>∃ t ys,xs'=v :: t/\FS H K2 lf lo lp lh es' gs' ys/\ys.Perm t/\ys=V8 xs') ?_ ?_
   . simp only [↓Bt,↓A2,↓D9,↓Ai,↓A3,↓A7];refine rwl (K9 x'.p (show T_14.meth 8 8=some 32 from rfl)) ?_;refine (Zo (d+2) (Ca x'.p x'.h (by intro c;cases c)) x'.p x'.h fl'.dc (aR (aB (aC (cE _ _) (aD hn)) b1) (by decide:90000 < 100000)) (fun c=>by rw [c] at hpos;exact absurd hpos (by decide))).then ?_;intro v K2 zz;refine ex2 zz fun t ys zz=>G7 zz fun e on hy hp ht=>?_;exact ⟨t,ys,e,x'.only on hy,hp,ht⟩
   clear x';intro v K2 zz;refine ex2 zz fun t ys zz=>Cf zz fun zr2 x2 hperm ht=>?_;subst zr2;refine ex3 (fl'.fl.ents v (.head _)) fun L zn1 f zz=>Ad zz fun zr3 hf=>?_;obtain ⟨p1,p2⟩:=zn1;subst zr3;have an2:=An.next (L:=L) (p:=(p1,p2)) an' rfl;unfold turn at an2;have hk:=hes' (p1,p2);rw [hf] at hk;have lt:(ent L (p1,p2) :: t).length=t.length+1:=rfl;have ly:=hperm.length_eq;have cond:wpE T_14 (Ag T_14 (d+4)) (.cmp .eq (.sub (.var 1) (.sub (.var 5) (.int 1))) (.sub (.var 5) (.int 0))) [some (.loc o),some (.loc lf),some (.loc lo),some (.loc lp),y4,some (.tup [.int L,.tup [.int p1,.int p2]]),y6,y7] K2 (fun v K3=>v=.bool (decide (f=L))/\K3=K2) NoE:=by simp only [↓Au,↓Bd,↓A2,↓D9,↓Ai,↓At,↓A7,↓Fv,↓Fu];refine rwl (Fy x2.f hk) ?_;exact ⟨rfl,rfl⟩
   refine A9 cond ?_;clear cond hk;rintro v K3 ⟨rfl,rfl⟩;refine By ?_ ?_
   . rintro rfl;refine Aen (p:=(p1,p2)) og LA x2 hes' (fl'.pop.perm hperm) hf (Akh hn b1 lt ly) b2 b3 ?_;intro K3 es3 gs3 xs3 F3 z4 z6 z7 x3 hes3 fl3 rx3 c1 c2 c3;exact ⟨_,by exact aA (aB c1 (aZ (aB (aD ly) (aD lt.symm)) _)) (aD hn),(hI _ _ _).mpr (.mk es3 gs3 xs3 F3 z4 _ z6 z7 x3 hes3 ⟨fl3,by rw [if_pos hf] at an2;refine rwl rx3 (rwl ht ?_);exact an2⟩ rfl (aR (aA (aB c1 (aZ (aB (aD ly) (aD lt.symm)) _)) (aD hn)) b1) (aB c2 b2) (aB c3 b3))⟩
   . intro hne;exact ⟨_,by exact aA (aZ (aB (aD ly) (aD lt.symm)) _) (aD hn),(hI _ _ _).mpr (.mk es' gs' ys F' y4 _ y6 y7 x2 hes' ⟨(fl'.stale (fun c=>hne (by rw [hf] at c;cases c;rfl))).perm hperm,by rw [if_neg (fun c=>hne (by have c:F' (p1,p2)=some L:=c;rw [hf] at c;cases c;rfl))] at an2;refine rwl ht ?_;exact an2⟩ rfl (Akh hn b1 lt ly) b2 b3)⟩
 . intro hz;have:xs'=[]:=List.length_eq_zero_iff.mp (kY fun h=>hz (eM.mpr h));subst this;exact q K' es' gs' F' y4 y5 y6 y7 x' hes' fl'.fl.fin fl'.go an'
end
inductive NInv(H:Hp)(o lf lo lp lh:Nat)(A:List Val->(Key->Option Int)->List Val->List (Key × Val)->Prop)(ds:List Val)(m':Nat):Nat->Env'->Hp->Prop
 | mk {n:Nat} {K:Hp} (es gs:List (Key × Val)) (xs:List Val) (F:Key->Option Int) (y4:Option Val) (x:FS H K lf lo lp lh es gs xs) (hes:Has es F) (fl:A (ds.take n) F xs gs) (only:∀ k f,F k=some f->Aa k∈ds.take n) (b1:xs.length<=n) (b2:es.length<=n) (b3:gs.length<=n) (gm:K[m']?=some (.list ds)) :
  NInv H o lf lo lp lh A ds m' n [some (.loc o),some (.loc lf),some (.loc lo),some (.loc lp),y4,none,none,none] K
section
theorem Ahf(LA:LandAt K o lg b s ls g es0)(x:FS H K lf lo lp lh es gs xs)(hi:i < r)(hj:j < c)(hw:g[i]?=some w)(hy:w[j]?=some (.int a))(dc:∀ y∈xs,DC y)(n1:xs.length < 100000)(n2:es.length < 100000)(n3:gs.length < 100000)
 (q:∀ K' ys,FS H K' lf lo lp lh (E2 es ((i:Int),(j:Int)) (.int a)) (E2 gs ((i:Int),(j:Int)) .none) ys->ys.Perm (xs++[ent a ((i:Int),(j:Int))])->Aay xs (ent a ((i:Int),(j:Int)))=ys->(∀ m,m≠lf->m≠lo->m≠lh->K'[m]?=K[m]?)->QS [some (.loc o),some (.loc lf),some (.loc lo),some (.loc lp),some (Aa ((i:Int),(j:Int))),none,none,none] K') :
 wpSs T_14 (Ag T_14 (d+4)) zT10 [some (.loc o),some (.loc lf),some (.loc lo),some (.loc lp),some (Aa ((i:Int),(j:Int))),none,none,none] K QS R NoX:=by
 have hlid:lid=16777216:=rfl;refine ex1 LA.inst fun fs zz=>Ad zz fun f0 _=>?_;have x2:=x.setF (E2 es ((i:Int),(j:Int)) (.int a));have x3:=x2.setO (E2 gs ((i:Int),(j:Int)) .none);have gt:C3 (E2 es ((i:Int),(j:Int)) (.int a)) ((i:Int),(j:Int))=some (.int a):=by rw [J9];exact rwl (if_pos rfl) rfl
 simp only [↓Ah,↓Bk,↓D4,↓Cn,↓A2,↓Bd,↓A7,↓Ef,↓Bt,↓Am,↓A3,↓Gl,↓D9,↓Ai];refine rwl (Em f0 (show T_14.meth 7 2=some 25 from rfl)) ?_;refine (Ot hi hj LA hw hy).then ?_;rintro v K2 ⟨rfl,rfl⟩;show Wp (Av (.loc lf) (.tup [.int (i:Int),.int (j:Int)]) (.int a)) _ _ _;refine rwl (Gu x.f (Afc n2 hlid)) ?_;show Wp (Av (.loc lo) (.tup [.int (i:Int),.int (j:Int)]) .none) _ _ _;refine rwl (Gu x2.o (Afc n3 hlid)) (rwl (K9 x3.p (show T_14.meth 8 6=some 30 from rfl)) ?_);show Wp (Dh (.loc lf) (.tup [.int (i:Int),.int (j:Int)])) _ _ _;refine rwl (Fy x3.f gt) ?_;refine (Wk (d+3) x3.p x3.h dc (Wu a ((i:Int),(j:Int))) n1).then ?_;intro w K' zz;refine Ad zz fun _ zz=>ex1 zz fun ys zz=>Ap zz fun hr0 hp hput=>?_;refine rwl hr0 ?_;refine q _ ys (x3.setH ys) hp hput fun m h1 h2 h3=>?_;exact rwl (cB (gO h3)) (rwl (cB (gO h2)) (rwl (cB (gO h1)) rfl))
theorem Zy(og:OkG r g)(hr:r<=30)(hc:c<=30)(LA:LandAt H o lg b s ls g es0)(hd:∀ k,Aa k∈(cells r c).filter (inD es0)->∃ a,hgt g k=some a)(x:FS H K lf lo lp lh [] [] [])
 (q:∀ K' es' gs' xs' F' y4,FS H K' lf lo lp lh es' gs' xs'->Has es' F'->Fg (hgt g) (fun k=>Aa k∈(cells r c).filter (inD es0)) (fun _ _=>False) F' xs' gs'->(⟨F',gs',xs'⟩:Fst)=Jk (hgt g) ((cells r c).filter (inD es0))->xs'.length<=r * c->es'.length<=r * c->gs'.length<=r * c->QS [some (.loc o),some (.loc lf),some (.loc lo),some (.loc lp),y4,none,none,none] K') :
 wpS T_14 (Ag T_14 (d+4)) (.each 4 (.umeth (.var 0) 4 .nil) zT10)
  [some (.loc o),some (.loc lf),some (.loc lo),some (.loc lp),none,none,none,none] K QS R NoX:=by
 have hrc:=fS hr hc;have LK:=LA.ext x.ext;refine ex1 LK.inst fun fs zz=>Ad zz fun f0 _=>?_;apply Dn;simp only [↓Bt,↓A2,↓D9,↓Ai,↓A3];refine rwl (Em f0 (show T_14.meth 7 4=some 27 from rfl)) ?_;refine (Mk (d:=d+2) hr hc LK).then ?_;clear LK f0;intro v K1 zz;refine ex1 zz fun m' zz=>Cf zz fun zr1 hm' e1 gm=>?_;subst zr1;rw [Bj (Bs gm)];have nd:((cells r c).filter (inD es0)).Nodup:=(Li r c).sublist gY;have hsub:∀ x∈(cells r c).filter (inD es0),∃ i j:Nat,x=Aa ((i:Int),(j:Int))/\i < r/\j < c:=fun x hx=>J6 (fL.mp hx).1;have dl:((cells r c).filter (inD es0)).length<=r * c:=by refine rwr (Gs r c) ?_;exact cV _ _
 generalize (cells r c).filter (inD es0)=ds at *
 have x1:=x.more e1;have lh':=x.lt;have lf':=A4 x.f;have lo':=A4 x.o;show WpS (Fn (chk (some m') ds) (Tn 4) _ ds _ _) _ _ _;obtain ⟨I,hI⟩:=Fe (NInv H o lf lo lp lh (fun vs F' xs' gs'=>Fg (hgt g) (fun k=>Aa k∈vs) (fun _ _=>False) F' xs' gs'/\(⟨F',gs',xs'⟩:Fst)=Jk (hgt g) vs) ds m');refine B9 I ((hI _ _ _).mpr (.mk [] [] [] (fun _=>none) none x1 (fun k=>rfl) ⟨Fg.start.drainsAre (fun k=>⟨fun h=>h.elim,fun h=>nomatch h⟩),rfl⟩ (fun k f h=>nomatch h) (aN _) (aN _) (aN _) gm)) ?_ ?_ ?_
 . clear x x1 LA hd hsub nd gm;intro Γ K' h;refine Ae fun G kG=>?_;obtain ⟨es',gs',xs',F',y4,x',hes',⟨fl',sx⟩,_,b1,b2,b3,_⟩:=(hI _ _ _).mp h;refine kG ?_;rw [dS] at fl' sx;exact q K' es' gs' xs' F' y4 x' hes' fl' sx (aC b1 dl) (aC b2 dl) (aC b3 dl)
 . intro j Γ K' _ h;obtain ⟨es',gs',xs',F',y4,_,_,_,_,_,_,_,gm'⟩:=(hI _ _ _).mp h;exact Bz gm'
 . clear x x1 q gm e1;intro n z Γ K' hz h;refine Ae fun G kG=>?_;obtain ⟨es',gs',xs',F',y4,x',hes',⟨fl',sx⟩,only,b1,b2,b3,gm'⟩:=(hI _ _ _).mp h;have ln:=(aE.mp hz).1;refine ex2 (hsub z (aH hz)) fun i j zz=>Ap zz fun zr2 hi hj=>?_;subst zr2;refine ex2 (Hg og hi hj) fun w y zz=>Ap zz fun hw hy hcase=>?_;obtain ⟨a,ha⟩:=hd _ (aH hz);refine kG ?_;rcases hcase with ⟨_,hn⟩ | ⟨a',rfl,ha0,ha'⟩
   . rw [hn] at ha;cases ha
   have nF:F' ((i:Int),(j:Int))=none:=by
    cases hf:F' ((i:Int),(j:Int)) with
    | none=>rfl
    | some f=>exact absurd (only _ f hf) (Rl nd hz)
   refine ⟨_,rfl,Ahf (LA.ext x'.ext) x' hi hj hw hy fl'.dc (Ah8 ln hrc dl b1) (Ah8 ln hrc dl b2) (Ah8 ln hrc dl b3) ?_⟩;intro K2 ys x3 hp hput keep;have fl2:=fl'.opened nF ha';refine (hI _ _ _).mpr (.mk _ _ ys _ _ x3 (hes'.put _ _) ⟨(fl2.perm hp).drainsAre (fun k=>?_),by refine rwl (Eb hz) ?_;exact Te ha' sx hput⟩ (fun k f hf=>?_) ?_ (aC (Iz _ _ _) (cG b2)) (aC (Iz _ _ _) (cG b3)) ((keep m' (dW (aA lf' hm')) (dW (aA lo' hm')) (dW (aA lh' hm'))).trans gm'))
   . rw [Dr hz];exact or_congr oX ⟨fun h=>congrArg Aa h,fun h=>Eu h⟩
   . rw [Dr hz];by_cases e:k=((i:Int),(j:Int))
     . exact .inr (congrArg Aa e)
     . rw [Hf _ _ e] at hf;exact .inl (only k f hf)
   . refine rwl hp.length_eq (rwl aK ?_);exact cG b1
end
structure Fld(g:List (List Val))(D:List Val)(F:Key->Option Int)(gs:List (Key × Val)):Prop where
 lv:Lv (hgt g) (fun k=>Aa k∈D) F
 go:Go (hgt g) (fun k=>Aa k∈D) F gs
 an:An (hgt g) (Jk (hgt g) D) ⟨F,gs,[]⟩
theorem Fld.uniq(x:Fld g D F gs)(y:Fld g D F' gs'):F=F'/\gs=gs':=by have:=x.an.uniq y.an rfl rfl;exact ⟨congrArg Fst.F this,congrArg Fst.gs this⟩
section
theorem Ox(og:OkG r g)(hr:r<=30)(hc:c<=30)(hrc:r * c<=132)(LA:LandAt H o lg b s ls g es0)(hd:∀ k,Aa k∈(cells r c).filter (inD es0)->∃ a,hgt g k=some a) :
 Wp (Ag T_14 (d+5) 6 [.loc o]) H (fun v H'=>∃ lf lo es gs F,v=.tup [.loc lf,.loc lo]/\Ext H H'/\H'[lf]?=some (.dict es)/\H'[lo]?=some (.dict gs)/\Has es F/\Fld g ((cells r c).filter (inD es0)) F gs) NoE:=by
 refine rwl (Aq (g:=Ag2) rfl rfl) ?_;refine Ak (fun v K=>v=.loc H.length/\K=H++[.dict []]) (by simp only [↓Jb,and_self]) ?_;rintro v K ⟨rfl,e⟩;refine rwl e ?_;clear e K;refine Ak (fun v K=>v=.loc (H.length+1)/\K=H++[.dict []]++[.dict []]) (by simp only [↓Jb,aK,gH,and_self]) ?_;rintro v K ⟨rfl,e⟩;refine rwl e ?_;clear e K;refine Ak (fun v K=>v=.loc (H.length+2)/\FS H K H.length (H.length+1) (H.length+2) (H.length+3) [] [] []) ?_ ?_
 . simp only [↓Rd,↓A3];refine Aef (d+3) _ ?_;have ll:(H++[HObj.dict []]++[HObj.dict []]).length=H.length+2:=by simp
   refine rwl ll ?_;have e0:Ext H (H++[HObj.dict []]):=⟨_,rfl⟩;have e1:Ext (H++[HObj.dict []]) (H++[HObj.dict []]++[HObj.dict []]):=⟨_,rfl⟩;have e2:Ext (H++[HObj.dict []]++[HObj.dict []]) (H++[HObj.dict []]++[HObj.dict []]++[HObj.inst 8 [(4,.loc (H.length+2+1))],HObj.list []]):=⟨_,rfl⟩;refine ⟨rfl,(e0.trans e1).trans e2,aN _,by exact o91,by exact aJ (bX (by decide)),by exact dB (bQ _),e2.get (e1.get (Ao H _)),e2.get ?_,?_,?_⟩
   . have:=Ao (H++[HObj.dict []]) (.dict []);rw [aK] at this;exact this
   . refine rwl (aS (aD ll)) (rwl ll ?_);rw [iC];rfl
   . refine rwl (aS (ll▸jC _)) (rwl ll (rwl (show H.length+3 - (H.length+2)=1 by exact Ang) ?_));rfl
 rintro v K ⟨hr2,x⟩;refine rwl hr2 ?_;refine Bu (QS:=fun Γ K'=>_) _ (Zy og hr hc LA hd x (fun K' es' gs' xs' F' y4 x' hes' fl' sx b1 b2 b3=>?_)) (fun Γ K h=>h);have ml:mz g F'<=132 * 133:=by refine aC (Ajg _ _ _) ?_;rw [I0];exact fS hrc (cG hrc)
 refine Bu (QS:=fun Γ K'=>_) _ (Aeo og LA x' hes' fl' ⟨0,sx⟩ (aB (eB (pU 5 ml) (aC b1 hrc)) (by decide)) (Aki ml hrc b2) (Aki ml hrc b3) (fun K2 es2 gs2 F2 z4 z5 z6 z7 x2 hes2 lv go an=>?_)) (fun Γ K h=>h);simp only [↓Ah,↓B8,↓Be,↓Gl,↓Am,↓A2,↓At,↓Ai,↓A3];exact ⟨_,_,es2,gs2,F2,rfl,x2.ext,x2.f,x2.o,hes2,lv,go,an⟩
noncomputable def ov:Option Int->Val
 | some i=>.int i
 | none=>.none
noncomputable def I2(F:Key->Option Int):List (List Val):=(bT r).map fun (i:Nat)=>(bT c).map fun (j:Nat)=>ov (F ((i:Int),(j:Int)))
theorem Lj(hi:i < r):(I2 F)[i]?=some ((bT c).map fun (j:Nat)=>ov (F ((i:Int),(j:Int)))):=by unfold I2;refine rwl aX (rwl (gX hi) ?_);rfl
theorem Abp{f:Nat->Val}{c j:Nat}(hj:j < c):((bT c).map f)[j]?=some (f j):=by refine rwl aX (rwl (gX hj) ?_);rfl
theorem Ll(F:Key->Option Int):(I2 F).length=r:=by unfold I2;rw [aM];exact rwl bV rfl
theorem Oy{α:Type}{l l':List α}(hl:l.length=l'.length)(h:∀ (k:Nat) (v:α),l[k]?=some v->l'[k]?=some v):l=l':=by
 refine eZ fun i=>?_;cases e:l[i]? with
 | some v=>exact rwl (h i v e) rfl
 | none =>rw [cZ] at e;exact rwl (dZ (o39 hl e)) rfl
end
noncomputable def Ev(i c:Nat):List Key:=(bT c).map fun (j:Nat)=>((i:Int),(j:Int))
theorem Oz(r c:Nat):F9 (r+1) c=F9 r c++Ev r c:=by unfold F9 Ev;refine rwl hE ?_;simp
theorem O0(i c:Nat):Ev i (c+1)=Ev i c++[((i:Int),(c:Int))]:=by unfold Ev;refine rwl hE (rwl cD ?_);rfl
theorem Qf(i c:Nat):(Ev i c).length=c:=by unfold Ev;rw [aM];exact rwl bV rfl
noncomputable def I3(g:List (List Val))(n e:Int)(k:Key):Bool:=(hgt g k).isSome && decide (dO (n+(k.1 * c+k.2) * (1+dO (cR n 12) 5)) e=0)
section
variable{H K:Hp}{Q:Val->Hp->Prop}{E:Nat->Hp->Prop}{l b s:Nat}{g:List (List Val)}
theorem W1(hS:OkS r c)(og:OkG r g)(G:GAt H l b s g):∃ w,((bT g.length).map fun i=>Val.loc (b+s * i))[0]?=some (.loc b)/\H[b]?=some (.list w)/\w.length=c:=by refine ex2 (An6 hS og G) fun w x zz=>Mq zz fun _ _ _ lw hi hr=>?_;exact ⟨w,hi,hr,lw⟩
theorem Aji(h1:((bT g.length).map fun i=>Val.loc (b+s * i))[0]?=some (.loc b))(top:H[l]?=some (.list ((bT g.length).map fun i=>Val.loc (b+s * i))))(h2:H[b]?=some (.list w)):Wp (Dh (.loc l) (.int 0)) H (fun v H'=>Wp (bfV .len [v]) H' Q E) E=Q (.int (w.length:Nat)) H:=by exact rwl (show (0:Int)=((0:Nat):Int) from rfl) (rwl (Et top h1) (rwl (As h2) rfl))
theorem Ahg{i j:Nat}(G:GAt H l b s g)(hw:g[i]?=some w)(hx:w[j]?=some x):Wp (Dh (.loc l) (.int (i:Int))) H (fun v H'=>Wp (Dh v (.int (j:Int))) H' Q E) E=Q x H:=by exact rwl (Et G.top (G.item (aE.mp hw).1)) (rwl (Et (G.row i w hw) hx) rfl)
theorem Aep(og:OkG r g)(G:GAt H l b s g)(hi:i < r)(hj:j < c)(h0:e≠0)(sm:small ((i:Int) * (c:Int)+(j:Int))=true) :
 wpE T_14 (Ag T_14 (d+1)) (.and (.cmp .isNot (.sub (.sub (.var 1) (.var 5)) (.var 6)) .none) (.cmp .eq (.bin .mod (.bin .add (.var 2) (.bin .mul (.var 7) (.bin .add (.int 1) (.bin .mod (.bin .fdiv (.var 2) (.int 12)) (.int 5))))) (.var 3)) (.int 0)))
  [some x0,some (.loc l),some (.int n),some (.int e),some x4,some (.int (i:Int)),some (.int (j:Int)),some (.int ((i:Int) * (c:Int)+(j:Int)))] H (fun v K=>v=.bool (I3 g n e ((i:Int),(j:Int)))/\K=H) NoE:=by
 refine ex2 (Hg og hi hj) fun w' y zz=>Ap zz fun hw' hy hcase=>?_;show Wp (Dh (.loc l) (.int (i:Int))) H (fun v H'=>Wp (Dh v (.int (j:Int))) H' _ _) _;refine rwl (Ahg G hw' hy) ?_;rcases hcase with ⟨rfl,hn⟩ | ⟨a,rfl,_,ha⟩
 . exact ⟨congrArg Val.bool (show false=((hgt g ((i:Int),(j:Int))).isSome && _) by refine rwl hn ?_;rfl),rfl⟩
 . exact ⟨by decide,by decide,by rw [sm];rfl,h0,congrArg Val.bool (show decide _=((hgt g ((i:Int),(j:Int))).isSome && decide _) by refine rwl ha ?_;rfl),rfl⟩
theorem Aeq(hS:OkS r c)(og:OkG r g)(G:GAt K l b s g)(hi:i < r)(hj:j < c)(h0:e≠0)(kl:ks.length < 1000)
 (q:∀ a7,QS [some (.script ns),some (.loc l),some (.int n),some (.int e),some (.loc K.length),some (.int (i:Int)),some (.int (j:Int)),a7] (K++[.list ((ks++[((i:Int),(j:Int))].filter (I3 g n e)).map Aa)])) :
 wpSs T_14 (Ag T_14 (d+1)) zT5 [some (.script ns),some (.loc l),some (.int n),some (.int e),some (.loc K.length),some (.int (i:Int)),some (.int (j:Int)),a7] (K++[.list (ks.map Aa)]) QS R NoX:=by
 have hlid:lid=16777216:=rfl;unfold OkS at hS;have GK:GAt (K++[.list (ks.map Aa)]) l b s g:=G.ext ⟨_,rfl⟩;have mul:=fS (show i<=29 by exact Akb hS hi) (show c<=30 by exact hS.2.2.2);have sm:small ((i:Int) * (c:Int)+(j:Int))=true:=by refine rwl (show ((i:Int) * (c:Int)+(j:Int))=((i * c+j:Nat):Int) by rw [rK,rJ]) ?_;exact Gq (aC (eB mul (aJ (aA hj hS.2.2.2))) (by decide))
 have smi:small (i:Int)=true:=Gq (Akc hS hi);refine Ak (fun v K'=>v=.int ((i:Int) * (c:Int)+(j:Int))/\K'=K++[.list (ks.map Aa)]) ?_ ?_
 . refine Ae fun G kG=>?_;refine ex1 (W1 (by unfold OkS;exact hS) og GK) fun w zz=>Ap zz fun h1 h2 lw=>?_;refine kG ?_;simp only [↓Dd,↓Fs,↓Am,↓A3,↓Bd,↓A2,↓A7,↓D9,↓Ai];refine rwl (Aji h1 GK.top h2) (rwl lw ?_);exact ⟨by rw [smi];rfl,rfl,rfl⟩
 rintro v K' ⟨rfl,rfl⟩;refine A9 (Aep og GK hi hj h0 sm) ?_;rintro v K' ⟨rfl,rfl⟩;refine Dm (fun h=>?_) (fun h=>?_)
 . rw [hV h] at q;refine Dp (fun K'=>K'=K++[.list ((ks++[((i:Int),(j:Int))]).map Aa)]) ?_ (fun K' h=>by refine rwl h ?_;exact q _);refine Dz rfl (Ao K _) ?_;refine ⟨_,Ao K _,by rw [aM];exact Aht kl hlid,?_⟩;rw [Np];refine rwl cD ?_;rfl
 . rw [hW (by refine rwl h ?_;exact dH),rB,dJ] at q;exact q _
theorem Zz(n:Int):∃ e:Int,e≠0/\∀ (x0 x1:Val) (H:Hp),wpE T_14 (Ag T_14 d) (.sub (.list (.cons (.int 2) (.cons (.int 3) (.cons (.int 5) (.cons (.int 9) (.cons (.int 14) .nil)))))) (.bin .mod (.bin .fdiv (.var 2) (.int 60)) (.int 5))) [some x0,some x1,some (.int n),none,none,none,none,none] H (fun v K=>v=.int e/\Ext H K) NoE:=by
 refine Ae fun G kG=>?_;refine ex1 (Cd (cR n 60) 5 (by decide)) fun k zz=>Ad zz fun hk lk=>?_;obtain ⟨e,he⟩:∃ e,([2,3,5,9,14]:List Int)[k]?=some e:=⟨_,aI lk⟩;refine kG ?_;have h0:∀ e∈([2,3,5,9,14]:List Int),e≠0:=by decide
 refine ⟨e,h0 e (aH he),fun x0 x1 H=>⟨by decide,by decide,?_⟩⟩;refine rwl (show dO (cR n 60) 5=(k:Int) from hk) ?_;refine Hs (Ao H _) (bE _) ?_ ⟨rfl,⟨_,rfl⟩⟩;show (([2,3,5,9,14]:List Int).map Val.int)[k]?=_;refine rwl aX (rwl he ?_);rfl
theorem Qg(ns:List Int)(hS:OkS r c)(og:OkG r g)(G:GAt H l b s g) :
 Wp (Ag T_14 (d+2) 14 [.script ns,.loc l]) H (fun v H'=>∃ m n e,v=.loc m/\H.length<=m/\Ext H H'/\H'[m]?=some (.list (((F9 r c).filter (I3 g n e)).map Aa))) NoE:=by
 have hS':=hS;unfold OkS at hS';refine rwl (Aq (g:=Aa1) rfl rfl) ?_;refine Ak (fun v K=>∃ n,v=.int n/\K=H) ?_ ?_
 . show Wp (Ag T_14 (d+1) 8 [.script ns,.int ((2:Nat):Int)]) H _ _;rw [G6];exact ⟨_,rfl,rfl⟩
 rintro v K ⟨n,rfl,rfl⟩;refine ex1 (Zz (d:=d+1) n) fun e zz=>Ad zz fun h0 he=>?_;refine Ak _ (he _ _ _) ?_;clear he;rintro v H1 ⟨rfl,e1⟩;have G1:=G.ext e1;refine Ak (fun v K=>v=.loc H1.length/\K=H1++[.list (([]:List Key).map Aa)]) ⟨rfl,rfl⟩ ?_;rintro v K ⟨rfl,rfl⟩;have ll:=Rk og (b:=b) (s:=s);obtain ⟨I,hI⟩:=Fe (fun (i:Nat) (Γ:Env') (K:Hp)=>∃ a5 a6 a7,Γ=[some (.script ns),some (.loc l),some (.int n),some (.int e),some (.loc H1.length),a5,a6,a7]/\K=H1++[.list (((F9 i c).filter (I3 g n e)).map Aa)]);refine Bu (I r) ?_ ?_
 . refine Gr (n:=r) I ?_ ⟨by exact Ahp,by exact dD.mpr (aJ (aB hS'.2.1 (by decide:30 < 1073741824)))⟩ ((hI _ _ _).mpr ⟨_,_,_,rfl,rfl⟩) ?_ (fun Γ K h=>by rw [bC] at h;exact h)
   . show Wp (bfV .len [.loc l]) _ _ _;refine rwl (As (Ext.get ⟨_,rfl⟩ G1.top)) (rwl ll ?_);exact ⟨rfl,rfl⟩
   . intro i Γ K hi h;refine ex3 ((hI _ _ _).mp h) fun a5 a6 a7 zz=>Ad zz fun zr3 zr4=>?_;subst zr3;subst zr4;have hi':i < r:=by exact bS.mp hi
     obtain ⟨J,hJ⟩:=Fe (fun (j:Nat) (Γ:Env') (K:Hp)=>∃ a6 a7,Γ=[some (.script ns),some (.loc l),some (.int n),some (.int e),some (.loc H1.length),some (.int (i:Int)),a6,a7]/\K=H1++[.list (((F9 i c++Ev i j).filter (I3 g n e)).map Aa)]);refine Gr (n:=c) J ?_ ⟨by exact Ahp,by exact dD.mpr (aJ (aB hS'.2.2.2 (by decide:30 < 1073741824)))⟩ ((hJ _ _ _).mpr ⟨_,_,rfl,by refine rwl (show Ev i 0=[] from rfl) ?_;rw [dJ]⟩) ?_ ?_
     . refine Ae fun G kG=>?_;refine ex1 (W1 hS og G1) fun w zz=>Ap zz fun h1 h2 lw=>?_;refine kG ?_;have e0:Ext H1 (H1++[HObj.list (((F9 i c).filter (I3 g n e)).map Aa)]):=⟨_,rfl⟩;show Wp (Dh (.loc l) (.int 0)) _ (fun v H'=>Wp (bfV .len [v]) H' _ _) _;refine rwl (Aji h1 (e0.get G1.top) (e0.get h2)) (rwl lw ?_);exact ⟨rfl,rfl⟩
     . intro j Γ K hj h;refine ex2 ((hJ _ _ _).mp h) fun a6 a7 zz=>Ad zz fun zr2 zr3=>?_;subst zr2;subst zr3;refine Aeq hS og G1 hi' (bS.mp hj) h0 ?_ fun a7=>(hJ _ _ _).mpr ⟨_,_,rfl,?_⟩
       . have t1:=cV (I3 g n e) (F9 i c++Ev i j);rw [aK,I0,Qf] at t1;have t2:=fS (show i<=29 by exact bK (aA (bS.mp hi) hS'.2.1)) (show c<=30 by exact hS'.2.2.2);exact aB t1 (aA (cT t2 (bS.mp hj)) (aC (aP hS'.2.2.2 _) (by decide)))
       . rw [O0,<- bJ,<- fW]
     . intro Γ K h;refine ex2 ((hJ _ _ _).mp h) fun a6 a7 zz=>Ad zz fun zr2 zr3=>?_;subst zr2;subst zr3;refine (hI _ _ _).mpr ⟨_,_,_,rfl,?_⟩;rw [bC,<- Oz]
 intro Γ K h;refine Ae fun G kG=>?_;refine ex3 ((hI _ _ _).mp h) fun a5 a6 a7 zz=>Ad zz fun zr3 zr4=>?_;subst zr3;subst zr4;refine kG ?_;exact ⟨H1.length,n,e,rfl,e1.len,e1.trans ⟨_,rfl⟩,Ao H1 _⟩
end
section
theorem Rn(kl:ks.length < 100)(hl:ll=K0.length)
 (hc:wpE T Φ cnd [v0,v1,some (.loc ll)] (K0++[.list (ks.map Aa)]) (fun v K=>v=.bool (inR rr cc q)/\K=K0++[.list (ks.map Aa)]) NoE)
 (he:wpE T Φ e [v0,v1,some (.loc ll)] (K0++[.list (ks.map Aa)]) (fun v K=>v=Aa q/\K=K0++[.list (ks.map Aa)]) NoE)
 (hq:wpSs T Φ ss [v0,v1,some (.loc ll)] (K0++[.list ((ks++[q].filter (inR rr cc)).map Aa)]) QS R ES):wpSs T Φ (.cons (.ite cnd (.cons (.expr (.bm (.var 2) .append (.cons e .nil))) .nil) .nil) ss) [v0,v1,some (.loc ll)] (K0++[.list (ks.map Aa)]) QS R ES:=by
 have hlid:lid=16777216:=rfl;subst hl;refine A9 hc ?_;rintro v K ⟨rfl,e1⟩;refine rwl e1 ?_;clear e1 K;refine Dm (fun h=>?_) (fun h=>?_)
 . rw [hV h] at hq;refine Dp (fun K=>K=K0++[.list ((ks++[q]).map Aa)]) ?_ (fun K h=>by refine rwl h ?_;exact hq);refine Dz rfl (Ao K0 _) (A9 he ?_);rintro v K ⟨rfl,rfl⟩;refine ⟨_,Ao K0 _,by rw [aM];exact aA (aR kl (by decide:100 < 16777216)) (aD hlid.symm),?_⟩;rw [Np];refine rwl cD ?_;rfl
 . rw [hW (by refine rwl h ?_;exact dH),rB,dJ] at hq;skip;exact hq
theorem Z0(hS:OkS r c)(og:OkG r g)(G:GAt H l b s g):Wp (Dh (.loc l) (.int 0)) H (fun v H'=>Wp (bfV .len [v]) H' Q E) E=Q (.int (c:Int)) H:=by refine ex1 (W1 hS og G) fun w zz=>Ap zz fun h1 h2 lw=>?_;exact rwl (show (0:Int)=((0:Nat):Int) from rfl) (rwl (Et G.top h1) (rwl (As h2) (rwl lw rfl)))
theorem Aer(r c:Nat)(i j:Int):bes r c i j=((([]++[(i - 1,j)].filter (inR r c))++[(i,j - 1)].filter (inR r c))++[(i,j+1)].filter (inR r c))++[(i+1,j)].filter (inR r c):=by unfold bes Qd;rw [bL,<- fW,<- fW,<- fW];rfl
set_option maxHeartbeats 1000000 in
theorem W2{i r:Nat}(h:i < r):(i:Int) - 1 < r:=cU (rI _ (by decide)) (bS.mpr h)
theorem Hu(hS:OkS r c)(og:OkG r g)(G:GAt H l b s g)(hi:i < r)(hj:j < c) :
 Wp (Ag T_14 (d+1) 16 [.loc l,.tup [.int (i:Int),.int (j:Int)]]) H (fun v H'=>∃ m,v=.loc m/\H.length<=m/\Ext H H'/\H'[m]?=some (.list (((bes r c i j).filter (fun q=>(hgt g q).isSome)).map Aa))) NoE:=by
 have hlid:lid=16777216:=rfl;have hS':=hS;unfold OkS at hS';have GX:∀ ob,GAt (H++[ob]) l b s g:=fun ob=>G.ext ⟨_,rfl⟩;have ll:=Rk og (b:=b) (s:=s);have l1:∀ k:Key,([k].filter (inR r c)).length<=1:=fun k=>cV _ _;refine rwl (Aq (g:=Aa3) rfl rfl) ?_;refine Ak (fun v K=>v=.loc H.length/\K=H++[.list (([]:List Key).map Aa)]) ⟨rfl,rfl⟩ ?_;rintro v K ⟨rfl,e⟩;refine rwl e ?_;clear e K;have a1:=l1 ((i:Int) - 1,(j:Int));have a2:=l1 ((i:Int),(j:Int) - 1);have a3:=l1 ((i:Int),(j:Int)+1);refine Rn (q:=((i:Int) - 1,(j:Int))) (rr:=r) (cc:=c) (by decide) rfl ?_ ⟨rfl,rfl⟩ ?_
 . refine ⟨?_,rfl⟩;exact congrArg Val.bool (decide_eq_decide.mpr ⟨fun h=>⟨fO h,W2 hi,bE j,bS.mpr hj⟩,fun h=>jF h.1⟩)
 refine Rn (q:=((i:Int),(j:Int) - 1)) (rr:=r) (cc:=c) (by simp only [aK,kZ];exact aB (aC (aD (cN _)) a1) (by decide:1 < 100)) rfl ?_ ⟨rfl,rfl⟩ ?_
 . refine ⟨?_,rfl⟩;exact congrArg Val.bool (decide_eq_decide.mpr ⟨fun h=>⟨bE i,bS.mpr hi,fO h,W2 hj⟩,fun h=>jF h.2.2.1⟩)
 refine Rn (q:=((i:Int),(j:Int)+1)) (rr:=r) (cc:=c) (by simp only [aK,kZ];exact aB (eB (aP a1 0) a2) (by decide)) rfl ?_ ⟨rfl,rfl⟩ ?_
 . show Wp (Dh (.loc l) (.int 0)) _ (fun v H'=>Wp (bfV .len [v]) H' _ _) _;refine rwl (Z0 hS og (GX _)) ?_;exact ⟨congrArg Val.bool (decide_eq_decide.mpr ⟨fun h=>⟨bE i,bS.mpr hi,bE (j+1),h⟩,fun h=>h.2.2.2⟩),rfl⟩
 refine Rn (q:=((i:Int)+1,(j:Int))) (rr:=r) (cc:=c) (by simp only [aK,kZ];exact aB (eB (eB (aP a1 0) a2) a3) (by decide)) rfl ?_ ⟨rfl,rfl⟩ ?_
 . show Wp (bfV .len [.loc l]) _ _ _;refine rwl (As (GX _).top) (rwl ll ?_);exact ⟨congrArg Val.bool (decide_eq_decide.mpr ⟨fun h=>⟨bE (i+1),h,bE j,bS.mpr hj⟩,fun h=>h.2.1⟩),rfl⟩
 rw [<- Aer];have blen:=Qe r c i j;have bin:∀ q∈bes r c i j,inR r c q=true:=fun q hq=>(Ji.mp hq).2;generalize bes r c i j=bs at *
 have e0:Ext H (H++[HObj.list (bs.map Aa)]):=⟨_,rfl⟩;refine Wx (l:=H.length) (ks:=bs) (p:=fun q=>(hgt g q).isSome) rfl (Ao H _) (aB blen (by decide:4 < 1000)) ⟨rfl,rfl⟩ (fun q hq=>?_) ⟨_,rfl,by refine rwl aK ?_;exact aG _ _,e0.new _,Ao _ _⟩;refine Ae fun G kG=>?_;refine ex2 (Co (bin q hq)) fun i' j' zz=>Ap zz fun zr2 hi' hj'=>?_;subst zr2;refine ex2 (Hg og hi' hj') fun w y zz=>Ap zz fun hw hy hcase=>?_;refine kG ?_;show Wp (Dh (.loc l) (.int (i':Int))) _ (fun v H'=>Wp (Dh v (.int (j':Int))) H' _ _) _;refine rwl (Ahg (GX _) hw hy) ?_;rcases hcase with ⟨rfl,hn⟩ | ⟨a,rfl,_,ha⟩
 . refine rwl hn ?_;exact ⟨rfl,rfl⟩
 . refine rwl ha ?_;exact ⟨rfl,rfl⟩
end
section
end
theorem Jl:(F9 r c).Nodup:=by have:=Li r c;rw [<- Jj] at this;exact sX (fun h e=>h (congrArg Aa e)) (fM.mp this)
theorem I4{ws:List Key}(nd:ws.Nodup)(hin:∀ q∈ws,q∈F9 r c):ws.length<=r * c:=by
 have p:((F9 r c).filter (fun k=>decide (k∈ws))).Perm ws:=by rw [nT ((Jl).sublist gY) nd];intro k;rw [fL];refine rwl decide_eq_true_eq ?_;exact ⟨fun h=>h.2,fun h=>⟨hin k h,h⟩⟩
 refine rwr p.length_eq (rwr (I0 r c) ?_);exact cV _ _
section
end
section
theorem Hv{α:Type}{v:α->Val}{gd:α->jH}(ks:List α)(h:∀ k∈ks,f (v k)=some (gd k)):I6 f (ks.map v)=some (ks.map gd):=by
 induction ks with
 | nil=>rfl
 | cons k ks ih =>show (match f (v k),I6 f (ks.map v) with | some d,some ds=>some (d :: ds) | _,_=>none)=_;refine rwl (h k (.head _)) (rwl (ih (fun k hk=>h k (.tail _ hk))) ?_);rfl
theorem Lm{ks:List Key}(h:H[ld]?=some (.list (ks.map Aa))):Cu .isin (Aa k) (.loc ld) H=some (decide (k∈ks)):=by
 have e:Cu .isin (Aa k) (.loc ld) H=inV (Aa k) (.loc ld) H:=rfl;have dk:∀ q:Key,A0 H Ej (Aa q)=some (.tuple [.int q.1,.int q.2]):=fun q=>rfl;have ds:I6 (A0 H Ej) (ks.map Aa)=some (ks.map fun q=>hY [.int q.1,.int q.2]):=by exact Hv ks (fun k _=>dk k)
 refine rwl e ?_;unfold inV;simp only [h];unfold Nt;rw [dk];refine rwl ds ?_;show some (List.any (ks.map fun q=>hY [.int q.1,.int q.2]) fun y=>dE y (.tuple [.int k.1,.int k.2]))=_;congr 1;rw [nH,List.any_eq_true];refine rwl decide_eq_true_eq ?_;have ev:∀ q:Key,dE (.tuple [.int q.1,.int q.2]) (.tuple [.int k.1,.int k.2])=(q.1 == k.1 && (q.2 == k.2 && true)):=fun q=>rfl;constructor
 . rintro ⟨y,hy,h1⟩;refine ex1 (cC.mp hy) fun q zz=>Ad zz fun hq zr2=>?_;subst zr2;rw [ev] at h1;simp at h1;refine rwr (iY h1.1 h1.2) ?_;exact hq
 . intro hk;refine ⟨_,cC.mpr ⟨k,hk,rfl⟩,?_⟩;rw [ev];simp
theorem Nq{i j:Nat}:q∈(bes r c i j).filter (fun q=>(hgt g q).isSome)↔(Adj ((i:Int),(j:Int)) q/\hgt g q≠none):=by
 rw [fL,Ji];constructor
 . rintro ⟨⟨h1,_⟩,h2⟩;exact ⟨h1,fun c=>by rw [c] at h2;cases h2⟩
 . rintro ⟨h1,h2⟩;cases e:hgt g q with
   | none=>exact absurd e h2
   | some y=>exact ⟨⟨h1,Cz e⟩,rfl⟩
theorem O1(h:H[l]?=some (.dict es)):Cu .isin (.tup [.int i,.int j]) (.loc l) H=some ((C3 es (i,j)).isSome):=by show inV (.tup [.int i,.int j]) (.loc l) H=_;unfold inV;simp only [h];rfl
end
section
theorem Qh(a b:Key):Ga H (Aa a) (Aa b)=some (decide (a=b)):=by
 show some (dE (.tuple [.int a.1,.int a.2]) (.tuple [.int b.1,.int b.2]))=_;have ev:dE (.tuple [.int a.1,.int a.2]) (.tuple [.int b.1,.int b.2])=(a.1 == b.1 && (a.2 == b.2 && true)):=rfl;refine rwl ev ?_;congr 1;rw [nH];refine rwl decide_eq_true_eq ?_;constructor
 . intro h;simp at h;exact iY h.1 h.2
 . rintro hr0;refine rwr hr0 ?_;simp
theorem Aes(a b:Key):Cu .ne (Aa a) (Aa b) H=some (!decide (a=b)):=by show Tm true (Ga H (Aa a) (Aa b))=_;rw [Qh];rfl
theorem Fi{ks:List Key}(h:H[ld]?=some (.list (ks.map Aa))):Cu .notin (Aa k) (.loc ld) H=some (!decide (k∈ks)):=by show Tm true (inV (Aa k) (.loc ld) H)=_;refine rwl (show inV (Aa k) (.loc ld) H=some (decide (k∈ks)) from Lm h) ?_;rfl
end
theorem Ka:∀ ds:List jH,(∀ d∈ds,dE d d=true)->jU ds ds=true:=by
 intro ds;induction ds with
 | nil=>intro _;rfl
 | cons d ds ihh =>intro h;show (dE d d && jU ds ds)=true;refine rwl (h d (.head _)) (rwl (ihh fun x hx=>h x (.tail _ hx)) ?_);rfl
noncomputable def vd:Val->jH
 | .int i=>.int i
 | _=>.none
noncomputable def NV(v:Val):Prop:=v=.none\/∃ n,v=.int n
theorem Aet(h:NV v):dE (vd v) (vd v)=true:=by
 rcases h with rfl | ⟨n,rfl⟩
 . rfl
 . show (n == n)=true;simp
section
theorem Aeu(h:NV v):A0 H n v=some (vd v):=by
 rcases h with rfl | ⟨i,rfl⟩
 . exact Vz n
 . exact Zk n i
theorem I5(h:H[l]?=some (.list xs)):A0 H (n+1) (.loc l)=(I6 (A0 H n) xs).map .list:=by have:A0 H (n+1) (.loc l)=(match H[l]? with | some (.list xs)=>(I6 (A0 H n) xs).map .list | _=>none):=rfl;exact rwl this (rwl h rfl)
theorem Z1(h:H[l]?=some (.list w))(hw:∀ v∈w,NV v):A0 H (n+1) (.loc l)=some (.list (w.map vd)):=by refine rwl (I5 h) ?_;have:=Hv (f:=A0 H n) (v:=fun x=>x) (gd:=vd) w (fun v hv=>Aeu (hw v hv));rw [List.map_id'] at this;refine rwl this ?_;rfl
theorem O6(G:GAt H l b s g)(hg:∀ w∈g,∀ v∈w,NV v):A0 H Ej (.loc l)=some (.list (g.map fun w=>.list (w.map vd))):=by
 show A0 H (5+1) (.loc l)=_;rw [I5 G.top];have e:(bT g.length).map (fun i=>mI (((g[i]?).getD []).map vd))=g.map fun w=>.list (w.map vd):=by
  refine eZ fun i=>?_;rw [aX,aX];by_cases q:i < g.length
  . rw [gX q];show some (mI (((g[i]?).getD []).map vd))=_;rw [aI q];rfl
  . rw [dZ (by rw [bV];exact aW.mp q),dZ (aW.mp q)];rfl
 rw [Hv (gd:=fun i=>mI (((g[i]?).getD []).map vd)) (bT g.length) (fun i hi=>?_),e]
 . rfl
 . have q:=eV.mp hi;have hw:g[i]?=some g[i]:=aI q;rw [Z1 (n:=4) (G.row i _ hw) (hg _ (kF q)),hw];rfl
theorem Z2(G:GAt H l b s g)(G':GAt H l' b' s' g)(hg:∀ w∈g,∀ v∈w,NV v):Ga H (.loc l) (.loc l')=some true:=by unfold Ga;refine rwl (O6 G hg) (rwl (O6 G' hg) ?_);show some (jU _ _)=_;rw [Ka];intro x hx;refine ex1 (cC.mp hx) fun w zz=>Ad zz fun hw zr2=>?_;subst zr2;refine Ka _ fun y hy=>?_;refine ex1 (cC.mp hy) fun v zz=>Ad zz fun hv zr2=>?_;subst zr2;exact Aet (hg w hw v hv)
theorem OkG.nv(og:OkG r g):∀ w∈g,∀ v∈w,NV v:=fun w hw v hv=>by
 obtain ⟨i,hi⟩:=fH.mp hw
 rcases (og.row i w hi).2 v hv with h | ⟨n,h,_⟩
 . exact .inl h
 . exact .inr ⟨n,h⟩
theorem Nr{ks:List Key}(ha:H[a]?=some (.list (ks.map Aa)))(hb:H[a']?=some (.list (ks.map Aa))):Ga H (.loc a) (.loc a')=some true:=by refine Zv (ds:=ks.map fun q=>hY [.int q.1,.int q.2]) ha hb (Hv ks fun k _=>rfl) ?_;refine Ka _ fun x hx=>?_;refine ex1 (cC.mp hx) fun k zz=>Ad zz fun _ hr0=>?_;refine rwr hr0 ?_;show (k.1 == k.1 && (k.2 == k.2 && true))=true;simp
end
theorem W3{ks:List Key}:Aa k∈ks.map Aa↔k∈ks:=by
 constructor
 . intro h;refine ex1 (cC.mp h) fun q zz=>Ad zz fun hq e=>?_;refine rwr (Eu e) ?_;exact hq
 . exact fun h=>cC.mpr ⟨k,h,rfl⟩
structure Lk(H:Hp)(g:List (List Val))(ks:List Key)(l m o:Nat):Prop where
 s:OkS r c
 n:r * c<=132
 og:OkG r g
 G:GAt H l (l+2) 2 g
 m:H[m]?=some (.list (ks.map Aa))
 L:∃ lg b' ls es,LandAt H o lg b' 1 ls g es/\(cells r c).filter (inD es)=ks.map Aa
 d:∀ k∈ks,∃ a,hgt g k=some a
section
variable{H K:Hp}{d:Nat}{l m o:Nat}{g:List (List Val)}{ks:List Key}
theorem Lk.ext(x:Lk H g ks l m o)(e:Ext H H'):Lk H' g ks l m o:=by refine Ae fun G kG=>?_;refine ex4 x.L fun lg b' ls es zz=>Ad zz fun L q=>?_;refine kG ?_;exact ⟨x.s,x.n,x.og,x.G.ext e,e.get x.m,⟨lg,b',ls,es,L.ext e,q⟩,x.d⟩
theorem Gv(I:Nat->Env'->Hp->Prop)(hit:wpE T Φ it Γ H (fun v H'=>v=.loc l/\H'=K0) NoE)(hl:K0[l]?=some (.list xs))(h0:I 0 Γ K0)(hx:∀ k Γ K,I k Γ K->K[l]?=some (.list xs))
 (hs:∀ k x Γ K,xs[k]?=some x->I k Γ K->wpSs T Φ body (Γ.set i (some x)) K (I (k+1)) R ES) (hd:∀ Γ K,I xs.length Γ K->QS Γ K):wpS T Φ (.each i it body) Γ H QS R ES:=by
 refine Dn (A9 hit ?_);rintro v H' ⟨hr0,e⟩;refine rwl hr0 ?_;refine rwl e ?_;rw [Bj (Bs hl)];exact B9 I h0 hd (fun k Γ K _ h=>Bz (hx k Γ K h)) fun k x Γ K hx h=>⟨_,rfl,hs k x Γ K hx h⟩
end
noncomputable def kt(a b:Key):Bool:=decide (a.1 < b.1) || (decide (a.1=b.1) && decide (a.2 < b.2))
theorem Mn:kt a b=true↔(a.1 < b.1\/(a.1=b.1/\a.2 < b.2)):=by unfold kt;rw [eJ,fR,decide_eq_true_iff,decide_eq_true_iff,decide_eq_true_iff]
theorem Aev(h:¬(a.1 < b.1\/(a.1=b.1/\a.2 < b.2))):kt a b=false:=qJ.mpr fun q=>h (Mn.mp q)
theorem Z3(h:kt a b=false):¬(a.1 < b.1\/(a.1=b.1/\a.2 < b.2)):=fun q=>by rw [Mn.mpr q] at h;exact nomatch h
theorem W4(a b:Key):Lq Ej (Aa a) (Aa b)=some (kt a b):=by
 have e:Lq Ej (Aa a) (Aa b)=(match Ga [] (.int a.1) (.int b.1) with
  | some true=>(match Ga [] (.int a.2) (.int b.2) with
   | some true=>some false
   | some false=>some (decide (a.2 < b.2))
   | none=>none)
  | some false=>some (decide (a.1 < b.1))
  | none=>none):=rfl
 have pe:∀ x y:Int,Ga [] (.int x) (.int y)=some (decide (x=y)):=fun x y=>rfl;refine rwl e ?_;rw [pe,pe];unfold kt;by_cases h1:a.1=b.1
 . refine rwl (decide_eq_true h1) (rwl (decide_eq_false (show ¬a.1 < b.1 by exact Ah9 h1)) ?_);by_cases h2:a.2=b.2
   . refine rwl (decide_eq_true h2) (rwl (decide_eq_false (show ¬a.2 < b.2 by exact Ah9 h2)) ?_);rfl
   . refine rwl (decide_eq_false h2) ?_;rfl
 . refine rwl (decide_eq_false h1) ?_;show some (decide (a.1 < b.1))=some (decide (a.1 < b.1) || false);rw [Bool.or_false]
noncomputable def ltV(a b:Val):Bool:=match C1 a,C1 b with
 | some x,some y=>kt x y
 | _,_=>false
theorem E5{ks:List Key}{C:Val->Prop}(h:∀ k,C (Aa k)):∀ x∈ks.map Aa,C x:=fun x hx=>by refine ex1 (cC.mp hx) fun k zz=>Ad zz fun _ e=>?_;exact e▸h k
theorem Tf(ks:List Key):Order (ks.map Aa) ltV :=
 ⟨E5 fun a=>E5 fun b=>W4 a b,
  E5 fun a=>E5 fun b h=>Aev (a:=b) (b:=a) (by have h:=Mn.mp (show kt a b=true from h);exact Akj h),
  E5 fun a=>E5 fun b=>E5 fun c h1 h2=>Aev (a:=c) (b:=a) (by have n1:=Z3 (a:=b) (b:=a) h1;have n2:=Z3 (a:=c) (b:=b) h2;exact Anh n1 n2),
  E5 fun a=>E5 fun b h1 h2=>by
   have n1:=Z3 (a:=a) (b:=b) h1
   have n2:=Z3 (a:=b) (b:=a) h2
   exact rwl (show a=b from iY (hM (eI.mp fun z=>n2 (.inl z)) (eI.mp fun z=>n1 (.inl z))) (Ani n1 n2)) rfl⟩
theorem Aew(r c:Nat):(F9 r c).Pairwise fun a b=>kt a b=true:=by
 induction r with
 | zero=>exact .nil
 | succ r ih =>
  rw [Oz,dP];refine ⟨ih,?_,fun a ha b hb=>?_⟩
  . unfold Ev;rw [fM];exact List.pairwise_lt_range.imp fun {i j} h=>Mn (a:=((r:Int),((i:Nat):Int))) (b:=((r:Int),((j:Nat):Int))) |>.mpr (.inr ⟨rfl,bS.mpr h⟩)
  . have ha:=of_decide_eq_true (Ct.mp ha);refine ex1 (cC.mp hb) fun j zz=>Ad zz fun _ hr0=>?_;refine rwr hr0 ?_;exact Mn.mpr (.inl ha.2.1)
open Classical in
noncomputable def Da(r c:Nat)(P:Key->Prop):List Key:=(F9 r c).filter fun k=>decide (P k)
open Classical in
theorem O7{ks:List Key}(nd:ks.Nodup)(hP:∀ k,k∈ks↔P k)(inr:∀ k∈ks,inR r c k=true)(h:r * c<=132):E6 (ks.map Aa)=some ((Da r c P).map Aa):=by
 have pm:(Da r c P).Perm ks:=by unfold Da;rw [nT ((Jl).sublist (gY)) nd];intro k;rw [fL,decide_eq_true_iff,hP];exact ⟨fun h=>h.2,fun h=>⟨Ct.mpr (inr k ((hP k).mpr h)),h⟩⟩
 have hl:ks.length<=132:=by refine rwr pm.length_eq ?_;refine aC (cV _ _) ?_;rw [I0];exact h
 refine Nu ⟨by rw [aM];exact aJ (aB hl (by decide:132 < 1000)),fM.mpr (nd.imp fun {a b} n e=>n (Eu e)),E5 fun k=>⟨_,rfl⟩,ltV,Tf ks⟩ ⟨pm.map Aa,?_⟩;rw [fM];refine ((Aew r c).sublist gY).imp fun {a b} h=>?_;rw [W4];have:=Mn.mp h;exact rwl (Aev (a:=b) (b:=a) (Akj this)) rfl
theorem Ln(h:Ec l H=some xs)(e:E6 xs=some ys)(q:Q (.loc H.length) (H++[.list ys])):Wp (bfV .sorted [.loc l]) H Q E:=by
 refine Wp.of_eq ?_ q;show (match (Ec l H).bind E6 with
  | some ys=>M.alloc (.list ys) H
  | none=>.bad)=_
 refine rwl h ?_;show (match E6 xs with
  | some ys=>M.alloc (.list ys) H
  | none=>.bad)=_
 refine rwl e ?_;rfl
theorem Ro(h:H[l]?=some (.list xs)):Ec l H=some xs:=by delta Ec;exact rwl h rfl
theorem Z4(h:H[l]?=some (.dict es)):Ec l H=some (es.map fun p=>Aa p.1):=by delta Ec;exact rwl h rfl
inductive Rch(ok:Key->Prop)(k0:Key):Key->Prop
 | start:Rch ok k0 k0
 | step {p q:Key}:Rch ok k0 p->Adj p q->ok q->Rch ok k0 q
structure Df(ok:Key->Prop)(k0:Key)(S:List Key)(C:Key->Prop)(O:Key->Key->Prop):Prop where
 nd:S.Nodup
 rch:∀ q∈S,Rch ok k0 q
 here:k0∈S
 cl:∀ p q,C p->Adj p q->ok q->q∈S\/O p q
section
theorem Df.start:Df ok k0 [k0] (fun _=>False) O:=⟨eD.mpr ⟨dT,.nil⟩,fun q h=>aT.mp h▸.start,.head _,fun _ _ h=>h.elim⟩
theorem Df.imp(x:Df ok k0 S C O)(h:∀ p q,C' p->Adj p q->ok q->(C p/\(O p q->O' p q))\/O' p q):Df ok k0 S C' O' :=
 ⟨x.nd,x.rch,x.here,fun p q hp a o=>(h p q hp a o).elim (fun z=>(x.cl p q z.1 a o).imp id z.2) .inr⟩
theorem Df.push(x:Df ok k0 S C O)(hp:p∈S)(a:Adj p q)(o:ok q)(n:¬q∈S)(h:∀ p' q',O p' q'->O' p' q'\/q'=q):Df ok k0 (S++[q]) C O':=by
 refine ⟨?_,fun z hz=>?_,gP _ x.here,fun p' q' hp' a' o'=>?_⟩
 . rw [jV];refine ⟨x.nd,eD.mpr ⟨dT,.nil⟩,fun z hz w hw e=>?_⟩;rw [aT.mp hw] at e;exact n (e▸hz)
 . rcases bM.mp hz with h | h
   . exact x.rch z h
   . exact aT.mp h▸.step (x.rch p hp) a o
 . rcases x.cl p' q' hp' a' o' with h' | h'
   . exact .inl (gP _ h')
   . rcases h p' q' h' with h' | h'
     . exact .inr h'
     . exact .inl (h'▸iL _ (.head _))
theorem Df.fin(x:Df ok k0 S C (fun _ _=>False))(h:∀ p∈S,C p)(k:Key):k∈S↔Rch ok k0 k:=by
 refine ⟨x.rch k,fun w=>?_⟩;induction w with
 | start=>exact x.here
 | step _ a o ih=>exact (x.cl _ _ (h _ ih) a o).resolve_right id
end
noncomputable def lev(F:Key->Option Int)(k:Key):Int:=(F k).getD 1000000001
noncomputable def okH(h F:Key->Option Int)(k q:Key):Prop:=∃ b,h q=some b/\b < lev F k
open Classical in
noncomputable def held(h F:Key->Option Int)(k:Key):List Key:=match h k with
 | none=>[]
 | some a=>if lev F k<=a then [] else Da r c (Rch (okH h F k) k)
theorem Rch.inr(hk:inR r c k=true)(x:Rch (okH (hgt g) F k) k q):inR r c q=true:=by
 cases x with
 | start=>exact hk
 | step _ _ o=>refine ex1 o fun b zz=>Ad zz fun hb _=>?_;exact Cz hb
theorem O8(e:h k=none):held h F k=[]:=by unfold held;exact rwl e rfl
theorem W5(e:h k=some a)(l:lev F k<=a):held h F k=[]:=by unfold held;refine rwl e ?_;exact if_pos l
theorem Rp(e:h k=some a)(l:¬lev F k<=a):held h F k=Da r c (Rch (okH h F k) k):=by unfold held;refine rwl e ?_;exact if_neg l
structure La(H:Hp)(o:Nat)(g:List (List Val))(D:List Val):Prop where
 hr:r<=30
 hc:c<=30
 hrc:r * c<=132
 og:OkG r g
 L:∃ lg b ls es,LandAt H o lg b 1 ls g es/\(cells r c).filter (inD es)=D
 hd:∀ k,Aa k∈D->∃ a,hgt g k=some a
inductive Fdd(g:List (List Val))(D:List Val)(H:Hp):Val->Hp->Prop
 | mk {K:Hp} (lf lo:Nat) (es gs:List (Key × Val)) (F:Key->Option Int) (ex:Ext H K) (hf:K[lf]?=some (.dict es)) (ho:K[lo]?=some (.dict gs)) (hes:Has es F) (fd:Fld g D F gs):Fdd g D H (.tup [.loc lf,.loc lo]) K
inductive Way(h:Key->Option Int)(D:Key->Prop)(F:Key->Option Int)(gs:List (Key × Val)):Key->List Key->Prop
 | drain {k:Key} {f:Int}:D k->C3 gs k=some .none->F k=some f->Way h D F gs k [k]
 | step {k p:Key} {ws:List Key} {a fp:Int}:¬D k->C3 gs k=some (Aa p)->Adj p k->h k=some a->F p=some fp->F k=some (mx a fp)->¬k∈ws->Way h D F gs p ws->Way h D F gs k (k :: ws)
noncomputable abbrev WayG(g:List (List Val))(D:List Val)(F:Key->Option Int)(gs:List (Key × Val))(k:Key)(ws:List Key):Prop:=Way (hgt g) (fun k=>Aa k∈D) F gs k ws
section
theorem La.ext(x:La H o g D)(e:Ext H K):La K o g D:=by refine Ae fun G kG=>?_;refine ex4 x.L fun lg b ls es zz=>Ad zz fun L q=>?_;refine kG ?_;exact ⟨x.hr,x.hc,x.hrc,x.og,⟨lg,b,ls,es,L.ext e,q⟩,x.hd⟩
theorem La.inst(x:La H o g D):∃ fs,H[o]?=some (.inst 7 fs)/\fs.lookup 0=some (.int (r:Int))/\fs.lookup 1=some (.int (c:Int)):=by refine Ae fun G kG=>?_;refine ex4 x.L fun lg b ls es zz=>Ad zz fun L _=>?_;refine ex1 L.inst fun fs zz=>Cf zz fun h0 h1 h2 _=>?_;refine kG ?_;exact ⟨fs,h0,h1,h2⟩
theorem La.flood(x:La H o g D):Wp (Ag T_14 (d+5) 6 [.loc o]) H (Fdd g D H) NoE:=by refine Ae fun G kG=>?_;refine ex4 x.L fun lg b ls es zz=>Ad zz fun L q=>?_;refine kG ?_;refine (Ox x.og x.hr x.hc x.hrc L (by refine rwl q ?_;exact x.hd)).then ?_;rintro v K ⟨lf,lo,es',gs,F,hr0,ex,h1,h2,h3,h4⟩;refine rwl hr0 ?_;rw [q] at h4;exact .mk lf lo es' gs F ex h1 h2 h3 h4
theorem La.drains(x:La H o g D):Wp (Ag T_14 (d+2) 27 [.loc o]) H (fun v K=>∃ m,v=.loc m/\H.length<=m/\Ext H K/\K[m]?=some (.list D)) NoE:=by refine ex4 x.L fun lg b ls es zz=>Ad zz fun L q=>?_;refine rwr q ?_;exact Mk x.hr x.hc L
theorem La.at(x:La H o g D)(hk:inR r c k=true):Wp (Ag T_14 (d+4) 25 [.loc o,Aa k]) H (fun v K=>v=ov (hgt g k)/\K=H) NoE:=by
 refine Ae fun G kG=>?_;refine ex2 (Co hk) fun i j zz=>Ap zz fun zr2 hi hj=>?_;subst zr2;refine ex4 x.L fun lg b ls es zz=>Ad zz fun L q=>?_;refine ex2 (Hg x.og hi hj) fun w y zz=>Ap zz fun hw hy hcase=>?_;refine kG ?_;refine (Ot hi hj L hw hy).then ?_;rintro v K ⟨hr1,e⟩;refine rwl hr1 ?_;refine ⟨?_,e⟩;rcases hcase with ⟨rfl,hn⟩ | ⟨a,rfl,_,ha⟩
 . refine rwl hn ?_;rfl
 . refine rwl ha ?_;rfl
theorem Fld.rank(x:Fld g D F gs):∃ rk:Key->Nat,∀ k f,F k=some f->(Aa k∈D/\C3 gs k=some .none)\/(¬Aa k∈D/\∃ p a fp,C3 gs k=some (Aa p)/\Adj p k/\hgt g k=some a/\F p=some fp/\F k=some (mx a fp)/\rk p < rk k):=by
 refine ex2 x.go.go fun τ t hg=>?_;refine ⟨fun k=>rnk (hgt g) (F9 r c) (F k) * (t+1)+τ k,fun k f hf=>(hg k f hf).2.imp id fun w=>⟨w.1,?_⟩⟩;refine Ae fun G kG=>?_;refine Ad w fun _ zz=>ex3 zz fun p a fp s=>?_;have rp:=x.lv.snd p fp s.hp;refine ex1 (x.lv.low k _ (Rc.step rp s.adj s.ha)) fun f' zz=>Ad zz fun hf' le=>?_;refine kG ?_;have e:f'=f:=aO (hf'.symm.trans hf);have em:f=mx a fp:=hM (e▸le) s.le;refine ⟨p,a,fp,s.g,s.adj,s.ha,s.hp,em▸hf,?_⟩;have tp:=(hg p fp s.hp).1;show rnk _ _ (F p) * (t+1)+τ p < rnk _ _ (F k) * (t+1)+τ k;refine rwl hf (rwl s.hp ?_);rcases Int.lt_or_le fp f with l | l
 . obtain ⟨z,hz⟩:=rp.isH;have:=Abo (h:=hgt g) (ks:=F9 r c) (v:=fp) (o:=some f) (fun f' e=>aO e▸l) ⟨z,Ct.mpr (Cz hz),hz⟩;have m:=Nat.mul_le_mul_right (t+1) (Nat.succ_le_of_lt this);rw [oT] at m;exact aA (aA (aZ (aB tp (bQ _)) _) m) (aG _ _)
 . have e2:fp=f:=hM (cW (Ae9 a fp) s.le) l;have:=s.old.resolve_left (Ah9 e2);refine rwl e2 ?_;exact o81 this
theorem Fld.way(x:Fld g D F gs)(hf:F k=some f):∃ ws,WayG g D F gs k ws:=by
 obtain ⟨rk,hr⟩:=x.rank;have main:∀ (n:Nat) (k:Key) (f:Int),rk k < n->F k=some f->∃ ws,WayG g D F gs k ws/\∀ q∈ws,rk q<=rk k:=by
  intro n;induction n with
  | zero=>exact fun k f hn _=>absurd hn (nP _)
  | succ n ih =>
   intro k f hn hf;rcases hr k f hf with ⟨d,e⟩ | ⟨nd,p,a,fp,e,ad,ha,hp,hm,l⟩
   . exact ⟨[k],.drain d e hf,fun q hq=>by refine rwl (aT.mp hq) ?_;exact aN _⟩
   . refine ex1 (ih p fp (aA l (bK hn)) hp) fun ws zz=>Ad zz fun w b=>?_;refine ⟨k :: ws,.step nd e ad ha hp hm (fun c=>eR.mpr l (b k c)) w,fun q hq=>?_⟩;rcases bO.mp hq with rfl | hq
     . exact aN _
     . exact aC (b q hq) (aJ l)
 refine ex1 (main (rk k+1) k f (bQ _) hf) fun ws zz=>Ad zz fun w _=>?_;exact ⟨ws,w⟩
theorem Way.all{D:Key->Prop}(x:Way h D F gs k ws):ws.Nodup/\∀ q∈ws,∃ f,F q=some f:=by
 induction x with
 | drain d e f=>exact ⟨eD.mpr ⟨(fun c=>nomatch c),lG⟩,fun q hq=>by refine rwl (aT.mp hq) ?_;exact ⟨_,f⟩⟩
 | step nd e ad ha hp hk nk w ih =>
  refine ⟨eD.mpr ⟨nk,ih.1⟩,fun q hq=>?_⟩;rcases bO.mp hq with rfl | hq
  . exact ⟨_,hk⟩
  . exact ih.2 q hq
theorem Fld.inG(x:Fld g D F gs)(hf:F k=some f):inR r c k=true:=by refine ex1 ((x.lv.snd k f hf).hi) fun a zz=>Ad zz fun ha _=>?_;exact Cz ha
theorem Fld.len(x:Fld g D F gs)(w:WayG g D F gs k ws):ws.length<=r * c:=by refine I4 w.all.1 fun q hq=>?_;obtain ⟨f,hf⟩:=w.all.2 q hq;exact Ct.mpr (x.inG hf)
theorem Way.uniq{D:Key->Prop}(x:Way h D F gs k ws):∀ {vs:List Key},Way h D F gs k vs->ws=vs:=by
 induction x with
 | drain d e f =>
  intro vs y;cases y with
  | drain _ _ _=>rfl
  | step nd _ _ _ _ _ _ _=>exact absurd d nd
 | @step k p ws a fp nd e ad ha hp hk nk w ih =>
  intro vs y;cases y with
  | drain d _ _=>exact absurd d nd
  | step _ e' _ _ _ _ _ w' =>rw [e] at e';have:=Eu (aO e');subst this;exact rwl (ih w') rfl
end
inductive YInv(H:Hp)(o:Nat)(v:Val)(lo lw:Nat)(gs:List (Key × Val))(W:Key->List Key->Prop)(full:List Key):Nat->Env'->Hp->Prop
 | mk {n:Nat} {K:Hp} (pre:List Key) (k:Key) (ws:List Key) (w:W k ws) (e:pre++ws=full) (hn:n=ws.length) (ex:Ext H K) (go:K[lo]?=some (.dict gs)) (gw:K[lw]?=some (.list (pre.map Aa++[Aa k]))) :
  YInv H o v lo lw gs W full n [some (.loc o),some v,some (.loc lo),some (.loc lw)] K
section
theorem Qi(h:H[l]?=some (.list (xs++[v])))(q:Q v H):Wp (Dh (.loc l) (.int (-1))) H Q E:=by
 have pl:C2 (-1) (xs++[v]).length=some xs.length:=by unfold C2;refine rwl aK (rwl gH (rwl (if_neg (by decide)) (rwl (if_pos Anj) ?_)));congr 1;exact Ank
 refine Wp.of_eq ?_ q;unfold Dh;rw [Dl];simp only [h,pl,iJ,List.getElem?_concat_length]
theorem Z5(w:WayG g D F gs k ws)(len:ws.length<=132)(ne:lo≠lw)(bw:H.length<=lw)(ex:Ext H K)(go:K[lo]?=some (.dict gs))(gw:K[lw]?=some (.list [Aa k]))
 (q:∀ K',Ext H K'->K'[lw]?=some (.list (ws.map Aa))->QS [some (.loc o),some v,some (.loc lo),some (.loc lw)] K') :
 wpS T_14 (Ag T_14 (d+5)) (.loop (.cmp .isNot (.sub (.var 2) (.sub (.var 3) (.neg (.int 1)))) .none) zT18) [some (.loc o),some v,some (.loc lo),some (.loc lw)] K QS R ES:=by
 obtain ⟨I,hI⟩:=Fe (YInv H o v lo lw gs (WayG g D F gs) ws);refine G5 I (n:=ws.length) (aB len (by decide)) ((hI _ _ _).mpr (.mk [] k ws w rfl rfl ex go gw)) ?_;clear ex go gw w;intro n Γ K' h;obtain ⟨pre,k,us,w,e,hn,ex,go,gw⟩:=(hI _ _ _).mp h;clear h;have look:∀ {Q:Val->Hp->Prop} {E:Nat->Hp->Prop} {u:Val},C3 gs k=some u->Q u K'->wpE T_14 (Ag T_14 (d+5)) (.sub (.var 2) (.sub (.var 3) (.neg (.int 1)))) [some (.loc o),some v,some (.loc lo),some (.loc lw)] K' Q E:=fun {Q E u} hu qq=>by refine Qi gw ?_;show Wp (Dh (.loc lo) (.tup [.int k.1,.int k.2])) K' _ _;refine rwl (Fy go hu) ?_;exact qq
 cases w with
 | drain dk hg hf =>refine look hg ?_;refine q K' ex ?_;refine rwl gw (rwr e (rwl cD ?_));rfl
 | @step _ p ts a fp nd hg ad ha hp hf nk w =>
  refine look hg ?_;show De (Db .append (.loc lw) K') _;refine rwl (K6 gw) ?_;refine look hg ?_;have lp:(pre.map Aa++[Aa k]).length < lid:=by have:=congrArg hU e;rw [aK,cM] at this;refine rwl aK ?_;rw [aM];refine rwl gH ?_;show _ < 16777216;exact aB (aC (aC (aP (cE _ _) _) (aD this)) len) (by decide:132 < 16777216)
  refine Ol gw lp ?_;refine ⟨ts.length,?_,(hI _ _ _).mpr (.mk (pre++[k]) p ts w (by rw [bJ];exact e) rfl (ex.set bw _) (Al _ (gO ne) go) ?_)⟩
  . refine rwl hn ?_;exact bQ _
  . refine rwl (Bl _ gw) (rwl cD ?_);rfl
inductive WayV(g:List (List Val))(D:List Val)(H:Hp)(k:Key):Val->Hp->Prop
 | mk {K:Hp} (F:Key->Option Int) (gs:List (Key × Val)) (ws:List Key) (l:Nat) (fd:Fld g D F gs) (w:WayG g D F gs k ws) (ex:Ext H K) (hl:K[l]?=some (.list (ws.map Aa))) (bl:H.length<=l):WayV g D H k (.loc l) K
inductive WayE(g:List (List Val))(D:List Val)(H:Hp)(k:Key):Nat->Hp->Prop
 | mk {K:Hp} (F:Key->Option Int) (gs:List (Key × Val)) (fd:Fld g D F gs) (no:F k=none) (ex:Ext H K):WayE g D H k 5 K
theorem La.way(x:La H o g D)(hk:inR r c k=true):Wp (Ag T_14 (d+6) 20 [.loc o,Aa k]) H (WayV g D H k) (WayE g D H k):=by
 refine ex1 x.inst fun fs zz=>Ap zz fun f0 f1 f2=>?_;refine rwl (Aq (g:=Aa7) rfl rfl) ?_;show wpSs T_14 (Ag T_14 (d+5)) _ [some (.loc o),some (Aa k),none,none] H _ _ _;refine B5 (fun K=>K=H) ?_ ?_
 . rw [Cj,Ax,Am];refine rwl (wat rfl f0 f1) ?_;rw [Am];refine rwl (wat rfl f0 f2) ?_;show Wp (Ag T_14 (d+3+2) 1 [.int (r:Int),.int (c:Int),.tup [.int k.1,.int k.2]]) H _ _;refine rwl Lh (rwl hk ?_);exact ⟨rfl,rfl⟩
 intro K e;refine rwl e ?_;clear e K;refine Ak (fun u K=>∃ lo gs F,u=.loc lo/\Ext H K/\K[lo]?=some (.dict gs)/\Fld g D F gs) ?_ ?_
 . refine (x.flood (d:=d)).then ?_;intro u K zz;obtain ⟨lf,lo,es,gs,F,ex,_,ho,_,fd⟩:=zz;exact ⟨lo,gs,F,rfl,ex,ho,fd⟩
 intro u K zz;refine ex3 zz fun lo gs F zz=>Cf zz fun zr3 ex ho fd=>?_;subst zr3;rw [Ah,Ba,Au];show De (Cu .notin (.tup [.int k.1,.int k.2]) (.loc lo) K) _;refine rwl (Fh ho) ?_;rw [Bi,Ab];cases hf:F k with
 | none =>refine rwl (fd.go.no k hf) ?_;exact ⟨rfl,.mk F gs fd hf ex⟩
 | some f =>
  obtain ⟨ws,w⟩:=fd.way hf;have gk:(C3 gs (k.1,k.2)).isSome=true:=by
   cases w with
   | drain _ e _=>exact congrArg lJ e
   | step _ e _ _ _ _ _ _=>exact congrArg lJ e
  refine rwl gk ?_;refine Ak (fun u K'=>u=.loc K.length/\K'=K++[.list [Aa k]]) ⟨rfl,rfl⟩ ?_;rintro u K' ⟨rfl,rfl⟩;have lo':=A4 ho;refine Bu (QS:=_) _ (Z5 (H:=H) (d:=d) w (aC (fd.len w) x.hrc) (dB lo') ex.len (ex.new _) ((Ext.new (Ext.refl K) _).get ho) (Ao K _) (fun K2 ex2 g2=>?_)) (fun Γ K h=>h);exact .mk F gs ws K.length fd w ex2 g2 ex.len
end
inductive TabV(g:List (List Val))(D:List Val)(H:Hp):Val->Hp->Prop
 | mk {K:Hp} (m b:Nat) (F:Key->Option Int) (gs:List (Key × Val)) (fd:Fld g D F gs) (ex:Ext H K) (G:GAt K m b 1 (I2 F)):TabV g D H (.loc m) K
section
theorem La.levels(x:La H o g D):Wp (Ag T_14 (d+6) 19 [.loc o]) H (TabV g D H) NoE:=by
 have hlid:lid=16777216:=rfl;have hr:=x.hr;have hc:=x.hc;refine rwl (Aq (g:=Aa6) rfl rfl) ?_;refine Ak (fun v K=>∃ lf es F gs,v=.loc lf/\Ext H K/\K[lf]?=some (.dict es)/\Has es F/\Fld g D F gs) ?_ ?_
 . refine (x.flood (d:=d)).then ?_;intro v K zz;obtain ⟨lf,lo,es,gs,F,e,hf,_,he,fd⟩:=zz;exact ⟨lf,es,F,gs,rfl,e,hf,he,fd⟩
 intro v K zz;refine ex4 zz fun lf es F gs zz=>G7 zz fun hr0 e hf he fd=>?_;refine rwl hr0 ?_;refine Ae fun G kG=>?_;refine ex1 ((x.ext e).inst) fun fs zz=>Ap zz fun f0 f1 f2=>?_;refine kG ?_;refine Oq (xs:=Tj r) (src:=none) 0 (fun (k:Nat) w=>w=(bT c).map fun (j:Nat)=>ov (F ((k:Int),(j:Int)))) (Wo (Akk hr) ?_) (fun _ _=>rfl) (by rw [Fw];exact Ahs hlid hr) ?_ ?_
 . refine rwl (wat rfl f0 f1) ?_;exact ⟨rfl,rfl⟩
 . intro k x X hx eX;obtain ⟨hr1,lk⟩:=No hx;refine rwl hr1 ?_;refine Lc (xs:=Tj c) (src:=none) (fun (j:Nat) v=>v=ov (F ((k:Int),(j:Int)))) (Wo (Akk hc) ?_) rfl (by rw [Fw];exact Ahs hlid hc) ?_ ?_
   . skip;refine rwl (wat rfl (eX.get f0) f2) ?_;exact ⟨rfl,rfl⟩
   . intro j y hy;obtain ⟨hr2,lj⟩:=No hy;refine rwl hr2 ?_;show De (Db .get (.loc lf) X) _;rw [Bj (Zw (eX.get hf))];show Wp (bmV .get (.loc lf) [.tup [.int (k:Int),.int (j:Int)]]) X _ _;refine rwl (Ahc (eX.get hf)) ?_;rw [he];refine ⟨?_,rfl⟩;cases F ((k:Int),(j:Int)) <;> rfl
   . intro ys hl hp;refine ⟨ys,Oy (by refine rwl hl ?_;rw [Fw,aM];exact rwl bV rfl) (fun j v hv=>?_),rfl,⟨_,rfl⟩,by refine rwl aK ?_;rfl,Ao X _⟩;have lj:j < c:=by have:=(aE.mp hv).1;rw [hl,Fw] at this;exact this
     exact rwl (Abp lj) (rwl (hp j v hv) rfl)
 . intro g' X hl hp eX G hX;rw [Fw] at hl;have:g'=I2 F:=Oy (by refine rwl hl ?_;rw [Ll]) fun k w hw=>by
    have lk:k < r:=by have:=(aE.mp hw).1;exact aA this (aD hl)
    exact rwl (Lj lk) (rwl (hp k w hw) rfl)
   rw [this] at G ⊢;rw [cN,mK] at G;exact .mk _ _ F gs fd (e.trans eX) G
end
theorem Z6:∀ (es:List (Key × Val)) (k:Key) (v:Val),C3 es k=none->E2 es k v=es++[(k,v)]:=by
 intro es;induction es with
 | nil =>intro _ _ _;exact rfl
 | cons xx es ihh =>
  intro k v h;obtain ⟨a,b⟩:=xx;have st:E2 ((a,b) :: es) k v=if a=k then (a,v) :: es else (a,b) :: E2 es k v:=rfl;have n:¬a=k:=fun e=>by unfold C3 at h;rw [bN,e,beq_self_eq_true] at h;exact nomatch h
  refine rwl st (rwl (if_neg n) ?_);rw [ihh k v]
  . rfl
  . unfold C3 at h ⊢;rw [bN,beq_eq_false_iff_ne.mpr (fun e:k=a=>n e.symm)] at h;exact h
theorem Fz:∀ (es:List (Key × Val)) (k:Key),(C3 es k).isSome=true↔k∈es.map cK:=by
 intro es;induction es with
 | nil =>intro _;exact ⟨fun h=>(nomatch h),fun h=>nomatch h⟩
 | cons xx es ihh =>
  intro k;obtain ⟨a,b⟩:=xx;unfold C3;refine rwl bN (rwl bA ?_);rw [bO];by_cases e:k=a
  . refine rwl e ?_;rw [beq_self_eq_true];exact ⟨fun _=>.inl rfl,fun _=>rfl⟩
  . refine rwl (beq_eq_false_iff_ne.mpr e) ?_;exact (ihh k).trans ⟨.inr,fun h=>h.resolve_left e⟩
section
structure HS(H K:Hp)(sd rl:Nat)(es:List (Key × Val))(st:List Key):Prop where
 ext:Ext H K
 b1:H.length<=sd
 b2:H.length<=rl
 d:K[sd]?=some (.dict es)
 l:K[rl]?=some (.list (st.map Aa))
theorem HS.ext'(x:HS H K sd rl es st)(e:Ext K K'):HS H K' sd rl es st:=⟨x.ext.trans e,x.b1,x.b2,e.get x.d,e.get x.l⟩
theorem HS.pop(x:HS H K sd rl es st)(st':List Key):HS H (K.set rl (.list (st'.map Aa))) sd rl es st':=⟨x.ext.set x.b2 _,x.b1,x.b2,Al _ (fun e=>by have:=x.l;rw [e,x.d] at this;exact nomatch this) x.d,Bl _ x.l⟩
theorem HS.put(x:HS H K sd rl es st)(es':List (Key × Val)):HS H (K.set sd (.dict es')) sd rl es' st:=⟨x.ext.set x.b1 _,x.b1,x.b2,Bl _ x.d,Al _ (fun e=>by have:=x.l;rw [<- e,x.d] at this;exact nomatch this) x.l⟩
theorem Ahh(og:OkG r g)(LA:LandAt H o lg b s ls g es0)(x:HS H K sd rl es st)(hi:i < r)(hj:j < c)(n1:es.length < 1000)(n2:st.length < 1000)
 (yes:∀ a y,hgt g ((i:Int),(j:Int))=some a->a < L->¬((i:Int),(j:Int))∈es.map cK->∀ K',HS H K' sd rl (es++[(((i:Int),(j:Int)),y)]) (st++[((i:Int),(j:Int))])->(∀ m ob,m≠sd->m≠rl->K[m]?=some ob->K'[m]?=some ob)->QS [some (.loc o),some (Aa k0),some (.int L),some (.loc sd),some (.loc rl),x5,some (Aa ((i:Int),(j:Int))),some (.int a)] K')
 (no:∀ v,(((i:Int),(j:Int))∈es.map cK\/¬∃ a,hgt g ((i:Int),(j:Int))=some a/\a < L)->QS [some (.loc o),some (Aa k0),some (.int L),some (.loc sd),some (.loc rl),x5,some (Aa ((i:Int),(j:Int))),some v] K) :
 wpSs T_14 (Ag T_14 (d+5)) zT8
  [some (.loc o),some (Aa k0),some (.int L),some (.loc sd),some (.loc rl),x5,some (Aa ((i:Int),(j:Int))),x7] K QS R NoX:=by
 have hlid:lid=16777216:=rfl;refine Ae fun G kG=>?_;refine ex1 ((LA.ext x.ext).inst) fun fs zz=>Ad zz fun f0 _=>?_;refine ex2 (Hg og hi hj) fun w y zz=>Ap zz fun hw hy hcase=>?_;refine kG ?_;rw [Ah,Cl,Bt];refine rwl (wvr (v:=.loc o) rfl) (rwl (Em f0 (show T_14.meth 7 2=some 25 from rfl)) (rwl (wcv (v:=Aa ((i:Int),(j:Int))) rfl) ?_));refine (Ot (d:=d+1) hi hj (LA.ext x.ext) hw hy).then ?_;rintro v K' ⟨rfl,rfl⟩;rw [Ah,Ba,Cy,Au];refine rwl (wvr (v:=Aa ((i:Int),(j:Int))) rfl) (rwl (wvr (v:=.loc sd) rfl) ?_);rw [Bj (show Cu .notin (Aa ((i:Int),(j:Int))) (.loc sd) K'=_ from Fh x.d),Ab,Dw];refine Dm (fun m=>?_) fun m=>?_
 . skip;exact no v (.inl ((Fz es _).mp m))
 have nm:¬((i:Int),(j:Int))∈es.map cK:=fun h=>by rw [(Fz es _).mpr h] at m;exact nomatch m
 rw [Cy,Au];refine rwl (wvr (v:=v) rfl) (rwl Ef ?_);rcases hcase with ⟨rfl,hn⟩ | ⟨a,rfl,_,ha⟩
 . skip;exact no _ (.inr fun ⟨a,e,_⟩=>by rw [hn] at e;exact nomatch e)
 rw [C7,Ab,Bw,Au];refine rwl (wvr (v:=.int a) rfl) (rwl (wvr (v:=.int L) rfl) ?_);rw [Lx,Ab];by_cases l:a < L
 . rw [Cr l,Ah,Bk,Gk];refine rwl (wvr (v:=.loc sd) rfl) (rwl (wvr (v:=Aa ((i:Int),(j:Int))) rfl) ?_);show Wp (Av (.loc sd) (.tup [.int (i:Int),.int (j:Int)]) (.bool true)) K' _ _;refine rwl (Gu x.d (Aht n1 hlid)) (rwl (Z6 es _ _ (by cases e:C3 es ((i:Int),(j:Int)) with | none=>rfl | some z=>rw [e] at m;exact nomatch m)) ?_);have x1:=x.put (es++[(((i:Int),(j:Int)),.bool true)]);refine Dz rfl x1.l ?_;refine rwl (wvr (v:=Aa ((i:Int),(j:Int))) rfl) ?_;refine ⟨_,x1.l,by rw [aM];exact Aht n2 hlid,yes a (.bool true) ha l nm _ ?_ ?_⟩
   . refine rwl (show st.map Aa++[Aa ((i:Int),(j:Int))]=(st++[((i:Int),(j:Int))]).map Aa by rw [cD];rfl) ?_;exact x1.pop _
   . exact fun m ob h1 h2 hm=>Al _ (fun e=>h2 e.symm) (Al _ (fun e=>h1 e.symm) hm)
 . rw [Bc l];exact no _ (.inr fun ⟨a',e,l'⟩=>by rw [ha] at e;cases e;exact l l')
end
section
noncomputable def okL(h:Key->Option Int)(L:Int)(q:Key):Prop:=∃ a,h q=some a/\a < L
inductive HInv(H:Hp)(o sd rl:Nat)(L:Int)(ok:Key->Prop)(k0:Key)(n:Nat)(O:Key->Key->Prop)(X:Hp->Prop)(S0:List Key)(x5:Option Val):Env'->Hp->Prop
 | mk {K:Hp} (es:List (Key × Val)) (st:List Key) (x6 x7:Option Val):HS H K sd rl es st->Df ok k0 (es.map cK) (fun p=>p∈es.map cK/\¬p∈st) O->(∀ q∈st,q∈es.map cK)->(∀ q∈es.map cK,inR r c q=true)->n+es.length=r * c+st.length->X K->(∀ q∈S0,q∈es.map cK) ->
  HInv H o sd rl L ok k0 n O X S0 x5 [some (.loc o),some (Aa k0),some (.int L),some (.loc sd),some (.loc rl),x5,x6,x7] K
theorem Aex{sd rl i j n:Nat}(og:OkG r g)(hrc:r * c<=132)(LA:LandAt H o lg b s ls g es0)(x:HS H K sd rl es st)(hp:((i:Int),(j:Int))∈es.map cK)
 (df:Df (okL (hgt g) L) k0 (es.map cK) (fun p=>p∈es.map cK/\¬p∈st) (fun p _=>p=((i:Int),(j:Int)))) (sub:∀ q∈st,q∈es.map cK) (inr:∀ q∈es.map cK,inR r c q=true) (m0:n+es.length=r * c+st.length) (nr:n<=132)
 (q:∀ Γ K,HInv H o sd rl L (okL (hgt g) L) k0 n (fun _ _=>False) (fun _=>True) [] (some (Aa ((i:Int),(j:Int)))) Γ K->QS Γ K) :
 wpS T_14 (Ag T_14 (d+5)) (.each 6 (.call 2 (.cons (.attr (.var 0) 0) (.cons (.attr (.var 0) 1) (.cons (.var 5) .nil)))) zT8)
  [some (.loc o),some (Aa k0),some (.int L),some (.loc sd),some (.loc rl),some (Aa ((i:Int),(j:Int))),x6,x7] K QS R NoX:=by
 refine Ae fun G kG=>?_;refine ex1 ((LA.ext x.ext).inst) fun fs zz=>Cf zz fun f0 f1 f2 _=>?_;refine kG ?_;refine Dn ?_;rw [Ax,Am];refine rwl (wat rfl f0 f1) ?_;rw [Am];refine rwl (wat rfl f0 f2) ?_;refine (Mm (d:=d+2)).then ?_;intro v K1 zz;refine ex1 zz fun m zz=>Cf zz fun zr1 bm e1 hm=>?_;subst zr1;rw [Bj (Bs hm)];have ld:=A4 x.d;have ll:=A4 x.l;obtain ⟨I,hI⟩:=Fe (fun (k:Nat)=>HInv H o sd rl L (okL (hgt g) L) k0 n (fun p q=>p=((i:Int),(j:Int))/\¬q∈(bes r c i j).take k) (fun K=>K[m]?=some (.list ((bes r c i j).map Aa))) (es.map cK) (some (Aa ((i:Int),(j:Int)))));have nl:es.length<=r * c:=by refine rwr (aM (f:=cK)) ?_;exact I4 df.nd fun q hq=>Ct.mpr (inr q hq)
 refine B9 I ((hI _ _ _).mpr (.mk es st _ _ (x.ext' e1) (df.imp fun p q hp a o=>?_) sub inr m0 hm fun q h=>h)) ?_ ?_ ?_
 . exact .inl ⟨hp,fun e=>⟨e,fun h=>by rw [jO] at h;exact nomatch h⟩⟩
 . intro Γ K2 h;refine Ae fun G kG=>?_;obtain ⟨es2,st2,z6,z7,x2,df2,sub2,inr2,m2,hm2,_⟩:=(hI _ _ _).mp h;refine kG ?_;refine q _ _ (.mk es2 st2 z6 z7 x2 (df2.imp fun p q hp a o=>.inl ⟨hp,fun ⟨e,hn⟩=>?_⟩) sub2 inr2 m2 trivial (fun q h=>nomatch h));rw [aM,dS] at hn;refine ex1 o fun a' zz=>Ad zz fun ha _=>?_;rw [e] at a;exact hn (Ji.mpr ⟨a,Cz ha⟩)
 . intro k Γ K2 _ h;obtain ⟨es2,st2,z6,z7,x2,df2,sub2,inr2,m2,hm2,_⟩:=(hI _ _ _).mp h;exact Bz hm2
 . intro k v Γ K2 hv h;obtain ⟨es2,st2,z6,z7,x2,df2,sub2,inr2,m2,hm2,s2⟩:=(hI _ _ _).mp h;refine ex1 (Ht hv) fun z zz=>Ad zz fun hz hr1=>?_;refine rwl hr1 ?_;obtain ⟨az,iz⟩:=Ji.mp (aH hz);refine ex2 (Co iz) fun i' j' zz=>Ap zz fun zr2 hi' hj'=>?_;subst zr2;have nl2:es2.length<=r * c:=by refine rwr (aM (f:=cK)) ?_;exact I4 df2.nd fun q hq=>Ct.mpr (inr2 q hq)
   refine ⟨_,rfl,?_⟩;refine Ahh (d:=d) og LA x2 hi' hj' (aB (aC nl2 hrc) (by decide:132 < 1000)) (Anl m0 m2 hrc nr nl2) ?_ ?_
   . intro a y ha hl nm K3 x3 kp;have em:(es2++[(((i':Int),(j':Int)),y)]).map cK=es2.map cK++[((i':Int),(j':Int))]:=by refine rwl cD ?_;rfl
     refine (hI _ _ _).mpr (.mk _ _ _ _ x3 ?_ (fun q hq=>?_) (fun q hq=>?_) (by refine rwl aK (rwl aK ?_);show _+(_+1)=_+(_+1);exact congrArg (·+1) m2) (kp _ _ (Akl ld bm) (Akl ll bm) hm2) fun q h=>by refine rwl em ?_;exact gP _ (s2 q h))
     . refine rwl em ?_;refine (df2.push (O':=fun p q=>p=((i:Int),(j:Int))/\¬q∈(bes r c i j).take (k+1)) (s2 _ hp) az ⟨a,ha,hl⟩ nm fun p' q' ⟨e,hn⟩=>?_).imp fun p' q' hp' a' o'=>.inl ⟨?_,id⟩
       . by_cases e2:q'=((i':Int),(j':Int))
         . exact .inr e2
         . exact .inl ⟨e,fun h=>((Dr hz).mp h).elim hn e2⟩
       . have ne:¬p'=((i':Int),(j':Int)):=fun e=>hp'.2 (e▸iL _ (.head _));exact ⟨(bM.mp hp'.1).elim id fun h=>absurd (aT.mp h) ne,fun h=>hp'.2 (gP _ h)⟩
     . refine rwl em ?_;exact (bM.mp hq).elim (fun h=>gP _ (sub2 q h)) fun h=>iL _ h
     . rw [em] at hq;rcases bM.mp hq with h | h
       . exact inr2 q h
       . refine rwl (aT.mp h) ?_;exact iz
   . intro v hno;refine (hI _ _ _).mpr (.mk es2 st2 _ _ x2 ⟨df2.nd,df2.rch,df2.here,fun p' q' hp' a' o'=>?_⟩ sub2 inr2 m2 hm2 s2);rcases df2.cl p' q' hp' a' o' with h | ⟨e,hn⟩
     . exact .inl h
     . by_cases e2:q'=((i':Int),(j':Int))
       . rw [e2] at o' ⊢;rcases hno with h | h
         . exact .inl h
         . exact absurd o' h
       . exact .inr ⟨e,fun h=>((Dr hz).mp h).elim hn e2⟩
theorem Aey(og:OkG r g)(hrc:r * c<=132)(LA:LandAt H o lg b s ls g es0)
 (x0:HInv H o sd rl L (okL (hgt g) L) k0 n (fun _ _=>False) (fun _=>True) [] x5 [some (.loc o),some (Aa k0),some (.int L),some (.loc sd),some (.loc rl),x5,x6,x7] K) (nr:n<=132)
 (q:∀ K es a e f,HS H K sd rl es []->(es.map cK).Nodup->(∀ k,k∈es.map cK↔Rch (okL (hgt g) L) k0 k)->QS [some (.loc o),some (Aa k0),some (.int L),some (.loc sd),some (.loc rl),a,e,f] K) :
 wpS T_14 (Ag T_14 (d+5)) (.loop (.cmp .gt (.bf .len (.cons (.var 4) .nil)) (.int 0)) zT6)
  [some (.loc o),some (Aa k0),some (.int L),some (.loc sd),some (.loc rl),x5,x6,x7] K QS R NoX:=by
 obtain ⟨I,hI⟩:=Fe (fun (n:Nat) (Γ:Env') (K:Hp)=>n<=132/\∃ x5,HInv H o sd rl L (okL (hgt g) L) k0 n (fun _ _=>False) (fun _=>True) [] x5 Γ K);refine G5 I (n:=n) (aB nr (by unfold Pd;decide)) ((hI _ _ _).mpr ⟨nr,_,x0⟩) ?_;intro n Γ K h;obtain ⟨nr,x5,es,st,z6,z7,x,df,sub,inr,m0,_,_⟩:=(hI _ _ _).mp h;rw [Au];refine rwl (wbf (v:=.loc rl) rfl) (rwl (As x.l) ?_);rw [A7,Ly,Ab,aM];have nl:es.length<=r * c:=by refine rwr (aM (f:=cK)) ?_;exact I4 df.nd fun q hq=>Ct.mpr (inr q hq)
 by_cases c0:(0:Int) < (st.length:Int)
 . rw [Cr c0];have ne:st≠[]:=fun e=>by rw [e] at c0;exact absurd c0 (by decide)
   have es1:st=st.dropLast++[st.getLast ne]:=(nE ne).symm;have mp:st.getLast ne∈es.map cK:=sub _ (List.getLast_mem ne);refine Ae fun G kG=>?_;refine ex2 (Co (inr _ mp)) fun i j zz=>Ap zz fun e hi hj=>?_;refine kG ?_;rw [e] at es1 mp;rw [Ah,Cl,Ni];refine rwl (wvr (v:=.loc rl) rfl) ?_;rw [Bj (Rf x.l)];refine Aav x.l (v:=Aa ((i:Int),(j:Int))) (by refine rwl es1 (rwl cD ?_);exact List.getLast?_concat) ?_;have dl:(st.map Aa).dropLast=st.dropLast.map Aa:=(List.map_dropLast).symm;refine rwl dl ?_;have ln:st.dropLast.length+1=st.length:=by refine rwl pE ?_;exact dQ (eM.mp c0)
   refine Aex (n:=n - 1) og hrc LA (x.pop _) mp (df.imp fun p q hp a o=>?_) (fun q hq=>sub q ((List.dropLast_sublist st).subset hq)) inr (Anm c0 ln m0 nr nl) (Akm c0 ln m0 nr nl) fun Γ K h=>?_
   . by_cases e2:p=((i:Int),(j:Int))
     . exact .inr e2
     . refine .inl ⟨⟨hp.1,fun h=>?_⟩,fun h=>h.elim⟩;rw [es1] at h;exact (bM.mp h).elim hp.2 fun h=>e2 (aT.mp h)
   . exact ⟨n - 1,by exact cS (oU (cH (aB nl (bX (eM.mp c0))) m0.symm)) dF,(hI _ _ _).mpr ⟨by exact Akm c0 ln m0 nr nl,_,h⟩⟩
 . rw [Bc c0];have e:st=[]:=List.eq_nil_of_length_eq_zero (kY fun h=>c0 (eM.mpr h));subst e;exact q K es _ _ _ x df.nd (df.fin fun p hp=>⟨hp,fun h=>nomatch h⟩)
end
section
theorem Aez(h:H[l]?=some (.dict es)):Wp (bmV .get2 (.loc l) [.tup [.int i,.int j],dv]) H Q E=Q ((C3 es (i,j)).getD dv) H:=by
 have:bmV .get2 (.loc l) [.tup [.int i,.int j],dv] H=.ok ((C3 es (i,j)).getD dv) H:=by unfold bmV;simp only [h];rfl
 unfold Wp;exact rwl this rfl
theorem W6(h:H[l]?=some (.dict es)):Db .get2 (.loc l) H=some ():=if_pos (Hy h)
theorem W7{i j:Nat}(LA:LandAt H o lg b s ls g es0)(h0:Γ[0]?=some (some (.loc o)))(hn:Γ[n]?=some (some (Aa ((i:Int),(j:Int)))))(hi:i < r)(hj:j < c)(hw:g[i]?=some w)(hx:w[j]?=some x)(q:Q x H) :
 wpE T_14 (Ag T_14 (d+5)) (.umeth (.var 0) 2 (.cons (.var n) .nil)) Γ H Q E:=by
 refine ex1 LA.inst fun fs zz=>Ad zz fun f0 _=>?_;rw [Bt];refine rwl (wvr h0) (rwl (Em f0 (show T_14.meth 7 2=some 25 from rfl)) (rwl (wcv hn) ?_));refine (Ot (d:=d+1) hi hj LA hw hx).then ?_;rintro v K' ⟨rfl,rfl⟩;exact q
theorem Z7(og:OkG r g)(hr:r<=30)(hc:c<=30)(hrc:r * c<=132)(LA:LandAt H o lg b s ls g es0)(hd:∀ k,Aa k∈(cells r c).filter (inD es0)->∃ a,hgt g k=some a)(fd:Fld g ((cells r c).filter (inD es0)) F gs)(hi:i < r)(hj:j < c) :
 Wp (Ag T_14 (d+6) 7 [.loc o,Aa ((i:Int),(j:Int))]) H (fun v K=>∃ m,v=.loc m/\H.length<=m/\Ext H K/\K[m]?=some (.list ((held (hgt g) F ((i:Int),(j:Int))).map Aa))) NoE:=by
 refine Ae fun G kG=>?_;refine ex1 LA.inst fun fs zz=>Cf zz fun f0 f1 f2 _=>?_;refine ex2 (Hg og hi hj) fun w y zz=>Ap zz fun hw hy hcase=>?_;refine kG ?_;refine rwl (Aq (g:=Ad9) rfl rfl) ?_;unfold Ad9;show wpSs T_14 (Ag T_14 (d+5)) (.cons _ _) [some (.loc o),some (Aa ((i:Int),(j:Int))),none,none,none,none,none,none] H _ _ _;rw [Ah,Ba,Cj,Ax,Am];refine rwl (wat rfl f0 f1) ?_;rw [Am];refine rwl (wat rfl f0 f2) ?_;show Wp (Ag T_14 (d+5) 1 [.int (r:Int),.int (c:Int),.tup [.int (i:Int),.int (j:Int)]]) H _ _;refine rwl (Ri (d:=d+3) Mr (Xg hi) Mr (Xg hj)) ?_;refine W7 LA rfl rfl hi hj hw hy ?_;refine rwl Ef ?_;rcases hcase with ⟨rfl,hn⟩ | ⟨a,rfl,_,ha⟩
 . skip;exact ⟨H.length,rfl,aN _,⟨_,rfl⟩,by refine rwl (O8 hn) ?_;exact Ao H _⟩
 refine (Ox og hr hc (by assumption) LA hd).then ?_;intro u K zz;refine ex5 zz fun lf lo es gs' F' zz=>Mq zz fun hr0 ex gl _ hes fd'=>?_;refine rwl hr0 ?_;have eF:F'=F:=(fd'.uniq fd).1;rw [eF] at hes;rw [A7,Fu,Bj (W6 gl)];refine rwl (wcv (v:=Aa ((i:Int),(j:Int))) rfl) ?_;rw [Am,Dd,wp_glob];refine rwl Wm ?_;rw [Bi,A7];show Wp (bmV .get2 (.loc lf) [.tup [.int (i:Int),.int (j:Int)],.int 1000000001]) K _ _;have eL:(C3 es ((i:Int),(j:Int))).getD (.int 1000000001)=.int (lev F ((i:Int),(j:Int))):=by rw [hes];unfold lev;cases F ((i:Int),(j:Int)) <;> rfl
 refine rwl (Aez gl) (rwl eL ?_);generalize hL:lev F ((i:Int),(j:Int))=L;have LK:=LA.ext ex;rw [Ah,Ba,Au];refine W7 LK rfl rfl hi hj hw hy ?_;refine rwl (wvr (v:=.int L) rfl) ?_;rw [V4,Ab];by_cases c0:L<=a
 . rw [Cr c0];exact ⟨K.length,rfl,ex.len,ex.new _,by refine rwl (W5 ha (by rw [hL];exact c0)) ?_;exact Ao K _⟩
 rw [Bc c0];refine rwl Cn ?_;rw [Ah,Cl];refine rwl Jb ?_;rw [Ah,Bk,Gk];show Wp (Av (.loc K.length) (.tup [.int (i:Int),.int (j:Int)]) (.bool true)) _ _ _;refine rwl (Gu (Ao K _) (by decide)) ?_;rw [Np,Ah,Cl,E4];refine rwl (wcv (v:=Aa ((i:Int),(j:Int))) rfl) (rwl A3 ?_);have l1:(K++[HObj.dict (E2 [] ((i:Int),(j:Int)) (.bool true))]).length=K.length+1:=by refine rwl aK ?_;rfl
 refine rwl l1 ?_;show wpSs T_14 (Ag T_14 (d+5)) (.cons _ _) [some (.loc o),some (Aa ((i:Int),(j:Int))),some (.int L),some (.loc K.length),some (.loc (K.length+1)),none,none,none] (K++[.dict [(((i:Int),(j:Int)),.bool true)]]++[.list ([((i:Int),(j:Int))].map Aa)]) _ _ _;have hs:HS K (K++[.dict [(((i:Int),(j:Int)),.bool true)]]++[.list ([((i:Int),(j:Int))].map Aa)]) K.length (K.length+1) [(((i:Int),(j:Int)),.bool true)] [((i:Int),(j:Int))]:=by refine ⟨(Ext.new (Ext.refl K) _).new _,aN _,by exact o91,Ext.get ⟨_,rfl⟩ (Ao K _),?_⟩;have:=Ao (K++[HObj.dict [(((i:Int),(j:Int)),.bool true)]]) (.list ([((i:Int),(j:Int))].map Aa));rw [aK] at this;exact this
 have inr:inR r c ((i:Int),(j:Int))=true:=Ow hi hj;refine Aey (n:=r * c) og hrc LK (.mk _ _ _ _ hs ((Df.start (O:=fun _ _=>False)).imp fun p q hp a o=>?_) (fun q hq=>hq) (fun q hq=>by refine rwl (aT.mp hq) ?_;exact inr) (by rfl) trivial (fun q h=>nomatch h)) hrc fun K3 es3 x5 x6 x7 hs3 nd hR=>?_
 . exact absurd hp.1 hp.2
 have em:(es3.map fun p=>Aa p.1)=(es3.map cK).map Aa:=by refine rwl iA ?_;rfl
 refine Ln (Z4 hs3.d) (by refine rwl em ?_;exact O7 nd hR (fun k hk=>Rch.inr (F:=F) inr (by have:=(hR k).mp hk;rw [<- hL] at this;exact this)) hrc) ?_;refine ⟨K3.length,rfl,aC ex.len hs3.ext.len,(ex.trans hs3.ext).new _,?_⟩;rw [Ao];refine rwl (Rp ha (by rw [hL];exact c0)) (rwr hL ?_);rfl
end
section
theorem Rq(f:Val->Val)(hit:wpE T Φ it Γ H P NoE)
 (hK:∀ v K,P v K->∃ xs src,Dg v K=some (xs,src)/\chk src xs K=true/\xs.length < lid/\(∀ x∈xs,wpE T Φ elt (Γ++[some x]) K (fun v K'=>v=f x/\K'=K) NoE)/\Q (.loc K.length) (K++[.list (xs.map f)])):wpE T Φ (.comp elt it .none) Γ H Q E:=by
 refine Kv (A9 hit ?_);intro v K p;refine Ae fun G kG=>?_;refine ex2 (hK v K p) fun xs src zz=>G7 zz fun hi ck hz he q=>?_;refine kG ?_;refine rwl hi ?_;refine Iw (fun k out K'=>K'=K/\out=(xs.take k).map f) ⟨rfl,rfl⟩ ?_ ?_ ?_
 . rintro k out _ ⟨e,_⟩;refine rwl e ?_;exact ck
 . rintro k x out _ hx ⟨e,ho⟩;refine rwl e ?_;refine Nj (A9 (he x (aH hx)) ?_);rintro v K' ⟨ev,e2⟩;exact ⟨e2,by refine rwl ho (rwl (Eb hx) (rwl cD (rwl ev ?_)));rfl⟩
 . rintro zs _ ⟨e,ho⟩;refine rwl e (rwl ho (rwl dS ?_));exact ⟨by rw [aM];exact hz,q⟩
theorem La.asks(x:La H o g D)(hi:Γ[i]?=some (some (.loc o)))(q:∀ m K,H.length<=m->Ext H K->K[m]?=some (.list D)->Q (.loc m) K) :
 wpE T_14 (Ag T_14 (d+2)) (.umeth (.var i) 4 .nil) Γ H Q E:=by
 refine Ae fun G kG=>?_;refine ex1 x.inst fun fs zz=>Ad zz fun f0 _=>?_;refine kG ?_;rw [Bt];refine rwl (wvr hi) ?_;show Wp (C8 T_14 (.loc o) 4) H _ _;refine rwl (Em f0 (show T_14.meth 7 4=some 27 from rfl)) ?_;refine (x.drains).then ?_;intro w K zz;refine ex1 zz fun m zz=>Cf zz fun hr0 hm ex gm=>?_;refine rwl hr0 ?_;exact q m K hm ex gm
end
open Classical in
noncomputable def amF(D:List Val)(z:Option Key):Key->Option Int:=fun k=>if Aa k∈D then some (if z=some k then 1 else 0) else none
noncomputable def rvk(k:Key):Val:=.tup [Aa k,.int 1]
structure Ends(g:List (List Val))(D:List Val)(F:Key->Option Int)(gs:List (Key × Val))(k:Key)(z:Option Key):Prop where
 no:F k=none->z=none
 yes:∀ ws,WayG g D F gs k ws->z=ws.getLast?/\∀ q,z=some q->Aa q∈D
theorem Way.endD(x:Way h D F gs k ws):(∃ t,ws=k :: t)/\∃ d,ws.getLast?=some d/\D d:=by
 induction x with
 | @drain k f dk e hf=>exact ⟨⟨_,rfl⟩,k,rfl,dk⟩
 | @step k p ws a fp nd e ad ha hp hk nk w ih =>refine Ad ih fun zn0 zz=>ex1 zz fun d zz=>Ad zz fun e dd=>?_;obtain ⟨t,rfl⟩:=zn0;exact ⟨⟨_,rfl⟩,d,by exact rwr e (rwl oK rfl),dd⟩
inductive QInv(H:Hp)(lo la m:Nat)(gs:List (Key × Val))(D:List Val)(x0 x1:Val):Nat->Env'->Hp->Prop
 | mk {n:Nat} {K:Hp} (am:List (Key × Val)) (x:Option Val) (ex:Ext H K) (go:K[lo]?=some (.dict gs)) (gm:K[m]?=some (.list D)) (ga:K[la]?=some (.dict am)) (hs:Has am (amF (D.take n) none)) (al:am.length<=n):QInv H lo la m gs D x0 x1 n [some x0,some x1,some (.loc lo),some (.loc la),x,none,none,none,none] K
inductive RInv(lo:Nat)(W:Key->List Key->Prop)(K:Hp)(x0 x1 x3 x5 x6 x7:Val)(x4:Option Val)(z:Option Key):Nat->Env'->Hp->Prop
 | mk (k:Key) (ws:List Key) (w:W k ws) (e:ws.getLast?=z):RInv lo W K x0 x1 x3 x5 x6 x7 x4 z ws.length [some x0,some x1,some (.loc lo),some x3,x4,some x5,some x6,some x7,some (Aa k)] K
inductive RunV(g:List (List Val))(D:List Val)(k:Key)(H:Hp):Val->Hp->Prop
 | mk {K:Hp} (F:Key->Option Int) (gs:List (Key × Val)) (m:Nat) (z:Option Key) (fd:Fld g D F gs) (ez:Ends g D F gs k z) (ex:Ext H K) (gm:K[m]?=some (.list (D.map fun v=>.tup [v,.int (((C1 v).bind (amF D z)).getD 0)]))):RunV g D k H (.tup [.loc m,.int (if z=none then 1 else 0)]) K
section
theorem Ae0(L:List Val)(k:Key):upd (amF L none) k 0=amF (L++[Aa k]) none:=by
 funext q;unfold upd amF;have n:¬none=some q:=fun h=>nomatch h;rw [if_neg n];by_cases e:q=k
 . exact rwl (if_pos e) (rwl (if_pos (by rw [e];exact iL _ (.head _))) rfl)
 . refine rwl (if_neg e) ?_;have:Aa q∈L++[Aa k]↔Aa q∈L:=by rw [bM,aT];exact ⟨fun h=>h.elim id fun h=>absurd (Eu h) e,.inl⟩
   by_cases m:Aa q∈L
   . exact rwl (if_pos m) (rwl (if_pos (this.mpr m)) rfl)
   . exact rwl (if_neg m) (rwl (if_neg fun h=>m (this.mp h)) rfl)
theorem Ahi(h:Aa z∈D):upd (amF D none) z 1=amF D (some z):=by
 funext q;unfold upd amF;by_cases e:q=z
 . exact rwl (if_pos e) (rwl e (rwl (if_pos h) (rwl (if_pos rfl) rfl)))
 . refine rwl (if_neg e) ?_;rw [if_neg (fun h:none=some q=>nomatch h)];exact rwl (if_neg fun h:some z=some q=>e (aO h).symm) rfl
theorem Ahj(x:La H o g D)(ex:Ext H K)(go:K[lo]?=some (.dict gs))(ga:K[la]?=some (.dict []))(bl:H.length<=la)(ne:lo≠la)(hD:∀ x∈D,∃ k,x=Aa k)(dl:D.length<=1000)
 (q:∀ am x K',Ext H K'->K'[lo]?=some (.dict gs)->K'[la]?=some (.dict am)->Has am (amF D none)->am.length<=1000->QS [some (.loc o),some x1,some (.loc lo),some (.loc la),x,none,none,none,none] K') :
 wpS T_14 (Ag T_14 (d+2)) (.each 4 (.umeth (.var 0) 4 .nil) (.cons (.setitem (.var 3) (.var 4) (.int 0)) .nil)) [some (.loc o),some x1,some (.loc lo),some (.loc la),none,none,none,none,none] K QS R ES:=by
 refine Dn ((x.ext ex).asks rfl fun m K1 hm e1 gm=>?_);rw [Bj (Bs gm)];have nm:la≠m:=dB (aA (A4 ga) hm);obtain ⟨I,hI⟩:=Fe (QInv H lo la m gs D (.loc o) x1);refine B9 I ((hI _ _ _).mpr (.mk [] none (ex.trans e1) (e1.get go) gm (e1.get ga) (fun k=>by unfold amF;skip;rfl) (aN _))) ?_ ?_ ?_
 . intro Γ K2 h;refine Ae fun G kG=>?_;obtain ⟨am,x,ex2,go2,_,ga2,hs2,al2⟩:=(hI _ _ _).mp h;refine kG ?_;rw [dS] at hs2;exact q am x K2 ex2 go2 ga2 hs2 (aC al2 dl)
 . intro k Γ K2 _ h;obtain ⟨am,x,ex2,_,g2,_⟩:=(hI _ _ _).mp h;exact Bz g2
 . intro n y Γ K2 hy h;obtain ⟨am,x,ex2,go2,g2,ga2,hs2,al2⟩:=(hI _ _ _).mp h;obtain ⟨k,rfl⟩:=hD y (aH hy);have lt:n < D.length:=(aE.mp hy).1;refine ⟨_,rfl,?_⟩;show Wp (Av (.loc la) (.tup [.int k.1,.int k.2]) (.int 0)) K2 _ _;refine rwl (Gu ga2 (show am.length < 16777216 by exact aR (aA (aB al2 lt) dl) (by decide:1000 < 16777216))) ?_;refine (hI _ _ _).mpr (.mk _ _ (ex2.set bl _) (Al _ (gO ne) go2) (Al _ nm g2) (Bl _ ga2) ?_ (aC (Iz _ _ _) (cG al2)));refine rwl (Eb hy) ?_;rw [<- Ae0];exact hs2.put k 0
theorem Ae1(w:WayG g D F gs k ws)(len:ws.length<=132)(go:K[lo]?=some (.dict gs))
 (q:∀ d,ws.getLast?=some d->QS [some x0,some x1,some (.loc lo),some x3,x4,some x5,some x6,some x7,some (Aa d)] K) :
 wpS T Φ (.loop (.cmp .isNot (.sub (.var 2) (.var 8)) .none) (.cons (.assign 8 (.sub (.var 2) (.var 8))) .nil)) [some x0,some x1,some (.loc lo),some x3,x4,some x5,some x6,some x7,some (Aa k)] K QS R ES:=by
 obtain ⟨I,hI⟩:=Fe (RInv lo (WayG g D F gs) K x0 x1 x3 x5 x6 x7 x4 ws.getLast?);refine G5 I (n:=ws.length) (aB len (by decide)) ((hI _ _ _).mpr (.mk k ws w rfl)) ?_;intro n Γ K' h;obtain ⟨k,us,w,e⟩:=(hI _ _ _).mp h;clear h;rw [Au];refine rwl (wsv (v:=.loc lo) (w:=Aa k) rfl rfl) ?_;cases w with
 | drain dk hg hf =>show Wp (Dh (.loc lo) (.tup [.int k.1,.int k.2])) K _ _;refine rwl (Fy go hg) ?_;exact q k e.symm
 | @step _ p ts a fp nd hg ad ha hp hf nk w =>show Wp (Dh (.loc lo) (.tup [.int k.1,.int k.2])) K _ _;refine rwl (Fy go hg) ?_;show wpSs T Φ _ _ K _ _ _;rw [Ah,Cl];refine rwl (wsv (v:=.loc lo) (w:=Aa k) rfl rfl) ?_;show Wp (Dh (.loc lo) (.tup [.int k.1,.int k.2])) K _ _;refine rwl (Fy go hg) ?_;refine ⟨ts.length,bQ _,(hI _ _ _).mpr (.mk p ts w ?_)⟩;obtain ⟨⟨t,rfl⟩,_⟩:=w.endD;exact rwr e (rwl oK rfl)
theorem O9(x:La H o g D)(hk:inR r c k=true)(hl:H[lr]?=some (.list [rvk k])):Wp (Ag T_14 (d+3) 35 [.loc o,.loc lr]) H (fun _ K=>K=H) NoE:=by
 refine Ae fun G kG=>?_;refine ex1 x.inst fun fs zz=>Ap zz fun f0 f1 f2=>?_;refine kG ?_;refine rwl (Aq (g:=Abe) rfl rfl) ?_;show wpSs T_14 (Ag T_14 (d+2)) _ [some (.loc o),some (.loc lr),none] H _ _ _;refine Bu (fun Γ K=>K=H) ?_ fun Γ K h=>h;refine Gv (l:=lr) (xs:=[rvk k]) (K0:=H) (fun n Γ K=>K=H/\∃ v,Γ=[some (.loc o),some (.loc lr),v]) ⟨rfl,rfl⟩ hl ⟨rfl,_,rfl⟩ (fun n Γ K h=>h.1▸hl) ?_ fun Γ K h=>h.1;rintro n y Γ K hy ⟨e,v,rfl⟩;refine rwl e ?_;clear e K;have ey:y=rvk k:=aT.mp (aH hy);refine rwl ey ?_;refine B5 (fun K'=>K'=H) ⟨rfl,rfl⟩ ?_;intro K e;refine rwl e ?_;clear e K;refine B5 (fun K'=>K'=H) ?_ ?_
 . rw [Cj,Ax,Am];refine rwl (wat rfl f0 f1) ?_;rw [Am];refine rwl (wat rfl f0 f2) ?_;show Wp (Ag T_14 (d+2) 1 [.int (r:Int),.int (c:Int),.tup [.int k.1,.int k.2]]) H _ _;refine rwl Lh (rwl hk ?_);exact ⟨rfl,rfl⟩
 intro K e;refine rwl e ?_;clear e K;refine B5 (fun K'=>K'=H) ?_ ?_
 . skip;exact ⟨rfl,rfl⟩
 intro K e;refine rwl e ?_;clear e K;exact ⟨rfl,_,rfl⟩
theorem La.runoff(x:La H o g D)(hk:inR r c k=true)(hl:H[lr]?=some (.list [rvk k]))(hD:∀ x∈D,∃ k,x=Aa k)(dl:D.length<=1000):Wp (Ag T_14 (d+6) 21 [.loc o,.loc lr]) H (RunV g D k H) NoE:=by
 refine rwl (Aq (g:=Aa8) rfl rfl) ?_;show wpSs T_14 (Ag T_14 (d+5)) _ [some (.loc o),some (.loc lr),none,none,none,none,none,none,none] H _ _ _;refine Dp (fun K=>K=H) (O9 (d:=d+2) x hk hl) ?_;intro K0 e0;refine rwl e0 ?_;clear e0 K0;refine Ak (fun u K=>∃ lo gs F,u=.loc lo/\Ext H K/\K[lo]?=some (.dict gs)/\Fld g D F gs) ?_ ?_
 . refine (x.flood (d:=d)).then ?_;intro u K zz;obtain ⟨lf,lo,es,gs,F,ex,_,ho,_,fd⟩:=zz;exact ⟨lo,gs,F,rfl,ex,ho,fd⟩
 intro u K zz;refine ex3 zz fun lo gs F zz=>Cf zz fun zr3 ex ho fd=>?_;subst zr3;refine Ak (fun u K'=>u=.loc K.length/\K'=K++[.dict []]) ⟨rfl,rfl⟩ ?_;rintro u K' ⟨rfl,e⟩;refine rwl e ?_;clear e K';have ne:lo≠K.length:=dB (A4 ho);refine Bu (QS:=_) _ (Ahj (d:=d+3) (la:=K.length) (x1:=.loc lr) x (ex.new _) ((Ext.new (Ext.refl K) _).get ho) (Ao _ _) ex.len ne hD dl (fun am x4 K2 ex2 go2 ga2 hs2 al2=>?_)) (fun Γ K h=>h);refine Ak (fun u K'=>u=.int 0/\K'=K2) ⟨rfl,rfl⟩ ?_;rintro u K' ⟨rfl,e⟩;refine rwl e ?_;clear e K';refine Bu (fun Γ K3=>∃ am z y4 y6 y7 y8,Ends g D F gs k z/\Ext H K3/\K3[K.length]?=some (.dict am)/\Has am (amF D z)/\Γ=[some (.loc o),some (.loc lr),some (.loc lo),some (.loc K.length),y4,some (.int (if z=none then 1 else 0)),y6,y7,y8]) ?_ ?_
 . refine Og ?_;show De (G9 (.loc lr) K2) _;rw [Bj (K7 (ex2.get hl))];refine B9 (fun n Γ K3=>K3[lr]?=some (.list [rvk k])/\((n=0/\K3=K2/\Γ=[some (.loc o),some (.loc lr),some (.loc lo),some (.loc K.length),x4,some (.int 0),none,none,none])\/n=1/\∃ am z y4 y6 y7 y8,Ends g D F gs k z/\Ext H K3/\K3[K.length]?=some (.dict am)/\Has am (amF D z)/\Γ=[some (.loc o),some (.loc lr),some (.loc lo),some (.loc K.length),y4,some (.int (if z=none then 1 else 0)),y6,y7,y8])) ⟨ex2.get hl,.inl ⟨rfl,rfl,rfl⟩⟩ ?_ (fun n Γ K3 _ h=>Bz h.1) ?_
   . intro Γ K3 h;rcases h.2 with ⟨h,_⟩ | ⟨_,h⟩
     . exact nomatch h
     . exact h
   . rintro n y Γ K3 hy ⟨_,h⟩;have ln:=(aE.mp hy).1;have n0:n=0:=by have ln:n < 1:=ln;exact lL.mp ln
     have ey:y=rvk k:=aT.mp (aH hy);rcases h with ⟨_,e3,eΓ⟩ | h
     . refine rwl ey (rwl e3 (rwl eΓ ?_));refine ⟨_,rfl,?_⟩;show wpSs T_14 (Ag T_14 (d+5)) _ [some (.loc o),some (.loc lr),some (.loc lo),some (.loc K.length),x4,some (.int 0),some (Aa k),some (.int 1),none] K2 _ _ _;rw [Ah,Ba,Au];refine rwl (wvr (v:=Aa k) rfl) ?_;show De (Cu .isin (.tup [.int k.1,.int k.2]) (.loc lo) K2) _;refine rwl (O1 go2) ?_;cases hf:F k with
       | none =>refine rwl (show C3 gs (k.1,k.2)=none from fd.go.no k hf) ?_;show wpSs T_14 (Ag T_14 (d+5)) (.cons (.assign 5 (.bin .add (.var 5) (.var 7))) .nil) _ K2 _ _ _;rw [Ah,Cl,Dd];refine rwl (wvr (v:=.int 0) rfl) (rwl (wvr (v:=.int 1) rfl) ?_);exact ⟨ex2.get hl,.inr ⟨by exact rwl n0 rfl,am,none,_,_,_,_,⟨fun _=>rfl,fun ws w=>by obtain ⟨f,e⟩:=w.all.2 k (by obtain ⟨⟨t,hr4⟩,_⟩:=w.endD;refine rwl hr4 ?_;exact .head _);rw [hf] at e;exact nomatch e⟩,ex2,ga2,hs2,rfl⟩⟩
       | some f =>
        refine Ae fun G kG=>?_;obtain ⟨ws,w⟩:=fd.way hf;refine Ad w.endD fun _ zz=>ex1 zz fun t zz=>Ad zz fun et dt=>?_;refine kG ?_;have gk:(C3 gs (k.1,k.2)).isSome=true:=by
         cases w with
         | drain _ e _=>exact congrArg lJ e
         | step _ e _ _ _ _ _ _=>exact congrArg lJ e
        refine rwl gk ?_;refine Ak (fun u K'=>u=Aa k/\K'=K2) (by refine rwl (wvr (v:=Aa k) rfl) ?_;exact ⟨rfl,rfl⟩) ?_;rintro u K' ⟨hr3,e⟩;refine rwl hr3 ?_;refine rwl e ?_;clear e K';refine Bu (QS:=_) _ (Ae1 w (aC (fd.len w) x.hrc) go2 fun t' et'=>?_) (fun Γ K h=>h);cases et.symm.trans et';have hg:C3 am (t.1,t.2)=some (.int 0):=by refine rwl (hs2 (t.1,t.2)) ?_;exact congrArg (kE Val.int) ((if_pos dt).trans (congrArg some (if_neg fun h=>nomatch h)))
        rw [Ah,Bk,Dd];refine rwl (wsv (v:=.loc K.length) (w:=Aa t) rfl rfl) ?_;show Wp (Dh (.loc K.length) (.tup [.int t.1,.int t.2])) K2 _ _;refine rwl (Fy ga2 hg) (rwl (wvr (v:=.int 1) rfl) ?_);rw [Gm];refine rwl (wvr (v:=.loc K.length) rfl) (rwl (wvr (v:=Aa t) rfl) ?_);show Wp (Av (.loc K.length) (.tup [.int t.1,.int t.2]) (.int 1)) K2 _ _;refine rwl (Gu ga2 (aB al2 (by decide))) ?_;refine ⟨Al _ (dW (aA (A4 hl) ex.len)) (ex2.get hl),.inr ⟨by exact rwl n0 rfl,_,some t,_,_,_,_,⟨fun h=>(by rw [hf] at h;exact (nomatch h)),fun vs w'=>?_⟩,ex2.set ex.len _,Bl _ ga2,Ahi dt▸hs2.put t 1,rfl⟩⟩;refine rwr (w.uniq w') ?_;exact ⟨et.symm,fun q e=>aO e▸dt⟩
     . exact absurd (n0.symm.trans h.1) (by decide)
 . intro Γ K3 zz;refine ex6 zz fun am' z y4 y6 y7 y8 zz=>G7 zz fun ez ex3 ga3 hs3 hr4=>?_;refine rwl hr4 ?_;refine Rq (fun v=>.tup [v,.int (((C1 v).bind (amF D z)).getD 0)]) (P:=fun v K4=>∃ m,v=.loc m/\Ext K3 K4/\K4[m]?=some (.list D)) ((x.ext ex3).asks (d:=d+3) rfl fun m K' hm e gm=>⟨m,rfl,e,gm⟩) ?_;intro v K4 zz;refine ex1 zz fun m zz=>Ap zz fun zr1 ex4 gm=>?_;subst zr1;refine ⟨_,_,Bs gm,Bz gm,aB dl (by decide),fun x hx=>?_,?_⟩
   . obtain ⟨q,rfl⟩:=hD x hx;have hn:amF D z q=some (if z=some q then 1 else 0):=if_pos hx;have hg:C3 am' (q.1,q.2)=some (.int (if z=some q then 1 else 0)):=by refine rwl (hs3 (q.1,q.2)) ?_;exact congrArg (kE Val.int) hn
     rw [Gl];refine rwl (wcv (v:=Aa q) rfl) ?_;rw [Am];refine rwl (wsv (v:=.loc K.length) (w:=Aa q) rfl rfl) ?_;show Wp (Dh (.loc K.length) (.tup [.int q.1,.int q.2])) K4 _ _;refine rwl (Fy (ex4.get ga3) hg) ?_;refine ⟨?_,rfl⟩;show Val.tup [Aa q,.int (if z=some q then 1 else 0)]=.tup [Aa q,.int ((amF D z q).getD 0)];refine rwl hn ?_;rfl
   . refine rwl (wcv (v:=.int (if z=none then 1 else 0)) rfl) ?_;exact RunV.mk F gs K4.length z fd ez ((ex3.trans ex4).new _) (Ao _ _)
end
section
theorem La.mem(x:La H o g D):(∀ v∈D,∃ k,v=Aa k)/\D.length<=1000:=by
 refine Ae fun G kG=>?_;refine ex4 x.L fun lg b ls es zz=>Ad zz fun L q=>?_;refine kG ?_;refine rwr q ?_;refine ⟨fun v hv=>?_,?_⟩
 . refine ex2 (J6 (fL.mp hv).1) fun i j zz=>Ad zz fun e _=>?_;exact ⟨((i:Int),(j:Int)),e⟩
 . refine aC (cV _ _) ?_;rw [Gs];exact aC x.hrc (by decide)
theorem La.hb(x:La H o g D)(hk:inR r c k=true)(fd:Fld g D F gs):Wp (Ag T_14 (d+6) 7 [.loc o,Aa k]) H (fun v K=>∃ m,v=.loc m/\H.length<=m/\Ext H K/\K[m]?=some (.list ((held (hgt g) F k).map Aa))) NoE:=by refine Ae fun G kG=>?_;refine ex4 x.L fun lg b ls es zz=>Ad zz fun L q=>?_;refine ex2 (Co hk) fun i j zz=>Ap zz fun zr2 hi hj=>?_;subst zr2;refine kG ?_;exact Z7 x.og x.hr x.hc x.hrc L (by refine rwl q ?_;exact x.hd) (by refine rwl q ?_;exact fd) hi hj
theorem La.asked(x:La H o g D)(hk:inR r c k=true):Wp (Ag T_14 (d+7) 17 [.loc o,Aa k]) H (fun _ K=>Ext H K) NoE:=by
 refine rwl (Aq (g:=Aa4) rfl rfl) ?_;refine Dp (fun K=>Ext H K/\∃ F gs,Fld g D F gs) ?_ ?_
 . refine (x.levels (d:=d)).then ?_;intro v K zz;obtain ⟨m,b,F,gs,fd,ex,_⟩:=zz;exact ⟨ex,F,gs,fd⟩
 intro K zz;obtain ⟨ex,F,gs,fd⟩:=zz;refine Dp (fun K=>Ext H K) ?_ ?_
 . skip;refine (((x.ext ex).ext (Ext.new (Ext.refl _) _)).runoff (d:=d) hk (Ao _ _) x.mem.1 x.mem.2).then ?_;intro v K' zz;obtain ⟨F,gs,m,z,_,_,e,_⟩:=zz;exact (ex.new _).trans e
 intro K1 ex1;refine Dp (fun K=>Ext H K) ?_ ?_
 . refine ((x.ext ex1).hb (d:=d) hk fd).then ?_;intro v K' zz;obtain ⟨m,_,_,e,_⟩:=zz;exact ex1.trans e
 intro K2 ex2;refine Bu (fun _ K=>Ext H K) (Ad3 ?_) fun Γ K h=>h;refine ((x.ext ex2).way (d:=d) hk).mono ?_ ?_
 . intro v K' zz;obtain ⟨F,gs,ws,l,_,_,e,_,_⟩:=zz;exact ex2.trans e
 . intro e K' zz;obtain ⟨F,gs,_,_,e⟩:=zz;exact ⟨by decide,ex2.trans e⟩
end
theorem Z8(k:Key)(v:Val):∀ es:List (Key × Val),(E2 es k v).map cK=if k∈es.map cK then es.map cK else es.map cK++[k]:=by
 intro es;induction es with
 | nil=>rfl
 | cons x es ihh =>
  have st:E2 (x :: es) k v=if x.1=k then (x.1,v) :: es else x :: E2 es k v:=rfl;refine rwl st ?_;by_cases q:x.1=k
  . refine rwl (if_pos q) (rwl (if_pos (by rw [<- q];exact .head _)) ?_);rfl
  . refine rwl (if_neg q) (rwl bA (rwl ihh (rwl bA ?_)));by_cases m:k∈es.map cK
    . exact rwl (if_pos m) (rwl (if_pos (List.mem_cons_of_mem _ m)) rfl)
    . refine rwl (if_neg m) (rwl (if_neg fun h=>(bO.mp h).elim (fun e=>q e.symm) m) ?_);rfl
theorem Rr(k:Key):∀ es:List (Key × Val),(Tl es k).map cK=(es.map cK).erase k:=by
 intro es;induction es with
 | nil=>rfl
 | cons x es ihh =>
  have st:Tl (x :: es) k=if x.1=k then es else x :: Tl es k:=rfl;refine rwl st (rwl bA ?_);by_cases q:x.1=k
  . refine rwl (if_pos q) (rwl q ?_);rw [pG]
  . exact rwl (if_neg q) (rwl (pF (by simpa using q)) (rwl bA (rwl ihh rfl)))
structure Kp(P:Nat->Prop)(H K:Hp):Prop where
 len:H.length<=K.length
 get:∀ m ob,P m->H[m]?=some ob->K[m]?=some ob
theorem Kp.ext(e:Ext H K):Kp P H K:=⟨e.len,fun _ _ _ h=>e.get h⟩
theorem Kp.set(n:¬P p)(ob:HObj):Kp P H (H.set p ob):=⟨by refine rwl bW ?_;exact aN _,fun m _ h e=>Al ob (fun q=>n (q▸h)) e⟩
noncomputable def Out(B C p:Nat):Prop:=p < B\/C<=p
theorem Kp.up(h:B<=p)(h':p < C)(ob:HObj):Kp (Out B C) H (H.set p ob):=Kp.set (P:=Out B C) (fun q=>q.elim (aW.mpr h) (eR.mpr h')) ob
theorem Kp.below(x:Kp (Out B C) H K):Kp (· < B) H K:=⟨x.len,fun m ob h=>x.get m ob (.inl h)⟩
theorem Kp.above(x:Kp (Out B C) H K):Kp (C<=·) H K:=⟨x.len,fun m ob h=>x.get m ob (.inr h)⟩
theorem Kp.lo(h:p < B)(ob:HObj):Kp (B<=·) H (H.set p ob):=Kp.set (P:=(B<=·)) (eR.mpr h) ob
theorem Kp.trans(x:Kp P H K)(y:Kp P K L):Kp P H L:=⟨aC x.len y.len,fun m ob h e=>y.get m ob h (x.get m ob h e)⟩
structure Rw(B:Nat)(H:Hp)(r:Nat)(g:List (List Val))(ks:List Key)(l m:Nat):Prop where
 G:GAt H l (l+2) 2 g
 lst:H[m]?=some (.list (ks.map Aa))
 bl:l < m
 br:∀ i,i < r->l+2+2 * i < m
 mB:m < B
inductive Ld(B C:Nat)(H:Hp)(o:Nat)(g:List (List Val))(ks:List Key):Prop
 | mk {lg b ls:Nat} {es:List (Key × Val)} (L:LandAt H o lg b 1 ls g es) (bo:B<=o) (bg:B<=lg) (bb:B<=b) (cb:b+r<=C) (bs:B<=ls) (cs:ls < C) (e:es.map cK=ks):Ld B C H o g ks
structure Wd(B C:Nat)(H:Hp)(g:List (List Val))(ks:List Key)(l m o:Nat):Prop where
 s:OkS r c
 n:r * c<=132
 og:OkG r g
 R:Rw B H r g ks l m
 L:Ld B C H o g ks
 nd:ks.Nodup
 d:∀ k∈ks,∃ a,hgt g k=some a
 cl:C<=H.length
section
theorem Rw.kp(x:Rw B H r g ks l m)(og:OkG r g)(k:Kp (· < B) H K):Rw B K r g ks l m :=
 ⟨⟨k.get _ _ (aR x.bl x.mB) x.G.top,fun i w hw=>k.get _ _ (aR (x.br i (by refine rwr og.len ?_;exact (aE.mp hw).1)) x.mB) (x.G.row i w hw)⟩,k.get _ _ x.mB x.lst,x.bl,x.br,x.mB⟩
theorem Ld.kp(x:Ld B C H o g ks)(k:Kp (B<=·) H K):Ld B C K o g ks:=by obtain ⟨L,bo,bg,bb,cb,bs,cs,e⟩:=x;refine ex1 L.inst fun fs zz=>Ad zz fun h0 h=>?_;exact .mk ⟨⟨fs,k.get _ _ bo h0,h⟩,⟨k.get _ _ bg L.grid.top,fun i w hw=>k.get _ _ (aC bb (aG _ _)) (L.grid.row i w hw)⟩,k.get _ _ bs L.sinks⟩ bo bg bb cb bs cs e
theorem Wd.ext(x:Wd B C H g ks l m o)(e:Ext H K):Wd B C K g ks l m o:=⟨x.s,x.n,x.og,x.R.kp x.og (Kp.ext e),x.L.kp (Kp.ext e),x.nd,x.d,aC x.cl e.len⟩
theorem Ae2(es:List (Key × Val))(k:Key):inD es (Aa k)=true↔k∈es.map cK:=Fz es k
noncomputable def Dk(r c:Nat)(ks:List Key):List Val:=(Da r c fun k=>k∈ks).map Aa
open Classical in
theorem Lp:k∈Da r c P↔k∈F9 r c/\P k:=by unfold Da;rw [fL,decide_eq_true_iff]
open Classical in
theorem Tg(h:∀ k,p k=true↔P k):(F9 r c).filter p=Da r c P:=by unfold Da;refine List.filter_congr fun k _=>?_;rw [nH,decide_eq_true_iff];exact h k
theorem Rs(d:∀ k∈ks,∃ a,hgt g k=some a):Aa k∈Dk r c ks↔k∈ks:=by unfold Dk;rw [W3,Lp];refine ⟨fun h=>h.2,fun h=>⟨?_,h⟩⟩;obtain ⟨a,ha⟩:=d k h;exact Ct.mpr (Cz ha)
theorem Wd.la(x:Wd B C H g ks l m o):La H o g (Dk r c ks):=by obtain ⟨L,_,_,_,_,_,_,e⟩:=x.L;refine ⟨x.s.2.1,x.s.2.2.2,x.n,x.og,⟨_,_,_,_,L,?_⟩,fun k hk=>x.d k ((Rs x.d).mp hk)⟩;unfold Dk;rw [<- Jj];refine rwl List.filter_map (rwr e ?_);exact congrArg _ (Tg fun k=>Ae2 _ k)
theorem Wd.few(x:Wd B C H g ks l m o):ks.length<=132 :=
 aC (I4 x.nd fun q hq=>(by obtain ⟨a,ha⟩:=x.d q hq;exact Ct.mpr (Cz ha))) x.n
theorem Wd.sort(x:Wd B C H g ks l m o):E6 (ks.map Aa)=some (Dk r c ks) :=
 O7 x.nd (fun _=>oX) (fun q hq=>(by obtain ⟨a,ha⟩:=x.d q hq;exact Cz ha)) x.n
theorem Ae3(og:OkG r g)(hw:g[i]?=some w)(hh:HV v):OkG r (g.set i (w.set j v)):=by
 refine ⟨by refine rwl bW ?_;exact og.len,fun k z hz=>?_⟩;by_cases e:i=k
 . rw [<- e,dA (aE.mp hw).1] at hz;refine rwr (aO hz) ?_;obtain ⟨lw,hv⟩:=og.row i w hw;refine ⟨by refine rwl bW ?_;exact lw,fun u hu=>?_⟩;rcases List.mem_or_eq_of_mem_set hu with h' | h'
   . exact hv u h'
   . refine rwl h' ?_;exact hh
 . rw [cB e] at hz;exact og.row k z hz
theorem W8(og:OkG r g)(hi:i < r)(hj:j < c)(hw:g[i]?=some w):hgt (g.set i (w.set j v)) k=if k=((i:Int),(j:Int)) then Ahd (some v) else hgt g k:=by
 have lw:=(og.row i w hw).1;have li:=(aE.mp hw).1;unfold hgt;by_cases q:inR r c k=true
 . refine Ae fun G kG=>?_;refine ex2 (Co q) fun a b zz=>Ap zz fun zr2 ha hb=>?_;subst zr2;refine kG ?_;refine rwl (if_pos q) (rwl (if_pos q) ?_);show Ahd (((g.set i (w.set j v))[((a:Int)).toNat]?).bind fun w=>w[((b:Int)).toNat]?)=_;rw [bC];by_cases e1:i=a
   . refine rwr e1 (rwl (dA li) ?_);show Ahd ((w.set j v)[b]?)=_;by_cases e2:j=b
     . exact rwr e2 (rwl (dA (aA hj (aD lw.symm))) (rwl (if_pos rfl) rfl))
     . refine rwl (cB e2) (rwl (if_neg fun h=>e2 (mY (congrArg Prod.snd h)).symm) ?_);show _=Ahd ((g[((i:Int)).toNat]?).bind fun w=>w[((b:Int)).toNat]?);rw [bC,bC];refine rwl hw ?_;rfl
   . refine rwl (cB e1) (rwl (if_neg fun h=>e1 (mY (congrArg cK h)).symm) ?_);rfl
 . exact rwl (if_neg q) (rwl (if_neg q) (rwl (if_neg fun h:k=((i:Int),(j:Int))=>q (by rw [h];exact Ow hi hj)) rfl))
theorem Akx(og:OkG r g)(hi:i < r)(hj:j < c):∃ w x,g[i]?=some w/\w[j]?=some x/\HV x/\w.length=c:=by refine Ae fun G kG=>?_;obtain ⟨w,hw⟩:∃ w,g[i]?=some w:=⟨_,aI (by refine rwl og.len ?_;exact hi)⟩;obtain ⟨lw,hv⟩:=og.row i _ hw;obtain ⟨x,hx⟩:∃ x,w[j]?=some x:=⟨_,aI (by refine rwl lw ?_;exact hj)⟩;refine kG ?_;exact ⟨w,x,hw,hx,hv x (aH hx),lw⟩
theorem Abq(hS:OkS r c)(og:OkG r g)(G:GAt H l b s g)(hi:i < r):b+s * i≠l:=fun e=>by
 refine ex2 (Akx og hi (aA dR hS.2.2.1)) fun w x zz=>Cf zz fun hw hx hv _=>?_
 have h1:=G.row i w hw
 rw [e,G.top] at h1
 have h1:(bT g.length).map (fun i=>Val.loc (b+s * i))=w:=by injection aO h1
 rw [<- h1,aX] at hx
 cases q:(bT g.length)[0]? with
 | none=>rw [q] at hx;exact nomatch hx
 | some n =>
  rw [q] at hx
  cases hx
  rcases hv with hv | ⟨_,hv,_⟩ <;> exact nomatch hv
theorem GAt.put(G:GAt H l b s g)(hs:1<=s)(hl:b+s * a≠l)(ha:a < g.length)(w:List Val):GAt (H.set (b+s * a) (.list w)) l b s (g.set a w):=by
 refine ⟨?_,fun i r h=>?_⟩
 . refine rwl bW ?_;exact Al _ hl G.top
 . by_cases c:i=a
   . subst c;rw [dA ha] at h;refine rwr (aO h) ?_;exact Bl _ (G.row i _ (aI ha))
   . rw [cB (fun e=>c e.symm)] at h;refine Al _ (fun e=>c ?_) (G.row i r h);exact (Nat.eq_of_mul_eq_mul_left hs (pV e)).symm
theorem Rw.put(x:Rw B H r g ks l m)(hS:OkS r c)(og:OkG r g)(hi:i < r)(w:List Val):Rw B (H.set (l+2+2 * i) (.list w)) r (g.set i w) ks l m :=
 ⟨x.G.put (by decide) (Abq hS og x.G hi) (by refine rwl og.len ?_;exact hi) w,Al _ (dB (x.br i hi)) x.lst,x.bl,x.br,x.mB⟩
theorem Rw.list(x:Rw B H r g ks l m)(og:OkG r g):Rw B (H.set m (.list (qs.map Aa))) r g qs l m :=
 ⟨x.G.other _ (dW x.bl) fun i hi=>dW (x.br i (by refine rwr og.len ?_;exact hi)),Bl _ x.lst,x.bl,x.br,x.mB⟩
theorem Ld.opened(x:Ld B C H o g ks)(og:OkG r g)(kl:ks.length<=132)(hk:hgt g k=some a):Wp (Ag T_14 (d+4) 26 [.loc o,Aa k]) H (fun _ K=>Kp (Out B C) H K/\Ld B C K o g (if k∈ks then ks else ks++[k])) NoE:=by
 refine Ae fun G kG=>?_;obtain ⟨L,bo,bg,bb,cb,bs,cs,e⟩:=x;refine ex2 (Co (Cz hk)) fun i j zz=>Ap zz fun zr2 hi hj=>?_;subst zr2;refine ex2 (Hg og hi hj) fun w y zz=>Ap zz fun hw hy hcase=>?_;refine kG ?_;rcases hcase with ⟨_,hn⟩ | ⟨n,rfl,_,_⟩
 . rw [hn] at hk;exact nomatch hk
 refine (Ta hi hj L hw hy ?_).then ?_
 . have:=congrArg hU e;rw [aM] at this;show _ < 16777216;exact aB (aC (aD this) kl) (by decide:132 < 16777216)
 . rintro u K ⟨_,rfl⟩;exact ⟨Kp.up bs cs _,.mk L.sink bo bg bb cb bs cs (by rw [Z8];exact rwl e rfl)⟩
theorem W9(h:H[ls]?=some (.dict es))(hk:k∈es.map cK)(q:∀ v,Q v (H.set ls (.dict (Tl es k)))):Wp (bmV .dpop (.loc ls) [Aa k]) H Q E:=by
 cases e:C3 es k with
 | none=>have:=(Fz es k).mpr hk;rw [e] at this;exact nomatch this
 | some v =>
  refine Wp.of_eq (a:=v) ?_ (q v);unfold bmV;simp only [h];show (match C3 es k with
   | some v=>_
   | none=>_)=_
  exact rwl e rfl
theorem Ld.shut(x:Ld B C H o g ks)(hi:inR r c k=true)(hk:k∈ks):Wp (Ag T_14 (d+4) 36 [.loc o,Aa k]) H (fun _ K=>Kp (Out B C) H K/\Ld B C K o g (ks.erase k)) NoE:=by
 obtain @⟨lg,b,ls,es,L,bo,bg,bb,cb,bs,cs,e⟩:=x;refine Ae fun G kG=>?_;obtain ⟨i,j,rfl,hi,hj⟩:=Co hi;obtain ⟨fs,h0,h1,h2,h3,h4⟩:=L.inst;refine kG ?_;rw [<- e] at hk;refine rwl (Aq (g:=Abf) rfl rfl) ?_;refine Dp (fun H'=>H'=H) (J8 (P:=fun K=>K=H) h0 (J7 hi hj L) rfl rfl rfl) ?_;intro K e';refine rwl e' ?_;clear e' K;refine B5 (fun K=>K=H) ?_ ?_
 . rw [Au];refine rwl (wvr (v:=Aa ((i:Int),(j:Int))) rfl) (rwl (wat rfl h0 h4) ?_);show De (Cu .notin (.tup [.int (i:Int),.int (j:Int)]) (.loc ls) H) _;refine rwl (Fh L.sinks) (rwl ((Fz es _).mpr hk) ?_);exact ⟨rfl,rfl⟩
 intro K e';refine rwl e' ?_;clear e' K;rw [Ah,D4,Ni];refine rwl (wat rfl h0 h4) ?_;rw [Bj (show Db .dpop (.loc ls) H=some () from if_pos (Hy L.sinks))];exact W9 L.sinks hk fun v=>⟨Kp.up bs cs _,.mk L.sink bo bg bb cb bs cs (by rw [Rr];exact rwl e rfl)⟩
theorem LandAt.put(L:LandAt H o lg b 1 ls g es)(hS:OkS r c)(og:OkG r g)(hi:i < r):LandAt (H.set (b+1 * i) (.list w')) o lg b 1 ls (g.set i w') es:=by refine ex1 L.inst fun fs zz=>Ad zz fun h0 hf=>?_;have hr:=L.grid.row i _ (aI (by refine rwl og.len ?_;exact hi));exact ⟨⟨fs,Al _ (Ca hr h0 (fun h=>nomatch h)) h0,hf⟩,L.grid.put (aN 1) (Abq hS og L.grid hi) (by refine rwl og.len ?_;exact hi) w',Al _ (Ca hr L.sinks (fun h=>nomatch h)) L.sinks⟩
noncomputable def Ahk:Val->Bool
 | .none=>true
 | _=>false
theorem is_none(h:Val):Cu .is h .none H=some (Ahk h):=by cases h <;> rfl
theorem Ld.raised(x:Ld B C H o g ks)(hS:OkS r c)(og:OkG r g)(hi:i < r)(hj:j < c)(hw:g[i]?=some w)(hv:HV v):Wp (Ag T_14 (d+4) 18 [.loc o,Aa ((i:Int),(j:Int)),v]) H (fun _ K=>Kp (Out B C) H K/\Ld B C K o (g.set i (w.set j v)) (if Ahk v=true then ks.erase ((i:Int),(j:Int)) else ks)) NoE:=by
 obtain @⟨lg,b,ls,es,L,bo,bg,bb,cb,bs,cs,e⟩:=x;refine Ae fun G kG=>?_;refine ex1 L.inst fun fs zz=>G7 zz fun h0 h1 h2 h3 h4=>?_;refine kG ?_;have lw:=(og.row i w hw).1;have L1:=L.put hS og hi (w':=w.set j v);have k1:Kp (Out B C) H (H.set (b+1 * i) (.list (w.set j v))):=Kp.up (aC bb (aG _ _)) (Ann cb hi) _;rw [Aq (g:=Aa5) rfl rfl];refine Dp (fun H'=>H'=H) (J8 (P:=fun K=>K=H) h0 (J7 hi hj L) rfl rfl rfl) ?_;intro K e';rw [e'];clear e' K;refine B5 (fun K=>K=H) ?_ ?_
 . rw [Cj,Ax,wcv (v:=v) rfl,A3,Mh hv];exact ⟨rfl,rfl⟩
 intro K e';rw [e'];clear e' K;rw [Ah,Bk,wvr (v:=v) rfl,Bd,wat rfl h0 h3];show Wp (Dh (.loc lg) (.int (i:Int))) H _ _;rw [Et L.grid.top (L.grid.item (aE.mp hw).1)];show Wp (Av (.loc (b+1 * i)) (.int (j:Int)) v) H _ _;rw [Le (L.grid.row i w hw) Mr (bS.mpr (lw▸hj)),bC];refine Ae fun G kG=>?_;refine ex1 L1.inst fun fs zz=>G7 zz fun h0 _ _ _ h4=>?_;refine kG ?_;rw [Ah,Ba,Cy,Au,wvr (v:=v) rfl,Ef,is_none];cases hn:Ahk v with
 | false=>exact ⟨k1,.mk L1 bo bg bb cb bs cs e⟩
 | true =>
  rw [Bi,Ab,Bw,Au,wvr (v:=Aa ((i:Int),(j:Int))) rfl,wat rfl h0 h4];show De (Cu .isin (.tup [.int (i:Int),.int (j:Int)]) (.loc ls) _) _;rw [O1 L1.sinks];refine Dm (fun q=>?_) fun q=>?_
  . have hk:=(Fz es _).mp q;rw [Ah,D4,Ni,wat rfl h0 h4,Bj (show Db .dpop (.loc ls) _=some () from if_pos (Hy L1.sinks))];exact W9 L1.sinks hk fun v=>⟨k1.trans (Kp.up bs cs _),.mk L1.sink bo bg bb cb bs cs (by rw [Rr,e];rfl)⟩
  . refine ⟨k1,.mk L1 bo bg bb cb bs cs (e.trans ?_)⟩;rw [if_pos rfl,oV fun h=>?_];rw [<- e] at h;rw [(Fz es _).mpr h] at q;exact nomatch q
end
section
theorem Kp.to_ext(x:Kp (Out H.length C) K J)(e:Ext H K):Ext H J:=Ws fun m ob hm=>x.get m ob (.inl (A4 hm)) (e.get hm)
inductive CInv(C:Nat)(H:Hp)(o:Nat)(g:List (List Val))(x0 x1:Val):Nat->Env'->Hp->Prop
 | mk {n:Nat} {K:Hp} (x4:Option Val) (ex:Ext H K) (L:Ld (H.length+r+1) C K o g []) (top:K[H.length+r]?=some (.list ((bT g.length).map fun i=>.loc (H.length+1 * i)))) (row:∀ i,i < r->∃ w,K[H.length+1 * i]?=some (.list w)):CInv C H o g x0 x1 n [some x0,some x1,some (.loc (H.length+r)),some (.loc o),x4,none] K
inductive OInv(C:Nat)(H:Hp)(o:Nat)(g:List (List Val))(ks:List Key)(x0 x1 x2:Val):Nat->Env'->Hp->Prop
 | mk {n:Nat} {K:Hp} (x4 x5:Option Val) (ex:Ext H K) (L:Ld H.length C K o g (ks.take n)) (cl:C<=K.length):OInv C H o g ks x0 x1 x2 n [some x0,some x1,some x2,some (.loc o),x4,x5] K
theorem Z9(hS:OkS r c)(og:OkG r g)(G:GAt H l b s g)(hm:H[m]?=some (.list (ks.map Aa)))(hk:∀ k∈ks,∃ a,hgt g k=some a)(nd:ks.Nodup)(kl:ks.length<=132) :
 Wp (Ag T_14 (d+5) 15 [.loc l,.loc m]) H (fun v K=>∃ o C,v=.loc o/\Ext H K/\Ld H.length C K o g ks/\C<=K.length) NoE:=by
 have lid':lid=16777216:=rfl;have hr:=hS.2.1;refine rwl (Aq (g:=Aa2) rfl rfl) ?_;show wpSs T_14 (Ag T_14 (d+4)) _ [some (.loc l),some (.loc m),none,none,none,none] H _ _ _;refine Ak (fun v K=>v=.loc (H.length+r)/\Ext H K/\GAt K (H.length+r) H.length 1 g/\K.length=H.length+r+1) ?_ ?_
 . refine Qb (l:=l) (b:=b) (s:=s) (g:=g) rfl G (by refine rwl og.len ?_;exact Ahs lid' hr) ⟨rfl,rfl⟩ fun K e GK hK=>?_;rw [og.len] at GK hK ⊢;exact ⟨rfl,e,GK,hK⟩
 intro v K zz;refine Cf zz fun zr0 e GK hK=>?_;subst zr0;refine Ak (fun v K2=>v=.loc K.length/\CInv K2.length H K.length g (.loc l) (.loc m) 0 [some (.loc l),some (.loc m),some (.loc (H.length+r)),some (.loc K.length),none,none] K2) ?_ ?_
 . skip;refine (Aei (d:=d+1) hS og GK).then ?_;intro v K2 zz;refine Ap zz fun zr0 e2 zz=>ex3 zz fun lg b' ls zz=>Cf zz fun L h1 h2 h3=>?_;subst zr0;have c1:=A4 L.sinks;have c2:=A4 L.grid.top;exact ⟨rfl,(.mk none (e.trans e2) (.mk L (aD hK.symm) (aJ (aA (aA (aB (aD hK.symm) h1) (aG _ _)) (aD h2.symm))) (aJ (aB (aD hK.symm) h1)) (aJ (aB (aD h2.symm) c2)) (aJ (aB (aD hK.symm) h3)) c1 rfl) (e2.get GK.top) fun i hi=>⟨_,e2.get (GK.row i _ (aI (by refine rwl og.len ?_;exact hi)))⟩)⟩
 rintro v K2 ⟨rfl,h0⟩;obtain ⟨C,hC⟩:∃ C,C=K2.length:=⟨_,rfl⟩;rw [<- hC] at h0;obtain ⟨I,hI⟩:=Fe (fun n Γ K3=>CInv C H K.length g (.loc l) (.loc m) n Γ K3/\C<=K3.length);have h0:=(hI _ _ _).mpr ⟨h0,aD hC⟩;refine Bu (fun Γ K=>I r Γ K) ?_ ?_
 . refine Ae fun G kG=>?_;obtain ⟨⟨x4,ex,L,top,row⟩,_⟩:=(hI _ _ _).mp h0;refine kG ?_;refine Gv (l:=H.length+r) (K0:=K2) I ⟨rfl,rfl⟩ top h0 (fun n Γ K3 h=>?_) (fun n y Γ K3 hy h=>?_) fun Γ K h=>?_
   . refine Ae fun G kG=>?_;obtain ⟨⟨_,_,_,t,_⟩,_⟩:=(hI _ _ _).mp h;refine kG ?_;exact t
   . refine Ae fun G kG=>?_;obtain ⟨⟨x4,ex,L,top,row⟩,cl⟩:=(hI _ _ _).mp h;refine kG ?_;rw [aX] at hy;cases hn:(bT g.length)[n]? with
     | none=>rw [hn] at hy;exact nomatch hy
     | some i =>
      rw [hn] at hy;have ey:.loc (H.length+1 * i)=y:=aO hy;have li:i < r:=by have:=eV.mp (aH hn);rw [og.len] at this;exact this
      obtain ⟨w,hw⟩:=row i li;refine rwr ey ?_;rw [Ah,D4];show De (Db .clear (.loc (H.length+1 * i)) K3) _;refine rwl (S7 hw) ?_;refine Zl hw ((hI _ _ _).mpr ⟨.mk _ (ex.set (aG _ _) _) (L.kp (Kp.lo (Ano li hK) _)) (Al _ (Anp li hK) top) fun i' hi'=>?_,by refine rwl bW ?_;exact cl⟩);by_cases e:i'=i
      . refine rwl e ?_;exact ⟨_,Bl _ hw⟩
      . obtain ⟨w',hw'⟩:=row i' hi';exact ⟨w',Al _ (Anq e) hw'⟩
   . rw [aM,bV,og.len] at h;exact h
 intro Γ K3 h;obtain ⟨⟨x4,ex,L,_,_⟩,cl⟩:=(hI _ _ _).mp h;clear h h0 hI;clear I;obtain ⟨I,hI⟩:=Fe (OInv C H K.length g ks (.loc l) (.loc m) (.loc (H.length+r)));have L':Ld H.length C K3 K.length g []:=by obtain ⟨L,h1,h2,h3,c3,h4,c4,e⟩:=L;exact .mk L (aJ (aB (aG _ _) (aD hK.symm))) (Aia h2 hK hr) (Aia h3 hK hr) c3 (Aia h4 hK hr) c4 e
 refine Bu (fun Γ K=>I ks.length Γ K) ?_ ?_
 . refine Gv (l:=m) (xs:=ks.map Aa) (K0:=K3) I ⟨rfl,rfl⟩ (ex.get hm) ((hI _ _ _).mpr (.mk _ _ ex L' cl)) (fun n Γ K4 h=>?_) (fun n y Γ K4 hy h=>?_) fun Γ K h=>?_
   . refine Ae fun G kG=>?_;obtain ⟨_,_,ex,_⟩:=(hI _ _ _).mp h;refine kG ?_;exact ex.get hm
   . obtain ⟨x4,x5,ex,L,cl⟩:=(hI _ _ _).mp h;refine ex1 (Ht hy) fun q zz=>Ad zz fun hq hr0=>?_;refine rwl hr0 ?_;refine Ae fun G kG=>?_;obtain ⟨a,ha⟩:=hk q (aH hq);obtain ⟨fs,f0,_⟩:∃ fs,K4[K.length]?=some (.inst 7 fs)/\True:=by obtain ⟨L,_⟩:=L;refine ex1 L.inst fun fs zz=>Ad zz fun f0 _=>?_;exact ⟨fs,f0,trivial⟩
     refine kG ?_;rw [Ah,D4];rw [Bt];refine rwl (wvr (v:=.loc K.length) rfl) (rwl (Em f0 (show T_14.meth 7 3=some 26 from rfl)) (rwl (wcv (v:=Aa q) rfl) ?_));refine (L.opened (d:=d) og (aC (mE _ _).length_le kl) ha).then ?_;rintro u K5 ⟨kp,L5⟩;rw [if_neg (Rl nd hq),<- Eb hq] at L5;exact (hI _ _ _).mpr (.mk _ _ (kp.to_ext ex) L5 (aC cl kp.len))
   . rw [aM] at h;exact h
 intro Γ K4 h;obtain ⟨x4,x5,ex,L,cl⟩:=(hI _ _ _).mp h;rw [dS] at L;exact ⟨K.length,C,rfl,ex,L,cl⟩
end
theorem Xa(ks:List Key)(q:Key)(h:q∈ks):∃ j,(ks.map fun k=>hY [.int k.1,.int k.2]).findIdx? (fun y=>dE y (.tuple [.int q.1,.int q.2]))=some j/\(ks.map Aa).eraseIdx j=(ks.erase q).map Aa:=by
 have ev:∀ a b:Key,dE (.tuple [.int a.1,.int a.2]) (.tuple [.int b.1,.int b.2])=decide (a=b):=fun a b=>aO (Qh (H:=[]) a b);induction ks with
 | nil=>exact nomatch h
 | cons k ks ih =>
  refine rwl bA (rwl List.findIdx?_cons ?_);rw [ev];by_cases e:k=q
  . refine ⟨0,by refine rwl (decide_eq_true e) ?_;rfl,?_⟩;refine rwl e ?_;rw [pG];rfl
  . refine ex1 (ih ((bO.mp h).resolve_left fun q=>e q.symm)) fun j zz=>Ad zz fun h1 h2=>?_;refine ⟨j+1,by refine rwl (decide_eq_false e) (rwl h1 ?_);rfl,?_⟩;refine rwl (pF (by simpa using e)) ?_;show Aa k :: (ks.map Aa).eraseIdx j=_;refine rwl h2 ?_;rfl
section
variable{Γ:Env'}{H K:Hp}{Q:Val->Hp->Prop}{E:Nat->Hp->Prop}{d:Nat}{QS:Env'->Hp->Prop}{R:Val->Hp->Prop}{ES:Nat->Env'->Hp->Prop}{B C o l m b s:Nat}{g:List (List Val)}{ks:List Key}{k:Key}{v x:Val}
theorem Pa(hl:H[l]?=some (.list (ks.map Aa)))(hk:k∈ks)(q:Q .none (H.set l (.list ((ks.erase k).map Aa)))):Wp (bmV .remove (.loc l) [Aa k]) H Q E:=by
 refine ex1 (Xa ks k hk) fun j zz=>Ad zz fun h1 h2=>?_;rw [<- h2] at q;refine Wp.of_eq ?_ q;unfold bmV;simp only [hl];have e:Jx H (Aa k) (ks.map Aa)=some j:=by show (match A0 H Ej (Aa k),I6 (A0 H Ej) (ks.map Aa) with | some d,some ds=>ds.findIdx? (fun y=>dE y d) | _,_=>none)=_;refine rwl (show I6 (A0 H Ej) (ks.map Aa)=some (ks.map fun q=>hY [.int q.1,.int q.2]) from Hv ks fun k _=>rfl) ?_;exact h1
 exact rwl e rfl
theorem Qj{x y:Int}(hS:OkS r c)(og:OkG r g)(G:GAt H l b s g)(hi:Γ[i]?=some (some (.loc l)))(ha:∀ (Q:Val->Hp->Prop) (E:Nat->Hp->Prop),Q (.int x) H->wpE T Φ a Γ H Q E)(hb:∀ (Q:Val->Hp->Prop) (E:Nat->Hp->Prop),Q (.int y) H->wpE T Φ b' Γ H Q E)(q:∀ k,inR r c k=true->Q (Aa k) H) :
 wpE T Φ (.tup (.cons (.bin .mod a (.bf .len (.cons (.var i) .nil))) (.cons (.bin .mod b' (.bf .len (.cons (.sub (.var i) (.int 0)) .nil))) .nil))) Γ H Q E:=by
 refine ex1 (W1 hS og G) fun w zz=>Ap zz fun h1 h2 lw=>?_;refine ex1 (Cd x r hS.1) fun i' zz=>Ad zz fun e1 l1=>?_;refine ex1 (Cd y c hS.2.2.1) fun j' zz=>Ad zz fun e2 l2=>?_;have p1:=hS.1;have p2:=hS.2.2.1;refine ha _ _ ?_;refine rwl (wbf hi) (rwl (As G.top) ?_);rw [aM];refine rwl bV (rwl og.len ?_);rw [Ky];refine ⟨by exact Akn p1,?_⟩;rw [Am];refine hb _ _ ?_;rw [Fs,Am,Bd];refine rwl (wvr hi) ?_;show Wp (Dh (.loc l) (.int 0)) H (fun v H'=>Wp (bfV .len [v]) H' _ _) _;refine rwl (Aji h1 G.top h2) (rwl lw ?_);refine ⟨by exact Akn p2,?_⟩;refine rwl e1 (rwl e2 ?_);exact q ((i':Int),(j':Int)) (Ow l1 l2)
theorem Jr(G:GAt H l b s g)(hi:Γ[i]?=some (some (.loc l)))(hp:Γ[p]?=some (some (Aa k)))(hk:inR r c k=true)(hx:Afa g k=some x)(q:Q x H):wpE T Φ (.sub (.sub (.var i) (.sub (.var p) (.int 0))) (.sub (.var p) (.int 1))) Γ H Q E:=by refine ex2 (Co hk) fun i' j' zz=>Ap zz fun zr2 _ _=>?_;subst zr2;have hx:(g[((i':Int)).toNat]?).bind (fun w=>w[((j':Int)).toNat]?)=some x:=hx;rw [bC,bC] at hx;refine ex1 (dC.mp hx) fun w zz=>Ad zz fun hw hx=>?_;rw [Bd,Bd];refine rwl (wvr hi) ?_;rw [Bd];refine rwl (wvr hp) ?_;show Wp (Dh (.loc l) (.int (i':Int))) H (fun v H'=>wpE T Φ (.sub (.var p) (.int 1)) Γ H' (fun u H'=>Wp (Dh v u) H' _ _) _) _;refine rwl (Et G.top (G.item (aE.mp hw).1)) ?_;rw [Bd];refine rwl (wvr hp) ?_;show Wp (Dh (.loc (b+s * i')) (.int (j':Int))) H _ _;refine rwl (Et (G.row i' w hw) hx) ?_;exact q
theorem Fj(og:OkG r g)(hk:inR r c k=true):Afa g k=some (ov (hgt g k)):=by
 refine Ae fun G kG=>?_;refine ex2 (Co hk) fun i j zz=>Ap zz fun zr2 hi hj=>?_;subst zr2;refine ex2 (Hg og hi hj) fun w y zz=>Ap zz fun hw hy hcase=>?_;refine kG ?_;have e:Afa g ((i:Int),(j:Int))=some y:=by show (g[((i:Int)).toNat]?).bind (fun w=>w[((j:Int)).toNat]?)=_;rw [bC,bC];refine rwl hw ?_;exact hy
 refine rwl e ?_;rcases hcase with ⟨rfl,hn⟩ | ⟨n,rfl,_,hn⟩ <;> (refine rwl hn ?_) <;> rfl
theorem Ld.le(x:Ld B C H o g ks):B<=C:=by obtain ⟨_,_,_,_,_,bs,cs,_⟩:=x;exact aC (aC bb (aG _ _)) cb
theorem Ld.umeth{Q:Nat->Hp->Prop}(x:Ld B C H o g ks)(h:T_14.meth 7 n=some f):Wp (C8 T_14 (.loc o) n) H Q E=Q f H:=by refine Ae fun G kG=>?_;obtain ⟨L,_⟩:=x;refine ex1 L.inst fun fs zz=>Ad zz fun f0 _=>?_;refine kG ?_;exact Em f0 h
theorem Wd.open(x:Wd B C H g ks l m o)(ha:Γ[a]?=some (some (.loc o)))(hp:Γ[p]?=some (some (Aa k)))(hq:Γ[q]?=some (some (.loc m)))(hk:hgt g k=some z)(kk:∀ K ks',Wd B C K g ks' l m o->Kp (C<=·) H K->QS Γ K) :
 wpSs T_14 (Ag T_14 (d+4)) (.cons (.expr (.umeth (.var a) 3 (.cons (.var p) .nil))) (.cons (.ite (.cmp .notin (.var p) (.var q)) (.cons (.expr (.bm (.var q) .append (.cons (.var p) .nil))) .nil) .nil) .nil)) Γ H QS R ES:=by
 refine Dp (fun K=>Kp (Out B C) H K/\Ld B C K o g (if k∈ks then ks else ks++[k])) ?_ ?_
 . rw [Bt];refine rwl (wvr ha) (rwl (x.L.umeth (show T_14.meth 7 3=some 26 from rfl)) (rwl (wcv hp) ?_));exact x.L.opened (d:=d) x.og x.few hk
 rintro K ⟨kp,L⟩;have R:=x.R.kp x.og kp.below;have bc:=L.le;rw [Ah,Ba,Au];refine rwl (wvr hp) (rwl (wvr hq) (rwl (Fi R.lst) ?_));rw [Bi,Ab,Dw];by_cases e:k∈ks
 . rw [if_pos e] at L;rw [Cr e];exact kk K ks ⟨x.s,x.n,x.og,R,L,x.nd,x.d,aC x.cl kp.len⟩ kp.above
 . rw [if_neg e] at L;rw [Bc e];refine Dz hq R.lst ?_;refine rwl (wvr hp) ?_;refine ⟨_,R.lst,by have:=x.few;rw [aM];show _ < 16777216;exact aB this (by decide:132 < 16777216),?_⟩;refine kk _ (ks++[k]) ⟨x.s,x.n,x.og,by refine rwl (show ks.map Aa++[Aa k]=(ks++[k]).map Aa by rw [cD];rfl) ?_;exact R.list x.og,L.kp (Kp.lo R.mB _),?_,fun q hq=>?_,by refine rwl bW ?_;exact aC x.cl kp.len⟩ (kp.above.trans (Kp.lo (aA R.mB bc) _))
   . rw [jV];refine ⟨x.nd,eD.mpr ⟨dT,.nil⟩,fun a ha b hb e'=>?_⟩;rw [aT.mp hb] at e';exact e (e'▸ha)
   . rcases bM.mp hq with h | h
     . exact x.d q h
     . refine rwl (aT.mp h) ?_;exact ⟨z,hk⟩
theorem Wd.gone(x:Wd B C H g ks l m o)(og:OkG r g')(hd:∀ q,q≠k->hgt g' q=hgt g q)(R:Rw B K r g' ks l m)(L:Ld B C K o g' (ks.erase k))(cl:C<=K.length):Wd B C (K.set m (.list ((ks.erase k).map Aa))) g' (ks.erase k) l m o :=
 ⟨x.s,x.n,og,R.list og,L.kp (Kp.lo R.mB _),x.nd.erase k,fun q hq=>by
  obtain ⟨n,h⟩:=(x.nd.mem_erase_iff).mp hq
  refine rwl (hd q n) ?_;exact x.d q h,by refine rwl bW ?_;exact cl⟩
theorem Wd.raise{n:Int}(x:Wd B C H g ks l m o)(hk:inR r c k=true)(kk:∀ K g' ks' Γ,Wd B C K g' ks' l m o->Kp (C<=·) H K->QS Γ K) :
 wpSs T_14 (Ag T_14 (d+4)) (.cons (.assign 6 (.sub (.list (.cons .none (.cons (.int 0) (.cons (.bin .mod (.bin .fdiv (.var 3) (.int 3)) (.int 1000000001)) (.cons (.bin .mod (.bin .fdiv (.var 3) (.int 3)) (.int 9)) .nil))))) (.bin .mod (.bin .fdiv (.var 3) (.int 5)) (.int 4)))) (.cons (.expr (.umeth (.var 0) 11 (.cons (.var 4) (.cons (.var 6) .nil)))) (.cons (.setitem (.sub (.var 1) (.sub (.var 4) (.int 0))) (.sub (.var 4) (.int 1)) (.var 6)) (.cons (.ite (.and (.cmp .is (.var 6) .none) (.cmp .isin (.var 4) (.var 2))) (.cons (.expr (.bm (.var 2) .remove (.cons (.var 4) .nil))) .nil) .nil) .nil)))) [some (.loc o),some (.loc l),some (.loc m),some (.int n),some (Aa k),x5,y] H QS R ES:=by
 refine Ae fun G kG=>?_;refine ex2 (Co hk) fun i j zz=>Ap zz fun zr2 hi hj=>?_;subst zr2;refine ex2 (Akx x.og hi hj) fun w y zz=>Cf zz fun hw hy _ lw=>?_;refine ex1 (Cd (cR n 3) 1000000001 (by decide)) fun a zz=>Ad zz fun ha la=>?_;refine ex1 (Cd (cR n 3) 9 (by decide)) fun b zz=>Ad zz fun hb lb=>?_;refine ex1 (Cd (cR n 5) 4 (by decide)) fun t zz=>Ad zz fun ht lt=>?_;refine kG ?_;have hv:∀ v∈[Val.none,.int 0,.int a,.int b],HV v:=fc (.inl rfl) (fc (.inr ⟨0,rfl,by decide,by decide⟩) (fc (.inr ⟨a,rfl,by exact bE _,by exact Aj7 la⟩) (fc (.inr ⟨b,rfl,by exact bE _,by exact dD.mpr (aJ (aR lb (by decide:9 < 1000000000)))⟩) fcn)));have lt':t < [Val.none,.int 0,.int a,.int b].length:=lt;refine Ak (fun v K=>HV v/\Ext H K) ?_ ?_
 . skip;refine ⟨by decide,by decide,by decide,by decide,by decide,by decide,?_⟩;show Wp (Dh (.loc H.length) (.int (dO (cR n 5) ((4:Nat):Int)))) (H++[.list [Val.none,.int 0,.int (dO (cR n 3) ((1000000001:Nat):Int)),.int (dO (cR n 3) ((9:Nat):Int))]]) _ _;refine rwl ha (rwl hb (rwl ht ?_));exact Hs (Ao H _) (bE _) (by rw [bC];exact rwl (aI lt') rfl) ⟨hv _ (kF lt'),_,rfl⟩
 clear hv lt' ha hb ht;rintro v K ⟨hv,ex⟩;have x':=x.ext ex;refine Dp (fun K2=>Kp (Out B C) K K2/\Ld B C K2 o (g.set i (w.set j v)) (if Ahk v=true then ks.erase ((i:Int),(j:Int)) else ks)) ?_ ?_
 . rw [Bt];refine rwl (wvr (v:=.loc o) rfl) (rwl (x'.L.umeth (show T_14.meth 7 11=some 18 from rfl)) (rwl (wcv (v:=Aa ((i:Int),(j:Int))) rfl) (rwl (wcv (v:=v) rfl) ?_)));exact x'.L.raised (d:=d) x.s x.og hi hj hw hv
 rintro K2 ⟨kp,L⟩;have R2:=x'.R.kp x.og kp.below;have bc:=L.le;have k3:Kp (C<=·) H (K2.set (l+2+2 * i) (.list (w.set j v))):=((Kp.ext ex).trans kp.above).trans (Kp.lo (aA (aR (R2.br i hi) R2.mB) bc) _);have cl3:=aC x.cl k3.len;have R3:=R2.put x.s x.og hi (w.set j v);have L3:=L.kp (Kp.lo (aR (R2.br i hi) R2.mB) (.list (w.set j v)));have og:=Ae3 (j:=j) x.og hw hv;rw [Ah,Bk];refine rwl (wvr (v:=v) rfl) ?_;rw [Bd];refine rwl (wvr (v:=.loc l) rfl) ?_;rw [Bd];show Wp (Dh (.loc l) (.int (i:Int))) K2 _ _;refine rwl (Et R2.G.top (R2.G.item (aE.mp hw).1)) ?_;rw [Bd];show Wp (Av (.loc (l+2+2 * i)) (.int (j:Int)) v) K2 _ _;refine rwl (Le (R2.G.row i w hw) Mr (bS.mpr (lw▸hj))) ?_;rw [bC];rw [Ah,Ba,Cy,Au];refine rwl (wvr (v:=v) rfl) (rwl Ef ?_);rw [is_none];have hp:∀ q,q≠((i:Int),(j:Int))->hgt (g.set i (w.set j v)) q=hgt g q:=fun q n=>by exact rwl (W8 x.og hi hj hw) (rwl (if_neg n) rfl)
 cases hn:Ahk v with
 | false =>
  rw [hn,if_neg (by decide)] at L3;refine kk _ _ ks _ ⟨x.s,x.n,og,R3,L3,x.nd,fun q hq=>?_,cl3⟩ k3;by_cases e:q=((i:Int),(j:Int))
  . refine rwl (W8 x.og hi hj hw) (rwl (if_pos e) ?_);rcases hv with rfl | ⟨z,rfl,_⟩
    . exact nomatch hn
    . exact ⟨z,rfl⟩
  . refine rwl (hp q e) ?_;exact x.d q hq
 | true =>
  rw [hn,if_pos rfl] at L3;rw [Bi,Ab,Bw,Au];refine rwl (wvr (v:=Aa ((i:Int),(j:Int))) rfl) (rwl (wvr (v:=.loc m) rfl) (rwl (Lm R3.lst) ?_));refine By (fun e=>?_) fun e=>?_
  . rw [Ah,D4,Ni];refine rwl (wvr (v:=.loc m) rfl) ?_;rw [Bj (show Db .remove (.loc m) _=some () from if_pos (Gc R3.lst))];exact Pa R3.lst e (kk _ _ _ _ (x.gone og hp R3 L3 cl3) (k3.trans (Kp.lo (aA R3.mB bc) _)))
  . rw [oV e] at L3;exact kk _ _ ks _ ⟨x.s,x.n,og,R3,L3,x.nd,fun q hq=>by refine rwl (hp q fun h=>e (h▸hq)) ?_;exact x.d q hq,cl3⟩ k3
theorem Wd.change{n:Int}(x:Wd B C H g ks l m o):Wp (Ag T_14 (d+5) 37 [.loc o,.loc l,.loc m,.int n]) H (fun _ K=>∃ g' ks',Wd B C K g' ks' l m o/\Kp (C<=·) H K) NoE:=by
 refine rwl (Aq (g:=Abg) rfl rfl) ?_;show wpSs T_14 (Ag T_14 (d+4)) _ [some (.loc o),some (.loc l),some (.loc m),some (.int n),none,none,none] H _ _ _;refine Ak (fun v K=>K=H/\∃ k,v=Aa k/\inR r c k=true) ?_ ?_
 . refine Qj (x:=cR n 4) (y:=cR n 124) x.s x.og x.R.G rfl (fun Q E h=>?_) (fun Q E h=>?_) fun k hk=>⟨rfl,k,rfl,hk⟩
   . exact ⟨by decide,h⟩
   . exact ⟨by decide,h⟩
 intro v K zz;obtain ⟨e,k,rfl,hk⟩:=zz;refine rwl e ?_;clear e K;refine Ak (fun v K=>v=ov (hgt g k)/\K=H) (Jr x.R.G rfl rfl hk (Fj x.og hk) ⟨rfl,rfl⟩) ?_;rintro v K ⟨rfl,e⟩;refine rwl e ?_;clear e K;have isz:∀ {z:Int} {Q:Val->Hp->Prop} {E:Nat->Hp->Prop},Q (.bool (decide (dO n 4=z))) H->wpE T_14 (Ag T_14 (d+4)) (.cmp .eq (.bin .mod (.var 3) (.int 4)) (.int z)) [some (.loc o),some (.loc l),some (.loc m),some (.int n),some (Aa k),some (ov (hgt g k)),none] H Q E:=fun h=>⟨by decide,h⟩;have isin:Cu .isin (Aa k) (.loc m) H=some (decide (k∈ks)):=Lm x.R.lst;rw [Ah,Ba,Cy];refine isz ?_;refine By (fun e0=>?_) fun e0=>?_
 . skip;cases hh:hgt g k with
   | some z =>rw [hh] at isz;exact x.open rfl rfl rfl hh fun K ks' h kp=>⟨g,ks',h,kp⟩
   | none =>rw [hh] at isz;show wpSs T_14 (Ag T_14 (d+4)) (.cons (.ite _ _ _) .nil) [some (.loc o),some (.loc l),some (.loc m),some (.int n),some (Aa k),some .none,none] H _ _ _;rw [Ah,Ba,Cy];refine isz ?_;rw [Ab,Bc (mM (cU (gW e0) (by decide:(0:Int) < (1:Int)))),Ab,Bx];rw [Ah,Ba];refine isz ?_;rw [Ab,Bc (mM (cU (gW e0) (by decide:(0:Int) < (2:Int))))];exact ⟨g,ks,x,Kp.ext (Ext.refl _)⟩
 rw [Ab,Bx,Ah,Ba,Cy];refine isz ?_;have third:wpSs T_14 (Ag T_14 (d+4)) zT2 [some (.loc o),some (.loc l),some (.loc m),some (.int n),some (Aa k),some (ov (hgt g k)),none] H (fun _ K=>∃ g' ks',Wd B C K g' ks' l m o/\Kp (C<=·) H K) (fun _ K=>∃ g' ks',Wd B C K g' ks' l m o/\Kp (C<=·) H K) (fun c _ H'=>NoE c H'):=by rw [Ah,Ba];refine isz ?_;exact By (fun _=>x.raise hk fun K g' ks' Γ h kp=>⟨g',ks',h,kp⟩) fun _=>⟨g,ks,x,Kp.ext (Ext.refl _)⟩
 refine By (fun e1=>?_) fun e1=>third;show De (Cu .isin (Aa k) (.loc m) H) _;refine rwl isin ?_;refine By (fun e=>?_) fun _=>third;refine Dp (fun K=>Kp (Out B C) H K/\Ld B C K o g (ks.erase k)) ?_ ?_
 . show Wp (C8 T_14 (.loc o) 12) H _ _;refine rwl (x.L.umeth (show T_14.meth 7 12=some 36 from rfl)) ?_;exact x.L.shut (d:=d) hk e
 rintro K ⟨kp,L⟩;have R:=x.R.kp x.og kp.below;have bc:=L.le;show De (Db .remove (.loc m) K) _;rw [Bj (show Db .remove (.loc m) K=some () from if_pos (Gc R.lst))];exact Pa R.lst e ⟨g,_,x.gone x.og (fun _ _=>rfl) R L (aC x.cl kp.len),kp.above.trans (Kp.lo (aA R.mB bc) _)⟩
end
noncomputable def ev:Option Key->Val
 | some k=>Aa k
 | none=>.none
noncomputable def rz(z:Option Key)(q:Key):Val:=.tup [Aa q,.int (if some q=z then 1 else 0)]
noncomputable def rzd(z:Option Key)(q:Key):jH:=.tuple [.tuple [.int q.1,.int q.2],.int (if some q=z then 1 else 0)]
section
variable{Γ:Env'}{H K:Hp}{d:Nat}{R:Val->Hp->Prop}{B C o l m b s:Nat}{g:List (List Val)}{ks:List Key}{k:Key}{v x:Val}{F:Key->Option Int}{gs:List (Key × Val)}{z:Option Key}
theorem Ends.uniq{z':Option Key}(fd:Fld g D F gs)(x:Ends g D F gs k z)(y:Ends g D F gs k z'):z=z':=by
 cases hf:F k with
 | none=>exact rwl (x.no hf) (rwl (y.no hf) rfl)
 | some f =>obtain ⟨ws,w⟩:=fd.way hf;exact rwl ((x.yes ws w).1) (rwl ((y.yes ws w).1) rfl)
theorem Ajj(q:Key):Cu .eq (Aa q) (ev z) K=some (decide (some q=z)):=by
 cases z with
 | none=>rfl
 | some t =>
  refine (show Cu .eq (Aa q) (Aa t) K=some (decide (q=t)) from Qh (H:=K) q t).trans ?_;by_cases e:q=t
  . exact rwl (decide_eq_true e) (rwl (decide_eq_true (congrArg some e)) rfl)
  . exact rwl (decide_eq_false e) (rwl (decide_eq_false fun h=>e (aO h)) rfl)
theorem Ahl(qs:List Key):jU (qs.map (rzd z)) (qs.map (rzd z))=true:=Ka _ fun d hd=>by
 refine ex1 (cC.mp hd) fun p zz=>Ad zz fun _ hr0=>?_
 refine rwr hr0 ?_
 show ((p.1 == p.1 && (p.2 == p.2 && true)) && (((if some p=z then 1 else 0):Int) == (if some p=z then 1 else 0) && true))=true
 simp
theorem Ae4{qs:List Key}(h:H[a]?=some (.list (qs.map (rz z))))(h':H[a']?=some (.list (qs.map (rz z)))):Ga H (.tup [.loc a,.int n]) (.tup [.loc a',.int n])=some true:=by
 have two:∀ {x:Nat},H[x]?=some (.list (qs.map (rz z)))->A0 H Ej (.tup [.loc x,.int n])=some (.tuple [.list (qs.map (rzd z)),.int n]):=fun {x} e=>by
  show (match A0 H 5 (.loc x),(some [PyData.int n]:Option (List jH)) with
   | some d,some ds=>some (d :: ds)
   | _,_=>none).map hY=_
  refine rwl (I5 e) (rwl (Hv (gd:=rzd z) qs (fun _ _=>rfl)) ?_);rfl
 unfold Ga;refine rwl (two h) (rwl (two h') ?_);show some (jU (qs.map (rzd z)) (qs.map (rzd z)) && ((n == n) && true))=some true;rw [Ahl];simp
theorem Ajk(d:∀ k∈ks,∃ a,hgt g k=some a):((Dk r c ks).map fun v=>Val.tup [v,.int (((C1 v).bind (amF (Dk r c ks) z)).getD 0)])=(Da r c fun k=>k∈ks).map (rz z):=by
 show ((Da r c fun k=>k∈ks).map Aa).map _=_;refine rwl iA ?_;refine pR fun q hq=>?_;show Val.tup [Aa q,.int ((amF (Dk r c ks) z q).getD 0)]=rz z q;have:amF (Dk r c ks) z q=some (if z=some q then 1 else 0):=if_pos (cC.mpr ⟨q,hq,rfl⟩);refine rwl this ?_;unfold rz;by_cases e:z=some q
 . refine rwl (if_pos e) (rwl (if_pos e.symm) ?_);rfl
 . refine rwl (if_neg e) (rwl (if_neg fun h=>e h.symm) ?_);rfl
theorem Wd.runs(x:Wd B C H g ks l m o)(hk:inR r c k=true)(fd:Fld g (Dk r c ks) F gs)(ez:Ends g (Dk r c ks) F gs k z):Wp (Ag T_14 (d+7) 40 [.loc o,.loc m,Aa k,ev z]) H (fun v K=>v=.bool true/\Ext H K) NoE:=by
 have lid':lid=16777216:=rfl;have few:=x.few;have ml:=x.la.mem.2;refine rwl (Aq (g:=Abj) rfl rfl) ?_;refine Ak (fun v K=>∃ a,v=.tup [.loc a,.int (if z=none then 1 else 0)]/\Ext H K/\K[a]?=some (.list ((Da r c fun k=>k∈ks).map (rz z)))) ?_ ?_
 . skip;refine Rq (fun v=>.tup [v,.int (if C1 v=z then 1 else 0)]) (P:=fun v K=>v=.loc H.length/\K=H++[.list (Dk r c ks)]) ?_ ?_
   . skip;exact Ln (Ro x.R.lst) x.sort ⟨rfl,rfl⟩
   . rintro v K ⟨hr0,e⟩;refine rwl hr0 ?_;have gm:K[H.length]?=some (.list (Dk r c ks)):=by refine rwl e ?_;exact Ao _ _
     refine ⟨_,_,Bs gm,Bz gm,by exact aA (aB ml (by decide:1000 < 16777216)) (aD lid'.symm),fun v hv=>?_,?_⟩
     . obtain ⟨q,hr1⟩:=x.la.mem.1 v hv;refine rwl hr1 ?_;rw [Gl];refine rwl (wcv (v:=Aa q) rfl) ?_;rw [Am,Fs,Am,Au];refine rwl (wvr (v:=Aa q) rfl) (rwl (wvr (v:=ev z) rfl) ?_);rw [Ajj,Bi];refine ⟨?_,rfl⟩;show Val.tup [Aa q,.int (if decide (some q=z)=true then 1 else 0)]=.tup [Aa q,.int (if some q=z then 1 else 0)];by_cases e:some q=z
       . exact rwl (decide_eq_true e) (rwl (if_pos rfl) (rwl (if_pos e) rfl))
       . exact rwl (decide_eq_false e) (rwl (if_neg (by decide)) (rwl (if_neg e) rfl))
     . skip;refine ⟨K.length,?_,by refine rwl e ?_;exact (Ext.new (Ext.new (Ext.refl _) _) _),?_⟩
       . cases z <;> rfl
       . rw [Ao];show some (HObj.list (((Da r c fun k=>k∈ks).map Aa).map _))=_;refine rwl iA ?_;rfl
 intro v K zz;refine ex1 zz fun a zz=>Ap zz fun zr1 ex ga=>?_;subst zr1;have x1:=(x.ext ex).la.ext (Ext.new (Ext.refl K) (.list [rvk k]));refine (x1.runoff (d:=d) hk (Ao _ _) x.la.mem.1 x.la.mem.2).then ?_;intro v K2 zz;obtain ⟨F',gs',m',z',fd',ez',e2,gm⟩:=zz;have un:=fd'.uniq fd;rw [un.1,un.2] at ez';have ezz:=Ends.uniq fd ez' ez;rw [ezz,Ajk x.d] at gm;refine rwl ezz ?_;have e3:=(Ext.new (Ext.refl K) (.list [rvk k])).trans e2;show De (Cu .eq (.tup [.loc m',.int (if z=none then 1 else 0)]) (.tup [.loc a,.int (if z=none then 1 else 0)]) K2) _;refine rwl (show Cu .eq (.tup [.loc m',.int (if z=none then 1 else 0)]) (.tup [.loc a,.int (if z=none then 1 else 0)]) K2=some true from Ae4 gm (e3.get ga)) ?_;exact ⟨rfl,ex.trans e3⟩
structure Hld(h:Key->Option Int)(ks zs:List Key)(lv:Option Int):Prop where
 no:∀ q∈zs,¬q∈ks
 low:∀ q∈zs,∃ a,h q=some a/\∀ L,lv=some L->a < L
 all:∀ q∈zs,∀ p,Adj q p->∀ b,h p=some b->(∀ L,lv=some L->b < L)->p∈zs
theorem Wd.holds(x:Wd B C H g ks l m o)(hl:H[lf]?=some (.list (zs.map Aa)))(hk:k∈zs)(hz:Hld (hgt g) ks zs lv):Wp (Ag T_14 (d+2) 39 [.loc l,.loc m,.loc lf,Aa k,ov lv]) H (fun v K=>v=.bool true/\Ext H K) NoE:=by
 refine rwl (Aq (g:=Abi) rfl rfl) ?_;show wpSs T_14 (Ag T_14 (d+1)) _ [some (.loc l),some (.loc m),some (.loc lf),some (Aa k),some (ov lv),none,none] H _ _ _;refine B5 (fun K=>K=H) ?_ ?_
 . rw [Ea,Cj,B7];refine rwl (wvr (v:=.loc lf) rfl) (rwl (Kz _ _ hl) ?_);rw [Ab];rw [Ab];rw [Au];refine rwl (wvr (v:=Aa k) rfl) (rwl (wvr (v:=.loc lf) rfl) (rwl (Fi hl) (rwl (decide_eq_true hk) ?_)));exact ⟨rfl,rfl⟩
 intro K e;refine rwl e ?_;clear e K;refine Bu (fun Γ K=>Ext H K) ?_ fun Γ K e=>⟨rfl,e⟩;refine Gv (l:=lf) (xs:=zs.map Aa) (K0:=H) (fun n Γ K=>Ext H K/\∃ a b,Γ=[some (.loc l),some (.loc m),some (.loc lf),some (Aa k),some (ov lv),a,b]) ⟨rfl,rfl⟩ hl ⟨Ext.refl _,_,_,rfl⟩ (fun n Γ K h=>h.1.get hl) ?_ fun Γ K h=>h.1;intro n y Γ K hy zz;refine Ad zz fun ex zz=>ex2 zz fun a b zr3=>?_;subst zr3;refine ex1 (Ht hy) fun q zz=>Ad zz fun hq hr0=>?_;refine rwl hr0 ?_;have mq:=aH hq;have x':=x.ext ex;refine ex1 (hz.low q mq) fun a0 zz=>Ad zz fun ha la=>?_;refine ex2 (Co (Cz ha)) fun i j zz=>Ap zz fun eq hi hj=>?_;show wpSs T_14 (Ag T_14 (d+1)) _ [some (.loc l),some (.loc m),some (.loc lf),some (Aa k),some (ov lv),some (Aa q),b] K _ _ _;refine B5 (fun K'=>K'=K) ?_ ?_
 . rw [Ea,Au];refine rwl (wvr (v:=Aa q) rfl) (rwl (wvr (v:=.loc m) rfl) (rwl (Lm x'.R.lst) (rwl (decide_eq_false (hz.no q mq)) ?_)));rw [Bi,Ab];refine Jr x'.R.G rfl rfl (Cz ha) (Fj x.og (Cz ha)) ?_;refine rwl ha ?_;exact ⟨rfl,rfl⟩
 intro K1 e;refine rwl e ?_;clear e K1;refine B5 (fun K'=>K'=K) ?_ ?_
 . skip;cases lv with
   | none=>exact ⟨rfl,rfl⟩
   | some L =>refine Jr x'.R.G rfl rfl (Cz ha) (Fj x.og (Cz ha)) ?_;refine rwl ha (rwl (wvr (v:=.int L) rfl) ?_);show De (Cu .ge (.int a0) (.int L) K) _;rw [V4];refine rwl (decide_eq_false (mC.mpr (la L rfl))) ?_;exact ⟨rfl,rfl⟩
 intro K1 e;refine rwl e ?_;clear e K1;refine Bu (fun Γ K'=>Ext H K'/\∃ a b,Γ=[some (.loc l),some (.loc m),some (.loc lf),some (Aa k),some (ov lv),a,b]) ?_ fun Γ K h=>h;refine Dn ?_;rw [Ax];refine rwl (wcv (v:=.loc l) rfl) (rwl (wcv (v:=Aa q) rfl) (rwl A3 (rwl eq ?_)));refine (Hu (d:=d) x.s x.og x'.R.G hi hj).then ?_;intro v K1 zz;refine ex1 zz fun m' zz=>Cf zz fun zr1 hm' e1 gm=>?_;subst zr1;rw [Bj (Bs gm)];refine rwr eq ?_;refine B9 (fun n Γ K2=>Ext K1 K2/\∃ b,Γ=[some (.loc l),some (.loc m),some (.loc lf),some (Aa k),some (ov lv),some (Aa q),b]) ⟨Ext.refl _,_,rfl⟩ ?_ (fun n Γ K2 _ h=>Bz (h.1.get gm)) ?_
 . rintro Γ K2 ⟨e2,b,rfl⟩;exact ⟨(ex.trans e1).trans e2,_,_,rfl⟩
 rintro n' y' Γ K2 hy' ⟨e2,b',rfl⟩;refine ex1 (Ht hy') fun p zz=>Ad zz fun hp hr1=>?_;refine rwl hr1 ?_;obtain ⟨ap,hp⟩:=Nq.mp (aH hp);rw [<- eq] at ap;have x2:=x.ext ((ex.trans e1).trans e2);refine ⟨_,rfl,?_⟩;show wpSs T_14 (Ag T_14 (d+1)) _ [some (.loc l),some (.loc m),some (.loc lf),some (Aa k),some (ov lv),some (Aa q),some (Aa p)] K2 _ _ _;refine B5 (fun K'=>K'=K2) ?_ ?_
 . rw [Cy,Au];refine rwl (wvr (v:=Aa p) rfl) (rwl (wvr (v:=.loc lf) rfl) (rwl (Fi (((ex.trans e1).trans e2).get hl)) ?_));rw [Bi,Ab,Dw];refine By (fun _=>⟨rfl,rfl⟩) fun np=>?_;cases hh:hgt g p with
   | none=>exact absurd hh hp
   | some b0 =>
    cases lv with
    | none=>exact absurd (hz.all q mq p ap b0 hh fun L e=>nomatch e) np
    | some L =>refine Jr x2.R.G rfl rfl (Cz hh) (Fj x.og (Cz hh)) ?_;refine rwl hh (rwl (wvr (v:=.int L) rfl) ?_);show De (Cu .lt (.int b0) (.int L) K2) _;rw [Lx];refine rwl (decide_eq_false fun h=>np (hz.all q mq p ap b0 hh fun L' e=>aO e▸h)) ?_;exact ⟨rfl,rfl⟩
 intro K3 e;refine rwl e ?_;exact ⟨e2,_,rfl⟩
end
theorem Xb:∀ (zs:List Val) (n k:Nat) (x:Val),(Gb n zs)[k]?=some x->∃ z,zs[k]?=some z/\x=.tup [.int ((n+k:Nat):Int),z]:=by
 intro zs;induction zs with
 | nil=>intro n k x h;exact nomatch h
 | cons z zs ihh =>
  intro n k x h;cases k with
  | zero=>exact ⟨z,rfl,(aO h).symm⟩
  | succ k =>have q:=ihh (n+1) k x h;rw [kU] at q;exact q
theorem Xc:∀ (zs:List Val) (n:Nat),(Gb n zs).length=zs.length:=by
 intro zs;induction zs with
 | nil =>intro _;exact rfl
 | cons _ zs ihh =>intro n;exact congrArg (·+1) (ihh (n+1))
structure Nxt(F:Key->Option Int)(p q:Key):Prop where
 adj:Adj p q
 le:∃ fp fq,F p=some fp/\F q=some fq/\fq<=fp
section
theorem Way.nxt(x:Way h D F gs k ws):∀ {n:Nat} {p q:Key},ws[n]?=some p->ws[n+1]?=some q->Nxt F p q:=by
 induction x with
 | drain d e f=>intro n p q _ h2;cases n <;> exact nomatch h2
 | @step k p ws a fp nd e ad ha hp hk nk w ih =>
  intro n u v h1 h2;cases n with
  | zero =>cases h1;obtain ⟨⟨t,rfl⟩,_⟩:=w.endD;cases h2;exact ⟨ad.symm,_,_,hk,hp,Ae9 _ _⟩
  | succ n=>exact ih h1 h2
theorem Way.lastD(x:Way h D F gs k ws):∀ {n:Nat} {q:Key},ws[n]?=some q->D q->n+1=ws.length:=by
 induction x with
 | drain d e f =>
  intro n q h _;cases n with
  | zero=>rfl
  | succ n=>exact nomatch h
 | @step k p ws a fp nd e ad ha hp hk nk w ih =>
  intro n q h dq;cases n with
  | zero=>cases h;exact absurd dq nd
  | succ n=>exact rwl cM (rwl (ih h dq) rfl)
end
section
variable{T:Tab}{Φ:Funs}{Γ:Env'}{H K:Hp}{Q:Val->Hp->Prop}{E:Nat->Hp->Prop}{d:Nat}{QS:Env'->Hp->Prop}{R:Val->Hp->Prop}{ES:Nat->Env'->Hp->Prop}{B C o l m b s lf lt:Nat}{g:List (List Val)}{ks ws:List Key}{k:Key}{F:Key->Option Int}{gs:List (Key × Val)}
theorem Xd(I:Nat->Env'->Hp->Prop)(hit:wpE T Φ it Γ H (fun v H'=>v=.loc l/\H'=K0) NoE)(hl:K0[l]?=some (.list xs))(h0:I 0 Γ K0)(hx:∀ k Γ K,I k Γ K->K[l]?=some (.list xs))
 (hs:∀ k x Γ K,xs[k]?=some x->I k Γ K->wpSs T Φ body ((Γ.set i (some (.int (k:Int)))).set j (some x)) K (I (k+1)) R ES) (hd:∀ Γ K,I xs.length Γ K->QS Γ K):wpS T Φ (.eachEnum i j it body) Γ H QS R ES:=by
 refine Oh (A9 hit ?_);rintro v H' ⟨rfl,e⟩;refine rwl e ?_;rw [Bj (K7 hl)];refine B9 I h0 (fun Γ K h=>by rw [Xc] at h;exact hd Γ K h) (fun k Γ K _ h=>Bz (hx k Γ K h)) fun k x Γ K hx' h=>?_;refine ex1 (Xb _ _ _ _ hx') fun z zz=>Ad zz fun hz hr1=>?_;refine rwl hr1 ?_;rw [cN];exact ⟨_,rfl,hs k z Γ K hz h⟩
theorem Mo(hk:inR r c k=true):Afa (I2 F) k=some (ov (F k)):=by refine ex2 (Co hk) fun i j zz=>Ap zz fun hr0 hi hj=>?_;refine rwl hr0 ?_;show ((I2 F)[((i:Int)).toNat]?).bind (fun w=>w[((j:Int)).toNat]?)=_;rw [bC,bC];refine rwl (Lj hi) ?_;exact Abp hj
theorem Wd.step{n:Nat}(x:Wd B C K g ks l m o)(hf:K[lf]?=some (.list (ws.map Aa)))(G:GAt K lt b 1 (I2 F))(fd:Fld g (Dk r c ks) F gs)(w:WayG g (Dk r c ks) F gs k ws)(hq:ws[n]?=some q)
 (fin:∀ K' f,Ext K K'->F q=some f->QS [some (.loc l),some (.loc m),some (.loc lf),some (.loc lt),some (.int f),some (.int (n:Int)),some (Aa q),some (.int f)] K') :
 wpSs T_14 (Ag T_14 (d+1)) zT1
  [some (.loc l),some (.loc m),some (.loc lf),some (.loc lt),some (ov ((if n=0 then none else ws[n - 1]?).bind F)),some (.int (n:Int)),some (Aa q),x7] K QS R ES:=by
 have ln:=(aE.mp hq).1;obtain ⟨f,hF⟩:=w.all.2 q (aH hq);refine ex1 ((fd.lv.snd q f hF).hi) fun a zz=>Ad zz fun ha le=>?_;have inq:=Cz ha;refine B5 (fun K'=>Ext K K') ?_ ?_
 . have tail:∀ {K1:Hp},Ext K K1->wpE T_14 (Ag T_14 (d+1)) (.and (.cmp .isin (.var 6) (.var 1)) (.cmp .lt (.bin .add (.var 5) (.int 1)) (.bf .len (.cons (.var 2) .nil)))) [some (.loc l),some (.loc m),some (.loc lf),some (.loc lt),some (ov ((if n=0 then none else ws[n - 1]?).bind F)),some (.int (n:Int)),some (Aa q),x7] K1 (fun v K'=>v=.bool false/\Ext K K') NoE:=fun {K1} e=>by rw [Cy,Au];refine rwl (wvr (v:=Aa q) rfl) (rwl (wvr (v:=.loc m) rfl) (rwl (Lm (x.ext e).R.lst) ?_));refine By (fun dq=>?_) fun _=>⟨rfl,e⟩;have last:=w.lastD hq ((Rs x.d).mpr dq);rw [Au,Dd];refine rwl (wvr (v:=.int (n:Int)) rfl) ?_;rw [A7,Gm];refine rwl (wbf (v:=.loc lf) rfl) (rwl (As (e.get hf)) ?_);rw [aM,Lx];refine rwl (decide_eq_false (show ¬((n:Int)+1 < (ws.length:Int)) by exact last▸gJ _)) ?_;exact ⟨rfl,e⟩
   rw [Ea,Cy,Au];refine rwl (wvr (v:=.int (n:Int)) rfl) ?_;rw [A7,Ly,Ab];cases n with
   | zero=>exact tail (Ext.refl _)
   | succ n =>refine Ae fun G kG=>?_;obtain ⟨p,hp⟩:∃ p,ws[n]?=some p:=⟨_,aI (Ahr ln)⟩;have ad:=(w.nxt hp hq).adj;obtain ⟨f',hf'⟩:=w.all.2 p (aH hp);refine ex2 (Co (fd.inG hf')) fun i j zz=>Ap zz fun zr2 hi hj=>?_;subst zr2;refine kG ?_;refine rwl (decide_eq_true (show (0:Int) < ((n+1:Nat):Int) by exact Ah7)) ?_;rw [Bw,Au];refine rwl (wvr (v:=Aa q) rfl) ?_;rw [Ax];refine rwl (wcv (v:=.loc l) rfl) ?_;rw [Am,Bd];refine rwl (wvr (v:=.loc lf) rfl) ?_;rw [Dd];refine rwl (wvr (v:=.int ((n+1:Nat):Int)) rfl) ?_;rw [A7,Kw];refine rwl (show ((n+1:Nat):Int) - 1=(n:Int) by exact Aj5) ?_;refine Hs hf Mr (v:=Aa ((i:Int),(j:Int))) (by rw [bC];refine rwl aX (rwl hp ?_);rfl) ?_;refine (Hu (d:=d) x.s x.og x.R.G hi hj).then ?_;intro v K2 zz;refine ex1 zz fun m' zz=>Cf zz fun hr1 _ e2 g2=>?_;refine rwl hr1 ?_;refine rwl (Fi g2) ?_;rw [Bi];refine rwl (decide_eq_true (Nq.mpr ⟨ad,by rw [ha];exact fun c=>nomatch c⟩)) ?_;rw [Ab];exact tail e2
 intro K1 e1;refine Ak (fun v K'=>v=.int f/\K'=K1) (Jr (G.ext e1) rfl rfl inq (Mo inq) (by refine rwl hF ?_;exact ⟨rfl,rfl⟩)) ?_;rintro v K' ⟨rfl,e⟩;refine rwl e ?_;clear e K';refine B5 (fun K'=>K'=K1) ?_ ?_
 . rw [Ea,Cj,Ax];refine rwl (wcv (v:=.int f) rfl) (rwl A3 ?_);rw [Mi,Ab,Ab,Dw,Bw,Ea,Au];refine Jr (x.ext e1).R.G rfl rfl inq (Fj x.og inq) ?_;refine rwl ha (rwl (wvr (v:=.int f) rfl) ?_);show De (Cu .gt (.int a) (.int f) K1) _;rw [Ly];refine rwl (decide_eq_false (show ¬f < a by exact fun z=>gJ _ (cU le z))) ?_;rw [Ab,Bx,Cy,Au];refine rwl (wvr (v:=ov ((if n=0 then none else ws[n - 1]?).bind F)) rfl) (rwl Ef ?_);cases n with
   | zero=>exact ⟨rfl,rfl⟩
   | succ n =>refine Ae fun G kG=>?_;obtain ⟨p,hp⟩:∃ p,ws[n]?=some p:=⟨_,aI (Ahr ln)⟩;refine ex2 ((w.nxt hp hq).le) fun fp fq zz=>Ap zz fun h1 h2 l2=>?_;refine kG ?_;have ef:fq=f:=aO (h2.symm.trans hF);refine rwl (show (if n+1=0 then none else ws[n+1 - 1]?)=some p from hp) ?_;show De (Cu .isNot (ov (F p)) .none K1) _;refine rwl h1 ?_;show De (Cu .gt (.int f) (ov (F p)) K1) _;refine rwl h1 ?_;show De (Cu .gt (.int f) (.int fp) K1) _;rw [Ly];refine rwl (decide_eq_false (show ¬fp < f by exact fun z=>gJ _ (cU (cW (gW ef.symm) l2) z))) ?_;exact ⟨rfl,rfl⟩
 intro K' e;refine rwl e ?_;exact fin K1 f e1 hF
theorem Wd.isway(x:Wd B C H g ks l m o)(hf:H[lf]?=some (.list (ws.map Aa)))(G:GAt H lt b 1 (I2 F))(fd:Fld g (Dk r c ks) F gs)(w:WayG g (Dk r c ks) F gs k ws) :
 Wp (Ag T_14 (d+2) 38 [.loc l,.loc m,.loc lf,.loc lt]) H (fun v K=>v=.bool true/\Ext H K) NoE:=by
 refine Ad w.endD fun zn0 zz=>ex1 zz fun z zz=>Ad zz fun hz dz=>?_;obtain ⟨t,ht⟩:=zn0;obtain ⟨init,hw⟩:=oD.mp hz;refine rwl (Aq (g:=Abh) rfl rfl) ?_;show wpSs T_14 (Ag T_14 (d+1)) _ [some (.loc l),some (.loc m),some (.loc lf),some (.loc lt),none,none,none,none] H _ _ _;refine B5 (fun K=>K=H) ?_ ?_
 . rw [Ea,Cj,B7];refine rwl (wvr (v:=.loc lf) rfl) (rwl (Kz _ _ hf) ?_);rw [Ab,Ab];refine rwl fP ?_;rw [Bx,Ea,Au];refine rwl (wbf (v:=.loc lf) rfl) (rwl (As hf) ?_);rw [aM,A7,P8,Ab];refine rwl (decide_eq_false (show ¬((ws.length:Int)=0) by rw [ht,cM];exact Aj6)) ?_;rw [Bx,Au,Bd];refine rwl (wvr (v:=.loc lf) rfl) ?_;refine Qi (xs:=init.map Aa) (v:=Aa z) (by refine rwl hf (rwl hw (rwl cD ?_));rfl) ?_;refine rwl (wvr (v:=.loc m) rfl) (rwl (Fi x.R.lst) ?_);rw [Bi];refine rwl (decide_eq_true ((Rs x.d).mp dz)) ?_;exact ⟨rfl,rfl⟩
 intro K e;refine rwl e ?_;clear e K;refine Ak (fun v K=>v=.none/\K=H) ⟨rfl,rfl⟩ ?_;rintro v K ⟨rfl,e⟩;refine rwl e ?_;clear e K;obtain ⟨I,hI⟩:=Fe (fun (n:Nat) (Γ:Env') (K:Hp)=>Ext H K/\∃ a5 a6 a7,Γ=[some (.loc l),some (.loc m),some (.loc lf),some (.loc lt),some (ov ((if n=0 then none else ws[n - 1]?).bind F)),a5,a6,a7]);refine Bu (I ws.length) ?_ ?_
 . refine Xd I (l:=lf) (xs:=ws.map Aa) (K0:=H) ⟨rfl,rfl⟩ hf ((hI _ _ _).mpr ⟨Ext.refl _,_,_,_,rfl⟩) (fun n Γ K h=>((hI _ _ _).mp h).1.get hf) (fun n y Γ K hy h=>?_) (fun Γ K h=>by rw [aM] at h;exact h);refine Ad ((hI _ _ _).mp h) fun ex zz=>ex3 zz fun a5 a6 a7 zr4=>?_;subst zr4;refine ex1 (Ht hy) fun q zz=>Ad zz fun hq hr2=>?_;refine rwl hr2 ?_;refine (x.ext ex).step (ex.get hf) (G.ext ex) fd w hq fun K' f e' hF=>(hI _ _ _).mpr ⟨ex.trans e',some (.int (n:Int)),some (Aa q),some (.int f),?_⟩;refine rwl (if_neg (mV n)) ?_;rw [Nat.add_sub_cancel];refine rwl hq ?_;show _=[some (Val.loc l),some (.loc m),some (.loc lf),some (.loc lt),some (ov (F q)),some (.int (n:Int)),some (Aa q),some (.int f)];refine rwl hF ?_;rfl
 . intro Γ K h;exact ⟨rfl,((hI _ _ _).mp h).1⟩
end
section
variable{T:Tab}{Φ:Funs}{Γ:Env'}{H K:Hp}{Q:Val->Hp->Prop}{E:Nat->Hp->Prop}{d:Nat}{QS:Env'->Hp->Prop}{R:Val->Hp->Prop}{ES:Nat->Env'->Hp->Prop}{B C o l m b s lf lt:Nat}{g:List (List Val)}{ks ws:List Key}{k:Key}{F:Key->Option Int}{gs:List (Key × Val)}
theorem Abr(og:OkG r g)(h:hgt g k=some a):a<=1000000000:=by
 refine ex2 (Co (Cz h)) fun i j zz=>Ap zz fun zr2 hi hj=>?_;subst zr2;refine ex2 (Hg og hi hj) fun w x zz=>Ap zz fun hw hx hcase=>?_;rcases hcase with ⟨_,e⟩ | ⟨n,rfl,_,e⟩
 . rw [e] at h;exact nomatch h
 . rw [e] at h;refine rwr (aO h) ?_;rcases (og.row i w hw).2 _ (aH hx) with q | ⟨m,q,_,z⟩
   . exact nomatch q
   . cases q;exact z
theorem Rch.back(ha:h k=some a)(la:a < lev F k)(x:Rch (okH h F k) k q):∀ {f:Int},Rc h D q f->f < lev F k->∃ f',Rc h D k f'/\f' < lev F k:=by
 induction x with
 | start=>exact fun {f} rc lf=>⟨f,rc,lf⟩
 | @step p q x ad ok ih =>
  intro f rc lf;have hp:∃ b,h p=some b/\b < lev F k:=by
   cases x with
   | start=>exact ⟨a,ha,la⟩
   | step _ _ o=>exact o
  refine ex1 hp fun b zz=>Ad zz fun hb lb=>?_;refine ih (f:=mx b f) (.step rc ad.symm hb) ?_;unfold mx;by_cases q:f > b
  . refine rwl (if_pos q) ?_;exact lf
  . refine rwl (if_neg q) ?_;exact lb
theorem Fld.hld{a:Int}(og:OkG r g)(hd:∀ k∈ks,∃ a,hgt g k=some a)(fd:Fld g (Dk r c ks) F gs)(ha:hgt g k=some a)(la:a < lev F k):k∈held (hgt g) F k/\Hld (hgt g) ks (held (hgt g) F k) (F k):=by
 have mem:∀ {q:Key},q∈held (hgt g) F k↔q∈F9 r c/\Rch (okH (hgt g) F k) k q:=fun {q}=>by refine rwl (Rp ha (mC.mpr la)) ?_;exact Lp
 have low:∀ q,Rch (okH (hgt g) F k) k q->∃ b,hgt g q=some b/\b < lev F k:=fun q x=>by
  cases x with
  | start=>exact ⟨a,ha,la⟩
  | step _ _ o=>exact o
 have isl:∀ L,F k=some L->lev F k=L:=fun L e=>by unfold lev;refine rwl e ?_;rfl
 refine ⟨mem.mpr ⟨Ct.mpr (Cz ha),.start⟩,fun q hq dq=>?_,fun q hq=>?_,fun q hq p ad b hb lb=>?_⟩
 . have x:=(mem.mp hq).2;refine ex1 (low q x) fun b zz=>Ad zz fun hb lb=>?_;refine ex1 (x.back ha la (Rc.drain (D:=fun k=>Aa k∈Dk r c ks) ((Rs hd).mpr dq) hb) lb) fun f' zz=>Ad zz fun rc lf=>?_;refine ex1 (fd.lv.low k f' rc) fun f zz=>Ad zz fun e le=>?_;have:=isl f e;exact gJ _ (cU (cW (gW this) le) lf)
 . refine ex1 (low q (mem.mp hq).2) fun b zz=>Ad zz fun hb lb=>?_;exact ⟨b,hb,fun L e=>isl L e▸lb⟩
 . refine mem.mpr ⟨Ct.mpr (Cz hb),.step (mem.mp hq).2 ad ⟨b,hb,?_⟩⟩;cases e:F k with
   | some L=>refine rwl (isl L e) ?_;exact lb L e
   | none =>have:=Abr og hb;unfold lev;refine rwl e ?_;show b < 1000000001;exact Ako this
theorem items_list{xs:List Val}(h:H[l]?=some (.list xs)):Cm (.loc l) H=some xs:=by unfold Cm;simp only [h]
theorem Aaa{xs:List Val}(h:H[l]?=some (.list xs))(q:Q (.loc H.length) (H++[.list (xs.drop 1)])):Wp (Jm (.loc l) (.int 1) .none) H Q E:=by refine Wp.of_eq ?_ q;unfold Jm;refine rwl (items_list h) ?_;rfl
theorem eq_nil{a a':Nat}(h:H[a]?=some (.list []))(h':H[a']?=some (.list [])):Ga H (.loc a) (.loc a')=some true:=Nr (ks:=[]) h h'
theorem Wd.hb(x:Wd B C H g ks l m o)(hk:inR r c k=true)(fd:Fld g (Dk r c ks) F gs):Wp (Ag T_14 (d+6) 7 [.loc o,Aa k]) H (fun v K=>∃ m,v=.loc m/\Ext H K/\K[m]?=some (.list ((held (hgt g) F k).map Aa))) NoE:=by refine (x.la.hb (d:=d) hk fd).then ?_;intro v K zz;refine ex1 zz fun m zz=>Cf zz fun e _ ex gm=>?_;exact ⟨m,e,ex,gm⟩
theorem Wd.least(x:Wd B C H g ks l m o)(hk:inR r c k=true)(G:GAt H lt b 1 (I2 F))(fd:Fld g (Dk r c ks) F gs):Wp (Ag T_14 (d+8) 41 [.loc o,.loc l,.loc m,Aa k,.loc lt]) H (fun v K=>v=.bool true/\Ext H K) NoE:=by
 refine rwl (Aq (g:=Abk) rfl rfl) ?_;show wpSs T_14 (Ag T_14 (d+7)) _ [some (.loc o),some (.loc l),some (.loc m),some (Aa k),some (.loc lt),none,none,none] H _ _ _;refine Ak (fun v K=>v=ov (hgt g k)/\K=H) (Jr x.R.G rfl rfl hk (Fj x.og hk) ⟨rfl,rfl⟩) ?_;rintro v K ⟨rfl,e⟩;refine rwl e ?_;clear e K;refine Ak (fun v K=>v=ov (F k)/\K=H) (Jr G rfl rfl hk (Mo hk) ⟨rfl,rfl⟩) ?_;rintro v K ⟨rfl,e⟩;refine rwl e ?_;clear e K;cases ha:hgt g k with
 | none =>
  have hF:F k=none:=by
   cases hf:F k with
   | none=>rfl
   | some f =>refine ex1 ((fd.lv.snd k f hf).hi) fun a zz=>Ad zz fun e _=>?_;rw [ha] at e;exact nomatch e
  refine rwl hF ?_;refine Qa (fun K=>K=H) ⟨rfl,rfl⟩ ?_;intro K e;refine rwl e ?_;clear e K;show wpSs T_14 (Ag T_14 (d+7)) _ [some (.loc o),some (.loc l),some (.loc m),some (Aa k),some (.loc lt),some .none,some .none,none] H _ _ _;refine (x.hb (d:=d+1) hk fd).then ?_;intro v K zz;refine ex1 zz fun m' zz=>Ap zz fun zr1 ex gm=>?_;subst zr1;rw [O8 ha] at gm;rw [E4];refine rwl A3 ?_;refine rwl (show Cu .eq (.loc m') (.loc K.length) (K++[.list []])=some true from eq_nil ((Ext.new (Ext.refl K) _).get gm) (Ao _ _)) ?_;exact ⟨rfl,ex.new _⟩
 | some a =>
  refine B5 (fun K=>K=H) ⟨rfl,rfl⟩ ?_;intro K e;refine rwl e ?_;clear e K;have hold:∀ {K:Hp} {x7:Option Val} {Q:Val->Hp->Prop} {lx:ME},Ext H K->a < lev F k->(∀ {K:Hp} {Q:List Val->Hp->Prop} {E:Nat->Hp->Prop},Q [ov (F k)] K->wpEs T_14 (Ag T_14 (d+7)) (.cons lx .nil) [some (.loc o),some (.loc l),some (.loc m),some (Aa k),some (.loc lt),some (.int a),some (ov (F k)),x7] K Q E)->(∀ K',Ext H K'->Q (.bool true) K')->wpE T_14 (Ag T_14 (d+7)) (.call 39 (.cons (.var 1) (.cons (.var 2) (.cons (.call 7 (.cons (.var 0) (.cons (.var 3) .nil))) (.cons (.var 3) (.cons lx .nil)))))) [some (.loc o),some (.loc l),some (.loc m),some (Aa k),some (.loc lt),some (.int a),some (ov (F k)),x7] K Q NoE:=fun {K x7 Q lx} ex la hx q=>by obtain ⟨h1,h2⟩:=fd.hld x.og x.d ha la;refine ((x.ext ex).hb (d:=d+1) hk fd).then ?_;intro v K2 zz;refine ex1 zz fun m' zz=>Ap zz fun zr1 e2 gm=>?_;subst zr1;refine rwl (wcv (v:=Aa k) rfl) ?_;refine hx ?_;refine ((x.ext (ex.trans e2)).holds (d:=d+5) gm h1 h2).then ?_;rintro v K3 ⟨rfl,e3⟩;exact q K3 ((ex.trans e2).trans e3)
  cases hf:F k with
  | none =>
   have la:a < lev F k:=by have:=Abr x.og ha;unfold lev;refine rwl hf ?_;show a < 1000000001;exact Ako this
   rw [hf] at hold;refine Qa (fun K=>K=H) ⟨rfl,rfl⟩ ?_;intro K e;refine rwl e ?_;clear e K;refine B5 (fun K=>Ext H K) ?_ ?_
   . skip;refine (x.runs (d:=d) (z:=none) hk fd ⟨fun _=>rfl,fun ws w=>?_⟩).then ?_
     . obtain ⟨f,e⟩:=w.all.2 k (by obtain ⟨⟨t,hr6⟩,_⟩:=w.endD;refine rwl hr6 ?_;exact .head _);rw [hf] at e;exact nomatch e
     . rintro v K ⟨rfl,ex⟩;exact ⟨rfl,ex⟩
   intro K ex;refine hold ex la (fun {K Q E} q=>?_) fun K' e'=>⟨rfl,e'⟩;exact q
  | some f =>
   refine ex1 ((fd.lv.snd k f hf).hi) fun a' zz=>Ad zz fun ea le=>?_;have ea:a=a':=aO (ha.symm.trans ea);rw [hf] at hold;refine B5 (fun K=>K=H) ⟨rfl,rfl⟩ ?_;intro K e;refine rwl e ?_;clear e K;refine Ak (fun v K=>∃ lw ws,v=.loc lw/\WayG g (Dk r c ks) F gs k ws/\Ext H K/\K[lw]?=some (.list (ws.map Aa))) ?_ ?_
   . skip;refine (x.la.way (d:=d+1) hk).mono ?_ ?_
     . intro v K zz;obtain ⟨F',gs',ws,lw,fd',w,ex,hl,_⟩:=zz;have un:=fd'.uniq fd;rw [un.1,un.2] at w;exact ⟨lw,ws,rfl,w,ex,hl⟩
     . intro e K zz;obtain ⟨F',gs',fd',no,_⟩:=zz;rw [(fd'.uniq fd).1,hf] at no;exact nomatch no
   intro v K zz;refine ex2 zz fun lw ws zz=>Cf zz fun zr2 w ex hl=>?_;subst zr2;show wpSs T_14 (Ag T_14 (d+7)) _ [some (.loc o),some (.loc l),some (.loc m),some (Aa k),some (.loc lt),some (.int a),some (.int f),some (.loc lw)] K _ _ _;refine Ad w.endD fun zn0 zz=>ex1 zz fun z zz=>Ad zz fun hz dz=>?_;obtain ⟨t,ht⟩:=zn0;obtain ⟨init,hw⟩:=oD.mp hz;refine B5 (fun K'=>Ext K K') ?_ ?_
   . rw [Ea,Cj,Ax];refine rwl (wcv (v:=.int f) rfl) (rwl A3 ?_);rw [Mi,Ab,Ab,Dw,Bw,Ea,Au];refine rwl (wvr (v:=.int f) rfl) (rwl (wvr (v:=.int a) rfl) ?_);rw [Lx,Ab];refine rwl (decide_eq_false (show ¬f < a by exact fun z=>gJ _ (cU (cW (gW ea) le) z))) ?_;rw [Bx,Ea,Cj,Ax];refine rwl (wcv (v:=.loc l) rfl) (rwl (wcv (v:=.loc m) rfl) (rwl (wcv (v:=.loc lw) rfl) ?_));refine ((x.ext ex).isway (d:=d+5) hl (G.ext ex) fd w).then ?_;rintro v K2 ⟨rfl,e2⟩;refine Hs (e2.get hl) (by decide) (v:=Aa k) (by refine rwl ht ?_;rfl) ?_;refine rwl (wvr (v:=Aa k) rfl) ?_;rw [Aes];refine rwl (decide_eq_true rfl) ?_;exact ⟨rfl,e2⟩
   intro K1 e1;refine B5 (fun K'=>Ext K K') ?_ ?_
   . have fin:∀ {K2:Hp},Ext K K2->wpE T_14 (Ag T_14 (d+7)) (.not (.call 40 (.cons (.var 0) (.cons (.var 2) (.cons (.var 3) (.cons (.sub (.var 7) (.neg (.int 1))) .nil)))))) [some (.loc o),some (.loc l),some (.loc m),some (Aa k),some (.loc lt),some (.int a),some (.int f),some (.loc lw)] K2 (fun v K'=>v=.bool false/\Ext K K') NoE:=fun {K2} e=>by
      refine Qi (xs:=init.map Aa) (v:=Aa z) (by refine rwl (e.get hl) (rwl hw (rwl cD ?_));rfl) ?_;refine ((x.ext (ex.trans e)).runs (d:=d) (z:=some z) hk fd ⟨fun h=>(by rw [hf] at h;exact (nomatch h)),fun vs w'=>?_⟩).then ?_
      . refine rwr (w.uniq w') ?_;exact ⟨hz.symm,fun q e=>aO e▸dz⟩
      . rintro v K3 ⟨rfl,e3⟩;exact ⟨rfl,e.trans e3⟩
     have hl1:=e1.get hl;rw [Ea,Cy,Au];refine rwl (wbf (v:=.loc lw) rfl) (rwl (As hl1) ?_);rw [aM,A7,Ly,Ab];cases w with
     | drain _ _ _=>exact fin e1
     | @step _ p ts _ fp _ _ _ _ hp _ _ w' =>
      obtain ⟨⟨t2,ht2⟩,_⟩:=w'.endD;refine rwl (decide_eq_true (show (1:Int) < (((k :: ts).length:Nat):Int) by rw [ht2,cM,cM];exact Anr)) ?_;rw [Bw,Au,Ax];refine rwl (wcv (v:=.loc o) rfl) ?_;rw [Am,Bd];refine rwl (wvr (v:=.loc lw) rfl) ?_;rw [A7];refine Hs hl1 (by decide) (v:=Aa p) (by refine rwl ht2 ?_;rfl) ?_;refine ((x.ext (ex.trans e1)).la.way (d:=d+1) (fd.inG hp)).mono ?_ ?_
      . intro v K2 zz;obtain ⟨F',gs',vs,lv,fd',w2,e2,hv,_⟩:=zz;have un:=fd'.uniq fd;rw [un.1,un.2] at w2;rw [<- w'.uniq w2] at hv;refine Aaa (e2.get hl1) ?_;have e3:=Ext.new (Ext.refl K2) (.list (((k :: ts).map Aa).drop 1));show De (Tm true (Ga (K2++[.list (ts.map Aa)]) (.loc lv) (.loc K2.length))) _;refine rwl (show Ga (K2++[.list (ts.map Aa)]) (.loc lv) (.loc K2.length)=some true from Nr (e3.get hv) (Ao _ _)) ?_;exact fin ((e1.trans e2).new _)
      . intro e K2 zz;obtain ⟨F',gs',fd',no,_⟩:=zz;rw [(fd'.uniq fd).1,hp] at no;exact nomatch no
   intro K2 e2;refine By (fun _=>⟨rfl,ex.trans e2⟩) fun ne=>hold (ex.trans e2) ?_ (fun {K Q E} q=>?_) fun K' e'=>⟨rfl,e'⟩
   . unfold lev;refine rwl hf ?_;show a < f;exact Int.lt_iff_le_and_ne.mpr ⟨cW (gW ea) le,fun e=>ne e.symm⟩
   . skip;exact q
end
section
theorem Mp{n:Nat}(h0:Γ[0]?=some (some (.script ns)))(q:Q (.int (Ff ns n)) H):wpE T_14 (Ag T_14 (d+1)) (.call 8 (.cons (.var 0) (.cons (.int (n:Int)) .nil))) Γ H Q E:=by rw [Ax];refine rwl (wcv h0) ?_;rw [Am,A7];refine rwl A3 ?_;rw [G6];exact q
theorem Ahm(h:H[a]?=some (.list (qs.map Aa)))(h':H[a']?=some (.list [])):Cu .ne (.loc a) (.loc a') H=some (!decide (qs=[])):=by
 have e:∀ {x:Nat} {ps:List Key},H[x]?=some (.list (ps.map Aa))->A0 H Ej (.loc x)=some (.list (ps.map fun q=>hY [.int q.1,.int q.2])):=fun {x ps} h=>by show A0 H (5+1) (.loc x)=_;refine rwl (I5 h) (rwl (Hv ps fun k _=>rfl) ?_);rfl
 show Tm true (Ga H (.loc a) (.loc a'))=_;unfold Ga;refine rwl (e h) (rwl (e (ps:=[]) h') ?_);cases qs <;> rfl
theorem Aab{qs:List Key}(x:Wd B C H g ks l m o)(hn:H[mn]?=some (.list (qs.map Aa)))(hq:∀ q∈qs,∃ a,hgt g q=some a)(ql:qs.length<=1000)
 (kk:∀ K ks' a7,Wd B C K g ks' l m o->QS [some (.script ns),some (.loc l),some (.loc m),some (.loc o),some (.int z),some (Aa k),some (.loc mn),a7,none,none,none,none] K) :
 wpS T_14 (Ag T_14 (d+4)) (.ite (.and (.cmp .ne (.var 6) (.list .nil)) (.cmp .gt (.bin .mod (.bin .fdiv (.call 8 (.cons (.var 0) (.cons (.int 1) .nil))) (.int 20)) (.int 3)) (.int 0))) zT7 .nil) [some (.script ns),some (.loc l),some (.loc m),some (.loc o),some (.int z),some (Aa k),some (.loc mn),none,none,none,none,none] H QS R ES:=by
 have e0:Ext H (H++[.list []]):=⟨_,rfl⟩;have x:=x.ext e0;have hn:=e0.get hn;rw [Ba,Cy,Au];refine rwl (wvr (v:=.loc mn) rfl) ?_;rw [E4];refine rwl A3 (rwl (Ahm hn (Ao _ _)) ?_);rw [Bi,Ab,Dw];generalize H++[HObj.list []]=H1 at *
 refine By (fun _=>kk _ _ _ x) fun ne=>?_;have pos:0 < qs.length:=List.length_pos_iff.mpr ne;refine Mp (n:=1) rfl ?_;refine ⟨by decide,?_⟩;refine ⟨by decide,?_⟩;refine By (fun _=>?_) fun _=>kk _ _ _ x;refine Ak (fun v K=>K=H1/\∃ q a,v=Aa q/\hgt g q=some a) ?_ ?_
 . skip;refine Mp (n:=1) rfl ?_;rw [A7,Gn];refine ⟨by decide,?_⟩;refine rwl (wbf (v:=.loc mn) rfl) (rwl (As hn) ?_);rw [aM];refine ⟨by exact fun h=>dW pos (qU.mp h),?_⟩;obtain ⟨j,hj,lj⟩:=Cd (cR (Ff ns 1) 60) qs.length pos;refine rwl hj ?_;rw [Fs,Am,Au];refine Mp (n:=1) rfl ?_;refine ⟨by decide,?_⟩;refine ⟨by rw [Gq (aJ (aR (aA lj ql) (by decide:1000 < 16777216)))];rfl,?_⟩;have fin:∀ t:Nat,t < qs.length->Wp (Dh (.loc mn) (.int (t:Int))) H1 (fun v K=>K=H1/\∃ q a,v=Aa q/\hgt g q=some a) NoE:=fun t ht=>by have hx:qs[t]?=some qs[t]:=aI ht;obtain ⟨a,ha⟩:=hq _ (kF ht);refine rwl (Et hn (k:=t) (v:=Aa qs[t]) (by rw [aX,hx];rfl)) ?_;exact ⟨rfl,_,a,rfl,ha⟩
   by_cases q:decide (dO (Ff ns 1) 5 < 4)=true
   . refine rwl (if_pos q) ?_;rw [Int.mul_one];exact fin j lj
   . refine rwl (if_neg q) ?_;exact fin 0 pos
 intro v K zz;obtain ⟨e,q,a,rfl,ha⟩:=zz;refine rwl e ?_;exact x.open rfl rfl rfl ha fun K ks' h _=>kk K ks' _ h
theorem Qk(x:Wd B C H g ks l m o)(hl:ns.length<=63)
 (kk:∀ K g' ks' a8,Wd B C K g' ks' l m o->QS [some (.script ns),some (.loc l),some (.loc m),some (.loc o),some (.int z),x5,x6,x7,a8,none,none,none] K) :
 wpS T_14 (Ag T_14 (d+5)) (.each 8 (.slice (.var 0) (.some (.bin .sub (.bf .len (.cons (.var 0) .nil)) (.bin .mod (.bin .fdiv (.call 8 (.cons (.var 0) (.cons (.int 1) .nil))) (.int 4)) (.int 5)))) .none) zT19) [some (.script ns),some (.loc l),some (.loc m),some (.loc o),some (.int z),x5,x6,x7,none,none,none,none] H QS R ES:=by
 refine Dn ?_;rw [Ir];refine rwl (wvr (v:=.script ns) rfl) ?_;rw [Be,Dd];refine rwl (wbf (v:=.script ns) rfl) ?_;rw [Cc];refine Mp (d:=d+4) (n:=1) rfl ?_;rw [A7,Gn];refine ⟨by decide,?_⟩;rw [A7,Ky];refine ⟨by decide,?_⟩;rw [Kw];refine rwl J4 ?_;obtain ⟨zs,sl,hz⟩:∃ zs,Jm (.script ns) (.int ((ns.length:Int) - dO (cR (Ff ns 1) 4) 5)) .none H=.ok (.loc H.length) (H++[.list zs])/\∀ v∈zs,∃ n,v=.int n:=by refine ⟨_,rfl,fun v hv=>?_⟩;refine ex1 (cC.mp ((qF _ _).subset hv)) fun n zz=>Ad zz fun _ e=>?_;exact ⟨n,e.symm⟩
 refine Wp.of_eq sl ?_;have e0:Ext H (H++[.list zs]):=⟨_,rfl⟩;have gz:=Ao H (.list zs);have cl:=x.cl;have x:=x.ext e0;rw [Bj (Bs gz)];clear sl;refine B9 (fun n Γ K=>K[H.length]?=some (.list zs)/\(∃ g' ks',Wd B C K g' ks' l m o)/\∃ a8,Γ=[some (.script ns),some (.loc l),some (.loc m),some (.loc o),some (.int z),x5,x6,x7,a8,none,none,none]) ⟨gz,⟨g,ks,x⟩,_,rfl⟩ ?_ (fun n Γ K _ h=>Bz h.1) ?_
 . intro Γ K zz;refine Ap zz fun _ zn1 zz=>ex1 zz fun a8 zr3=>?_;obtain ⟨g',ks',x'⟩:=zn1;subst zr3;exact kk K g' ks' a8 x'
 . intro n v Γ K hv zz;refine Ap zz fun gz zn1 zz=>ex1 zz fun a8 zr3=>?_;obtain ⟨g',ks',x'⟩:=zn1;subst zr3;obtain ⟨n,hr2⟩:=hz v (aH hv);refine rwl hr2 ?_;refine ⟨_,rfl,?_⟩;refine Dp (fun K'=>K'[H.length]?=some (.list zs)/\∃ g' ks',Wd B C K' g' ks' l m o) ?_ fun K' h=>⟨h.1,h.2,_,rfl⟩;rw [Ax];refine rwl (wcv (v:=.loc o) rfl) (rwl (wcv (v:=.loc l) rfl) (rwl (wcv (v:=.loc m) rfl) (rwl (wcv (v:=.int n) rfl) ?_)));refine (x'.change (d:=d)).then ?_;intro v K' zz;refine ex2 zz fun g2 ks2 zz=>Ad zz fun x2 kp=>?_;exact ⟨kp.get _ _ cl gz,g2,ks2,x2⟩
theorem Xe(hr:r<=30)(G:GAt H lt b 1 (I2 F))(h1:H[l]?=some (.list w))(hw:w[0]?=some (.loc s))(hs:H[s]?=some (.list w'))(lw:w'.length=c)
 (kk:∀ a,QS [some (.script ns),some (.loc l),some (.loc m),some (.loc o),x4,x5,x6,x7,x8,some (.loc lt),a,none] H) :
 wpS T Φ (.each 10 (.var 9) zT13) [some (.script ns),some (.loc l),some (.loc m),some (.loc o),x4,x5,x6,x7,x8,some (.loc lt),none,none] H QS R ES:=by
 refine Gv (l:=lt) (K0:=H) (fun n Γ K=>K=H/\∃ a,Γ=[some (.script ns),some (.loc l),some (.loc m),some (.loc o),x4,x5,x6,x7,x8,some (.loc lt),a,none]) (by refine rwl (wvr (v:=.loc lt) rfl) ?_;exact ⟨rfl,rfl⟩) G.top ⟨rfl,_,rfl⟩ (fun n Γ K h=>h.1▸G.top) ?_ fun Γ K h=>?_
 . rintro n y Γ K hy ⟨e,a,rfl⟩;refine rwl e ?_;rw [aX] at hy;cases hn:(bT (I2 F).length)[n]? with
   | none=>rw [hn] at hy;exact nomatch hy
   | some i =>
    rw [hn] at hy;have ey:.loc (b+1 * i)=y:=aO hy;have li:i < r:=by have:=eV.mp (aH hn);rw [Ll] at this;exact this
    have hi:=G.row i _ (Lj li);refine rwr ey ?_;refine B5 (fun K=>K=H) ?_ ?_
    . rw [Ea,Cj,B7];refine rwl (wvr (v:=.loc (b+1 * i)) rfl) (rwl (Kz _ _ hi) ?_);rw [Ab,Ab];refine rwl fP ?_;rw [Bx,Au];refine rwl (wbf (v:=.loc (b+1 * i)) rfl) (rwl (As hi) ?_);rw [aM];refine rwl bV ?_;rw [Fs,Am,Bd];refine Hs h1 (by decide) (v:=.loc s) hw ?_;refine rwl A3 (rwl (As hs) (rwl lw ?_));rw [Oi];refine rwl (decide_eq_true rfl) ?_;exact ⟨rfl,rfl⟩
    . intro K e;refine rwl e ?_;exact ⟨rfl,_,rfl⟩
 . refine Ad h fun e zz=>ex1 zz fun a zr2=>?_;subst zr2;refine rwl e ?_;exact kk a
theorem Xf{x4 x5 x6 x7 x8 x10:Option Val}(x:Wd B C H g ks l m o)(G:GAt H lt b 1 (I2 F))(fd:Fld g (Dk r c ks) F gs)
 (kk:∀ K a4 a8 a11,Ext H K->QS [some (.script ns),some (.loc l),some (.loc m),some (.loc o),a4,x5,x6,x7,a8,some (.loc lt),x10,a11] K) :
 wpS T_14 (Ag T_14 (d+8)) (.each 11 (.tup (.cons (.int 0) (.cons (.int 3) .nil))) zT4) [some (.script ns),some (.loc l),some (.loc m),some (.loc o),x4,x5,x6,x7,x8,some (.loc lt),x10,none] H QS R ES:=by
 refine Dn ?_;refine B9 (fun n Γ K=>Ext H K/\∃ a4 a8 a11,Γ=[some (.script ns),some (.loc l),some (.loc m),some (.loc o),a4,x5,x6,x7,a8,some (.loc lt),x10,a11]) ⟨Ext.refl _,_,_,_,rfl⟩ ?_ (fun _ _ _ _ _=>rfl) ?_
 . intro Γ K zz;obtain ⟨ex,a4,a8,a11,rfl⟩:=zz;exact kk K a4 a8 a11 ex
 . rintro n y Γ K hy ⟨ex,a4,a8,a11,hr1⟩;refine rwl hr1 ?_;have iz:∀ v∈[Val.int 0,Val.int 3],∃ z,v=.int z:=fc ⟨_,rfl⟩ (fc ⟨_,rfl⟩ fcn);obtain ⟨t,rfl⟩:=iz y (aH hy);have x':=x.ext ex;refine ⟨_,rfl,?_⟩;refine Ak (fun v K'=>K'=K/\∃ n,v=.int n) ?_ ?_
   . skip;refine Mp (d:=d+7) (n:=2) rfl ?_;rw [A7,Gn];refine ⟨by decide,?_⟩;rw [Dd,A7];refine rwl (wvr (v:=.int t) rfl) ?_;exact ⟨rfl,rfl,_,rfl⟩
   rintro v K' ⟨e,n',rfl⟩;refine rwl e ?_;clear e K';refine Ak (fun v K'=>K'=K/\∃ q,v=Aa q/\inR r c q=true) ?_ ?_
   . refine Qj (x:=n') (y:=cR n' 31) x.s x.og x'.R.G rfl (fun Q E h=>?_) (fun Q E h=>?_) fun k hk=>⟨rfl,k,rfl,hk⟩
     . skip;exact h
     . skip;exact ⟨by decide,h⟩
   intro v K' zz;obtain ⟨e,q,rfl,hq⟩:=zz;refine rwl e ?_;clear e K';refine B5 (fun K'=>Ext K K') ?_ fun K' e=>⟨ex.trans e,_,_,_,rfl⟩;rw [Cj,Ax];refine rwl (wcv (v:=.loc o) rfl) (rwl (wcv (v:=.loc l) rfl) (rwl (wcv (v:=.loc m) rfl) (rwl (wcv (v:=Aa q) rfl) (rwl (wcv (v:=.loc lt) rfl) ?_))));refine (x'.least (d:=d) hq (G.ext ex) fd).then ?_;rintro v K' ⟨rfl,e⟩;exact ⟨rfl,e⟩
theorem Ae5(x:Wd B C H g ks l m o)(h1:Γ[1]?=some (some (.loc l)))(h2:Γ[2]?=some (some (.loc m)))(h3:Γ[3]?=some (some (.loc o))) :
 wpE T_14 (Ag T_14 (d+2)) (.and (.cmp .eq (.umeth (.var 3) 5 .nil) (.var 1)) (.cmp .eq (.umeth (.var 3) 4 .nil) (.bf .sorted (.cons (.var 2) .nil)))) Γ H (fun v _=>v=.bool true) E:=by
 refine Ae fun G kG=>?_;refine ex4 x.la.L fun lg b ls es zz=>Ad zz fun L _=>?_;refine kG ?_;rw [Cy,Au,Bt];refine rwl (wvr h3) (rwl (x.L.umeth (show T_14.meth 7 5=some 28 from rfl)) ?_);refine (Qc (d:=d+1) x.og x.s.2.1 L).then ?_;rintro v K1 ⟨rfl,e1,G1⟩;have x1:=x.ext e1;refine rwl (wvr h1) (rwl (show Cu .eq (.loc (H.length+r)) (.loc l) K1=some true from Z2 G1 x1.R.G x.og.nv) ?_);rw [Bi,Ab];refine x1.la.asks h3 fun m' K2 _ e2 gm=>?_;have x2:=x1.ext e2;refine rwl (wbf h2) ?_;refine Ln (Ro x2.R.lst) x2.sort ?_;refine rwl (show Cu .eq (.loc m') (.loc K2.length) (K2++[.list (Dk r c ks)])=some true from Nr (ks:=Da r c fun k=>k∈ks) ((Ext.new (Ext.refl K2) _).get gm) (Ao _ _)) ?_;rfl
theorem Ae6:Mj (r,c):=by
 intro hS hrc ns hl hsz d H;have hrc:r * c<=132:=hrc;refine rwl (Aq (g:=Aa9) rfl rfl) ?_;refine Ak _ (Zu (d:=d+5) ns hS hsz) ?_;intro _ H1 zz;obtain ⟨g,l,rfl,og,G⟩:=zz;refine Ak _ (Qg (d:=d+6) ns hS og G) ?_;intro _ H2 zz;obtain ⟨m,n,e,rfl,b2,e2,hm⟩:=zz;have hks:∀ k∈(F9 r c).filter (I3 g n e),∃ a,hgt g k=some a:=fun k hk=>by
  have:=(fL.mp hk).2;unfold I3 at this;cases ha:hgt g k with
  | none=>rw [ha] at this;exact nomatch this
  | some a=>exact ⟨a,rfl⟩
 have kl:((F9 r c).filter (I3 g n e)).length<=132:=by have:=cV (I3 g n e) (F9 r c);rw [I0] at this;exact aC this hrc
 have nd:((F9 r c).filter (I3 g n e)).Nodup:=(Jl).sublist gY;refine Ak _ (Z9 (d:=d+3) hS og (G.ext e2) hm hks nd kl) ?_;intro _ H3 zz;obtain ⟨o,C,rfl,e3,L,cl⟩:=zz;have x:Wd H2.length C H3 g ((F9 r c).filter (I3 g n e)) l m o :=
  ⟨hS,hrc,og,⟨(G.ext e2).ext e3,e3.get hm,aA (A4 G.top) b2,fun i hi=>aA (A4 (G.row i _ (aI (by refine rwl og.len ?_;exact hi)))) b2,A4 hm⟩,L,nd,hks,cl⟩
 clear L hm G e3 cl hks kl nd;generalize (F9 r c).filter (I3 g n e)=ks at *
 generalize H2.length=B at *
 refine Ak (fun v K=>K=H3/\∃ z,v=.int z) ?_ ?_
 . skip;refine Mp (d:=d+7) (n:=2) rfl ?_;exact ⟨by decide,rfl,_,rfl⟩
 rintro _ K ⟨e',z,rfl⟩;refine rwl e' ?_;clear e' K;refine Ak (fun v K=>K=H3/\∃ k,v=Aa k/\inR r c k=true) ?_ ?_
 . refine Qj (x:=z) (y:=cR z 31) x.s x.og x.R.G rfl (fun Q E h=>h) (fun Q E h=>⟨by decide,h⟩) fun k hk=>⟨rfl,k,rfl,hk⟩
 intro _ K zz;obtain ⟨e',k,rfl,hk⟩:=zz;refine rwl e' ?_;clear e' K;refine Dp (fun K=>Ext H3 K) ?_ ?_
 . skip;exact x.la.asked (d:=d+1) hk
 intro H4 e4;have x:=x.ext e4;refine Ae fun G kG=>?_;obtain ⟨i,j,ek,hi,hj⟩:=Co hk;refine kG ?_;refine Ak _ (by rw [Ax];refine rwl (wcv (v:=.loc l) rfl) (rwl (wcv (v:=Aa k) rfl) (rwl A3 (rwl ek ?_)));exact Hu (d:=d+7) x.s x.og x.R.G hi hj) ?_;intro _ H5 zz;obtain ⟨mn,rfl,_,e5,hn⟩:=zz;have x:=x.ext e5;refine Bu (fun Γ K=>∃ ks' a7,Wd B C K g ks' l m o/\Γ=[some (.script ns),some (.loc l),some (.loc m),some (.loc o),some (.int z),some (Aa k),some (.loc mn),a7,none,none,none,none]) (Aab (d:=d+4) x hn (fun q hq=>?_) ?_ fun K ks' a7 h=>⟨ks',a7,h,rfl⟩) ?_
 . obtain ⟨_,h⟩:=Nq.mp hq;cases e:hgt g q with
   | none=>exact absurd e h
   | some a=>exact ⟨a,rfl⟩
 . have h1:=cV (fun q=>(hgt g q).isSome) (bes r c i j);have h2:=Qe r c i j;exact aJ (aB (aC h1 h2) (by decide:4 < 1000))
 clear x hn e4 e5;intro _ H6 zz;obtain ⟨ks,a7,x,rfl⟩:=zz;refine Bu (fun Γ K=>∃ g' ks' a8,Wd B C K g' ks' l m o/\Γ=[some (.script ns),some (.loc l),some (.loc m),some (.loc o),some (.int z),some (Aa k),some (.loc mn),a7,a8,none,none,none]) (Qk (d:=d+3) x hl fun K g' ks' a8 h=>⟨g',ks',a8,h,rfl⟩) ?_;clear x og;intro _ H7 zz;obtain ⟨g,ks,a8,x,rfl⟩:=zz;refine Ak _ (by skip;exact x.la.levels (d:=d+2)) ?_;intro _ H8 zz;obtain ⟨lt,b,F,gs,fd,e8,Gt⟩:=zz;have x:=x.ext e8;refine Ae fun G kG=>?_;obtain ⟨w,h1,h2,lw⟩:=W1 x.s x.og x.R.G;refine kG ?_;refine B5 (fun K=>K=H8) ?_ ?_
 . rw [Ea,Cj,B7];refine rwl (wvr (v:=.loc lt) rfl) (rwl (Kz _ _ Gt.top) ?_);rw [Ab,Ab];refine rwl fP ?_;rw [Bx,Au];refine rwl (wbf (v:=.loc lt) rfl) (rwl (As Gt.top) ?_);rw [aM];refine rwl bV ?_;rw [Ll];refine rwl (wbf (v:=.loc l) rfl) (rwl (As x.R.G.top) ?_);rw [aM];refine rwl bV (rwl x.og.len ?_);rw [Oi];refine rwl (decide_eq_true rfl) ?_;exact ⟨rfl,rfl⟩
 intro K e';refine rwl e' ?_;clear e' K;refine Bu (QS:=_) _ (Xe (w':=w) x.s.2.1 Gt x.R.G.top h1 h2 lw fun a=>?_) fun Γ K h=>h;refine Bu (QS:=_) _ (Xf (d:=d) x Gt fd fun K a4 a8 a11 ex=>?_) fun Γ K h=>h;exact Ae5 (d:=d+6) (x.ext ex) rfl rfl rfl
end
theorem law_14(ns:List Int)(hlen:ns.length<=63):∃ H',Ag T_14 20 22 [.script ns] []=.ok (.bool true) H':=by refine Ae fun G kG=>?_;refine ex2 (Zt (Ff ns 0)) fun r c zz=>Ad zz fun h hz=>?_;refine ex2 ((Ajd Ae6 (r,c) h.1 h.2 ns hlen hz 11 []).get) fun v H' zz=>Ad zz fun e zr3=>?_;subst zr3;refine kG ?_;exact ⟨H',e⟩
end Mine.Internal.Pure
namespace Mine.Internal
open PySem PySem.W PySem.Calls
noncomputable def headAll(t:Addr->Option Obj)(N:Names)(T:Tab)(cls:List Value)(attrs:List Str)(fns:List Addr)(nss:List (List Str)):Bool :=
 T3 t N T cls fns nss && L6 t N T attrs fns 0 cls && Mu N attrs && Qr t T cls && (t sysModules).isSome
noncomputable def fns_14:List Addr:=[28,35,40,47,139,146,280,299,318,325,332,339,346,351,358,363,368,408,186,285,292,311,415,158,165,172,193,205,210,231,238,245,252,259,266,306,200,375,382,389,394,401]
noncomputable def q_14:sB:=view dM [dM.main.body.length - 1]
noncomputable def loose_14:List Str:=(dM.main.scope.names.map (·.1)).filter (· != "law")
set_option maxRecDepth 100000
set_option maxHeartbeats 0
theorem left_14:LeftO dM q_14 loose_14 (fun s=>recOk [] s) (fun s=>headAll s.heap.get? N_14 T_14 [.ref 57,.ref 70,.ref 82,.ref 94,.ref 106,.ref 118,.ref 130,.ref 213,.ref 269,.type "ValueError"] ["rows","columns","grid","sinks","heap"] fns_14 V_14) (fun _=>true) 9000 true:=by refine Adz (M:=8000) (by kernel_rfl) (by kernel_rfl) (fun s=>by kernel_rfl) (by kernel_rfl) ?_;intro w os;refine rwl tH ?_;kernel_rfl
theorem said_14:kS.wellSaid=true:=by refine rwl tF ?_;kernel_rfl
noncomputable def Js:DefRec × List (Str × Expr):=(defOf q_14 "law").get (by kernel_rfl)
theorem hdef_14:defOf q_14 "law"=some (Js.1,Js.2):=by kernel_rfl
theorem hp_14:dM.theDef "law"=some (Js.1.params,Js.1.body,Js.1.scope):=by kernel_rfl
theorem hk_14:kwWritten? Js.1.params.kwonlyargs Js.1.params.kw_defaults=some Js.2:=by kernel_rfl
end Mine.Internal
open PySem PySem.W PySem.W.X PySem.W.ZRun PyProof.Rows
set_option maxRecDepth 100000 in
set_option maxHeartbeats 0 in
theorem PySem.Challenge.cw_uf020016_14_holds : PySem.Challenge.rw_uf020016_14.Holds := by
  refine holds_law Mine.Internal.said_14 fun Aaf => ?_
  refine holds_openX (q := Mine.Internal.q_14) (loose := Mine.Internal.loose_14) (Xt := fun s => recOk [] s) (XP := fun _ _ => True) (N := 9000) Mine.Internal.left_14 (fun _ _ => trivial) (fun _ _ _ h _ => h) Mine.Internal.hdef_14 Mine.Internal.hp_14 Mine.Internal.hk_14 (fun s e => recFacts_of e) rfl Aaf (by decide +kernel) ⟨rfl, rfl, rfl, rfl, rfl, by decide +kernel⟩ ?hw ?hc
  case hw => exact ⟨[.list []], by decide +kernel, by decide +kernel⟩
  intro w s₀ s₁ mg mb G y fa o pm cd doc dV kV ho hd hcd hD hmg hg args vals as L hpre hlay hrd hwl hlo
  refine Ground.open G ?_
  intro T B D TE TW
  wrow_args hpre hlay hrd hwl hlo
  have y' : Mine.Internal.headAll s₀.heap.get? Mine.Internal.N_14 Mine.Internal.T_14 [.ref 57, .ref 70, .ref 82, .ref 94, .ref 106, .ref 118, .ref 130, .ref 213, .ref 269, .type "ValueError"] ["rows", "columns", "grid", "sinks", "heap"] Mine.Internal.fns_14 Mine.Internal.V_14 = true := y
  unfold Mine.Internal.headAll at y'
  simp only [fR] at y'
  obtain ⟨⟨⟨⟨y1, y2⟩, y3⟩, yx⟩, y4⟩ := y'
  refine Mine.Internal.fin_all Mine.Internal.finish ⟨_, w, Mine.Internal.T_14, _, [.ref 57, .ref 70, .ref 82, .ref 94, .ref 106, .ref 118, .ref 130, .ref 213, .ref 269, .type "ValueError"], ["rows", "columns", "grid", "sinks", "heap"], Mine.Internal.fns_14⟩ Mine.Internal.N_14 s₀.heap.get? Mine.Internal.V_14 22 20 L.keeps T.g T.b T.builtins T.nolimit y1 y2 y3 yx y4 (script_obj L (by assumption)) (by assumption) (by omega) hmg rfl ⟨rfl, by decide, by decide⟩ (Mine.Internal.Pure.law_14 _ (by omega)) ?_
  intro s' hk ho' hg'
  exact ⟨.inl ⟨_, .bool true, [], rfl, raisesW_false (by wrow_none_raised), .bool true, by wrow_post, fun _ => ⟨lG, fun a ha => by cases ha⟩⟩, .of_keep hk, ho', .of_eq (hg'.trans hg)⟩
