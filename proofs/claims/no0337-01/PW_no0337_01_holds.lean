import PyProof.Rows.All
import Wide.All
import Wide.Tac
import OpenK.AllK
import Wide.FinOn
import Lean
import PySem.Challenge.RW_no0337_01
set_option Elab.async false
set_option maxRecDepth 100000
set_option maxHeartbeats 8000000
set_option linter.all false
set_option tactic.hygienic false
set_option genSizeOf false
set_option genInjectivity false
open _root_ renaming List->O,Nat->aa,Int->ae,Bool->aj,congrArg->av,Option->ax,Array->aB,absurd->aC,if_neg->aI,if_pos->aN,of_decide_eq_true->aP,decide_eq_true->aX,String->bc,Unit->bi,beq_iff_eq->bl,beq_self_eq_true->bC,if_false->bE,False->bM,beq_eq_false_iff_ne->bS,decide_eq_false->cn,True->cu,decide_eq_decide->d6,le_of_eq_of_le->eg,DecidableEq->eh,bne_self_eq_false->eE,if_true->eZ,decide_eq_true_eq->fy,LawfulBEq->fY,Decidable->gR,eq_comm->iw,ForInStep->i4,of_decide_eq_false->jk,decide_eq_true_iff->jD,DecidablePred->l9,bne_iff_ne->pC,decide_not->qa
open PySem renaming Value->af,Addr->ag,Shared->ai,wpAny->ak,Str->am,wpAny_bind->ao,Heap->aq,Expr->au,wpAny_pure->ay,Around->az,model->aA,Env->aD,Stmt->aF,Pos->aK,Obj->aL,Sem->aM,wpAny_mono->aO,Scope->aQ,intKind->aZ,World->a0,Program->a9,wpAny_holding->bd,Comprehension->bf,Tok->bk,codeAny->bo,Arg->bp,Builtin->bq,SetTable->bA,compareOp->bI,wpAny_field->bJ,mainGlobals->bV,DictEntry->bX,Model->ce,IsTupleKey->cj,IsPair->cq,CmpOp->ct,wpAny_call_entry->cz,IsPart->cC,Flow->cG,Data->cJ,NameKind->cL,FuncData->cY,holding->c7,IsZip->de,wpAny_newObj_type->dg,wpAny_standAt->dj,Result->dl,wpAny_setField->dn,Arguments->dp,wpAny_ite_split->dw,wpAny_seqItems->dB,ZipApart->dC,wpAny_loadName_local->dJ,wpAny_Name->dK,codeAny_mono->dO,wpAny_setState_of->dQ,Operator->dT,ClassData->dU,tupleKind->dW,wpAny_callSpecial?_slot->d3,wpAny_typeOf->d4,plainId_quiet->d8,wpAny_call->ee,builtinsNs->ei,wpAny_rule->ek,wpAny_attempt->eD,codeAny_builtin->eF,wpAny_items_cons->eG,Thread->eK,GenState->eP,Walks->eQ,wpAny_of_eq->eS,wpAny_loadPart_at->fk,OsState->fq,sysModules->ft,wpAny_newList->fx,wpAny_load->fI,ExceptHandler->fK,holding->fP,ItemsAre->fR,ItemsOf->f8,IsRangeIter->f9,call_meets->gc,Drawn->gf,typeLookup_type->gp,builtinLookup_eq_fast->gq,isSubtype_type->gv,Reads->gH,wpAny_isInstance->gK,wpAny_newTuple->gS,Slot->gU,codeAny_of_tree->g9,wpAny_askSetting->hF,wpAny_setField_rec->ib,wpAny_items_nil->ig,IsRange->iq,PyData->iu,wpAny_ite_true->iy,wpAny_updateSeq->iK,call_meetsIn->iN,wpAny_Constant_int->iO,wpAny_Constant_str->iP,operate->iQ,BoolOp->iR,wpAny_specialOf->iS,wpAny_mkText->iT,wpAny_pyIter_tuple->iY,wpAny_fieldsOf->jj,wpAny_execs_cons->jo,isTrue->jV,wpAny_letTemporaryGo->jW,codeAny_call_builtin->jZ,Keeper->j5,wpAny_pyIter_list->j7,wpAny_Return_some->j8,pushCells_keeps->j9,wpAny_onRaise->ki,wpAny_letGo->kj,isSubtype_stop->kq,wpAny_pyIter_zip->ku,entryFor_alias->kz,entryFor_of_tree->kE,strKind->kG,strKind_is->kH,wpAny_eqBool_int->kJ,wpAny_runValue->kR,Fin->kU,wpAny_loadPart->lc,wpAny_isSubtype_exc->li,wpAny_tupleItemsOf->lP,codeAny_extend_loopS->ml,wpAny_pyIter_range->mn,wpAny_list_append_plain->mz,meets_dict_get_default->mI,wpAny_loadName_free->mM,wpAny_Constant_none->mN,wpAny_storeName_local->mT,wpAny_unpackItems_tuple->mU,wpAny_pyNext_list_item->mW,wpAny_pyNext_list_end->mX,wpAny_alloc->nc,name_of_addr->ni,typeIs_int->nr,arm_eval_Call->nA,wpAny_handled->nF,wpAny_throw->nG,wpAny_updateSeq_pair->nH,sub_AttributeError->nX,wpAny_Tuple->n5,pairTrees_cons_walk->n6,wpAny_eqBool_str->n7,wpAny_eqIsQuiet_tuple->oz,sizeLine_eq->oH,signature?_of->oN,wpAny_pyIter_slot->oQ,intKind_is->pd,ks_wpAt_execs_cons->pi,ks_wpAt_Expr_any->pj,ks_wpAt_MethodCall->pn,wpAt_of_wpAny->pq,plainObj_wpAny_Assign_Attribute->pr,wpAny_execs_nil->pt,wpAny_Compare1->pz,wpAny_Try_except->pA,wpAny_truthy_bool->pB
open True renaming intro->ah
open Nat renaming le_trans->aw,le_refl->aU,le_add_right->aV,ne_of_lt->bu,lt_of_lt_of_le->bw,le_of_lt->bB,le_of_eq->bF,lt_of_le_of_lt->bH,lt_irrefl->bT,succ_le_succ->bZ,zero_le->cg,not_lt->cm,add_le_add_left->cw,ne_of_gt->cy,add_sub_cancel_left->cE,le_add_left->cF,add_le_add_right->cO,le_succ->cU,le_of_ble_eq_true->cV,sub_self->dG,add_assoc->dZ,le_of_not_lt->ec,le_succ_of_le->eA,succ_pos->eU,lt_succ_self->eW,lt_succ_of_lt->fF,min_eq_left->fW,le_of_succ_le->gd,succ_lt_succ->gi,not_lt_zero->gu,add_comm->gw,lt_add_of_pos_right->gG,min_le_right->gJ,le_antisymm->gW,zero_add->ia,zero_lt_succ->ic,le_total->iA,min_eq_right->iB,min_le_left->iE,lt_or_eq_of_le->iU,le_of_lt_succ->iV,lt_trans->i6,succ_add_eq_add_succ->jb,mod_lt->jf,not_succ_le_zero->jh,le_of_succ_le_succ->ji,not_lt_of_le->jl,not_le_of_lt->jr,add_le_add->jy,le_of_add_right_le->jA,rec->jG,succ_ne_self->jO,one_mul->kb,add_right_comm->kh,lt_of_lt_of_eq->kF,add_lt_add_left->kS,mod_one->kT,blt->ln,lt_succ_of_le->lu,ble->lA,mul_le_mul->lF,mul_succ->lH,sub_le->l8,succ_sub->mj,lt_of_not_le->mY,sub_succ_lt_self->mZ,add_left_cancel->nL,div_lt_of_lt_mul->oi,pow_succ'->oj,add_sub_of_le->oF,lt_one_iff->oP,not_lt_of_lt->oZ,mul_le_mul_left->qi
open Option.some renaming inj->aE
open List renaming mem_append->aG,length_map->aH,mem_singleton->aR,mem_cons->aW,not_mem_nil->ba,range->bg,all_eq_true->bh,forall_mem_cons->bj,getElem?_eq_getElem->br,length_append->bv,getElem?_eq_some_iff->bD,mem_map->bG,map_map->bR,append_nil->bY,mem_range->b5,nodup_cons->b7,getElem?_map->ca,append_assoc->cf,mem_of_getElem?->cv,replicate->cI,isEmpty_iff->cR,map_append->cW,nodup_nil->c6,mem_filter->c9,contains_iff_mem->df,getElem?_append_right->di,getElem?_append_left->dq,getElem?_set_self->du,any_cons->dF,eq_nil_of_length_eq_zero->dY,getElem?_eq_none->d9,mem_filterMap->eo,lookup_cons->eu,getElem?_set_ne->ew,map->eJ,length_set->eO,getElem_mem->eR,mem_reverse->eX,map_reverse->eY,length_filter_le->fm,length_reverse->fv,map_cons->fw,all_map->fz,length_take->fN,any_map->fS,take_of_length_le->fV,length->gx,set_append_right->gy,map_take->gz,reverse_cons->gL,nodup_append->gN,pairwise_cons->gO,drop_eq_nil_iff->gX,drop_eq_getElem_cons->gY,forIn_cons->gZ,getElem?_eq_none_iff->hZ,size_toArray->ii,length_cons->ij,any_eq_true->ik,filter_cons->il,map_drop->io,mem_flatMap->ir,drop_nil->ix,drop_of_length_le->iC,filterMap->iD,map_congr_left->iF,filter_eq_nil_iff->i5,map_set->ju,length_pos_iff->jx,casesOn->jC,getElem?_drop->jH,filterMap_cons->jI,length_drop->jL,find?_cons->jN,ext_getElem?->jQ,any_eq_false->j4,mem_of_mem_take->ke,mem_cons_self->kM,mem_cons_of_mem->kN,cons_ne_nil->lB,filter->lC,append_eq_nil_iff->lG,foldl->lI,isSome_find?->lN,take_nil->lS,take_add_one->lZ,take_eq_take_min->l7,map_id'->mc,pairwise_map->md,countP_map->mw,findIdx?_map->my,take_length->mL,filter_cons_of_pos->m7,filter_cons_of_neg->m8,pairwise_reverse->nh,drop_drop->nq,of_mem_zip->nw,getElem?_take->nz,map_snd_zip->oW,length_range->o0,getD_eq_getElem?_getD->pb,any_nil->pv,getElem?_range->pE,set_set->pR,filter_eq_self->pT,cons->pU,mem_or_eq_of_mem_set->pW,map_replicate->pX,take_append->pY,all_eq_not_any_not->qd,any_filter->qe,mem_of_mem_drop->qh
open PySem.Str renaming ofString->aJ
open PySem.Heap renaming get?_push_of_some->aS,lt_size->aY,get?_push_size->a8,get?_update_other->b8,SameBut->b9,get?_update_self->cD,size_push->cT,ExtBut->iX,get?_push_at->jn,IsTuple->nJ,get?_push_ne->oX,size_update->oY,get?_update_ne->ph
open And renaming imp_left->aT,left->cP,imp->fT,intro->j6,right->mV
open PySem.Value renaming ref->a7,type->bU,none->cA,int->dm,builtin->eC,isInt->fQ,str->gV,isStrOf->kI
open PySem.W renaming Frag->bb,Looks->bO,SharedT->cX,callWith_of->dL,looks_findIn->gg,look_both->jt,looks_clsIn->jY,kat_cons->kX,kat_go->kY,kat_yes->kZ,kat_no->k6,looks_mroIn->mP,check_slot->mR,InstAt->mS,method_inst->nB,putName_dict->pg,looks_opaque->po,codeRec_of->pP,kde_getNeg->qA,ki_setAt->qB,kun_lenT->qD,same->rX
open Ne renaming symm->bz
open Int renaming le_trans->bK,toNat_natCast->b6,ofNat_le->cB,natCast_nonneg->cQ,ofNat_lt->dz,not_lt->d5,add_le_add_right->fo,le_of_lt->fu,lt_of_le_of_lt->fU,toNat->fX,toNat_lt->f6,sub_le_sub_right->gD,not_le->gP,eq_ofNat_of_zero_le->ip,add_assoc->iL,add_comm->iM,mul_one->jK,add_zero->jP,le_refl->jT,natAbs_of_nonneg->lT,ofNat_natAbs_of_nonpos->lU,ne_of_gt->lX,toNat_of_nonneg->l0,sub_add_cancel->l3,toNat_sub->l5,sub_sub->l6,lt_trans->mE,add_le_add->mJ,mul_le_mul_of_nonneg_left->mK,emod_nonneg->om,emod_lt_of_pos->oq,ofNat_sub->qf,add_sub_cancel->qg
open Array renaming getElem?_toList->bL,length_toList->bQ,getElem?_eq_some_iff->d7,ext'->el,size_push->gQ,mem_toList_iff->jB,eq_empty_of_size_eq_zero->kO,getElem?_setIfInBounds_self_of_lt->lj,toList_push->mA,getElem?_eq_getElem->mF,getElem?_eq_none_iff->nY,forIn_toList->ou,any_toList->pf
open Bool renaming false_eq_true->bN,false_ne_true->b0,not_eq_true'->cH,and_eq_true_iff->cM,or_false->dI,not_not->dR,and_eq_true->ef,eq_iff_iff->ej,and_false->eN,beq_comm->fJ,or_eq_true->fL,not_eq_eq_eq_not->fO,false_or->fZ,or_eq_true_iff->gI,not_eq_true->jm,decide_and->jv,eq_false_iff->jw,or_true->jU,true_and->lD,or_eq_false_iff->lE,not_false->oB,not_true->oE,and_true->pZ,not_or->qb,or_assoc->qc
open False renaming elim->bP
open PyProof.Rows renaming IsTup->bW,IntsAre->eL,eq_dataH->jF,listUpdate_at->k7,seqEpoch_at->k8,slot_tuple_getitem->lY,getItem_tuple->mf,markedEach_of_false->mO,kind_sorted->nN,plain_sorted->nO,entry_sorted->nP,args_sorted1->nQ,slot_list_sort->nR,entry_list_sort->nS,args_list_sort->nU,sortedHeap_at->nV,sortedHeap_old->nW,SetOf_congr->pc,firstMet_succ->pe,add_tuples->qq,add_arrays->qr,mod_int'->qx,call_abs_int->qE
open PySem.Arg renaming arg->ci
open PySem.Obj renaming mapFields->cr,data_mapFields->dc,mapSeq->dv,isFreed_of_fields->fE,data->gh,cls_mapFields->i8,putSet->oJ
open Exists renaming imp->cK
open Classical renaming byCases->cZ,epsilon->qj,byContradiction->qk,epsilon_spec->ql
open Option renaming map_eq_some_iff->c5,map->dD,isSome_iff_exists->fB,bind_eq_some_iff->fM,isNone_iff_eq_none->jq,none->jM,bind_some->jX,map_map->kW,getD_none->lJ,isSome_map->lM
open Nat.succ renaming inj->dh
open PySem.PyData renaming eqv->dk,keyHash->eT,canLayAll0->lK,depthAll->lL
open PySem.Env renaming kindOf->dA
open List.cons renaming inj->dM
open PySem.SetTable renaming bits->dP,insertAt->fh,below->fG,Probe->gr,probe->jg,has->kK,fill->kL,probeStart->n8,runEnd->n9,slot->oh,fits->ot,gaveWay->oA,grown->oG
open PySem.Builtin.Slice renaming sliceAdjust->d2,slicePlaces->gM,slicePartIndex->qy,sliceApplied->qz
open Sum renaming inr->eH,inl->je
open PySem.SetTable.probe renaming go->eI
open Pure renaming pure->eM
open PySem.F renaming slot_zip_next->fg,called_set->fj,plainAttrs_list->iW,slot_tuple_iterator_next->i7,entry_zip_next->i9,args_zip_next_1->ja,slot_dict_get->jR,slot_list_getattribute->kA,slot_zip_getattribute->kB,ks_slot_super_ga->lf,excCall_Exception->lh,slot_tuple_lt->lR,plain_extend_loop->mq,slot_list_count->mB,slot_list_index->mD,slot_list_extend->mG,entry_dict_get->mH,attr_Exception->mQ,slot_int_rmul->nv,entry_tuple_iterator_next->nD,args_tuple_iterator_next_1->nE,plain_set_new->oL,slot_set_iter->oR,plain_extend_loop->oU,excBase_Exception->px,entry_bexc_ga->qG,args_bexc_ga->qH,slot_dict_get->ri,entry_dict_get->rj,args_dict_get_3->rk,slot_tuple_hash->rn,newCall_set_1->ro,entry_set_new->rq,entry_type_call->ru,typeCall_set_1->rx,entry_set_init->ry,sub_list_set->rA,sub_list_frozenset->rB,slot_set_len->rE,args_set_iter_1->rF,plain_list_iadd->rG,store_object->rJ,store_Exception->rK,ks_canon_super_ga->rL,ks_entry_super_ga->rN,ks_gaArgs_super->rO
open PySem.NameKind renaming cell->fA,free->g6
open Prod renaming fst->fC,ext->fD,snd->gj,mk->jJ
open PySem.pickOrder renaming go->fH
open PySem.Code renaming builtin->gk,compLoop->i3,quiet_builtin->kQ,compStart->nk,weight->nC
open PySem.Builtin.SmallTypes renaming nextOf->gm,ownedTupleIsFree->rh
open PySem.Heap.SameBut renaming update->gn
open PySem.Challenge renaming pw_no0337_01->gE,rw_no0337_01->lw
open PySem.Builtin.Range renaming small->gF,rangeSize->iH,rangeFitsLong->qC
open PySem.Around renaming under_plainId->ie
open Prod.mk renaming inj->im
open PySem.Builtin.Tuple renaming tupleExact->iz,tupleItemsOf->lQ
open Eq renaming trans->iG,refl->ly
open PySem.Builtin.List renaming listExtendWith->iI,listSameRef->iJ,listLengthHint->oO,listFitsIndex->rb,listTooLong->rc
open ForInStep renaming yield->iZ
open PySem.Expr renaming Call->jc,Name->pp
open PySem.BoolOp renaming And->jp
open PySem.SeqAt renaming shaped->jz
open PySem.P renaming lt_int->jE,add_int->lV,sub_int->lW,le_int->qn,gt_int->qo,ge_int->qp,mul_int->qt,neg_int->qF
open PySem.Value.type renaming inj->km
open PyProof.Rows.F renaming plain_set_update_loop->kP,entry_set_update_loop->oK
open PySem.Data renaming fields->lm
open PySem.Sem renaming wp_bind'->lO
open PySem.Moved renaming eq_with->mm
open PySem.SeqAt.EqAt renaming str_str->mC,int_str->rl,str_int->rm
open PySem.Shared renaming heap->nK,TypeIs->oM
open PySem.Calls renaming call_function_entry->nM
open PySem.Heap.DictOf renaming new->nZ
open PySem.Builtin.Dict renaming updateFrom->n4,addKeywords->rg
open PyProof.Rows.SortSt renaming mk'->oV
open PySem.W.Fast renaming te10274390034422433532->pF,te14289696077712309145->pG,te14364793385576792824->pH,te1435165496053646825->pI,te10156331382660048174->pJ,te11892475500146522536->pK,te17154629097778926822->pL,te12822647523644345616->pM,te6613529449190102663->pN,te5923862056798008813->pO,te4187177175401517315->rR,te9446332074065402090->rS,tw9446332074065402090->rT,tw17960256430627541270->rU,tw2436336058641802641->rV,tw12908688711261696721->rW
open PySem.W.WTm renaming value->pQ
open Nat.le renaming dest->pV
open PySem.Value.bool renaming inj->qm
open PySem.IntMulOk renaming of_left->qu
open PySem.W.KMa renaming mul->qw
open List.Pairwise renaming filterMap->qI,imp->qY,nil->ra
open PySem.IsiPair renaming NoneType_int->qJ,NoneType_bool->qK,NoneType_tuple->qL,bool_int->qM,bool_bool->qN,bool_tuple->qO,int_int->qP,int_bool->qQ,int_tuple->qR,str_int->qS,str_bool->qT,str_tuple->qU,tuple_int->qV,tuple_bool->qW,tuple_tuple->qX
open List.Sublist renaming map->qZ
open PySem.Builtin.Frozenset renaming newClass->rr,updateFrom->rz
open PySem.Manifest renaming owners->rC,sig_set_iterator->rD,canonical->rM
open PyProof.Rows.IntsAre renaming int_at->rH
open PySem.Builtin.ObjectAttr renaming storeInOwnDict->rI
open PySem.BindsTo renaming of_eq->rP
open PySem.EntryCells renaming newEntry->rQ
open PySem
namespace Mine.Internal
noncomputable section
section
section
inductive V where
 |none
 |bool (b:aj)
 |int (i:ae)
 |str (c:aa)
 |tup (xs:O V)
 |lst (xs:O V)
 |dct (ks vs:O V)
 |yc (lo hi:ae)
 |ref (i:aa)
 |old (xs:O V)
mutual
noncomputable def V.beq:V->V->aj
 | .none,y=>match y with| .none=>true|_=>false
 | .bool a,y=>match y with| .bool b=>a==b|_=>false
 | .int a,y=>match y with| .int b=>a==b|_=>false
 | .str a,y=>match y with| .str b=>a==b|_=>false
 | .tup a,y=>match y with| .tup b=>V.yS a b|_=>false
 | .lst a,y=>match y with| .lst b=>V.yS a b|_=>false
 | .dct a c,y=>match y with| .dct b d=>V.yS a b&&V.yS c d|_=>false
 | .yc a c,y=>match y with| .yc b d=>a==b&&c==d|_=>false
 | .ref a,y=>match y with| .ref b=>a==b|_=>false
 | .old a,y=>match y with| .old b=>V.yS a b|_=>false
noncomputable def V.yS:O V->O V->aj
 |[],bs=>bs.isEmpty
 |a::as,bs=>match bs with|[]=>false|b::bs=>V.beq a b&&V.yS as bs
end
noncomputable def V.plain:aa->V->aj
 |n, .tup xs=>match n with|0=>false|n+1=>xs.all (V.plain n)
 |n, .lst xs=>match n with|0=>false|n+1=>xs.all (V.plain n)
 |_, .none=>true
 |_, .bool _=>true
 |_, .int _=>true
 |_, .str _=>true
 |_,_=>false
mutual
noncomputable def V.eqv:V->V->aj
 | .none,y=>match y with| .none=>true|_=>false
 | .bool a,y=>match y with| .bool b=>a==b| .int j=>(if a then 1 else 0)==j|_=>false
 | .int a,y=>match y with| .int b=>a==b| .bool b=>a==(if b then 1 else 0)|_=>false
 | .str a,y=>match y with| .str b=>a==b|_=>false
 | .tup a,y=>match y with| .tup b=>V.Hb a b|_=>false
 | .lst a,y=>match y with| .lst b=>V.Hb a b|_=>false
 |_,_=>false
noncomputable def V.Hb:O V->O V->aj
 |[],bs=>bs.isEmpty
 |a::as,bs=>match bs with|[]=>false|b::bs=>V.eqv a b&&V.Hb as bs
end
mutual
noncomputable def V.closed(n:aa):V->aj
 | .tup xs| .lst xs| .old xs=>V.uf n xs
 | .dct ks vs=>V.uf n ks&&V.uf n vs
 | .ref i=>decide (i<n)
 |_=>true
noncomputable def V.uf(n:aa):O V->aj
 |[]=>true
 |x::xs=>V.closed n x&&V.uf n xs
end
inductive sv where
 |lst (xs:O V)
 |dct (ks vs:O V)
 |inst (c:aa) (at_:O (aa×V))
def Jg:O (aa×V)->O (aa×V)->aj
 |[],bs=>bs.isEmpty
 |a::as,bs=>match bs with|[]=>false|b::bs=>a.1==b.1&&V.beq a.2 b.2&&Jg as bs
def sv.beq:sv->sv->aj
 | .lst a,y=>match y with| .lst b=>V.yS a b|_=>false
 | .dct a c,y=>match y with| .dct b d=>V.yS a b&&V.yS c d|_=>false
 | .inst a c,y=>match y with| .inst b d=>a==b&&Jg c d|_=>false
abbrev Ob:=O sv
def Ob.beq:Ob->Ob->aj
 |[],bs=>bs.isEmpty
 |a::as,bs=>match bs with|[]=>false|b::bs=>sv.beq a b&&Ob.beq as bs
abbrev Loc:=O (ax V)
noncomputable def Loc.get(l:Loc)(k:aa):ax V:=match l[k]? with|some x=>x|none=>none
noncomputable def Loc.put(l:Loc)(k:aa)(v:V):Loc:=l.set k (some v)
def M(α:Type):=Ob->ax (α×Ob)
@[reducible] noncomputable def M.pure {α:Type} (a:α):M α:=λσ=>some (a,σ)
noncomputable def M.bind{α β:Type}(m:M α)(f:α->M β):M β:=λσ=>
 match m σ with
 |some p=>f p.1 p.2
 |none=>none
@[reducible] noncomputable def M.fail {α:Type}:M α:=λz=>none
noncomputable def sM{α:Type}(o:ax α):M α:=λσ=>match o with|some a=>some (a,σ)|none=>none
noncomputable def M.guard{α:Type}(b:aj)(m:M α):M α:=λσ=>match b with|true=>m σ|false=>none
noncomputable def ur(i:aa):M sv:=λσ=>match σ[i]? with|some o=>some (o,σ)|none=>none
noncomputable def zD(i:aa)(o:sv):M bi:=λσ=>some ((),σ.set i o)
noncomputable def un(o:sv):M V:=λσ=>some (.ref σ.length,σ++[o])
noncomputable def lim:aa:=16384
noncomputable def smallInt(i:ae):aj:=decide (-1000000000<=i)&&decide (i<=1000000000)
noncomputable def tw(lo:ae):aa->O V
 |0=>[]
 |n+1=> .int lo::tw (lo+1) n
def zE:V->M (O V)
 | .tup xs=>M.pure xs
 | .lst xs=>M.pure xs
 | .yc lo hi=>M.pure (tw lo (hi - lo).toNat)
 |_=>M.fail
def wq:sv->M (O V)
 | .lst xs=>M.pure xs
 |_=>M.fail
def wa:V->M V
 | .ref i=>M.bind (ur i) λo=>M.bind (wq o) λxs=>M.pure (.lst xs)
 |v=>M.pure v
def Dp(a b:V):M aj:=M.guard (a.plain 8&&b.plain 8) (M.pure (V.eqv a b))
def AO(x:V)(xs:O V):M aj:=M.guard (x.plain 8&&xs.all (V.plain 8)) (M.pure (xs.any λy=>V.eqv y x))
def dictAt(x:V):O V->O V->ax V
 |[],_=>none
 |k::ks,vs=>match vs with|[]=>none|v::vs=>if V.beq k x then some v else dictAt x ks vs
def dictPut(x w:V):O V->O V->O V×O V
 |[],_=>([x],[w])
 |k::ks,vs=>match vs with|[]=>([x],[w])|v::vs=>if V.beq k x then(k::ks,w::vs) else((k::(dictPut x w ks vs).1),(v::(dictPut x w ks vs).2))
noncomputable def tJ:V->aj
 | .int _=>true
 |_=>false
noncomputable def BW:V->aj
 | .str _=>true
 |_=>false
def aba:O V->aj
 |[]=>false
 |x::r=>match r with|[]=>false|y::r=>r.isEmpty&&(tJ x&&tJ y)
def wi:V->aj
 | .tup xs=>aba xs
 |_=>false
def keyOk(k:V)(ks:O V):aj:=(tJ k&&ks.all tJ)||(wi k&&ks.all wi)
noncomputable def intOf:V->ae
 | .int i=>i
 |_=>0
noncomputable def strOf:V->aa
 | .str s=>s
 |_=>0
def Yk:O V->O V->aj
 |[],_=>false
 |a::r,ys=>match r with
  |[]=>false
  |s::r=>match r with
   |[]=>false
   |c::_=>if intOf a==intOf (ys.headD .none) then(if strOf s==strOf (ys.tail.headD .none) then decide (intOf c<intOf (ys.tail.tail.headD .none)) else decide (strOf s<strOf (ys.tail.headD .none))) else decide (intOf a<intOf (ys.headD .none))
noncomputable def Jh:V->O V
 | .tup xs=>xs
 |_=>[]
def vH:V->V->aj
 | .int a,y=>decide (a<intOf y)
 | .tup xs,y=>Yk xs (Jh y)
 |_,_=>false
def AB(x:V):O V->O V
 |[]=>[x]
 |y::ys=>if vH x y then x::y::ys else y::AB x ys
def w8:O V->O V
 |[]=>[]
 |x::xs=>AB x (w8 xs)
def abb:O V->aj
 |[]=>false
 |x::r=>match r with|[]=>false|y::r=>match r with|[]=>false|z::r=>r.isEmpty&&(tJ x&&(BW y&&tJ z))
def isLit:V->aj
 | .tup xs=>abb xs
 |_=>false
noncomputable def dedup:O V->O V->O V
 |acc,[]=>acc
 |acc,x::xs=>if acc.any (V.beq x) then dedup acc xs else dedup (acc++[x]) xs
noncomputable def sq(s:bc):am:=aJ s
def one(f:V->M V):O V->M V
 |[]=>M.fail
 |x::r=>match r with|[]=>f x|_::_=>M.fail
def two(f:V->V->M V):O V->M V
 |[]=>M.fail
 |x::r=>match r with|[]=>M.fail|y::r=>match r with|[]=>f x y|_::_=>M.fail
def sS{α:Type}(f:ae->M α):V->M α
 | .int i=>f i
 |_=>M.fail
def tT{α:Type}(f:ae->ae->M α)(a b:V):M α:=sS (λx=>sS (f x) b) a
def vm{α:Type}(f:O V->M α):V->M α
 | .tup xs=>f xs
 |_=>M.fail
def uK{α:Type}(f:O V->M α):V->M α
 | .lst xs=>f xs
 |_=>M.fail
def onStr{α:Type}(f:aa->M α):V->M α
 | .str s=>f s
 |_=>M.fail
def JC(b:V):V->M V
 | .int x=>sS (λy=>M.pure (.int (x+y))) b
 | .tup x=>vm (λy=>M.guard (decide (x.length+y.length<=lim)) (M.pure (.tup (x++y)))) b
 | .lst x=>uK (λy=>M.guard (decide (x.length+y.length<=lim)) (M.pure (.lst (x++y)))) b
 |_=>M.fail
def CD(b:V):V->M V
 | .int x=>sS (λy=>M.guard (smallInt x&&smallInt y) (M.pure (.int (x*y)))) b
 | .lst xs=>one (λx=>sS (λn=>M.guard (decide (0<=n)&&decide (n<=64)) (M.pure (.lst (cI n.toNat x)))) b) xs
 |_=>M.fail
def AP(op:dT)(a b:V):M V:=
 match op with
 | .Add=>JC b a
 | .Sub=>tT (λx y=>M.pure (.int (x - y))) a b
 | .Mult=>CD b a
 | .Mod=>tT (λx y=>M.guard (decide (0<y)) (M.pure (.int (x%y)))) a b
 |_=>M.fail
noncomputable def isNone:V->aj
 | .none=>true
 |_=>false
noncomputable def Ge(a:V):sv->M aj
 | .lst xs=>AO a xs
 | .dct ks _=>M.guard (keyOk a ks) (M.pure (ks.any (V.beq a)))
 | .inst _ _=>M.fail
def Hc(a:V):V->M aj
 | .tup xs=>AO a xs
 | .lst xs=>AO a xs
 | .ref i=>M.bind (ur i) (Ge a)
 |_=>M.fail
def JD(m:M aj):M aj:=M.bind m λr=>M.pure (!r)
def yD(a b:V):M aj:=M.bind (wa a) λJ=>M.bind (wa b) λU=>Dp J U
def mlt(a b:V):M aj:=match a with
 | .int x=>sS (λy=>M.pure (decide (x<y))) b
 | .tup xs=>match xs with
  |[]=>M.fail
  |x::r=>match r with
   |[]=>sS (λx=>vm (λys=>match ys with
    |[]=>M.fail
    |y::r=>match r with
     |[]=>sS (λy=>M.pure (decide (x<y))) y
     |_::_=>M.fail) b) x
   |_::_=>M.fail
 |_=>M.fail
def uC(op:ct)(a b:V):M aj:=
 match op with
 | .Is=>M.guard (isNone b) (M.pure (isNone a))
 | .IsNot=>M.guard (isNone b) (M.pure (!isNone a))
 | .Eq=>yD a b
 | .NotEq=>JD (yD a b)
 | .Lt=>mlt a b
 | .LtE=>tT (λx y=>M.pure (decide (x<=y))) a b
 | .Gt=>tT (λx y=>M.pure (decide (x>y))) a b
 | .GtE=>tT (λx y=>M.pure (decide (x>=y))) a b
 | .In=>Hc a b
 | .NotIn=>JD (Hc a b)
noncomputable def DA(k:ae)(n:aa):ax aa:=if 0<=k then some k.toNat else if 0<=k+n then some (k+n).toNat else none
def atIdx(xs:O V)(k:ae):ax V:=(DA k xs.length).bind (xs[·]?)
def AC(i:V)(xs:O V):M V:=sS (λk=>M.guard (smallInt k) (sM (atIdx xs k))) i
def BX(i:V)(ks vs:O V):M V:=M.guard (keyOk i ks) (sM (dictAt i ks vs))
def yE(i:V):sv->M V
 | .lst xs=>AC i xs
 | .dct ks vs=>BX i ks vs
 | .inst _ _=>M.fail
def tZ(o i:V):M V:=
 match o with
 | .tup xs=>AC i xs
 | .lst xs=>AC i xs
 | .dct ks vs=>BX i ks vs
 | .ref r=>M.bind (ur r) (yE i)
 |_=>M.fail
noncomputable def JE:O (aa×aa):=[(32,31),(33,31),(34,31),(9,8),(55,55),(30,30),(27,26)]
def wb(k:ae)(n:aa):aj:=decide (0<=k)&&(smallInt k&&decide (n<=lim))
def ED(k:ae):V->M V
 | .tup xs=>M.guard (wb k xs.length) (M.pure (.tup (xs.take k.toNat)))
 | .lst xs=>M.guard (wb k xs.length) (M.pure (.lst (xs.take k.toNat)))
 | .old xs=>M.guard (wb k xs.length) (M.pure (.lst (xs.take k.toNat)))
 | .str s=>M.guard (k==6) (sM ((JE.lookup s).map .str))
 |_=>M.fail
def Ji(k:ae):V->M V
 | .tup xs=>M.guard (wb k xs.length) (M.pure (.tup (xs.drop k.toNat)))
 | .lst xs=>M.guard (wb k xs.length) (M.pure (.lst (xs.drop k.toNat)))
 |_=>M.fail
def uO(o lo hi st:V):M V:=
 match st with
 | .none=>match lo with
  | .none=>sS (λk=>ED k o) hi
  | .int k=>M.guard (isNone hi) (Ji k o)
  |_=>M.fail
 | .int i=>M.guard (i== -1&&(isNone lo&&isNone hi)) (vm (λxs=>M.guard (decide (xs.length<=lim)) (M.pure (.tup xs.reverse))) o)
 |_=>M.fail
def Ae(r:aa)(i v:V):sv->M bi
 | .lst xs=>sS (λk=>M.guard (decide (0<=k)&&(decide (k.toNat<xs.length)&&smallInt k)) (zD r (.lst (xs.set k.toNat v)))) i
 | .dct ks vs=>M.guard (keyOk i ks&&decide (ks.length<lim)) (zD r (.dct (dictPut i v ks vs).1 (dictPut i v ks vs).2))
 | .inst _ _=>M.fail
def xq{α:Type}(f:aa->M α):V->M α
 | .ref r=>f r
 |_=>M.fail
def uL(o i v:V):M bi:=xq (λr=>M.bind (ur r) (Ae r i v)) o
noncomputable def putAt:O (aa×V)->aa->V->O (aa×V)
 |[],n,v=>[(n,v)]
 |(m,w)::r,n,v=>if m==n then(n,v)::r else(m,w)::putAt r n v
def EE(a:aa):sv->M V
 | .inst _ at_=>sM (at_.lookup a)
 |_=>M.fail
def wD(o:V)(a:aa):M V:=xq (λr=>M.bind (ur r) (EE a)) o
def CE(r a:aa)(v:V):sv->M bi
 | .inst c at_=>M.guard (decide (c<=3)&&decide (at_.length<=64)) (zD r (.inst c (putAt at_ a v)))
 |_=>M.fail
def uY(o:V)(a:aa)(v:V):M bi:=xq (λr=>M.bind (ur r) (CE r a v)) o
theorem V.tup.inj{xs ys:O V}(h:V.tup xs=V.tup ys):xs=ys:=by cases h;rfl
theorem sv.inst.inj{c d:aa}{as bs:O (aa×V)}(h:sv.inst c as=sv.inst d bs):c=d/\as=bs:=by cases h;exact⟨rfl,rfl⟩
inductive Bt where
 |abs|len|vE|AQ|sorted|u7|yT|list|tuple|max2|min2|JF|min1|sum|dict
 deriving eh
noncomputable def sumInts:O V->ax ae
 |[]=>some 0
 |x::xs=>match x with| .int i=>(sumInts xs).map (i+ ·)|_=>none
noncomputable def pairsOf:O V->ax (O V×O V)
 |[]=>some ([],[])
 |x::xs=>match x with
  | .tup l=>match l with
   |[]=>none
   |k::r=>match r with
    |[]=>none
    |v::r=>match r with|[]=>(pairsOf xs).map λp=>(k::p.1,v::p.2)|_::_=>none
  |_=>none
def dictFrom:O V->O V->O V×O V->O V×O V
 |[],_,p=>p
 |k::ks,vs,p=>match vs with|[]=>p|v::vs=>dictFrom ks vs (dictPut k v p.1 p.2)
def CF(ks:O V):M V:=M.guard (ks.all tJ&&decide (ks.length<=8)) (M.pure (.lst (w8 ks)))
def DB:sv->M V
 | .dct ks _=>CF ks
 |_=>M.fail
def yU(xs:O V):M V:=M.bind (sM (pairsOf xs)) λp=>
 M.guard (p.1.all tJ&&decide (xs.length<=64)) (M.pure (.dct (dictFrom p.1 p.2 ([],[])).1 (dictFrom p.1 p.2 ([],[])).2))
def BI(xs:O V):M V:=M.guard (decide (xs.length<=lim)) (M.pure (.int xs.length))
def CG(xs:O V):M V:=M.guard (decide (xs.length<=lim)) (M.pure (.lst xs))
def Fz(xs:O V):M V:=M.guard (decide (xs.length<=lim)) (M.pure (.tup xs))
def P1:V->aj
 | .int i=>smallInt i
 |_=>false
def Od:V->M V
 | .tup xs=>BI xs
 | .lst xs=>BI xs
 | .ref r=>M.bind (ur r) λo=>M.bind (wq o) BI
 |_=>M.fail
def CH:V->M V
 | .tup xs=>CF xs
 | .ref r=>M.bind (ur r) DB
 |_=>M.fail
def CI(xs:O V):M V:=M.guard (xs.all isLit&&decide (xs.length<=2)) (M.pure (.lst (w8 (dedup [] xs))))
def DC:V->M V
 | .tup xs=>CI xs
 | .lst xs=>CI xs
 |_=>M.fail
def JG:V->M V
 | .tup xs=>CG xs
 | .lst xs=>CG xs
 |_=>M.fail
def Hd:V->M V
 | .lst xs=>Fz xs
 | .ref r=>M.bind (ur r) λo=>M.bind (wq o) Fz
 |_=>M.fail
def Tg(a b:V):M V:=tT (λa b=>M.pure (.int (if b>a then b else a))) a b
def Th(a b:V):M V:=tT (λa b=>M.pure (.int (if b<a then b else a))) a b
def tN(b:Bt):O V->M V:=
 match b with
 | .abs=>one (sS λi=>M.pure (.int i.natAbs))
 | .len=>one Od
 | .vE=>one (sS λn=>M.guard (smallInt n) (M.pure (.yc 0 n)))
 | .AQ=>two (tT λa b=>M.guard (smallInt a&&smallInt b) (M.pure (.yc a b)))
 | .sorted=>one CH
 | .u7=>one DC
 | .yT=>one (vm λxs=>M.guard (xs.all tJ&&decide (xs.length<=4)) (M.pure (.int (dedup [] xs).length)))
 | .list=>one JG
 | .tuple=>one Hd
 | .max2=>two Tg
 | .min2=>two Th
 | .JF=>one (uK (two Tg))
 | .min1=>one (uK (two Th))
 | .sum=>one (uK λxs=>M.guard (xs.all P1&&decide (xs.length<=lim)) (M.bind (sM (sumInts xs)) λi=>M.pure (.int i)))
 | .dict=>one (uK yU)
inductive Ty where
 |int|bool|tuple
 deriving eh
def isA(v:V)(t:Ty):M V:=
 match v with
 | .int _=>M.pure (.bool (t== .int))
 | .bool _=>M.pure (.bool (t== .int||t== .bool))
 | .none=>M.pure (.bool false)
 | .str _=>M.pure (.bool false)
 | .tup _=>M.pure (.bool (t== .tuple))
 |_=>M.fail
inductive Bm where
 |append|extend|get|count|index
 deriving eh
def DD(xs:O V):aj:=xs.all BW&&decide (xs.length<=lim)
def Id(r:aa)(xs:O V)(v:V):M V:=M.guard (decide (xs.length<lim)) (M.bind (zD r (.lst (xs++[v]))) λz=>M.pure .none)
def JH(xs:O V):V->M V:=onStr λs=>M.guard (DD xs) (M.pure (.int (xs.countP (V.beq (.str s)))))
def JI(xs:O V):V->M V:=onStr λs=>M.guard (DD xs) (sM ((xs.findIdx? (V.beq (.str s))).map λ(i:aa)=> .int i))
def DE(r:aa)(xs:O V):V->M V
 | .yc lo hi=>M.guard (decide (xs.length+(hi - lo).toNat<=lim)) (M.bind (zD r (.lst (xs++tw lo (hi - lo).toNat))) λz=>M.pure .none)
 |_=>M.fail
def yd(ks vs:O V)(k d:V):M V:=M.guard (tJ k&&ks.all tJ) (M.pure ((dictAt k ks vs).getD d))
def WD(ks vs:O V):O V->M V
 |[]=>M.fail
 |k::r=>match r with|[]=>yd ks vs k .none|d::r=>match r with|[]=>yd ks vs k d|_::_=>M.fail
def WE(m:Bm)(r:aa)(xs:O V):O V->M V:=match m with
 | .append=>one (Id r xs)
 | .count=>one (JH xs)
 | .index=>one (JI xs)
 | .extend=>one (DE r xs)
 | .get=>λz=>M.fail
def EF(m:Bm)(r:aa)(args:O V):sv->M V
 | .lst xs=>WE m r xs args
 | .dct ks vs=>match m with| .get=>WD ks vs args|_=>M.fail
 | .inst _ _=>M.fail
def w9(m:Bm)(o:V)(args:O V):M V:=xq (λr=>M.bind (ur r) (EF m r args)) o
end
section
set_option genCtorIdx false in
mutual
inductive ME where
 |c (v:V)
 |var (k:aa)
 |glob (i:aa)
 |bool (yV:aj) (es:O ME)
 |bin (op:dT) (a b:ME)
 |not (a:ME)
 |neg (a:ME)
 |ite (t a b:ME)
 |due (k g:aa)
 |list (es:O ME)
 |tup (es:O ME)
 |cmp (a:ME) (ops:O ct) (bs:O ME)
 |comp (own:O aa) (elt:ME) (gens:O MG)
 |item (a i:ME)
 |slice (a lo hi st:ME)
 |attr (a:ME) (n:aa)
 |call (f:aa) (args:O ME)
 |new (c f:aa) (args:O ME)
 |tt (f:aa) (a:ME) (args:O ME)
 |uh (m:Bm) (a:ME) (args:O ME)
 |bt (b:Bt) (args:O ME)
 |wj (a b:ME)
 |isA (a:ME) (t:Ty)
 |bad
inductive MG where
 |g (t:MT) (it:MI) (ifs:O ME)
inductive MI where
 |e (a:ME)
 |zip (a b:ME)
inductive MT where
 |var (k:aa)
 |tup (ts:O MT)
 |attr (a:ME) (n:aa)
 |item (a i:ME)
end
inductive MR where
 |newList
 |newDict
 |tup (rs:O MR)
 |own (a:ME)
 |e (a:ME)
inductive MS where
 |expr (a:ME)
 |ret (a:ME)
 |FA
 |asg (t:MT) (r:MR)
 |if_ (t:ME) (b o:O MS)
 |wP (t:ME) (b:O MS)
 |ua (t:MT) (it:MI) (b:O MS)
 |cont
 |brk
 |zF (a b:ME)
 |DF (b h:O MS)
 |DG (pre:O MS) (o:ME) (args:O ME) (t e:ME) (x:aa) (h:ME)
structure MF where
 nargs:aa
 sH:aa
 pure:aj
 names:O (am×aa)
 body:O MS
set_option genCtorIdx false in
inductive XR where
 |next (l:Loc)
 |brk (l:Loc)
 |cont (l:Loc)
 |ret (v:V)
abbrev Fn:=aa->O V->M V
abbrev X:=M XR
def wt(turn:V->M (O V)):O V->M (O V)
 |[]=>M.pure []
 |x::xs=>M.bind (turn x) λa=>M.bind (wt turn xs) λb=>M.pure (a++b)
noncomputable def listOf:ax sv->V->V
 |none,v=>v
 |some o,v=>match o with| .lst xs=> .lst xs|_=>v
def freeze(n:aa)(σ:Ob)(v:V):V:=match v with
 | .ref i=>if i<n then v else listOf σ[i]? v
 |v=>v
noncomputable def vS(m:M V):M V:=λσ=>match m σ with
 |some p=>M.guard (Ob.beq (p.2.take σ.length) σ&&V.closed σ.length (freeze σ.length p.2 p.1)) (M.pure (freeze σ.length p.2 p.1)) σ
 |none=>none
def zi(v:V):M V:=uK (λxs=>un (.lst xs)) v
noncomputable def vI:O V->O V->O V
 |[],_=>[]
 |a::as,bs=>match bs with|[]=>[]|b::bs=> .tup [a,b]::vI as bs
def tI:V->M (O V):=vm M.pure
def uP:V->M aj
 | .bool b=>M.pure b
 |_=>M.fail
def aaE:V->M V:=sS λi=>M.pure (.int (-i))
noncomputable def EG:O (O aa):=[[33,32,34],[56,20,40,5,36,38],[21,22,55,28,15],[9,17,44,14],[18,19],[29,30,27,46]]
def VD(i:aa):M V:=sM ((EG[i]?).map λl=> .tup (l.map .str))
def single(m:Loc->M V)(l:Loc):M (O V):=M.bind (m l) λv=>M.pure [v]
noncomputable def uw(f:aa):aa:=if f<34 then 99 else if f<35 then 0 else if f<41 then 1 else if f<49 then 2 else 3
def JJ(c:aa):sv->M bi
 | .inst d _=>M.guard (d==c) (M.pure ())
 |_=>M.fail
def uQ(c:aa)(o:V):M bi:=xq (λr=>M.bind (ur r) (JJ c)) o
noncomputable def VE:Bm->aj
 | .get=>true
 |_=>false
def DH(m:Bm):sv->aj
 | .dct _ _=>VE m
 | .lst _=> !VE m
 | .inst _ _=>false
def xB(m:Bm)(o:V):M bi:=xq (λr=>M.bind (ur r) λJ=>M.guard (DH m J) (M.pure ())) o
def xC(v o:V):M V:=M.guard (isNone v) (M.pure o)
noncomputable def Jj(c:aa)(b:ae):V:=if c=39 then .tup [.int 1, .str 2, .int (b - 1)] else if c=37 then .tup [.int 1, .str 4, .int (b+1)] else .none
def JK(n g:V):M V:=vm (two λa b=>sS (λz=>sS (λb=>vm (λgs=>match gs with|[]=>M.fail|g::_=>onStr (λc=>M.pure (Jj c b)) g) g) b) a) n
noncomputable def vo:O aa->Loc->Loc
 |[],l=>l
 |k::ks,l=>vo ks (l.set k none)
def yW(l:Loc)(k:aa)(v:V):M Loc:=M.guard (decide (k<l.length)) (M.pure (l.put k v))
mutual
noncomputable def rZ(F:Fn):ME->Loc->M V
 | .c v,_=>M.pure v
 | .var k,l=>sM (l.get k)
 | .glob i,_=>VD i
 | .bool yV es,l=>CJ F yV es l
 | .bin op a b,l=>M.bind (rZ F a l) λx=>M.bind (rZ F b l) λy=>AP op x y
 | .not a,l=>M.bind (rZ F a l) λx=>M.bind (uP x) λb=>M.pure (.bool !b)
 | .neg a,l=>M.bind (rZ F a l) aaE
 | .ite t a b,l=>M.bind (sN F t l) λc=>if c then rZ F a l else rZ F b l
 | .due k g,l=>M.bind (sM (l.get k)) λn=>M.bind (sM (l.get g)) λgo=>JK n go
 | .list es,l=>M.bind (sR F es l) λvs=>M.pure (.lst vs)
 | .tup es,l=>M.bind (sR F es l) λvs=>M.pure (.tup vs)
 | .cmp a ops bs,l=>M.bind (rZ F a l) λx=>M.bind (vU F x ops bs l) λb=>M.pure (.bool b)
 | .comp own elt gens,l=>M.bind (wu F gens (single (rZ F elt)) (vo own l)) CG
 | .item a i,l=>M.bind (rZ F a l) λx=>M.bind (rZ F i l) λy=>tZ x y
 | .slice a lo hi st,l=>M.bind (rZ F a l) λx=>M.bind (rZ F lo l) λy=>M.bind (rZ F hi l) λz=>M.bind (rZ F st l) λu=>uO x y z u
 | .attr a n,l=>M.bind (rZ F a l) λx=>wD x n
 | .call f args,l=>M.bind (sR F args l) λvs=>F f vs
 | .new c f args,l=>M.bind (sR F args l) λvs=>M.bind (un (.inst c [])) λo=>M.bind (F f (o::vs)) λr=>xC r o
 | .tt f a args,l=>M.bind (rZ F a l) λo=>M.bind (uQ (uw f) o) λw=>M.bind (sR F args l) λvs=>F f (o::vs)
 | .uh m a args,l=>M.bind (rZ F a l) λo=>M.bind (xB m o) λw=>M.bind (sR F args l) λvs=>w9 m o vs
 | .bt b args,l=>M.bind (sR F args l) λvs=>tN b vs
 | .wj a b,l=>M.bind (rZ F a l) λx=>M.bind (tI x) λxs=>M.bind (rZ F b l) λy=>M.bind (tI y) λys=>tN .dict [.lst (vI xs ys)]
 | .isA a t,l=>M.bind (rZ F a l) λx=>isA x t
 | .bad,_=>M.fail
noncomputable def sR(F:Fn):O ME->Loc->M (O V)
 |[],_=>M.pure []
 |e::es,l=>M.bind (rZ F e l) λv=>M.bind (sR F es l) λvs=>M.pure (v::vs)
noncomputable def sN(F:Fn):ME->Loc->M aj
 | .not a,l=>M.bind (sN F a l) λb=>M.pure !b
 | .bool yV es,l=>xo F yV es l
 | .ite t a b,l=>M.bind (sN F t l) λc=>if c then sN F a l else sN F b l
 | .cmp a ops bs,l=>M.bind (rZ F a l) λx=>vU F x ops bs l
 | .c v,_=>uP v
 | .var k,l=>M.bind (sM (l.get k)) uP
 | .attr a n,l=>M.bind (rZ F a l) λx=>M.bind (wD x n) uP
 | .call f args,l=>M.bind (sR F args l) λvs=>M.bind (F f vs) uP
 | .tt f a args,l=>M.bind (rZ F a l) λo=>M.bind (uQ (uw f) o) λz=>M.bind (sR F args l) λvs=>M.bind (F f (o::vs)) uP
 | .isA a t,l=>M.bind (rZ F a l) λx=>M.bind (isA x t) uP
 |_,_=>M.fail
noncomputable def CJ(F:Fn)(yV:aj):O ME->Loc->M V
 |[],_=>M.fail
 |e::es,l=>M.bind (rZ F e l) λv=>match es with
  |[]=>M.pure v
  |_::_=>M.bind (uP v) λb=>if b==yV then CJ F yV es l else M.pure v
noncomputable def xo(F:Fn)(yV:aj):O ME->Loc->M aj
 |[],_=>M.pure yV
 |e::es,l=>M.bind (sN F e l) λb=>if b==yV then xo F yV es l else M.pure b
noncomputable def vU(F:Fn):V->O ct->O ME->Loc->M aj
 |a,ops,e::es,l=>M.bind (rZ F e l) λb=>match ops with
  |[]=>M.fail
  |op::ops=>match es with
   |[]=>M.guard ops.isEmpty (uC op a b)
   |_::_=>M.bind (uC op a b) λr=>if r then vU F b ops es l else M.pure false
 |_,_,[],_=>M.fail
noncomputable def wc(F:Fn):MI->Loc->M (O V)
 | .e a,l=>M.bind (rZ F a l) zE
 | .zip a b,l=>M.bind (rZ F a l) λx=>M.bind (tI x) λxs=>M.bind (rZ F b l) λy=>M.bind (tI y) λys=>M.pure (vI xs ys)
noncomputable def wu(F:Fn):O MG->(Loc->M (O V))->Loc->M (O V)
 |[],k,l=>k l
 |g::rest,k,l=>M.bind (Yl F g l) λitems=>wt (xQ F g (wu F rest k) l) items
noncomputable def Yl(F:Fn):MG->Loc->M (O V)
 | .g _ it _,l=>wc F it l
noncomputable def xQ(F:Fn):MG->(Loc->M (O V))->Loc->V->M (O V)
 | .g t _ ifs,k,l,v=>M.bind (sO F t l v) λl'=>M.bind (xo F true ifs l') λok=>if ok then k l' else M.pure []
noncomputable def sO(F:Fn):MT->Loc->V->M Loc
 | .var k,l,v=>yW l k v
 | .tup ts,l,v=>M.bind (tI v) λvs=>M.guard (ts.length==vs.length) (tY F ts l vs)
 | .attr a n,l,v=>M.bind (rZ F a l) λo=>M.bind (uY o n v) λz=>M.pure l
 | .item a i,l,v=>M.bind (rZ F a l) λo=>M.bind (rZ F i l) λx=>M.bind (uL o x v) λz=>M.pure l
noncomputable def tY(F:Fn):O MT->Loc->O V->M Loc
 |[],l,vs=>M.guard vs.isEmpty (M.pure l)
 |t::ts,l,vs=>match vs with
  |[]=>M.fail
  |v::vs=>M.bind (sO F t l v) λl'=>tY F ts l' vs
end
mutual
noncomputable def xD(F:Fn):MR->Loc->M V
 | .newList,_=>un (.lst [])
 | .newDict,_=>un (.dct [] [])
 | .tup rs,l=>M.bind (xr F rs l) λvs=>M.pure (.tup vs)
 | .own a,l=>M.bind (rZ F a l) zi
 | .e a,l=>rZ F a l
noncomputable def xr(F:Fn):O MR->Loc->M (O V)
 |[],_=>M.pure []
 |r::rs,l=>M.bind (xD F r l) λv=>M.bind (xr F rs l) λvs=>M.pure (v::vs)
end
def XR.after(k:Loc->X):XR->X
 | .next l=>k l
 | .cont l=>k l
 | .brk l=>M.pure (.next l)
 | .ret v=>M.pure (.ret v)
def uR(turn:Loc->V->X):O V->Loc->X
 |[],l=>M.pure (.next l)
 |v::vs,l=>M.bind (turn l v) (XR.after (uR turn vs))
def xa(turn:Loc->X):aa->Loc->X
 |0,_=>M.fail
 |k+1,l=>M.bind (turn l) (XR.after (xa turn k))
noncomputable def JL:aa:=1000
def XR.xt(k:Loc->X):XR->X
 | .next l=>k l
 | .brk l=>M.pure (.brk l)
 | .cont l=>M.pure (.cont l)
 | .ret v=>M.pure (.ret v)
def Oe(m:X)(k:Loc->X):X:=M.bind m (XR.xt k)
def vz:XR->M Loc
 | .next l=>M.pure l
 |_=>M.fail
def zj(m:M V):X:=M.bind m λv=>M.pure (.ret v)
def AR(t:Loc->M aj)(b:Loc->X)(l:Loc):X:=M.bind (t l) λc=>if c then b l else M.pure (.brk l)
noncomputable def uS(a:Loc->V->M Loc)(b:Loc->X)(l:Loc)(v:V):X:=M.bind (a l v) b
noncomputable def raiser:aa:=51
def BY(ok:V->X)(J:aa->X):V->X
 | .lst xs=>match xs with
  |[]=>M.fail
  |v::_=>ok v
 | .ref i=>J i
 |_=>M.fail
mutual
noncomputable def xu(F:Fn):MS->Loc->X
 | .expr a,l=>M.bind (rZ F a l) λz=>M.pure (.next l)
 | .ret a,l=>zj (rZ F a l)
 | .FA,_=>M.pure (.ret .none)
 | .asg t r,l=>M.bind (xD F r l) λv=>M.bind (sO F t l v) λl'=>M.pure (.next l')
 | .if_ t b o,l=>M.bind (sN F t l) λc=>if c then r8 F b l else r8 F o l
 | .wP t b,l=>xa (AR (sN F t) (r8 F b)) JL l
 | .ua t it b,l=>M.bind (wc F it l) λitems=>uR (uS (sO F t) (r8 F b)) items l
 | .cont,l=>M.pure (.cont l)
 | .brk,l=>M.pure (.brk l)
 | .zF _ _,_=>M.fail
 | .DF b _,l=>r8 F b l
 | .DG pre o args t e x h,l=>M.bind (M.bind (r8 F pre l) vz) λl=>M.bind (rZ F o l) λv=>M.bind (uQ (uw raiser) v) λz=>M.bind (sR F args l) λvs=>M.bind (F raiser (v::vs))
   (BY (λr=>M.bind (rZ F t l) λy=>M.bind (yD r y) λb=>if b then zj (rZ F e l) else M.pure (.ret (.bool false)))
    λi=>M.bind (yW l x (.ref i)) λl'=>zj (rZ F h l'))
noncomputable def r8(F:Fn):O MS->Loc->X
 |[],l=>M.pure (.next l)
 |st::rest,l=>Oe (xu F st l) (r8 F rest)
end
def XR.val:XR->M V
 | .next _=>M.pure .none
 | .ret v=>M.pure v
 |_=>M.fail
noncomputable def uZ(r:MF)(args:O V):Loc:=args.map some++cI (r.sH - r.nargs) none
def zV(F:Fn)(r:MF)(args:O V):M V:=M.guard (args.length==r.nargs) (M.bind (r8 F r.body (uZ r args)) XR.val)
noncomputable def P3:O MS->ME×ME
 |[]=>(.bad, .bad)
 |s::_=>match s with| .zF a b=>(a,b)|_=>(.bad, .bad)
def BZ:MS->ME×ME×ME
 | .if_ t b _=>(t,P3 b)
 |_=>(.bad, .bad, .bad)
def Jk(F:Fn)(r:MF)(args:O V):M V:=match r.body with
 |[]=>M.fail
 |s1::ss=>match ss with
  |[]=>M.fail
  |s2::rest=>M.guard (args.length==r.nargs) (M.bind (M.bind (xu F s1 (uZ r args)) vz) λl=>M.bind (sN F (BZ s2).1 l) λc=>
   if c then M.bind (rZ F (BZ s2).2.1 l) λx=>M.bind (rZ F (BZ s2).2.2 l) λy=>un (.inst 4 [(10,x),(11,y)])
   else M.bind (M.bind (r8 F rest l) XR.val) λv=>M.pure (.lst [v]))
def zt(p:aj)(m:M V):M V:=if p then vS m else m
noncomputable def sC(prog:O MF):aa->Fn
 |0,_,_=>M.fail
 |d+1,f,args=>match prog[f]? with
  |some r=>if f==raiser then Jk (sC prog d) r args else zt r.pure (zV (sC prog d) r args)
  |none=>M.fail
end
section
def Mb:MF:={nargs:=2,sH:=3,pure:=true,names:=[(sq "scope",0),(sq "values",1)],body:=[.ret (.bt .tuple [.comp [2] (.item (.var 1) (.var 2)) [.g (.var 2) (.e (.var 0)) []]])]}
def He:MF:={nargs:=2,sH:=9,pure:=true,names:=[(sq "told",0),(sq "values",1),(sq "name",2),(sq "coefs",3),(sq "scope",4),(sq "c",5),(sq "total",6),(sq "coef",7),(sq "x",8)],body:=[.asg (.tup [.var 2, .var 3, .var 4, .var 5]) (.e (.var 0)), .asg (.var 6) (.e (.c (.int 0))), .ua (.tup [.var 7, .var 8]) (.zip (.var 3) (.var 4)) [.asg (.var 6) (.e (.bin .Add (.var 6) (.bin .Mult (.var 7) (.item (.var 1) (.var 8)))))], .if_ (.cmp (.var 2) [.Eq] [.c (.str 33)]) [.ret (.cmp (.var 6) [.LtE] [.var 5])] [], .ret (.cmp (.cmp (.var 6) [.Eq] [.var 5]) [.Eq] [.cmp (.var 2) [.Eq] [.c (.str 32)]])]}
def Hf:MF:={nargs:=2,sH:=5,pure:=true,names:=[(sq "told",0),(sq "values",1),(sq "name",2),(sq "some",3),(sq "at",4)],body:=[.asg (.var 2) (.e (.item (.var 0) (.c (.int 0)))), .if_ (.cmp (.var 2) [.Eq] [.c (.str 15)]) [.ret .bad] [], .if_ (.cmp (.var 2) [.Eq] [.c (.str 55)]) [.ret (.cmp (.call 0 [.item (.var 0) (.c (.int 1)), .var 1]) [.In] [.item (.var 0) (.c (.int 2))])] [], .if_ (.cmp (.var 2) [.Eq] [.c (.str 28)]) [.ret .bad] [], .asg (.var 3) (.e (.ite (.cmp (.var 2) [.Eq] [.c (.str 21)]) (.call 0 [.item (.var 0) (.c (.int 2)), .var 1]) (.item (.var 0) (.c (.int 2))))), .asg (.var 4) (.e (.item (.var 1) (.item (.var 0) (.c (.int 1))))), .ret (.bool true [.cmp (.c (.int 1)) [.LtE, .LtE] [.var 4, .bt .len [.var 3]], .cmp (.item (.var 3) (.bin .Sub (.var 4) (.c (.int 1)))) [.Eq] [.item (.var 1) (.item (.var 0) (.c (.int 3)))]])]}
def I4:MF:={nargs:=2,sH:=8,pure:=true,names:=[(sq "told",0),(sq "values",1),(sq "name",2),(sq "some",3),(sq "often",4),(sq "unlike",5)],body:=[.asg (.tup [.var 2, .var 3]) (.tup [.e (.item (.var 0) (.c (.int 0))), .e (.call 0 [.item (.var 0) (.c (.int 1)), .var 1])]), .if_ (.cmp (.var 2) [.Eq] [.c (.str 17)]) [.ret (.cmp (.uh .count (.var 3) [.item (.var 0) (.c (.int 2))]) [.Eq] [.item (.var 1) (.item (.var 0) (.c (.int 3)))])] [], .if_ (.cmp (.var 2) [.Eq] [.c (.str 14)]) [.asg (.var 4) (.e (.comp [6] (.uh .count (.var 3) [.var 6]) [.g (.var 6) (.e (.item (.var 0) (.c (.int 2)))) []])), .ret .bad] [], .asg (.var 5) (.e (.bt .len [.comp [7] (.var 7) [.g (.var 7) (.e (.bt .vE [.bt .len [.var 3]])) [.cmp (.item (.var 3) (.var 7)) [.NotIn] [.slice (.var 3) (.c .none) (.var 7) (.c .none)]]]])), .ret (.cmp (.var 5) [.Eq] [.ite (.cmp (.var 2) [.Eq] [.c (.str 9)]) (.bt .len [.var 3]) (.item (.var 1) (.item (.var 0) (.c (.int 2))))])]}
def I6:MF:={nargs:=2,sH:=6,pure:=true,names:=[(sq "told",0),(sq "values",1),(sq "name",2),(sq "some",3),(sq "one",4),(sq "other",5)],body:=[.asg (.var 2) (.e (.item (.var 0) (.c (.int 0)))), .if_ (.cmp (.var 2) [.Eq] [.c (.str 46)]) [.asg (.var 3) (.e (.call 0 [.item (.var 0) (.c (.int 3)), .var 1])), .ret .bad] [], .asg (.var 4) (.e (.call 0 [.item (.var 0) (.c (.int 1)), .var 1])), .if_ (.cmp (.var 2) [.Eq] [.c (.str 27)]) [.ret (.cmp (.bt .list [.var 4]) [.Eq] [.bt .sorted [.var 4]])] [], .asg (.var 5) (.e (.call 0 [.item (.var 0) (.c (.int 2)), .var 1])), .ret (.ite (.cmp (.var 2) [.Eq] [.c (.str 29)]) (.cmp (.var 4) [.LtE] [.var 5]) (.cmp (.var 4) [.Lt] [.var 5]))]}
def WF:MF:={nargs:=2,sH:=3,pure:=true,names:=[(sq "told",0),(sq "values",1),(sq "name",2)],body:=[.asg (.var 2) (.e (.item (.var 0) (.c (.int 0)))), .if_ (.cmp (.var 2) [.In] [.glob 0]) [.ret (.call 1 [.var 0, .var 1])] [], .if_ (.cmp (.var 2) [.In] [.glob 1]) [.ret .bad] [], .if_ (.cmp (.var 2) [.In] [.glob 2]) [.ret (.call 2 [.var 0, .var 1])] [], .if_ (.cmp (.var 2) [.In] [.glob 3]) [.ret (.call 3 [.var 0, .var 1])] [], .if_ (.cmp (.var 2) [.In] [.glob 4]) [.ret .bad] [], .if_ (.cmp (.var 2) [.In] [.glob 5]) [.ret (.call 4 [.var 0, .var 1])] [], .if_ (.cmp (.var 2) [.Eq] [.c (.str 48)]) [.ret .bad] [], .if_ (.cmp (.var 2) [.Eq] [.c (.str 49)]) [.ret (.cmp (.call 1 [.item (.var 0) (.c (.int 2)), .var 1]) [.Eq] [.cmp (.item (.var 1) (.item (.var 0) (.c (.int 1)))) [.Eq] [.c (.int 1)]])] [], .if_ (.cmp (.var 2) [.Eq] [.c (.str 25)]) [.ret (.bool false [.cmp (.item (.var 1) (.item (.var 0) (.c (.int 1)))) [.Eq] [.c (.int 0)], .call 1 [.item (.var 0) (.c (.int 2)), .var 1]])] [], .ret .bad]}
def I7:MF:={nargs:=1,sH:=2,pure:=true,names:=[(sq "told",0),(sq "name",1)],body:=[.asg (.var 1) (.e (.item (.var 0) (.c (.int 0)))), .if_ (.bool false [.cmp (.var 1) [.Eq] [.c (.str 49)], .cmp (.var 1) [.Eq] [.c (.str 25)]]) [.ret (.bin .Add (.list [.item (.var 0) (.c (.int 1))]) (.bt .list [.item (.item (.var 0) (.c (.int 2))) (.c (.int 2))]))] [], .if_ (.cmp (.var 1) [.In] [.glob 0]) [.ret (.bt .list [.item (.var 0) (.c (.int 2))])] [], .if_ (.cmp (.var 1) [.In] [.tup [.c (.str 56), .c (.str 20), .c (.str 40), .c (.str 5), .c (.str 59)]]) [.ret (.bt .list [.slice (.var 0) (.c (.int 1)) (.c .none) (.c .none)])] [], .if_ (.cmp (.var 1) [.In] [.tup [.c (.str 36), .c (.str 38), .c (.str 10), .c (.str 45), .c (.str 44)]]) [.ret (.bin .Add (.bt .list [.item (.var 0) (.c (.int 1))]) (.list [.item (.var 0) (.c (.int 2))]))] [], .if_ (.cmp (.var 1) [.In] [.tup [.c (.str 28), .c (.str 29), .c (.str 30), .c (.str 16)]]) [.ret (.bin .Add (.bt .list [.item (.var 0) (.c (.int 1))]) (.bt .list [.item (.var 0) (.c (.int 2))]))] [], .if_ (.cmp (.var 1) [.Eq] [.c (.str 21)]) [.ret (.bin .Add (.bin .Add (.list [.item (.var 0) (.c (.int 1))]) (.bt .list [.item (.var 0) (.c (.int 2))])) (.list [.item (.var 0) (.c (.int 3))]))] [], .if_ (.cmp (.var 1) [.Eq] [.c (.str 22)]) [.ret (.list [.item (.var 0) (.c (.int 1)), .item (.var 0) (.c (.int 3))])] [], .if_ (.cmp (.var 1) [.Eq] [.c (.str 17)]) [.ret (.bin .Add (.bt .list [.item (.var 0) (.c (.int 1))]) (.list [.item (.var 0) (.c (.int 3))]))] [], .ret (.bt .list [.ite (.cmp (.var 1) [.Eq] [.c (.str 46)]) (.item (.var 0) (.c (.int 3))) (.item (.var 0) (.c (.int 1)))])]}
def P4:MF:={nargs:=1,sH:=3,pure:=true,names:=[(sq "told",0),(sq "found",1),(sq "x",2)],body:=[.asg (.var 1) .newList, .ua (.var 2) (.e (.call 6 [.var 0])) [.if_ (.cmp (.var 2) [.NotIn] [.var 1]) [.expr (.uh .append (.var 1) [.var 2])] []], .ret (.bt .tuple [.var 1])]}
def Ym:MF:={nargs:=1,sH:=3,pure:=true,names:=[(sq "d",0)],body:=[.ret (.bt .sum [.comp [1,2] (.bin .Add (.bin .Sub (.var 2) (.var 1)) (.c (.int 1))) [.g (.tup [.var 1, .var 2]) (.e (.var 0)) []]])]}
def Mc:MF:={nargs:=2,sH:=4,pure:=true,names:=[(sq "d",0),(sq "v",1),(sq "low",2),(sq "high",3)],body:=[.ua (.tup [.var 2, .var 3]) (.e (.var 0)) [.if_ (.cmp (.var 1) [.LtE] [.var 3]) [.ret (.bt .max2 [.var 2, .var 1])] []], .ret (.c .none)]}
def aaF:MF:={nargs:=2,sH:=2,pure:=true,names:=[(sq "d",0),(sq "v",1)],body:=[.ret (.cmp (.call 9 [.var 0, .var 1]) [.Eq] [.var 1])]}
def Ti:MF:={nargs:=1,sH:=4,pure:=true,names:=[(sq "d",0),(sq "found",1),(sq "low",2),(sq "high",3)],body:=[.asg (.var 1) .newList, .ua (.tup [.var 2, .var 3]) (.e (.var 0)) [.expr (.uh .extend (.var 1) [.bt .AQ [.var 2, .bin .Add (.var 3) (.c (.int 1))]])], .ret (.var 1)]}
def WG:MF:={nargs:=2,sH:=4,pure:=true,names:=[(sq "d",0),(sq "k",1)],body:=[.ret (.bt .tuple [.comp [2,3] (.tup [.var 2, .bt .min2 [.var 3, .var 1]]) [.g (.tup [.var 2, .var 3]) (.e (.var 0)) [.cmp (.var 2) [.LtE] [.var 1]]]])]}
def P5:MF:={nargs:=2,sH:=4,pure:=true,names:=[(sq "d",0),(sq "k",1)],body:=[.ret (.bt .tuple [.comp [2,3] (.tup [.bt .max2 [.var 2, .var 1], .var 3]) [.g (.tup [.var 2, .var 3]) (.e (.var 0)) [.cmp (.var 3) [.GtE] [.var 1]]]])]}
def P6:MF:={nargs:=2,sH:=2,pure:=true,names:=[(sq "d",0),(sq "v",1)],body:=[.ret (.bin .Add (.call 12 [.var 0, .bin .Sub (.var 1) (.c (.int 1))]) (.call 13 [.var 0, .bin .Add (.var 1) (.c (.int 1))]))]}
def Yn:MF:={nargs:=2,sH:=7,pure:=true,names:=[(sq "d",0),(sq "e",1),(sq "found",2),(sq "i",3),(sq "j",4),(sq "low",5),(sq "high",6)],body:=[.asg (.tup [.var 2, .var 3, .var 4]) (.tup [.newList, .e (.c (.int 0)), .e (.c (.int 0))]), .wP (.bool true [.cmp (.var 3) [.Lt] [.bt .len [.var 0]], .cmp (.var 4) [.Lt] [.bt .len [.var 1]]]) [.asg (.tup [.var 5, .var 6]) (.tup [.e (.bt .max2 [.item (.item (.var 0) (.var 3)) (.c (.int 0)), .item (.item (.var 1) (.var 4)) (.c (.int 0))]), .e (.bt .min2 [.item (.item (.var 0) (.var 3)) (.c (.int 1)), .item (.item (.var 1) (.var 4)) (.c (.int 1))])]), .if_ (.cmp (.var 5) [.LtE] [.var 6]) [.expr (.uh .append (.var 2) [.tup [.var 5, .var 6]])] [], .if_ (.cmp (.item (.item (.var 0) (.var 3)) (.c (.int 1))) [.Lt] [.item (.item (.var 1) (.var 4)) (.c (.int 1))]) [.asg (.var 3) (.e (.bin .Add (.var 3) (.c (.int 1))))] [.asg (.var 4) (.e (.bin .Add (.var 4) (.c (.int 1))))]], .ret (.bt .tuple [.var 2])]}
def Af:MF:={nargs:=1,sH:=4,pure:=true,names:=[(sq "literal",0),(sq "x",1),(sq "sign",2),(sq "k",3)],body:=[.asg (.tup [.var 1, .var 2, .var 3]) (.e (.var 0)), .if_ (.cmp (.var 2) [.Eq] [.c (.str 2)]) [.ret (.tup [.var 1, .c (.str 4), .bin .Add (.var 3) (.c (.int 1))])] [], .if_ (.cmp (.var 2) [.Eq] [.c (.str 4)]) [.ret (.tup [.var 1, .c (.str 2), .bin .Sub (.var 3) (.c (.int 1))])] [], .ret (.ite (.cmp (.var 2) [.Eq] [.c (.str 3)]) (.tup [.var 1, .c (.str 1), .var 3]) (.tup [.var 1, .c (.str 3), .var 3]))]}
def Tj:MF:={nargs:=2,sH:=4,pure:=true,names:=[(sq "literal",0),(sq "d",1),(sq "sign",2),(sq "k",3)],body:=[.asg (.tup [.var 2, .var 3]) (.tup [.e (.item (.var 0) (.c (.int 1))), .e (.item (.var 0) (.c (.int 2)))]), .if_ (.cmp (.var 2) [.Eq] [.c (.str 2)]) [.ret (.call 12 [.var 1, .var 3])] [], .if_ (.cmp (.var 2) [.Eq] [.c (.str 4)]) [.ret (.call 13 [.var 1, .var 3])] [], .ret (.ite (.cmp (.var 2) [.Eq] [.c (.str 3)]) (.call 15 [.var 1, .tup [.tup [.var 3, .var 3]]]) (.call 14 [.var 1, .var 3]))]}
def Gf:MF:={nargs:=1,sH:=1,pure:=true,names:=[(sq "thing",0)],body:=[.ret (.bool true [.isA (.var 0) .int, .not (.isA (.var 0) .bool)])]}
def JM:MF:={nargs:=2,sH:=2,pure:=true,names:=[(sq "a",0),(sq "b",1)],body:=[.asg (.var 1) (.e (.bt .abs [.var 1])), .wP (.cmp (.var 1) [.NotEq] [.c (.int 0)]) [.asg (.tup [.var 0, .var 1]) (.tup [.e (.var 1), .e (.bin .Mod (.var 0) (.var 1))])], .ret (.var 0)]}
def Ie:MF:={nargs:=2,sH:=3,pure:=false,names:=[(sq "feed",0),(sq "many",1),(sq "spot",2)],body:=[.asg (.var 2) (.e (.item (.var 0) (.c (.int 1)))), .asg (.item (.var 0) (.c (.int 1))) (.e (.bin .Add (.var 2) (.c (.int 1)))), .if_ (.cmp (.var 2) [.Lt] [.bt .len [.item (.var 0) (.c (.int 0))]]) [.ret (.bin .Mod (.item (.item (.var 0) (.c (.int 0))) (.var 2)) (.var 1))] [], .ret (.bin .Mod (.bin .Mod (.bin .Add (.bin .Add (.bin .Mult (.bin .Mult (.c (.int 7)) (.var 2)) (.var 2)) (.bin .Mult (.c (.int 3)) (.var 2))) (.bt .len [.item (.var 0) (.c (.int 0))])) (.c (.int 103))) (.var 1))]}
def CK:MF:={nargs:=1,sH:=4,pure:=false,names:=[(sq "feed",0),(sq "way",1),(sq "c",2)],body:=[.asg (.tup [.var 1, .var 2]) (.tup [.e (.call 20 [.var 0, .c (.int 7)]), .e (.call 20 [.var 0, .c (.int 5)])]), .if_ (.cmp (.var 1) [.Lt] [.c (.int 3)]) [.ret (.tup [.item (.tup [.c (.str 33), .c (.str 34), .c (.str 32)]) (.var 1), .tup [.c (.int 1), .item (.tup [.c (.int 1), .neg (.c (.int 1)), .c (.int 2)]) (.bin .Mod (.var 2) (.c (.int 3)))], .tup [.c (.int 0), .c (.int 1)], .var 2])] [], .if_ (.cmp (.var 1) [.Eq] [.c (.int 3)]) [.ret (.tup [.c (.str 9), .tup [.c (.int 0), .c (.int 1)], .c (.str 58)])] [], .if_ (.cmp (.var 1) [.Eq] [.c (.int 4)]) [.ret (.tup [.c (.str 55), .tup [.c (.int 0), .c (.int 1)], .bt .tuple [.comp [3] (.tup [.var 3, .bin .Mod (.bin .Add (.var 3) (.var 2)) (.c (.int 3))]) [.g (.var 3) (.e (.bt .vE [.var 2])) []]]])] [], .ret (.ite (.cmp (.var 1) [.Eq] [.c (.int 5)]) (.tup [.c (.str 30), .tup [.c (.int 0)], .tup [.c (.int 1)]]) (.tup [.c (.str 27), .tup [.c (.int 0), .c (.int 1)]]))]}
def Md:MF:={nargs:=2,sH:=5,pure:=true,names:=[(sq "told",0),(sq "pair",1),(sq "a",2),(sq "b",3),(sq "total",4)],body:=[.asg (.tup [.var 2, .var 3]) (.e (.var 1)), .if_ (.cmp (.slice (.item (.var 0) (.c (.int 0))) (.c .none) (.c (.int 6)) (.c .none)) [.Eq] [.c (.str 31)]) [.asg (.var 4) (.e (.bin .Add (.bin .Mult (.item (.item (.var 0) (.c (.int 1))) (.c (.int 0))) (.var 2)) (.bin .Mult (.item (.item (.var 0) (.c (.int 1))) (.c (.int 1))) (.var 3)))), .ret (.ite (.cmp (.item (.var 0) (.c (.int 0))) [.Eq] [.c (.str 33)]) (.cmp (.var 4) [.LtE] [.item (.var 0) (.c (.int 3))]) (.cmp (.cmp (.var 4) [.Eq] [.item (.var 0) (.c (.int 3))]) [.Eq] [.cmp (.item (.var 0) (.c (.int 0))) [.Eq] [.c (.str 32)]]))] [], .if_ (.cmp (.item (.var 0) (.c (.int 0))) [.Eq] [.c (.str 55)]) [.ret (.cmp (.tup [.var 2, .var 3]) [.In] [.item (.var 0) (.c (.int 2))])] [], .ret (.ite (.cmp (.item (.var 0) (.c (.int 0))) [.Eq] [.c (.str 9)]) (.cmp (.var 2) [.NotEq] [.var 3]) (.ite (.cmp (.item (.var 0) (.c (.int 0))) [.Eq] [.c (.str 30)]) (.cmp (.var 2) [.Lt] [.var 3]) (.cmp (.var 2) [.LtE] [.var 3])))]}
def Ag:MF:={nargs:=2,sH:=4,pure:=true,names:=[(sq "literal",0),(sq "v",1),(sq "sign",2),(sq "k",3)],body:=[.asg (.tup [.var 2, .var 3]) (.tup [.e (.item (.var 0) (.c (.int 1))), .e (.item (.var 0) (.c (.int 2)))]), .if_ (.cmp (.var 2) [.Eq] [.c (.str 2)]) [.ret (.cmp (.var 1) [.LtE] [.var 3])] [], .if_ (.cmp (.var 2) [.Eq] [.c (.str 4)]) [.ret (.cmp (.var 1) [.GtE] [.var 3])] [], .ret (.cmp (.cmp (.var 1) [.Eq] [.var 3]) [.Eq] [.cmp (.var 2) [.Eq] [.c (.str 3)]])]}
def xv:MF:={nargs:=3,sH:=14,pure:=true,names:=[(sq "lots",0),(sq "tolds",1),(sq "goal",2),(sq "steps",3),(sq "barred",4),(sq "best",5),(sq "a",6),(sq "b",7),(sq "against",8),(sq "said",9),(sq "places",10),(sq "premises",11)],body:=[.asg (.tup [.var 3, .var 4, .var 5]) (.tup [.newList, .newDict, .e (.c .none)]), .ua (.var 6) (.e (.item (.var 0) (.c (.int 0)))) [.ua (.var 7) (.e (.item (.var 0) (.c (.int 1)))) [.asg (.var 8) (.e (.comp [12] (.var 12) [.g (.var 12) (.e (.bt .vE [.bt .len [.var 1]])) [.not (.call 22 [.item (.var 1) (.var 12), .tup [.var 6, .var 7]])]])), .if_ (.cmp (.var 8) [.NotEq] [.list []]) [.asg (.item (.var 4) (.tup [.var 6, .var 7])) (.e (.bt .len [.var 3])), .expr (.uh .append (.var 3) [.tup [.c (.str 54), .tup [.tup [.c (.int 0), .c (.str 1), .var 6], .tup [.c (.int 1), .c (.str 1), .var 7]], .tup [], .item (.var 8) (.c (.int 0))]])] [.if_ (.cmp (.item (.var 2) (.c (.int 0))) [.Eq] [.c (.str 51)]) [.asg (.item (.var 4) (.tup [.var 6, .var 7])) (.e (.bt .len [.var 3])), .expr (.uh .append (.var 3) [.tup [.c (.str 52), .tup [.tup [.c (.int 0), .c (.str 1), .var 6], .tup [.c (.int 1), .c (.str 1), .var 7]], .tup [], .tup [.var 6, .var 7]]])] [.if_ (.bool false [.cmp (.var 5) [.Is] [.c .none], .bool true [.cmp (.cmp (.var 7) [.Lt] [.item (.item (.item (.var 3) (.var 5)) (.c (.int 3))) (.c (.int 1))]) [.Eq] [.cmp (.item (.var 2) (.c (.int 0))) [.Eq] [.c (.str 39)]], .cmp (.var 7) [.NotEq] [.item (.item (.item (.var 3) (.var 5)) (.c (.int 3))) (.c (.int 1))]]]) [.asg (.var 5) (.e (.bt .len [.var 3])), .asg (.var 9) (.e (.ite (.cmp (.item (.var 2) (.c (.int 0))) [.Eq] [.c (.str 39)]) (.tup [.c (.int 1), .c (.str 2), .bin .Sub (.var 7) (.c (.int 1))]) (.tup [.c (.int 1), .c (.str 4), .bin .Add (.var 7) (.c (.int 1))]))), .expr (.uh .append (.var 3) [.tup [.c (.str 13), .tup [.var 9], .tup [], .tup [.var 6, .var 7]]])] []]]]], .asg (.var 10) .newList, .ua (.var 6) (.e (.item (.var 0) (.c (.int 0)))) [.asg (.var 11) (.e (.comp [13] (.item (.var 4) (.tup [.var 6, .var 13])) [.g (.var 13) (.e (.item (.var 0) (.c (.int 1)))) [.cmp (.tup [.var 6, .var 13]) [.In] [.var 4]]])), .expr (.uh .append (.var 10) [.bt .len [.var 3]]), .expr (.uh .append (.var 3) [.tup [.c (.str 41), .tup [.tup [.c (.int 0), .c (.str 1), .var 6]], .bt .tuple [.bin .Add (.var 11) (.ite (.cmp (.var 5) [.Is] [.c .none]) (.list []) (.list [.var 5]))], .c .none]])], .expr (.uh .append (.var 3) [.tup [.c (.str 41), .tup [], .bt .tuple [.var 10], .c .none]]), .ret (.var 3)]}
def yX:MF:={nargs:=1,sH:=1,pure:=true,names:=[(sq "thing_in",0)],body:=[.ret (.bool true [.isA (.var 0) .int, .not (.isA (.var 0) .bool)])]}
def Bf:MF:={nargs:=1,sH:=2,pure:=true,names:=[(sq "clause",0),(sq "literal",1)],body:=[.ua (.var 1) (.e (.var 0)) [.if_ (.bool false [.cmp (.item (.var 1) (.c (.int 0))) [.NotIn] [.tup [.c (.int 0), .c (.int 1)]], .cmp (.item (.var 1) (.c (.int 1))) [.NotIn] [.tup [.c (.str 2), .c (.str 4), .c (.str 3), .c (.str 1)]]]) [.ret (.c (.bool false))] []], .ret (.cmp (.bt .list [.var 0]) [.Eq] [.bt .u7 [.var 0]])]}
def zW:MF:={nargs:=3,sH:=15,pure:=true,names:=[(sq "lots",0),(sq "clause",1),(sq "lines",2),(sq "left",3),(sq "line",4),(sq "able",5),(sq "x",6)],body:=[.asg (.var 3) (.own (.comp [7] (.comp [8] (.var 8) [.g (.var 8) (.e (.item (.var 0) (.var 7))) [.cmp (.comp [9] (.var 9) [.g (.var 9) (.e (.var 1)) [.bool true [.cmp (.item (.var 9) (.c (.int 0))) [.Eq] [.var 7], .call 23 [.var 9, .var 8]]]]) [.Eq] [.list []]]]) [.g (.var 7) (.e (.tup [.c (.int 0), .c (.int 1)])) []])), .if_ (.cmp (.list []) [.In] [.var 3]) [.ret (.c (.bool true))] [], .ua (.var 4) (.e (.var 2)) [.if_ (.cmp (.comp [10] (.var 10) [.g (.var 10) (.e (.var 4)) [.cmp (.comp [11] (.var 11) [.g (.var 11) (.e (.item (.var 3) (.item (.var 10) (.c (.int 0))))) [.not (.call 23 [.var 10, .var 11])]]) [.Eq] [.list []]]]) [.NotEq] [.list []]) [.cont] [], .asg (.var 5) (.e (.comp [12] (.var 12) [.g (.var 12) (.e (.var 4)) [.cmp (.comp [13] (.var 13) [.g (.var 13) (.e (.item (.var 3) (.item (.var 12) (.c (.int 0))))) [.call 23 [.var 12, .var 13]]]) [.NotEq] [.list []]]])), .if_ (.cmp (.var 5) [.Eq] [.list []]) [.ret (.c (.bool true))] [], .if_ (.cmp (.bt .len [.var 5]) [.Gt] [.c (.int 1)]) [.ret (.c (.bool false))] [], .asg (.var 6) (.e (.item (.item (.var 5) (.c (.int 0))) (.c (.int 0)))), .asg (.item (.var 3) (.var 6)) (.e (.comp [14] (.var 14) [.g (.var 14) (.e (.item (.var 3) (.var 6))) [.call 23 [.item (.var 5) (.c (.int 0)), .var 14]]]))], .ret (.c (.bool false))]}
def vR:MF:={nargs:=4,sH:=22,pure:=false,names:=[(sq "scene",0),(sq "steps",1),(sq "number",2),(sq "told_apart",3),(sq "lots",4),(sq "tolds",5),(sq "goal",6),(sq "rule",7),(sq "clause",8),(sq "premises",9),(sq "note",10),(sq "a",11),(sq "b",12),(sq "due",13)],body:=[.asg (.tup [.var 4, .var 5, .var 6]) (.e (.var 0)), .asg (.tup [.var 7, .var 8, .var 9, .var 10]) (.e (.item (.var 1) (.var 2))), .if_ (.bool false [.not (.call 26 [.var 8]), .cmp (.comp [14] (.var 14) [.g (.var 14) (.e (.var 9)) [.not (.cmp (.c (.int 0)) [.LtE, .Lt] [.var 14, .var 2])]]) [.NotEq] [.list []]]) [.ret (.c (.bool false))] [], .if_ (.cmp (.var 7) [.Eq] [.c (.str 41)]) [.ret (.call 27 [.var 4, .var 8, .comp [15] (.item (.item (.var 1) (.var 15)) (.c (.int 1))) [.g (.var 15) (.e (.var 9)) []]])] [], .if_ (.bool false [.cmp (.var 9) [.NotEq] [.tup []], .cmp (.var 7) [.NotIn] [.tup [.c (.str 54), .c (.str 13), .c (.str 52)]]]) [.ret (.c (.bool false))] [], .if_ (.cmp (.var 7) [.Eq] [.c (.str 54)]) [.if_ (.bool false [.not (.call 25 [.var 10]), .not (.cmp (.c (.int 0)) [.LtE, .Lt] [.var 10, .bt .len [.var 5]])]) [.ret (.c (.bool false))] [], .ua (.var 11) (.e (.item (.var 4) (.c (.int 0)))) [.ua (.var 12) (.e (.item (.var 4) (.c (.int 1)))) [.if_ (.bool true [.cmp (.comp [16] (.var 16) [.g (.var 16) (.e (.var 8)) [.call 23 [.var 16, .item (.tup [.var 11, .var 12]) (.item (.var 16) (.c (.int 0)))]]]) [.Eq] [.list []], .call 22 [.item (.var 5) (.var 10), .tup [.var 11, .var 12]]]) [.ret (.c (.bool false))] []]], .ret (.c (.bool true))] [], .if_ (.bool false [.not (.isA (.var 10) .tuple), .cmp (.bt .len [.var 10]) [.NotEq] [.c (.int 2)], .cmp (.comp [17] (.var 17) [.g (.var 17) (.e (.tup [.c (.int 0), .c (.int 1)])) [.bool false [.not (.call 25 [.item (.var 10) (.var 17)]), .cmp (.item (.var 10) (.var 17)) [.NotIn] [.item (.var 4) (.var 17)]]]]) [.NotEq] [.list []]]) [.ret (.c (.bool false))] [], .if_ (.cmp (.comp [18] (.var 18) [.g (.var 18) (.e (.var 5)) [.not (.call 22 [.var 18, .var 10])]]) [.NotEq] [.list []]) [.ret (.c (.bool false))] [], .if_ (.cmp (.var 7) [.Eq] [.c (.str 13)]) [.asg (.var 13) (.e (.due 10 6)), .ret (.bool true [.cmp (.var 13) [.IsNot] [.c .none], .cmp (.var 8) [.Eq] [.tup [.var 13]]])] [], .if_ (.bool false [.cmp (.var 8) [.NotEq] [.bt .tuple [.comp [19] (.tup [.item (.var 19) (.c (.int 0)), .c (.str 1), .item (.var 10) (.item (.var 19) (.c (.int 0)))]) [.g (.var 19) (.e (.var 8)) []]]], .cmp (.var 8) [.In] [.var 3]]) [.ret (.c (.bool false))] [], .if_ (.bool true [.cmp (.var 3) [.NotEq] [.list []], .cmp (.comp [20] (.item (.var 20) (.c (.int 0))) [.g (.var 20) (.e (.item (.var 3) (.c (.int 0)))) []]) [.NotEq] [.comp [21] (.item (.var 21) (.c (.int 0))) [.g (.var 21) (.e (.var 8)) []]]]) [.ret (.c (.bool false))] [], .expr (.uh .append (.var 3) [.var 8]), .ret (.c (.bool true))]}
def Ig:MF:={nargs:=2,sH:=4,pure:=true,names:=[(sq "scene",0),(sq "steps",1),(sq "told_apart",2),(sq "number",3)],body:=[.asg (.var 2) .newList, .ua (.var 3) (.e (.bt .vE [.bt .len [.var 1]])) [.if_ (.not (.call 28 [.var 0, .var 1, .var 3, .var 2])) [.ret (.var 3)] []], .ret (.ite (.cmp (.item (.item (.var 1) (.neg (.c (.int 1)))) (.c (.int 1))) [.Eq] [.tup []]) (.c .none) (.c (.str 23)))]}
def zG:MF:={nargs:=2,sH:=3,pure:=false,names:=[(sq "feed",0),(sq "literal",1),(sq "way",2)],body:=[.asg (.var 2) (.e (.call 20 [.var 0, .c (.int 4)])), .if_ (.cmp (.var 2) [.Lt] [.c (.int 2)]) [.ret (.tup [.item (.var 1) (.c (.int 0)), .item (.var 1) (.c (.int 1)), .bin .Sub (.bin .Add (.item (.var 1) (.c (.int 2))) (.bin .Mult (.c (.int 2)) (.var 2))) (.c (.int 1))])] [], .ret (.ite (.cmp (.var 2) [.Eq] [.c (.int 2)]) (.tup [.bin .Sub (.c (.int 1)) (.item (.var 1) (.c (.int 0))), .item (.var 1) (.c (.int 1)), .item (.var 1) (.c (.int 2))]) (.tup [.item (.var 1) (.c (.int 0)), .item (.tup [.c (.str 2), .c (.str 4), .c (.str 3)]) (.call 20 [.var 0, .c (.int 3)]), .item (.var 1) (.c (.int 2))]))]}
def Ah:MF:={nargs:=3,sH:=11,pure:=false,names:=[(sq "feed",0),(sq "steps",1),(sq "number",2),(sq "rule",3),(sq "clause",4),(sq "premises",5),(sq "note",6),(sq "deal",7),(sq "some",8),(sq "k",9),(sq "late",10)],body:=[.asg (.tup [.var 3, .var 4, .var 5, .var 6]) (.e (.item (.var 1) (.var 2))), .asg (.tup [.var 7, .var 8]) (.tup [.e (.call 20 [.var 0, .c (.int 8)]), .e (.bt .list [.var 4])]), .if_ (.bool true [.cmp (.var 7) [.Lt] [.c (.int 3)], .cmp (.var 8) [.NotEq] [.list []]]) [.asg (.var 9) (.e (.call 20 [.var 0, .bt .len [.var 8]])), .asg (.var 10) (.e (.bin .Add (.bin .Add (.slice (.var 8) (.c .none) (.var 9) (.c .none)) (.ite (.cmp (.var 7) [.Eq] [.c (.int 0)]) (.list []) (.list [.call 30 [.var 0, .item (.var 8) (.var 9)]]))) (.slice (.var 8) (.bin .Add (.var 9) (.c (.int 1))) (.c .none) (.c .none)))), .ret (.tup [.var 3, .bt .tuple [.bt .u7 [.var 10]], .var 5, .var 6])] [], .if_ (.bool true [.cmp (.var 7) [.Eq] [.c (.int 3)], .cmp (.var 5) [.NotEq] [.tup []]]) [.ret (.tup [.var 3, .var 4, .slice (.var 5) (.c (.int 1)) (.c .none) (.c .none), .var 6])] [], .if_ (.bool true [.cmp (.var 7) [.Eq] [.c (.int 4)], .cmp (.var 5) [.NotEq] [.tup []]]) [.asg (.var 9) (.e (.call 20 [.var 0, .bt .len [.var 5]])), .ret (.tup [.var 3, .var 4, .bin .Add (.bin .Add (.slice (.var 5) (.c .none) (.var 9) (.c .none)) (.tup [.call 20 [.var 0, .bin .Add (.var 2) (.c (.int 1))]])) (.slice (.var 5) (.bin .Add (.var 9) (.c (.int 1))) (.c .none) (.c .none)), .var 6])] [], .if_ (.cmp (.var 7) [.Eq] [.c (.int 5)]) [.ret (.tup [.item (.tup [.c (.str 54), .c (.str 41), .c (.str 13), .c (.str 52), .c (.str 42)]) (.call 20 [.var 0, .c (.int 5)]), .var 4, .var 5, .var 6])] [], .if_ (.bool true [.cmp (.var 7) [.Eq] [.c (.int 6)], .cmp (.bt .len [.var 8]) [.Gt] [.c (.int 1)]]) [.ret (.tup [.var 3, .slice (.var 4) (.c .none) (.c .none) (.neg (.c (.int 1))), .var 5, .var 6])] [], .ret (.tup [.var 3, .var 4, .var 5, .item (.item (.var 1) (.call 20 [.var 0, .bt .len [.var 1]])) (.c (.int 3))])]}
def t7:MF:={nargs:=3,sH:=13,pure:=false,names:=[(sq "checker",0),(sq "scene",1),(sq "steps",2),(sq "log",3),(sq "due",4),(sq "told",5),(sq "kinds",6),(sq "many",7),(sq "apart",8),(sq "kind",9),(sq "fault",10)],body:=[.asg (.tup [.var 3, .var 4]) (.tup [.e (.new 0 34 []), .e (.call 29 [.var 1, .var 2])]), .asg (.attr (.var 3) 8) (.e (.var 2)), .asg (.var 5) (.e (.tt 50 (.var 0) [.var 3])), .if_ (.bool false [.bool true [.cmp (.var 4) [.Is] [.c .none], .cmp (.var 5) [.IsNot] [.c .none]], .bool true [.cmp (.var 4) [.Eq] [.c (.str 23)], .cmp (.var 5) [.NotEq] [.tup [.bin .Sub (.bt .len [.var 2]) (.c (.int 1)), .c (.str 23)]]]]) [.ret (.c (.bool false))] [], .if_ (.bool true [.call 25 [.var 4], .bool false [.cmp (.var 5) [.Is] [.c .none], .cmp (.item (.var 5) (.c (.int 0))) [.NotEq] [.var 4]]]) [.ret (.c (.bool false))] [], .asg (.var 6) (.own (.comp [11] (.item (.var 11) (.c (.int 0))) [.g (.var 11) (.e (.var 2)) []])), .asg (.tup [.var 7, .var 8]) (.tup [.e (.bin .Add (.uh .count (.var 6) [.c (.str 13)]) (.uh .count (.var 6) [.c (.str 52)])), .e (.c .none)]), .if_ (.cmp (.c (.str 52)) [.In] [.var 6]) [.asg (.var 8) (.e (.bt .tuple [.comp [12] (.item (.var 12) (.c (.int 0))) [.g (.var 12) (.e (.item (.item (.var 2) (.uh .index (.var 6) [.c (.str 52)])) (.c (.int 1)))) []]]))] [], .DG [.asg (.var 9) (.e (.ite (.cmp (.c (.str 13)) [.In] [.var 6]) (.c (.str 12)) (.ite (.cmp (.c (.str 52)) [.In] [.var 6]) (.c (.str 7)) (.c (.str 42)))))] (.var 0) [.var 3] (.tup [.var 9, .var 7, .var 8]) (.cmp (.var 5) [.Is] [.c .none]) 10 (.cmp (.var 5) [.Eq] [.tup [.attr (.var 10) 11, .attr (.var 10) 10]])]}
def Of:MF:={nargs:=1,sH:=18,pure:=false,names:=[(sq "script",0),(sq "feed",1),(sq "low",2),(sq "second",3),(sq "domains_in",4),(sq "lots",5),(sq "goal",6),(sq "tolds",7),(sq "scene",8),(sq "checker",9),(sq "steps",10),(sq "lap",11),(sq "number",12),(sq "late",13)],body:=[.asg (.var 1) (.own (.list [.bt .list [.slice (.var 0) (.c .none) (.c (.int 40)) (.c .none)], .c (.int 0)])), .asg (.var 2) (.e (.call 20 [.var 1, .c (.int 2)])), .asg (.var 3) (.e (.item (.tup [.tup [.tup [.var 2, .bin .Add (.var 2) (.c (.int 1))]], .tup [.tup [.var 2, .bin .Add (.var 2) (.c (.int 2))]], .tup [.tup [.var 2, .var 2], .tup [.bin .Add (.var 2) (.c (.int 2)), .bin .Add (.var 2) (.c (.int 2))]]]) (.call 20 [.var 1, .c (.int 3)]))), .asg (.var 4) (.e (.list [.tup [.tup [.c (.int 0), .c (.int 1)]], .var 3])), .asg (.var 5) (.e (.list [.list [.c (.int 0), .c (.int 1)], .comp [14,15,16] (.var 16) [.g (.tup [.var 14, .var 15]) (.e (.var 3)) [], .g (.var 16) (.e (.bt .AQ [.var 14, .bin .Add (.var 15) (.c (.int 1))])) []]])), .asg (.var 6) (.e (.item (.tup [.tup [.c (.str 51), .c .none], .tup [.c (.str 39), .c (.int 1)], .tup [.c (.str 37), .c (.int 1)]]) (.call 20 [.var 1, .c (.int 3)]))), .asg (.var 7) (.e (.comp [17] (.call 21 [.var 1]) [.g (.var 17) (.e (.bt .vE [.bin .Add (.c (.int 2)) (.call 20 [.var 1, .c (.int 2)])])) []])), .asg (.tup [.var 8, .var 9]) (.tup [.tup [.e (.var 5), .e (.var 7), .e (.var 6)], .e (.new 3 49 [.var 4, .var 7, .var 6, .c (.int 64)])]), .asg (.var 10) (.e (.call 24 [.var 5, .var 7, .var 6])), .if_ (.bool false [.cmp (.call 29 [.var 8, .var 10]) [.IsNot] [.c .none], .not (.call 32 [.var 9, .var 8, .var 10])]) [.ret (.c (.bool false))] [], .ua (.var 11) (.e (.bt .vE [.c (.int 5)])) [.asg (.var 12) (.e (.call 20 [.var 1, .bt .len [.var 10]])), .asg (.var 13) (.e (.bin .Add (.bin .Add (.slice (.var 10) (.c .none) (.var 12) (.c .none)) (.list [.call 31 [.var 1, .var 10, .var 12]])) (.slice (.var 10) (.bin .Add (.var 12) (.c (.int 1))) (.c .none) (.c .none)))), .if_ (.not (.call 32 [.var 9, .var 8, .var 13])) [.ret (.c (.bool false))] []], .ret (.c (.bool true))]}
def Bg:MF:={nargs:=1,sH:=1,pure:=false,names:=[(sq "self",0)],body:=[.asg (.attr (.var 0) 8) .newList, .asg (.attr (.var 0) 9) .newDict]}
def Gg:MF:={nargs:=2,sH:=2,pure:=false,names:=[(sq "self",0),(sq "domains",1)],body:=[.asg (.attr (.var 0) 0) (.e (.var 1)), .asg (.attr (.var 0) 1) .newDict]}
def DI:MF:={nargs:=2,sH:=2,pure:=true,names:=[(sq "self",0),(sq "x",1)],body:=[.ret (.uh .get (.attr (.var 0) 1) [.var 1, .item (.attr (.var 0) 0) (.var 1)])]}
def B0:MF:={nargs:=2,sH:=2,pure:=true,names:=[(sq "self",0),(sq "literal",1)],body:=[.ret (.cmp (.call 17 [.var 1, .tt 36 (.var 0) [.item (.var 1) (.c (.int 0))]]) [.NotEq] [.tup []])]}
def Bh:MF:={nargs:=2,sH:=2,pure:=true,names:=[(sq "self",0),(sq "literal",1)],body:=[.ret (.cmp (.call 17 [.var 1, .tt 36 (.var 0) [.item (.var 1) (.c (.int 0))]]) [.Eq] [.tt 36 (.var 0) [.item (.var 1) (.c (.int 0))]])]}
def Ih:MF:={nargs:=2,sH:=2,pure:=false,names:=[(sq "self",0),(sq "literal",1)],body:=[.asg (.item (.attr (.var 0) 1) (.item (.var 1) (.c (.int 0)))) (.e (.call 17 [.var 1, .tt 36 (.var 0) [.item (.var 1) (.c (.int 0))]])), .ret (.cmp (.item (.attr (.var 0) 1) (.item (.var 1) (.c (.int 0)))) [.NotEq] [.tup []])]}
def Gh:MF:={nargs:=2,sH:=3,pure:=false,names:=[(sq "self",0),(sq "clause",1),(sq "literal",2)],body:=[.ua (.var 2) (.e (.var 1)) [.if_ (.not (.tt 39 (.var 0) [.call 16 [.var 2]])) [.ret (.c (.bool false))] []], .ret (.c (.bool true))]}
def AS:MF:={nargs:=3,sH:=3,pure:=false,names:=[(sq "self",0),(sq "domains",1),(sq "most",2)],body:=[.asg (.attr (.var 0) 0) (.e (.var 1)), .asg (.attr (.var 0) 2) (.e (.var 2))]}
def zg:MF:={nargs:=3,sH:=8,pure:=true,names:=[(sq "self",0),(sq "told",1),(sq "clause",2),(sq "box",3),(sq "some",4),(sq "many",5),(sq "x",6)],body:=[.asg (.var 3) (.e (.new 1 35 [.attr (.var 0) 0])), .if_ (.not (.tt 40 (.var 3) [.var 2])) [.ret (.c (.bool true))] [], .asg (.var 4) (.e (.call 7 [.var 1])), .if_ (.bool false [.cmp (.tup []) [.In] [.comp [7] (.tt 36 (.var 3) [.var 7]) [.g (.var 7) (.e (.var 4)) []]], .tt 43 (.var 0) [.var 1, .var 3]]) [.ret (.c (.bool true))] [], .asg (.var 5) (.e (.c (.int 1))), .ua (.var 6) (.e (.var 4)) [.asg (.var 5) (.e (.bin .Mult (.var 5) (.call 8 [.tt 36 (.var 3) [.var 6]])))], .if_ (.cmp (.var 5) [.LtE] [.attr (.var 0) 2]) [.ret (.not (.tt 48 (.var 0) [.var 1, .var 4, .var 3]))] [], .if_ (.cmp (.item (.var 1) (.c (.int 0))) [.In] [.tup [.c (.str 9), .c (.str 55)]]) [.ret (.c (.bool false))] [], .zF (.c (.str 57)) (.neg (.c (.int 1)))]}
def BJ:MF:={nargs:=3,sH:=4,pure:=true,names:=[(sq "self",0),(sq "told",1),(sq "box",2)],body:=[.if_ (.cmp (.item (.var 1) (.c (.int 0))) [.In] [.tup [.c (.str 33), .c (.str 32)]]) [.ret (.tt 44 (.var 0) [.var 1, .var 2])] [], .if_ (.cmp (.item (.var 1) (.c (.int 0))) [.Eq] [.c (.str 9)]) [.ret (.bool false [.cmp (.bt .yT [.item (.var 1) (.c (.int 1))]) [.Lt] [.bt .len [.item (.var 1) (.c (.int 1))]], .not (.tt 46 (.var 0) [.comp [3] (.call 11 [.tt 36 (.var 2) [.var 3]]) [.g (.var 3) (.e (.item (.var 1) (.c (.int 1)))) []]])])] [], .if_ (.cmp (.item (.var 1) (.c (.int 0))) [.Eq] [.c (.str 55)]) [.ret (.not (.tt 45 (.var 0) [.var 1, .var 2]))] [], .ret (.c (.bool false))]}
def B3:MF:={nargs:=3,sH:=12,pure:=true,names:=[(sq "self",0),(sq "told",1),(sq "box",2),(sq "factors",3),(sq "least",4),(sq "greatest",5),(sq "lack",6),(sq "common",7),(sq "factor",8),(sq "x",9),(sq "domain",10),(sq "ends",11)],body:=[.asg (.tup [.var 3, .var 4, .var 5, .var 6, .var 7]) (.tup [.newDict, .e (.c (.int 0)), .e (.c (.int 0)), .e (.item (.var 1) (.c (.int 3))), .e (.c (.int 0))]), .ua (.tup [.var 8, .var 9]) (.zip (.item (.var 1) (.c (.int 1))) (.item (.var 1) (.c (.int 2)))) [.asg (.item (.var 3) (.var 9)) (.e (.bin .Add (.uh .get (.var 3) [.var 9, .c (.int 0)]) (.var 8)))], .ua (.var 9) (.e (.bt .sorted [.var 3])) [.asg (.var 10) (.e (.tt 36 (.var 2) [.var 9])), .asg (.var 11) (.e (.list [.bin .Mult (.item (.var 3) (.var 9)) (.item (.item (.var 10) (.c (.int 0))) (.c (.int 0))), .bin .Mult (.item (.var 3) (.var 9)) (.item (.item (.var 10) (.neg (.c (.int 1)))) (.c (.int 1)))])), .asg (.tup [.var 4, .var 5]) (.tup [.e (.bin .Add (.var 4) (.bt .min1 [.var 11])), .e (.bin .Add (.var 5) (.bt .JF [.var 11]))]), .if_ (.cmp (.item (.item (.var 10) (.c (.int 0))) (.c (.int 0))) [.Eq] [.item (.item (.var 10) (.neg (.c (.int 1)))) (.c (.int 1))]) [.asg (.var 6) (.e (.bin .Sub (.var 6) (.item (.var 11) (.c (.int 0)))))] [.asg (.var 7) (.e (.call 19 [.var 7, .item (.var 3) (.var 9)]))]], .if_ (.cmp (.var 4) [.Gt] [.item (.var 1) (.c (.int 3))]) [.ret (.c (.bool true))] [], .ret (.bool true [.cmp (.item (.var 1) (.c (.int 0))) [.Eq] [.c (.str 32)], .bool false [.cmp (.var 5) [.Lt] [.item (.var 1) (.c (.int 3))], .cmp (.ite (.cmp (.var 7) [.Gt] [.c (.int 0)]) (.bin .Mod (.var 6) (.var 7)) (.var 6)) [.NotEq] [.c (.int 0)]]])]}
def Dx:MF:={nargs:=3,sH:=7,pure:=true,names:=[(sq "self",0),(sq "told",1),(sq "box",2),(sq "row",3),(sq "given",4)],body:=[.ua (.var 3) (.e (.item (.var 1) (.c (.int 2)))) [.asg (.var 4) (.e (.wj (.item (.var 1) (.c (.int 1))) (.var 3))), .if_ (.cmp (.c (.bool false)) [.NotIn] [.comp [5,6] (.bool true [.call 10 [.tt 36 (.var 2) [.var 5], .var 6], .cmp (.item (.var 4) (.var 5)) [.Eq] [.var 6]]) [.g (.tup [.var 5, .var 6]) (.zip (.item (.var 1) (.c (.int 1))) (.var 3)) []]]) [.ret (.c (.bool true))] []], .ret (.c (.bool false))]}
def BK:MF:={nargs:=2,sH:=9,pure:=true,names:=[(sq "self",0),(sq "lots",1),(sq "owner",2),(sq "place",3),(sq "came",4),(sq "queue",5),(sq "free",6),(sq "here",7),(sq "v",8)],body:=[.asg (.var 2) .newDict, .ua (.var 3) (.e (.bt .vE [.bt .len [.var 1]])) [.asg (.tup [.var 4, .var 5, .var 6]) (.tup [.newDict, .e (.list [.var 3]), .e (.c .none)]), .wP (.bool true [.cmp (.var 5) [.NotEq] [.list []], .cmp (.var 6) [.Is] [.c .none]]) [.asg (.tup [.var 7, .var 5]) (.tup [.e (.item (.var 5) (.c (.int 0))), .e (.slice (.var 5) (.c (.int 1)) (.c .none) (.c .none))]), .ua (.var 8) (.e (.item (.var 1) (.var 7))) [.if_ (.cmp (.var 8) [.NotIn] [.var 4]) [.asg (.item (.var 4) (.var 8)) (.e (.var 7)), .if_ (.cmp (.var 8) [.NotIn] [.var 2]) [.asg (.var 6) (.e (.var 8)), .brk] [], .asg (.var 5) (.e (.bin .Add (.var 5) (.list [.item (.var 2) (.var 8)])))] []]], .if_ (.cmp (.var 6) [.Is] [.c .none]) [.ret (.c (.bool false))] [], .expr (.tt 47 (.var 0) [.var 2, .var 4, .var 6, .var 3])], .ret (.c (.bool true))]}
def Dy:MF:={nargs:=5,sH:=8,pure:=false,names:=[(sq "self",0),(sq "owner",1),(sq "came",2),(sq "free",3),(sq "place",4),(sq "here",5),(sq "left",6)],body:=[.wP (.c (.bool true)) [.asg (.var 5) (.e (.item (.var 2) (.var 3))), .asg (.var 6) (.own (.comp [7] (.var 7) [.g (.var 7) (.e (.bt .sorted [.var 2])) [.cmp (.uh .get (.var 1) [.var 7]) [.Eq] [.var 5]]])), .asg (.item (.var 1) (.var 3)) (.e (.var 5)), .if_ (.cmp (.var 5) [.Eq] [.var 4]) [.FA] [], .asg (.var 3) (.e (.item (.var 6) (.c (.int 0))))]]}
def B4:MF:={nargs:=4,sH:=9,pure:=true,names:=[(sq "self",0),(sq "told",1),(sq "some",2),(sq "box",3),(sq "lots",4),(sq "spots",5),(sq "k",6)],body:=[.asg (.var 4) (.e (.comp [7] (.call 11 [.tt 36 (.var 3) [.var 7]]) [.g (.var 7) (.e (.var 2)) []])), .asg (.var 5) (.own (.bin .Mult (.list [.c (.int 0)]) (.bt .len [.var 2]))), .wP (.c (.bool true)) [.if_ (.call 5 [.var 1, .bt .dict [.comp [8] (.tup [.item (.var 2) (.var 8), .item (.item (.var 4) (.var 8)) (.item (.var 5) (.var 8))]) [.g (.var 8) (.e (.bt .vE [.bt .len [.var 2]])) []]]]) [.ret (.c (.bool true))] [], .asg (.var 6) (.e (.bin .Sub (.bt .len [.var 2]) (.c (.int 1)))), .wP (.bool true [.cmp (.var 6) [.GtE] [.c (.int 0)], .cmp (.item (.var 5) (.var 6)) [.Eq] [.bin .Sub (.bt .len [.item (.var 4) (.var 6)]) (.c (.int 1))]]) [.asg (.item (.var 5) (.var 6)) (.e (.c (.int 0))), .asg (.var 6) (.e (.bin .Sub (.var 6) (.c (.int 1))))], .if_ (.cmp (.var 6) [.Lt] [.c (.int 0)]) [.ret (.c (.bool false))] [], .asg (.item (.var 5) (.var 6)) (.e (.bin .Add (.item (.var 5) (.var 6)) (.c (.int 1))))]]}
def z0:MF:={nargs:=5,sH:=5,pure:=false,names:=[(sq "self",0),(sq "domains",1),(sq "tolds",2),(sq "goal",3),(sq "most",4)],body:=[.asg (.attr (.var 0) 0) (.e (.var 1)), .asg (.attr (.var 0) 3) (.e (.var 2)), .asg (.attr (.var 0) 4) (.e (.var 3)), .asg (.attr (.var 0) 5) (.e (.new 2 41 [.var 1, .var 4]))]}
def z6:MF:={nargs:=2,sH:=4,pure:=false,names:=[(sq "self",0),(sq "log",1),(sq "number",2),(sq "word",3)],body:=[.asg (.tup [.attr (.var 0) 6, .attr (.var 0) 7]) (.tup [.e (.c .none), .newList]), .ua (.var 2) (.e (.bt .vE [.bt .len [.attr (.var 1) 8]])) [.asg (.var 3) (.e (.tt 52 (.var 0) [.attr (.var 1) 8, .var 2])), .if_ (.cmp (.var 3) [.NotEq] [.c (.str 0)]) [.ret (.tup [.var 2, .var 3])] []], .if_ (.bool false [.cmp (.attr (.var 1) 8) [.Eq] [.list []], .cmp (.item (.item (.attr (.var 1) 8) (.neg (.c (.int 1)))) (.c (.int 1))) [.NotEq] [.tup []]]) [.ret (.tup [.bin .Sub (.bt .len [.attr (.var 1) 8]) (.c (.int 1)), .c (.str 23)])] [], .ret (.c .none)]}
def sZ:MF:={nargs:=2,sH:=6,pure:=false,names:=[(sq "self",0),(sq "log",1),(sq "fault",2),(sq "bests",3),(sq "kind",4)],body:=[.asg (.var 2) (.e (.tt 50 (.var 0) [.var 1])), .if_ (.cmp (.var 2) [.IsNot] [.c .none]) [.zF (.item (.var 2) (.c (.int 1))) (.item (.var 2) (.c (.int 0)))] [], .asg (.var 3) (.e (.comp [5] (.var 5) [.g (.var 5) (.e (.attr (.var 1) 8)) [.cmp (.item (.var 5) (.c (.int 0))) [.Eq] [.c (.str 13)]]])), .asg (.var 4) (.e (.ite (.cmp (.var 3) [.NotEq] [.list []]) (.c (.str 12)) (.ite (.cmp (.attr (.var 0) 7) [.NotEq] [.list []]) (.c (.str 7)) (.c (.str 42))))), .ret (.tup [.var 4, .bin .Add (.bt .len [.var 3]) (.bt .len [.attr (.var 0) 7]), .attr (.var 0) 6])]}
def yF:MF:={nargs:=3,sH:=9,pure:=false,names:=[(sq "self",0),(sq "steps",1),(sq "number",2),(sq "rule",3),(sq "clause",4),(sq "premises",5),(sq "note",6)],body:=[.if_ (.bool false [.not (.isA (.item (.var 1) (.var 2)) .tuple), .cmp (.bt .len [.item (.var 1) (.var 2)]) [.NotEq] [.c (.int 4)]]) [.ret (.c (.str 53))] [], .asg (.tup [.var 3, .var 4, .var 5, .var 6]) (.e (.item (.var 1) (.var 2))), .if_ (.not (.tt 53 (.var 0) [.var 4])) [.ret (.c (.str 16))] [], .if_ (.bool false [.not (.isA (.var 5) .tuple), .cmp (.comp [7] (.var 7) [.g (.var 7) (.e (.var 5)) [.bool false [.not (.call 18 [.var 7]), .not (.cmp (.c (.int 0)) [.LtE, .Lt] [.var 7, .var 2])]]]) [.NotEq] [.list []]]) [.ret (.c (.str 47))] [], .if_ (.cmp (.var 3) [.Eq] [.c (.str 41)]) [.ret (.ite (.tt 55 (.var 0) [.var 4, .comp [8] (.item (.item (.var 1) (.var 8)) (.c (.int 1))) [.g (.var 8) (.e (.var 5)) []]]) (.c (.str 0)) (.c (.str 41)))] [], .if_ (.cmp (.var 5) [.NotEq] [.tup []]) [.ret (.c (.str 47))] [], .if_ (.cmp (.var 3) [.Eq] [.c (.str 54)]) [.ret (.tt 54 (.var 0) [.var 4, .var 6])] [], .if_ (.cmp (.var 3) [.In] [.tup [.c (.str 13), .c (.str 52)]]) [.if_ (.not (.tt 56 (.var 0) [.var 6])) [.ret (.c (.str 11))] [], .ret (.ite (.cmp (.var 3) [.Eq] [.c (.str 13)]) (.tt 57 (.var 0) [.var 4, .var 6]) (.tt 58 (.var 0) [.var 4, .var 6]))] [], .ret (.c (.str 50))]}
def ye:MF:={nargs:=2,sH:=3,pure:=true,names:=[(sq "self",0),(sq "clause",1),(sq "one",2)],body:=[.if_ (.not (.isA (.var 1) .tuple)) [.ret (.c (.bool false))] [], .ua (.var 2) (.e (.var 1)) [.if_ (.bool false [.not (.isA (.var 2) .tuple), .cmp (.bt .len [.var 2]) [.NotEq] [.c (.int 3)], .not (.call 18 [.item (.var 2) (.c (.int 0))]), .not (.call 18 [.item (.var 2) (.c (.int 2))])]) [.ret (.c (.bool false))] [], .if_ (.bool false [.not (.cmp (.c (.int 0)) [.LtE, .Lt] [.item (.var 2) (.c (.int 0)), .bt .len [.attr (.var 0) 0]]), .cmp (.item (.var 2) (.c (.int 1))) [.NotIn] [.tup [.c (.str 2), .c (.str 4), .c (.str 3), .c (.str 1)]]]) [.ret (.c (.bool false))] []], .ret (.cmp (.bt .list [.var 1]) [.Eq] [.bt .u7 [.var 1]])]}
def ut:MF:={nargs:=3,sH:=3,pure:=true,names:=[(sq "self",0),(sq "clause",1),(sq "note",2)],body:=[.if_ (.bool false [.not (.call 18 [.var 2]), .not (.cmp (.c (.int 0)) [.LtE, .Lt] [.var 2, .bt .len [.attr (.var 0) 3]])]) [.ret (.c (.str 43))] [], .DF [.ret (.ite (.tt 42 (.attr (.var 0) 5) [.item (.attr (.var 0) 3) (.var 2), .var 1]) (.c (.str 0)) (.c (.str 54)))] [.ret (.c (.str 35))]]}
def xb:MF:={nargs:=3,sH:=8,pure:=true,names:=[(sq "self",0),(sq "clause",1),(sq "lines",2),(sq "box",3),(sq "line",4),(sq "left",5)],body:=[.asg (.var 3) (.e (.new 1 35 [.attr (.var 0) 0])), .if_ (.bool false [.cmp (.tup []) [.In] [.attr (.var 0) 0], .not (.tt 40 (.var 3) [.var 1])]) [.ret (.c (.bool true))] [], .ua (.var 4) (.e (.var 2)) [.if_ (.cmp (.comp [6] (.var 6) [.g (.var 6) (.e (.var 4)) [.tt 38 (.var 3) [.var 6]]]) [.NotEq] [.list []]) [.cont] [], .asg (.var 5) (.own (.comp [7] (.var 7) [.g (.var 7) (.e (.var 4)) [.tt 37 (.var 3) [.var 7]]])), .if_ (.cmp (.var 5) [.Eq] [.list []]) [.ret (.c (.bool true))] [], .if_ (.bool false [.cmp (.bt .len [.var 5]) [.Gt] [.c (.int 1)], .not (.tt 39 (.var 3) [.item (.var 5) (.c (.int 0))])]) [.ret (.c (.bool false))] []], .ret (.c (.bool false))]}
def yf:MF:={nargs:=2,sH:=4,pure:=true,names:=[(sq "self",0),(sq "found",1),(sq "x",2)],body:=[.if_ (.bool false [.not (.isA (.var 1) .tuple), .cmp (.bt .len [.var 1]) [.NotEq] [.bt .len [.attr (.var 0) 0]]]) [.ret (.c (.bool false))] [], .ua (.var 2) (.e (.bt .vE [.bt .len [.var 1]])) [.if_ (.bool false [.not (.call 18 [.item (.var 1) (.var 2)]), .not (.call 10 [.item (.attr (.var 0) 0) (.var 2), .item (.var 1) (.var 2)])]) [.ret (.c (.bool false))] []], .ret (.cmp (.comp [3] (.var 3) [.g (.var 3) (.e (.attr (.var 0) 3)) [.not (.call 5 [.var 3, .var 1])]]) [.Eq] [.list []])]}
def uV:MF:={nargs:=3,sH:=5,pure:=true,names:=[(sq "self",0),(sq "clause",1),(sq "found",2),(sq "kind",3),(sq "x",4)],body:=[.asg (.tup [.var 3, .var 4]) (.e (.attr (.var 0) 4)), .if_ (.cmp (.var 3) [.Eq] [.c (.str 39)]) [.ret (.ite (.cmp (.var 1) [.Eq] [.tup [.tup [.var 4, .c (.str 2), .bin .Sub (.item (.var 2) (.var 4)) (.c (.int 1))]]]) (.c (.str 0)) (.c (.str 13)))] [], .ret (.ite (.bool true [.cmp (.var 3) [.Eq] [.c (.str 37)], .cmp (.var 1) [.Eq] [.tup [.tup [.var 4, .c (.str 4), .bin .Add (.item (.var 2) (.var 4)) (.c (.int 1))]]]]) (.c (.str 0)) (.c (.str 13)))]}
def x6:MF:={nargs:=3,sH:=6,pure:=false,names:=[(sq "self",0),(sq "clause",1),(sq "found",2),(sq "some",3)],body:=[.if_ (.cmp (.item (.attr (.var 0) 4) (.c (.int 0))) [.NotEq] [.c (.str 51)]) [.ret (.c (.str 24))] [], .asg (.var 3) (.e (.bt .tuple [.comp [4] (.item (.var 4) (.c (.int 0))) [.g (.var 4) (.e (.var 1)) []]])), .if_ (.bool false [.cmp (.var 1) [.NotEq] [.bt .tuple [.comp [5] (.tup [.var 5, .c (.str 1), .item (.var 2) (.var 5)]) [.g (.var 5) (.e (.var 3)) []]]], .cmp (.attr (.var 0) 6) [.NotIn] [.tup [.c .none, .var 3]]]) [.ret (.c (.str 52))] [], .if_ (.cmp (.var 1) [.In] [.attr (.var 0) 7]) [.ret (.c (.str 6))] [], .asg (.attr (.var 0) 6) (.e (.var 3)), .expr (.uh .append (.attr (.var 0) 7) [.var 1]), .ret (.c (.str 0))]}
def prog:O MF:=[Mb,He,Hf,I4,I6,WF,I7,P4,Ym,Mc,aaF,Ti,WG,P5,P6,Yn,Af,Tj,Gf,JM,Ie,CK,Md,Ag,xv,yX,Bf,zW,vR,Ig,zG,Ah,t7,Of,Bg,Gg,DI,B0,Bh,Ih,Gh,AS,zg,BJ,B3,Dx,BK,Dy,B4,z0,z6,sZ,yF,ye,ut,xb,yf,uV,x6]
end
section
noncomputable def strTab:O bc:=["","!=","<=","=",">=","abs","again","all","all_di","all_different","and","answer","best","better","cardinality","circuit","clause","count","cumulative","disjunctive","div","element","element_of","end","goal","imp","increa","increasing","inverse","lex_le","lex_lt","linear","linear_eq","linear_le","linear_ne","many","max","maximize","min","minimize","mod","nogood","none","note","nvalue","or","precede","premise","regular","reif","rule","satisfy","seen","step","strike","table","times","too many values to try","values","xor"]
noncomputable def AD:O bc:=["domains","turned","most","tolds","goal","judge","told_apart","answers","steps","places","what","step"]
noncomputable def zH:O bc:=["ProofLog","Box","StepJudge","LogChecker","ProofFault"]
noncomputable def xR:O bc:=["LINEAR","ARITH","CHOICES","COUNTS","TIMES","ORDERS"]
noncomputable def Jl:O (bc×aa×aa×aa):=[("values_of",99,7,0),("linear_holds",99,9,0),("choice_holds",99,13,0),("count_holds",99,14,0),("order_holds",99,18,0),("holds",99,20,0),("listed_vars",99,21,0),("vars_of",99,22,0),("size",99,24,0),("next_from",99,25,0),("has",99,26,0),("values",99,27,0),("up_to",99,28,0),("from_on",99,29,0),("without",99,30,0),("meet",99,31,0),("negation",99,32,0),("struck",99,33,0),("is_whole",99,39,0),("divisor_of",99,40,0),("_law_dip",99,46,0),("_law_told",99,47,0),("_law_keeps",99,48,0),("_law_says",99,49,0),("_law_right_log",99,50,0),("_law_is_number",99,51,0),("_law_is_clause",99,52,0),("_law_clashes",99,53,0),("_law_is_right",99,54,0),("_law_due",99,55,0),("_law_bent_literal",99,56,0),("_law_bent",99,57,0),("_law_told_right",99,58,0),("law",99,59,0),("__init__",0,41,0),("__init__",1,42,0),("domain",1,42,1),("can_hold",1,42,2),("does_hold",1,42,3),("say",1,42,4),("deny",1,42,5),("__init__",2,43,0),("follows",2,43,1),("is_refuted",2,43,2),("is_beyond",2,43,3),("has_row",2,43,4),("can_differ",2,43,5),("move_on",2,43,6),("has_tuple",2,43,7),("__init__",3,44,0),("look",3,44,1),("check",3,44,2),("fault_of",3,44,3),("is_clause",3,44,4),("strike_fault",3,44,5),("clashes",3,44,6),("is_answer",3,44,7),("better_fault",3,44,8),("seen_fault",3,44,9)]
def sV(c:aa):ax am:=(strTab[c]?).map aJ
def attrName(c:aa):ax am:=(AD[c]?).map aJ
end
end
section
open PySem.W PyProof.Rows PySem.Calls
section
def fnName(f:aa):ax (bc×aa):=(Jl[f]?).map λp=>(p.1,p.2.1)
noncomputable def defOf:aF->ax (O aF×aQ×dp)
 | .FunctionDef _ args body _ _ _ scope _ _ _=>some (body,scope,args)
 |_=>none
noncomputable def aaG:aF->O aF
 | .ClassDef _ _ _ J _ _ _ _ _ _ _=>J
 |_=>[]
def yY(f:aa):ax (O aF×aQ×dp):=(Jl[f]?).bind λq=>(gE.main.body[q.2.2.1]?).bind λst=>if q.2.1==99 then defOf st else((aaG st)[q.2.2.2]?).bind defOf
noncomputable def AE:O (bc×af):=[("abs", .builtin "abs"),("len", .builtin "len"),("range", .type "range"),("sorted", .builtin "sorted"),("list", .type "list"),("tuple", .type "tuple"),("max", .builtin "max"),("min", .builtin "min"),("sum", .builtin "sum"),("dict", .type "dict"),("set", .type "set"),("isinstance", .builtin "isinstance"),("zip", .type "zip"),("int", .type "int"),("bool", .type "bool")]
noncomputable def aaH:O aa:=[25,39,67,72,94,108,115,122,127,134,141,148,153,158,165,172,179,186,255,262,529,534,541,548,553,560,567,572,577,584,591,598,603,608,
 276,346,353,360,367,374,381,402,407,412,419,424,431,436,441,462,469,474,479,486,493,498,503,510,515]
noncomputable def ad(f:aa):ag:=aaH.getD f 0
noncomputable def sK(c:aa):ag:=[328,384,444,518,241].getD c 0
noncomputable def eB(a b:ax (ax af)):aj:=a==b
def Gi(K:bb)(f:aa):aj:=(fnName f).any λq=>isFn K (.ref (ad f))&&(keepIn K (.ref (ad f))&&bif q.2==99 then eB (nsIn K bV (aJ q.1)) (some (some (.ref (ad f)))) else
 uw f==q.2&&(plainGet K (sK q.2) (aJ q.1)&&eB (findIn K (.ref (sK q.2)) (aJ q.1)) (some (some (.ref (ad f))))))
def Hg(K:bb)(c:aa):aj:=makesIn K (sK c)&&(keepIn K (.ref (sK c))&&(hasDictIn K (sK c)&&(plainOver K (sK c)&&(eB (findIn K (.ref (sK c)) "__setattr__") (some (some (.builtin "object.__setattr__")))&&
 AD.all (λx=>plainGet K (sK c) (aJ x)&&eB (findIn K (.ref (sK c)) (aJ x)) (some none))))))
noncomputable def Og:cJ->ax cY
 | .func f=>some f
 |_=>none
noncomputable def Tk:cJ->ax dU
 | .cls c=>some c
 |_=>none
noncomputable def MQ:cJ->ax (aB af)
 | .fields vs=>some vs
 |_=>none
noncomputable def Yo:cJ->ax (aB af×aa)
 | .seq vs n=>some (vs,n)
 |_=>none
noncomputable def VF:cJ->ax (ax af)
 | .cell v=>some v
 |_=>none
noncomputable def Tl:af->ax ag
 | .ref a=>some a
 |_=>none
def fdOf(K:bb)(a:ag):ax cY:=(K.lookup a).bind λo=>Og o.data
def FB(K:bb)(f:aa):aj:=(fdOf K (ad f)).any λfd=>codeIn K fd.code fd.qualname
noncomputable def Hh(fd:cY):=(fd.body,fd.closure,fd.globals,fd.builtins,fd.params,fd.defaults,fd.scope)
noncomputable def FC(p:O aF×aQ×dp):FuncBody×O (am×ag)×ag×ag×dp×af×aQ:=(.stmts p.1,[],bV,ei,p.2.2, .none,p.2.1)
def strOk(c:aa):af->aj
 | .str x _=>sV c==some x
 |_=>false
def strsOk:O aa->O af->aj
 |[],vs=>vs.isEmpty
 |c::J,vs=>match vs with
  |[]=>false
  |v::vs=>strOk c v&&strsOk J vs
def JN(K:bb)(i:aa):aj:=(xR[i]?).any λnm=>(EG[i]?).any λks=>(nsIn K bV (aJ nm)).any λv=>v.any λv=>(Tl v).any λa=>(K.lookup a).any λo=>o.cls== .type "tuple"&&(Yo o.data).any λp=>strsOk ks p.1.toList
noncomputable def vV(i:aa):O aF×aQ×dp:=match gE.main.body[i]? with
 |some (.ClassDef _ _ _ (.FunctionDef _ args body _ _ _ scope _ _ _::_) _ _ _ _ _ _ _)=>(body,scope,args)
 |_=>([],⟨.function,[],false,false,[]⟩,⟨[],[],none,[],[],none,[]⟩)
noncomputable def VG(x:am):af->aj
 | .str y _=>y==x
 |_=>false
def aaI(K:bb)(cd:af):aj:=(Tl cd).any λc=>(K.lookup c).any λo=>(MQ o.data).any λvs=>(vs[2]?).any (VG gE.main.file)
def aaJ(K:bb)(cc D:ag):aj:=(K.lookup cc).any λo=>VF o.data==some (some (.ref D))
def Tm(K:bb)(a D cc:ag):aj:=(K.lookup a).any λo=>o.cls== .type "function"&&(Og o.data).any λfd=>codeIn K fd.code fd.qualname&&(aaI K fd.code&&aaJ K cc D)
noncomputable def CL(fd:cY):=(fd.body,fd.params,fd.defaults,fd.scope,fd.globals,fd.builtins,fd.closure)
noncomputable def Bi(r:O aF×aQ×dp)(cc:ag):FuncBody×dp×af×aQ×ag×ag×O (am×ag):=(.stmts r.1,r.2.2, .none,r.2.1,bV,ei,[("__class__",cc)])
def Yp(K:bb)(C D:ag):aj:=((clsIn K C).any λcd=>cd.mro==[.ref C, .ref D, .type "Exception", .type "BaseException", .type "object"])&&
 (eB (findIn K (.ref C) "__getattribute__") (some (some (.builtin "BaseException.__getattribute__")))&&(eB (findIn K (.ref C) "__getattr__") (some none)&&(eB (findIn K (.ref C) "__setattr__") (some (some (.builtin "object.__setattr__")))&&
 (hasDictIn K C&&AD.all (λx=>eB (findIn K (.ref C) (aJ x)) (some none))))))
def pfB(K:bb)(C D:ag):aj:=(K.lookup C).any λo=>o.cls== .type "type"&&(o.slots.toList.length==6&&(o.slots.toList[4]?==some (some (.builtin "Exception.__new__"))&&(Tk o.data).any λcd=>cd.mro==[.ref C, .ref D, .type "Exception", .type "BaseException", .type "object"]&&(!cd.abstract&& !cd.hasDel)))
def P7(K:bb)(D:ag):aj:=(K.lookup D).any λo=>(Tk o.data).isSome
def Yq(K:bb):O aj:=[(bg 59).all (Gi K),(bg 4).all (Hg K),(bg 5).all (λc=>eB (nsIn K bV (aJ (zH.getD c ""))) (some (some (.ref (sK c))))),
 (bg 59).all (FB K),(bg 6).all (JN K),AE.all (λq=>eB (nsIn K bV (aJ q.1)) (some none)),
 Yp K 241 212,pfB K 241 212,P7 K 212,Tm K 231 241 219,Tm K 202 212 190,eB (findIn K (.ref 241) "__init__") (some (some (.ref 231))),isFn K (.ref 231),
 eB (nsIn K cStatics "thirdparty.any") (some none),eB (alongIn K "__init__" [.type "Exception", .type "BaseException", .type "object"]) (some (some (.builtin "Exception.__init__"))),
 eB (alongIn K "__init__" [.ref 212, .type "Exception", .type "BaseException", .type "object"]) (some (some (.ref 202))),keepIn K (.ref 241),eB (nsIn K bV "super") (some none)]
def allB(K:bb):aj:=(Yq K).all id
def shapes(K:bb):=((bg 59).map (λf=>(fdOf K (ad f)).map Hh),(fdOf K 231).map CL,(fdOf K 202).map CL)
def Gj:=((bg 59).map (λf=>(yY f).map FC),some (Bi (vV 36) 219),some (Bi (vV 35) 190))
structure Facts(K:bb):Prop where
 b:allB K=true
 s:shapes K=Gj
noncomputable abbrev pw:a9:=gE
abbrev VS:=af->ai->Prop
structure GC where
 w:a0
 K:bb
 h0:aq
 mg:am->ax af
 mb:am->ax af
 Yr:fq
structure Oh(q:GC):Prop where
 F:Facts q.K
 X:q.K.In q.h0
 g:q.h0.Ns bV q.mg
 b:q.h0.Ns ei q.mb
 lim:q.h0.NoLimit
 bt:∀ x:am,x≠"__name__"->q.mb x=bootBuiltins x
def JO(g:GC):Prop:=∀ (s:ai) (J l:ag) (vals:O af) (ns:O ae) (σ':Ob) (Q:VS) (E:VS),Oh g->s.heap=g.h0->s.os=g.Yr->s.gens= #[]->g.mg (aJ "law")=some (.ref J)->s.heap.IsList l vals.toArray->eL vals ns->sC prog 30 33 [.old (ns.map V.int)] []=some (.bool true,σ')->
 (∀ s',(∀ b o,s.heap.get? b=some o->s'.heap.get? b=some o)->s'.os=s.os->s'.gens= #[]->Q (.bool true) s')->ak (aA pw g.w) callerA (call (.ref J) [.ref l]) Q E s
def G:GC:= @qj GC ⟨⟨⟨λz z=>0,{strHash:=λz=>0,shareClass:=λz=>0,mergeTok:=id,idOf:=λz=>0,idOfShared:=λz z=>0,followText:=λz=>false,idOfImm:=λz=>0}⟩,[],default,λz=>none,λz=>none,default⟩⟩ λg=>¬ JO g
abbrev sB:ce:=aA pw G.w
theorem Tn(h:JO G)(g:GC):JO g:=qk λz=>ql (p:=λg=>¬ JO g) ⟨g,z⟩ h
end
end
section
open PySem.W PyProof.Rows
section
structure Cx where
 mu:O (ag×O ag)
 sj:O ag
noncomputable def owned(mu:O (ag×O ag)):O ag:=mu.flatMap λp=>p.1::p.2
def Cx.res(C:Cx):O ag:=owned C.mu++C.sj
class inductive tj {α β:Type} (R:α->β->Prop):O α->O β->Prop
 |nil:tj R [] []
 |cons {a b as bs}:R a b->tj R as bs->tj R (a::as) (b::bs)
section
variable(h:aq)(C:Cx)
inductive DictAt(a:ag):O V->O af->Prop
 |JP {kvs:O (ae×af)} (D:h.DictOf (aZ pw G.w) a kvs):DictAt a (kvs.map (λp=>V.int p.1)) (kvs.map (·.2))
 |inR {xs:O (O ae×ag×af)} (D:h.DictOfH (dW (aZ pw G.w)) a xs) (o:∀ p∈xs,p.2.1∉C.res):DictAt a (xs.map (λp=>V.tup (p.1.map V.int))) (xs.map (·.2.2))
class inductive sg:V->af->Prop
 |none:sg .none .none
 |bool {b:aj}:sg (.bool b) (.bool b)
 |int {i:ae} {t:bk}:sg (.int i) (.int i t)
 |str {c:aa} {x:am} {t:bk} (e:sV c=some x):sg (.str c) (.str x t)
 |tup {xs:O V} {a:ag} {items:aB af} (n:a∉C.res) (t:bW h a items) (e:tj sg xs items.toList):sg (.tup xs) (.ref a)
 |lst {xs:O V} {a:ag} {items:aB af} (n:a∉C.res) (t:h.PlainList a items) (e:tj sg xs items.toList):sg (.lst xs) (.ref a)
 |old {xs:O V} {a:ag} {items:aB af} (n:a∉C.res) (t:h.IsList a items) (e:tj sg xs items.toList):sg (.old xs) (.ref a)
 |dct {ks vs:O V} {a:ag} {ws:O af} (n:a∉C.res) (y:(a==ft)=false) (e:tj sg vs ws) (D:DictAt h C a ks ws):sg (.dct ks vs) (.ref a)
 |yc {lo hi:ae} {a:ag} {t u x:bk} (n:a∉C.res) (r:iq h a lo hi 1 t u x) (s:gF lo hi 1=true):sg (.yc lo hi) (.ref a)
 |ref {i:aa} {p:ag×O ag} (e:C.mu[i]?=some p):sg (.ref i) (.ref p.1)
abbrev su:O V->O af->Prop:=tj (sg h C)
def Out(P:af->Prop):V->Prop
 | .none=>P .none
 | .bool b=>P (.bool b)
 | .int i=>∀ t,P (.int i t)
 | .str c=>∀ x t,sV c=some x->P (.str x t)
 | .tup xs=>∀ a items,a∉C.res->bW h a items->su h C xs items.toList->P (.ref a)
 | .lst xs=>∀ a items,a∉C.res->h.PlainList a items->su h C xs items.toList->P (.ref a)
 | .old xs=>∀ a items,a∉C.res->h.IsList a items->su h C xs items.toList->P (.ref a)
 | .dct ks vs=>∀ a ws,a∉C.res->(a==ft)=false->su h C vs ws->DictAt h C a ks ws->P (.ref a)
 | .yc lo hi=>∀ a t u x,a∉C.res->iq h a lo hi 1 t u x->gF lo hi 1=true->P (.ref a)
 | .ref i=>∀ p,C.mu[i]?=some p->P (.ref p.1)
def Ys(P:O af->Prop):O V->Prop
 |[]=>P []
 |x::xs=>∀ v vs,sg h C x v->su h C xs vs->P (v::vs)
end
section
variable{h h':aq}{C C':Cx}{a:ag}
structure uj(h:aq)(C:Cx)(h':aq)(C':Cx):Prop where
 keep:∀ {a o},a∉C.res->h.get? a=some o->h'.get? a=some o
 res:∀ a∈C'.res,a∈C.res\/h.get? a=none
 mu:∀ {i:aa} {p:ag×O ag},C.mu[i]?=some p->C'.mu[i]?=some p
theorem sg.out{x:V}{v:af}(e:sg h C x v){P:af->Prop}(k:Out h C P x):P v:=
 sg.casesOn (motive_1:=λx v z=>Out h C P x->P v) e id id (· _) (λe k=>k _ _ e) (λn t e k=>k _ _ n t e) (λn t e k=>k _ _ n t e) (λn t e k=>k _ _ n t e)
  (λn y e D k=>k _ _ n y e D) (λn r s k=>k _ _ _ _ n r s) (λe k=>k _ e) k
theorem tj.out{x:O V}{v:O af}(e:su h C x v){P:O af->Prop}(k:Ys h C P x):P v:=
 tj.casesOn (motive:=λx v z=>Ys h C P x->P v) e id (λa b k=>k _ _ a b) k
theorem uj.off(S:uj h C h' C'){o:aL}(n:a∉C.res)(e:h.get? a=some o):a∉C'.res:=λx=>(S.res a x).elim n λl=>(by cases (l.symm.trans e))
theorem wv{P:aL->Prop}(S:uj h C h' C')(n:a∉C.res)(x:∃ o,h.get? a=some o/\P o):(∃ o,h'.get? a=some o/\P o)/\a∉C'.res:=x.elim λo r=>⟨⟨o,S.keep n r.1,r.2⟩,S.off n r.1⟩
theorem yg{α β γ:Type}{P Q:α->β->γ->Prop}(x:∃ a b c,P a b c)(f:∀ a b c,P a b c->Q a b c):∃ a b c,Q a b c:=x.imp λa=>cK λb=>cK (f a b)
theorem uv{α β γ:Type}{P:α->β->γ->Prop}{r:Prop}(x:∃ a b c,P a b c)(f:∀ a b c,P a b c->r):r:=x.elim λa x=>x.elim λb x=>x.elim (f a b)
theorem Tp(S:uj h C h' C'){ks:O ae}(n:a∉C.res)(x:cj (aZ pw G.w) h ks a):cj (aZ pw G.w) h' ks a/\a∉C'.res:=
 ⟨yg x λz z z=>aT (S.keep n),uv x λz z z x=>S.off n x.1⟩
theorem DictAt.keep(S:uj h C h' C')(k:∀ o,h.get? a=some o->h'.get? a=some o){ks:O V}{ws:O af}(x:DictAt h C a ks ws):DictAt h' C' a ks ws:=by
 cases x with
 |JP D=>exact .JP (D.at k)
 |inR D o=>
  have z:=uv D λy y y D p hp=>Tp S (o p hp) (D.2.2.2.2.1 p hp);exact .inR (yg D λo' y y D=>⟨k o' D.1,D.2.1,D.2.2.1,D.2.2.2.1,λp hp=>(z p hp).1,D.2.2.2.2.2⟩) λp hp=>(z p hp).2
theorem DictAt.get{ks:O V}{ws:O af}(x:DictAt h C a ks ws):∃ o,h.get? a=some o/\cu:=by
 cases x with
 |JP D=>exact uv D λo z z D=>⟨o,D.1,trivial⟩
 |inR D=>exact uv D λo z z D=>⟨o,D.1,trivial⟩
theorem sg.step(S:uj h C h' C'){x:V}{v:af}(e:sg h C x v):sg h' C' x v:=
 sg.rec (motive_1:=λx v w=>sg h' C' x v) (motive_2:=λx v w=>su h' C' x v) .none .bool .int .str
  (λn t w e=>have z:=wv S n t; .tup z.2 z.1 e) (λn t w e=> .lst (S.off n t.choose_spec) (t.imp λw=>S.keep n) e) (λn t w e=>have z:=wv S n t; .old z.2 z.1 e)
  (λn y w D e=> .dct (wv S n D.get).2 y e (D.keep S λw=>S.keep n)) (λn r s=> .yc (S.off n r) (S.keep n r) s) (λe=> .ref (S.mu e)) .nil (λw w=> .cons) e
theorem tj.step(S:uj h C h' C'){xs:O V}{vs:O af}(e:su h C xs vs):su h' C' xs vs:=
 sg.rec_1 (motive_1:=λx v w=>sg h' C' x v) (motive_2:=λx v w=>su h' C' x v) .none .bool .int .str
  (λn t w e=>have z:=wv S n t; .tup z.2 z.1 e) (λn t w e=> .lst (S.off n t.choose_spec) (t.imp λw=>S.keep n) e) (λn t w e=>have z:=wv S n t; .old z.2 z.1 e)
  (λn y w D e=> .dct (wv S n D.get).2 y e (D.keep S λw=>S.keep n)) (λn r s=> .yc (S.off n r) (S.keep n r) s) (λe=> .ref (S.mu e)) .nil (λw w=> .cons) e
end
section
variable(h:aq)(C:Cx)
class inductive tx:O (aa×V)->O bX->Prop
 |nil:tx [] []
 |cons {n:aa} {W:V} {x:am} {t:bk} {k:ae} {v:af} {as:O (aa×V)} {es:O bX} (hn:attrName n=some x) (hv:sg h C W v) (r:tx as es):tx ((n,W)::as) (⟨k, .str x t,v⟩::es)
inductive tm:ag×O ag->sv->Prop
 |lst {a:ag} {xs:O V} {items:aB af} (l:h.PlainList a items) (e:su h C xs items.toList):tm (a,[]) (.lst xs)
 |dct {a:ag} {ks vs:O V} {ws:O af} (e:su h C vs ws) (D:DictAt h C a ks ws):tm (a,[]) (.dct ks vs)
 |inst {a d:ag} {c:aa} {at_:O (aa×V)} {es:O bX} {n:aa} {dat:cJ} (hc:c<=4) (nd:(at_.map (·.1)).Nodup) (o:h.get? a=some ⟨.ref (sK c),some d,dat, #[]⟩)
   (pl:c<4->dat= .plain) (fl:c=4->∃ vs,dat= .fields vs) (ed:h.get? d=some (dictOf es n)) (as:tx h C at_ es):tm (a,[d]) (.inst c at_)
end
structure Inv(C:Cx)(σ:Ob)(s:ai):Prop where
 uG:∀ {a o},G.h0.get? a=some o->s.heap.get? a=some o
 big:1<G.h0.objs.size
 os:s.os=G.Yr
 gens:s.gens= #[]
 len:C.mu.length=σ.length
 nodup:(owned C.mu).Nodup
 wE:∀ {a},a∈C.sj->a∉owned C.mu
 above:∀ {a},a∈C.res->G.h0.objs.size<=a
 there:∀ {a},a∈C.res->∃ o,s.heap.get? a=some o
 rep:∀ {i:aa} {m:sv} {p:ag×O ag},σ[i]?=some m->C.mu[i]?=some p->tm s.heap C p m
structure Ext(X:O ag)(C C':Cx)(h h':aq):Prop where
 sj:C'.sj=C.sj
 mu:∃ nu,C'.mu=C.mu++nu/\∀ a∈owned nu,h.get? a=none
 keep:∀ {a o},a∉C.res->h.get? a=some o->h'.get? a=some o
 ns:∀ {a m},a∈C.sj->a∉X->h.Ns a m->h'.Ns a m
 obj:∀ {a o},a∈C.sj->a∉X->(∀ es n,o.data≠ .dict es n)->h.get? a=some o->h'.get? a=some o
 live:∀ {a o},h.get? a=some o->∃ o',h'.get? a=some o'
section
variable{X Y:O ag}{C C' C'':Cx}{h h' h'':aq}{a:ag}
theorem vF(x:a∈owned C.mu):a∈C.res:=aG.mpr (.inl x)
theorem th(x:a∈C.sj):a∈C.res:=aG.mpr (.inr x)
theorem Ext.cell(E:Ext X C C' h h'){v:ax af}(hp:a∈C.sj)(hx:a∉X)(e:h.IsCell a v):h'.IsCell a v:=
 e.imp λy r=>⟨E.obj hp hx (λy y z=>(by cases (r.2.symm.trans z))) r.1,r.2⟩
theorem wQ(a b:O (ag×O ag)):owned (a++b)=owned a++owned b:=O.flatMap_append ..
theorem Ext.refl:Ext X C C h h:=⟨rfl,⟨[],(bY _).symm,λz x=>nomatch x⟩,λz e=>e,λz z e=>e,λz z z e=>e,λ{z} {o} e=>⟨o,e⟩⟩
theorem Ext.stp(E:Ext X C C' h h'):uj h C h' C':=E.mu.elim λnu e=>{
 keep:=E.keep
 mu:=λhi=>(av (·[_]?) e.1).trans ((dq (bD.mp hi).1).trans hi)
 res:=λa ha=>by
  unfold Cx.res at*
  rw[E.sj,e.1,wQ,cf,aG,aG] at ha
  exact ha.elim (λha=> .inl (vF ha)) λha=>ha.elim (λha=> .inr (e.2 a ha)) λha=> .inl (th ha)}
theorem Ext.trans(a:Ext X C C' h h')(b:Ext X C' C'' h' h''):Ext X C C'' h h'' where
 sj:=b.sj.trans a.sj
 mu:=a.mu.elim λnu e=>b.mu.elim λJ U=>⟨nu++J,U.1.trans ((av (·++J) e.1).trans (cf ..)),λx hx=>by
  rw[wQ,aG] at hx
  refine hx.elim (e.2 x) λhx=> ?_;cases hg:h.get? x with
  |none=>rfl
  |some o=>exact(a.live hg).elim λy z=>nomatch z.symm.trans (U.2 x hx)⟩
 keep:=λn e=>b.keep (a.stp.off n e) (a.keep n e)
 ns:=λhp hx e=>b.ns (a.sj▸hp) hx (a.ns hp hx e)
 obj:=λhp hx nd e=>b.obj (a.sj▸hp) hx nd (a.obj hp hx nd e)
 live:=λe=>(a.live e).elim λy=>b.live
theorem Ext.mono(a:Ext X C C' h h')(hs:∀ x∈X,x∈Y):Ext Y C C' h h':=
 ⟨a.sj,a.mu,a.keep,λhp hy=>a.ns hp λz=>hy (hs _ z),λhp hy=>a.obj hp λz=>hy (hs _ z),a.live⟩
theorem Ext.same(hk:∀ {a o},a∉C.sj->h.get? a=some o->h'.get? a=some o)(hn:∀ {a m},a∈C.sj->a∉X->h.Ns a m->h'.Ns a m)
  (ho:∀ {a o},a∈C.sj->a∉X->(∀ es n,o.data≠ .dict es n)->h.get? a=some o->h'.get? a=some o) (J:∀ {a o},h.get? a=some o->∃ o',h'.get? a=some o'):Ext X C C h h':=
 ⟨rfl,⟨[],(bY _).symm,λy x=>nomatch x⟩,λn=>hk λz=>n (th z),hn,ho,J⟩
theorem Ext.grow(hk:∀ {a o},h.get? a=some o->h'.get? a=some o):Ext X C C h h':=
 .same (λz=>hk) (λz z x=>x.imp λz=>cK λz=>cK λz=>aT hk) (λz z z=>hk) λ{z} {o} e=>⟨o,hk e⟩
theorem Yt{m m':am->ax af}(x:h.Ns a m)(y:h.Ns a m'):m=m':=by
 obtain⟨o,es,ep,ho,hd,_,hf⟩:=x;obtain⟨o',es',ep',J,U,_,hf'⟩:=y;cases ho.symm.trans J;cases hd.symm.trans U;exact funext λn=>(hf n).symm.trans (hf' n)
theorem Ext.P8{T:ag->Prop}{L:ag}{m:am->ax af}(hL:L∈C.sj)(hm:h.Ns L m)(J:h'.Ns L m)(U:∀ {a},T a->(a∈C.res/\a∉C.sj)/\∃ o,h'.get? a=some o)(hk:∀ {a o},a≠L->¬ T a->h.get? a=some o->h'.get? a=some o):Ext X C C h h' where
 sj:=rfl
 mu:=⟨[],(bY _).symm,λy x=>nomatch x⟩
 keep:=λn=>hk (λz=>n (z▸th hL)) λz=>n (U z).1.1
 ns:=λ{a} {m₂} hp _ z=>cZ (λe:a=L=>by cases e;exact Yt hm z▸J) λe=>yg z λy y y=>aT (hk e λz=>(U z).1.2 hp)
 obj:=λ{a} {o} hp y nd e=>hk (λz=>by cases z;exact uv hm λo' es ep r=>nd es ep (aE (e.symm.trans r.1)▸r.2.1)) (λz=>(U z).1.2 hp) e
 live:=λ{a} {o} e=>cZ (λz:a=L=>z▸uv J λo y y r=>⟨o,r.1⟩) λz=>cZ (λt:T a=>(U t).2) λt=>⟨o,hk z t e⟩
theorem Ext.frame{L:ag}{m:am->ax af}(U:L∈C.sj)(hm:h.Ns L m)(J:h'.Ns L m)(hk:∀ {a o},a≠L->h.get? a=some o->h'.get? a=some o):Ext X C C h h':= .P8 (T:=λz=>bM) U hm J bP λn z=>hk n
end
section
variable{C C':Cx}{σ σ':Ob}{s s':ai}{h h':aq}{X:O ag}
theorem tx.step(S:uj h C h' C'){as:O (aa×V)}{es:O bX}(e:tx h C as es):tx h' C' as es:=
 tx.rec (motive:=λas es z=>tx h' C' as es) .nil (λhn hv z r=> .cons hn (hv.step S) r) e
theorem tm.keep{p:ag×O ag}{m:sv}(S:uj h C h' C')(hk:∀ {a o},a∈p.1::p.2->h.get? a=some o->h'.get? a=some o)(z:tm h C p m):tm h' C' p m:=by
 cases z with
 |lst l e=>exact .lst (l.imp λy=>hk (.head _)) (e.step S)
 |dct e D=>exact .dct (e.step S) (D.keep S λy=>hk (.head _))
 |inst hc nd o pl fl ed as=>exact .inst hc nd (hk (.head _) o) pl fl (hk (.tail _ (.head _)) ed) (as.step S)
theorem vh{i:aa}{p:ag×O ag}{mu:O (ag×O ag)}{a:ag}(hp:mu[i]?=some p)(ha:a∈p.1::p.2):a∈owned mu:=ir.mpr ⟨p,cv hp,ha⟩
theorem Inv.BL(I:Inv C σ s){a:ag}{o:aL}(e:G.h0.get? a=some o):a∉C.res:=λz=>aC (aY e) (cm.mpr (I.above z))
theorem Inv.EH(I:Inv C σ s)(hos:s'.os=s.os)(hg:s'.gens=s.gens)(hk:∀ {a o},a∉C.sj->s.heap.get? a=some o->s'.heap.get? a=some o)(J:∀ {a o},s.heap.get? a=some o->∃ o,s'.heap.get? a=some o):Inv C σ s':=
 {I with
  uG:=λe=>hk (λz=>I.BL e (th z)) (I.uG e)
  os:=hos.trans I.os
  gens:=hg.trans I.gens
  there:=λx=>(I.there x).elim λy=>J
  rep:=λh1 h2=>(I.rep h1 h2).keep ⟨λn=>hk λz=>n (th z),λy=> .inl,λe=>e⟩ λha=>hk λhp=>I.wE hp (vh h2 ha)}
structure Nx(X:O ag)(C:Cx)(s:ai)(C':Cx)(σ':Ob)(s':ai):Prop where
 E:Ext X C C' s.heap s'.heap
 I:Inv C' σ' s'
theorem Nx.S(N:Nx X C s C' σ' s'):uj s.heap C s'.heap C':=N.E.stp
theorem Nx.grow(I:Inv C σ s)(hk:∀ {a o},s.heap.get? a=some o->s'.heap.get? a=some o)(hos:s'.os=s.os:=by rfl)(hg:s'.gens=s.gens:=by rfl):Nx X C s C σ s':=
 ⟨.grow hk,I.EH hos hg (λz=>hk) λ{z} {o} e=>⟨o,hk e⟩⟩
theorem Nx.frame(I:Inv C σ s){L:ag}{m:am->ax af}(U:L∈C.sj)(hm:s.heap.Ns L m)(J:s'.heap.Ns L m)(hk:∀ {a o},a≠L->s.heap.get? a=some o->s'.heap.get? a=some o)(hos:s'.os=s.os:=by rfl)(hg:s'.gens=s.gens:=by rfl):Nx X C s C σ s':=
 have E:Ext X C C s.heap s'.heap:= .frame U hm J hk
 ⟨E,I.EH hos hg (λn=>hk λz=>n (z▸U)) E.live⟩
end
end
section
theorem sf{M:ce}{A:az}{α β:Type}{m:aM α}{f:α->aM β}{v:α}{s s':ai}{Q:β->ai->Prop}{E:VS}(d:∀ P:α->ai->Prop,P v s'->ak M A m P E s)(h:ak M A (f v) Q E s'):ak M A (m>>=f) Q E s:=ao (d _ h)
theorem sP{M:ce}{A:az}{α β:Type}{a:α}{f:α->aM β}{s:ai}{Q:β->ai->Prop}{E:VS}(h:ak M A (f a) Q E s):ak M A (pure a>>=f) Q E s:=ao (ay h)
structure Sc where
 scope:aQ
 slots:O (am×aa)
 own:O am
noncomputable def Sc.kind(sc:Sc)(x:am):ax cL:=sc.scope.names.lookup x
def Sc.yh(sc:Sc)(x:am):Prop:=sc.kind x=some .cell\/sc.kind x=some .free
section
variable(h:aq)(C:Cx)
def ww(W:ax V)(u:ax af):Prop:=∀ V,W=some V->∃ v,u=some v/\sg h C V v
inductive AT(env:aD)(l:Loc)(x:am)(k:aa):Prop
 |mk {c:ag} {u:ax af} (e:env.cells.lookup x=some c) (p:c∈C.sj) (i:h.IsCell c u) (v:ww h C (l.get k) u)
structure tE(env:aD)(sc:Sc)(l:Loc):Prop where
 kind:env.scope.kind= .function
 globals:env.globals=bV
 builtins:env.builtins=ei
 scope:env.scope=sc.scope
 sj:env.locals∈C.sj
 locs:∃ m,h.Ns env.locals m/\∀ {x k},sc.slots.lookup x=some k->sc.kind x=some .local->ww h C (l.get k) (m x)
 cells:∀ {x k},sc.slots.lookup x=some k->sc.yh x->AT h C env l x k
 inj:∀ {x y c},env.cells.lookup x=some c->env.cells.lookup y=some c->x=y
 B5:∀ {x y k},sc.slots.lookup x=some k->sc.slots.lookup y=some k->x=y
 Gk:∀ {x},x∈sc.own->∃ k,sc.slots.lookup x=some k/\sc.yh x
end
noncomputable def r7(env:aD)(sc:Sc):O ag:=env.locals::sc.own.filterMap λx=>env.cells.lookup x
structure yG(d:aa)(A:az):Prop where
 handled:A.handled=none
 depth:A.depth+4*d+8<=1000
 units:A.units+40*d+40<=9000
theorem yG.room{d:aa}{A:az}(a:yG d A):A.depth<recursionLimit:=bH (aV _ (4*d)) (bw (gG (by decide)) a.depth)
theorem yG.aaK{d:aa}{A:az}(a:yG d A):A.units<cLine:=bH (aw (aw (aV _ _) (aV _ _)) a.units) (show 9000<cLine by decide)
def uM(A:az)(sj:O ag)(h:aq):Prop:=∃ envs,A.frames=some envs/\∀ e∈envs,e.scope.kind= .function/\∃ L,e.frame=some L/\L∈sj/\∃ m,h.Ns L m
theorem uM.mono{A J:az}{p q:O ag}{h h':aq}(x:uM A p h)(hp:∀ a∈p,a∈q)(hn:∀ L m,L∈p->h.Ns L m->∃ m',h'.Ns L m')(e:J.frames=A.frames:=by rfl):uM J q h':=
 x.imp λz r=>⟨e.trans r.1,λe he=>⟨(r.2 e he).1,(r.2 e he).2.imp λL r=>⟨r.1,hp L r.2.1,r.2.2.elim λm=>hn L m r.2.1⟩⟩⟩
theorem Hi{h h':aq}{L:ag}{m:am->ax af}(hk:∀ {a o},h.get? a=some o->h'.get? a=some o)(x:h.Ns L m):∃ m',h'.Ns L m':=⟨m,yg x λz z z=>aT hk⟩
theorem uM.grow{A J:az}{p q:O ag}{h h':aq}(x:uM A p h)(hp:∀ a∈p,a∈q)(hk:∀ {a o},h.get? a=some o->h'.get? a=some o)(e:J.frames=A.frames:=by rfl):uM J q h':=
 x.mono hp (λz z z=>Hi hk) e
theorem uM.ext{A:az}{X:O ag}{C C':Cx}{h h':aq}(x:uM A C.sj h)(E:Ext X C C' h h')(J:∀ L m,L∈X->h.Ns L m->∃ m',h'.Ns L m'):uM A C'.sj h':=
 x.mono (λy ha=>E.sj▸ha) λL m U hm=>cZ (λz:L∈X=>J L m z hm) λz=>⟨m,E.ns U z hm⟩
structure At(d:aa)(A:az)(C:Cx)(σ:Ob)(s:ai):Prop where
 A:yG d A
 I:Inv C σ s
 fr:∃ L m,L∈C.sj/\s.heap.Ns L m
 frs:uM ‹az› C.sj s.heap
abbrev tg:VS:=λz z=>bM
inductive sY{α β:Type}(X:O ag)(C:Cx)(s:ai)(R:aq->Cx->α->β->Prop)(a:α)(σ':Ob)(b:β)(s':ai):Prop
 |mk {C':Cx} (N:Nx X C s C' σ' s') (r:R s'.heap C' a b)
def Al{α:Type}(o:ax (α×Ob))(P:α->Ob->Prop):Prop:=match o with
 |some p=>P p.1 p.2
 |none=>cu
def r0{α β:Type}(A:az)(X:O ag)(C:Cx)(σ:Ob)(s:ai)(m:M α)(t:aM β)(R:aq->Cx->α->β->Prop):Prop:=
 Al (m σ) λa σ'=>ak sB A t (sY X C s R a σ') tg s
abbrev RV:aq->Cx->V->af->Prop:=sg
abbrev RE{α:Type}:aq->Cx->α->α->Prop:=λz z=>Eq
abbrev DJ:aq->Cx->aj->af->Prop:=λz z r x=>x= .bool r
section
variable{α β γ δ:Type}
theorem Al.imp{o:ax (α×Ob)}{P Q:α->Ob->Prop}(h:Al o P)(k:∀ a σ,P a σ->Q a σ):Al o Q:=match o,h with
 |some _,h=>k _ _ h
 |none,_=>ah
theorem Al.all{ι:Sort _}{o:ax (α×Ob)}{P:ι->α->Ob->Prop}(h:∀ x,Al o (P x)):Al o λa σ=>∀ x,P x a σ:=match o,h with
 |some _,h=>h
 |none,_=>ah
theorem Al.bind{m:M α}{f:α->M β}{σ:Ob}{P:β->Ob->Prop}(h:Al (m σ) λa σ'=>Al (f a σ') P):Al (M.bind m f σ) P:=by
 unfold M.bind;cases hx:m σ with
 |none=>exact ah
 |some p=>rw[hx] at h;exact h
theorem Al.guard{b:aj}{m:M α}{σ:Ob}{P:α->Ob->Prop}(h:b=true->Al (m σ) P):Al (M.guard b m σ) P:=match b,h with
 |true,h=>h rfl
 |false,_=>ah
theorem Al.sM{o:ax α}{σ:Ob}{P:α->Ob->Prop}(h:∀ a,o=some a->P a σ):Al (sM o σ) P:=match o,h with
 |some a,h=>h a rfl
 |none,_=>ah
theorem Al.get{m:M α}{σ σ':Ob}{a:α}{P:α->Ob->Prop}(h:Al (m σ) P)(e:m σ=some (a,σ')):P a σ':=by rw[e] at h;exact h
end
section
variable{A:az}{X Y:O ag}{C C':Cx}{σ σ':Ob}{s s' s'':ai}{α β γ δ:Type}{m:M α}{t:aM β}{R R':aq->Cx->α->β->Prop}{f:α->M γ}{g:β->aM δ}{Q:aq->Cx->γ->δ->Prop}
theorem sY.nx{a:α}{J:Ob}{b:β}(N:Nx X C s C' σ' s')(h:sY X C' s' R a J b s''):sY X C s R a J b s'':=match h with
 | .mk U r=> .mk ⟨N.E.trans U.E,U.I⟩ r
theorem r0.pure{a:α}{b:β}(I:Inv C σ s)(h:R s.heap C a b):r0 A X C σ s (M.pure a) (eM b) R:=ay (.mk ⟨.refl,I⟩ h)
theorem r0.split{T:β->ai->γ->Ob->Prop}(hm:r0 A X C σ s m t R)(U:∀ a b C' σ' s',Nx X C s C' σ' s'->R s'.heap C' a b->Al (f a σ') (T b s')):Al (M.bind m f σ) λc J=>ak sB A t (λb s'=>T b s' c J) tg s:=
 Al.bind (hm.imp λa σ' z=>by
  have k:=λb C' s' N r=>U a b C' σ' s' N r;cases h:f a σ' with
  |none=>exact ah
  |some p=>
   rw[h] at k
   exact aO z (λb s' ⟨N,r⟩=>k b _ s' N r) λy y=>id)
theorem r0.after(N:Nx X C s C' σ' s')(h:r0 A X C' σ' s' m t R):Al (m σ') λc J=>ak sB A t (sY X C s R c J) tg s':=h.imp λy y z=>aO z (λy y=>sY.nx N) λy y=>id
theorem r0.bind(hm:r0 A X C σ s m t R)(J:∀ a b C' σ' s',Nx X C s C' σ' s'->R s'.heap C' a b->r0 A X C' σ' s' (f a) (g b) Q):r0 A X C σ s (M.bind m f) (t>>=g) Q:=
 (hm.split λa b C' σ' s' N r=>(J a b C' σ' s' N r).after N).imp λz z=>ao
theorem r0.mono(hm:r0 A X C σ s m t R)(h:∀ h C a b,R h C a b->R' h C a b):r0 A X C σ s m t R':=
 hm.imp λy y z=>aO z (λ_ _ ⟨N,r⟩=>⟨N,h _ _ _ _ r⟩) λy y=>id
theorem r0.with{P:α->Prop}(h:r0 A X C σ s m t R)(k:Al (m σ) λa z=>P a):r0 A X C σ s m t λh C a b=>R h C a b/\P a:=by
 unfold r0 at*
 cases e:m σ with
 |none=>exact ah
 |some p=>rw[e] at h k;exact aO h (λ_ _ ⟨N,r⟩=>⟨N,r,k⟩) λz z=>id
theorem r0.holding{vs:O af}(h:r0 A X C σ s m t R):r0 A X C σ s m (fP vs t) R:=h.imp λz z=>bd
theorem r0.standAt{pos:aK}(h:r0 A X C σ s m t R):r0 A X C σ s m (do standAt pos;t) R:=h.imp λy y z=>ao (dj z)
theorem r0.operate{vs:O af}{t:aM af}{R:aq->Cx->α->af->Prop}(h:r0 A X C σ s m t R):r0 A X C σ s m (operate vs t) R:=h.imp λz z=>wpAny_operate'
theorem r0.le(h:r0 A X C σ s m t R)(hs:∀ x∈X,x∈Y):r0 A Y C σ s m t R:=h.imp λy y z=>aO z (λ_ _ ⟨N,r⟩=>⟨⟨N.E.mono hs,N.I⟩,r⟩) λy y=>id
theorem sJ{a:α}{b:β}(I:Inv C σ s)(U:R s.heap C a b)(J:s'.heap=s.heap:=by rfl)(hos:s'.os=s.os:=by rfl)(hg:s'.gens=s.gens:=by rfl):sY X C s R a σ b s':=
 .mk (.grow I (λe=>J▸e) hos hg) (J▸U)
end
section
variable{h h':aq}{C C':Cx}
theorem ww.step{W:ax V}{u:ax af}(z:ww h C W u)(S:uj h C h' C'):ww h' C' W u:=λV e=>(z V e).imp λy r=>⟨r.1,r.2.step S⟩
theorem tE.ext{env:aD}{sc:Sc}{l:Loc}(R:tE h C env sc l)(E:Ext [] C C' h h'):tE h' C' env sc l:=
 {R with
  sj:=E.sj▸R.sj
  locs:=R.locs.imp λy r=>⟨E.ns R.sj (λz=>aC z ba) r.1,λh1 h2=>ww.step (r.2 h1 h2) E.stp⟩
  cells:=λh1 h2=>match R.cells h1 h2 with| .mk e p i v=> .mk e (E.sj▸p) (E.cell p (λz=>aC z ba) i) (ww.step v E.stp)}
end
end
section
theorem str_inj{a b:bc}:(aJ a=aJ b)<->a=b:=by
 constructor
 ·intro h
  have h1:=av (λs:am=>s.cps.toList) h;simp only[aJ,cpsOfBytes_string] at h1
  exact bc.toList_inj.mp ((O.map_inj_right (λx y J=>Char.toNat_inj.mp J)).mp h1)
 ·rintro rfl;rfl
theorem MU{l:O bc}(nd:l.Nodup){a b:aa}{x y:am}(ha:(l[a]?).map aJ=some x)(J:(l[b]?).map aJ=some y):x=y<->a=b:=by
 obtain⟨p,hp,rfl⟩:=c5.mp ha;obtain⟨q,U,rfl⟩:=c5.mp J;refine str_inj.trans ⟨λe=> ?_,λe=> ?_⟩
 ·obtain⟨la,ha⟩:=bD.mp hp
  obtain⟨lb,J⟩:=bD.mp U;exact(O.getElem_inj nd).mp (ha.trans (e.trans J.symm))
 ·cases e;exact aE (hp.symm.trans U)
theorem vP{a b:aa}{x y:am}(ha:sV a=some x)(J:sV b=some y):x=y<->a=b:=MU (l:=strTab) (by decide+kernel) ha J
theorem MV{P:am->Prop}{a:aa}{x:am}(h:∀ s∈strTab,P (aJ s))(ha:sV a=some x):P x:=by
 obtain⟨p,hp,rfl⟩:=c5.mp ha;exact h p (cv hp)
def DK(c:aa):am:=(sV c).getD (aJ "?")
theorem str_beq{a:aa}{x:am}(ha:sV a=some x)(b:aa):(x==DK b)=(a==b):=by
 unfold DK;cases J:sV b with
 |some y=>exact ej.mpr (bl.trans ((vP ha J).trans bl.symm))
 |none=>
  have h1:¬ a=b:=λe=>by rw[e,J] at ha;cases ha
  have h2:¬ x=aJ "?":=MV (P:=λx=>¬ x=aJ "?") (by decide+kernel) ha
  rw[lJ,bS.mpr h1,bS.mpr h2]
mutual
noncomputable def toPy:V->iu
 | .none=> .none
 | .bool b=> .bool b
 | .int i=> .int i
 | .str c=> .str (DK c)
 | .tup xs=> .tuple (Ai xs)
 | .lst xs=> .list (Ai xs)
 | .dct _ _=> .dict []
 | .yc _ _=> .dict []
 | .ref _=> .dict []
 | .old _=> .dict []
noncomputable def Ai:O V->O iu
 |[]=>[]
 |x::xs=>toPy x::Ai xs
end
structure Rd(h:aq)(x:V)(v:af):Prop where
 eqv:∀ b,dk (toPy x) (toPy b)=V.eqv x b
 reads:∀ n,x.plain n=true->∃ as,gH h v (toPy x) as
 lay:∀ n,x.plain n=true->(toPy x).canLay0=true/\(toPy x).depth<=n
structure DL(h:aq)(xs:O V)(vs:O af):Prop where
 eqv:∀ b,iu.eqvAll (Ai xs) (Ai b)=V.Hb xs b
 any:∀ b,((Ai xs).any λy=>dk y (toPy b))=xs.any λy=>V.eqv y b
 reads:∀ n,xs.all (V.plain n)=true->∃ as,ReadsAll h vs (Ai xs) as
 lay:∀ n,xs.all (V.plain n)=true->lK (Ai xs)=true/\lL (Ai xs)<=n
section
variable{h:aq}{xs:O V}{a:ag}{items:aB af}
theorem Rd.no{x:V}{v:af}(e:∀ b,dk (toPy x) (toPy b)=V.eqv x b)(p:∀ n,x.plain n=false):Rd h x v:=⟨e,λn q=>(nomatch (p n).symm.trans q:bM).elim,λn q=>(nomatch (p n).symm.trans q:bM).elim⟩
theorem Rd.leaf{x:V}{v:af}(e:∀ b,dk (toPy x) (toPy b)=V.eqv x b)(r:gH h v (toPy x) [])(l:(toPy x).canLay0=true)(d:(toPy x).depth=0):Rd h x v:=⟨e,λz z=>⟨_,r⟩,λz z=>⟨l,d▸cg _⟩⟩
theorem xE(b:V):dk (.dict []) (toPy b)=false:=by cases b<;>rfl
theorem Rd.tup(t:bW h a items)(r:DL h xs items.toList):Rd h (.tup xs) (.ref a) where
 eqv:=λb=>by cases b with|tup ys=>exact r.eqv ys|_=>rfl
 reads:=λn p=>match n,p with|n+1,p=>t.elim λ_ ⟨o,c,_,d⟩=>(r.reads n p).imp λz q=> .tuple o c d q
 lay:=λn p=>match n,p with|n+1,p=>(r.lay n p).imp id bZ
theorem Rd.lst(t:h.IsList a items)(r:DL h xs items.toList):Rd h (.lst xs) (.ref a) where
 eqv:=λb=>by cases b with|lst ys=>exact r.eqv ys|_=>rfl
 reads:=λn p=>match n,p with|n+1,p=>t.elim λ_ ⟨o,c,_,d⟩=>(r.reads n p).elim λz q=>⟨_, .list o c d q⟩
 lay:=λn p=>match n,p with|n+1,p=>(r.lay n p).imp id bZ
theorem DL.nil:DL h [] []:=⟨λb=>by cases b<;>rfl,λz=>rfl,λz z=>⟨_, .nil⟩,λz z=>⟨rfl,cg _⟩⟩
theorem DL.cons{x:V}{v:af}{vs:O af}(e:Rd h x v)(r:DL h xs vs):DL h (x::xs) (v::vs) where
 eqv:=λb=>by cases b with|nil=>rfl|cons y ys=>exact congr (av and (e.eqv y)) (r.eqv ys)
 any:=λb=>congr (av or (e.eqv b)) (r.any b)
 reads:=λn p=>have p:=cM.mp p;(e.reads n p.1).elim λz a=>(r.reads n p.2).elim λz b=>⟨_, .cons a b⟩
 lay:=λn p=>have p:=cM.mp p;⟨cM.mpr ⟨(e.lay n p.1).1,(r.lay n p.2).1⟩,aa.max_le.mpr ⟨(e.lay n p.1).2,(r.lay n p.2).2⟩⟩
end
section
variable{h:aq}{C:Cx}
theorem Rd.str{c:aa}{x:am}{t:bk}(e:sV c=some x):Rd h (.str c) (.str x t):=by
 have J:=(show DK c=x by unfold DK;rw[e];rfl)
 subst J;exact⟨λb=>by cases b with|str d=>exact str_beq e d|_=>rfl,λz z=>⟨_, .str ..⟩,λz z=>⟨MV (P:=λx=>iu.strOk x=true) (by decide+kernel) e,cg _⟩⟩
theorem tj.Yu{xs:O V}{vs:O af}(e:su h C xs vs):DL h xs vs:=sg.rec_1 (motive_1:=λx v z=>Rd h x v) (motive_2:=λx v z=>DL h x v)
  (.leaf (λb=>by cases b<;>rfl) .none rfl rfl) (.leaf (λb=>by cases b<;>rfl) (.bool _) rfl rfl) (.leaf (λb=>by cases b<;>rfl) (.int ..) rfl rfl) Rd.str
  (λz t z r=> .tup t r) (λz t z r=> .lst t.isList r) (λz z z z=> .no xE λn=>by cases n<;>rfl) (λz z z z z=> .no xE λn=>by cases n<;>rfl) (λz z z=> .no xE λn=>by cases n<;>rfl)
  (λz=> .no xE λn=>by cases n<;>rfl) .nil (λz z=> .cons) e
theorem sg.rd{x:V}{v:af}(e:sg h C x v):Rd h x v:=sg.rec (motive_1:=λx v z=>Rd h x v) (motive_2:=λx v z=>DL h x v)
  (.leaf (λb=>by cases b<;>rfl) .none rfl rfl) (.leaf (λb=>by cases b<;>rfl) (.bool _) rfl rfl) (.leaf (λb=>by cases b<;>rfl) (.int ..) rfl rfl) Rd.str
  (λz t z r=> .tup t r) (λz t z r=> .lst t.isList r) (λz z z z=> .no xE λn=>by cases n<;>rfl) (λz z z z z=> .no xE λn=>by cases n<;>rfl) (λz z z=> .no xE λn=>by cases n<;>rfl)
  (λz=> .no xE λn=>by cases n<;>rfl) .nil (λz z=> .cons) e
end
end
section
theorem rY{a b:aj}(h:(a&&b)=true):a=true/\b=true:=cM.mp h
section
variable{d:aa}{A:az}{X:O ag}{C:Cx}{σ:Ob}{s:ai}{α β:Type}{h:aq}
theorem Al.obj(I:Inv C σ s){i:aa}{p:ag×O ag}(hp:C.mu[i]?=some p){f:sv->M β}{P:β->Ob->Prop}(k:∀ o,σ[i]?=some o->tm s.heap C p o->Al (f o σ) P):Al (M.bind (ur i) f σ) P:=by
 unfold M.bind ur;cases e:σ[i]? with
 |none=>exact ah
 |some o=>exact k o e (I.rep e hp)
theorem Al.wa(I:Inv C σ s){a:V}{v:af}(hv:sg s.heap C a v){f:V->M β}{P:β->Ob->Prop}(k:∀ J,Rd s.heap J v->Al (f J σ) P):Al (M.bind (wa a) f σ) P:=
 sg.casesOn (motive_1:=λa v y=>Rd s.heap a v->(∀ J,Rd s.heap J v->Al (f J σ) P)->Al (M.bind (Internal.wa a) f σ) P) hv (λz k=>k _ z) (λz k=>k _ z) (λz k=>k _ z) (λy z k=>k _ z) (λy y y z k=>k _ z) (λy y y z k=>k _ z)
  (λy y y z k=>k _ z) (λy y y y z k=>k _ z) (λy y y z k=>k _ z) (λhe y k=>Al.bind (m:=Internal.wa (.ref _)) (Al.obj (f:=λo=>M.bind (wq o) λxs=>M.pure (V.lst xs)) (P:=λa σ'=>Al (f a σ') P) I he λo y r=>
   tm.casesOn (motive:=λp m y=>(∀ J,Rd s.heap J (.ref p.1)->Al (f J σ) P)->Al (M.bind (wq m) (λxs=>M.pure (V.lst xs)) σ) λa σ'=>Al (f a σ') P) r (λl e k=>k _ (.lst l.isList e.Yu)) (λy y y=>ah) (λy y y y y y y y=>ah) k)) hv.rd k
theorem Al.eq{a b:V}{v u:af}(I:Inv C σ s)(ha:sg s.heap C a v)(hb:sg s.heap C b u){P:aj->Ob->Prop}
  (k:∀ U db as bs,gH s.heap v U as->gH s.heap u db bs->jz U=true->jz db=true->P (dk U db) σ):Al (yD a b σ) P:=
 have sh:∀ {x:V} {v:af},Rd s.heap x v->x.plain 8=true->jz (toPy x)=true:=λr p=>cM.mpr ⟨(r.lay 8 p).1,aX (aw (r.lay 8 p).2 (by decide))⟩
 Al.wa (f:=λa'=>M.bind (Internal.wa b) λJ=>Dp a' J) I ha λa' r=>Al.wa (f:=λJ=>Dp a' J) I hb λJ r'=>Al.guard (m:=M.pure _) λp=>have p:=rY p
  (r.reads 8 p.1).elim λz q=>(r'.reads 8 p.2).elim λz q'=>r.eqv J▸k _ _ _ _ q q' (sh r p.1) (sh r' p.2)
theorem yG.MW(a:yG d A):A.units+64<cLine:=bH (cO (aw (aV _ _) (jA a.units)) 64) (by decide)
theorem MX{m:M aj}{t:aM af}(k:Al (m σ) λb σ'=>ak sB A t (sY X C s DJ (!b) σ') tg s):r0 A X C σ s (JD m) t DJ:=Al.bind (f:=λr=>M.pure (!r)) k
theorem vJ{P:Prop}(h:false=true):P:=(b0 h).elim
theorem vn{P:V->Prop}{k:V}(h:tJ k=true)(q:∀ i,P (.int i)):P k:=by
 cases k with
 |int i=>exact q i
 |_=>exact vJ h
theorem JQ{P:V->Prop}{k:V}(h:wi k=true)(q:∀ i j,P (.tup [.int i, .int j])):P k:=by
 cases k with
 |tup xs=>
  cases xs with
  |nil=>exact vJ h
  |cons x r=>
   cases r with
   |nil=>exact vJ h
   |cons y r=>
    cases r with
    |nil=>exact vn (P:=λx=>P (.tup [x,y])) (rY h).1 λi=>vn (P:=λy=>P (.tup [.int i,y])) (rY h).2 (q i)
    |cons=>exact vJ h
 |_=>exact vJ h
section
variable{a:ag}{ks:O V}{ws:O af}
theorem Oi(x:h.DictOf (aZ pw G.w) a []):h.DictOfH (dW (aZ pw G.w)) a []:=
 yg x λz es z x=>⟨x.1,x.2.1,x.2.2.1,dY x.2.2.2.2.1.length,λz hp=>(ba hp).elim,c6⟩
theorem Oj(x:h.DictOfH (dW (aZ pw G.w)) a []):h.DictOf (aZ pw G.w) a []:=
 yg x λz es z x=>⟨x.1,x.2.1,x.2.2.1,λe h=>(ba (x.2.2.2.1▸jB.mpr h)).elim,(by rw[x.2.2.2.1];exact .nil),c6⟩
theorem Hj{P:O V->O af->Prop}(D:DictAt h C a ks ws)(hk:ks.all tJ=true)(k:∀ kvs,h.DictOf (aZ pw G.w) a kvs->P (kvs.map (λp=>V.int p.1)) (kvs.map (·.2))):P ks ws:=
 DictAt.casesOn (motive:=λks ws z=>ks.all tJ=true->P ks ws) D (λD z=>k _ D) (λ{xs} D z=>jC (motive:=λxs=>h.DictOfH (dW (aZ pw G.w)) a xs->(xs.map λp=>V.tup (p.1.map V.int)).all tJ=true->P (xs.map λp=>V.tup (p.1.map V.int)) (xs.map (·.2.2))) xs
  (λD z=>k [] (Oj D)) (λz z z h=>vJ h) D) hk
theorem Tq{P:O V->O af->Prop}(D:DictAt h C a ks ws)(hk:ks.all wi=true)
  (k:∀ xs,h.DictOfH (dW (aZ pw G.w)) a xs->(∀ p∈xs,p.2.1∉C.res)->P (xs.map (λp=>V.tup (p.1.map V.int))) (xs.map (·.2.2))):P ks ws:=
 DictAt.casesOn (motive:=λks ws z=>ks.all wi=true->P ks ws) D (λ{kvs} D=>jC (motive:=λkvs=>h.DictOf (aZ pw G.w) a kvs->(kvs.map λp=>V.int p.1).all wi=true->P (kvs.map λp=>V.int p.1) (kvs.map (·.2))) kvs
  (λD z=>k [] (Oi D) λz hp=>aC hp ba) (λz z z h=>vJ h) D) (λD o z=>k _ D o) hk
end
theorem AU{i:ae}{v:af}(e:sg h C (.int i) v):(aZ pw G.w).is i v=true:=e.out (P:=λv=>(aZ pw G.w).is i v=true) λt=>by simp[aZ,fQ]
theorem Yv{i j:ae}{v:af}{P:af->Prop}(e:sg h C (.tup [.int i, .int j]) v)(k:∀ a,a∉C.res->cj (aZ pw G.w) h [i,j] a->P (.ref a)):P v:=
 e.out λa its n t e=>k _ n (t.imp λo ⟨J,U,m,o3⟩=>⟨its,m,J,U,o3,e.out (P:=λl=>fR _ [i,j] l) λz z a e=>e.out (P:=λl=>fR _ [i,j] (_::l)) λz z b e=> .cons (AU a) (.cons (AU b) (e.out (P:=λl=>fR _ [] l) .nil))⟩)
theorem MY(i j:ae):(i==j)=decide (j=i):=ej.mpr (bl.trans (iw.trans jD.symm))
theorem WH(kvs:O (ae×af))(i:ae):((kvs.map λp=>V.int p.1).any (V.beq (.int i)))=(valueAt kvs i).isSome:=by
 rw[valueAt_isSome_eq_any,fS];exact av (kvs.any ·) (funext λp=>MY i p.1)
theorem Tr(i j:ae)(l:O ae):V.beq (.tup [.int i, .int j]) (.tup (l.map V.int))=decide (l=[i,j]):=match l with
 |[]=>rfl
 |[a]=>by rw[cn (by simp)];show(_&&false)=_;rw[eN]
 |[a,b]=>by show(i==a&&(j==b&&true))=_;rw[ej];simp;exact⟨λh=>⟨h.1.symm,h.2.symm⟩,λh=>⟨h.1.symm,h.2.symm⟩⟩
 |a::b::c::r=>by rw[cn (by simp)];show(_&&(_&&false))=_;rw[eN,eN]
theorem Ts(xs:O (O ae×ag×af))(i j:ae):((xs.map λp=>V.tup (p.1.map V.int)).any (V.beq (.tup [.int i, .int j])))=(atKey xs [i,j]).isSome:=by
 unfold atKey;rw[fS,lM,lN];exact av (xs.any ·) (funext λp=>Tr i j p.1)
theorem Hk(J:yG d A):(dW (aZ pw G.w)).room A.in1:=tupleKind_room_in1 (bH (cw (by decide:1<=64) _) J.MW)
theorem Hl(I:Inv C σ s){a:ag}(h:a∈C.res):(a==ft)=false:=bS.mpr (cy (bw I.big (I.above h)))
theorem Al.key{x:V}{v:af}{ks:O V}{ws:O af}{a:ag}(hx:sg h C x v)(D:DictAt h C a ks ws){m:V->O V->M α}{P:V->af->O V->O af->α->Ob->Prop}
  (k1:∀ i t kvs,h.DictOf (aZ pw G.w) a kvs->Al (m (.int i) (kvs.map λp=>V.int p.1) σ) (P (.int i) (.int i t) (kvs.map λp=>V.int p.1) (kvs.map (·.2))))
  (k2:∀ i j b xs,b∉C.res->cj (aZ pw G.w) h [i,j] b->h.DictOfH (dW (aZ pw G.w)) a xs->(∀ p∈xs,p.2.1∉C.res)->Al (m (.tup [.int i, .int j]) (xs.map λp=>V.tup (p.1.map V.int)) σ) (P (.tup [.int i, .int j]) (.ref b) (xs.map λp=>V.tup (p.1.map V.int)) (xs.map (·.2.2)))):
  Al (M.guard (keyOk x ks) (m x ks) σ) (P x v ks ws):=Al.guard λhk=>(gI.mp hk).elim
 (λhk=>vn (P:=λx=>sg h C x v->Al (m x ks σ) (P x v ks ws)) (rY hk).1 (λi hx=>hx.out (P:=λv=>Al (m (.int i) ks σ) (P (.int i) v ks ws)) λt=>Hj (P:=λks ws=>Al (m (.int i) ks σ) (P (.int i) (.int i t) ks ws)) D (rY hk).2 (k1 i t)) hx)
 (λhk=>JQ (P:=λx=>sg h C x v->Al (m x ks σ) (P x v ks ws)) (rY hk).1 (λi j hx=>Yv (P:=λv=>Al (m _ ks σ) (P _ v ks ws)) hx λb n K=>Tq (P:=λks ws=>Al (m (.tup [.int i, .int j]) ks σ) (P (.tup [.int i, .int j]) (.ref b) ks ws)) D (rY hk).2 λxs=>k2 i j b xs n K) hx)
theorem Al.AO{x:V}{xs:O V}{v:af}{vs:O af}(hx:Rd h x v)(J:DL h xs vs){P:aj->Ob->Prop}(hA:yG d A)
  (k:∀ U ds as bs,gH h v U as->ReadsAll h vs ds bs->U.canLay0=true->lK ds=true->A.units+1+min (lL ds) U.depth<cLine->P (ds.any λy=>dk y U) σ):Al (Internal.AO x xs σ) P:=
 Al.guard (m:=M.pure _) λp=>have p:=rY p
 (hx.reads 8 p.1).elim λz q=>(J.reads 8 p.2).elim λz q'=>J.any x▸k _ _ _ _ q q' (hx.lay 8 p.1).1 (J.lay 8 p.2).1
  (bH (cw (aw (gJ ..) (aw (hx.lay 8 p.1).2 (by decide:8<=63))) _) (dZ ..▸hA.MW))
def P9(A:az)(σ:Ob)(s:ai)(v u:af)(q:aj)(σ':Ob):Prop:=σ'=σ/\∀ {Q:VS},(∀ k,Q (.bool q) {s with toks:=k})->ak sB A (bI .In v u) Q tg s
theorem Al.mem{a b:V}{v u:af}(J:yG d A)(I:Inv C σ s)(ha:sg s.heap C a v)(hb:sg s.heap C b u):Al (Hc a b σ) (P9 A σ s v u):=
 have lst:∀ {xs:O V} {items:aB af} {l:ag},s.heap.IsList l items->su s.heap C xs items.toList->Al (Internal.AO a xs σ) (P9 A σ s v (.ref l)):=λt U=>
  Al.AO ha.rd U.Yu J λz z z z r q l l' u=>t.elim λ_ ⟨o,c,_,dt⟩=>⟨rfl,λk=>SeqAt.in_list_reads (.list o c dt q) r l' l u (k s.toks)⟩
 sg.casesOn (motive_1:=λb u z=>Al (Hc a b σ) (P9 A σ s v u)) hb ah ah ah (λz=>ah)
  (λz t e=>Al.AO ha.rd e.Yu J λz z z z r q l l' u=>t.elim λ_ ⟨o,c,_,dt⟩=>⟨rfl,λk=>SeqAt.in_tuple_reads (.tuple o c dt q) r l' l u (k s.toks)⟩)
  (λz t e=>lst t.isList e) (λz z z=>ah) (λz z z z=>ah) (λz z z=>ah)
  (λ{i p} he=>Al.obj (f:=Ge a) I he λo z r=>tm.casesOn (motive:=λp m z=>(p.1==ft)=false->Al (Ge a m σ) (P9 A σ s v (.ref p.1))) r (λl e z=>lst l.isList e)
   (λz D y=>Al.key (m:=λx ks=>M.pure (ks.any (V.beq x))) (P:=λx v ks z q σ'=>P9 A σ s v (.ref _) q σ') ha D
     (λi t kvs D=>⟨rfl,λk=>wpAny_in_of (knd:=aZ pw G.w) (k:=i) (AU (h:=s.heap) (C:=C) .int) y D.mapOf (WH kvs i▸k _)⟩)
     (λi j b xs z K D z=>⟨rfl,λk=>wpAny_in_heap (knd:=dW (aZ pw G.w)) (k:=[i,j]) (Hk J) K y D (Ts xs i j▸k _)⟩))
   (λz z z z z z z z=>ah) (Hl I (vF (vh he (.head _)))))
end
section
variable{d:aa}{A:az}{X:O ag}{C:Cx}{σ:Ob}{s:ai}{α β:Type}{h:aq}
theorem r0.on{x:V}{v:af}(e:sg s.heap C x v){m:M α}{f:af->aM β}{R:aq->Cx->α->β->Prop}(k:Out s.heap C (λv=>r0 A X C σ s m (f v) R) x):r0 A X C σ s m (f v) R:=e.out k
theorem r0.sS{x:V}{v:af}(e:sg s.heap C x v){g:ae->M α}{f:af->aM β}{R:aq->Cx->α->β->Prop}(k:∀ i t,r0 A X C σ s (g i) (f (.int i t)) R):r0 A X C σ s (sS g x) (f v) R:=
 sg.casesOn (motive_1:=λx v z=>r0 A X C σ s (Internal.sS g x) (f v) R) e ah ah (k _ _) (λz=>ah) (λz z z=>ah) (λz z z=>ah) (λz z z=>ah) (λz z z z=>ah) (λz z z=>ah) λz=>ah
theorem r0.tT{x y:V}{v u:af}(e:sg s.heap C x v)(J:sg s.heap C y u){g:ae->ae->M α}{f:af->af->aM β}{R:aq->Cx->α->β->Prop}(k:∀ i t j t',r0 A X C σ s (g i j) (f (.int i t) (.int j t')) R):r0 A X C σ s (tT g x y) (f v u) R:=
 .sS (g:=λx=>Internal.sS (g x) y) (f:=λv=>f v u) e λi t=> .sS (g:=g i) (f:=f (.int i t)) J (k i t)
theorem r0.guard{b:aj}{m:M α}{f:aM β}{R:aq->Cx->α->β->Prop}(k:b=true->r0 A X C σ s m f R):r0 A X C σ s (M.guard b m) f R:=Al.guard k
theorem Me{M:ce}{v u:af}{Q:VS}{E:VS}(h:ak M A (bI .In v u) (λx s'=>∃ b,x= .bool b/\Q (.bool (!b)) s') E s):ak M A (bI .NotIn v u) Q E s:=λΓ p J=>by
 have z:=h Γ p J;rw[show bI .In v u=(contains u v>>=λr=>pure (.bool r)) from rfl,lO] at z
 rw[show bI .NotIn v u=(contains u v>>=λr=>pure (.bool (!r))) from rfl,lO]
 refine aM.wp_mono _ _ _ (λb p' s' U=> ?_) (λy y y=>id) _ _ z;rw[aM.wp_pure'] at U⊢
 exact U.elim λc hc=>(qm hc.1)▸hc.2
theorem Ol{prog:a9}{w:a0}{a b:ae}{t u:bk}{Q:aj->ai->Prop}{E:VS}(h:Q (decide (a=b)) s):ak (aA prog w) A (eqBool (.int a t) (.int b u)) Q E s:=
 (aZ prog w).eqBool (a:=a) (b:=b) (by simp[aZ,fQ]) (by simp[aZ,fQ]) h
theorem WI{prog:a9}{w:a0}{x y:ae}{a b:ag}{t u:bk}{Q:VS}{E:VS}(hu:A.units<cLine)(hx:bW s.heap a #[.int x t])(hy:bW s.heap b #[.int y u])(h:Q (.bool (decide (x<y))) s):
  ak (aA prog w) A (bI .Lt (.ref a) (.ref b)) Q E s:=
 have J:s.TypeIs (.ref a) "tuple":=hx.imp λz=>fT id cP;have U:s.TypeIs (.ref b) "tuple":=hy.imp λz=>fT id cP
 have tree:∀ {A:az} {P:Fin->ai->Prop} {E:VS},P (.done (.ret (.bool (decide (x<y))))) s->ak (aA prog w) A (bq.«tuple.__lt__» ⟨[.ref a, .ref b],[]⟩) P E s:=λ{A P E} h=>by
  refine hx.elim λoa ⟨hoa,_,na,hda⟩=>hy.elim λob ⟨hob,_,nb,hdb⟩=> ?_;refine(ao (gK U isSubtype_tuple_tuple ?_):ak _ _ (isInstance (.ref b) (.type "tuple")>>=_) _ _ s);refine(ao (lP hoa hda ?_):ak _ _ (lQ (a7 a)>>=_) _ _ s);refine ao (lP hob hdb (ao ?_));refine ao (ao (Ol ?_))
  by_cases hk:x=y
  ·subst hk
   rw[aX rfl];rw[cn (ae.lt_irrefl x)] at h
   exact ay (ay (ay h))
  ·rw[cn hk]
   exact ao (ek (ao (jE (sP (ay (ay (ay h)))))))
 wpAny_richCompare_same_room (op:= .Lt) J U lR (cz lR J F.entry_tuple_lt (tree ⟨_,rfl,(λe=>(by cases e)),h⟩) (F.args_tuple_lt_2 _ _)) hu
theorem Aj{a:V}{v:af}(ha:sg h C a v):plainIs v .none=true/\(v==cA)=isNone a:=
 sg.casesOn (motive_1:=λa v z=>plainIs v .none=true/\(v==cA)=isNone a) ha ⟨rfl,rfl⟩ ⟨rfl,rfl⟩ ⟨rfl,rfl⟩ (λz=>⟨rfl,rfl⟩) (λz z z=>⟨rfl,rfl⟩) (λz z z=>⟨rfl,rfl⟩) (λz z z=>⟨rfl,rfl⟩) (λz z z z=>⟨rfl,rfl⟩) (λz z z=>⟨rfl,rfl⟩) λz=>⟨rfl,rfl⟩
theorem Qa{P:af->Prop}{b:V}(e:isNone b=true){u:af}(J:sg h C b u)(k:P .none):P u:=by
 cases b with
 |none=>exact J.out k
 |_=>exact vJ e
theorem Yw{i:ae}{v:af}{P:af->Prop}(e:sg h C (.tup [.int i]) v)(k:∀ a t,bW h a #[.int i t]->P (.ref a)):P v:=e.out λa its n t e=>
 have z:∃ t,its.toList=[.int i t]:=e.out (P:=λl=>∃ t,l=[.int i t]) λy y a e=>a.out (P:=λv=>∃ t,v::_=[.int i t]) λt=>e.out (P:=λl=>∃ t', .int i t::l=[.int i t']) ⟨t,rfl⟩
 z.elim λt' z=>k a t' ((el z:its= #[.int i t'])▸t)
theorem Yx{a b:V}{v u:af}(U:yG d A)(I:Inv C σ s)(ha:sg s.heap C a v)(J:sg s.heap C b u):r0 A X C σ s (mlt a b) (bI .Lt v u) DJ:=by
 cases a with
 |int x=>exact r0.on (v:=v) (f:=λv=>bI .Lt v u) ha λt=> .sS (f:=λu=>bI .Lt (.int x t) u) J λj t'=>jE (sJ I rfl)
 |tup xs=>
  cases xs with
  |nil=>exact ah
  |cons x r=>
   cases r with
   |cons=>exact ah
   |nil=>
    cases x with
    |int x=>
     cases b with
     |tup ys=>
      cases ys with
      |nil=>exact ah
      |cons y r=>
       cases r with
       |cons=>exact ah
       |nil=>
        cases y with
        |int y=>exact Yw (P:=λv=>r0 A X C σ s (M.pure (decide (x<y))) (bI .Lt v u) DJ) ha λl t h3=>Yw (P:=λu=>r0 A X C σ s (M.pure (decide (x<y))) (bI .Lt (.ref l) u) DJ) J λl' t' h4=>WI U.aaK h3 h4 (sJ I rfl)
        |_=>exact ah
     |_=>exact ah
    |_=>exact ah
 |_=>exact ah
theorem WJ{op:ct}{a b:V}{v u:af}(U:yG d A)(I:Inv C σ s)(ha:sg s.heap C a v)(J:sg s.heap C b u):r0 A X C σ s (uC op a b) (bI op v u) DJ:=by
 have hm:=Al.mem U I ha J;have is:∀ {q:aj} {op:ct},(ak sB A (bI op v .none) (sY X C s DJ q σ) tg s)->r0 A X C σ s (M.guard (isNone b) (M.pure q)) (bI op v u) DJ:=λ{q op} z=> .guard λhn=>Qa (P:=λu=>r0 A X C σ s (M.pure q) (bI op v u) DJ) hn J z;cases op with
 |Eq=>exact Al.eq I ha J λy y y y r1 r2 s1 s2=>jF r1 r2 s1 s2 U.MW (sJ I rfl)
 |NotEq=>exact MX (Al.eq I ha J λy y y y r1 r2 s1 s2=>ne_dataH r1 r2 s1 s2 U.MW (sJ I rfl))
 |In=>exact hm.imp λy y k=>k.1▸k.2 λy=>sJ I rfl
 |NotIn=>exact MX (hm.imp λy y k=>k.1▸Me (k.2 λy=>⟨_,rfl,sJ I rfl⟩))
 |Is=>exact is (wpAny_is_plain (Aj ha).1 (sJ I (av _ (Aj ha).2)))
 |IsNot=>exact is (wpAny_isNot_plain (Aj ha).1 (sJ I (av (λb=>af.bool !b) (Aj ha).2)))
 |Lt=>exact Yx U I ha J
 |LtE=>exact .tT (f:=bI .LtE) ha J λy y y y=>qn (sJ I rfl)
 |Gt=>exact .tT (f:=bI .Gt) ha J λy y y y=>qo (sJ I rfl)
 |GtE=>exact .tT (f:=bI .GtE) ha J λy y y y=>qp (sJ I rfl)
end
section
variable{h:aq}{C:Cx}{xs ys:O V}{vs us:O af}
theorem tj.ind{P:O V->O af->Prop}(e:su h C xs vs)(nil:P [] [])(cons:∀ {x xs v vs},sg h C x v->su h C xs vs->P xs vs->P (x::xs) (v::vs)):P xs vs:=
 tj.rec (motive:=λx v z=>P x v) nil (λa b c=>cons a b c) e
theorem tj.inv{x:V}{v:af}(e:su h C (x::xs) (v::vs)):sg h C x v/\su h C xs vs:=e.out (P:=λl=>∀ v vs,l=v::vs->sg h C x v/\su h C xs vs) (λz z a b z z e=>by cases e;exact⟨a,b⟩) _ _ rfl
theorem tj.no{v:af}(e:su h C [] (v::vs)):bM:=e.out (P:=λl=>l=v::vs->bM) (λe=>(by cases e)) rfl
theorem tj.length{α β:Type}{R:α->β->Prop}{as:O α}{bs:O β}(h:tj R as bs):as.length=bs.length:=tj.rec (motive:=λ(as:O α) (bs:O β) (_:tj R as bs)=>as.length=bs.length) rfl (λz z e=>av (·+1) e) h
theorem tj.append(e:su h C xs vs)(f:su h C ys us):su h C (xs++ys) (vs++us):=e.ind (P:=λxs vs=>su h C (xs++ys) (vs++us)) f λa z=> .cons a
theorem tj.get(e:su h C xs vs):∀ (i:aa) (x:V),xs[i]?=some x->∃ v,vs[i]?=some v/\sg h C x v:=
 e.ind (P:=λxs vs=>∀ (i:aa) (x:V),xs[i]?=some x->∃ v,vs[i]?=some v/\sg h C x v) (λz z h=>(by cases h)) λa z J i=>match i with
  |0=>λz e=>⟨_,rfl,aE e▸a⟩
  |i+1=>J i
theorem tj.take(e:su h C xs vs):∀ n,su h C (xs.take n) (vs.take n):=
 e.ind (P:=λxs vs=>∀ n,su h C (xs.take n) (vs.take n)) (λn=>by rw[lS,lS];exact .nil) λa z J n=>match n with|0=> .nil|n+1=> .cons a (J n)
theorem tj.drop(e:su h C xs vs):∀ n,su h C (xs.drop n) (vs.drop n):=
 e.ind (P:=λxs vs=>∀ n,su h C (xs.drop n) (vs.drop n)) (λn=>by rw[ix,ix];exact .nil) λa b J n=>match n with|0=> .cons a b|n+1=>J n
theorem tj.reverse(e:su h C xs vs):su h C xs.reverse vs.reverse:=
 e.ind (P:=λxs vs=>su h C xs.reverse vs.reverse) .nil λa z J=>by rw[gL,gL];exact J.append (.cons a .nil)
theorem tj.set(e:su h C xs vs){x:V}{v:af}(hx:sg h C x v):∀ i,su h C (xs.set i x) (vs.set i v):=
 e.ind (P:=λxs vs=>∀ i,su h C (xs.set i x) (vs.set i v)) (λz=> .nil) λa b J i=>match i with|0=> .cons hx b|i+1=> .cons a (J i)
theorem tj.replicate{x:V}{v:af}(hx:sg h C x v)(n:aa):su h C (cI n x) (cI n v):=jG .nil (λz=> .cons hx) n
end
noncomputable def VH(h0 h:aq)(L a:ag):ax (ag×aL):=if a=L\/(h0.get? a).isSome=true then none else(h.get? a).map λo=>(a,o)
def yH(h0 h:aq)(L:ag):O (ag×aL):=(bg h.objs.size).filterMap (VH h0 h L)
theorem yi{h0 h:aq}{L a:ag}{o:aL}:(a,o)∈yH h0 h L<->(a≠L/\h0.get? a=none)/\h.get? a=some o:=by
 unfold yH VH;refine eo.trans ⟨λ⟨b,_,e⟩=> ?_,λJ=>have h1:=J.1;have h3:=J.2;⟨a,b5.mpr (aY h3), ?_⟩⟩
 ·by_cases z:b=L\/(h0.get? b).isSome=true
  ·rw[aN z] at e;cases e
  ·rw[aI z] at e
   exact(c5.mp e).elim λo' r=>by cases r.2;exact⟨⟨λh=>z (.inl h),ax.not_isSome_iff_eq_none.mp λh=>z (.inr h)⟩,r.1⟩
 ·rw[aI λz=>z.elim h1.1 λz=>(by rw[h1.2] at z;exact vJ z),h3];rfl
section
variable{d:aa}{A:az}{X:O ag}{C:Cx}{σ:Ob}{s:ai}{α β:Type}{L:ag}{m:am->ax af}{R:aq->Cx->α->β->Prop}{a:α}{b:β}{s':ai}
theorem Inv.fr(I:Inv C σ s)(J:L∈C.sj)(hm:s.heap.Ns L m):Fr G.h0 L s.heap m:=⟨hm,λz z=>I.uG,I.above (th J)⟩
theorem Inv.news(I:Inv C σ s):News G.h0 L s.heap (yH G.h0 s.heap L):=λ(_,_) hp=>have z:=yi.mp hp;⟨z.2,z.1⟩
theorem WK{h h':aq}{h0:aq}{x:O (ag×aL)}(hk:∀ {a o},h0.get? a=some o->h.get? a=some o)(F:Fr h0 L h' m)(N:News h0 L h' (x++yH h0 h L)){a:ag}{o:aL}(n:a≠L)(e:h.get? a=some o):h'.get? a=some o:=by
 cases hg:h0.get? a with
 |none=>exact N.get (aG.mpr (.inr (yi.mpr ⟨⟨n,hg⟩,e⟩)))
 |some q=>exact F.keep a o (hg.trans ((hk hg).symm.trans e))
theorem Hm{x:O (ag×aL)}(I:Inv C σ s)(J:L∈C.sj)(hm:s.heap.Ns L m)(F:Fr G.h0 L s'.heap m)(N:News G.h0 L s'.heap (x++yH G.h0 s.heap L))
  (U:uj s.heap C s'.heap C->R s'.heap C a b) (hos:s'.os=s.os:=by rfl) (hg:s'.gens=s.gens:=by rfl):sY X C s R a σ b s':=
 have z:Nx X C s C σ s':= .frame I J hm F.ns (WK I.uG F N) hos hg
 ⟨z,U z.S⟩
theorem Inv.MZ(I:Inv C σ s){a:ag}(h:s.heap.get? a=none):a∉C.res:=λhr=>(I.there hr).elim λz e=>(by cases (h.symm.trans e))
theorem MZ(I:Inv C σ s){D:ag}{o:aL}{h':aq}{x:O (ag×aL)}(N:News G.h0 L h' x)(hD:(D,o)∈x)(J:∀ p∈yH G.h0 s.heap L,p.1<D):D∉C.res:=λhr=>
 (I.there hr).elim λz U=>aC (J _ (yi.mpr ⟨(N _ hD).2,U⟩)) (bT _)
theorem vW(I:Inv C σ s):s.heap.objs.size∉C.res:=λhr=>(I.there hr).elim λz e=>aC (aY e) (bT _)
theorem wR(I:Inv C σ s)(hk:∀ {a o},s.heap.get? a=some o->s'.heap.get? a=some o)(J:uj s.heap C s'.heap C->R s'.heap C a b)(hos:s'.os=s.os:=by rfl)(hg:s'.gens=s.gens:=by rfl):sY X C s R a σ b s':=
 have z:Nx X C s C σ s':= .grow I hk hos hg
 ⟨z,J z.S⟩
theorem zI{o_:aL}(I:Inv C σ s)(J:uj s.heap C s'.heap C->R s'.heap C a b)(U:s'.heap=s.heap.push o_:=by rfl)(hos:s'.os=s.os:=by rfl)(hg:s'.gens=s.gens:=by rfl):sY X C s R a σ b s':=
 wR I (λe=>U▸aS o_ e) J hos hg
theorem yI{x:ae}(h:smallInt x=true): -1000000000<=x/\x<=1000000000:=(rY h).imp aP aP
theorem Yy{x:ae}{B:aa}(h1: -(B:ae)<=x)(h2:x<=B):x.natAbs<=B:=
 (ae.le_total 0 x).elim (λh=>cB.mp ((lT h).symm▸h2)) λh=>cB.mp ((lU h).symm▸ae.neg_le_of_neg_le h1)
theorem Om{x:ae}(h:smallInt x=true):bq.Int.intBits x<=64:=intBits_le_iff.mpr (bH (Yy (B:=1000000000) (yI h).1 (yI h).2) (by decide))
theorem xd{x:ae}(h:smallInt x=true): -(2^63:ae)<=x/\x<2^63:=(yI h).imp (bK (by decide)) λh=>fU h (by decide)
theorem wF{n:aa}(h:n<=lim):n<=sizeLine:=aw h (by decide)
theorem AF{h:aq}{D:ag}{xs:O af}(e:h.get? D=some {cls:= .type "tuple",data:= .seq xs.toArray}):bW h D xs.toArray:=⟨_,e,rfl,_,rfl⟩
theorem JR{α:Type}(x:α)(n:aa):(cI n [x]).flatten=cI n x:=jG rfl (λn J=>(av (x:: ·) J:x::_=_)) n
end
section
variable{d:aa}{A:az}{X:O ag}{C:Cx}{σ:Ob}{s:ai}
theorem WL{a b:V}{v u:af}(P:At d A C σ s)(ha:sg s.heap C a v)(hb:sg s.heap C b u):r0 A X C σ s (JC b a) (binaryOp .Add v u) (RV):=by
 have I:=P.I;refine P.fr.elim λL ⟨m,hL,hm⟩=> ?_;refine sg.casesOn (motive_1:=λa v z=>r0 A X C σ s (JC b a) (binaryOp .Add v u) (RV)) ha ah ah ?_ (λz=>ah) ?_ ?_ (λz z z=>ah) (λz z z z=>ah) (λz z z=>ah) λz=>ah
 ·exact .sS (f:=λu=>binaryOp .Add _ u) hb λj t'=>lV (sJ I .int)
 ·intro xs a its n1 t1 e1
  refine sg.casesOn (motive_1:=λb u z=>r0 A X C σ s (JC b (.tup xs)) (binaryOp .Add (.ref a) u) (RV)) hb ah ah ah (λz=>ah) ?_ (λz z z=>ah) (λz z z=>ah) (λz z z z=>ah) (λz z z=>ah) λz=>ah;intro ys a' J n2 t2 e2;have U:=e1.append e2
  exact .guard λh=>qq (vs:=its.toList) (ws:=J.toList) (I.fr hL hm) I.news t1 t2 (λh0=>sJ I (.tup n2 t2 (by rw[h0] at U;exact U))) (λz h0=>sJ I (.tup n1 t1 (by rw[h0,bY] at U;exact U)))
   (λz z h' F N=>Hm (x:=[_]) I hL hm F N λS=> .tup (vW I) (AF (N.get (.head _))) (U.step S)) (by rw[<-e1.length,<-e2.length];exact wF (aP h))
 ·intro xs a its n1 t1 e1
  refine sg.casesOn (motive_1:=λb u z=>r0 A X C σ s (JC b (.lst xs)) (binaryOp .Add (.ref a) u) (RV)) hb ah ah ah (λz=>ah) (λz z z=>ah) ?_ (λz z z=>ah) (λz z z z=>ah) (λz z z=>ah) λz=>ah;intro ys a' J n2 t2 e2
  exact .guard λh=>qr (I.fr hL hm) I.news t1.isList t2.isList (λh' F N=>Hm (x:=[_]) I hL hm F N λS=> .lst (vW I) ⟨_,N.get (.head _)⟩ ((e1.append e2).step S))
   (by rw[<-bQ,<-bQ,<-e1.length,<-e2.length];exact wF (aP h))
theorem WM{a b:V}{v u:af}(P:At d A C σ s)(ha:sg s.heap C a v)(U:sg s.heap C b u):r0 A X C σ s (CD b a) (binaryOp .Mult v u) (RV):=by
 have I:=P.I;refine P.fr.elim λL ⟨m,hL,hm⟩=> ?_;refine sg.casesOn (motive_1:=λa v y=>r0 A X C σ s (CD b a) (binaryOp .Mult v u) (RV)) ha ah ah ?_ (λy=>ah) (λy y y=>ah) ?_ (λy y y=>ah) (λy y y y=>ah) (λy y y=>ah) λy=>ah
 ·exact .sS (f:=λu=>binaryOp .Mult _ u) U λj t'=> .guard λh=>qt (sJ I .int) (qu (Om (rY h).1))
 ·intro xs a its n1 t1 e1
  cases xs with
  |nil=>exact ah
  |cons x r=>
   cases r with
   |cons=>exact ah
   |nil=>
    refine .sS (f:=λu=>binaryOp .Mult (.ref a) u) U λn t'=> .guard λh=> ?_;have h0:=aP (rY h).1;have h1:=aP (rY h).2;have z:∃ v,its.toList=[v]/\sg s.heap C x v:=e1.out (P:=λl=>∃ v,l=[v]/\sg s.heap C x v) λv vs a e=>⟨v,e.out (P:=λl=>v::l=[v]) rfl,a⟩
    exact z.elim λv z=>qw (vs:=[v]) (I.fr hL hm) I.news ((el z.1:its= #[v])▸t1.isList) (bK (by decide) h0) (fU h1 (by decide)) (by simp;exact bK h1 (by decide)) rfl
     (λD h' F N J=>Hm (x:=[_]) I hL hm F N λS=> .lst (MZ I N (.head _) J) ⟨_,N.get (.head _)⟩ ((JR v n.toNat).symm▸(tj.replicate z.2 n.toNat).step S))
theorem WN{op:dT}{a b:V}{v u:af}(P:At d A C σ s)(ha:sg s.heap C a v)(J:sg s.heap C b u):
  r0 A X C σ s (AP op a b) (binaryOp op v u) (RV):=by
 cases op with
 |Add=>exact WL P ha J
 |Sub=>exact .tT (f:=binaryOp .Sub) ha J λz z z z=>lW (sJ P.I .int)
 |Mult=>exact WM P ha J
 |Mod=>exact .tT (f:=binaryOp .Mod) ha J λz z y z=> .guard λh=>qx (lX (aP h)) (ae.fmod_eq_emod_of_nonneg _ (fu (aP h))▸sJ P.I .int)
 |_=>exact ah
end
section
variable{prog:a9}{w:a0}{A:az}{E:VS}{s:ai}
theorem CM{v:af}{i:ax ae}{Q:ax ae->ai->Prop}(p:cC v i)(h:Q i s):ak (aA prog w) A (qy v) Q E s:=by
 cases p with
 |none=>exact slicePart_none h
 |int i t=>exact slicePart_int h
theorem applied{sl:ag}{n:aa}{vl vu vs:af}{lo hi st:ax ae}{Q:ae×ae×aa->ai->Prop}(hs:s.heap.IsSliceOf sl vl vu vs)(pl:cC vl lo)(pu:cC vu hi)(ps:cC vs st)(h0:(st.getD 1==0)=false)
  (h:Q ((d2 lo hi (st.getD 1) n).1,st.getD 1,gM (d2 lo hi (st.getD 1) n).1 (d2 lo hi (st.getD 1) n).2 (st.getD 1)) s):
  ak (aA prog w) A (qz (.ref sl) (pure (n:ae))) Q E s:=by
 refine(id hs).elim λos U=> ?_;have hos:=U.1;have J:=U.2.2;refine ao (ao (bJ hos J (x:=vl) rfl (ao (bJ hos J (x:=vu) rfl (ao (bJ hos J (x:=vs) rfl (ay ?_)))))));refine sf (λz=>CM ps) ?_;dsimp only;refine wpAny_ite_false (by rw[h0];decide) ?_
 exact ao (CM pl (ao (CM pu (sP (ay h)))))
theorem Dz{t sl:ag}{items:aB af}{vl vu vs:af}{lo hi st:ax ae}{zs:O af}{a b:ae}{n:aa}{Q:VS}(ht:bW s.heap t items)(hs:s.heap.IsSliceOf sl vl vu vs)
  (pl:cC vl lo) (pu:cC vu hi) (ps:cC vs st) (h0:(st.getD 1==0)=false) (e1:d2 lo hi (st.getD 1) items.size=(a,b)) (e2:gM a b (st.getD 1)=n)
  (e3:((bg n).filterMap λ(k:aa)=>items[(a+(k:ae)*st.getD 1).toNat]?)=zs) (hw:(a==0&&st.getD 1==1&&n==items.size)=true->zs=items.toList)
  (hq1:zs=items.toList->Q (.ref t) s) (J:Q (.ref s.heap.objs.size) {s with heap:=s.heap.push {cls:= .type "tuple",data:= .seq zs.toArray}})
  (hsz:zs.length<=sizeLine):ak (aA prog w) A (getItem (.ref t) (.ref sl)) Q E s:=by
 have U:sizeOk (.seq zs.toArray):=by
  show zs.toArray.size<=sizeLine;exact hsz
 refine(id hs).elim λos sd=> ?_;have hos:=sd.1;have hcs:=sd.2.1;have hTs:s.TypeIs (.ref sl) "slice":=⟨os,hos,hcs⟩;unfold getItem
 try with_reducible refine bd ?_
 first|refine sP ?_|skip
 refine sf (λz=>wpAny_sequenceKey ht.typeIs (by decide)) ?_
 refine ao (d3 (name:=aJ "__getitem__") ht.typeIs lY
  (cz lY ht.typeIs entry_tuple_getitem ?_ (args_tuple_getitem _ _)))
 show ak _ _ (lQ (.ref t)>>=_) _ _ s;refine sf (λz=>tupleItemsOf_ ht) ?_;refine sf (λz=>d4 hTs) ?_;refine iy (by decide) ?_
 refine sf (λz=>applied hs pl pu ps h0) ?_;rw[e1];dsimp only;rw[e2,e3]
 by_cases hh:(a==0&&st.getD 1==1&&n==items.size)=true
 ·rw[aN hh]
  refine ao (ao (d4 ht.typeIs (ay ?_)));refine iy (by decide) ?_
  refine sf (λz=>ek) ?_;exact ay ⟨_,rfl,ay (hq1 (hw hh))⟩
 ·rw[aI hh]
  first
   |exact ao (m:=iz _) (dg (ay ⟨_,rfl,ay J⟩) U)
   |exact ao (m:=iz _) (dg (sP (ay ⟨_,rfl,ay J⟩)) U)
   |exact ao (ao (m:=iz _) (dg (ay (ay ⟨_,rfl,ay J⟩)) U))
   |exact ao (ao (m:=iz _) (dg (ay ⟨_,rfl,ay J⟩) U))
end
theorem getElems(l:O af)(n:aa):((bg n).filterMap λ(k:aa)=>l[k]?)=l.take n:=by
 induction n with
 |zero=>simp
 |succ n J=>
  rw[O.range_succ,O.filterMap_append,J,lZ]
  congr 1
theorem WO(l:O af)(c n:aa):((bg n).filterMap λ(k:aa)=>l[c+k]?)=(l.drop c).take n:=by
 rw[<-getElems (l.drop c) n]
 congr 1
 funext k;rw[jH]
theorem Yz(l:O af):((bg l.length).filterMap λ(k:aa)=>l[l.length - 1 - k]?)=l.reverse:=by
 have z:∀ (ks:O aa),(∀ k∈ks,k<l.length)->(ks.filterMap λ(k:aa)=>l[l.length - 1 - k]?)=(ks.filterMap λ(k:aa)=>l.reverse[k]?):=by
  intro ks;induction ks with
  |nil=>intro _;rfl
  |cons k ks J=>
   intro h;rw[jI,jI,O.getElem?_reverse (h k (.head _)),J λx hx=>h x (.tail _ hx)]
 rw[z _ (λk hk=>b5.mp hk),getElems,fV (by simp)]
section
variable{d:aa}{A:az}{X:O ag}{C:Cx}{σ:Ob}{s:ai}{h:aq}
theorem yj{k:ae}{n:aa}(h:wb k n=true):∃ c:aa,k=c/\n<=sizeLine:=⟨k.toNat,(l0 (aP (rY h).1)).symm,wF (aP (rY (rY h).2).2)⟩
theorem u8{v:af}(e:sg h C .none v):cC v none:=e.out (P:=λv=>cC v none) .none
theorem zk{v:af}{k:ae}(e:sg h C (.int k) v):cC v (some k):=e.out (P:=λv=>cC v (some k)) λt=> .int k t
theorem Hn{c:aa}:¬ ((c:ae)<0):=d5.mpr (cQ c)
theorem M0(c n:aa):min (c:ae) n=((min c n:aa):ae):=(iA c n).elim (λh=>(ae.min_eq_left (cB.mpr h)).trans (av _ (fW h).symm)) λh=>(ae.min_eq_right (cB.mpr h)).trans (av _ (iB h).symm)
theorem Qb(c n:aa):d2 none (some (c:ae)) 1 (n:ae)=(0,((min c n:aa):ae)):=by
 unfold d2;simp only[show ¬ ((1:ae)<0) by decide,Hn,bE]
 exact av (jJ 0) (M0 ..)
theorem Qc(c n:aa):d2 (some (c:ae)) none 1 (n:ae)=(((min c n:aa):ae),(n:ae)):=by
 unfold d2;simp only[show ¬ ((1:ae)<0) by decide,Hn,bE]
 exact av (jJ · _) (M0 ..)
theorem JS(a b:ae):(if a<b then(b - a - 1) / 1+1 else 0:ae)=((b - a).toNat:aa):=
 if h:a<b then(aN h).trans (((av (·+1) (ae.ediv_one _)).trans (l3 ..)).trans (l0 (ae.sub_nonneg_of_le (fu h))).symm)
 else(aI h).trans (av aa.cast (ae.toNat_of_nonpos (ae.sub_nonpos_of_le (d5.mp h)))).symm
theorem Ii(a b:aa):gM (a:ae) (b:ae) 1=b - a:=
 (av fX ((aN (by decide)).trans (JS a b))).trans ((b6 _).trans (l5 b a))
theorem On(n:aa):gM ((n:ae) - 1) (-1) (-1)=n:=
 (av fX ((aI (by decide)).trans (JS (-1) (n - 1)))).trans ((b6 _).trans (av fX (l3 (n:ae) 1)))
theorem DM{t sl:ag}{ys:O V}{zs:O af}{items:aB af}{vl vu vs:af}{lo hi st:ax ae}{a b:ae}{n:aa}(P:At d A C σ s)(n1:t∉C.res)(ht:bW s.heap t items)(hs:s.heap.IsSliceOf sl vl vu vs)
  (pl:cC vl lo) (U:cC vu hi) (ps:cC vs st) (h0:(st.getD 1==0)=false) (e1:d2 lo hi (st.getD 1) items.size=(a,b)) (e2:gM a b (st.getD 1)=n)
  (e3:((bg n).filterMap λ(k:aa)=>items[(a+(k:ae)*st.getD 1).toNat]?)=zs) (hw:(a==0&&st.getD 1==1&&n==items.size)=true->zs=items.toList)
  (hy:su s.heap C ys zs) (J:zs.length<=sizeLine):ak sB A (getItem (.ref t) (.ref sl)) (sY X C s (RV) (.tup ys) σ) tg s:=
 Dz ht hs pl U ps h0 e1 e2 e3 hw (λe=>sJ P.I (.tup n1 ht (e▸hy))) (zI P.I λS=> .tup (vW P.I) (AF (a8 _ rfl)) (hy.step S)) J
theorem YA(m k:aa):((m:ae)+(k:ae)*1).toNat=m+k:=(av (λx:ae=>((m:ae)+x).toNat) (jK _)).trans (b6 (m+k))
theorem Tt(n k:aa):((n:ae) - 1+(k:ae)* -1).toNat=n - 1 - k:=
 (av fX ((av ((n:ae) - 1+ ·) ((ae.mul_neg ..).trans (av _ (jK _)))).trans (l6 (n:ae) 1 k))).trans ((l5 n (1+k)).trans (aa.sub_sub n 1 k).symm)
theorem Ho(items:aB af)(i:aa)(k:ae)(h:k.toNat=i):items[k.toNat]?=items.toList[i]?:=by rw[h,bL]
def M1(p:aa×aa):aj:=match sV p.1,sV p.2 with
 |some x,some y=>if(slicePicked x none (some (6,0)) none).length==x.length then x.cps.toList==y.cps.toList else decide (y.length<=sizeLine)&&(slicePicked x none (some (6,0)) none).filterMap (x.cps[·]?)==y.cps.toList
 |_,_=>false
theorem WP:JE.all M1=true:=by decide+kernel
theorem lookup_mem{κ α:Type}[BEq κ][fY κ]{k:κ}{v:α}{l:O (κ×α)}(h:l.lookup k=some v):(k,v)∈l:=by
 induction l with
 |nil=>cases h
 |cons p l J=>
  rw[eu] at h
  cases hk:k==p.1 with
  |true=>rw[hk] at h;rw[eq_of_beq hk,<-aE h];exact .head _
  |false=>rw[hk] at h;exact .tail _ (J h)
theorem M2{x y:am}(h:x.cps.toList=y.cps.toList):x=y:=by
 cases x;cases y
 congr
 exact el h
set_option tactic.hygienic true in
theorem aaL{c J:aa}{x:am}{t t6:bk}{Q:VS}(h:JE.lookup c=some J)(hx:sV c=some x)(hq:∀ y t' k,sV J=some y->Q (.str y t') {s with toks:=k}):(sliceMade x t none (some (6,t6)) none).post Q s:=by
 have z:=bh.mp WP _ (lookup_mem h);unfold M1 at z
 dsimp only at z
 rw[hx] at z
 cases hy:sV J with
 |none=>rw[hy] at z;cases z
 |some y=>
  rw[hy] at z
  dsimp only at z
  unfold sliceMade;have ep:slicePicked x none (some (6,t6)) none=slicePicked x none (some (6,0)) none:=rfl;rw[ep];split at z
  ·rename_i U
   rw[aN (by rw[U];rfl)]
   have:x=y:=M2 (eq_of_beq z);subst this;exact hq x t s.toks hy
  ·rename_i U
   rw[aI (by intro hh;exact U (cM.mp hh).2)]
   refine(cM.mp z).elim λz1 z2=> ?_;have:(⟨((slicePicked x none (some (6,0)) none).filterMap (x.cps[·]?)).toArray⟩:am)=y:=M2 (by exact eq_of_beq z2)
   rw[this];exact⟨aP z1,hq y s.toks (s.toks+1) hy⟩
theorem Qd(l:O af)(c:aa):kms_pick l none (some (c:ae))=l.take c:=by
 unfold kms_pick kms_lo kms_hi;dsimp only;exact(l7).symm
theorem YB(l:O af)(c:aa):kms_pick l (some (c:ae)) none=l.drop c:=by
 unfold kms_pick kms_lo kms_hi;dsimp only;rw[aI Hn,b6,fV (by simp)]
 exact(iA c l.length).elim (λh=>by rw[fW h]) λh=>by rw[iB h,iC (aU _),iC h]
theorem DN{its:aB af}{t sl:ag}{vl vu vs:af}{lo hi:ax ae}{ys:O V}(P:At d A C σ s)(J:s.heap.IsList t its)(hs:s.heap.IsSliceOf sl vl vu vs)(pl:cC vl lo)(U:cC vu hi)(ps:cC vs none)
  (e:su s.heap C ys (kms_pick its.toList lo hi)) (hz:its.size<=sizeLine):ak sB A (getItem (.ref t) (.ref sl)) (sY X C s (RV) (.lst ys) σ) tg s:=
 wpAny_getItem_list_slice J hs pl U ps (by decide) (zI P.I λS=> .lst (vW P.I) ⟨_,a8 _ rfl⟩ ((by rw[kms_pick_eq];exact e:su s.heap C ys (slicePick its lo hi none).toList).step S)) hz
theorem Tu{o:V}{k:ae}{v vl vu vs:af}{sl:ag}(P:At d A C σ s)(ho:sg s.heap C o v)(hl:sg s.heap C .none vl)(hu:sg s.heap C (.int k) vu)(J:sg s.heap C .none vs)
  (hs:s.heap.IsSliceOf sl vl vu vs):r0 A X C σ s (ED k o) (getItem v (.ref sl)) (RV):=by
 refine sg.casesOn (motive_1:=λo v z=>r0 A X C σ s (ED k o) (getItem v (.ref sl)) (RV)) ho ah ah ah ?_ (λ{xs a its} n1 U e1=> .guard λh=> ?_) (λn1 U e1=> .guard λh=> ?_) (λn1 U e1=> .guard λh=> ?_) (λz z z z=>ah) (λz z z=>ah) λz=>ah
 ·refine λ{c x t} hx=> .guard λh6=> ?_
  have h6:=eq_of_beq h6;subst h6;cases hp:JE.lookup c with
  |none=>exact(ah:Al (sM (dD V.str none) σ) _)
  |some c'=>exact hu.out (P:=λvu=>s.heap.IsSliceOf sl vl vu vs->_) (λt6 hs=>hl.out (P:=λvl=>s.heap.IsSliceOf sl vl _ vs->_) (J.out (P:=λvs=>s.heap.IsSliceOf sl _ _ vs->ak sB A (getItem (.str x t) (.ref sl)) (sY X C s (RV) (.str c') σ) tg s)
    λhs=>wpAny_getItem_str_slice (l:=none) (u:=some (6,t6)) (st:=none) hs rfl (aaL hp hx λy t' k hy=>sJ P.I (.str hy))) hs) hs
 ·obtain⟨c,rfl,hlen⟩:=yj h
  refine DM P n1 U hs (u8 hl) (zk hu) (u8 J) rfl (Qb _ _) (Ii 0 _) (zs:=its.toList.take c) ?_ (λh=> ?_) (e1.take c) (aw (O.length_take_le' ..) (by rw[<-e1.length];exact hlen))
  ·refine(av (iD · _) (funext λk=>Ho its k _ (by simp))).trans ((getElems ..).trans ?_)
   exact(l7).symm
  ·exact fV (by simp at h⊢;exact aw (bF h.symm) (iE ..))
 ·obtain⟨c,rfl,hlen⟩:=yj h
  exact DN P U.isList hs (u8 hl) (zk hu) (u8 J) (Qd ..▸e1.take c) (bQ▸e1.length▸hlen)
 ·obtain⟨c,rfl,hlen⟩:=yj h
  exact DN P U hs (u8 hl) (zk hu) (u8 J) (Qd ..▸e1.take c) (bQ▸e1.length▸hlen)
theorem Tv{o:V}{k:ae}{v vl vu vs:af}{sl:ag}(P:At d A C σ s)(ho:sg s.heap C o v)(hl:sg s.heap C (.int k) vl)(hu:sg s.heap C .none vu)(J:sg s.heap C .none vs)
  (hs:s.heap.IsSliceOf sl vl vu vs):r0 A X C σ s (Ji k o) (getItem v (.ref sl)) (RV):=by
 refine sg.casesOn (motive_1:=λo v z=>r0 A X C σ s (Ji k o) (getItem v (.ref sl)) (RV)) ho ah ah ah (λz=>ah) (λ{xs a its} n1 U e1=> .guard λh=> ?_) (λn1 U e1=> .guard λh=> ?_) (λz z z=>ah) (λz z z z=>ah) (λz z z=>ah) λz=>ah
 ·obtain⟨c,rfl,hlen⟩:=yj h
  have hz:=e1.length;have hz':=bQ (xs:=its);refine DM P n1 U hs (zk hl) (u8 hu) (u8 J) rfl (Qc _ _) (Ii _ _) (zs:=its.toList.drop c) ?_ (λh=> ?_) (e1.drop c) (aw (jL ..▸l8 ..) (hz▸hlen))
  ·refine(av (iD · _) (funext λk=>Ho its (min c its.size+k) _ (YA ..))).trans ((WO ..).trans ?_)
   rw[fV (by simp)]
   exact(iA c its.size).elim (λh=>by rw[fW h]) λh=>by rw[iB h,iC (by simp),iC (by exact h)]
  ·have h:=(rY h)
   have h1:min c its.size=0:=ae.ofNat_eq_zero.mp (eq_of_beq (rY h.1).1);exact(iA c its.size).elim (λh=>by rw[fW h] at h1;rw[h1];rfl) λh=>by rw[iB h] at h1;rw[dY (hz'.trans h1)];exact ix
 ·obtain⟨c,rfl,hlen⟩:=yj h
  exact DN P U.isList hs (zk hl) (u8 hu) (u8 J) (YB ..▸e1.drop c) (bQ▸e1.length▸hlen)
theorem Qe{o lo hi st:V}{v vl vu vs:af}{sl:ag}(P:At d A C σ s)(ho:sg s.heap C o v)(U:sg s.heap C lo vl)(hu:sg s.heap C hi vu)(J:sg s.heap C st vs)
  (hs:s.heap.IsSliceOf sl vl vu vs):r0 A X C σ s (uO o lo hi st) (getItem v (.ref sl)) (RV):=by
 have none:∀ {a:V},isNone a=true->a= .none:=λ{a} h=>by cases a with|none=>rfl|_=>exact vJ h
 cases st with
 |none=>
  cases lo with
  |none=>
   cases hi with
   |int=>exact Tu P ho U hu J hs
   |_=>exact ah
  |int=>exact .guard λh=>Tv P ho U (none h▸hu) J hs
  |_=>exact ah
 |int i=>
  refine .guard λh=> ?_;have h1:=eq_of_beq (rY h).1;subst h1;cases none (rY (rY h).2).1;cases none (rY (rY h).2).2
  refine sg.casesOn (motive_1:=λo v z=>r0 A X C σ s (vm (λxs=>M.guard (decide (xs.length<=lim)) (M.pure (.tup xs.reverse))) o) (getItem v (.ref sl)) (RV)) ho ah ah ah (λz=>ah) (λ{xs a its} n1 t1 e1=> .guard λh=> ?_)
   (λz z z=>ah) (λz z z=>ah) (λz z z z=>ah) (λz z z=>ah) λz=>ah
  refine DM P n1 t1 hs (u8 U) (u8 hu) (zk J) rfl (show d2 jM jM (-1) _=(_ - 1, -1) from rfl) (On _) (zs:=its.toList.reverse) ?_ (λh=> ?_) e1.reverse (by rw[fv,<-e1.length];exact wF (aP h))
  ·exact(av (iD · _) (funext λk=>Ho its (its.toList.length - 1 - k) _ (Tt ..))).trans (Yz its.toList)
  ·simp at h
 |_=>exact ah
end
end
section
abbrev RT:aq->Cx->bi->bi->Prop:=λz z z z=>cu
theorem Oo(r:ag×O ag)(mu:O (ag×O ag)):owned (r::mu)=(r.1::r.2)++owned mu:=rfl
theorem E4{mu:O (ag×O ag)}:∀ {i j:aa} {p q:ag×O ag},(owned mu).Nodup->mu[i]?=some p->mu[j]?=some q->i≠j->∀ {a},a∈p.1::p.2->a∉q.1::q.2:=by
 induction mu with
 |nil=>exact λz h=>(by cases h)
 |cons r mu ih=>
  intro i j p q nd hp J hn a h1 h2;have U:=gN.mp nd;have n2:=U.2.1;have n3:=U.2.2
  match i,j,hn with
  |0,0,hn=>exact hn rfl
  |0,j+1,_=>cases hp;exact n3 a h1 a (vh (i:=j) J h2) rfl
  |i+1,0,_=>cases J;exact n3 a h2 a (vh (i:=i) hp h1) rfl
  |i+1,j+1,hn=>exact ih (i:=i) (j:=j) n2 hp J (λe=>hn (av (·+1) e)) h1 h2
section
variable{d:aa}{A:az}{X:O ag}{C:Cx}{σ:Ob}{s:ai}{α β:Type}{L:ag}{m:am->ax af}
theorem Nx.Qf{i:aa}{p:ag×O ag}{a:ag}{m':sv}{s':ai}(I:Inv C σ s)(hp:C.mu[i]?=some p)(ha:a∈p.1::p.2)(E:Ext X C C s.heap s'.heap)(hs:∀ {b o},b≠a->b∉C.sj->s.heap.get? b=some o->s'.heap.get? b=some o)
  (J:tm s'.heap C p m') (hos:s'.os=s.os:=by rfl) (hg:s'.gens=s.gens:=by rfl):Nx X C s C (σ.set i m') s':=
 ⟨E,{I with
  uG:=λe=>hs (λz=>I.BL e (z▸vF (vh hp ha))) (λz=>I.BL e (th z)) (I.uG e)
  os:=hos.trans I.os
  gens:=hg.trans I.gens
  len:=I.len.trans eO.symm
  there:=λU=>(I.there U).elim λy=>E.live
  rep:=λ{j m q} hj hq=>cZ
   (λn:i=j=>by
    subst n;have uI:=aE (hp.symm.trans hq);subst uI;rw[du (I.len▸(bD.mp hp).1)] at hj
    exact aE hj▸J)
   λn=>(I.rep ((ew n).symm.trans hj) hq).keep E.stp λU=>hs (λz=>E4 I.nodup hp hq n ha (z▸U)) λz=>I.wE z (vh hq U)}⟩
theorem Nx.store{i:aa}{p:ag×O ag}{a:ag}{m':sv}{s':ai}(I:Inv C σ s)(hp:C.mu[i]?=some p)(ha:a∈p.1::p.2)(hs:∀ {b o},b≠a->s.heap.get? b=some o->s'.heap.get? b=some o)(hl:∃ o,s'.heap.get? a=some o)
  (J:uj s.heap C s'.heap C->tm s'.heap C p m') (hos:s'.os=s.os:=by rfl) (hg:s'.gens=s.gens:=by rfl):Nx X C s C (σ.set i m') s':=
 have ho:=vh hp ha;have np:∀ {b},b∈C.sj->b≠a:=λh z=>I.wE (z▸h) ho
 have E:Ext X C C s.heap s'.heap:=⟨rfl,⟨[],(bY _).symm,λy x=>aC x ba⟩,λn=>hs λz=>n (z▸vF ho),λU y x=>yg x λy y y=>aT (hs (np U)),λU y y=>hs (np U),
  λ{b o} e=>cZ (λn:b=a=>n▸hl) λn=>⟨o,hs n e⟩⟩
 .Qf I hp ha E (λn y=>hs n) (J E.stp) hos hg
theorem B6{R:aq->Cx->α->β->Prop}{x:α}{b:β}{i:aa}{p:ag×O ag}{a:ag}{m':sv}{s':ai}(I:Inv C σ s)(hp:C.mu[i]?=some p)(ha:a∈p.1::p.2)(hs:∀ {b o},b≠a->s.heap.get? b=some o->s'.heap.get? b=some o)(U:∃ o,s'.heap.get? a=some o)
  (J:uj s.heap C s'.heap C->tm s'.heap C p m') (hR:uj s.heap C s'.heap C->R s'.heap C x b) (hos:s'.os=s.os:=by rfl) (hg:s'.gens=s.gens:=by rfl):sY X C s R x (σ.set i m') b s':=
 have z:Nx X C s C (σ.set i m') s':= .store I hp ha hs U J hos hg
 ⟨z,hR z.S⟩
section
variable{ε:Type}{f:ε->V}{g:ε->af}{p:ε->Prop}[l9 p]{i:V}{h:aq}
theorem CN(hp:∀ x,V.beq (f x) i=decide (p x)){xs:O ε}:∀ {vs:O V},su h C vs (xs.map g)->
  (∀ y,dictAt i (xs.map f) vs=some y->∃ x,xs.find? (λx=>decide (p x))=some x/\sg h C y (g x))/\(dictAt i (xs.map f) vs=none->xs.find? (λx=>decide (p x))=none):=by
 induction xs with
 |nil=>exact λw=>⟨λw h=>((by cases ((h:jM=some _)))),λw=>rfl⟩
 |cons x xs J=>
  intro vs e;cases vs with
  |nil=>exact e.no.elim
  |cons v vs=>
   have e:=tj.inv (x:=v) (v:=g x) e;show(∀ y,(if V.beq (f x) i=true then some v else dictAt i (xs.map f) vs)=some y->_)/\((if V.beq (f x) i=true then some v else dictAt i (xs.map f) vs)=none->_)
   rw[hp,jN];cases decide (p x) with
   |true=>exact⟨λy z=>⟨x,rfl,aE z▸e.1⟩,λz=>(by cases z)⟩
   |false=>exact J e.2
noncomputable def yv(p:ε->Prop)[l9 p](upd:ε->ε)(new:ε):O ε->O ε
 |[]=>[new]
 |x::xs=>if p x then upd x::xs else x::yv p upd new xs
variable{upd:ε->ε}{new:ε}
theorem M3{xs:O ε}(nd:xs.Pairwise λa b=>p a->¬ p b):(if xs.any (λx=>decide (p x)) then xs.map (λx=>if p x then upd x else x) else xs++[new])=yv p upd new xs:=by
 induction xs with
 |nil=>rfl
 |cons x xs J=>
  obtain⟨n1,n2⟩:=gO.mp nd;show _=if p x then upd x::xs else x::yv p upd new xs
  rw[<-J n2,dF,fw]
  by_cases hx:p x
  ·rw[aN hx,aX hx,aj.true_or,aN rfl,aN hx,iF λy hy=>aI (n1 y hy hx),mc]
  ·rw[aI hx,cn hx,fZ,aI hx]
   split<;>rfl
theorem Tw{Q:ε->Prop}{xs:O ε}(h1:Q new)(h2:∀ x,Q x->Q (upd x)):(∀ x∈xs,Q x)->∀ x∈yv p upd new xs,Q x:=by
 induction xs with
 |nil=>exact λz x h=>(aR.mp h)▸h1
 |cons x xs J=>
  intro h3;show ∀ y∈(if p x then upd x::xs else x::yv p upd new xs),Q y
  split
  ·exact bj.mpr ⟨h2 x (h3 x (.head _)),λy hy=>h3 y (.tail _ hy)⟩
  ·exact bj.mpr ⟨h3 x (.head _),J λy hy=>h3 y (.tail _ hy)⟩
theorem BM(hp:∀ x,V.beq (f x) i=decide (p x))(U:∀ x,f (upd x)=f x)(hn:f new=i){w:V}(hu:∀ x,sg h C w (g (upd x)))(hw:sg h C w (g new)){xs:O ε}:∀ {vs:O V},su h C vs (xs.map g)->
  (dictPut i w (xs.map f) vs).1=(yv p upd new xs).map f/\su h C (dictPut i w (xs.map f) vs).2 ((yv p upd new xs).map g):=by
 induction xs with
 |nil=>exact λy=>⟨av (·::[]) hn.symm, .cons hw .nil⟩
 |cons x xs J=>
  intro vs e;cases vs with
  |nil=>exact e.no.elim
  |cons v vs=>
   have e:=tj.inv (x:=v) (v:=g x) e
   have z:∀ {z:O V×O V},z=(if V.beq (f x) i=true then(f x::xs.map f,w::vs) else(f x::(dictPut i w (xs.map f) vs).1,v::(dictPut i w (xs.map f) vs).2))->z.1=(yv p upd new (x::xs)).map f/\su h C z.2 ((yv p upd new (x::xs)).map g):=λ{z} ez=>by
    rw[ez,hp,show yv p upd new (x::xs)=bif decide (p x) then upd x::xs else x::yv p upd new xs from(aj.cond_decide ..).symm]
    cases decide (p x) with
    |true=>exact⟨av (·::_) (U x).symm, .cons (hu x) e.2⟩
    |false=>exact⟨av (f x:: ·) (J e.2).1, .cons e.1 (J e.2).2⟩
   exact z rfl
end
theorem EI(k i:ae):V.beq (.int k) (.int i)=decide (k=i):=(MY k i).trans (d6.mpr iw)
theorem Ij(k:O ae)(i j:ae):V.beq (.tup (k.map V.int)) (.tup [.int i, .int j])=decide (k=[i,j]):=match k with
 |[]=>rfl
 |[a]=>by rw[cn (by simp)];show(_&&false)=_;rw[eN]
 |[a,b]=>by show(a==i&&(b==j&&true))=_;rw[ej];simp
 |a::b::c::r=>by rw[cn (by simp)];show(_&&(_&&false))=_;rw[eN,eN]
theorem Gl{xs:O (O ae×ag×af)}{k:O ae}{a:ag}{v:af}(nd:(xs.map (·.1)).Nodup):storedH xs k a v=yv (λx=>x.1=k) (λx=>(x.1,x.2.1,v)) (k,a,v) xs:=by
 refine iG ?_ (M3 ((md.mp nd).imp λn e J=>n (e.trans J.symm)));unfold storedH atKey;rw[lM,lN];rfl
theorem DO{xs:O (ae×af)}{k:ae}{v:af}(nd:(xs.map (·.1)).Nodup):stored xs k v=yv (λx=>x.1=k) (λx=>(x.1,v)) (k,v) xs:=M3 ((md.mp nd).imp λn e J=>n (e.trans J.symm))
theorem Al.at{xs:O V}{k:ae}{P:V->Ob->Prop}(h:∀ j x,seqIndex? k xs.length=some j->xs[j]?=some x->P x σ):Al (Internal.sM (atIdx xs k) σ) P:= .sM λx e=>by
 unfold atIdx DA at e
 unfold seqIndex? at h
 by_cases h0:0<=k
 ·rw[aN h0] at e
  have J:k<xs.length:=f6 h0|>.mp (bD.mp e).1
  rw[aI (d5.mpr h0)] at h
  exact h _ _ (by show(if(decide (0<=k)&&decide (k<(xs.length:ae)))=true then some k.toNat else none)=_;rw[aX h0,aX J];rfl) e
 ·rw[aI h0] at e
  by_cases h1:0<=k+xs.length
  ·rw[aN h1] at e
   have J:k+xs.length<xs.length:=f6 h1|>.mp (bD.mp e).1
   rw[aN (gP.mp h0)] at h
   exact h _ _ (by show(if(decide (0<=k+(xs.length:ae))&&decide (k+(xs.length:ae)<(xs.length:ae)))=true then some (k+(xs.length:ae)).toNat else none)=_;rw[aX h1,aX J];rfl) e
  ·rw[aI h1] at e;cases e
theorem WQ{k:ae}{n j:aa}(h0:0<=k)(h:seqIndex? k n=some j):j=k.toNat:=by
 unfold seqIndex? at h
 rw[aI (d5.mpr h0)] at h
 have h:(if(decide (0<=k)&&decide (k<(n:ae)))=true then some k.toNat else none)=some j:=h
 split at h
 ·cases h;rfl
 ·cases h
theorem JT{xs:O V}{i:V}{l:ag}{items:aB af}{u:af}(P:At d A C σ s)(J:s.heap.IsList l items)(e1:su s.heap C xs items.toList)(hi:sg s.heap C i u):r0 A X C σ s (AC i xs) (getItem (.ref l) u) (RV):=
 .sS (f:=λu=>getItem (.ref l) u) hi λk t=> .guard λhk=>Al.at λj x h2 h3=>(e1.get _ _ h3).elim λv U=>have h4:=U.1;have h5:=U.2;cZ
  (λh0:0<=k=>wpAny_getItem_list J h0 (xd hk).2 (by rw[<-bL,<-WQ h0 h2];exact h4) (sJ P.I h5))
  λh0=>qA (vs:=items.toList) J (gP.mp h0) (xd hk).1 (by rw[<-e1.length];exact h2) h4 (sJ P.I h5)
theorem JU{ks vs:O V}{ws:O af}{i:V}{l:ag}{u:af}(P:At d A C σ s)(e1:su s.heap C vs ws)(D:DictAt s.heap C l ks ws)(hi:sg s.heap C i u):r0 A X C σ s (BX i ks vs) (getItem (.ref l) u) (RV):=
 Al.key (m:=λi ks=>sM (dictAt i ks vs)) (P:=λz u z ws a σ'=>su s.heap C vs ws->ak sB A (getItem (.ref l) u) (sY X C s (RV) a σ') tg s) hi D
  (λi t kvs D=> .sM λa e hv=>((CN (p:=λx:ae×af=>x.1=i) (λx=>EI x.1 i) hv).1 _ e).elim λx r=>wpAny_getItem_of (knd:=aZ pw G.w) (k:=i) (AU (h:=s.heap) (C:=C) .int) D.mapOf (av (dD λx:ae×af=>x.2) r.1:valueAt kvs i=some x.2) (sJ P.I r.2))
  (λi j b xs z K D z=> .sM λa e hv=>((CN (p:=λx:O ae×ag×af=>x.1=[i,j]) (λx=>Ij x.1 i j) hv).1 _ e).elim λx r=>wpAny_getItem_heap (knd:=dW (aZ pw G.w)) (k:=[i,j]) (Hk P.A) K D (av (dD λx:O ae×ag×af=>x.2) r.1:atKey xs [i,j]=some x.2) (sJ P.I r.2))
 |>.imp λz z k=>k e1
theorem Tx{o i:V}{v u:af}(P:At d A C σ s)(ho:sg s.heap C o v)(hi:sg s.heap C i u):r0 A X C σ s (tZ o i) (getItem v u) (RV):=
 sg.casesOn (motive_1:=λo v z=>r0 A X C σ s (tZ o i) (getItem v u) (RV)) ho ah ah ah (λz=>ah)
  (λ{xs a its} z J e1=> .sS (f:=λu=>getItem (.ref a) u) hi λk t=> .guard λhk=>Al.at λj x h2 h3=>(e1.get _ _ h3).elim λv ⟨U,h5⟩=>
   mf J (xd hk).1 (xd hk).2 (by rw[<-bQ,<-e1.length];exact h2) (by rw[<-bL];exact U) (sJ P.I h5))
  (λz J e1=>JT P J.isList e1 hi) (λz z z=>ah) (λz z e1 D=>JU P e1 D hi) (λz z z=>ah)
  (λhe=>Al.obj (f:=yE i) P.I he λo z r=>tm.casesOn (motive:=λp m z=>r0 A X C σ s (yE i m) (getItem (.ref p.1) u) (RV)) r (λl e=>JT P l.isList e hi) (λe D=>JU P e D hi) (λz z z z z z z=>ah))
theorem Mf{o i x:V}{v u y:af}(P:At d A C σ s)(ho:sg s.heap C o v)(hi:sg s.heap C i u)(hx:sg s.heap C x y):r0 A X C σ s (uL o i x) (setItem v u y) RT:=
 have I:=P.I
 sg.casesOn (motive_1:=λo v g=>r0 A X C σ s (uL o i x) (setItem v u y) RT) ho ah ah ah (λg=>ah) (λg g g=>ah) (λg g g=>ah) (λg g g=>ah) (λg g g g=>ah) (λg g g=>ah)
  (λ{r p} hp=>Al.obj (f:=Ae r i x) I hp λo g z=>tm.casesOn (motive:=λp m g=>C.mu[r]?=some p->r0 A X C σ s (Ae r i x m) (setItem (.ref p.1) u y) RT) z
   (λ{a xs its} l e hp=> .sS (f:=λu=>setItem (.ref a) u y) hi λk t=> .guard λh=>l.elim λn U=>
    have t3:=cD (dv (·.setIfInBounds k.toNat y)) U rfl
    qB U (aP (rY h).1) (xd (rY (rY h).2).2).2 (by rw[<-bQ,<-e.length];exact(f6 (aP (rY h).1)).mp (aP (rY (rY h).2).1))
     (B6 I hp (.head _) (λn e=>(b8 _ _ (bz n)).trans e) ⟨_,t3⟩ (λS=> .lst ⟨_,t3⟩ (by rw[aB.toList_setIfInBounds];exact(e.set hx k.toNat).step S)) λg=>⟨⟩))
   (λ{a ks vs ws} e D hp=> .guard λh=>Al.get (σ:=σ) (m:=M.guard (keyOk i ks) (M.pure ()))
     (Al.key (m:=λg g=>M.pure ()) (P:=λi u ks ws g g=>ks.length<lim->su s.heap C vs ws->ak sB A (setItem (.ref a) u y) (sY X C s RT () (σ.set r (.dct (dictPut i x ks vs).1 (dictPut i x ks vs).2))) tg s) hi D
      (λi t kvs D hz e=>wpAny_setItem_pairs (knd:=aZ pw G.w) (k:=i) (AU (h:=s.heap) (C:=C) .int) D (λh' J S=>
       have nd:(kvs.map (·.1)).Nodup:=uv D λg g g r=>r.2.2.2.2.2
       have q:=BM (i:= .int i) (p:=λx:ae×af=>x.1=i) (upd:=λx=>(x.1,y)) (new:=(i,y)) (λx=>EI x.1 i) (λg=>rfl) rfl (λg=>hx) hx e
       B6 I hp (.head _) (λn e=>(S.2 _ n).trans e) (uv J λo g g r=>⟨o,r.1⟩) (λS=>by rw[q.1];exact .dct (q.2.step S) (DO nd▸ .JP J)) λg=>⟨⟩) (by rw[aH] at hz;exact wF (bB hz)))
      (λi j b xs hb K D ho hz e=>wpAny_setItem_heap (knd:=dW (aZ pw G.w)) (k:=[i,j]) (Hk P.A) K D (λh' J S=>
       have nd:(xs.map (·.1)).Nodup:=uv D λg g g r=>r.2.2.2.2.2
       have q:=BM (i:= .tup [.int i, .int j]) (p:=λx:O ae×ag×af=>x.1=[i,j]) (upd:=λx=>(x.1,x.2.1,y)) (new:=([i,j],b,y)) (λx=>Ij x.1 i j) (λg=>rfl) rfl (λg=>hx) hx e
       B6 I hp (.head _) (λn e=>(S.2 _ n).trans e) (uv J λo g g r=>⟨o,r.1⟩) (λS=>by rw[q.1];exact .dct (q.2.step S) (Gl nd▸ .inR J (Gl nd▸Tw hb (λg=>id) ho))) λg=>⟨⟩) (by rw[aH] at hz;exact wF (bB hz))))
     (by rw[(rY h).1];rfl) (aP (rY h).2) e)
   (λg g g g g g g g=>ah) hp)
end
end
section
noncomputable def isStrOf(x:am):af->aj
 | .str y _=>y==x
 |_=>false
section
variable{prog:a9}{w:a0}{A:az}{E:VS}{s:ai}
theorem JV(acc:aB af)(c:aa):dv (·.pop) (dv (·.push cA) {cls:= .type "list",data:= .seq acc c})={cls:= .type "list",data:= .seq acc (c+2)}:=by
 have h1:((acc.push cA).size==acc.size)=false:=by rw[gQ];exact bS.mpr (jO _)
 have h2:(acc.size==(acc.push cA).size)=false:=by rw[gQ];exact bS.mpr (jO _).symm
 simp only[dv,aB.pop_push,h1,h2,bN,bE]
theorem Op{I:ag}{fp wr:O ag}{Gr:aB eP->aB eP->Prop}{n:aa}{P:aa->af->Prop}{St:aa->ai->Prop}(W:WalksS prog w A I fp wr Gr n P St)(acc:aB af):
  WalksS prog w A I fp wr Gr (acc.size+n) (λj v=>if j<acc.size then acc[j]?=some v else P (j - acc.size) v) (λi s=>acc.size<=i/\St (i - acc.size) s) where
 sub:=W.sub
 grefl:=W.grefl
 gtrans:=W.gtrans
 frame:=λi s h' tk st hk hf=>⟨st.1,W.frame _ s h' tk st.2 hk hf⟩
 item:=λi s Q E hi st J=>W.item (i - acc.size) s Q E (aa.sub_lt_left_of_lt_add st.1 hi) st.2 λv s' hP U hm=>J v s' ((aI (cm.mpr st.1)).symm▸hP) ⟨eA st.1,(mj st.1).symm▸U⟩ hm
 done:=λs Q E st J=>W.done s Q E (cE (n:=acc.size) (m:=n)▸st.2) J
 self:=λi s Q E st J=>W.self _ s Q E st.2 J
theorem JW{R:dl->ai->Prop}{r:ag}{a b:ae}{t u v:bk}{n:aa}(hh:A.handled=none)(hr:iq s.heap r a b 1 t u v)(hsmall:gF a b 1=true)
  (hn:iH a b 1=n) (S:ag) (res:af) (c₀:aa) (acc:aB af) (hlen:acc.size+n<=65536) (hS:s.heap.get? S=some {cls:= .type "list",data:= .seq acc c₀})
  (hR:∀ h' tk J c',(∀ b o,b≠S->s.heap.get? b=some o->h'.get? b=some o)->h'.get? S=some {cls:= .type "list",dict:=none,data:= .seq J c',slots:= #[]}->
   f8 (λj v=>if j<acc.size then acc[j]?=some v else ∃ t,v= .int (a+((j - acc.size:aa):ae)*1) t) J (acc.size+n)->R (.ok (.ret res)) {s with heap:=h',toks:=tk}):
  ak (aA prog w) A.in1 (iI (.ref S) (.ref r) res)
   (λfin s'=>match fin with| .done f=>R (.ok f) s'| .again c'=>c'.quiet=true/\bo (aA prog w) A c' R s') (λe s'=>R (.error e) s') s:=by
 have hl:=aw (aV acc.size n) hlen;have hSr:S≠r:=λe=>by rw[e,hr] at hS;simp at hS
 have Tz:S<s.heap.objs.size:=aY hS;have hSI:S≠s.heap.objs.size:=bu Tz;have hSf:S∉[s.heap.objs.size]:=λhm=>hSI (aR.mp hm);have W:=Op (eQ.range (prog:=prog) (w:=w) (A:=A.in1) hh s.heap.objs.size a 1 n).toS acc
 have key:∀ (h:aq) (U tk:aa),f9 h s.heap.objs.size (a+((0:aa):ae)*1) ((n:ae) - ((0:aa):ae)) 1->(∀ b o,b≠S->s.heap.get? b=some o->h.get? b=some o)->
   h.get? S=some {cls:= .type "list",data:= .seq acc U}->bo (aA prog w) A (.builtin "list.extend.loop" ⟨[.ref S, .ref s.heap.objs.size,res],[]⟩) R {s with heap:=h,toks:=tk}:=by
  intro h U tk hit hk xS
  refine ml W (aw hlen (by decide)) S hSf res n acc.size _ acc U (cE ..) (aV _ _) ⟨aU _,by rw[dG];exact hit⟩ xS
   ⟨rfl,λj v hj=>by dsimp only;rw[aN (d7.mp hj).1];exact hj⟩ λs' J c' hm hS' hacc=> ?_
  rw[mm hm];refine hR s'.heap s'.toks J c' (λb o hb e=>hm.heap b o (λhmem=> ?_) (hk b o hb e)) hS' hacc;rcases aW.mp hmem with e'|hmem
  ·exact hb e'
  ·exact aC (aY e) (by rw[aR.mp hmem];exact bT _)
 refine sf (λz=>d4 (T:="range") ⟨_,hr,rfl⟩) ?_;have h1:iJ (.ref S) (.ref r)=false:=by simp[iJ,hSr]
 have h2:(bU "range"==bU "list")=false:=by decide
 have h3:(bU "range"==bU "tuple")=false:=by decide
 simp -iota only[h1,h2,h3,dI,bN,bE];refine sf (λz=>mn hr hsmall) ?_;refine ao (bd (wpAny_hint_range (n:=n) (aS _ hr) hn (aw (cF ..) (aw hlen (by decide))) ?_))
 have Qg:f9 (s.heap.push {cls:= .type "range_iterator",data:= .fields #[rawInt a,rawInt (iH a b 1),rawInt 1]}) s.heap.objs.size (a+((0:aa):ae)*1) ((n:ae) - ((0:aa):ae)) 1:=by
  show f9 _ _ _ _ _;rw[hn];simpa using a8 _ rfl
 have xS:=aS {cls:= .type "range_iterator",data:= .fields #[rawInt a,rawInt (iH a b 1),rawInt 1]} hS;refine dw (λz=> ?_) (λz=>ay ⟨d8 mq _,key _ c₀ _ Qg (λb o z e=>aS _ e) xS⟩);refine sf (λz=>ek) ?_;refine ao ?_;refine sf (λz=>iK (hz:=aw hl (by decide)) (_hz':=gQ ..▸bZ (aw hl (by decide))) xS rfl) ?_
 have Gm:=cD (dv (·.push cA)) xS rfl
 refine iK (hz:=gQ ..▸aw (bZ hl) (by decide)) (_hz':=aB.size_pop ..▸gQ ..▸aw hl (by decide)) Gm rfl ?_
 have Oq:=cD (dv (·.pop)) Gm rfl
 refine ay ⟨d8 mq _,key _ _ _ ?_ (λb o hb e=> ?_) (Oq.trans (av some (JV acc c₀)))⟩
 ·exact(b8 _ _ hSI).trans ((b8 _ _ hSI).trans Qg)
 ·exact(b8 _ _ (bz hb)).trans ((b8 _ _ (bz hb)).trans (aS _ e))
end
section
variable{d:aa}{A:az}{X:O ag}{C:Cx}{σ:Ob}{s:ai}{α β:Type}{h:aq}
theorem Os{n:aa}:∀ {lo:ae} {vs:O af},vs.length=n->(∀ (j:aa) (v:af),vs[j]?=some v->∃ t,v=dm (lo+(j:ae)) t)->su h C (tw lo n) vs:=by
 induction n with
 |zero=>exact λe y=>dY e▸ .nil
 |succ n J=>
  intro lo vs e f;cases vs with
  |nil=>cases e
  |cons v vs=>
   refine .cons ((f 0 v rfl).elim λt z=>(z.trans (av (dm · t) (jP lo)))▸ .int) (J (dh e) λj v U=>(f (j+1) v U).imp λt z=>z.trans (av (dm · t) ?_))
   rw[iL,iM 1];rfl
theorem BN(lo hi:ae):iH lo hi 1=((hi - lo).toNat:aa):=(aN (by decide)).trans (JS lo hi)
theorem Gn{c:aa}{x:am}(hx:sV c=some x){xs:O V}{vs:O af}(p:xs.all BW=true)(e:su h C xs vs):vs.map (isStrOf x)=xs.map (V.beq (.str c))/\∀ v∈vs,∃ y t,v= .str y t:=
 e.ind (P:=λxs vs=>xs.all BW=true->vs.map (isStrOf x)=xs.map (V.beq (.str c))/\∀ v∈vs,∃ y t,v= .str y t) (λz=>⟨rfl,λz h=>aC h ba⟩) (λ{y xs v vs} a z J p=>by
  have p:=rY p;have J:=J p.2;cases y with
  |str U=>
   refine a.out (P:=λv=>(v::vs).map (isStrOf x)=(V.str U::xs).map (V.beq (.str c))/\∀ w∈v::vs,∃ y t,w= .str y t) λy t hy=>⟨?_,bj.mpr ⟨⟨y,t,rfl⟩,J.2⟩⟩;rw[fw,fw,J.1];exact av (·::_) (ej.mpr (bl.trans (iw.trans ((vP hx hy).trans bl.symm))))
  |_=>exact vJ p.1) p
theorem E7{α:Type}(f:α->aj)(l:O α):l.countP f=(l.map f).countP id:=by rw[mw];rfl
theorem findIdx_map{α:Type}(f:α->aj)(l:O α):l.findIdx? f=(l.map f).findIdx? id:=by rw[my];rfl
noncomputable def FD:Bm->bc
 | .append=>"list.append"
 | .extend=>"list.extend"
 | .get=>"dict.get"
 | .count=>"list.count"
 | .index=>"list.index"
theorem r0.one{f:V->M V}{xs:O V}{us:O af}{g:O af->aM β}{R:aq->Cx->V->β->Prop}(ha:su s.heap C xs us)(k:∀ x v,sg s.heap C x v->r0 A X C σ s (f x) (g [v]) R):r0 A X C σ s (one f xs) (g us) R:=by
 cases xs with
 |nil=>exact ah
 |cons x r=>
  cases r with
  |cons=>exact ah
  |nil=>exact ha.out (P:=λus=>r0 A X C σ s (f x) (g us) R) λv vs a e=>e.out (P:=λus=>r0 A X C σ s (f x) (g (v::us)) R) (k x v a)
theorem r0.two{f:V->V->M V}{xs:O V}{us:O af}{g:O af->aM β}{R:aq->Cx->V->β->Prop}(ha:su s.heap C xs us)(k:∀ x y v u,sg s.heap C x v->sg s.heap C y u->r0 A X C σ s (f x y) (g [v,u]) R):r0 A X C σ s (two f xs) (g us) R:=by
 cases xs with
 |nil=>exact ah
 |cons x r=>
  cases r with
  |nil=>exact ah
  |cons y r=>
   cases r with
   |cons=>exact ah
   |nil=>exact ha.out (P:=λus=>r0 A X C σ s (f x y) (g us) R) λv vs a e=>e.out (P:=λus=>r0 A X C σ s (f x y) (g (v::us)) R) λu us b e=>e.out (P:=λus=>r0 A X C σ s (f x y) (g (v::u::us)) R) (k x y v u a b)
theorem r0.onStr{x:V}{v:af}(e:sg s.heap C x v){g:aa->M α}{f:af->aM β}{R:aq->Cx->α->β->Prop}(k:∀ c x t,sV c=some x->r0 A X C σ s (g c) (f (.str x t)) R):r0 A X C σ s (onStr g x) (f v) R:=
 sg.casesOn (motive_1:=λx v z=>r0 A X C σ s (Internal.onStr g x) (f v) R) e ah ah ah (k _ _ _) (λz z z=>ah) (λz z z=>ah) (λz z z=>ah) (λz z z z=>ah) (λz z z=>ah) λz=>ah
section
variable{r:aa}{a:ag}{xs:O V}{its:aB af}{x:V}{v:af}
theorem Ot(P:At d A C σ s)(hp:C.mu[r]?=some (a,[]))(J:s.heap.PlainList a its)(e1:su s.heap C xs its.toList)(hx:sg s.heap C x v):r0 A X C σ s (Id r xs x) (call (.builtin "list.append") [.ref a,v]) (RV):=
 .guard λh=>mz J (λh' l1 S=>B6 P.I hp (.head _) (λn e=>(S.2 _ n).trans e) (l1.elim λn e=>⟨_,e⟩) (λS=> .lst l1 (by rw[mA];exact(e1.append (.cons hx .nil)).step S)) λz=> .none)
  (by rw[<-bQ,<-e1.length];exact wF (bB (aP h)))
theorem Qh(P:At d A C σ s)(U:s.heap.PlainList a its)(e1:su s.heap C xs its.toList)(hx:sg s.heap C x v):r0 A X C σ s (JH xs x) (call (.builtin "list.count") [.ref a,v]) (RV):=
 .onStr (f:=λv=>call (.builtin "list.count") [.ref a,v]) hx λc y t hy=> .guard λh=>U.elim λn J=>
  have q:=Gn hy (rY h).1 e1
  gc mB ⟨_,J,rfl⟩ F.entry_list_count (F.args_list_count_2 _ _) (SeqAt.list_countAt a its n none #[] (.str y t) (isStrOf y)) ⟨J,λw hw=>(q.2 w (jB.mpr hw)).elim λz hz=>hz.elim λt' hz=>hz▸mC z t' y t,
   by rw[show its.toList.countP (isStrOf y)=xs.countP (V.beq (.str c)) by rw[E7,q.1,<-E7]];exact sJ P.I .int⟩
theorem Qi(P:At d A C σ s)(t1:s.heap.PlainList a its)(e1:su s.heap C xs its.toList)(hx:sg s.heap C x v):r0 A X C σ s (JI xs x) (call (.builtin "list.index") [.ref a,v]) (RV):=
 .onStr (f:=λv=>call (.builtin "list.index") [.ref a,v]) hx λc y t hy=> .guard λh=>Al.sM λw J=>t1.elim λn t2=>(c5.mp J).elim λj U=>have hj:=U.1;have J:=U.2;by
  subst J;have q:=Gn hy (rY h).1 e1;rw[findIdx_map,<-q.1,<-findIdx_map,O.findIdx?_eq_some_iff_getElem] at hj
  refine hj.elim λj1 U=> ?_;have j2:=U.1;have j3:=U.2
  exact gc mD ⟨_,t2,rfl⟩ F.entry_list_index (F.args_list_index_2 _ _) (SeqAt.list_indexAt a its n none #[] (.str y t) (isStrOf y) j (by simpa using j1)
   (mE (dz.mpr (bw (e1.length▸j1:j<xs.length) (aP (rY h).2))) (by decide)) (by simpa using j2) (λm hm hmj=>by simpa using j3 m hmj))
   ⟨t2,λw J=>(q.2 w (jB.mpr J)).elim λz hz=>hz.elim λt' hz=>hz▸mC z t' y t,sJ P.I .int⟩
theorem Qj{lo:ae}{m:aa}{J:aB af}(e1:su h C xs its.toList)(U:f8 (λj v=>if j<its.size then its[j]?=some v else ∃ t,v= .int (lo+((j - its.size:aa):ae)*1) t) J (its.size+m)):su h C (xs++tw lo m) J.toList:=by
 have ez:J.toList.take its.size=its.toList:=jQ λj=>by
  by_cases hj:j<its.size
  ·have hlt:j<J.size:=by rw[U.1];exact bw hj (aV _ _)
   have q:=U.2 j J[j] (mF hlt);dsimp only at q
   rw[aN hj] at q
   rw[O.getElem?_take_of_lt hj,bL,bL,q,mF hlt]
  ·rw[d9 (by simp;exact aw (iE ..) (ec hj)),d9 (by simpa using hj)]
 rw[<-O.take_append_drop its.size J.toList,ez];refine e1.append (Os (by simp[U.1]) λj v hj=> ?_)
 rw[jH,bL] at hj
 have q:=U.2 _ _ hj;dsimp only at q
 rw[aI (cm.mpr (aV _ _)),cE,jK] at q
 exact q
theorem Ou(P:At d A C σ s)(hp:C.mu[r]?=some (a,[]))(t1:s.heap.PlainList a its)(e1:su s.heap C xs its.toList)(hx:sg s.heap C x v):r0 A X C σ s (DE r xs x) (call (.builtin "list.extend") [.ref a,v]) (RV):=
 sg.casesOn (motive_1:=λx v z=>r0 A X C σ s (DE r xs x) (call (.builtin "list.extend") [.ref a,v]) (RV)) hx ah ah ah (λz=>ah) (λz z z=>ah) (λz z z=>ah) (λz z z=>ah) (λz z z z=>ah)
  (λ{lo hi b t u x} n1 hr hsm=> .guard λh=>t1.elim λn t2=>
   iN mG ⟨_,t2,rfl⟩ F.entry_list_extend (F.args_list_extend_2 _ _) (S:=λA R s=>A.handled=none/\iq s.heap b lo hi 1 t u x/\s.heap.get? a=some {cls:= .type "list",data:= .seq its n}/\∀ h' tk J c',(∀ b o,b≠a->s.heap.get? b=some o->h'.get? b=some o)->h'.get? a=some {cls:= .type "list",dict:=none,data:= .seq J c',slots:= #[]}->
     f8 (λj v=>if j<its.size then its[j]?=some v else ∃ t,v= .int (lo+((j - its.size:aa):ae)*1) t) J (its.size+(hi - lo).toNat)->R (.ok (.ret .none)) {s with heap:=h',toks:=tk})
    (λA R s sd=>have q1:=sd.1;have q2:=sd.2.1;have q3:=sd.2.2.1;have q4:=sd.2.2.2;by show ak _ _ (selfAndOne "list.extend" _>>=_) _ _ _;exact sP (JW q1 q2 hsm (BN lo hi) a .none n its (by rw[<-bQ,<-e1.length];exact aw (aP h) (by decide)) q3 q4))
    ⟨P.A.handled,hr,t2,λh' tk J c' hk U hacc=>B6 P.I hp (.head _) (λn=>hk _ _ n) ⟨_,U⟩ (λS=> .lst ⟨_,U⟩ ((Qj e1 hacc).step S)) λz=> .none⟩)
  λz=>ah
theorem JX{us:O af}{ks vs:O V}{ws:O af}{k d':V}{u w:af}(P:At d A C σ s)(hp:C.mu[r]?=some (a,[]))(e1:su s.heap C vs ws)(D:DictAt s.heap C a ks ws)(hk:sg s.heap C k u)
  (run:∀ (i:ae) (t:bk) (kvs:O (ae×af)),s.heap.DictOf (aZ pw G.w) a kvs->∀ {Q:VS},Q ((valueAt kvs i).getD w) {s with toks:=s.toks+1}->ak sB A (call (.builtin "dict.get") (.ref a:: .int i t::us)) Q tg s)
  (U:sg s.heap C d' w):r0 A X C σ s (yd ks vs k d') (call (.builtin "dict.get") (.ref a::u::us)) (RV):= .guard λh=>
 vn (P:=λk=>sg s.heap C k u->r0 A X C σ s (M.pure ((dictAt k ks vs).getD d')) (call (.builtin "dict.get") (.ref a::u::us)) (RV)) (rY h).1 (λi hk=>hk.out (P:=λu=>r0 A X C σ s (M.pure ((dictAt (.int i) ks vs).getD d')) (call (.builtin "dict.get") (.ref a::u::us)) (RV)) λt=>
  Hj (P:=λks ws=>su s.heap C vs ws->r0 A X C σ s (M.pure ((dictAt (.int i) ks vs).getD d')) (call (.builtin "dict.get") (.ref a:: .int i t::us)) (RV)) D (rY h).2 (λkvs D e1=>run i t kvs D (sJ P.I (by
   have q:=CN (i:= .int i) (p:=λx:ae×af=>x.1=i) (λx=>EI x.1 i) e1;unfold valueAt;cases J:dictAt (.int i) (kvs.map λp=>V.int p.1) vs with
   |none=>rw[q.2 J];exact U
   |some y=>exact(q.1 y J).elim λx r=>by rw[r.1];exact r.2))) e1) hk
end
theorem Qk{J:Bm}{o:V}{args:O V}{v:af}{us:O af}(P:At d A C σ s)(ho:sg s.heap C o v)(ha:su s.heap C args us):
  r0 A X C σ s (w9 J o args) (call (.builtin (FD J)) (v::us)) (RV):=
 sg.casesOn (motive_1:=λo v q=>r0 A X C σ s (w9 J o args) (call (.builtin (FD J)) (v::us)) (RV)) ho ah ah ah (λq=>ah) (λq q q=>ah) (λq q q=>ah) (λq q q=>ah) (λq q q q=>ah) (λq q q=>ah)
  λ{r p} hp=>Al.obj (f:=EF J r args) P.I hp λo q z=>tm.casesOn (motive:=λp m q=>C.mu[r]?=some p->r0 A X C σ s (EF J r args m) (call (.builtin (FD J)) (.ref p.1::us)) (RV)) z
   (λ{a xs its} l e hp=>by
    cases J with
    |append=>exact .one (g:=λus=>call (.builtin "list.append") (.ref a::us)) ha λx v hx=>Ot P hp l e hx
    |count=>exact .one (g:=λus=>call (.builtin "list.count") (.ref a::us)) ha λx v hx=>Qh P l e hx
    |index=>exact .one (g:=λus=>call (.builtin "list.index") (.ref a::us)) ha λx v hx=>Qi P l e hx
    |extend=>exact .one (g:=λus=>call (.builtin "list.extend") (.ref a::us)) ha λx v hx=>Ou P hp l e hx
    |get=>exact ah)
   (λ{a ks vs ws} e D hp=>by
    have y:=Hl P.I (vF (vh hp (.head _)));cases J with
    |get=>
     cases args with
     |nil=>exact ah
     |cons k r=>
      cases r with
      |nil=>
       exact ha.out (P:=λus=>r0 A X C σ s (yd ks vs k .none) (call (.builtin "dict.get") (.ref a::us)) (RV)) λu us b U=>U.out (P:=λus=>r0 A X C σ s (yd ks vs k .none) (call (.builtin "dict.get") (.ref a::u::us)) (RV))
        (JX (us:=[]) P hp e D b (λi t kvs D {Q} hQ=>iN jR D.mapOf.typeIs mH (F.args_dict_get_2 _ _) (meets_dict_get (aZ pw G.w) a (key:= .int i t) (k:=i) (AU (h:=s.heap) (C:=C) .int) y) ⟨_,D.mapOf,hQ⟩) .none)
      |cons d' r=>
       cases r with
       |cons=>exact ah
       |nil=>
       exact ha.out (P:=λus=>r0 A X C σ s (yd ks vs k d') (call (.builtin "dict.get") (.ref a::us)) (RV)) λu us b U=>U.out (P:=λus=>r0 A X C σ s (yd ks vs k d') (call (.builtin "dict.get") (.ref a::u::us)) (RV)) λw us b' U=>
         U.out (P:=λus=>r0 A X C σ s (yd ks vs k d') (call (.builtin "dict.get") (.ref a::u::w::us)) (RV))
         (JX (us:=[w]) P hp e D b (λi t kvs D {Q} hQ=>iN jR D.mapOf.typeIs mH (F.args_dict_get_3 _ _ _) (mI (aZ pw G.w) a (key:= .int i t) (k:=i) (AU (h:=s.heap) (C:=C) .int) y w) ⟨_,D.mapOf,hQ⟩) b')
    |_=>exact ah)
   (λq q q q q q q q=>ah) hp
end
section
variable{d:aa}{A:az}{X:O ag}{C:Cx}{σ:Ob}{s:ai}{α β:Type}{h:aq}
theorem ints_of{xs:O V}{vs:O af}(p:xs.all tJ=true)(e:su h C xs vs):∃ ps:O (ae×bk),vs=ps.map (λp=>dm p.1 p.2)/\xs=ps.map (λp=>V.int p.1):=
 e.ind (P:=λxs vs=>xs.all tJ=true->∃ ps:O (ae×bk),vs=ps.map (λp=>dm p.1 p.2)/\xs=ps.map (λp=>V.int p.1)) (λy=>⟨[],rfl,rfl⟩) (λ{x xs v vs} a y J p=>
  vn (P:=λx=>sg h C x v->∃ ps:O (ae×bk),v::vs=ps.map (λp=>dm p.1 p.2)/\x::xs=ps.map (λp=>V.int p.1)) (rY p).1 (λi a=>a.out (P:=λv=>∃ ps:O (ae×bk),v::vs=ps.map (λp=>dm p.1 p.2)/\V.int i::xs=ps.map (λp=>V.int p.1)) λt=>
   (J (rY p).2).elim λps z=>⟨(i,t)::ps,av (_:: ·) z.1,av (_:: ·) z.2⟩) a) p
noncomputable def Hp(ps:O (ae×bk)):ae:=ps.foldr (λp z=>p.1+z) 0
theorem sumInts_map(ps:O (ae×bk)):sumInts (ps.map λp=>V.int p.1)=some (Hp ps):=by
 induction ps with
 |nil=>rfl
 |cons p ps J=>show(sumInts (ps.map λp=>V.int p.1)).map _=_;rw[J];rfl
theorem Ql(l:O (ae×bk))(p:ae×bk):Hp (l++[p])=Hp l+p.1:=by
 induction l with
 |nil=>exact iM _ _
 |cons q l J=>show q.1+Hp (l++[p])=q.1+Hp l+p.1;rw[J,iL]
theorem DP{ps:O (ae×bk)}{j:aa}(h:j<ps.length):numAt ps.toArray j=ps[j].1:=by simp[numAt,h]
theorem Mg(ps:O (ae×bk))(j:aa):j<=ps.length->preSum (numAt ps.toArray) j=Hp (ps.take j):=by
 induction j with
 |zero=>exact λz=>rfl
 |succ j U=>
  intro J;show preSum (numAt ps.toArray) j+numAt ps.toArray j=_;rw[U (gd J),lZ,DP J,br J];exact(Ql ..).symm
theorem Qm{ps:O (ae×bk)}(h:∀ p∈ps,smallInt p.1=true)(j:aa):j<=ps.length-> -(1000000000*(j:ae))<=preSum (numAt ps.toArray) j/\preSum (numAt ps.toArray) j<=1000000000*(j:ae):=by
 induction j with
 |zero=>exact λy=>⟨jT _,jT _⟩
 |succ j J=>
  intro U;have z:=yI (h _ (eR U));have J:=J (gd U);show _<=preSum (numAt ps.toArray) j+numAt ps.toArray j/\preSum (numAt ps.toArray) j+numAt ps.toArray j<=_;rw[DP U,show(1000000000*((j+1:aa):ae))=1000000000*(j:ae)+1000000000 from(ae.mul_add 1000000000 (j:ae) 1).trans rfl,ae.neg_add]
  exact⟨mJ J.1 z.1,mJ J.2 z.2⟩
theorem Jn{x:ae}(h: -(2^63:ae)<=x/\x<2^63):(decide (-(2^63:ae)<=x)&&decide (x<2^63))=true:=by rw[aX h.1,aX h.2];rfl
theorem E8{a b:ae}(ha:smallInt a=true)(J:smallInt b=true):gF a b 1=true:=by
 have h3: -(2^63:ae)<=((b - a).toNat:ae)/\((b - a).toNat:ae)<2^63:=⟨bK (by decide) (cQ _),by rw[ae.ofNat_toNat];exact ae.max_lt.mpr ⟨fU (ae.sub_le_sub (yI J).2 (yI ha).1) (by decide),by decide⟩⟩
 unfold gF qC;rw[BN,Jn (xd ha),Jn (xd J),Jn h3];show(_||(decide (-(2^63:ae)<=b+0)&&decide (b+0<2^63)))=true
 rw[jP,Jn (xd J),jU]
noncomputable def VI:Bt->af
 | .abs=> .builtin "abs"
 | .len=> .builtin "len"
 | .vE=> .type "range"
 | .AQ=> .type "range"
 | .sorted=> .builtin "sorted"
 | .u7=> .none
 | .yT=> .none
 | .list=> .type "list"
 | .tuple=> .type "tuple"
 | .max2=> .builtin "max"
 | .JF=> .builtin "max"
 | .min2=> .builtin "min"
 | .min1=> .builtin "min"
 | .sum=> .builtin "sum"
 | .dict=> .type "dict"
noncomputable def Gp:Bt->aj
 | .sorted=>false
 | .u7=>false
 | .yT=>false
 | .dict=>false
 |_=>true
theorem r0.uK{x:V}{v:af}(e:sg s.heap C x v){g:O V->M α}{f:af->aM β}{R:aq->Cx->α->β->Prop}(k:∀ xs a its,s.heap.PlainList a its->su s.heap C xs its.toList->r0 A X C σ s (g xs) (f (.ref a)) R):r0 A X C σ s (uK g x) (f v) R:=
 sg.casesOn (motive_1:=λx v z=>r0 A X C σ s (Internal.uK g x) (f v) R) e ah ah ah (λz=>ah) (λz z z=>ah) (λz t e=>k _ _ _ t e) (λz z z=>ah) (λz z z z=>ah) (λz z z=>ah) λz=>ah
theorem r0.obj(I:Inv C σ s){i:aa}{p:ag×O ag}(hp:C.mu[i]?=some p){f:sv->M α}{t:aM β}{R:aq->Cx->α->β->Prop}(k:∀ o,tm s.heap C p o->r0 A X C σ s (f o) t R):r0 A X C σ s (M.bind (ur i) f) t R:=Al.obj I hp λo z r=>k o r
theorem r0.wq{p:ag×O ag}{o:sv}(r:tm s.heap C p o){g:O V->M α}{f:af->aM β}{R:aq->Cx->α->β->Prop}(k:∀ xs a its,s.heap.PlainList a its->su s.heap C xs its.toList->r0 A X C σ s (g xs) (f (.ref a)) R):r0 A X C σ s (M.bind (wq o) g) (f (.ref p.1)) R:=
 tm.casesOn (motive:=λp o z=>r0 A X C σ s (M.bind (Internal.wq o) g) (f (.ref p.1)) R) r (λl e=>k _ _ _ l e) (λz z=>ah) (λz z z z z z z=>ah)
theorem TA{n:aa}(h:decide (n<=lim)=true):(n:ae)<2^63:=fU (cB.mpr (aP h)) (by decide)
theorem JY{xs:O V}{l:ag}{its:aB af}(P:At d A C σ s)(J:s.heap.PlainList l its)(e1:su s.heap C xs its.toList):r0 A X C σ s (BI xs) (call (.builtin "len") [.ref l]) (RV):= .guard λh=>
 have hz:its.size=xs.length:=bQ.symm.trans e1.length.symm
 Calls.call_len_list J.isList (hz▸TA h) (sJ P.I (hz▸ .int))
theorem JZ{xs:O V}{l:ag}{its:aB af}(P:At d A C σ s)(J:s.heap.PlainList l its)(e1:su s.heap C xs its.toList):r0 A X C σ s (Fz xs) (call (.type "tuple") [.ref l]) (RV):= .guard λh=>
 call_tuple_list J.isList (λh' hk=>wR P.I (λe=>aS _ (hk _ _ e)) λS=> .tup (λhr=>(P.I.there hr).elim λz U=>aC (aY (hk _ _ U)) (bT _)) ⟨_,a8 _ rfl,rfl,_,rfl⟩ (e1.step S))
  (by rw[<-bQ,<-e1.length];exact wF (aP h))
theorem J0{xs:O V}{l:ag}{T:bc}{o:aL}{its:aB af}{n:aa}(P:At d A C σ s)(J:T="list"\/T="tuple")(ho:s.heap.get? l=some o)(hc:o.cls= .type T)(U:o.data= .seq its n)
  (e1:su s.heap C xs its.toList):r0 A X C σ s (CG xs) (call (.type "list") [.ref l]) (RV):= .guard λh=>
 call_list_seq l J ho hc U (λh' c' hk hn=>wR P.I (hk _ _) λS=> .lst (vW P.I) ⟨_,hn⟩ (e1.step S)) (by rw[<-bQ,<-e1.length];exact wF (aP h))
section
variable{a b:V}{v u:af}
theorem WR(P:At d A C σ s)(ha:sg s.heap C a v):r0 A X C σ s (Od a) (call (.builtin "len") [v]) (RV):=
 sg.casesOn (motive_1:=λa v z=>r0 A X C σ s (Od a) (call (.builtin "len") [v]) (RV)) ha ah ah ah (λz=>ah)
  (λ{xs l its} z t e=> .guard λh=>
   have hz:its.size=xs.length:=bQ.symm.trans e.length.symm
   qD t (av ae.ofNat hz) (cB.mpr (aP h:_<=16384)) (sJ P.I .int))
  (λz t e=>JY P t e) (λz z z=>ah) (λz z z z=>ah) (λz z z=>ah) λhp=> .obj (f:=λo=>M.bind (wq o) BI) P.I hp λo r=> .wq (f:=λv=>call (.builtin "len") [v]) r λz z z t e=>JY P t e
theorem Qn(P:At d A C σ s)(ha:sg s.heap C a v):r0 A X C σ s (Hd a) (call (.type "tuple") [v]) (RV):=
 sg.casesOn (motive_1:=λa v z=>r0 A X C σ s (Hd a) (call (.type "tuple") [v]) (RV)) ha ah ah ah (λz=>ah) (λz z z=>ah)
  (λz t e=>JZ P t e) (λz z z=>ah) (λz z z z=>ah) (λz z z=>ah) λhp=> .obj (f:=λo=>M.bind (wq o) Fz) P.I hp λo r=> .wq (f:=λv=>call (.type "tuple") [v]) r λz z z t e=>JZ P t e
theorem TB(P:At d A C σ s)(ha:sg s.heap C a v):r0 A X C σ s (JG a) (call (.type "list") [v]) (RV):=
 sg.casesOn (motive_1:=λa v z=>r0 A X C σ s (JG a) (call (.type "list") [v]) (RV)) ha ah ah ah (λz=>ah) (λz t e=>t.elim λ_ ⟨ho,hc,_,J⟩=>J0 P (.inr rfl) ho hc J e)
  (λz t e=>t.elim λz ho=>J0 P (.inl rfl) ho rfl rfl e) (λz z z=>ah) (λz z z z=>ah) (λz z z=>ah) λz=>ah
theorem ints2{f:ae->ae->M V}{xs:O V}{us:O af}(e:su s.heap C xs us){t:aM af}(k:∀ a U b J,us=[.int a U, .int b J]->r0 A X C σ s (f a b) t (RV)):r0 A X C σ s (two (tT f) xs) t (RV):=by
 cases xs with
 |nil=>exact ah
 |cons x r=>
  cases r with
  |nil=>exact ah
  |cons y r=>
   cases r with
   |cons=>exact ah
   |nil=>
    cases x with
    |int a=>
     cases y with
     |int b=>
      have z:∃ U J,us=[.int a U, .int b J]:=e.out (P:=λus=>∃ U J,us=[.int a U, .int b J]) λv w h e=>e.out (P:=λus=>∃ U J,v::us=[.int a U, .int b J]) λu w h' e=>e.out (P:=λus=>∃ U J,v::u::us=[.int a U, .int b J])
       (h.out (P:=λv=>∃ U J,[v,u]=[.int a U, .int b J]) λU=>h'.out (P:=λu=>∃ t1' J,[.int a U,u]=[.int a t1', .int b J]) λJ=>⟨U,J,rfl⟩)
      exact z.elim λU z=>z.elim λJ z=>k a U b J z
     |_=>exact ah
    |_=>exact ah
theorem its2{its:aB af}{a b:ae}{J U:bk}(e:its.toList=[.int a J, .int b U]):its=intItems #[(a,J),(b,U)]:=el (by rw[e];simp[intItems])
theorem VJ{a b:ae}{J U:bk}{v:af}{c:Prop}[gR c]{n:aa}(hn:n=if c then 1 else 0)(h:(intItems #[(a,J),(b,U)])[n]?=some v):sg s.heap C (.int (if c then b else a)) v:=by
 subst hn
 by_cases hc:c
 ·rw[aN hc] at h⊢;exact(by simpa [intItems] using h:dm b U=v)▸ .int
 ·rw[aI hc] at h⊢;exact(by simpa [intItems] using h:dm a J=v)▸ .int
theorem TC(P:At d A C σ s)(ha:sg s.heap C a v):r0 A X C σ s (uK (two Tg) a) (call (.builtin "max") [v]) (RV):=
 .uK (f:=λv=>call (.builtin "max") [v]) ha λxs l its t e=>ints2 e λa J b U hi=>max_intList (xs:= #[(a,J),(b,U)]) P.A.handled (its2 hi▸t.isList) (by decide:0<2) λv h' tk hv hk=>wR P.I (hk _ _) λS=>(VJ (by simp[argBest,numAt]) hv:sg s.heap C _ v).step S
theorem TD(P:At d A C σ s)(ha:sg s.heap C a v):r0 A X C σ s (uK (two Th) a) (call (.builtin "min") [v]) (RV):=
 .uK (f:=λv=>call (.builtin "min") [v]) ha λxs l its t e=>ints2 e λa J b U hi=>min_intList (xs:= #[(a,J),(b,U)]) P.A.handled (its2 hi▸t.isList) (by decide:0<2) λv h' tk hv hk=>wR P.I (hk _ _) λS=>(VJ (by simp[argBest,numAt]) hv:sg s.heap C _ v).step S
theorem WS(P:At d A C σ s)(ha:sg s.heap C a v):r0 A X C σ s (tN .sum [a]) (call (.builtin "sum") [v]) (RV):=
 .uK (f:=λv=>call (.builtin "sum") [v]) ha λxs l its t e=> .guard λh=>(ints_of (bh.mpr λx hx=>by have:=bh.mp (rY h).1 x hx;cases x<;>first|rfl|exact vJ this) e).elim λps sd=>have h1:=sd.1;have h2:=sd.2;by
  subst h2;have U:∀ p∈ps,smallInt p.1=true:=λp hp=>bh.mp (rY h).1 (.int p.1) (bG.mpr ⟨p,hp,rfl⟩);have hlen:ps.length<=16384:=aH _▸aP (rY h).2;refine Al.bind (m:=sM _) (f:=λi=>M.pure (V.int i)) (Al.sM λi hi=> ?_);rw[sumInts_map] at hi
  have uI:=aE hi;subst uI;refine sum_intList (xs:=ps.toArray) P.A.handled ((el (by rw[h1];simp[intItems]):its=intItems ps.toArray)▸t.isList) (λj hj=> ?_) λh' tk t' hk=>wR P.I (hk _ _) λS=> ?_
  ·have J:j<ps.length:=by exact hj
   have z:=Qm U (j+1) J;have z2:=xd (U _ (eR J));have k:=mK (cB.mpr (aw J hlen)) (show(0:ae)<=1000000000 by decide)
   exact⟨by rw[DP J];exact z2,bK (bK (by decide) (ae.neg_le_neg k)) z.1,fU (bK z.2 k) (by decide)⟩
  ·rw[show ps.toArray.size=ps.length by simp,Mg ps _ (aU _),mL]
   exact .int
end
theorem YC{b:Bt}{args:O V}{us:O af}(J:Gp b=true)(P:At d A C σ s)(ha:su s.heap C args us):
  r0 A X C σ s (tN b args) (call (VI b) us) (RV):=by
 cases b with
 |abs=>exact .one (g:=λus=>call (.builtin "abs") us) ha λx v a=> .sS (f:=λv=>call (.builtin "abs") [v]) a λi t=>qE λu tk=>sJ P.I ((if h:i<0 then(aN h).trans (lU (fu h)).symm else(aI h).trans (lT (d5.mp h)).symm:(if i<0 then -i else i)=(i.natAbs:ae))▸ .int)
 |len=>exact .one (g:=λus=>call (.builtin "len") us) ha λx v a=>WR P a
 |vE=>exact .one (g:=λus=>call (.type "range") us) ha λx v a=> .sS (f:=λv=>call (.type "range") [v]) a λi t=> .guard λh=>call_range_1 (zI P.I λS=> .yc (vW P.I) (a8 _ rfl) (E8 (by decide) h))
 |AQ=>exact .two (g:=λus=>call (.type "range") us) ha λx y v u a b=> .tT (f:=λv u=>call (.type "range") [v,u]) a b λi t j t'=> .guard λh=>call_range_2 (zI P.I λS=> .yc (vW P.I) (a8 _ rfl) (E8 (rY h).1 (rY h).2))
 |list=>exact .one (g:=λus=>call (.type "list") us) ha λx v a=>TB P a
 |tuple=>exact .one (g:=λus=>call (.type "tuple") us) ha λx v a=>Qn P a
 |max2=>exact .two (g:=λus=>call (.builtin "max") us) ha λx y v u a b=> .tT (f:=λv u=>call (.builtin "max") [v,u]) a b λi t j t'=>max_two_ints P.A.handled λh' tk hk=>wR P.I (hk _ _) λS=>by show sg _ _ _ _;split<;>exact .int
 |min2=>exact .two (g:=λus=>call (.builtin "min") us) ha λx y v u a b=> .tT (f:=λv u=>call (.builtin "min") [v,u]) a b λi t j t'=>min_two_ints P.A.handled λh' tk hk=>wR P.I (hk _ _) λS=>by show sg _ _ _ _;split<;>exact .int
 |JF=>exact .one (g:=λus=>call (.builtin "max") us) ha λx v a=>TC P a
 |min1=>exact .one (g:=λus=>call (.builtin "min") us) ha λx v a=>TD P a
 |sum=>exact .one (g:=λus=>call (.builtin "sum") us) ha λx v a=>WS P a
 |sorted=>exact vJ J
 |u7=>exact vJ J
 |yT=>exact vJ J
 |dict=>exact vJ J
end
end
section
structure Here(d:aa)(A:az)(sc:Sc)(env:aD)(l:Loc)(C:Cx)(σ:Ob)(s:ai):Prop where
 pl:At d A C σ s
 env:tE s.heap C env sc l
theorem At.next{d:aa}{A:az}{C C':Cx}{σ σ':Ob}{s s':ai}(H:At d A C σ s)(N:Nx [] C s C' σ' s'):At d A C' σ' s':=
 ⟨H.A,N.I,H.fr.imp λy=>cK λy h=>⟨N.E.sj▸h.1,N.E.ns h.1 (λz=>nomatch z) h.2⟩,H.frs.ext N.E λy y z=>nomatch z⟩
theorem Here.next{d:aa}{A:az}{sc:Sc}{env:aD}{l:Loc}{C C':Cx}{σ σ':Ob}{s s':ai}(H:Here d A sc env l C σ s)(N:Nx [] C s C' σ' s'):Here d A sc env l C' σ' s':=⟨H.pl.next N,H.env.ext N.E⟩
theorem Here.A{d:aa}{A:az}{sc:Sc}{env:aD}{l:Loc}{C:Cx}{σ:Ob}{s:ai}(H:Here d A sc env l C σ s):yG d A:=H.pl.A
theorem Here.I{d:aa}{A:az}{sc:Sc}{env:aD}{l:Loc}{C:Cx}{σ:Ob}{s:ai}(H:Here d A sc env l C σ s):Inv C σ s:=H.pl.I
abbrev RVn(n:aa):aq->Cx->O V->O af->Prop:=λh C a v=>su h C a v/\a.length=n
def CO{α β:Type}(d:aa)(sc:Sc)(m:Loc->M α)(t:aD->aM β)(R:aq->Cx->α->β->Prop):Prop:=
 ∀ {A:az} {C:Cx} {σ:Ob} {s:ai} {env:aD} {l:Loc},Here d A sc env l C σ s->r0 A [] C σ s (m l) (t env) R
def sA(d:aa)(F:Fn)(sc:Sc)(e:au)(me:ME):Prop:=CO d sc (rZ F me) (eval e) (RV)
def vA(d:aa)(F:Fn)(sc:Sc)(e:au)(me:ME):Prop:=CO d sc (sN F me) (λenv=>isTrue e env (eval e env)) RE
section
variable{d:aa}{A:az}{X:O ag}{C:Cx}{σ:Ob}{s:ai}{α β γ δ:Type}{sc:Sc}{F:Fn}{env:aD}{l:Loc}
theorem r0.tD{m:M α}{f:α->M γ}{t:aM β}{g:β->aM δ}{R:aq->Cx->α->β->Prop}{Q:aq->Cx->γ->δ->Prop}(H:Here d A sc env l C σ s)(hm:r0 A [] C σ s m t R)
  (J:∀ a b C' σ' s',Here d A sc env l C' σ' s'->uj s.heap C s'.heap C'->R s'.heap C' a b->r0 A [] C' σ' s' (f a) (g b) Q):r0 A [] C σ s (M.bind m f) (t>>=g) Q:=
 hm.bind λa b C' σ' s' N r=>J a b C' σ' s' (H.next N) N.S r
theorem r0.xF{m:M α}{t:aM γ}{f:γ->aM β}{c:γ}{R:aq->Cx->α->β->Prop}(h:∀ {Q:γ->ai->Prop},Q c s->ak sB A t Q tg s)(J:r0 A X C σ s m (f c) R):r0 A X C σ s m (t>>=f) R:=J.imp λy y z=>ao (h z)
theorem r0.tail{m:M α}{t:aM β}{f:β->aM γ}{R:aq->Cx->α->β->Prop}{R':aq->Cx->α->γ->Prop}(h:r0 A X C σ s m t R)
  (J:∀ a b C' σ' s',Inv C' σ' s'->R s'.heap C' a b->∀ {Q:γ->ai->Prop},(∀ c,R' s'.heap C' a c->Q c s')->ak sB A (f b) Q tg s'):r0 A X C σ s m (t>>=f) R':=
 h.imp λa y z=>ao (aO z (λ_ _ ⟨N,r⟩=>J a _ _ _ _ N.I r λy=> .mk N) λy y=>id)
theorem r0.last{m:M α}{f:α->M γ}{t:aM β}{R:aq->Cx->α->β->Prop}{R':aq->Cx->γ->β->Prop}{g:α->γ}(hg:∀ a σ,f a σ=some (g a,σ))(h:r0 A X C σ s m t R)(hr:∀ h C a b,R h C a b->R' h C (g a) b):r0 A X C σ s (M.bind m f) t R':=
 Al.bind (h.imp λa σ' z=>by rw[hg];exact aO z (λ_ _ ⟨N,r⟩=>⟨N,hr _ _ _ _ r⟩) λy y=>id)
theorem J1{h:aq}{x:am}{k:aa}{V:V}(H:tE s.heap C env sc l)(hk:sc.slots.lookup x=some k)(J:sc.kind x=some .local\/sc.yh x)(hx:(x==("__classdict__":am))=false)(hV:l.get k=some V){Q:VS}{E:VS}
  (h:∀ v,sg s.heap C V v->Q v s):ak sB A (loadName env x) Q E s:=
 have U:env.kindOf x=sc.kind x:=by unfold dA Sc.kind;rw[H.scope]
 J.elim (λhl=>H.locs.elim λm sd=>sd.elim λhm hv=>(hv hk hl V hV).elim λv sd=>sd.elim λh1 h2=>dJ H.kind (U.trans hl) hm h1 (h v h2)) λhc=>match H.cells hk hc with
  | .mk h1 h2 h3 h4=>(h4 V hV).elim λv sd=>have e:=sd.1;have h5:=sd.2;by
   subst e;exact hc.elim (λhc=>wpAny_loadName_cell H.kind (U.trans hc) h1 h3 (h v h5)) λhc=>mM H.kind (U.trans hc) h1 h3 (h v h5) hx
theorem TF{x:am}{pos:aK}{k:aa}(hk:sc.slots.lookup x=some k)(J:sc.kind x=some .local\/sc.yh x)(h1:(x==("__debug__":am))=false)(h2:(x==("__classdict__":am))=false):sA d F sc (.Name x pos) (.var k):=
 λ{A C σ s env l} H=>Al.sM (o:=l.get k) λV U=>dK (J1 (h:=s.heap) H.env hk J h2 U λv hv=>sJ H.I hv) h1
theorem TG{i:ae}{k:aa}{pos:aK}:sA d F sc (.Constant (.int i) k pos) (.c (.int i)):=λH=>iO (sJ H.I .int)
theorem Qo{b:aj}{k:aa}{pos:aK}:sA d F sc (.Constant (.bool b) k pos) (.c (.bool b)):=λH=>wpAny_Constant_bool (sJ H.I .bool)
theorem Qp{k:aa}{pos:aK}:sA d F sc (.Constant .none k pos) (.c .none):=λH=>mN (sJ H.I .none)
theorem TH{x:am}{c k:aa}{pos:aK}(hx:sV c=some x):sA d F sc (.Constant (.str x) k pos) (.c (.str c)):=λH=>iP (sJ H.I (.str hx))
theorem TJ{a b:au}{J mb:ME}{op:dT}{pos:aK}(ha:sA d F sc a J)(U:sA d F sc b mb):sA d F sc (.BinOp a op b pos) (.bin op J mb):=λH=>
 (ha H).tD H λx v C' σ' s' H S hv=>(U H).holding.tD H λy u C' σ' s' H S hu=>(WN H.pl (hv.step S) hu).operate.standAt
theorem BO{M:ce}{b:aj}{Q:aj->ai->Prop}{E:VS}(h:Q b s):ak M A (truthy (.bool b)) Q E s:=ay h
theorem CP{x:V}{v:af}(I:Inv C σ s)(hv:sg s.heap C x v):r0 A X C σ s (uP x) (truthy v) RE:=by
 cases x with
 |bool b=>exact hv.out (P:=λv=>r0 A X C σ s (M.pure b) (truthy v) RE) (BO (sJ I rfl))
 |_=>exact ah
theorem TK{a:au}{J:ME}{pos:aK}(ha:sA d F sc a J):sA d F sc (.UnaryOp .Not a pos) (.not J):=λH=>
 (ha H).tD H λx v C' σ' s' H S hv=> .standAt (.holding (.holding ((CP H.I hv).tD H λb b' C' σ' s' H S U=>U▸ .pure H.I .bool)))
theorem TL{a:au}{J:ME}{pos:aK}(ha:sA d F sc a J):sA d F sc (.UnaryOp .USub a pos) (.neg J):=λH=>
 (ha H).tD H λx v C' σ' s' H S hv=> .standAt (.holding (.sS (f:=unaryOp .USub) hv λi t=>qF (sJ H.I .int)))
theorem TM{t a b:au}{mt J mb:ME}{pos:aK}(ht:vA d F sc t mt)(ha:sA d F sc a J)(U:sA d F sc b mb):sA d F sc (.IfExp t a b pos) (.ite mt J mb):=λ{z z z z env l} H=>
 (ht H).tD (f:=λc:aj=>if c then rZ F J l else rZ F mb l) (g:=λc:aj=>if c then eval a env else eval b env) H λx v C' σ' s' H S hv=>by
  subst hv;cases x with
  |true=>exact ha H
  |false=>exact U H
end
end
section
def s9(e:au):Prop:=∀ es env,starEach (e::es) env=(false,eval e env)::starEach es env
def Hq(e:au):Prop:=∀ o v,subscripted e false o v=iQ [o,v] (getItem o v)
def TN(e:au):Prop:=∀ env t,isTrue e env t=(do let v<-t;standAt e.pos;fP [v] (truthy v))
section
variable{d:aa}{A:az}{X:O ag}{C:Cx}{σ:Ob}{s:ai}{α β γ:Type}{sc:Sc}{F:Fn}{es:O au}{sU:O ME}{pos:aK}
theorem xe(hs:∀ e∈es,s9 e)(h:tj (sA d F sc) es sU):CO d sc (sR F sU) (λenv=>spliced (backTo pos (starEach es env))) (RVn es.length):=by
 induction h with
 |nil=>exact λH=> .pure H.I ⟨.nil,rfl⟩
 | @cons e me es sU h1 h2 U=>
  intro A C σ s env l H;show r0 A [] C σ s (M.bind (rZ F me l) λv=>M.bind (sR F sU l) λvs=>M.pure (v::vs)) (spliced (backTo pos (starEach (e::es) env))) _;rw[hs e (.head _)];exact(h1 H).tD H λx v C' σ' s' H S hv=>r0.xF (c:=[v]) ay ((U (λe he=>hs e (.tail _ he)) H).holding.tD H λxs vs C' σ' s' H S J=> .pure H.I ⟨.cons (hv.step S) J.1,av (·+1) J.2⟩)
theorem r0.ok{t:aM β}{R:aq->Cx->α->β->Prop}{a:α}(h:ak sB A t (sY X C s R a σ) tg s):r0 A X C σ s (M.pure a) t R:=h
theorem CQ{xs:O V}{vs:O af}{n:aa}{h:aq}(e:su h C xs vs/\xs.length=n)(J:n<=64):vs.length<=sizeLine:=e.1.length▸e.2▸aw J (by decide)
theorem TP{k:aa}(hs:∀ e∈es,s9 e)(U:es.length<=64)(h:tj (sA d F sc) es sU):sA d F sc (.Tuple es k pos) (.tup sU):=λH=>
 r0.standAt ((xe (pos:=pos) hs h H).tD H λxs vs C' σ' s' H S J=> .ok (gS (zI H.I λS=> .tup (vW H.I) (AF (a8 _ rfl)) (J.1.step S)) (CQ J U)))
theorem Qq(hs:∀ e∈es,s9 e)(U:es.length<=64)(h:tj (sA d F sc) es sU):sA d F sc (.List es pos) (.list sU):=λH=>
 r0.standAt ((xe (pos:=pos) hs h H).tD H λxs vs C' σ' s' H S J=> .ok (fx (zI H.I λS=> .lst (vW H.I) ⟨_,a8 _ rfl⟩ (J.1.step S)) (CQ J U)))
theorem CR{vs keep:O af}{Q:bi->ai->Prop}(h:Q () s):ak sB A (release vs keep) Q tg s:=wpAny_release h
theorem r0.cmp{op:ct}{x y:V}{v u:af}{env:aD}{l:Loc}(H:Here d A sc env l C σ s)(hx:sg s.heap C x v)(hy:sg s.heap C y u):r0 A [] C σ s (uC op x y) (bI op v u) DJ:=WJ H.A H.I hx hy
theorem r0.isEmpty{β:Type}{xs:O ct}{m:M α}{t:aM β}{R:aq->Cx->α->β->Prop}(h:xs=[]->r0 A X C σ s m t R):r0 A X C σ s (M.guard xs.isEmpty m) t R:= .guard λe=>h (cR.mp e)
theorem r0.Qr{op:ct}{x y:V}{v u:af}{env:aD}{l:Loc}{vs:O af}{m:M aj}{R:aq->Cx->aj->β->Prop}{K:aM β}{K0:af->aM β}(H:Here d A sc env l C σ s)(hx:sg s.heap C x v)(hy:sg s.heap C y u)
  (k:∀ C' σ' s',Here d A sc env l C' σ' s'->uj s.heap C s'.heap C'->r0 A [] C' σ' s' m K R) (k0:∀ C' σ' s',Inv C' σ' s'->r0 A [] C' σ' s' (M.pure false) (K0 (.bool false)) R):
  r0 A [] C σ s (M.bind (uC op x y) λr=>if r then m else M.pure false) (c7 [v,u] (bI op v u)>>=λc=>release vs [c]>>=λz=>c7 [c,u] (truthy c)>>=λq=>if q=true then K else K0 c) R:=
 (r0.cmp H hx hy).holding.tD (f:=λr:aj=>if r then m else M.pure false) (g:=λc=>release vs [c]>>=λz=>c7 [c,u] (truthy c)>>=λq=>if q=true then K else K0 c) H λb c C' σ' s' H S hc=>by
  subst hc;refine r0.xF (c:=()) CR (r0.xF (c:=b) (λh=>bd (BO h)) ?_);cases b with
  |true=>exact k _ _ _ H S
  |false=>exact k0 _ _ _ H.I
theorem Ik{R:aq->Cx->aj->β->Prop}{ch:af->O ct->O (aM af)->aM β}{K0:af->aM β}{fin:O af->aM af->aM β}
  (e1:∀ v op r,ch v [op] [r]=(c7 [v] r>>=λu=>standAt pos>>=λz=>fin [v,u] (bI op v u)))
  (e2:∀ v op ops r r' rs,ch v (op::ops) (r::r'::rs)=(c7 [v] r>>=λu=>standAt pos>>=λz=>c7 [v,u] (bI op v u)>>=λc=>release [v,u] [c]>>=λz=>c7 [c,u] (truthy c)>>=λq=>if q=true then ch u ops (r'::rs) else K0 c))
  (U:∀ {A:az} {C:Cx} {σ:Ob} {s:ai} {m:M aj} {t:aM af} {vs:O af},r0 A [] C σ s m t DJ->r0 A [] C σ s m (fin vs t) R) (k0:∀ {A:az} {C:Cx} {σ:Ob} {s:ai},Inv C σ s->r0 A [] C σ s (M.pure false) (K0 (.bool false)) R)
  (h:tj (sA d F sc) es sU):∀ {A:az} {C:Cx} {σ:Ob} {s:ai} {env:aD} {l:Loc} {ops:O ct} {x:V} {v:af},Here d A sc env l C σ s->sg s.heap C x v->es≠[]->ops.length=es.length->r0 A [] C σ s (vU F x ops sU l) (ch v ops (evalEach es env)) R:=by
 induction h with
 |nil=>exact λz z h=>aC rfl h
 | @cons e me es sU h1 h2 ih=>
  intro A C σ s env l ops x v H hx _ ho;cases ops with
  |nil=>cases ho
  |cons op ops=>
   cases h2 with
   |nil=>
    refine Eq.mpr (av (λt=>r0 A [] C σ s _ t R) (show ch v (op::ops) (evalEach [e] env)=ch v [op] [eval e env] by rw[dY (dh ho)];rfl)) ?_
    rw[e1];exact(h1 H).holding.tD (f:=λb=>M.guard ops.isEmpty (uC op x b)) H λy u C' σ' s' H S J=> .standAt (.isEmpty λz=>U (.cmp H (hx.step S) J))
   | @cons e' VK es sU h3 h4=>
    show r0 A [] C σ s _ (ch v (op::ops) (eval e env::eval e' env::evalEach es env)) R;rw[e2];exact(h1 H).holding.tD (f:=λb=>M.bind (uC op x b) λr=>if r then vU F b ops (VK::sU) l else M.pure false) H λy u C' σ' s' H S J=> .standAt (.Qr H (hx.step S) J (λC' σ' s' H S=>ih H (J.step S) (λh=>nomatch h) (dh ho)) λz z z=>k0)
theorem TQ{a:au}{J:ME}{ops:O ct}(ha:sA d F sc a J)(h:tj (sA d F sc) es sU)(ho:ops.length=es.length)(hn:es≠[])(hm:lastMarks ops es=false):sA d F sc (.Compare a ops es pos) (.cmp J ops sU):=λ{A C σ s env l} H=>by
 refine(ha H).tD (f:=λx=>M.bind (vU F x ops sU l) λb=>M.pure (V.bool b)) (g:=λv=>compareChain pos v ops (markedEach ops es (evalEach es env))) H λx v C' σ' s' H S hv=> ?_;rw[mO _ _ _ hm];exact .last (g:=V.bool) (λz z=>rfl) (Ik (ch:=compareChain pos) (K0:=pure) (fin:=iQ) (λz z z=>rfl) (λz z ops z z z=>by cases ops<;>rfl) .operate (λI=> .pure I rfl) h H hv hn ho) λz z z z e=>e▸ .bool
theorem TR{a:au}{J:ME}{ops:O ct}(ha:sA d F sc a J)(h:tj (sA d F sc) es sU)(ho:ops.length=es.length)(hn:es≠[])(hm:lastMarks ops es=false):vA d F sc (.Compare a ops es pos) (.cmp J ops sU):=λ{A C σ s env l} H=>by
 refine(ha H).tD (f:=λx=>vU F x ops sU l) (g:=λv=>testChain pos v ops (markedEach ops es (evalEach es env))) H λx v C' σ' s' H S hv=> ?_;rw[mO _ _ _ hm];exact Ik (ch:=testChain pos) (K0:=λy=>pure false) (fin:=λvs t=>iQ vs t>>=λc=>c7 [c] (truthy c)) (λy y y=>rfl) (λy y ops y y y=>by cases ops<;>rfl) (λz=>z.operate.tail λa b y y y I r Q h=>bd (r▸BO (h _ rfl))) (λI=> .pure I rfl) h H hv hn ho
theorem TS{a:au}{J:ME}(ha:vA d F sc a J):vA d F sc (.UnaryOp .Not a pos) (.not J):=λH=>(ha H).tD (f:=λb=>M.pure !b) (g:=λb=>pure !b) H λx v C' σ' s' H S hv=> .pure H.I (hv▸rfl)
theorem TT{t a b:au}{mt J mb:ME}(ht:vA d F sc t mt)(ha:vA d F sc a J)(U:vA d F sc b mb):vA d F sc (.IfExp t a b pos) (.ite mt J mb):=λ{z z z z env l} H=>
 (ht H).tD (f:=λc:aj=>if c then sN F J l else sN F mb l) (g:=λc:aj=>if c then jV a env (eval a env) else jV b env (eval b env)) H λx v C' σ' s' H S hv=>by
  subst hv;cases x with
  |true=>exact ha H
  |false=>exact U H
noncomputable def Ak:iR->aj
 | .And=>true
 | .Or=>false
theorem J2{op:iR}(h:tj (vA d F sc) es sU):CO d sc (xo F (Ak op) sU) (allTrue op es) RE:=by
 induction h with
 |nil=>exact λH=> .pure H.I (by cases op<;>rfl)
 | @cons e me es sU h1 h2 J=>
  intro A C σ s env l H;refine(h1 H).tD (f:=λb=>if b==Ak op then xo F (Ak op) sU l else M.pure b) (g:=λb=>match op,b with| .And,false=>pure false| .Or,true=>pure true|_,_=>allTrue op es env) H λx v C' σ' s' H S hv=> ?_
  subst hv;cases op<;>cases x<;>first|exact .pure H.I rfl|exact J H
theorem E9{op:iR}(h:tj (sA d F sc) es sU)(hn:es≠[]):sA d F sc (.BoolOp op es pos) (.bool (Ak op) sU):=by
 suffices z:es≠[]->CO d sc (CJ F (Ak op) sU) (λenv=>boolOp pos op (evalEach es env)) (RV) from λ{y y y y y y} H=>z hn H
 clear hn;induction h with
 |nil=>exact λh=>aC rfl h
 | @cons e me es sU h1 h2 U=>
  intro _ A C σ s env l H;cases h2 with
  |nil=>exact .last (m:=rZ F me l) (f:=λv=>M.pure v) (g:=id) (λy y=>rfl) (h1 H) λy y y y=>id
  | @cons e' J es sU h3 h4=>
   refine(h1 H).tD (f:=λv=>M.bind (uP v) λb=>if b==Ak op then CJ F (Ak op) (J::sU) l else M.pure v) (g:=λv=>standAt pos>>=λy=>c7 [v] (truthy v)>>=λt=>match op,t with| .And,false=>pure v| .Or,true=>pure v|_,_=>boolOp pos op (eval e' env::evalEach es env)) H λx v C' σ' s' H S hv=> ?_
   refine .standAt ((CP H.I hv).holding.tD (f:=λb=>if b==Ak op then CJ F (Ak op) (J::sU) l else M.pure x) H λb b' C' σ' s' H S hb=> ?_)
   subst hb;cases op<;>cases b<;>first|exact .pure H.I (hv.step S)|exact U (λh=>nomatch h) H
theorem AG{e:au}{me:ME}(h:TN e)(he:sA d F sc e me)(hm:∀ l,sN F me l=M.bind (rZ F me l) uP):vA d F sc e me:=λ{A C σ s env l} H=>by
 show r0 A [] C σ s (sN F me l) (jV e env (eval e env)) RE;rw[h,hm];exact(he H).tD H λx v C' σ' s' H S hv=> .standAt (CP H.I hv).holding
end
section
variable{d:aa}{A:az}{X:O ag}{C:Cx}{σ:Ob}{s:ai}{α β γ:Type}{sc:Sc}{F:Fn}
def zu(A:az)(s:ai)(v:af):Prop:=∀ Q:aj->ai->Prop,Q false s->ak sB A (getitemInPython v) Q tg s
theorem CS{T id:bc}{v:af}(J:s.TypeIs v T)(sl:gU T "__getitem__" id):zu A s v:=λQ h=>by
 rw[getitemInPython_of_ne J.not_modules];exact ao (iS J sl.lookup (ay h))
theorem Qs{a:ag}{items:aB af}(t:bW s.heap a items):s.TypeIs (.ref a) "tuple":=t.imp λz=>fT id cP
theorem Ov{a:ag}{items:aB af}(t:s.heap.IsList a items):s.TypeIs (.ref a) "list":=t.imp λz=>fT id cP
theorem Ow{a:ag}{ks:O V}{ws:O af}(D:DictAt s.heap C a ks ws):s.TypeIs (.ref a) "dict":=
 DictAt.casesOn (motive:=λz z z=>s.TypeIs (.ref a) "dict") D (λD=>D.mapOf.typeIs) λD z=>D.typeIs
theorem DQ{a:ag}{items:aB af}(t:bW s.heap a items):zu A s (.ref a):=CS (Qs t) F.slot_tuple_getitem
theorem Am{a:ag}{items:aB af}(t:s.heap.IsList a items):zu A s (.ref a):=CS (Ov t) F.slot_list_getitem
theorem Gq{a:ag}{ks:O V}{ws:O af}(D:DictAt s.heap C a ks ws):zu A s (.ref a):=CS (Ow D) F.slot_dict_getitem
theorem Ox{x y:V}{v:af}(I:Inv C σ s)(hv:sg s.heap C x v){P:V->Ob->Prop}(k:zu A s v->Al (tZ x y σ) P):Al (tZ x y σ) P:=
 sg.casesOn (motive_1:=λx v z=>(zu A s v->Al (tZ x y σ) P)->Al (tZ x y σ) P) hv (λz=>ah) (λz=>ah) (λz=>ah) (λz z=>ah) (λz t z k=>k (DQ t)) (λz t z k=>k (Am t.isList)) (λz z z z=>ah)
  (λz z z D k=>k (Gq D)) (λz z z z=>ah) (λ{i p} hp k=>cZ (λg:zu A s (.ref p.1)=>k g) λg=>Al.obj (f:=yE y) I hp λo z r=>
   tm.casesOn (motive:=λp o z=>¬ zu A s (.ref p.1)->Al (yE y o σ) P) r (λl z g=>aC (Am l.isList) g) (λz D g=>aC (Gq D) g) (λz z z z z z z z=>ah) g) k
theorem Al.sS{f:ae->M α}{x:V}{P:α->Ob->Prop}(h:∀ i,Al (f i σ) P):Al (sS f x σ) P:=by
 cases x with
 |int i=>exact h i
 |_=>exact ah
theorem yJ{x lo hi st:V}{P:V->Ob->Prop}(h1:∀ k,ED k x=M.fail)(h2:∀ k,Ji k x=M.fail)(h3:∀ f:O V->M V,vm f x=M.fail):Al (uO x lo hi st σ) P:=by
 cases st with
 |none=>
  cases lo with
  |none=>exact .sS λk=>by rw[h1];exact ah
  |int k=>exact .guard λz=>by rw[h2];exact ah
  |_=>exact ah
 |int=>exact .guard λz=>by rw[h3];exact ah
 |_=>exact ah
theorem Mh{x lo hi st:V}{v:af}(hv:sg s.heap C x v){P:V->Ob->Prop}(k:zu A s v->Al (uO x lo hi st σ) P):Al (uO x lo hi st σ) P:=
 sg.casesOn (motive_1:=λx v z=>(zu A s v->Al (uO x lo hi st σ) P)->Al (uO x lo hi st σ) P) hv (λz=>yJ (λz=>rfl) (λz=>rfl) λz=>rfl) (λz=>yJ (λz=>rfl) (λz=>rfl) λz=>rfl) (λz=>yJ (λz=>rfl) (λz=>rfl) λz=>rfl) (λ{z x t} z k=>k (CS (typeIs_str s x t) F.slot_str_getitem)) (λz t z k=>k (DQ t)) (λz t z k=>k (Am t.isList)) (λz t z k=>k (Am t))
  (λz z z z z=>yJ (λz=>rfl) (λz=>rfl) λz=>rfl) (λz z z z=>yJ (λz=>rfl) (λz=>rfl) λz=>rfl) (λz z=>yJ (λz=>rfl) (λz=>rfl) λz=>rfl) k
theorem r0.letGo{base:au}{o:af}{m:M α}{t:aM af}{R:aq->Cx->α->af->Prop}(h:r0 A X C σ s m t R):r0 A X C σ s m (t>>=λr=>(letTemporaryGo base o r>>=λz=>eM r)) R:=
 h.tail λz z z z z z r z h=>ao (jW (ay (h _ r)))
theorem Qt{a i:au}{J mi:ME}{pos:aK}(hi:Hq i)(ha:sA d F sc a J)(U:sA d F sc i mi):sA d F sc (.Subscript a i pos) (.item J mi):=λH=>
 (ha H).tD H λx v C' σ' s' H S hv=>(U H).holding.tD (f:=λy=>tZ x y) H λy u C' σ' s' H S hu=> .standAt (Ox (y:=y) H.I (hv.step S) λg=>r0.xF (c:=false) (g _) (hi v u▸(Tx H.pl (hv.step S) hu).operate.letGo))
inductive yK(d:aa)(F:Fn)(sc:Sc):ax au->ME->Prop
 |none:yK d F sc none (.c .none)
 |some {e:au} {me:ME} (h:sA d F sc e me):yK d F sc (some e) me
theorem yK.sim{o:ax au}{me:ME}(h:yK d F sc o me):CO d sc (rZ F me) (λenv=>valueOrNone (evalOpt o env)) (RV):=by
 cases h with
 |none=>exact λH=> .pure H.I .none
 |some h=>exact h
theorem Qu{a b c:ax au}{p:aK}{o v:af}:∃ vs,subscripted (.Slice a b c p) false o v=iQ vs (getItem o v):=by
 cases c<;>exact⟨_,rfl⟩
theorem M.bind_assoc(m:M α)(f:α->M β)(g:β->M γ):M.bind (M.bind m f) g=M.bind m λa=>M.bind (f a) g:=by
 funext σ;unfold M.bind;cases m σ<;>rfl
inductive RS(h:aq)(C:Cx)(p:V×V×V):af->Prop
 |mk {sl:ag} {vl vu vs:af} (a:sg h C p.1 vl) (b:sg h C p.2.1 vu) (c:sg h C p.2.2 vs) (s:h.IsSliceOf sl vl vu vs):RS h C p (.ref sl)
theorem Oy{a:au}{lo hi st:ax au}{ma J U Qx:ME}{pos p:aK}(ha:sA d F sc a ma)(hl:yK d F sc lo J)(hh:yK d F sc hi U)(hs:yK d F sc st Qx):sA d F sc (.Subscript a (.Slice lo hi st p) pos) (.slice ma J U Qx):=λ{A C σ s env l} H=>by
 refine(ha H).tD (f:=λx=>M.bind (rZ F J l) λy=>M.bind (rZ F U l) λz=>M.bind (rZ F Qx l) λu=>uO x y z u) H λx v C1 σ1 s1 H1 S1 hv=> ?_
 rw[show(M.bind (rZ F J l) λy=>M.bind (rZ F U l) λz=>M.bind (rZ F Qx l) λu=>uO x y z u)=
  M.bind (M.bind (rZ F J l) λy=>M.bind (rZ F U l) λz=>M.bind (rZ F Qx l) λu=>M.pure (y,z,u)) λ(q:V×V×V)=>uO x q.1 q.2.1 q.2.2 by simp only[M.bind_assoc];try rfl]
 refine(r0.holding (R:=RS) ?_).tD H1 λq i C2 σ2 s2 H2 S2 hq=> ?_
 ·exact(hl.sim H1).tD H1 λy vl C2 σ2 s2 H2 S2 h2=>(hh.sim H2).holding.tD H2 λz vu C3 σ3 s3 H3 S3 h3=>(hs.sim H3).holding.tD H3 λu vs C4 B7 s4 H4 S4 h4=>
   .ok (dg (zI H4.I λS=> .mk (((h2.step S3).step S4).step S) ((h3.step S4).step S) (h4.step S) (.new _ _ _ _)))
 ·exact RS.casesOn (motive:=λi w=>r0 A [] C2 σ2 s2 (uO x q.1 q.2.1 q.2.2) (standAt pos>>=λw=>getitemInPython v>>=λb=>subscripted (.Slice lo hi st p) b v i>>=λr=>(letTemporaryGo a v r>>=λw=>eM r)) (RV)) hq λ{sl vl vu vs} q1 q2 q3 q4=>
   .standAt (Mh (hv.step S2) λg=>r0.xF (c:=false) (g _) ((Qu (a:=lo) (b:=hi) (c:=st) (p:=p) (o:=v) (v:= .ref sl)).elim λws hw=>hw▸(Qe H2.pl (hv.step S2) q1 q2 q3 q4).operate.letGo))
end
end
section
structure vp(K:bb)(C D:ag):Prop where
 cls:∃ cd,clsIn K C=some cd/\cd.mro=[.ref C, .ref D, .type "Exception", .type "BaseException", .type "object"]
 ga:findIn K (.ref C) "__getattribute__"=some (some (.builtin "BaseException.__getattribute__"))
 aaM:findIn K (.ref C) "__getattr__"=some none
 sa:findIn K (.ref C) "__setattr__"=some (some (.builtin "object.__setattr__"))
 dict:hasDictIn K C=true
 no:∀ a x,attrName a=some x->findIn K (.ref C) x=some none
section
variable{prog:a9}{w:a0}{A:az}{E:VS}{h:aq}{g:aB eP}{d:gf}{t:aa}{os:fq}{K:bb}{x C D:ag}{ox:aL}{od:ax aL}{name:am}
theorem vp.inst(F:vp K C D)(X:K.In h)(I:InstAt h x ox C od)(M:ce){T:bc}(U:T="BaseException"\/T="Exception"\/T="object"):bO M h (isInstance (.ref x) (.type T)) true:=by
 refine F.cls.elim λcd J=> ?_;have hc:=J.1;have hm:=J.2;refine I.type.andThen (mP X ?_);unfold mroIn;rw[hc,jX,hm];rcases U with rfl|rfl|rfl<;>rfl
theorem vp.mro(F:vp K C D)(X:K.In h)(M:ce):bO M h (mroOf (.ref C)) [.ref C, .ref D, .type "Exception", .type "BaseException", .type "object"]:=by
 refine F.cls.elim λcd J=>J.elim λhc hm=> ?_;rw[<-hm];exact(jY X hc).andThen .now
theorem Hr{expr:aj}{Q:VS}{a:aa}{es:O bX}{n:aa}{v:af}(F:vp K C D)(X:K.In h)(I:InstAt h x ox C (some (dictOf es n)))(hn:attrName a=some name)(U:getL name es=some (some v))(hv:handedIn v=true)
  (hq:Q v ⟨h,g,d,t+1,os⟩):ak (aA prog w) A (getAttr (.ref x) name expr) Q E ⟨h,g,d,t,os⟩:=by
 have J:=I.type (M:=aA prog w);have L1:=gg (M:=aA prog w) X F.ga;have L2:=gg (M:=aA prog w) X F.aaM;have ho:findObj K C (some (dictOf es n)) name=some (.value v):=findObj_own (attr:=none) F.dict (F.no a name hn) (by rfl) U
 have hf:=looks_find (M:=aA prog w) X I ho;refine ao (iT (bd (ao (J.at (ao (L1.at ?_))))))
 have YD:(eC "BaseException.__getattribute__"==eC "object.__getattribute__")=false:=by decide+kernel
 have hx1:(onTheHeap (a7 C)&&eC "BaseException.__getattribute__"==eC "object.__getattribute__")=false:=by rw[YD];rfl
 dsimp only;unfold getAttrByItsOwn hookBefore callGetattribute boundAndCalled;refine sf (λy=>L2.at) ?_
 have M4:(expr&&onTheHeap (eC "BaseException.__getattribute__"))=false:=by cases expr<;>rfl
 simp -iota only[M4,bN,bE];refine ao (eD (bd ?_));refine sf (λy=>eS (mQ.ga.bind _)) ?_
 refine aO (Q:=λu s'=>u=v/\s'=⟨h,g,d,t+1,os⟩) (E:=λy y=>bM)
  (ee (jZ mQ.ga.plain qG (@mR (aA prog w) _ _ ⟨h,g,d,t+1,os⟩ "BaseException.__getattribute__" "BaseException" "__getattribute__" (.ref x) [.str name t] [] _ (by decide+kernel) (by decide+kernel) (F.inst X I _ (.inl rfl)) (qH _ _) ?_))) (λu s' hu=> ?_) λy y z=>z.elim
 ·unfold bq.«object.__getattribute__»
  refine sP ?_;refine sP (ao (J.at (ao (hf.at ?_))))
  exact ay ⟨rfl,rfl⟩
 ·obtain⟨rfl,rfl⟩:=hu
  dsimp only;rw[handedOut_of hv];exact ay hq
end
theorem WT{a:ag}{o o':aL}{l:O (ag×aL)}(hp:l.Pairwise λp q=>p.1≠q.1)(h:(a,o)∈l):Upd a o o' l (l.map λq=>if q.1=a then(a,o') else q):=by
 induction l with
 |nil=>cases h
 |cons p l U=>
  obtain⟨h1,h2⟩:=gO.mp hp;rw[fw];cases h with
  |head=>
   rw[aN rfl,iF (λq J=>aI (bz (h1 q J))),mc];exact .head λq J=>bz (h1 q J)
  |tail _ h=>exact(aI (h1 _ h):(if p.1=a then(a,o') else p)=p).symm▸ .tail (h1 _ h) (U h2 h)
theorem Fa{mu:O (ag×O ag)}{p:ag×O ag}:∀ {i:aa},(owned mu).Nodup->mu[i]?=some p->(p.1::p.2).Nodup:=by
 induction mu with
 |nil=>exact λz h=>(by cases h)
 |cons r mu J=>
  intro i nd hp;have nd:=gN.mp ((Oo r mu)▸nd);cases i with
  |zero=>cases hp;exact nd.1
  |succ i=>exact J nd.2.1 hp
theorem J3(h0 h:aq)(L:ag):(yH h0 h L).Pairwise λp q=>p.1≠q.1:=by
 have k:∀ {a:ag} {b:ag×aL},(if a=L\/(h0.get? a).isSome=true then none else(h.get? a).map λo=>(a,o))=some b->b.1=a:=λ{a b} J=>by
  split at J
  ·exact nomatch J
  ·exact(c5.mp J).elim λo z=>z.2▸rfl
 exact qI _ (λa a' hn b J b' U e=>hn ((k J).symm.trans (e.trans (k U)))) O.nodup_range
section
variable{d:aa}{A:az}{X:O ag}{C:Cx}{σ:Ob}{s:ai}{h:aq}
structure Classes:Prop where
 DR:G.K.In G.h0
 get:∀ c a x,c<=3->attrName a=some x->plainGet G.K (sK c) x=true/\hasDictIn G.K (sK c)=true/\findIn G.K (.ref (sK c)) x=some none
 exc:∃ D,vp G.K (sK 4) D
 set:∀ c,c<=3->findIn G.K (.ref (sK c)) "__setattr__"=some (some (.builtin "object.__setattr__"))/\plainOver G.K (sK c)=true
theorem handed{x:V}{v:af}(e:sg h C x v):handedIn v=true:=
 sg.casesOn (motive_1:=λz v z=>handedIn v=true) e rfl rfl rfl (λz=>rfl) (λz z z=>rfl) (λz z z=>rfl) (λz z z=>rfl) (λz z z z=>rfl) (λz z z=>rfl) λz=>rfl
theorem yZ{a b:aa}{x y:am}(ha:attrName a=some x)(J:attrName b=some y):x=y<->a=b:=MU (l:=AD) (by decide+kernel) ha J
theorem DS{k:ae}{v:af}{es:O bX}{x y:am}{t:bk}:getL x (⟨k, .str y t,v⟩::es)=if y=x then some (some v) else getL x es:=by
 unfold getL;have h1:(gV y t).isStr x=decide (y=x):=ej.mpr (bl.trans jD.symm)
 by_cases hy:y=x
 ·rw[O.find?_cons_of_pos (by rw[h1];exact aX hy),aN hy]
 ·rw[O.find?_cons_of_neg (by rw[h1,cn hy];exact b0),aI hy]
  rfl
theorem Bj{a:aa}{x:am}(hx:attrName a=some x){at_:O (aa×V)}{es:O bX}(e:tx h C at_ es):(∀ V,at_.lookup a=some V->∃ v,getL x es=some (some v)/\sg h C V v)/\(getL x es).isSome=true:=by
 induction e with
 |nil=>exact⟨λw h=>((by cases h)),rfl⟩
 | @cons b W y t k v as es hn hv r ih=>
  rw[DS]
  by_cases U:b=a
  ·subst U
   rw[aN ((yZ hn hx).mpr rfl)];exact⟨λV J=>⟨_,rfl,by rw[O.lookup_cons_self] at J;exact aE J▸hv⟩,rfl⟩
  ·rw[aI λz=>U ((yZ hn hx).mp z)]
   exact⟨λV J=>ih.1 V (by rw[eu,bS.mpr (bz U)] at J;exact J),ih.2⟩
theorem Qy{at_:O (aa×V)}{es:O bX}(e:tx h C at_ es):es.length=at_.length:=tx.rec (motive:=λat_ es z=>es.length=at_.length) rfl (λz z z=>av (·+1)) e
theorem M5{m n:aa}{w v:V}{r:O (aa×V)}:Internal.putAt ((m,w)::r) n v=if m==n then(n,v)::r else(m,w)::Internal.putAt r n v:=rfl
theorem YE{name:am}{hsh:ae}{key v:af}{e:bX}{r:O bX}:putL name hsh key v (e::r)=if e.key.isStr name then⟨e.hash,e.key,v⟩::r else e::putL name hsh key v r:=rfl
theorem Qz{a:aa}{x:am}{W:V}{w:af}{t:bk}{hsh:ae}(hx:attrName a=some x)(U:sg h C W w){at_:O (aa×V)}{es:O bX}(e:tx h C at_ es):
  tx h C (Internal.putAt at_ a W) (putL x hsh (.str x t) w es)/\(putL x hsh (.str x t) w es).length<=at_.length+1:=by
 induction e with
 |nil=>exact⟨.cons hx U .nil,aU _⟩
 | @cons b W' y t' k v as es hn hv r ih=>
  have hk:(gV y t').isStr x=decide (y=x):=ej.mpr (bl.trans jD.symm);rw[M5,YE,hk]
  by_cases J:b=a
  ·subst J
   cases (yZ hn hx).mpr rfl;rw[aX rfl,aN (bC _)];exact⟨.cons hn U r,bZ (eA (bF (Qy r)))⟩
  ·rw[cn λz=>J ((yZ hn hx).mp z),aI λz=>J (eq_of_beq z)]
   exact⟨.cons hn hv ih.1,bZ ih.2⟩
theorem Mi{a:aa}{W:V}{at_:O (aa×V)}(h:(at_.map (·.1)).Nodup):((Internal.putAt at_ a W).map (·.1)).Nodup/\∀ b,b∈(Internal.putAt at_ a W).map (·.1)->b=a\/b∈at_.map (·.1):=by
 induction at_ with
 |nil=>exact⟨b7.mpr ⟨ba,c6⟩,λb J=> .inl (aR.mp J)⟩
 |cons p at_ U=>
  have n:=b7.mp h;have U:=U n.2;rw[M5]
  by_cases J:p.1=a
  ·rw[aN (bl.mpr J)]
   exact⟨J▸h,λc hc=>(aW.mp hc).imp id (.tail _)⟩
  ·rw[aI λz=>J (eq_of_beq z)]
   exact⟨b7.mpr ⟨λhm=>(U.2 _ hm).elim J n.1,U.1⟩,λc hc=>(aW.mp hc).elim (λe=> .inr (e▸ .head _)) λe=>(U.2 _ e).imp id (.tail _)⟩
theorem B8{a d:ag}{c:aa}{es:O bX}{n:aa}{dat:cJ}(hc:c<=4)(o:h.get? a=some ⟨.ref (sK c),some d,dat, #[]⟩)(pl:c<4->dat= .plain)(fl:c=4->∃ vs,dat= .fields vs)(ed:h.get? d=some (dictOf es n)):mS h a ⟨.ref (sK c),some d,dat, #[]⟩ (sK c) (some (dictOf es n)):=
 ⟨o,rfl,(iU hc).elim (λhc=>by rw[pl hc];rfl) λhc=>(fl hc).elim λz hv=>by rw[hv];rfl,ed⟩
theorem Mj{o:V}{v:af}{a:aa}{x:am}(K:Classes)(P:At d A C σ s)(hx:attrName a=some x)(ho:sg s.heap C o v):r0 A X C σ s (wD o a) (getAttr v x true) (RV):=P.fr.elim λL ⟨m,hL,hm⟩=>
 sg.casesOn (motive_1:=λo v w=>r0 A X C σ s (wD o a) (getAttr v x true) (RV)) ho ah ah ah (λw=>ah) (λw w w=>ah) (λw w w=>ah) (λw w w=>ah) (λw w w w=>ah) (λw w w=>ah)
  λ{r p} hp=> .obj (f:=EE a) P.I hp λo z=>tm.casesOn (motive:=λp m w=>r0 A X C σ s (EE a m) (getAttr (.ref p.1) x true) (RV)) z (λw w=>ah) (λw w=>ah)
   λhc nd o pl fl ed as=>Al.sM λy h1=>((Bj hx as).1 y h1).elim λu U=>have g1:=U.1;have J:=U.2;(iU hc).elim
    (λhc=>have k:=K.get _ a x (iV hc) hx;get_own (P.I.fr hL hm) K.DR (B8 (bB hc) o pl fl ed) k.1 k.2.1 k.2.2 rfl g1 (handed J) (sJ P.I J))
    λhc=>by cases hc;exact K.exc.elim λD F=>Hr F (K.DR.keeps λw w=>P.I.uG) (B8 (aU 4) o pl fl ed) hx g1 (handed J) (sJ P.I J)
theorem Mk{o W:V}{v w:af}{a:aa}{x:am}(K:Classes)(P:At d A C σ s)(hx:attrName a=some x)(ho:sg s.heap C o v)(hw:sg s.heap C W w):r0 A X C σ s (uY o a W) (setAttr v x w) RT:=P.fr.elim λL ⟨m,hL,hm⟩=>
 sg.casesOn (motive_1:=λo v y=>r0 A X C σ s (uY o a W) (setAttr v x w) RT) ho ah ah ah (λy=>ah) (λy y y=>ah) (λy y y=>ah) (λy y y=>ah) (λy y y y=>ah) (λy y y=>ah)
  λ{r p} hp=> .obj (f:=CE r a W) P.I hp λo z=>tm.casesOn (motive:=λp m y=>C.mu[r]?=some p->r0 A X C σ s (CE r a W m) (setAttr (.ref p.1) x w) RT) z (λy y y=>ah) (λy y y=>ah)
   (λ{p d c at_ es n dat} hc nd o pl fl ed as hp=> .guard λh=>by
    have h3:=aP (rY h).1;have k:=K.get c a x h3 hx;have J:d∈owned C.mu:=vh hp (.tail _ (.head _));have hpa:p∈owned C.mu:=vh hp (.head _);have off:∀ {b:ag},b∈owned C.mu->b≠L:=λhb z=>P.I.wE hL (z▸hb)
    have new:∀ {b:ag},b∈owned C.mu->G.h0.get? b=none:=λ{b} hb=>by
     cases e:G.h0.get? b with
     |none=>rfl
     |some o=>exact aC (vF hb) (P.I.BL e)
    have hin:(d,dictOf es n)∈yH G.h0 s.heap L:=yi.mpr ⟨⟨off J,new J⟩,ed⟩;have YF:=Qz (t:=s.toks+1) (hsh:=eT G.w.params x) hx hw as
    refine set_dict (P.I.fr hL hm) K.DR P.I.news (B8 hc o pl fl ed) rfl (K.set c h3).1 (K.set c h3).2 (by unfold takerIn;rw[k.2.2];rfl) k.2.1 (Bj hx as).2 rfl
     (WT (J3 _ _ _) hin) (aw YF.2 (aw (bZ (aP (rY h).2)) (by decide))) λh' F' N'=> ?_
    have U:=N'.get (bG.mpr ⟨_,hin,aN rfl⟩)
    have hk:∀ {b o},b≠L->b≠d->s.heap.get? b=some o->h'.get? b=some o:=λ{b o} hbL hb e=>by
     cases hg:G.h0.get? b with
     |none=>exact N'.get (bG.mpr ⟨(b,o),yi.mpr ⟨⟨hbL,hg⟩,e⟩,aI hb⟩)
     |some q=>exact F'.keep b o (hg.trans ((P.I.uG hg).symm.trans e))
    have E:Ext X C C s.heap h':= .P8 (T:=(·=d)) hL hm F'.ns (λz=>z▸⟨⟨vF J,λz=>P.I.wE z J⟩,_,U⟩) hk
    exact .mk (Nx.Qf (s':={s with heap:=h',toks:=s.toks+2}) P.I hp (.tail _ (.head _)) E (λn np=>hk (λz=>np (z▸hL)) n)
     (.inst hc (Mi nd).1 (hk (off hpa) (λz=>(b7.mp (Fa P.I.nodup hp)).1 (z▸ .head _)) o) pl fl U (YF.1.step E.stp))) ⟨⟩) hp
end
section
variable{d:aa}{A:az}{X:O ag}{C:Cx}{σ:Ob}{s:ai}{α β γ:Type}{sc:Sc}{F:Fn}{h:aq}
def xT(o:au):Prop:=∀ attr env t,attributeBase o attr env t=t
theorem QA{a:au}{J:ME}{n:aa}{x:am}{pos:aK}(K:Classes)(U:xT a)(hx:attrName n=some x)(ha:sA d F sc a J):sA d F sc (.Attribute a x pos) (.attr J n):=λ{A C σ s env l} H=>by
 show r0 A [] C σ s (M.bind (rZ F J l) λo=>wD o n) (attributeBase a x env (eval a env)>>=_) _;rw[U];exact(ha H).tD H λo v C' σ' s' H S hv=> .standAt (Mj K H.pl hx hv).holding.letGo
theorem zl{es:O au}{env:aD}(h:∀ e∈es,s9 e):starEach es env=es.map λe=>(false,eval e env):=by
 induction es with
 |nil=>rfl
 |cons e es J=>rw[h e (.head _),J λe he=>h e (.tail _ he)];rfl
theorem CT{es:O au}{env:aD}{pos:aK}(h:∀ e∈es,s9 e):∃ f:au->aM af,backTo pos (starEach es env)=es.map λe=>(false,f e):=⟨_,by rw[zl h];unfold backTo;rw[bR];rfl⟩
theorem ux{es:O au}{env:aD}{pos:aK}(h:∀ e∈es,s9 e):(backTo pos (starEach es env)).any (·.1)=false:=(CT h).elim λf e=>by
 rw[e,fS,j4];exact λz z=>b0
theorem uy{E:VS}{es:O au}{env:aD}{pos:aK}{f:af}{Q:Args->ai->Prop}(hs:∀ e∈es,s9 e)(h:ak sB A (spliced (backTo pos (starEach es env))) (λvs s'=>Q ⟨vs,[]⟩ s') E s):
  ak sB A (evalArgs f true (backTo pos (starEach es env)) []) Q E s:=by
 rw[zl hs] at*
 cases es with
 |nil=>exact λU p J=>h U p J
 |cons e es=>exact Calls.evalArgs_plain h
def Keeps(h:aq)(f:af):Prop:=∃ k,(k=j5.frame\/k=j5.machine\/k=j5.boundFrame)/\bO sB h (keeperOf f) k
theorem r0.Il{δ:Type}{f:af}{first:O af}{es:O au}{pos:aK}{env:aD}{mx:M δ}{k:δ->M α}{R:aq->Cx->α->af->Prop}{R0:aq->Cx->δ->O af->Prop}(hs:∀ e∈es,s9 e)
  (h:r0 A X C σ s mx (spliced (backTo pos (starEach es env))) R0) (hk:∀ C' s',Ext X C C' s.heap (s':ai).heap->Keeps s'.heap f)
  (hc:∀ xs vs C' σ' s',Nx X C s C' σ' s'->R0 s'.heap C' xs vs->r0 A X C' σ' s' (k xs) (call f (first++vs)) R):
  r0 A X C σ s (M.bind mx k) (callWith pos f first (backTo pos (starEach es env)) []) R:=
 (h.split λxs vs C' σ' s' N r=>((hc xs vs C' σ' s' N r).after N).imp λy y z=>j6 (hk C' s' N.E) z).imp λy y z=>dL (P:=λh=>Keeps h f) (by rw[ux hs];rfl) (λh hp=>hp) (uy hs z)
theorem r0.callWith{f:af}{first:O af}{es:O au}{sU:O ME}{pos:aK}{env:aD}{l:Loc}{k:O V->M α}{R:aq->Cx->α->af->Prop}(hs:∀ e∈es,s9 e)(h:tj (sA d F sc) es sU)(H:Here d A sc env l C σ s)
  (hk:∀ C' s',Ext [] C C' s.heap (s':ai).heap->Keeps s'.heap f)
  (hc:∀ xs vs C' σ' s',Here d A sc env l C' σ' s'->uj s.heap C s'.heap C'->su s'.heap C' xs vs->xs.length=es.length->r0 A [] C' σ' s' (k xs) (call f (first++vs)) R):
  r0 A [] C σ s (M.bind (sR F sU l) k) (callWith pos f first (backTo pos (starEach es env)) []) R:=
 .Il hs (xe hs h H) hk λxs vs C' σ' s' N hv=>hc xs vs C' σ' s' (H.next N) N.S hv.1 hv.2
theorem um{f:af}(J:f.isRef=false):Keeps h f:=⟨.machine, .inr (.inl rfl), .of_pure (by cases f<;>first|rfl|exact vJ J.symm)⟩
structure Names:Prop where
 g:G.h0.Ns bV G.mg
 b:G.h0.Ns ei G.mb
theorem Inv.ns0{a:ag}{m:am->ax af}(I:Inv C σ s)(h:G.h0.Ns a m):s.heap.Ns a m:=yg h λz z z=>aT I.uG
def Means(x:am)(v:af):Prop:=G.mg x=some v\/(G.mg x=none/\G.mb x=some v)
theorem vQ{E:VS}{C':Cx}{x:am}{pos:aK}{v:af}{env:aD}{l:Loc}(N:Names)(R:tE h C' env sc l)(I:Inv C σ s)(hx:sc.kind x=some .globalImplicit)(J:(x==("__debug__":am))=false)(hv:Means x v){Q:VS}(h:Q v s):ak sB A (eval (.Name x pos) env) Q E s:=
 have hg:=R.globals.symm▸I.ns0 N.g
 Calls.Name_function_global R.kind (by unfold dA;rw[R.scope];exact hx) (hv.elim (λhv=>Calls.loadGlobal_global hg hv h) λhv=>Calls.loadGlobal_builtin hg hv.1 (R.builtins.symm▸I.ns0 N.b) hv.2 h) J
theorem zm{x:am}{pos:aK}{v:af}{env:aD}{l:Loc}{m:M α}{g:af->aM β}{R:aq->Cx->α->β->Prop}(N:Names)(H:Here d A sc env l C σ s)(hx:sc.kind x=some .globalImplicit)(J:(x==("__debug__":am))=false)(hv:Means x v)
  (h:r0 A X C σ s m (g v) R):r0 A X C σ s m (eval (.Name x pos) env>>=g) R:= .xF (c:=v) (vQ N H.env H.I hx J hv) h
theorem WU{b:Bt}{x:am}{p pos:aK}{es:O au}{sU:O ME}(N:Names)(U:Gp b=true)(hx:sc.kind x=some .globalImplicit)(hd:(x==("__debug__":am))=false)(hv:Means x (VI b))(hs:∀ e∈es,s9 e)(h:tj (sA d F sc) es sU):sA d F sc (.Call (.Name x p) es [] pos) (.bt b sU):=λH=>
 zm N H hx hd hv (.callWith (k:=tN b) hs h H (λC' s' z=>um (by cases b<;>rfl)) λxs vs C' σ' s' H S J z=>YC U H.pl J)
noncomputable def tyName:Ty->bc
 | .int=>"int"
 | .bool=>"bool"
 | .tuple=>"tuple"
theorem WV{x:V}{v:af}{t:Ty}(I:Inv C σ s)(hv:sg s.heap C x v):r0 A X C σ s (isA x t) (call (.builtin "isinstance") [v, .type (tyName t)]) (RV):=by
 refine sg.casesOn (motive_1:=λx v z=>r0 A X C σ s (isA x t) (call (.builtin "isinstance") [v, .type (tyName t)]) (RV)) hv ?_ ?_ ?_ ?_ ?_ (λz z z=>ah) (λz z z=>ah) (λz z z z=>ah) (λz z z=>ah) (λz=>ah)
 ·cases t
  ·exact qJ (sJ I .bool)
  ·exact qK (sJ I .bool)
  ·exact qL (sJ I .bool)
 ·cases t
  ·exact qM (sJ I .bool)
  ·exact qN (sJ I .bool)
  ·exact qO (sJ I .bool)
 ·cases t
  ·exact qP (sJ I .bool)
  ·exact qQ (sJ I .bool)
  ·exact qR (sJ I .bool)
 ·intro c x k e
  cases t
  ·exact qS (sJ I .bool)
  ·exact qT (sJ I .bool)
  ·exact qU (sJ I .bool)
 ·intro xs a its n h e
  refine h.elim λo J=>have ho:=J.1;have hc:=J.2.1; ?_;cases t
  ·exact qV ho hc (sJ I .bool)
  ·exact qW ho hc (sJ I .bool)
  ·exact qX ho hc (sJ I .bool)
theorem TU{a:au}{J:ME}{t:Ty}{x y:am}{p p2 pos:aK}(N:Names)(hx:sc.kind x=some .globalImplicit)(hd:(x==("__debug__":am))=false)(hv:Means x (.builtin "isinstance"))(hy:sc.kind y=some .globalImplicit)(U:(y==("__debug__":am))=false)(hv2:Means y (.type (tyName t)))
  (hs:s9 a) (ha:sA d F sc a J):sA d F sc (.Call (.Name x p) [a, .Name y p2] [] pos) (.isA J t):=λ{A C σ s env l} H=>by
 have hp:∀ e∈[a, .Name y p2],s9 e:=bj.mpr ⟨hs,bj.mpr ⟨λw w=>rfl,λw h=>aC h ba⟩⟩;refine zm (g:=λf=>callWith pos f [] (backTo pos (starEach [a, .Name y p2] env)) []) N H hx hd hv (.Il (mx:=rZ F J l) (k:=λx=>isA x t) (R0:=λh C x vs=>∃ v,vs=[v, .type (tyName t)]/\sg h C x v) hp ?_ (λC' s' w=>um rfl) λxs vs C' σ' s' N hvs=>hvs.elim λv z=>z.1▸WV N.I z.2);rw[zl hp];show r0 A [] C σ s (rZ F J l) (eval a env>>=λv=>(eM [v]:aM (O af))>>=λh=>c7 h ((eval (.Name y p2) env>>=λv=>(eM [v]:aM (O af))>>=λh=>c7 h (eM [])>>=λr=>eM (h++r)))>>=λr=>eM (h++r)) _;exact r0.tail (ha H) λu v C' σ' s' I hu {Q} hq=>sP (ao (bd (ao (vQ N H.env I hy U hv2 (sP (ao (bd (ay (ay (ay (hq _ ⟨v,rfl,hu⟩)))))))))))
end
section
variable{d:aa}{A:az}{X:O ag}{C:Cx}{σ:Ob}{s:ai}{α β γ:Type}{sc:Sc}{F:Fn}{h:aq}
noncomputable def DT:Bm->bc
 | .get=>"dict"
 | .append=>"list"
 | .extend=>"list"
 | .count=>"list"
 | .index=>"list"
noncomputable def J4:Bm->bc
 | .append=>"append"
 | .extend=>"extend"
 | .get=>"get"
 | .count=>"count"
 | .index=>"index"
theorem M6(J:Bm):∃ nm:am,nm=aJ (J4 J)/\gU (DT J) nm (FD J)/\typeOf (.builtin (FD J))=pure (.type "method_descriptor")/\PlainAttrs (DT J):=by
 cases J
 ·exact⟨_,rfl,F.slot_list_append,F.type_list_append,iW⟩
 ·exact⟨_,rfl,mG,F.type_list_extend,iW⟩
 ·exact⟨_,rfl,jR,F.type_dict_get,F.plainAttrs_dict⟩
 ·exact⟨_,rfl,mB,F.type_list_count,iW⟩
 ·exact⟨_,rfl,mD,F.type_list_index,iW⟩
def EJ(s:ai)(J:Bm)(v:af):Prop:=s.TypeIs v (DT J)/\∀ a,v= .ref a->∃ o,s.heap.get? a=some o/\o.dict=none
theorem QB{J:Bm}{a:ag}{o:aL}(ho:s.heap.get? a=some o)(hc:o.cls= .type (DT J))(U:o.dict=none):EJ s J (.ref a):=⟨⟨o,ho,hc⟩,λb e=>by cases e;exact⟨o,ho,U⟩⟩
theorem Al.xB{J:Bm}{x:V}{v:af}(I:Inv C σ s)(hv:sg s.heap C x v){f:bi->M α}{P:α->Ob->Prop}(k:EJ s J v->Al (f () σ) P):Al (M.bind (xB J x) f σ) P:=
 sg.casesOn (motive_1:=λx v y=>(EJ s J v->Al (f () σ) P)->Al (M.bind (Internal.xB J x) f σ) P) hv (λy=>ah) (λy=>ah) (λy=>ah) (λy y=>ah) (λy y y y=>ah) (λy y y y=>ah) (λy y y y=>ah) (λy y y y y=>ah) (λy y y y=>ah)
  (λhp k=>Al.bind (m:=Internal.xB J (.ref _)) (Al.obj (f:=λU=>M.guard (DH J U) (M.pure ())) I hp λo y r=>tm.casesOn (motive:=λp o y=>(EJ s J (.ref p.1)->Al (f () σ) P)->Al (M.guard (DH J o) (M.pure ()) σ) λa σ'=>Al (f a σ') P) r
   (λl y k=> .guard λh=>k (by cases J<;>first|exact l.elim λn e=>QB e rfl rfl|exact vJ h))
   (λy D k=> .guard λh=>k (by
    have z:∃ o,s.heap.get? _=some o/\o.ExactDict:=DictAt.casesOn (motive:=λy y y=>∃ o,s.heap.get? _=some o/\o.ExactDict) D (λD=>uv D λo y y r=>⟨o,r.1,r.2.1⟩) λD y=>uv D λo y y r=>⟨o,r.1,r.2.1⟩;cases J<;>first|exact z.elim λo r=>QB r.1 r.2.1 r.2.2.1|exact vJ h))
   (λy y y y y y y y=>ah) k)) k
theorem Oz{J:Bm}{o:au}{mo:ME}{x:am}{apos pos:aK}{es:O au}{sU:O ME}(hb:xT o)(hx:x=aJ (J4 J))(U:(apos.endLine==pos.line)=true)(hs:∀ e∈es,s9 e)(hl:es.length<20)
  (ho:sA d F sc o mo) (h:tj (sA d F sc) es sU):sA d F sc (.Call (.Attribute o x apos) es [] pos) (.uh J mo sU):=λ{A C σ s env l} H=>(M6 J).elim λnm sd=>have e:=sd.1;have sl:=sd.2.1;have ty:=sd.2.2.1;have pa:=sd.2.2.2;by
 subst e;subst hx
 refine((ho H).split (f:=λx=>M.bind (xB J x) λy=>M.bind (sR F sU l) λvs=>w9 J x vs) λx v C' σ' s' N hv=>Al.xB N.I hv λz=>Al.imp (r0.after N (r0.callWith (pos:=pos) (first:=[v]) (f:= .builtin (FD J)) (R:=RV) hs h (H.next N) (λC' s' y=>um rfl) (k:=λvs=>w9 J x vs)
  λxs vs C' σ' s' H S hvs y=>Qk H.pl (hv.step S) hvs)) λy y w=>(⟨z.1,z.2,w⟩:_/\_/\_)).imp λy y z=>wpAny_Call_method (T:=DT J) (id:=FD J) (hb _ _ _) ?_ U pa sl ty z
 simp only[ef,fy];refine⟨⟨(CT (env:=env) (pos:=pos) hs).elim λf e=> ?_,rfl⟩,by simp;exact bw hl (by decide)⟩
 rw[e,fz,bh];exact λy y=>rfl
end
section
variable{d:aa}{A:az}{X:O ag}{C:Cx}{σ:Ob}{s:ai}{α β γ:Type}{sc:Sc}{F:Fn}{h:aq}
noncomputable def Cx.with(C:Cx)(N:O ag):Cx:=⟨C.mu,N++C.sj⟩
theorem yw{N:O ag}{a:ag}:a∈(C.with N).res<->a∈N\/a∈C.res:=by
 unfold Cx.with Cx.res
 rw[aG,aG,aG];exact or_left_comm
theorem w6{N:O ag}{h h':aq}(hk:∀ {a o},h.get? a=some o->h'.get? a=some o)(hN:∀ {a},a∈N->h.get? a=none):uj h C h' (C.with N):=⟨λz=>hk,λa ha=>(yw.mp ha).elim (λx=> .inr (hN x)) .inl,λe=>e⟩
theorem Inv.enter{N:O ag}{s':ai}(I:Inv C σ s)(hk:∀ {a o},s.heap.get? a=some o->s'.heap.get? a=some o)(hN:∀ {a},a∈N->(s.heap.get? a=none/\G.h0.objs.size<=a)/\∃ o,s'.heap.get? a=some o)(hos:s'.os=s.os:=by rfl)(hg:s'.gens=s.gens:=by rfl):Inv (C.with N) σ s':=
 {I with
  uG:=λe=>hk (I.uG e)
  os:=hos.trans I.os
  gens:=hg.trans I.gens
  wE:=λha=>(aG.mp ha).elim (λha ho=>(I.there (vF ho)).elim λz e=>nomatch (hN ha).1.1.symm.trans e) I.wE
  above:=λha=>(yw.mp ha).elim (λha=>(hN ha).1.2) I.above
  there:=λha=>(yw.mp ha).elim (λha=>(hN ha).2) λha=>(I.there ha).imp λz=>hk
  rep:=λh1 h2=>(I.rep h1 h2).keep (w6 hk λha=>(hN ha).1.1) λz=>hk}
noncomputable def Cx.back(C C':Cx):Cx:=⟨C'.mu,C.sj⟩
theorem CU{N:O ag}{C':Cx}(hp:C'.sj=N++C.sj){a:ag}(ha:a∈(C.back C').res):a∈C'.res:=(aG.mp ha).elim (λh=>vF (C:=C') h) λha=>th (hp▸aG.mpr (.inr ha))
theorem FE{N:O ag}{C':Cx}(hp:C'.sj=N++C.sj):uj h C' h (C.back C'):=⟨λz e=>e,λz ha=> .inl (CU hp ha),λe=>e⟩
theorem Inv.back{N:O ag}{C':Cx}(I:Inv C' σ s)(hp:C'.sj=N++C.sj):Inv (C.back C') σ s:=
 {I with
  wE:=λha=>I.wE (hp▸aG.mpr (.inr ha))
  above:=λha=>I.above (CU hp ha)
  there:=λha=>I.there (CU hp ha)
  rep:=λh1 h2=>(I.rep h1 h2).keep (FE hp) λz e=>e}
theorem Ext.left{N Y:O ag}{C':Cx}{h h1 h2:aq}(I:∀ {a},a∈C.sj->∃ o,h.get? a=some o)(hk:∀ {a o},h.get? a=some o->h1.get? a=some o)(hN:∀ {a},a∈N->h.get? a=none)(J:∀ {a},a∈Y->a∈N\/a∈X)(E:Ext Y (C.with N) C' h1 h2):Ext X C (C.back C') h h2:=
 have live:∀ {a o},h.get? a=some o->a∉N:=λe hn=>nomatch (hN hn).symm.trans e
 have off:∀ {a},a∈C.sj->a∉X->a∉Y:=λha hx hy=>(J hy).elim (λhn=>(I ha).elim λy e=>live e hn) hx
 {sj:=rfl
  mu:=E.mu.imp λy e=>⟨e.1,λa ha=>by
   cases U:h.get? a with
   |none=>rfl
   |some o=>exact nomatch (e.2 a ha).symm.trans (hk U)⟩
  keep:=λn e=>E.keep (λz=>(yw.mp z).elim (live e) n) (hk e)
  ns:=λha hx z=>E.ns (aG.mpr (.inr ha)) (off ha hx) (yg z λy y y=>aT hk)
  obj:=λha hx nd e=>E.obj (aG.mpr (.inr ha)) (off ha hx) nd (hk e)
  live:=λe=>E.live (hk e)}
theorem B9{l:Loc}{k j:aa}{V:V}(hk:k<l.length):(l.put k V).get j=if j=k then some V else l.get j:=by
 unfold Loc.put Loc.get
 by_cases h:j=k
 ·cases h;rw[du hk,aN rfl]
 ·rw[ew (bz h),aI h]
abbrev RL(env:aD)(sc:Sc):aq->Cx->Loc->bi->Prop:=λh C l z=>tE h C env sc l
def Sc.takes(sc:Sc)(x:am)(k:aa):Prop:=sc.slots.lookup x=some k/\(sc.kind x=some .local\/sc.kind x=some .cell/\x∈sc.own)
theorem BP{c:ag}{u:ax af}{m:am->ax af}(a:h.IsCell c u)(b:h.Ns c m):bM:=a.elim λz a=>uv b λz z z b=>nomatch a.2.symm.trans ((av gh (aE (a.1.symm.trans b.1))).trans b.2.1)
theorem WW{env:aD}{l:Loc}(R:tE h C env sc l){a:ag}(ha:a∈r7 env sc):a∈C.sj:=(aW.mp ha).elim (λe=>e▸R.sj) λha=>(eo.mp ha).elim λx hx=>(R.Gk hx.1).elim λk r=>match R.cells r.1 r.2 with
 | .mk e p _ _=>aE (e.symm.trans hx.2)▸p
theorem M7{h':aq}{env:aD}{l:Loc}(R:tE h C env sc l){a:ag}(ha:a∈r7 env sc)(hk:∀ {b o},b≠a->h.get? b=some o->h'.get? b=some o)(J:∃ o,h'.get? a=some o):Ext (r7 env sc) C C h h' where
 sj:=rfl
 mu:=⟨[],(bY _).symm,λy x=>aC x ba⟩
 keep:=λn=>hk λz=>n (z▸th (WW R ha))
 ns:=λy hx z=>yg z λy y y=>aT (hk λz=>hx (z▸ha))
 obj:=λy hx y=>hk λz=>hx (z▸ha)
 live:=λ{b o} e=>cZ (λz:b=a=>z▸J) λz=>⟨o,hk z e⟩
theorem AT.move{h':aq}{env:aD}{l l':Loc}{x:am}{k:aa}(z:AT h C env l x k)(S:uj h C h' C)(hk:∀ c u,env.cells.lookup x=some c->h.IsCell c u->h'.IsCell c u)(e:l'.get k=l.get k):AT h' C env l' x k:=match z with
 | .mk h1 h2 h3 J=> .mk h1 h2 (hk _ _ h1 h3) (e▸ww.step J S)
theorem Im{env:aD}{l:Loc}{x:am}{k:aa}{V:V}{v:af}(H:Here d A sc env l C σ s)(hx:sc.takes x k)(hv:sg s.heap C V v):r0 A (r7 env sc) C σ s (yW l k V) (bindName env x v) (RL env sc):= .guard λJ=>by
 have J:=aP J;have R:=H.env;have U:env.kindOf x=sc.kind x:=by unfold dA Sc.kind;rw[R.scope]
 have self:(l.put k V).get k=some V:=(B9 J).trans (aN rfl);have other:∀ {y j},sc.slots.lookup y=some j->y≠x->(l.put k V).get j=l.get j:=λh1 n=>(B9 J).trans (aI λz=>n (R.B5 (z▸h1) hx.1));have slot:∀ {j},sc.slots.lookup x=some j->j=k:=λh1=>aE (h1.symm.trans hx.1);refine R.locs.elim λm sd=>sd.elim λhm hv0=>wpAny_bindName (hx.2.elim (λhl=> ?_) λsd=>have hc:=sd.1;have hown:=sd.2; ?_)
 ·refine mT (U.trans hl) hm (λh' hm' S=> ?_) (by rw[R.kind];rfl)
  have E:Ext (r7 env sc) C C s.heap h':=M7 R (.head _) (λn e=>(S.2 _ n).trans e) (uv hm' λo w w r=>⟨o,r.1⟩)
  refine .mk ⟨E,H.I.EH rfl rfl (λ{a o} n e=>(S.2 a λz=>n (z▸R.sj)).trans e) E.live⟩ {R with
   locs:=⟨_,hm',λ{y j} h1 h2=> ?_⟩
   cells:=λ{y j} h1 h2=>(R.cells h1 h2).move E.stp (λc u w z=>z.imp λw r=>⟨(S.2 c λe=>BP z (e▸hm)).trans r.1,r.2⟩) (other h1 λe=> ?_)}
  ·by_cases hy:y=x
   ·cases hy
    rw[slot h1,self,aN rfl];exact λW e=>⟨v,rfl,aE e▸hv.step E.stp⟩
   ·rw[other h1 hy,aI hy]
    exact ww.step (hv0 h1 h2) E.stp
  ·cases e
   exact h2.elim (λh2=>nomatch hl.symm.trans h2) λh2=>nomatch hl.symm.trans h2
 ·refine AT.casesOn (motive:=λw=>ak _ _ _ _ _ _) (R.cells hx.1 (.inl hc)) λ{c u} h4 h5 h6 h7=> ?_
  refine wpAny_storeName_cell R.kind (U.trans hc) h4 h6 λh' hc' S=> ?_;have E:Ext (r7 env sc) C C s.heap h':=M7 R (.tail _ (eo.mpr ⟨x,hown,h4⟩)) (λn e=>(S.2 _ n).trans e) (hc'.imp λw=>cP)
  refine .mk ⟨E,H.I.EH rfl rfl (λ{a o} n e=>(S.2 a λz=>n (z▸h5)).trans e) E.live⟩ {R with
   locs:=⟨m,yg hm λw w w=>aT (S.2 _ λz=>BP h6 (z▸hm)).trans,λ{y j} h1 h2=> ?_⟩
   cells:=λ{y j} h1 h2=> ?_}
  ·rw[other h1 λe=>by cases e;exact nomatch hc.symm.trans h2]
   exact ww.step (hv0 h1 h2) E.stp
  ·by_cases hy:y=x
   ·cases hy
    rw[slot h1];exact .mk h4 h5 hc' λW e=>⟨v,rfl,aE (self.symm.trans e)▸hv.step E.stp⟩
   ·exact(R.cells h1 h2).move E.stp (λc' u' e z=>z.imp λw r=>⟨(S.2 c' λe'=>hy (R.inj (e'▸e) h4)).trans r.1,r.2⟩) (other h1 hy)
theorem QC{env:aD}{l l':Loc}{C':Cx}{h':aq}(H:tE h C env sc l)(R:tE h' C' env sc l')(L:ag)(m:am->ax af)(J:L∈r7 env sc)(hm:h.Ns L m):∃ m',h'.Ns L m':=
 (aW.mp J).elim (λe=>R.locs.imp λz r=>e▸r.1) λJ=>(eo.mp J).elim λx hx=>(H.Gk hx.1).elim λk r=>match H.cells r.1 r.2 with
  | .mk e _ i _=>(BP (aE (e.symm.trans hx.2)▸i) hm).elim
theorem Here.stored{env:aD}{l l':Loc}{C':Cx}{σ':Ob}{s':ai}(H:Here d A sc env l C σ s)(N:Nx (r7 env sc) C s C' σ' s')(R:tE s'.heap C' env sc l'):Here d A sc env l' C' σ' s':=
 ⟨⟨H.A,N.I,R.locs.elim λm r=>⟨_,m,R.sj,r.1⟩,H.pl.frs.ext N.E (QC H.env R)⟩,R⟩
def x9(d:aa)(F:Fn)(sc:Sc)(t:au)(mt:MT):Prop:=
 ∀ {A:az} {C:Cx} {σ:Ob} {s:ai} {env:aD} {l:Loc} {V:V} {v:af},Here d A sc env l C σ s->sg s.heap C V v->r0 A (r7 env sc) C σ s (sO F mt l V) (assign t env v) (RL env sc)
theorem Io{x:am}{k:aa}{pos:aK}(hx:sc.takes x k):x9 d F sc (.Name x pos) (.var k):=λH hv=> .standAt (Im H hx hv)
theorem QD{a:au}{J:ME}{n:aa}{x:am}{pos:aK}(K:Classes)(hx:attrName n=some x)(ha:sA d F sc a J):x9 d F sc (.Attribute a x pos) (.attr J n):=λ{A C σ s env l V v} H hv=>
 r0.le (X:=[]) ((ha H).holding.tD (f:=λo=>M.bind (uY o n V) λz=>M.pure l) H λo u C' σ' s' H S U=> .standAt ((Mk K H.pl hx U (hv.step S)).holding.tD H λz z C' σ' s' H z z=> .ok (CR (sJ H.I H.env)))) λz h=>nomatch h
theorem QE{a i:au}{J mi:ME}{pos:aK}(ha:sA d F sc a J)(hi:sA d F sc i mi):x9 d F sc (.Subscript a i pos) (.item J mi):=λ{A C σ s env l V v} H hv=>
 r0.le (X:=[]) ((ha H).holding.tD (f:=λo=>M.bind (rZ F mi l) λx=>M.bind (uL o x V) λz=>M.pure l) H λo u C' σ' s' H S hu=>(hi H).holding.tD (f:=λx=>M.bind (uL o x V) λz=>M.pure l) H λj y C' σ' s' H U hy=>
  .standAt ((Mf H.pl (hu.step U) hy ((hv.step S).step U)).holding.tD H λz z C' σ' s' H z z=> .ok (CR (sJ H.I H.env)))) λz h=>nomatch h
def Ca(t:au):Prop:=∀ ts env,assignEach (t::ts) env=(false,assign t env)::assignEach ts env
theorem FF{es:O au}{env:aD}(h:∀ t∈es,Ca t):assignEach es env=es.map λe=>(false,assign e env):=by
 induction es with
 |nil=>rfl
 |cons e es J=>rw[h e (.head _),J λe he=>h e (.tail _ he)];rfl
theorem QF{ts:O au}{J:O MT}(h:tj (x9 d F sc) ts J):∀ {A:az} {C:Cx} {σ:Ob} {s:ai} {env:aD} {l:Loc} {xs:O V} {vs:O af},Here d A sc env l C σ s->su s.heap C xs vs->xs.length=J.length->
  r0 A (r7 env sc) C σ s (tY F J l xs) (assignInOrder (ts.map λt=>assign t env) vs) (RL env sc):=by
 induction h with
 |nil=>
  intro A C σ s env l xs vs H hv U;have uI:=dY U;subst uI;exact hv.out (P:=λvs=>r0 A (r7 env sc) C σ s (M.guard true (M.pure l)) (assignInOrder [] vs) (RL env sc)) (.pure H.I H.env)
 | @cons t mt ts J h1 h2 ih=>
  intro A C σ s env l xs vs H hv U;cases xs with
  |nil=>cases U
  |cons x xs=>
   exact hv.out (P:=λvs=>r0 A (r7 env sc) C σ s (tY F (mt::J) l (x::xs)) (assignInOrder (assign t env::ts.map λt=>assign t env) vs) (RL env sc)) λv vs e1 e2=>
    r0.bind (m:=sO F mt l x) (f:=λl'=>tY F J l' xs) (h1 H e1).holding λl' z C' σ' s' N hR=>ih (H.stored N hR) (e2.step N.S) (dh U)
theorem TV{ts:O au}{U:O MT}{k:aa}{pos:aK}(hs:∀ t∈ts,Ca t)(h:tj (x9 d F sc) ts U):x9 d F sc (.Tuple ts k pos) (.tup U):=λ{A C σ s env l V v} H hv=>
 .standAt (sg.casesOn (motive_1:=λV v y=>r0 A (r7 env sc) C σ s (M.bind (tI V) λvs=>M.guard (U.length==vs.length) (tY F U l vs)) (unpack v (assignEach ts env)) (RL env sc)) hv ah ah ah (λy=>ah)
  (λ{xs a its} n1 t1 J=> .guard λhlen=>by
   have hlen:=eq_of_beq hlen;unfold unpack
   rw[FF hs,show(ts.map λe=>(false,assign e env)).length=its.size by rw[aH,h.length,hlen,J.length,bQ],
    show(ts.map λe=>((false,assign e env):aj×(af->aM bi))).findIdx? (·.1)=none from O.findIdx?_eq_none_iff.mpr λq hq=>(bG.mp hq).elim λy z=>z.2▸rfl]
   refine Al.imp (P:=λa σ'=>∀ h':aq,(∀ b o,s.heap.get? b=some o->h'.get? b=some o)->ak sB A (assignInOrder (ts.map λt=>assign t env) its.toList) (sY (r7 env sc) C s (RL env sc) a σ') tg {s with heap:=h'}) ?_ λa σ' z=>ao (bd (mU H.A.handled t1 λh' hx=> ?_))
   ·refine Al.all λh'=>Al.all λhk=> ?_
    have N:Nx [] C s C σ {s with heap:=h'}:= .grow H.I (hk _ _)
    exact(QF h (H.next N) (J.step N.S) hlen.symm).after ⟨N.E.mono λy h=>(nomatch h),N.I⟩
   ·rw[bR];exact z h' λb o e=>hx _ _ (bu (aY e)) e)
  (λy y y=>ah) (λy y y=>ah) (λy y y y=>ah) (λy y y=>ah) λy=>ah)
end
end
section
def xi(own:O ag)(h h':aq):Prop:=∀ b o,b∉own->h.get? b=some o->h'.get? b=some o
def xG(o:aL):Prop:=∀ es n,o.data≠ .dict es n
structure Src(A:az)(target:au)(it:af)(own:O ag)(xs:O V)(St:aa->aq->Cx->Prop)(Su:aa->af->aq->Cx->Prop):Prop where
 alive:∀ {i h C},St i h C->∀ a∈own,∃ o,h.get? a=some o/\xG o
 Cb:∀ {i v h C},Su i v h C->∀ a∈own,∃ o,h.get? a=some o/\xG o
 keep:∀ {i h C h' C'},St i h C->uj h C h' C'->(∀ a∈own,∀ o,h.get? a=some o->h'.get? a=some o)->St i h' C'
 next:∀ {i:aa} {x:V} {s:ai} {C:Cx} {Q:ax af->ai->Prop} {E:VS},xs[i]?=some x->St i s.heap C->(∀ {a},a∈C.res->∃ o,s.heap.get? a=some o)->(∀ a∈own,a∈C.sj)->
  (∀ v h' tk,sg h' C x v->Su (i+1) v h' C->xi own s.heap h'->Q (some v) {s with heap:=h',toks:=tk})->ak sB A (pyNext it) Q E s
 done:∀ {s:ai} {C:Cx} {Q:ax af->ai->Prop} {E:VS},St xs.length s.heap C->(∀ a∈own,a∈C.sj)->(∀ h' tk,xi own s.heap h'->Q none {s with heap:=h',toks:=tk})->ak sB A (pyNext it) Q E s
 self:∀ {i:aa} {s:ai} {C:Cx} {Q:VS} {E:VS},St i s.heap C->Q it s->ak sB A (pyIter it) Q E s
 go:∀ {i:aa} {x:V} {v:af} {s:ai} {C:Cx} {Q:bi->ai->Prop} {E:VS},xs[i]?=some x->Su (i+1) v s.heap C->sg s.heap C x v->(∀ a∈own,a∈C.sj)->
  (∀ h',St (i+1) h' C->xi own s.heap h'->Q () {s with heap:=h'})->ak sB A (letOwnedTupleGo target it v) Q E s
inductive DV(A:az)(target:au)(C:Cx)(s:ai)(xs:O V)(it:af)(s':ai):Prop
 |mk {own:O ag} {St:aa->aq->Cx->Prop} {Su:aa->af->aq->Cx->Prop} (K:Src A target it own xs St Su) (h0:St 0 s'.heap (C.with own)) (hk:∀ {a o},s.heap.get? a=some o->s'.heap.get? a=some o) (hN:∀ {a},a∈own->s.heap.get? a=none/\G.h0.objs.size<=a) (hos:s'.os=s.os) (hg:s'.gens=s.gens)
section
variable{d:aa}{A:az}{X:O ag}{C:Cx}{σ:Ob}{s:ai}{α β γ:Type}{sc:Sc}{F:Fn}{target:au}{I l:ag}{xs:O V}
noncomputable abbrev M8:O bc:=["enumerate","zip","dict_itemiterator","dict_reverseitemiterator","odict_iterator","itertools.zip_longest","itertools.pairwise"]
theorem TX{o:aL}{T:bc}{v:af}{Q:bi->ai->Prop}{E:VS}(ho:s.heap.get? I=some o)(hc:o.cls= .type T)(J:M8.contains T=false)(h:Q () s):ak sB A (letOwnedTupleGo target (.ref I) v) Q E s:=by
 have body:ak sB A (do
   let (.ref r, .ref a):=(a7 I,v)|return
   let o<-load r
   match o.cls,o.data with
   | .type n, .fields vs=>
    if["enumerate","zip","dict_itemiterator","dict_reverseitemiterator","odict_iterator","itertools.zip_longest","itertools.pairwise"].contains n&&vs[0]?==some (rawInt a) then
     rule "for.unpacks-the-owned-tuple"
     updateField r 0 .none
   |_,_=>pure ()) Q E s:=by
  cases v with
  |ref a=>
   refine sf (λz=>(bO.ld ho).here) ?_;rw[hc];cases o.data with
   |fields vs=>dsimp only;rw[show["enumerate","zip","dict_itemiterator","dict_reverseitemiterator","odict_iterator","itertools.zip_longest","itertools.pairwise"].contains T=false from J];exact ay h
   |_=>exact ay h
  |_=>exact ay h
 cases target<;>first|exact body|exact ay h
theorem TY{h h':aq}(hI:I∈C.sj)(hk:xi [I] h h'):uj h C h' C:=⟨λn=>hk _ _ λz=>n (aR.mp z▸th hI),λy h=> .inl h,λe=>e⟩
theorem xH{h h':aq}(S:b9 I h h'):xi [I] h h':=λb o J e=>(S.2 b λz=>J (z▸ .head _)).trans e
theorem Hs{h h':aq}(S:iX I h h'):xi [I] h h':=λb o J=>S b o λz=>J (z▸ .head _)
theorem Src.simple{T:bc}{St:aa->aq->Cx->Prop}(hT:M8.contains T=false)(U:∀ {i h C},St i h C->∃ o,h.get? I=some o/\o.cls= .type T/\xG o)
  (keep:∀ {i h C h' C'},St i h C->uj h C h' C'->(∀ o,h.get? I=some o->h'.get? I=some o)->St i h' C')
  (next:∀ {i:aa} {x:V} {s:ai} {C:Cx} {Q:ax af->ai->Prop} {E:VS},xs[i]?=some x->St i s.heap C->(∀ {h'},xi [I] s.heap h'->uj s.heap C h' C)->(∀ v h' tk,sg h' C x v->St (i+1) h' C->xi [I] s.heap h'->Q (some v) {s with heap:=h',toks:=tk})->ak sB A (pyNext (.ref I)) Q E s)
  (done:∀ {s:ai} {C:Cx} {Q:ax af->ai->Prop} {E:VS},St xs.length s.heap C->(∀ h' tk,xi [I] s.heap h'->Q none {s with heap:=h',toks:=tk})->ak sB A (pyNext (.ref I)) Q E s)
  (self:∀ {i:aa} {s:ai} {C:Cx} {Q:VS} {E:VS},St i s.heap C->Q (.ref I) s->ak sB A (pyIter (.ref I)) Q E s):Src A target (.ref I) [I] xs St (λi z=>St i) where
 alive:=λst a ha=>aR.mp ha▸(U st).imp λz=>fT id mV
 Cb:=λst a ha=>aR.mp ha▸(U st).imp λz=>fT id mV
 keep:=λst S hk=>keep st S (hk I (.head _))
 next:=λhx st z hown J=>next hx st (TY (hown I (.head _))) J
 done:=λst z J=>done st J
 self:=self
 go:=λz st z z J=>(U st).elim λz r=>TX r.1 r.2.1 hT (J _ st λz z z e=>e)
theorem J5{vs:O af}{its:aB af}{h:aq}(e:su h C xs its.toList):its[xs.length]?=none:=by rw[<-bL,d9];exact bF e.length.symm
theorem src_list{its:aB af}(hh:A.handled=none):Src A target (.ref I) [I] xs (λi h C=>h.IsListIter I l i/\(h.IsList l its/\l∉C.res)/\su h C xs its.toList) (λi y h C=>h.IsListIter I l i/\(h.IsList l its/\l∉C.res)/\su h C xs its.toList):=
 .simple (T:="list_iterator") rfl (λst=>st.1.imp λo r=>⟨r.1,r.2.1,λy y z=>nomatch r.2.2.symm.trans z⟩) (λst S hk=>⟨st.1.imp λy r=>⟨hk _ r.1,r.2⟩,wv S st.2.1.2 st.2.1.1,st.2.2.step S⟩)
  (λ{i x s C Q E} hx st hS J=>(st.2.2.get i x hx).elim λv h5=>mW st.1 st.2.1.1 (by rw[<-bL];exact h5.1) λh' U S=>have S':=hS (xH S);J v h' _ (h5.2.step S') ⟨U,wv S' st.2.1.2 st.2.1.1,st.2.2.step S'⟩ (xH S))
  (λst J=>mX hh st.1 st.2.1.1 (J5 (vs:=[]) st.2.2) λh' he=>J h' _ (Hs he)) (λst=>wpAny_pyIter_listiter st.1)
theorem src_tuple{its:aB af}(hh:A.handled=none):Src A target (.ref I) [I] xs (λi h C=>h.IsTupleIter I l i/\(bW h l its/\l∉C.res)/\su h C xs its.toList) (λi y h C=>h.IsTupleIter I l i/\(bW h l its/\l∉C.res)/\su h C xs its.toList):=
 .simple (T:="tuple_iterator") rfl (λst=>st.1.imp λo r=>⟨r.1,r.2.1,λy y z=>nomatch r.2.2.symm.trans z⟩) (λst S hk=>⟨st.1.imp λy r=>⟨hk _ r.1,r.2⟩,wv S st.2.1.2 st.2.1.1,st.2.2.step S⟩)
  (λ{i x s C Q E} hx st hS J=>(st.2.2.get i x hx).elim λv h5=>wpAny_pyNext_tuple_item st.1 st.2.1.1 (by rw[<-bL];exact h5.1) λh' U S=>have S':=hS (xH S);J v h' _ (h5.2.step S') ⟨U,wv S' st.2.1.2 st.2.1.1,st.2.2.step S'⟩ (xH S))
  (λst J=>wpAny_pyNext_tuple_end hh st.1 st.2.1.1 (J5 (vs:=[]) st.2.2) λh' he=>J h' _ (Hs he)) (λst=>wpAny_pyIter_tupleiter st.1)
theorem Dq{n:aa}:∀ {lo:ae} {i:aa} {x:V},(tw lo n)[i]?=some x->x= .int (lo+(i:ae))/\i<n:=by
 induction n with
 |zero=>exact λh=>(by cases h)
 |succ n J=>
  intro lo i x h;cases i with
  |zero=>exact⟨(aE h).symm.trans (av V.int (jP lo).symm),eU n⟩
  |succ i=>exact(J (lo:=lo+1) (i:=i) h).imp (λe=>e.trans (av V.int (by rw[iL,iM 1];rfl))) gi
theorem I8(n:aa):∀ lo:ae,(tw lo n).length=n:=jG (λz=>rfl) (λz J lo=>av (·+1) (J (lo+1))) n
theorem src_range{lo:ae}{n:aa}(hh:A.handled=none):Src A target (.ref I) [I] (tw lo n) (λi h C=>f9 h I (lo+(i:ae)) ((n:ae) - (i:ae)) 1) (λi y h C=>f9 h I (lo+(i:ae)) ((n:ae) - (i:ae)) 1):=
 .simple (T:="range_iterator") rfl (λst=>⟨_,st,rfl,λy y z=>(by cases z)⟩) (λst y hk=>hk _ st)
  (λ{i x s C Q E} hx st hS U=>by
   cases (Dq hx).1;refine wpAny_pyNext_range_item st (ae.sub_pos_of_lt (dz.mpr (Dq hx).2)) λh' J S=>U _ h' _ .int ?_ (xH S);rw[iL,l6] at J
   exact J)
  (λst U=>wpAny_pyNext_range_end hh (I8 n lo▸st) (ae.sub_self _▸jT _) λh' he=>U h' _ (Hs he)) (λst=>wpAny_pyIter_rangeiter st)
theorem At.above(P:At d A C σ s):G.h0.objs.size<=s.heap.objs.size:=P.fr.elim λL z=>z.elim λm z=>aw (P.I.above (th z.1)) (bB z.2.lt)
theorem vB{h:aq}{o:aL}{a:ag}{q:aL}(e:h.get? a=some q):(h.push o).get? a=some q:=aS _ e
theorem w7(h:aq):h.get? h.objs.size=none:=by
 cases e:h.get? h.objs.size with
 |none=>rfl
 |some o=>exact aC (aY e) (bT _)
theorem TZ{h:aq}{a:ag}{o:aL}(e:h.get? a=some o):a≠h.objs.size:=bu (aY e)
def QG(A:az)(target:au)(C:Cx)(s:ai)(v:af)(xs:O V):Prop:=∀ {Q:VS} {E:VS},(∀ it s',DV A target C s xs it s'->Q it s')->ak sB A (pyIter v) Q E s
theorem Al.iter{V:V}{v:af}(P:At d A C σ s)(hv:sg s.heap C V v){P':O Internal.V->Ob->Prop}(k:∀ xs,QG A target C s v xs->P' xs σ):Al (zE V σ) P':=
 have hN:∀ {a},a∈[s.heap.objs.size]->s.heap.get? a=none/\G.h0.objs.size<=a:=λha=>aR.mp ha▸⟨w7 _,P.above⟩;have St:∀ {o},uj s.heap C (s.heap.push o) (C.with [s.heap.objs.size]):=w6 vB λha=>(hN ha).1
 have on:∀ {l:ag} {o:aL},s.heap.get? l=some o->l∉C.res->l∉(C.with [s.heap.objs.size]).res:=λe n z=>(yw.mp z).elim (λz=>TZ e (aR.mp z)) n
 sg.casesOn (motive_1:=λV v y=>(∀ xs,QG A target C s v xs->P' xs σ)->Al (zE V σ) P') hv (λy=>ah) (λy=>ah) (λy=>ah) (λy y=>ah)
  (λ{xs l its} n1 J h1 k=>k xs λU=>iY J (U _ _ (.mk (src_tuple (its:=its) P.A.handled) ⟨⟨_,a8 _ rfl,rfl,rfl⟩,⟨(wv St n1 J).1,J.elim λy r=>on r.1 n1⟩,h1.step St⟩ vB hN rfl rfl)))
  (λ{xs l its} n1 J h1 k=>k xs λU=>j7 J.isList (U _ _ (.mk (src_list (its:=its) P.A.handled) ⟨⟨_,a8 _ rfl,rfl,rfl⟩,⟨(wv St n1 J.isList).1,J.elim λy r=>on r n1⟩,h1.step St⟩ vB hN rfl rfl)))
  (λy y y y=>ah) (λy y y y y=>ah)
  (λ{lo hi a t u x} n1 h1 h2 k=>k _ λU=>mn h1 h2 (U _ _ (.mk (src_range (lo:=lo) (n:=(hi - lo).toNat) P.A.handled) (by show f9 _ _ _ _ _;rw[BN];simpa using a8 _ rfl) vB hN rfl rfl)))
  (λy y=>ah) k
end
end
section
inductive RX(env:aD)(sc:Sc)(h:aq)(C:Cx):XR->cG->Prop
 |next {l:Loc} (R:tE h C env sc l):RX env sc h C (.next l) .next
 |brk {l:Loc} (R:tE h C env sc l):RX env sc h C (.brk l) .brk
 |cont {l:Loc} (R:tE h C env sc l):RX env sc h C (.cont l) .cont
 |ret {W:V} {v:af} (R:sg h C W v):RX env sc h C (.ret W) (.ret v)
def wG(d:aa)(F:Fn)(sc:Sc)(st:aF)(J:MS):Prop:=
 ∀ {A:az} {C:Cx} {σ:Ob} {s:ai} {env:aD} {l:Loc},Here d A sc env l C σ s->r0 A (r7 env sc) C σ s (xu F J l) (exec st env) (RX env sc)
def xw(d:aa)(F:Fn)(sc:Sc)(J:O aF)(U:O MS):Prop:=
 ∀ {A:az} {C:Cx} {σ:Ob} {s:ai} {env:aD} {l:Loc},Here d A sc env l C σ s->r0 A (r7 env sc) C σ s (r8 F U l) (execs J env) (RX env sc)
theorem run_bind{α β:Type}{m:M α}{f:α->M β}{σ:Ob}{q:β×Ob}(e:M.bind m f σ=some q):∃ a J,m σ=some (a,J)/\f a J=some q:=by
 unfold M.bind at e
 cases h:m σ with
 |none=>rw[h] at e;cases e
 |some p=>rw[h] at e;exact⟨p.1,p.2,rfl,e⟩
theorem Al.intro{α:Type}{o:ax (α×Ob)}{P:α->Ob->Prop}(h:∀ a σ,o=some (a,σ)->P a σ):Al o P:=match o,h with
 |some _,h=>h _ _ rfl
 |none,_=>ah
section
variable{d:aa}{A:az}{X Y:O ag}{C C':Cx}{σ:Ob}{s:ai}{α β γ:Type}{sc:Sc}{F:Fn}{env:aD}{l:Loc}{h h':aq}{own:O ag}
def Used(env:aD)(sc:Sc)(a:ag):Prop:=a=env.locals\/∃ y j,sc.slots.lookup y=some j/\sc.yh y/\env.cells.lookup y=some a
def Off(env:aD)(sc:Sc)(own:O ag):Prop:=∀ {a},Used env sc a->a∉own
theorem yx(R:tE h C env sc l){a:ag}(u:Used env sc a):a∈C.sj:=u.elim (λe=>e▸R.sj) λ⟨y,j,e1,e2,J⟩=>match R.cells e1 e2 with| .mk e p _ _=>aE (e.symm.trans J)▸p
theorem FG(R:tE h C env sc l){a:ag}(ha:a∈r7 env sc):Used env sc a:=(aW.mp ha).imp id λha=>(eo.mp ha).elim λx hx=>(R.Gk hx.1).elim λk r=>⟨x,k,r.1,r.2,hx.2⟩
theorem tE.VL(R:tE h C env sc l)(S:uj h C h' C')(k:∀ {a},Used env sc a->a∈C'.sj/\(∀ {m},h.Ns a m->h'.Ns a m)/\∀ {v},h.IsCell a v->h'.IsCell a v):tE h' C' env sc l:=
 {R with
  sj:=(k (.inl rfl)).1
  locs:=R.locs.imp λm r=>⟨(k (.inl rfl)).2.1 r.1,λh1 h2=>ww.step (r.2 h1 h2) S⟩
  cells:=λ{x j} h1 h2=>match R.cells h1 h2 with| .mk e p i v=>have z:=k (.inr ⟨x,j,h1,h2,e⟩); .mk e z.1 (z.2.2 i) (ww.step v S)}
theorem tE.move(R:tE h C env sc l)(S:uj h C h' C')(k:∀ {a},Used env sc a->a∈C'.sj/\∀ o,h.get? a=some o->h'.get? a=some o):tE h' C' env sc l:=
 R.VL S λu=>have z:=k u;⟨z.1,λx=>yg x λo y y=>aT (z.2 o),λx=>x.imp λo=>aT (z.2 o)⟩
theorem Here.of{s:ai}(a:yG d A)(I:Inv C σ s)(R:tE s.heap C env sc l)(f:uM A C.sj s.heap):Here d A sc env l C σ s:=⟨⟨a,I,R.locs.elim λm r=>⟨_,m,R.sj,r.1⟩,f⟩,R⟩
theorem VM{a:ag}{m:am->ax af}(x:∃ o,h.get? a=some o/\xG o)(y:h.Ns a m):bM:=x.elim λo r=>uv y λo' es n q=>r.2 es n (aE (r.1.symm.trans q.1)▸q.2.1)
theorem Here.ownStep{tk:aa}(H:Here d A sc env l C σ s)(hown:∀ a∈own,a∈C.sj)(off:Off env sc own)(hk:xi own s.heap h')(J:∀ a∈own,∃ o,s.heap.get? a=some o/\xG o)(U:∀ a∈own,∃ o,h'.get? a=some o/\xG o):Here d A sc env l C σ {s with heap:=h',toks:=tk}/\Nx own C s C σ {s with heap:=h',toks:=tk}:=
 have E:Ext own C C s.heap h':=⟨rfl,⟨[],(bY _).symm,λy x=>aC x ba⟩,λn=>hk _ _ λz=>n (th (hown _ z)),λy hx x=>yg x λy y y=>aT (hk _ _ hx),λy hx y=>hk _ _ hx,
  λ{a o} e=>cZ (λz:a∈own=>(U a z).imp λy=>cP) λz=>⟨o,hk a o z e⟩⟩
 have I:Inv C σ {s with heap:=h',toks:=tk}:=H.I.EH rfl rfl (λn=>hk _ _ λz=>n (hown _ z)) E.live
 ⟨.of H.A I (H.env.move E.stp λu=>⟨yx H.env u,λo=>hk _ o (off u)⟩) (H.pl.frs.ext E λL m hL hm=>(VM (J L hL) hm).elim),E,I⟩
theorem Here.enter{s1:ai}(H:Here d A sc env l C σ s)(hk:∀ {a o},s.heap.get? a=some o->s1.heap.get? a=some o)(hN:∀ {a},a∈own->(s.heap.get? a=none/\G.h0.objs.size<=a)/\∃ o,s1.heap.get? a=some o)(hos:s1.os=s.os)(hg:s1.gens=s.gens):Here d A sc env l (C.with own) σ s1:=
 .of H.A (H.I.enter hk hN hos hg) (H.env.move (w6 hk λha=>(hN ha).1.1) λu=>⟨aG.mpr (.inr (yx H.env u)),λz=>hk⟩) (H.pl.frs.grow (λa ha=>aG.mpr (.inr ha)) hk)
theorem Cc(I:Inv C σ s)(hN:∀ {a},a∈own->s.heap.get? a=none){a:ag}(ha:a∈C.sj):a∉own:=λz=>(I.there (th ha)).elim λy e=>nomatch (hN z).symm.trans e
theorem DW(H:Here d A sc env l C σ s)(hN:∀ {a},a∈own->s.heap.get? a=none):Off env sc own:=λu=>Cc H.I hN (yx H.env u)
theorem CV{J:Cx}{U N:O ag}{h2 h3:aq}(h1:∀ {a},a∈U->a∈J.sj)(hN:∀ {a},a∈N->a∈J.sj)(hk:xi N h2 h3):uj h2 J h3 ⟨J.mu,U⟩:=
 ⟨λn=>hk _ _ λz=>n (th (hN z)),λa ha=> .inl ((aG.mp ha).elim (λz=>vF (C:=J) z) λz=>th (h1 z)),λe=>e⟩
theorem Inv.drop{J:Cx}{σ2:Ob}{s2:ai}{FH N:O ag}{h3:aq}{tk:aa}(U:Inv J σ2 s2)(h1:∀ {a},a∈FH->a∈J.sj)(hN:∀ {a},a∈N->a∈J.sj)(hd:∀ {a},a∈FH->a∉N)(hk:xi N s2.heap h3):Inv ⟨J.mu,FH⟩ σ2 {s2 with heap:=h3,toks:=tk}:=
 have hm:∀ {a},a∈owned J.mu->a∉N:=λha z=>U.wE (hN z) ha;have hr:∀ {a},a∈(Cx.mk J.mu FH).res->a∈J.res/\a∉N:=λha=>(aG.mp ha).elim (λz=>⟨vF (C:=J) z,hm z⟩) λz=>⟨th (h1 z),hd z⟩
 {U with
  uG:=λe=>hk _ _ (λz=>U.BL e (th (hN z))) (U.uG e)
  wE:=λha=>U.wE (h1 ha)
  above:=λha=>U.above (hr ha).1
  there:=λha=>(U.there (hr ha).1).imp λo=>hk _ o (hr ha).2
  rep:=λe1 e2=>(U.rep e1 e2).keep (CV h1 hN hk) λha=>hk _ _ (hm (vh e2 ha))}
theorem Bk{J:Cx}{h2 h3:aq}(hp:J.sj=own++C.sj)(hk:xi own h2 h3):uj h2 J h3 (C.back J):=CV (λha=>hp▸aG.mpr (.inr ha)) (λha=>hp▸aG.mpr (.inl ha)) hk
theorem Inv.leave{J:Cx}{σ2:Ob}{s2:ai}{h3:aq}{tk:aa}(U:Inv C σ s)(I2:Inv J σ2 s2)(hp:J.sj=own++C.sj)(hN:∀ {a},a∈own->s.heap.get? a=none)(hk:xi own s2.heap h3):Inv (C.back J) σ2 {s2 with heap:=h3,toks:=tk}:=
 I2.drop (λha=>hp▸aG.mpr (.inr ha)) (λha=>hp▸aG.mpr (.inl ha)) (Cc U hN) hk
theorem tE.leave{J:Cx}{l2:Loc}{h2 h3:aq}(H:Here d A sc env l C σ s)(U:tE h2 J env sc l2)(hp:J.sj=own++C.sj)(hN:∀ {a},a∈own->s.heap.get? a=none)(hk:xi own h2 h3):tE h3 (C.back J) env sc l2:=
 U.move (Bk hp hk) λu=>⟨yx H.env u,λo=>hk _ o (DW H hN u)⟩
theorem Ext.J6{N Y:O ag}{C':Cx}{h h1 h2 h3:aq}(I:∀ {a},a∈C.sj->∃ o,h.get? a=some o)(hk:∀ {a o},h.get? a=some o->h1.get? a=some o)(hN:∀ {a},a∈N->h.get? a=none)(U:∀ {a},a∈Y->a∈N\/a∈X)(E:Ext Y (C.with N) C' h1 h2)
  (J:xi N h2 h3):Ext X C (C.back C') h h3:=
 have z:=Ext.left (X:=X) I hk hN U E;have live:∀ {a o},h.get? a=some o->a∉N:=λe hn=>nomatch (hN hn).symm.trans e
 {sj:=rfl
  mu:=z.mu
  keep:=λn e=>J _ _ (live e) (z.keep n e)
  ns:=λha hx e=>yg (z.ns ha hx e) λo y y=>aT ((I ha).elim λy e'=>J _ o (live e'))
  obj:=λha hx nd e=>J _ _ (live e) (z.obj ha hx nd e)
  live:=λe=>(z.live e).imp λo=>J _ o (live e)}
theorem RX.leave{J:Cx}{h2 h3:aq}{rf:XR}{f:cG}(H:Here d A sc env l C σ s)(hp:J.sj=own++C.sj)(hN:∀ {a},a∈own->s.heap.get? a=none)(hk:xi own h2 h3)(x:RX env sc h2 J rf f):RX env sc h3 (C.back J) rf f:=
 RX.casesOn (motive:=λrf f z=>RX env sc h3 (C.back J) rf f) x (λR=> .next (R.leave H hp hN hk)) (λR=> .brk (R.leave H hp hN hk)) (λR=> .cont (R.leave H hp hN hk)) λR=> .ret (R.step (Bk hp hk))
def FI(d:aa)(F:Fn)(sc:Sc)(target e:au)(mi:MI):Prop:=
 ∀ {A:az} {C:Cx} {σ:Ob} {s:ai} {env:aD} {l:Loc},Here d A sc env l C σ s->Al (wc F mi l σ) λxs σ'=>
  ak sB A (eval e env) (λx s1=>∃ C1 s0,Nx [] C s C1 σ' s0/\∀ {Q:VS} {E:VS},(∀ it s2,DV A target C1 s0 xs it s2->Q it s2)->ak sB A (pyIter x) Q E s1) tg s
theorem YG{target e:au}{me:ME}(he:sA d F sc e me):FI d F sc target e (.e me):=λH=>(he H).split (f:=zE) λV v C' σ' s' N hv=>Al.iter (H.next N).pl hv λxs z=>⟨C',s',N,z⟩
def AH(P:ai->Prop)(Q:cG->ai->Prop):cG->ai->Prop
 | .next=>P
 | .cont=>P
 | .brk=>Q .next
 | .ret v=>Q (.ret v)
theorem AH.of{P:ai->Prop}{Q:XR×Ob->cG->ai->Prop}{J:ai}{rt:XR}{f:cG}{U:Ob}{K:Loc->M XR}{q:XR×Ob}(x:RX env sc h C rt f)(er:XR.after K rt U=some q)(k1:∀ {l},tE h C env sc l->K l U=some q->P J)
  (k2:∀ {l},tE h C env sc l->Q (.next l,U) .next J) (k3:∀ {W v},sg h C W v->Q (.ret W,U) (.ret v) J):AH P (Q q) f J:=
 RX.casesOn (motive:=λrt f z=>XR.after K rt U=some q->AH P (Q q) f J) x k1 (λR er=>aE er▸k2 R) k1 (λR er=>aE er▸k3 R) er
inductive J7(d:aa)(A:az)(sc:Sc)(env:aD)(C1:Cx)(h1:aq)(own:O ag)(St:aa->aq->Cx->Prop)(xs:O V)(turn:Loc->V->M XR)(q:XR×Ob)(n:aa)(s':ai):Prop
 |mk {i:aa} {C':Cx} {σ':Ob} {l':Loc} (hn:n=xs.length - i) (hi:i<=xs.length) (st:St i s'.heap C') (hp:C'.sj=C1.sj) (E:Ext (r7 env sc++own) C1 C' h1 s'.heap) (H:Here d A sc env l' C' σ' s') (e:uR turn (xs.drop i) l' σ'=some q)
set_option tactic.hygienic true in
theorem T2{target:au}{mt:MT}{body:O aF}{mb:O MS}{it:af}{own:O ag}{St:aa->aq->Cx->Prop}{Su:aa->af->aq->Cx->Prop}{xs:O V}{s1:ai}(ht:x9 d F sc target mt)(hb:xw d F sc body mb)
  (H:Here d A sc env l C σ s) (K:Src A target it own xs St Su) (h0:St 0 s1.heap (C.with own)) (hk:∀ {a o},s.heap.get? a=some o->s1.heap.get? a=some o) (hN:∀ {a},a∈own->s.heap.get? a=none/\G.h0.objs.size<=a) (hos:s1.os=s.os) (hg:s1.gens=s.gens):
  Al (uR (uS (sO F mt) (r8 F mb)) xs l σ) λrf sT=>bo sB A (.forLoop target it body [] env) (λr s'=>match r with| .ok f=>sY (r7 env sc) C s (RX env sc) rf sT f s'| .error _=>bM) s1:= .intro λrf sT e=>by
 have Fb:∀ {a},a∈own->s.heap.get? a=none:=λha=>(hN ha).1;have off:Off env sc own:=DW H Fb;have YH:∀ {a},a∈C.sj->∃ o,s.heap.get? a=some o:=λha=>H.I.there (th ha);have up:∀ {a},a∈own->a∈r7 env sc++own:=λha=>aG.mpr (.inr ha);have side:∀ {a},a∈r7 env sc++own->a∈own\/a∈r7 env sc:=λha=>(aG.mp ha).symm
 refine codeAny_forLoop_any (I:=J7 d A sc env (C.with own) s1.heap own St xs (uS (sO F mt) (r8 F mb)) (rf,sT)) ?_ xs.length
  (.mk (i:=0) rfl (cg _) h0 rfl .refl (H.enter hk (λha=>⟨hN ha,(K.alive h0 _ ha).imp λy=>cP⟩) hos hg) e)
 refine λn s' z=>J7.casesOn (motive:=λy=>ak _ _ _ _ _ _) z λ{i C' σ' l'} hn hi U hp E H' e'=> ?_;have hown:∀ a∈own,a∈C'.sj:=λa ha=>hp▸aG.mpr (.inl ha);cases hd:xs.drop i with
 |nil=>
  rw[hd] at e'
  have q:(XR.next l',σ')=(rf,sT):=aE e';refine K.done (gW hi (gX.mp hd)▸U) hown λh3 tk vr=>ay ?_;cases q;exact .mk ⟨.J6 YH hk Fb side E vr,Inv.leave H.I H'.I hp Fb vr⟩ (.next (H'.env.leave H hp Fb vr))
 |cons x ys=>
  have J:i<xs.length:=mY λz=>nomatch hd.symm.trans (gX.mpr z)
  rw[gY J] at hd
  have hx:xs[i]?=some x:=(br J).trans (av some (dM hd).1);rw[gY J,(dM hd).1] at e'
  refine(run_bind (show M.bind (uS (sO F mt) (r8 F mb) l' x) (XR.after (uR (uS (sO F mt) (r8 F mb)) (xs.drop (i+1)))) σ'=some (rf,sT) from e')).elim λrt sd=>sd.elim λBl sd=> ?_
  have et:=sd.1;have er:=sd.2;refine K.next hx U H'.I.there hown λv h2 tk hv CW hk2=> ?_;obtain⟨H2,N2⟩:=H'.ownStep (tk:=tk) hown off hk2 (K.alive U) (K.Cb CW);refine K.go (s:={s' with heap:=h2,toks:=tk}) hx CW hv hown λh3 J8 vr=> ?_
  have sd:=H2.ownStep (tk:=tk) hown off vr (K.Cb CW) (K.alive J8);have H3:=sd.1;have N3:=sd.2;have YI:Ext (r7 env sc++own) (C.with own) C' s1.heap h3:=(E.trans (N2.E.mono λy=>up)).trans (N3.E.mono λy=>up)
  have OA:∀ {a},a∈own->a∉r7 env sc:=λha z=>off (FG H.env z) ha;refine aO ((r0.split (T:=λy s4 rt Bl=>XR.after (uR (uS (sO F mt) (r8 F mb)) (xs.drop (i+1))) rt Bl=some (rf,sT)->ak sB A (execs body env) _ _ s4) (ht H3 (hv.step N3.S)) λl2 y C4 B7 s4 N4 R4=> ?_).get et) (λy s4 k=>k er) λy y=>bP;have H4:=H3.stored N4 R4;have hp4:C4.sj=own++C.sj:=N4.E.sj.trans hp;have keep:∀ {C5:Cx} {AV:Ob} {s5 s6:ai} {C6:Cx},Nx (r7 env sc) C5 s5 C6 AV s6->(∀ a∈own,a∈C5.sj)->St (i+1) s5.heap C5->St (i+1) s6.heap C6:=λN hc st=>K.keep st N.S λa ha o e=>N.E.obj (hc a ha) (OA ha) ((K.alive st a ha).elim λo' r=>aE (r.1.symm.trans e)▸r.2) e;have abd:=keep N4 hown J8;refine(hb H4).imp λrt Bl z er=>aO z (λf s5 ⟨N5,R5⟩=> ?_) λy y=>bP;rename_i C5;have J9:C5.sj=own++C.sj:=N5.E.sj.trans hp4;have QH:=(YI.trans (N4.E.mono λa ha=>aG.mpr (.inl ha))).trans (N5.E.mono λa ha=>aG.mpr (.inl ha));have abe:=keep N5 (λa ha=>hp4▸aG.mpr (.inl ha)) abd;have out:Nx (r7 env sc) C s (C.back C5) Bl s5:=⟨.left YH hk Fb side QH,N5.I.back J9⟩;have lt:xs.length - (i+1)<n:=hn▸mZ _ _ J
  have z:=AH.of (P:=λs5=>∃ m,m<n/\J7 d A sc env (C.with own) s1.heap own St xs (uS (sO F mt) (r8 F mb)) (rf,sT) m s5) (Q:=λq f s'=>sY (r7 env sc) C s (RX env sc) q.1 q.2 f s') R5 er
   (λR er=>⟨_,lt, .mk rfl J abe J9 QH (H4.stored N5 R) er⟩) (λR=> .mk out (.next (R.leave H J9 Fb λy y y e=>e))) (λR=> .mk out (.ret (R.step (FE J9))))
  cases f<;>exact z
end
section
variable{d:aa}{A:az}{X Y:O ag}{C C':Cx}{σ:Ob}{s s':ai}{α β γ:Type}{sc:Sc}{F:Fn}{env:aD}{l:Loc}{pos:aK}
def QI(e:au):Prop:=∀ n env,swapsWith e none n env=pure false
def Cd(e:au):Prop:=∀ env x,foldedSetIterable e env x=pure x
theorem Ht{h:aq}(H:tE h C env sc l):interactive env=false:=by
 unfold interactive;rw[H.kind];rfl
theorem Nx.up(N:Nx [] C s C' σ s'):Nx X C s C' σ s':=⟨N.E.mono λz h=>(aC h ba),N.I⟩
theorem r0.An{m:M α}{f:α->M γ}{t:aM β}{R:aq->Cx->α->β->Prop}{T:β->ai->γ->Ob->Prop}(H:Here d A sc env l C σ s)(h:r0 A [] C σ s m t R)
  (U:∀ a b C' σ' s',Here d A sc env l C' σ' s'->(∀ {X},Nx X C s C' σ' s')->R s'.heap C' a b->Al (f a σ') (T b s')):Al (M.bind m f σ) λc J=>ak sB A t (λb s'=>T b s' c J) tg s:=
 h.split λa b C' σ' s' N r=>U a b C' σ' s' (H.next N) N.up r
theorem QJ{e:au}{me:ME}(hc:QI e)(he:sA d F sc e me):wG d F sc (.Expr e pos) (.expr me):=λ{A C σ s env l} H=>
 (r0.An (f:=λy=>M.pure (XR.next l)) (T:=λy s' c J=>sY (r7 env sc) C s (RX env sc) c J .next s') H (he H) λa b C' σ' s' H N r=> .mk N (.next H.env)).imp λy y z=>wpAny_Expr_any z (Ht H.env) (hc _ _)
theorem T3{e:au}{me:ME}(he:sA d F sc e me):wG d F sc (.Return (some e) pos) (.ret me):=λ{A C σ s env l} H=>
 (r0.An (f:=λv=>M.pure (XR.ret v)) (T:=λv s' c J=>sY (r7 env sc) C s (RX env sc) c J (.ret v) s') H (he H) λa b C' σ' s' H N r=> .mk N (.ret r)).imp λz z=>j8
theorem QK:wG d F sc (.Return none pos) .FA:=λH=>wpAny_Return_none (.mk ⟨.refl,H.I⟩ (.ret .none))
theorem QL:wG d F sc (.Continue pos) .cont:=λH=>wpAny_Continue (.mk ⟨.refl,H.I⟩ (.cont H.env))
theorem T4:wG d F sc (.Break pos) .brk:=λH=>wpAny_Break (.mk ⟨.refl,H.I⟩ (.brk H.env))
theorem Ip:xw d F sc [] []:=λH=> .pure H.I (.next H.env)
theorem OB{st:aF}{J:O aF}{ms:MS}{U:O MS}(h1:wG d F sc st ms)(h2:xw d F sc J U):xw d F sc (st::J) (ms::U):=λ{A C σ s env l} H=>
 r0.bind (m:=xu F ms l) (f:=XR.xt (r8 F U)) (g:=λf=>match f with| .next=>execs J env|f=>pure f) (h1 H) λrt f C' σ' s' N R=>
  RX.casesOn (motive:=λrt f z=>r0 A (r7 env sc) C' σ' s' (XR.xt (r8 F U) rt) (match f with| .next=>execs J env|f=>pure f) (RX env sc)) R (λR=>h2 (H.stored N R)) (λR=> .pure N.I (.brk R)) (λR=> .pure N.I (.cont R)) λR=> .pure N.I (.ret R)
theorem WX{t:au}{mt:ME}{b o:O aF}{mb mo:O MS}(ht:vA d F sc t mt)(U:xw d F sc b mb)(ho:xw d F sc o mo):wG d F sc (.If t b o pos) (.if_ mt mb mo):=λ{A C σ s env l} H=>
 (r0.An (f:=λc:aj=>if c then r8 F mb l else r8 F mo l) (T:=λb' s' c J=>if b' then ak sB A (execs b env) (sY (r7 env sc) C s (RX env sc) c J) tg s' else ak sB A (execs o env) (sY (r7 env sc) C s (RX env sc) c J) tg s') H (ht H)
  λa b C' σ' s' H N r=>by
   subst r;cases a with
   |true=>exact(U H).after N
   |false=>exact(ho H).after N).imp λz z=>wpAny_If
theorem CX{M:ce}{A:az}{env:aD}{E:VS}{Q:cG->ai->Prop}{P:cG->ai->Prop}{c:Code}(h:bo M A c (λr s'=>match r with| .ok f=>P f s'| .error _=>bM) s)(k:∀ f s',P f s'->Q f s'):
  bo M A c (λr s'=>match r with| .ok f=>Q f s'| .error e=>cameBackBy M A env E e s') s:=dO h λr s' hr=>by
 cases r with
 |ok f=>exact k f s' hr
 |error _=>exact hr.elim
theorem T5{target iter:au}{body:O aF}{mt:MT}{mi:MI}{mb:O MS}(hn:Cd iter)(hi:FI d F sc target iter mi)(ht:x9 d F sc target mt)(J:xw d F sc body mb):wG d F sc (.For target iter body [] pos) (.ua mt mi mb):=λ{A C σ s env l} H=>
 Al.bind (f:=λitems=>uR (uS (sO F mt) (r8 F mb)) items l) ((hi H).imp λxs σ1 z=> .intro λrf sT e=>wpAny_For (aO z (λx s1 ⟨C1,s0,N,k⟩=>k λit s2 g=>
  DV.casesOn (motive:=λy=>bo _ _ _ _ _) g λK h0 hk hN hos hg=>CX ((T2 ht J (H.next N) K h0 hk hN hos hg).get e) λf s'=>sY.nx N.up) λy y=>id) λy=>hn _ _)
theorem OC{t:au}{mt:ME}{body:O aF}{mb:O MS}(ht:vA d F sc t mt)(hb:xw d F sc body mb)(H:Here d A sc env l C σ s)(k:aa):
  Al (xa (AR (sN F mt) (r8 F mb)) k l σ) λrf sT=>bo sB A (.whileLoop t body [] env) (λr s'=>match r with| .ok f=>sY (r7 env sc) C s (RX env sc) rf sT f s'| .error _=>bM) s:= .intro λrf sT e=>by
 refine codeAny_whileLoop (I:=λn s'=>∃ C' σ' l',Nx (r7 env sc) C s C' σ' s'/\Here d A sc env l' C' σ' s'/\xa (AR (sN F mt) (r8 F mb)) n l' σ'=some (rf,sT)) (λn s' z=>uv z λC' σ' l' sd=>have N:=sd.1;have H':=sd.2.1;have e':=sd.2.2; ?_) k ⟨C,σ,l,⟨.refl,H.I⟩,H,e⟩;cases n with
 |zero=>cases e'
 |succ n=>
  obtain⟨rt,Bl,et,J⟩:=run_bind (show M.bind (AR (sN F mt) (r8 F mb) l') (XR.after (xa (AR (sN F mt) (r8 F mb)) n)) σ'=some (rf,sT) from e')
  refine aO ((r0.An (f:=λc:aj=>if c then r8 F mb l' else M.pure (.brk l')) (T:=λb s1 rt Bl=>XR.after (xa (AR (sN F mt) (r8 F mb)) n) rt Bl=some (rf,sT)->
    if b then ak sB A (execs body env) (AH (λs3=>∃ m,m<n+1/\∃ C' σ' l',Nx (r7 env sc) C s C' σ' s3/\Here d A sc env l' C' σ' s3/\xa (AR (sN F mt) (r8 F mb)) m l' σ'=some (rf,sT)) λf s'=>sY (r7 env sc) C s (RX env sc) rf sT f s') tg s1
    else sY (r7 env sc) C s (RX env sc) rf sT .next s1) H' (ht H') λa b C1 σ1 s1 H1 N1 r=> ?_).get et) (λb s1 k=> ?_) λy y=>bP
  ·have N2:Nx (r7 env sc) C s C1 σ1 s1:=⟨N.E.trans N1.E,H1.I⟩
   subst r;cases a with
   |false=>exact λJ=>Eq.subst (motive:=λq:XR×Ob=>sY (r7 env sc) C s (RX env sc) q.1 q.2 .next s1) (aE J) (.mk N2 (.next H1.env))
   |true=>
    refine(hb H1).imp λrt Bl z J=>aO z (λf s2 ⟨U,R⟩=> ?_) λy y=>id;exact AH.of (Q:=λq f s'=>sY (r7 env sc) C s (RX env sc) q.1 q.2 f s') R J (λR J=>⟨n,eW n,_,_,_,⟨N2.E.trans U.E,U.I⟩,H1.stored U R,J⟩) (λR=> .mk ⟨N2.E.trans U.E,U.I⟩ (.next R)) λR=> .mk ⟨N2.E.trans U.E,U.I⟩ (.ret R)
  ·have k:=k J
   cases b with
   |false=>exact ay k
   |true=>exact aO k (λf s3 z=>by cases f<;>exact z) λy y=>bP
theorem OD{t:au}{mt:ME}{body:O aF}{mb:O MS}(ht:vA d F sc t mt)(J:xw d F sc body mb):wG d F sc (.While t body [] pos) (.wP mt mb):=λH=>(OC ht J H JL).imp λy y z=>wpAny_While (CX z λy y=>id)
end
section
variable{d:aa}{A:az}{X Y:O ag}{C C':Cx}{σ:Ob}{s:ai}{α β γ:Type}{sc:Sc}{F:Fn}{env:aD}{l:Loc}{pos:aK}
noncomputable def Cx.add(C:Cx)(p:ag×O ag):Cx:=⟨C.mu++[p],C.sj⟩
theorem Bn(mu:O (ag×O ag))(p:ag×O ag):owned (mu++[p])=owned mu++(p.1::p.2):=(wQ ..).trans (av (owned mu++ ·) (bY _))
theorem Inv.add{p:ag×O ag}{m':sv}{s':ai}(I:Inv C σ s)(hm:C'.mu=C.mu++[p])(hk:∀ {a o},s.heap.get? a=some o->s'.heap.get? a=some o)(nd:(p.1::p.2).Nodup)(U:∀ {a},a∈C'.sj->a∈C.sj/\a∉p.1::p.2)
  (hp:∀ {a},a∈p.1::p.2->a∉owned C.mu/\G.h0.objs.size<=a/\∃ o,s'.heap.get? a=some o) (S:uj s.heap C s'.heap C') (J:tm s'.heap C' p m') (hos:s'.os=s.os) (hg:s'.gens=s.gens):Inv C' (σ++[m']) s'/\C'.mu[σ.length]?=some p:=by
 have own:∀ {a},a∈owned C'.mu->a∈owned C.mu\/a∈p.1::p.2:=λha=>by rw[hm,Bn] at ha;exact aG.mp ha
 have res:∀ {a},a∈C'.res->a∈C.res\/a∈p.1::p.2:=λha=>(aG.mp ha).elim (λha=>(own ha).imp_left vF) λha=> .inl (th (U ha).1)
 refine⟨{I with
  uG:=λe=>hk (I.uG e)
  os:=hos.trans I.os
  gens:=hg.trans I.gens
  len:=by rw[bv,<-I.len,hm];exact bv
  nodup:=by
   rw[hm,Bn];exact gN.mpr ⟨I.nodup,nd,λa ha b hb e=>(hp hb).1 (e▸ha)⟩
  wE:=λha h=>(own h).elim (I.wE (U ha).1) (U ha).2
  above:=λha=>(res ha).elim I.above λha=>(hp ha).2.1
  there:=λha=>(res ha).elim (λha=>(I.there ha).imp λz=>hk) λha=>(hp ha).2.2
  rep:=λ{i m q} h1 h2=> ?_},by rw[hm,<-I.len,di (aU _),dG];rfl⟩
 rw[hm] at h2
 by_cases hi:i<σ.length
 ·exact(I.rep ((dq hi).symm.trans h1) ((dq (I.len▸hi)).symm.trans h2)).keep S λz=>hk
 ·have hi':i=σ.length:=gW (iV (by have:=(bD.mp h1).1;rw[bv] at this;exact this)) (cm.mp hi)
  subst hi';rw[di (aU _),dG] at h1
  rw[<-I.len,di (aU _),dG] at h2
  have uI:=aE h1;subst uI;have uI:=aE h2;subst uI;exact J
theorem Nx.alloc{p:ag×O ag}{m':sv}{s':ai}(I:Inv C σ s)(hk:∀ {a o},s.heap.get? a=some o->s'.heap.get? a=some o)(nd:(p.1::p.2).Nodup)(hp:∀ {a},a∈p.1::p.2->(s.heap.get? a=none/\G.h0.objs.size<=a)/\∃ o,s'.heap.get? a=some o)
  (J:uj s.heap C s'.heap (C.add p)->tm s'.heap (C.add p) p m') (hos:s'.os=s.os:=by rfl) (hg:s'.gens=s.gens:=by rfl):Nx X C s (C.add p) (σ++[m']) s'/\(C.add p).mu[σ.length]?=some p:=
 have E:Ext X C (C.add p) s.heap s'.heap:={Ext.grow (X:=X) (C:=C) hk with
  sj:=rfl
  mu:=⟨[p],rfl,λa ha=>(hp (by have ha:a∈owned ([]++[p]):=ha;rw[Bn] at ha;exact ha)).1.1⟩
  keep:=λy=>hk}
 have dead:∀ {a},a∈p.1::p.2->a∉C.res:=λha hr=>(I.there hr).elim λy e=>nomatch (hp ha).1.1.symm.trans e
 have z:=I.add (C':=C.add p) rfl hk nd (λha=>⟨ha,λz=>dead z (th ha)⟩) (λha=>⟨λz=>dead ha (vF z),(hp ha).1.2,(hp ha).2⟩) E.stp (J E.stp) hos hg
 ⟨⟨E,z.1⟩,z.2⟩
def ya(d:aa)(F:Fn)(sc:Sc)(e:au)(J:MR):Prop:=CO d sc (xD F J) (eval e) (RV)
theorem Jo{D:ag}{o:aL}{m':sv}{s':ai}(P:At d A C σ s)(hh:s'.heap=s.heap.push o)(U:o.isFreed=false)(hD:D=s.heap.objs.size)(J:uj s.heap C s'.heap (C.add (D,[]))->tm s'.heap (C.add (D,[])) (D,[]) m')(hos:s'.os=s.os:=by rfl)(hg:s'.gens=s.gens:=by rfl):
  sY X C s (RV) (V.ref σ.length) (σ++[m']) (.ref D) s':=by
 subst hD;have z:=Nx.alloc (X:=X) (p:=(s.heap.objs.size,[])) P.I (λe=>hh▸vB e) (b7.mpr ⟨ba,c6⟩) (λha=>aR.mp ha▸⟨⟨w7 _,P.above⟩,o,hh▸a8 _ U⟩) J hos hg;exact .mk z.1 (.ref z.2)
theorem YK{e:au}{me:ME}(h:sA d F sc e me):ya d F sc e (.e me):=h
theorem Ka:ya d F sc (.List [] pos) .newList:=λH=>
 (r0.standAt (.xF (c:=[]) ay (fx (Jo (m':= .lst []) H.pl rfl rfl rfl λS=> .lst ⟨_,a8 _ rfl⟩ .nil) (cg _))):r0 _ _ _ _ _ (un (.lst [])) _ _)
theorem Kc:ya d F sc (.Dict [] [] pos) .newDict:=λH=>wpAny_Dict_empty (Jo (m':= .dct [] []) H.pl rfl rfl rfl λS=> .dct .nil (.JP (kvs:=[]) ⟨_, #[],_,a8 _ rfl,⟨rfl,rfl,rfl⟩,rfl,λe h=>(nomatch h), .nil,c6⟩))
theorem QM{es:O au}{U:O MR}(hs:∀ e∈es,s9 e)(h:tj (ya d F sc) es U):CO d sc (xr F U) (λenv=>spliced (backTo pos (starEach es env))) (RVn es.length):=by
 induction h with
 |nil=>exact λH=> .pure H.I ⟨.nil,rfl⟩
 | @cons e me es sU h1 h2 ih=>
  intro A C σ s env l H;show r0 A [] C σ s (M.bind (xD F me l) λv=>M.bind (xr F sU l) λvs=>M.pure (v::vs)) (spliced (backTo pos (starEach (e::es) env))) _;rw[hs e (.head _)];exact(h1 H).tD H λx v C' σ' s' H S hv=>r0.xF (c:=[v]) ay ((ih (λe he=>hs e (.tail _ he)) H).holding.tD H λxs vs C' σ' s' H S J=> .pure H.I ⟨.cons (hv.step S) J.1,av (·+1) J.2⟩)
theorem T6{es:O au}{U:O MR}{k:aa}(hs:∀ e∈es,s9 e)(hl:es.length<=64)(h:tj (ya d F sc) es U):ya d F sc (.Tuple es k pos) (.tup U):=λH=>
 r0.standAt ((QM (pos:=pos) hs h H).tD H λxs vs C' σ' s' H S J=> .ok (gS (zI H.I λS=> .tup (vW H.I) (AF (a8 _ rfl)) (J.1.step S)) (CQ J hl)))
theorem T7{t e:au}{mt:MT}{mr:MR}(U:∀ env,env.scope=sc.scope->swapsWithSole [t] e pos.line env=pure false)(hst:∀ env,env.scope=sc.scope->swappedStores [t] e env=pure none)(hs:Ca t)(hr:ya d F sc e mr)(ht:x9 d F sc t mt):wG d F sc (.Assign [t] e pos) (.asg mt mr):=λ{A C σ s env l} H=>
 (r0.An (f:=λv=>M.bind (sO F mt l v) λl'=>M.pure (XR.next l')) (T:=λv s' c J=>ak sB A (assign t env v) (λy s'=>sY (r7 env sc) C s (RX env sc) c J .next s') tg s') H (hr H) λa b C' σ' s' H N r=>
  (ht H r).split (T:=λy s' c J=>sY (r7 env sc) C s (RX env sc) c J .next s') λl' y C2 σ2 s2 N2 R=> .mk ⟨(N (X:=r7 env sc)).E.trans N2.E,N2.I⟩ (.next R)).imp λc J z=>
 wpAny_Assign_stores (aO z (λv s1 k=>by rw[show(assignEach [t] env).map (·.2)=[assign t env] by rw[hs];rfl];exact k) λy y=>id) (U env H.env.scope) (hst env H.env.scope)
theorem Al.vm{h:aq}{V:V}{v:af}(hv:sg h C V v){f:O Internal.V->M α}{P:af->α->Ob->Prop}(k:∀ xs a its,a∉C.res->bW h a its->su h C xs its.toList->Al (f xs σ) (P (.ref a))):Al (M.bind (tI V) f σ) (P v):=
 sg.casesOn (motive_1:=λV v z=>Al (M.bind (tI V) f σ) (P v)) hv ah ah ah (λz=>ah) (λn t e=>k _ _ _ n t e) (λz z z=>ah) (λz z z=>ah) (λz z z z=>ah) (λz z z=>ah) λz=>ah
abbrev VN(sc:Sc):O (am×aa)->Prop:=λps=>∀ p∈ps,sc.takes p.1 p.2
noncomputable def putAll:Loc->O aa->O V->Loc
 |l,[],_=>l
 |l,k::ks,xs=>match xs with
  |[]=>l
  |x::xs=>putAll (l.put k x) ks xs
theorem M9{k:aa}{x:V}:(l.put k x).length=l.length:=eO
theorem OE{k:aa}{x:V}{ks:O aa}:∀ {l:Loc} {xs:O V},k∉ks->putAll (l.put k x) ks xs=(putAll l ks xs).put k x:=by
 induction ks with
 |nil=>exact λw=>rfl
 |cons j ks J=>
  intro l xs h;cases xs with
  |nil=>rfl
  |cons y xs=>exact(av (putAll · ks xs) (O.set_comm _ _ λz=>h (z▸ .head _):(l.put k x).put j y=(l.put j y).put k x)).trans (J λz=>h (.tail _ z))
theorem Dr{ks:O aa}:∀ {l:Loc} {xs:O V} {P:Loc->Ob->Prop},((∀ k∈ks,k<l.length)->ks.length=xs.length->P (putAll l ks xs) σ)->Al (tY F (ks.map MT.var) l xs σ) P:=by
 induction ks with
 |nil=>exact λ{l xs P} h=> .guard (b:=xs.isEmpty) (m:=M.pure l) λe=>h (λz h=>aC h ba) (by rw[cR.mp e];rfl)
 |cons k ks J=>
  intro l xs P h;cases xs with
  |nil=>exact ah
  |cons x xs=>exact Al.bind (m:=yW l k x) (f:=λl'=>tY F (ks.map MT.var) l' xs) (.guard λe=>J λh1 h2=>h (bj.mpr ⟨aP e,λj U=>M9▸h1 j U⟩) (av (·+1) h2))
theorem putAll_snoc{k:aa}{x:V}{ks:O aa}:∀ {xs:O V} {l:Loc},ks.length=xs.length->putAll l (ks++[k]) (xs++[x])=(putAll l ks xs).put k x:=by
 induction ks with
 |nil=>exact λh=>by cases dY h.symm;rfl
 |cons j ks J=>
  intro xs l h;cases xs with
  |nil=>cases h
  |cons y xs=>exact J (l:=l.put j y) (dh h)
theorem OF{ks:O aa}:∀ {xs:O V} {l:Loc},ks.length=xs.length->ks.Nodup->putAll l ks.reverse xs.reverse=putAll l ks xs:=by
 induction ks with
 |nil=>exact λh z=>by cases dY h.symm;rfl
 |cons k ks J=>
  intro xs l h nd;cases xs with
  |nil=>cases h
  |cons x xs=>
   have n:=b7.mp nd;rw[gL,gL,putAll_snoc (by rw[fv,fv];exact dh h),J (dh h) n.2]
   exact(OE n.1).symm
theorem QO{ps:O (am×aa)}:∀ {A:az} {C:Cx} {σ:Ob} {s:ai} {env:aD} {l:Loc} {xs:O V} {vs:O af},Here d A sc env l C σ s->VN sc ps->su s.heap C xs vs->ps.length=xs.length->(∀ p∈ps,p.2<l.length)->
  ak sB A (assignInOrder (ps.map λp=>bindName env p.1) vs) (sY (r7 env sc) C s (RL env sc) (putAll l (ps.map (·.2)) xs) σ) tg s:=by
 induction ps with
 |nil=>
  intro A C σ s env l xs vs H _ hv J _;have uI:=dY J.symm;subst uI;exact hv.out (P:=λvs=>ak sB A (assignInOrder [] vs) (sY (r7 env sc) C s (RL env sc) l σ) tg s) (ay (.mk ⟨.refl,H.I⟩ H.env))
 |cons p ps ih=>
  intro A C σ s env l xs vs H ht hv J hk;cases xs with
  |nil=>cases J
  |cons x xs=>
   refine hv.out (P:=λvs=>ak sB A (assignInOrder ((p::ps).map λp=>bindName env p.1) vs) (sY (r7 env sc) C s (RL env sc) (putAll l ((p::ps).map (·.2)) (x::xs)) σ) tg s) λv vs e1 e2=>ao (bd (aO
    ((Im H (ht p (.head _)) e1).get (a:=l.put p.2 x) (σ':=σ) (by unfold yW;rw[aX (hk p (.head _))];rfl)) (λ_ s1 ⟨N,R⟩=> ?_) λz z=>id))
   exact aO (ih (H.stored N R) (λq U=>ht q (.tail _ U)) (e2.step N.S) (dh J) λq U=>by rw[M9];exact hk q (.tail _ U)) (λz z=>sY.nx N) λz z=>id
theorem Hu{t e:au}{names:O am}{Q:cG->ai->Prop}{E:VS}(hs:swapsWithSole [t] e pos.line env=pure false)(hw:swappedStores [t] e env=pure (some names))
  (h:ak sB A (eval e env) (λv J=>ak sB A (unpackItems v names.length none) (λitems U=>ak sB A (assignInOrder (names.reverse.map λn=>bindName env n) items.reverse) (λz=>Q .next) E U) E J) E s):
  ak sB A (exec (.Assign [t] e pos) env) Q E s:=by
 rw[exec_Assign_arm,hs];refine ao (dj (sP (ao (aO h (λv J h₁=> ?_) λz z=>id))));rw[hw];exact sP (ao (ek (ao (aO h₁ (λitems U h₂=>ao (aO h₂ (λz z=>ay) λz z=>id)) λz z=>id))))
theorem QP{ps:O (am×aa)}{t e:au}{rs:O MR}(hsw:∀ env,env.scope=sc.scope->swapsWithSole [t] e pos.line env=pure false)(hst:∀ env,env.scope=sc.scope->swappedStores [t] e env=pure (some (ps.map (·.1))))(ht:VN sc ps)(hn:(ps.map (·.2)).Nodup)
  (hr:ya d F sc e (.tup rs)):wG d F sc (.Assign [t] e pos) (.asg (.tup (ps.map λp=> .var p.2)) (.tup rs)):=λ{A C σ s env l} H=>by
 have up:∀ c J,ak sB A (eval e env) (λv s₁=>ak sB A (unpackItems v (ps.map (·.1)).length none) (λitems U=>ak sB A (assignInOrder ((ps.map (·.1)).reverse.map λn=>bindName env n) items.reverse)
   (λy=>sY (r7 env sc) C s (RX env sc) c J .next) tg U) tg s₁) tg s->ak sB A (exec (.Assign [t] e pos) env) (sY (r7 env sc) C s (RX env sc) c J) tg s:=λc J=>Hu (hsw env H.env.scope) (hst env H.env.scope)
 refine Al.imp (o:=M.bind (xD F (.tup rs) l) (λv=>M.bind (sO F (.tup (ps.map λp=> .var p.2)) l v) λl'=>M.pure (XR.next l')) σ) ?_ up;refine r0.An H (hr H) λV v C1 σ1 s1 H1 N1 hv=> ?_;refine Al.bind (m:=sO F (.tup (ps.map λp=> .var p.2)) l V) (f:=λl'=>M.pure (XR.next l')) ?_
 refine Al.vm (f:=λvs=>M.guard ((ps.map λp=>MT.var p.2).length==vs.length) (tY F (ps.map λp=>MT.var p.2) l vs)) (P:=λv l' σ'=>ak sB A (unpackItems v (ps.map (·.1)).length none)
  (λitems U=>ak sB A (assignInOrder ((ps.map (·.1)).reverse.map λn=>bindName env n) items.reverse) (λy=>sY (r7 env sc) C s (RX env sc) (.next l') σ' .next) tg U) tg s1) hv λxs a its n1 t1 hvs=>Al.guard λy=> ?_
 rw[show(ps.map λp=>MT.var p.2)=(ps.map (·.2)).map MT.var by rw[bR];rfl]
 refine Dr λh3 h4=> ?_;rw[aH] at h4
 rw[aH,h4,hvs.length,bQ];refine mU H.A.handled t1 λh' hx=> ?_;have N2:Nx [] C1 s1 C1 σ1 {s1 with heap:=h'}:= .grow H1.I λe=>hx _ _ (bu (aY e)) e
 have z:=QO (ps:=ps.reverse) (xs:=xs.reverse) (vs:=its.toList.reverse) (H1.next N2) (λp hp=>ht p (eX.mp hp)) (hvs.step N2.S).reverse (by rw[fv,fv];exact h4) λp hp=>h3 _ (bG.mpr ⟨p,eX.mp hp,rfl⟩)
 rw[eY,eY,OF (by rw[aH];exact h4) hn] at z
 rw[show((ps.map (·.1)).reverse.map λn=>bindName env n)=(ps.map λp=>bindName env p.1).reverse by rw[eY,bR];rfl]
 exact aO z (λ_ s2 ⟨N3,R3⟩=> .mk ⟨((N1 (X:=r7 env sc)).E.trans N2.up.E).trans N3.E,N3.I⟩ (.next R3)) λy y=>id
end
end
section
noncomputable def FJ(o:aQ)(x:am)(k:cL):cL:=if(k== .free&&o.kind== .function&&o.names.lookup x==some .cell)=true then .cell else k
def yn(scope o:aQ):aQ:={scope with names:=scope.names.map λp=>(p.1,FJ o p.1 p.2)}
theorem T8{scope:aQ}{env:aD}{o:aQ}(h:env.scope=o):relabel scope env=yn scope o:=by
 subst h;unfold yn relabel FJ
 congr 1
 exact iF λ(n,k) _=>(apply_ite (jJ n) _ _ _).symm
noncomputable def Iq(scope:aQ):O am:=(scope.names.filter λp=>p.2== .cell).map (·.1)
def Sc.comp(sc:Sc)(scope:aQ)(own:O (am×aa)):Sc:=⟨yn scope sc.scope,own++sc.slots,Iq scope⟩
structure DX(sc:Sc)(scope:aQ)(own:O (am×aa)):Prop where
 kind:scope.kind= .function
 nodup:(scope.names.map (·.1)).Nodup
 frees:∀ p∈scope.names,p.2= .free->own.lookup p.1=none/\(sc.slots.lookup p.1).isSome/\sc.yh p.1
 locs:∀ p∈scope.names,p.2= .local->sc.slots.lookup p.1=none\/(own.lookup p.1).isSome
 OG:∀ p∈scope.names,p.2= .cell->(own.lookup p.1).isSome
 abD:(own.map (·.1)).Nodup
 abf:(own.map (·.2)).Nodup
 YL:∀ p∈own,∀ q∈sc.slots,q.2≠p.2
section
variable{κ α:Type}[BEq κ][fY κ]{k:κ}{v:α}{l:O (κ×α)}
theorem CY(h:l.lookup k=none)(v:α):(k,v)∉l:=by
 induction l with
 |nil=>exact ba
 |cons p l J=>
  rw[eu] at h
  cases hk:k==p.1 with
  |true=>rw[hk] at h;cases h
  |false=>rw[hk] at h;exact λx=>(aW.mp x).elim (λx=>by cases x;rw[bC] at hk;cases hk) (J h)
theorem uk(nd:(l.map (·.1)).Nodup)(h:(k,v)∈l):l.lookup k=some v:=by
 induction l with
 |nil=>cases h
 |cons p l J=>
  have n:=b7.mp nd;rw[eu];cases h with
  |head=>rw[bC]
  |tail _ h=>rw[bS.mpr λz:k=p.1=>n.1 (bG.mpr ⟨_,h,z⟩)];exact J n.2 h
omit [fY κ] in
theorem vK(l l':O (κ×α)):(l++l').lookup k=(l.lookup k).or (l'.lookup k):=by
 induction l with
 |nil=>rfl
 |cons p l J=>rw[O.cons_append,eu,eu];cases k==p.1<;>first|rfl|exact J
theorem OH(g:κ->α->α):(l.map λp=>(p.1,g p.1 p.2)).lookup k=(l.lookup k).map (g k):=by
 induction l with
 |nil=>rfl
 |cons p l J=>
  rw[fw,eu,eu];cases hk:k==p.1 with
  |true=>rw[eq_of_beq hk];rfl
  |false=>exact J
end
theorem Hv{κ:Type}{l:O (κ×aa)}(nd:(l.map (·.2)).Nodup){x y:κ}{k:aa}(a:(x,k)∈l)(b:(y,k)∈l):x=y:=
 have z:∀ {x:κ},(x,k)∈l->(l.map λp=>(p.2,p.1)).lookup k=some x:=λh=>uk (by rw[bR];exact nd) (bG.mpr ⟨_,h,rfl⟩)
 aE ((z a).symm.trans (z b))
set_option tactic.hygienic true in
theorem Hw(o:aQ)(x:am)(k:cL):FJ o x k=k\/(k= .free/\FJ o x k= .cell):=by
 unfold FJ;split
 ·rename_i h;exact .inr ⟨eq_of_beq (rY (rY h).1).1,rfl⟩
 ·exact .inl rfl
theorem CZ{scope o:aQ}(x:am):(yn scope o).names.lookup x=(scope.names.lookup x).map (FJ o x):=OH (FJ o)
noncomputable def cellIn(env:aD)(x:am):ag:=(env.cells.lookup x).getD 0
def uF(scope:aQ)(env:aD):O (am×ag):=((scope.names.filter λp=>p.2== .free).map λp=>(p.1,cellIn env p.1)).reverse
theorem OI{env:aD}{names:O (am×cL)}:∀ {acc:O (am×ag)},(∀ p∈names,p.2= .free->env.cells.lookup p.1=some (cellIn env p.1))->
  (forIn names acc λ(p:am×cL) U=>(match p with|(name,kind)=>if kind== .free then(do let c<-cellOf env name;pure (iZ ((name,c)::U))) else pure (iZ U):aM _))=
   (pure (((names.filter λp=>p.2== .free).map λp=>(p.1,cellIn env p.1)).reverse++acc):aM _):=by
 induction names with
 |nil=>exact λz=>rfl
 |cons p names J=>
  intro acc h;obtain⟨n,k⟩:=p;have J:= @J;rw[gZ];dsimp only;cases hk:(k==g6) with
  |true=>
   rw[aN rfl,show cellOf env n=pure (cellIn env n) by unfold cellOf;rw[h (n,k) (.head _) (eq_of_beq hk)],m7 (by exact hk),fw,gL,cf]
   exact J λp hp=>h p (.tail _ hp)
  |false=>
   rw[aI b0,m8 (by rw[hk];exact b0)]
   exact J λp hp=>h p (.tail _ hp)
theorem OJ{scope:aQ}{env:aD}(h:∀ p∈scope.names,p.2= .free->env.cells.lookup p.1=some (cellIn env p.1)):closureFor scope env=pure (uF scope env):=by
 have z:=OI (acc:=[]) h;unfold closureFor;simp only[bind_pure];rw[bY] at z
 exact z
theorem yo(names:O (am×cL)):∀ (n:aa) (acc:O (am×ag)),cellsFrom n names acc=cellsFrom n names []++acc:=by
 induction names with
 |nil=>exact λz z=>rfl
 |cons p r J=>
  intro n acc;unfold cellsFrom;split
  ·rw[J _ (_::acc),J _ [_],cf];rfl
  ·exact J _ acc
set_option tactic.hygienic true in
theorem I9{x:am}{c:ag}{names:O (am×cL)}:∀ {n:aa},(x,c)∈cellsFrom n names []->(x,fA)∈names:=by
 induction names with
 |nil=>exact λh=>aC h ba
 |cons p r J=>
  intro n h;unfold cellsFrom at h
  split at h
  ·rename_i hk
   rw[yo,aG] at h
   exact h.elim (λh=> .tail _ (J h)) λh=>by cases aR.mp h;exact eq_of_beq hk▸ .head _
  ·exact .tail _ (J h)
theorem zX{x:am}{names:O (am×cL)}:∀ {n:aa},(x,fA)∈names->∃ c,(x,c)∈cellsFrom n names []:=by
 induction names with
 |nil=>exact λh=>aC h ba
 |cons p r J=>
  intro n h;unfold cellsFrom;cases h with
  |head=>exact⟨n,by show _∈cellsFrom (n+1) r [(x,n)];rw[yo];exact aG.mpr (.inr (.head _))⟩
  |tail _ h=>
   split
   ·rw[yo];exact(J h).imp λc hc=>aG.mpr (.inl hc)
   ·exact J h
section
variable{d:aa}{A:az}{C:Cx}{σ:Ob}{s:ai}{env:aD}{sc:Sc}{l l':Loc}{h:aq}{scope:aQ}
noncomputable def vC(h:aq)(names:O (am×cL)):aq:=pushCells (h.push {cls:= .type "dict",data:= .dict #[]}) names
theorem Ds{names:O (am×cL)}{a:ag}{o:aL}(e:h.get? a=some o):(vC h names).get? a=some o:=j9 names _ a o (aS _ e)
noncomputable def compEnv(J:aQ)(cl:O (am×ag))(h:aq)(names:O (am×cL))(env:aD):aD:=
 {scope:=J,locals:=h.objs.size,globals:=env.globals,cells:=cellsFrom (h.objs.size+1) names []++cl,qual:=env.qual,func:=none,code:=env.code,frame:=env.frame,builtins:=env.builtins}
theorem OK{M:ce}{cl:O (am×ag)}{Q:aD->ai->Prop}{E:VS}(J:Q (compEnv scope cl s.heap scope.names env) {s with heap:=vC s.heap scope.names}):
  ak M A (newFunctionEnv scope env.globals cl [] env.qual none .none (some env)) Q E s:=by
 simp only[newFunctionEnv,ax.isSome_some,eZ];refine ao (nc (ao (wpAny_layCells _ (λname kind cells=>by cases U:kind==fA<;>simp) _ _ _ _ ?_)))
 rw[show({s with heap:=s.heap.push {cls:= .type "dict",data:= .dict #[]}}:ai).heap.objs.size=s.heap.objs.size+1 from cT ..,yo]
 exact sP (ay J)
theorem Ke{x:am}{c:ag}(h:(x,c)∈uF scope env):(x,g6)∈scope.names/\c=cellIn env x:=by
 obtain⟨p,hp,e⟩:=bG.mp (eX.mp h);cases e;have z:=c9.mp hp;exact⟨eq_of_beq z.2▸z.1,rfl⟩
theorem Ml{x:am}(nd:(scope.names.map (·.1)).Nodup)(h:(x,g6)∈scope.names):(uF scope env).lookup x=some (cellIn env x):=by
 unfold uF;refine uk ?_ (eX.mpr (bG.mpr ⟨_,c9.mpr ⟨h,rfl⟩,rfl⟩));rw[eY,bR];exact nh.mpr (qY bz (nd.sublist (qZ _ O.filter_sublist)))
theorem Hx{own:O (am×aa)}(ok:DX sc scope own)(H:tE h C env sc l)(p:am×cL)(hp:p∈scope.names)(hk:p.2= .free):env.cells.lookup p.1=some (cellIn env p.1):=
 have z:=ok.frees p hp hk
 (fB.mp z.2.1).elim λk J=>match H.cells J z.2.2 with| .mk e _ _ _=>by unfold cellIn;rw[e];rfl
noncomputable def uN(scope:aQ)(h:aq):O (am×ag):=cellsFrom (h.objs.size+1) scope.names []
def wx(scope:aQ)(h:aq):O ag:=h.objs.size::(uN scope h).map (·.2)
theorem Kf(scope:aQ)(h:aq):CellsOk (vC h scope.names) (h.objs.size+1) (uN scope h):=by
 have z:=cellsFrom_ok scope.names (h.push {cls:= .type "dict",data:= .dict #[]}) (h.objs.size+1) [] ⟨(λy y hm=>aC hm ba),ra⟩ (by rw[cT];exact aU _)
 rw[cT] at z
 exact z
end
section
variable{d:aa}{A:az}{C:Cx}{σ:Ob}{s:ai}{env:aD}{sc:Sc}{l l':Loc}{scope:aQ}{own:O (am×aa)}
theorem u0{h:aq}{a:ag}(ha:h.objs.size<=a):h.get? a=none:=by
 cases e:h.get? a with
 |none=>rfl
 |some o=>exact aC (aY e) (cm.mpr ha)
theorem C0{h:aq}{a:ag}(ha:a∈wx scope h):h.objs.size<=a/\∃ o,(vC h scope.names).get? a=some o:=(aW.mp ha).elim (λe=>by cases e;exact⟨aU _,_,j9 _ _ _ _ (a8 _ rfl)⟩)
 λha=>(bG.mp ha).elim λp hp=>have z:=(Kf scope h).empty p.1 p.2 hp.1;hp.2▸⟨gd z.2,z.1.imp λy=>cP⟩
theorem QQ(ok:DX sc scope own){x:am}{k:aa}(h1:(own++sc.slots).lookup x=some k)(h2:(sc.comp scope own).yh x){P:Prop}(U:(x,fA)∈scope.names->own.lookup x=some k->P)(kf:(x,g6)∈scope.names->sc.slots.lookup x=some k->sc.yh x->P):P:=by
 have z:∃ k0,scope.names.lookup x=some k0/\(k0= .cell\/k0= .free):=by
  have h2:(yn scope sc.scope).names.lookup x=some .cell\/(yn scope sc.scope).names.lookup x=some .free:=h2;rw[CZ] at h2
  cases e:scope.names.lookup x with
  |none=>rw[e] at h2;exact h2.elim (λh=>(by cases h)) λh=>(by cases h)
  |some k0=>
   rw[e] at h2
   exact⟨k0,rfl,(Hw sc.scope x k0).elim (λz=>h2.imp (λh=>z.symm.trans (aE h)) λh=>z.symm.trans (aE h)) λz=> .inr z.1⟩
 refine z.elim λk0 sd=>sd.elim λe hk=>hk.elim (λhk=> ?_) λhk=> ?_
 ·subst hk
  have m:=lookup_mem e;exact(fB.mp (ok.OG _ m rfl)).elim λj J=>U m (by rw[vK,show own.lookup x=some j from J] at h1;exact J.trans h1)
 ·subst hk
  have m:=lookup_mem e;have g:=ok.frees _ m rfl;exact kf m (by rw[vK,show own.lookup x=none from g.1] at h1;exact h1) g.2.2
theorem QR(ok:DX sc scope own)(H:Here d A sc env l C σ s)(hl:∀ k V,l'.get k=some V->l.get k=some V)(ho:∀ p∈own,l'.get p.2=none):
  (Here d A (sc.comp scope own) (compEnv (yn scope sc.scope) (uF scope env) s.heap scope.names env) l' (C.with (wx scope s.heap)) σ {s with heap:=vC s.heap scope.names})/\
  (∀ {a},a∈wx scope s.heap->s.heap.get? a=none/\G.h0.objs.size<=a)/\(∀ {a},a∈r7 (compEnv (yn scope sc.scope) (uF scope env) s.heap scope.names env) (sc.comp scope own)->a∈wx scope s.heap):=by
 have hN:∀ {a},a∈wx scope s.heap->s.heap.get? a=none/\G.h0.objs.size<=a:=λha=>⟨u0 (C0 ha).1,aw H.pl.above (C0 ha).1⟩;have hk:∀ {a o},s.heap.get? a=some o->(vC s.heap scope.names).get? a=some o:=Ds;have S:uj s.heap C (vC s.heap scope.names) (C.with (wx scope s.heap)):=w6 hk λha=>(hN ha).1
 have R:=H.env;have YM:=Kf scope s.heap
 have VO:∀ {x c},(uN scope s.heap++uF scope env).lookup x=some c->(x,c)∈uN scope s.heap\/((x,g6)∈scope.names/\env.cells.lookup x=some c/\c<s.heap.objs.size):=λ{x c} h=>by
  rw[vK] at h
  cases e:(uN scope s.heap).lookup x with
  |some v=>rw[e] at h;exact .inl (aE h▸lookup_mem e)
  |none=>
   rw[e] at h
   have z:=Ke (lookup_mem (h:(uF scope env).lookup x=some c));have J:=(Hx ok R _ z.1 rfl).trans (av some z.2.symm);have g:=ok.frees _ z.1 rfl;exact .inr ⟨z.1,J,(fB.mp g.2.1).elim λk hk=>match R.cells hk g.2.2 with| .mk h5 _ h6 _=>h6.elim λo r=>aE (h5.symm.trans J)▸aY r.1⟩
 have far:∀ {x c},(x,c)∈uN scope s.heap->¬ c<s.heap.objs.size:=λh=>cm.mpr (gd (YM.empty _ _ h).2);have VP:∀ {x k},own.lookup x=some k->∀ u,ww (vC s.heap scope.names) (C.with (wx scope s.heap)) (l'.get k) u:=λh u V e=>nomatch (ho _ (lookup_mem h)).symm.trans e
 refine⟨.of H.A (H.I.enter hk λha=>⟨hN ha,(C0 ha).2⟩) {
  kind:=ok.kind
  globals:=R.globals
  builtins:=R.builtins
  scope:=rfl
  sj:=aG.mpr (.inl (.head _))
  locs:=⟨λw=>none,yg (aq.Ns.new s.heap (.type "dict")) λw w w=>aT (j9 _ _ _ _),λ{x k} h1 h2=> ?_⟩
  cells:=λ{x k} h1 h2=>QQ ok h1 h2 (λm hj=> ?_) λm hs hc=> ?_
  inj:=λ{x y c} h1 h2=>(VO h1).elim (λh1=>(VO h2).elim (λh2=>ni YM.apart h1 h2) λh2=>aC h2.2.2 (far h1)) λh1=>(VO h2).elim (λh2=>aC h1.2.2 (far h2)) λh2=>R.inj h1.2.1 h2.2.1
  B5:=λ{x y k} h1 h2=> ?_
  Gk:=λ{x} hx=>(bG.mp hx).elim λp U=>have hp:=U.1;have e:=U.2; ?_} (H.pl.frs.grow (λa ha=>aG.mpr (.inr ha)) hk),hN,λ{a} ha=>(aW.mp ha).elim (λe=>e▸ .head _) λha=>(eo.mp ha).elim λx U=>U.elim λhx hc=>(bG.mp hx).elim λp U=>U.elim λhp e=> ?_⟩
 ·rw[show(sc.comp scope own).slots=own++sc.slots from rfl,vK] at h1
  cases e:own.lookup x with
  |some j=>rw[e] at h1;exact VP (e.trans h1) _
  |none=>
   rw[e] at h1
   have h2:(yn scope sc.scope).names.lookup x=some .local:=h2;rw[CZ] at h2
   cases e2:scope.names.lookup x with
   |none=>rw[e2] at h2;cases h2
   |some k0=>
    rw[e2] at h2
    have z:k0= .local:=(Hw sc.scope x k0).elim (λz=>z.symm.trans (aE h2)) λz=>nomatch z.2.symm.trans (aE h2)
    subst z;exact(ok.locs _ (lookup_mem e2) rfl).elim (λh=>nomatch h.symm.trans h1) λh=>by rw[show own.lookup (x,cL.local).1=none from e] at h;cases h
 ·have z:∃ c,(uN scope s.heap).lookup x=some c:=by
   cases e:(uN scope s.heap).lookup x with
   |none=>exact(zX (n:=s.heap.objs.size+1) m).elim λc hc=>aC hc (CY e c)
   |some c=>exact⟨c,rfl⟩
  refine z.elim λc hc=> .mk (c:=c) (u:=none) ?_ (aG.mpr (.inl (.tail _ (bG.mpr ⟨_,lookup_mem hc,rfl⟩)))) (YM.empty x c (lookup_mem hc)).1 (VP hj _);show(uN scope s.heap++uF scope env).lookup x=some c;rw[vK,hc];rfl
 ·refine AT.casesOn (motive:=λw=>AT _ _ _ _ _ _) (R.cells hs hc) λ{c u} h6 h7 h8 h9=> .mk (c:=c) (u:=u) ?_ (aG.mpr (.inr h7)) (h8.imp λw=>aT hk) (ww.step (λV e=>h9 V (hl k V e)) S)
  show(uN scope s.heap++uF scope env).lookup x=some c;rw[vK,Ml ok.nodup m];cases e:(uN scope s.heap).lookup x with
  |some v=>exact nomatch (uk ok.nodup m).symm.trans (uk ok.nodup (I9 (lookup_mem e)))
  |none=>unfold cellIn;rw[h6];rfl
 ·rw[show(sc.comp scope own).slots=own++sc.slots from rfl,vK] at h1 h2
  cases e:own.lookup x with
  |some v=>
   rw[e] at h1
   have uI:=aE h1;subst uI;cases J:own.lookup y with
   |some v'=>
    rw[J] at h2
    have uI:=aE h2;subst uI;exact Hv ok.abf (lookup_mem e) (lookup_mem J)
   |none=>rw[J] at h2;exact(ok.YL _ (lookup_mem e) _ (lookup_mem (h2:sc.slots.lookup y=_)) rfl).elim
  |none=>
   rw[e] at h1
   cases J:own.lookup y with
   |some v'=>rw[J] at h2;cases aE h2;exact(ok.YL _ (lookup_mem J) _ (lookup_mem (h1:sc.slots.lookup x=_)) rfl).elim
   |none=>rw[J] at h2;exact R.B5 h1 h2
 ·have z:=c9.mp hp
  have m:(x,fA)∈scope.names:=e▸eq_of_beq z.2▸z.1;refine(fB.mp (ok.OG _ m rfl)).elim λj hj=>⟨j, ?_, .inl ?_⟩
  ·show(own++sc.slots).lookup x=some j
   rw[vK,show own.lookup x=some j from hj]
   rfl
  ·show(yn scope sc.scope).names.lookup x=some .cell
   rw[CZ,uk ok.nodup m];exact av some ((Hw sc.scope x .cell).elim id λz=>(by cases z.1))
 ·have z:=c9.mp hp
  have m:(x,fA)∈scope.names:=e▸eq_of_beq z.2▸z.1;exact(VO hc).elim (λh=> .tail _ (bG.mpr ⟨_,h,rfl⟩)) λh=>nomatch (uk ok.nodup h.1).symm.trans (uk ok.nodup m)
end
section
variable{prog:a9}{w:a0}{A:az}{elt:au}{gens:O bf}{scope:aQ}{pos:aK}{it acc:af}{env:aD}{k:aa}{g:bf}{R:dl->ai->Prop}
theorem DY{s:ai}(hg:gens[k]?=some g)(ha:g.is_async=0)(U:(A.under (.compStart (.ListComp elt gens scope pos) k it acc env))=A)
  (h0:bo (aA prog w) A (.compLoop (.ListComp elt gens scope pos) k it acc env) R s)
  (h:ak (aA prog w) A (pyIter it) (λJ s'=>bo (aA prog w) A (.compLoop (.ListComp elt gens scope pos) k J acc env) R s')
   (notedBy (aA prog w) A env λx s'=>R (.error x) s') s):bo (aA prog w) A (.compStart (.ListComp elt gens scope pos) k it acc env) R s:=by
 refine g9 ?_;refine wpAny_notedAt ?_;unfold compStart;rw[show(clausesOf (.ListComp elt gens scope pos))[k]?=some g from hg]
 simp -iota only[ax.elim_some,ha,eE,bN,bE];refine ao (hF (wpAny_ite ?_));split
 ·exact ay (j6 rfl h0)
 ·exact ao (ek (ao (dj (ao (aO h (λJ s' h'=>ay (j6 rfl h')) λz z x=>x)))))
end
section
variable{d:aa}{A:az}{X Y:O ag}{C C':Cx}{σ:Ob}{s:ai}{α β γ:Type}{sc:Sc}{F:Fn}{env:aD}{l:Loc}
theorem tE.weak{h:aq}{l':Loc}(R:tE h C env sc l')(J:∀ k V,l.get k=some V->l'.get k=some V):tE h C env sc l:=
 {R with
  locs:=R.locs.imp λm r=>⟨r.1,λh1 h2 V e=>r.2 h1 h2 V (J _ V e)⟩
  cells:=λh1 h2=>match R.cells h1 h2 with| .mk e p i v=> .mk e p i λV e=>v V (J _ V e)}
inductive Ao:MT->O aa->Prop
 |var (k:aa):Ao (.var k) [k]
 |tup (ks:O aa):Ao (.tup (ks.map .var)) ks
theorem OL{k:aa}{ks:O aa}:∀ {xs:O V} {l:Loc},k∉ks->(putAll l ks xs).get k=l.get k:=by
 induction ks with
 |nil=>exact λy=>rfl
 |cons j ks J=>
  intro xs l h;cases xs with
  |nil=>rfl
  |cons x xs=>exact(J λz=>h (.tail _ z)).trans (by unfold Loc.put Loc.get;rw[ew λz:j=k=>h (z▸ .head _)])
theorem T9{t:MT}{ks:O aa}(h:Ao t ks){v:V}:Al (sO F t l v σ) λl' y=>∀ j,j∉ks->l'.get j=l.get j:=by
 cases h with
 |var k=>exact .guard (m:=M.pure (l.put k v)) λe j J=>(B9 (aP e)).trans (aI λz:j=k=>J (z▸ .head _))
 |tup ks=>exact Al.bind (m:=tI v) (f:=λvs=>M.guard ((ks.map MT.var).length==vs.length) (tY F (ks.map MT.var) l vs)) (by
   cases v with
   |tup xs=>exact Al.guard (m:=tY F (ks.map MT.var) l xs) λy=>Dr (P:=λl' y=>∀ j,j∉ks->l'.get j=l.get j) λy y j J=>OL J
   |_=>exact ah)
noncomputable def xU(es:O au)(env:aD)(b:aj):aM aj:=forIn es b λc (ok:aj)=>if ok=true then(do let r<-isTrue c env (eval c env);pure (iZ r)) else pure (iZ ok)
theorem Ua{es:O au}{Q:aj->ai->Prop}(h:Q false s):ak sB A (xU es env false) Q tg s:=by
 unfold xU;induction es with
 |nil=>exact ay h
 |cons e es J=>rw[gZ,aI b0];exact sP J
theorem QS{es:O au}{sU:O ME}(h:tj (vA d F sc) es sU):CO d sc (xo F true sU) (λenv=>xU es env true) RE:=by
 induction h with
 |nil=>exact λH=> .pure H.I rfl
 | @cons e me es sU h1 h2 J=>
  intro A C σ s env l H
  have e1:xU (e::es) env true=(isTrue e env (eval e env)>>=λr=>xU es env r):=by
   unfold xU;rw[gZ,aN rfl,bind_assoc];rfl
  show r0 A [] C σ s (M.bind (sN F me l) λb=>if b==true then xo F true sU l else M.pure b) (xU (e::es) env true) RE
  rw[e1];refine(h1 H).tD (f:=λb=>if b==true then xo F true sU l else M.pure b) H λb c C' σ' s' H S r=> ?_
  subst r;cases b with
  |true=>exact J H
  |false=>exact .ok (Ua (sJ H.I rfl))
inductive YN(d:aa)(F:Fn)(sc:Sc)(g:bf):MG->O aa->Prop
 |mk {t:MT} {it:MI} {ifs:O ME} {ks:O aa} (ha:g.is_async=0) (hns:Cd g.iter) (ht:x9 d F sc g.target t) (hto:Ao t ks) (FK:tj (vA d F sc) g.ifs ifs) (hI:FI d F sc g.target g.iter it):YN d F sc g (.g t it ifs) ks
class inductive Gs (d:aa) (F:Fn) (sc:Sc):O bf->O MG->O aa->Prop
 |nil:Gs d F sc [] [] []
 |cons {g:bf} {mg:MG} {ks:O aa} {gs:O bf} {tM:O MG} {js:O aa} (hG:YN d F sc g mg ks) (hkj:∀ j∈ks,j∉js) (hr:Gs d F sc gs tM js):Gs d F sc (g::gs) (mg::tM) (ks++js)
theorem FL{h:aq}{D:ag}{items:aB af}(p:h.PlainList D items):∃ o,h.get? D=some o/\xG o:=p.elim λn e=>⟨_,e,λps n z=>by cases z⟩
theorem Ub{h:aq}{D:ag}{v:ax af}{items:aB af}(p:h.PlainList D items)(i:h.IsCell D v):bM:=p.elim λn e=>i.elim λo r=>by cases e.symm.trans r.1;cases r.2
theorem Kg{h h':aq}{D:ag}{items:aB af}(E:Ext X C C' h h')(hD:D∈C.sj)(J:D∉X)(p:h.PlainList D items):h'.PlainList D items:=p.imp λn e=>E.obj hD J (λy y z=>(by cases z)) e
noncomputable def Gu(elt:au)(gens:O bf)(scope:aQ)(pos:aK)(k:aa)(acc:af)(env:aD)(tail:aM Fin):aM Fin:=
 match gens[k+1]? with
 |some J=>do
  let x<-eval J.iter env
  standAt J.iter.pos
  if(J.is_async !=0)=true then do
    let x<-foldedIterable J.iter x
    let i<-fP [x] (if(J.is_async !=0)=true then asyncIter x else pyIter x)
    let _<-runOwn (nk (elt.ListComp gens scope pos) (k+1) i acc env) env
    tail
   else do
    let x<-foldedSetIterable J.iter env x
    let i<-fP [x] (if(J.is_async !=0)=true then asyncIter x else pyIter x)
    let _<-runOwn (nk (elt.ListComp gens scope pos) (k+1) i acc env) env
    tail
 |none=>(eval elt env>>=λv=>call (eC "list.append") [acc,v]>>=λz=>(pure ():aM bi))>>=λz=>tail
structure Acc(d:aa)(A:az)(sc:Sc)(env:aD)(l:Loc)(D:ag)(ys:O V)(C:Cx)(σ:Ob)(s:ai):Prop where
 H:Here d A sc env l C σ s
 hD:D∈C.sj
 Ce:D∉r7 env sc
 p:∃ items,s.heap.PlainList D items/\su s.heap C ys items.toList
def C7(d:aa)(A:az)(sc:Sc)(env:aD)(l:Loc)(D:ag)(C:Cx)(s:ai)(ys:O V)(σ':Ob)(s':ai):Prop:=∃ C',Ext (D::r7 env sc) C C' s.heap s'.heap/\Acc d A sc env l D ys C' σ' s'
def OM(d:aa)(sc:Sc)(elt:au)(gens:O bf)(scope:aQ)(pos:aK)(k:aa)(js:O aa)(K:Loc->M (O V)):Prop:=
 ∀ {A:az} {C:Cx} {σ:Ob} {s:ai} {env:aD} {l:Loc} {D:ag} {x7:O V},Acc d A sc env l D x7 C σ s->(∀ j∈js,l.get j=none)->Al (K l σ) λzs σ'=>x7.length+zs.length<=lim->∀ {Q:Fin->ai->Prop} {tail:aM Fin},
  (∀ s',C7 d A sc env l D C s (x7++zs) σ' s'->ak sB A tail Q tg s')->ak sB A (Gu elt gens scope pos k (.ref D) env tail) Q tg s
theorem Acc.next{D:ag}{ys:O V}{σ':Ob}{s':ai}(a:Acc d A sc env l D ys C σ s)(N:Nx [] C s C' σ' s'):Acc d A sc env l D ys C' σ' s':=
 ⟨a.H.next N,N.E.sj▸a.hD,a.Ce,a.p.imp λy r=>⟨Kg N.E a.hD (λz=>nomatch z) r.1,r.2.step N.S⟩⟩
inductive EK(d:aa)(A:az)(sc:Sc)(env:aD)(l:Loc)(D:ag)(C1:Cx)(h1:aq)(own:O ag)(St:aa->aq->Cx->Prop)(xs:O V)(turn:V->M (O V))(x7 ys:O V)(sT:Ob)(n:aa)(s':ai):Prop
 |mk {i:aa} {C':Cx} {σ':Ob} {done todo:O V} (hn:n=xs.length - i) (hi:i<=xs.length) (st:St i s'.heap C') (hp:C'.sj=C1.sj) (E:Ext (D::r7 env sc++own) C1 C' h1 s'.heap) (a:Acc d A sc env l D (x7++done) C' σ' s') (hy:done++todo=ys) (e:wt turn (xs.drop i) σ'=some (todo,sT))
def CompPost(I:aa->ai->Prop)(n:aa)(c:Code):Fin->ai->Prop
 | .done _=>λz=>bM
 | .again J=>λs'=>J=c/\∃ m,m<n/\I m s'
def FM(elt:au)(gens:O bf)(scope:aQ)(pos:aK)(k:aa)(it acc:af)(env:aD)(ok:aj):aM Fin:=
 if ok=true then Gu elt gens scope pos k acc env (again (i3 (elt.ListComp gens scope pos) k it acc env)) else again (i3 (elt.ListComp gens scope pos) k it acc env)
inductive CompEnd(d:aa)(A:az)(sc:Sc)(env:aD)(l:Loc)(D:ag)(C1:Cx)(h1:aq)(own:O ag)(ys:O V)(sT:Ob):ai->Prop
 |mk {s2:ai} {h3:aq} {tk:aa} {C':Cx} (E:Ext (D::r7 env sc++own) C1 C' h1 s2.heap) (a:Acc d A sc env l D ys C' sT s2) (hk:xi own s2.heap h3):CompEnd d A sc env l D C1 h1 own ys sT {s2 with heap:=h3,toks:=tk}
theorem Ir{elt:au}{gens:O bf}{scope:aQ}{pos:aK}{g:bf}{t:MT}{mi:MI}{ifs:O ME}{ks js:O aa}{k:aa}{K:Loc->M (O V)}{it:af}{own:O ag}{St:aa->aq->Cx->Prop}{Su:aa->af->aq->Cx->Prop}{xs:O V}{D:ag}{x7:O V}
  (hg:gens[k]?=some g) (ha:g.is_async=0) (ht:x9 d F sc g.target t) (hto:Ao t ks) (FK:tj (vA d F sc) g.ifs ifs) (em:OM d sc elt gens scope pos k js K) (hkj:∀ j∈ks,j∉js) (a:Acc d A sc env l D x7 C σ s) (KS:Src A g.target it own xs St Su) (h0:St 0 s.heap C)
  (aaN:∀ {a},a∈own->a∈C.sj) (off:Off env sc own) (Bo:D∉own) (hc:∀ j∈ks++js,l.get j=none):
  Al (wt (xQ F (.g t mi ifs) K l) xs σ) λys sT=>x7.length+ys.length<=lim->bo sB A (.compLoop (.ListComp elt gens scope pos) k it (.ref D) env) (λr s'=>match r with| .ok _=>CompEnd d A sc env l D C s.heap own (x7++ys) sT s'| .error _=>bM) s:= .intro λys sT e hlen=>by
 have up:∀ {a},a∈own->a∈D::r7 env sc++own:=λha=>aG.mpr (.inr ha);have up2:∀ {a},a∈D::r7 env sc->a∈D::r7 env sc++own:=λha=>aG.mpr (.inl ha);have OA:∀ {a},a∈own->a∉D::r7 env sc:=λha z=>(aW.mp z).elim (λz=>Bo (z▸ha)) λz=>off (FG a.H.env z) ha;refine codeAny_loop rfl (EK d A sc env l D C s.heap own St xs (xQ F (.g t mi ifs) K l) x7 ys sT) ?_ xs.length (.mk (i:=0) (done:=[]) rfl (cg _) h0 rfl .refl ⟨a.H,a.hD,a.Ce,(bY x7).symm▸a.p⟩ rfl e);refine λn s' z=>EK.casesOn (motive:=λy=>ak _ _ _ _ _ _) z λ{i C' σ' done todo} hn hi hSt hp E a' hy e'=> ?_;have hown:∀ a∈own,a∈C'.sj:=λa ha=>hp▸aaN ha;show ak _ A ((compTurn (.ListComp elt gens scope pos) k it (.ref D) env).onRaise (λx=>do noteFrame x env;theTreesLotGoes x)) _ _ s'
 refine wpAny_noted ?_;unfold compTurn;dsimp only;rw[hg];dsimp only;rw[ha];refine ao (dj ?_);cases hd:xs.drop i with
 |nil=>
  rw[hd] at e'
  have q:([],σ')=(todo,sT):=aE e';refine ao (KS.done (gW hi (gX.mp hd)▸hSt) hown λh3 tk vr=>ay ?_);cases q;exact .mk E (hy▸(bY done).symm▸a') vr
 |cons x zs0=>
  have hlt:i<xs.length:=mY λz=>nomatch hd.symm.trans (gX.mpr z)
  rw[gY hlt] at hd
  have hx:xs[i]?=some x:=(br hlt).trans (av some (dM hd).1);rw[gY hlt,(dM hd).1] at e'
  refine(run_bind (show M.bind (xQ F (.g t mi ifs) K l x) (λa=>M.bind (wt (xQ F (.g t mi ifs) K l) (xs.drop (i+1))) λb=>M.pure (a++b)) σ'=some (todo,sT) from e')).elim λzs U=>U.elim λNa U=> ?_
  have et:=U.1;have e'':=U.2;refine(run_bind e'').elim λJ U=>U.elim λσy U=> ?_;have e3:(zs++J,σy)=(todo,sT):=aE U.2;have er:=U.1.trans (av (λs=>some (J,s)) (av gj e3));have hy:=(av (done++ ·) (av fC e3)).trans hy
  refine ao (KS.next hx hSt a'.H.I.there hown λv h2 tk hv2 CW hk2=> ?_);have U:=a'.H.ownStep (tk:=tk) hown off hk2 (KS.alive hSt) (KS.Cb CW);have H2:=U.1;have N2:=U.2;refine ao (KS.go (s:={s' with heap:=h2,toks:=tk}) hx CW hv2 hown λh3 J8 vr=> ?_)
  have U:=H2.ownStep (tk:=tk) hown off vr (KS.Cb CW) (KS.alive J8);have H3:=U.1;have N3:=U.2;have E23:=N2.E.trans N3.E;have keep:∀ {C5:Cx} {X:O ag} {s5 s6:ai} {C6:Cx},Ext X C5 C6 s5.heap s6.heap->(∀ {a},a∈own->a∉X)->(∀ a∈own,a∈C5.sj)->St (i+1) s5.heap C5->St (i+1) s6.heap C6:=λE ho hc st=>KS.keep st E.stp λa ha o e=>E.obj (hc a ha) (ho ha) ((KS.alive st a ha).elim λo' r=>aE (r.1.symm.trans e)▸r.2) e;have a3:Acc d A sc env l D (x7++done) C' σ' {s' with heap:=h3,toks:=tk}:=⟨H3,a'.hD,a'.Ce,a'.p.imp λy r=>⟨r.1.imp λy e=>vr D _ Bo (hk2 D _ Bo e),r.2.step E23.stp⟩⟩
  have YI:Ext (D::r7 env sc++own) C C' s.heap h3:=E.trans (E23.mono λy=>up)
  have z1:=r0.split (T:=λy s4 zs Na=>wt (xQ F (.g t mi ifs) K l) (xs.drop (i+1)) Na=some (J,sT)->done++(zs++J)=ys->
    ak sB A (xU g.ifs env true>>=FM elt gens scope pos k it (.ref D) env) (CompPost (EK d A sc env l D C s.heap own St xs (xQ F (.g t mi ifs) K l) x7 ys sT) n (i3 (elt.ListComp gens scope pos) k it (.ref D) env)) tg s4)
   (f:=λl'=>M.bind (xo F true ifs l') λok=>if ok then K l' else M.pure []) ((ht H3 (hv2.step N3.S)).with (T9 hto)) λl2 y C4 B7 s4 N4 R4=> ?_
  ·refine ao (aO (z1.get et) (λy s4 k1=>aO (Eq.mpr (av (λt=>ak _ A t _ _ s4) ?_) (k1 er hy)) (λfin s5 z=> ?_) λy y=>bP) λy y=>bP)
   ·unfold xU FM Gu
    cases gens[k+1]? with
    |none=>rfl
    |some g'=>rfl
   ·cases fin with
    |done _=>exact z.elim
    |again c'=>exact z
  have H4:=H3.stored N4 R4.1;have lt:xs.length - (i+1)<n:=hn▸mZ _ _ hlt;have wk:∀ k V,l.get k=some V->l2.get k=some V:=λj V hj=>(R4.2 j λz=>nomatch (hc j (aG.mpr (.inl z))).symm.trans hj).trans hj
  have a4:Acc d A sc env l2 D (x7++done) C4 B7 s4:=⟨H4,N4.E.sj▸a'.hD,a'.Ce,a3.p.imp λy r=>⟨Kg N4.E a'.hD a'.Ce r.1,r.2.step N4.S⟩⟩;have hc4:∀ a∈own,a∈C4.sj:=λa ha=>N4.E.sj▸hown a ha;refine(r0.split (T:=λok s5 zs Na=>wt (xQ F (.g t mi ifs) K l) (xs.drop (i+1)) Na=some (J,sT)->done++(zs++J)=ys->ak sB A (FM elt gens scope pos k it (.ref D) env ok) (CompPost (EK d A sc env l D C s.heap own St xs (xQ F (.g t mi ifs) K l) x7 ys sT) n (i3 (elt.ListComp gens scope pos) k it (.ref D) env)) tg s5) (f:=λok=>if ok then K l2 else M.pure []) (QS FK H4) λok ok' C5 AV s5 N5 r=> ?_).imp λzs Na z er hy=>ao (aO z (λy y k=>k er hy) λy y=>id)
  subst r;have a5:=a4.next N5;have st5:=keep N5.E (λy z=>nomatch z) hc4 (keep N4.E (λha z=>OA ha (.tail _ z)) hown J8)
  have QH:=(YI.trans (N4.E.mono λa ha=>up2 (.tail _ ha))).trans (N5.E.mono (Y:=D::r7 env sc++own) λy h=>nomatch h)
  have back:∀ {C6:Cx} {YO:Ob} {s6:ai} {ys:O V},Acc d A sc env l2 D ys C6 YO s6->Acc d A sc env l D ys C6 YO s6:=λa=>⟨.of a.H.A a.H.I (a.H.env.weak wk) a.H.pl.frs,a.hD,a.Ce,a.p⟩;cases ok with
  |false=>exact λer hy=>ay ⟨rfl,_,lt, .mk rfl hlt st5 ((N5.E.sj.trans N4.E.sj).trans hp) QH (back a5) hy er⟩
  |true=>
   refine(em a5 λj hj=>(R4.2 j λz=>hkj j z hj).trans (hc j (aG.mpr (.inr hj)))).imp λzs Na z er hy=>z ?_ λs6 ⟨C6,E6,a6⟩=> ?_
   ·rw[<-hy,bv,bv] at hlen
    rw[bv,dZ];exact aw (cw (cw (aV _ _) _) _) hlen
   ·exact ay ⟨rfl,_,lt, .mk rfl hlt (keep E6 OA (λa ha=>N5.E.sj▸hc4 a ha) st5) (((E6.sj.trans N5.E.sj).trans N4.E.sj).trans hp) (QH.trans (E6.mono λy=>up2)) (back (cf ..▸a6)) (cf ..▸hy) er⟩
theorem Acc.enter{D:ag}{ys:O V}{s1:ai}{own:O ag}(a:Acc d A sc env l D ys C σ s)(hk:∀ {a o},s.heap.get? a=some o->s1.heap.get? a=some o)(hN:∀ {a},a∈own->(s.heap.get? a=none/\G.h0.objs.size<=a)/\∃ o,s1.heap.get? a=some o)(hos:s1.os=s.os)(hg:s1.gens=s.gens):Acc d A sc env l D ys (C.with own) σ s1:=
 ⟨a.H.enter hk hN hos hg,aG.mpr (.inr a.hD),a.Ce,a.p.imp λz r=>⟨r.1.imp λz=>hk,r.2.step (w6 hk λha=>(hN ha).1.1)⟩⟩
theorem CompEnd.leave{D:ag}{x7 ys:O V}{s1 s':ai}{own:O ag}{sT:Ob}(a:Acc d A sc env l D x7 C σ s)(hk:∀ {a o},s.heap.get? a=some o->s1.heap.get? a=some o)(hN:∀ {a},a∈own->s.heap.get? a=none)(z:CompEnd d A sc env l D (C.with own) s1.heap own ys sT s'):C7 d A sc env l D C s ys sT s':=
 CompEnd.casesOn (motive:=λs' y=>C7 d A sc env l D C s ys sT s') z λ{s2 h3 tk C'} E U J=>
  have hp:C'.sj=own++C.sj:=E.sj;have EL:Ext (D::r7 env sc) C (C.back C') s.heap h3:= .J6 (λha=>a.H.I.there (th ha)) hk hN (λha=>(aG.mp ha).symm) E J;have R:=U.H.env.leave a.H hp hN J
  ⟨C.back C',EL, .of a.H.A (Inv.leave a.H.I U.H.I hp hN J) R (a.H.pl.frs.ext EL λL m hL hm=>(aW.mp hL).elim (λz=>(a.p.elim λy r=>VM (z▸FL r.1) hm).elim) λhL=>QC a.H.env R L m hL hm),a.hD,a.Ce,
   U.p.imp λy r=>⟨r.1.imp λy=>J D _ (Cc a.H.I hN a.hD),r.2.step (Bk hp J)⟩⟩
theorem QT{elt:au}{me:ME}{gens:O bf}{scope:aQ}{pos:aK}{k:aa}(he:sA d F sc elt me)(hn:gens[k+1]?=none):OM d sc elt gens scope pos k [] (wu F [] (single (rZ F me))):=λ{A C σ s env l D x7} a _=>
 (r0.split (m:=rZ F me l) (f:=λv=>M.pure [v]) (T:=λv s1 zs σ'=>x7.length+zs.length<=lim->∀ {Q:Fin->ai->Prop} {tail:aM Fin},(∀ s',C7 d A sc env l D C s (x7++zs) σ' s'->ak sB A tail Q tg s')->ak sB A (call (eC "list.append") [.ref D,v]) (λx s'=>ak sB A tail Q tg s') tg s1) (he a.H)
  λV v C1 σ1 s1 N hv=>λhlen {Q tail} hQ=>(a.next N).p.elim λitems sd=>have p1:=sd.1;have v1:=sd.2;mz p1 (λh' l1 S=>hQ _ (by
   have hk:xi [D] s1.heap h':=xH S;have U:=a.next N;have z:=U.H.ownStep (tk:=s1.toks) (own:=[D]) (λb J=>aR.mp J▸U.hD) (λ{b} u J=> ?_) hk (λb J=>aR.mp J▸FL p1) λb J=>aR.mp J▸FL l1
   ·exact⟨C1,(N.E.mono λx h=>nomatch h).trans (z.2.E.mono λb J=>aR.mp J▸ .head _),z.1,U.hD,a.Ce,_,l1,by rw[mA];exact(v1.append (.cons hv .nil)).step z.2.S⟩
   ·cases aR.mp J
    exact u.elim (λe=>a.Ce (e▸ .head _)) λ⟨y,j,e1,e2,e3⟩=>match U.H.env.cells e1 e2 with| .mk e _ i _=>(Ub p1 (aE (e.symm.trans e3)▸i)).elim))
   (by rw[<-bQ,<-v1.length];exact wF (bB (bw (eW _) hlen)))).imp λzs σ' z hlen Q tail hQ=>by
 unfold Gu;rw[hn];exact ao (ao (aO z (λv s1 k=>ao (aO (k hlen hQ) (λx x h=>ay h) λx x=>id)) λx x=>id))
end
end
section
theorem C8{α:Type}{l:O α}{k:aa}{x:α}{r:O α}(h:l.drop k=x::r):l[k]?=some x/\l.drop (k+1)=r:=
 ⟨O.head?_drop.symm.trans (av O.head? h),(nq (i:=1) (j:=k) (l:=l)).symm.trans (av (O.drop 1) h)⟩
section
variable{d:aa}{A:az}{X Y:O ag}{C C':Cx}{σ:Ob}{s:ai}{α β γ:Type}{sc:Sc}{F:Fn}{env:aD}{l:Loc}
theorem C7.nx{D:ag}{C1:Cx}{s1 s':ai}{σ1 σ':Ob}{ys:O V}(N:Nx [] C s C1 σ1 s1)(z:C7 d A sc env l D C1 s1 ys σ' s'):C7 d A sc env l D C s ys σ' s':=
 z.imp λC' r=>⟨(N.E.mono λy h=>nomatch h).trans r.1,r.2⟩
theorem QU{elt:au}{me:ME}{gens:O bf}{scope:aQ}{pos:aK}(he:sA d F sc elt me){rest:O bf}{vL:O MG}{js:O aa}(hr:Gs d F sc rest vL js):
  ∀ {k:aa},gens.drop (k+1)=rest->OM d sc elt gens scope pos k js (wu F vL (single (rZ F me))):=by
 induction hr with
 |nil=>exact λhk=>QT he (hZ.mpr (gX.mp hk))
 | @cons g mg ks gs tM js hG hkj hr ih=>
  refine λ{k} hk {A C σ s env l D x7} a hc=>YN.casesOn (motive:=λmg ks z=>(∀ j∈ks,j∉js)->(∀ j∈ks++js,l.get j=none)->Al (wu F (mg::tM) (single (rZ F me)) l σ) _) hG (λ{t mi ifs ks} ha hns ht hto FK hI hkj hc=> ?_) hkj hc;refine Al.bind (m:=wc F mi l) (f:=λxs=>wt (xQ F (.g t mi ifs) (wu F tM (single (rZ F me))) l) xs) ((hI a.H).imp λxs σ1 h1=> .intro λzs sT e hlen Q tail hQ=> ?_);unfold Gu;rw[(C8 hk).1];dsimp only;refine ao (aO h1 (λx s1a h=>h.elim λC1 h=>h.elim λs1 r=> ?_) λz z=>bP);refine ao (dj ?_);rw[ha];rw[hns];refine sP (ao (bd (r.2 λit s2 hgs=>DV.casesOn (motive:=λz=>ak _ _ _ _ _ _) hgs λ{own St Su} KS h0 J hN hos YQ=> ?_)));have U:=a.next r.1;have Fb:∀ {a},a∈own->s1.heap.get? a=none:=λha=>(hN ha).1;have a2:=U.enter J (λha=>⟨hN ha,(KS.alive h0 _ ha).imp λz=>cP⟩) hos YQ;have loop:=(Ir (gens:=gens) (elt:=elt) (scope:=scope) (pos:=pos) (it:=it) (k:=k+1) (C8 hk).1 ha ht hto FK (ih (C8 hk).2) hkj a2 KS h0 (λha=>aG.mpr (.inl ha)) (DW U.H Fb) (Cc U.H.I Fb U.hD) hc).get e hlen
  have fin:bo sB A (.compLoop (.ListComp elt gens scope pos) (k+1) it (.ref D) env) (λr s'=>match r with| .ok f=>(λz s'=>ak sB A tail Q tg s') f s'| .error _=>bM) s2:=dO loop λr s' hr=>by
   cases r with
   |error _=>exact hr
   |ok f=>exact hQ s' (.nx r.1 (CompEnd.leave U J Fb hr))
  exact ao (wpAny_runOwn (DY (A:=A) (C8 hk).1 ha rfl (CX (Q:=λz s'=>ak sB A tail Q tg s') fin λz z=>id) (KS.self h0 (CX (Q:=λz s'=>ak sB A tail Q tg s') fin λz z=>id))))
theorem uj.trans{h h' h2:aq}{J:Cx}(S:uj h C h' C')(T:uj h' C' h2 J)(U:∀ {a o},h.get? a=some o->∃ o',h'.get? a=some o'):uj h C h2 J:=
 ⟨λn e=>T.keep (S.off n e) (S.keep n e),λa ha=>(T.res a ha).elim (S.res a) λz=> .inr (match e:h.get? a with|none=>rfl|some o=>(U e).elim λy e'=>nomatch z.symm.trans e'),λe=>T.mu (S.mu e)⟩
inductive zJ(d:aa)(F:Fn)(sc:Sc)(elt:au)(scope:aQ)(own:O (am×aa))(me:ME):O bf->O MG->Prop
 |mk {g:bf} {t:MT} {mi:MI} {ifs:O ME} {ks js:O aa} {rest:O bf} {vL:O MG} (ok:DX sc scope own) (he:sA d F (sc.comp scope own) elt me) (ha:g.is_async=0) (hns:Cd g.iter) (ht:x9 d F (sc.comp scope own) g.target t) (hto:Ao t ks)
   (FK:tj (vA d F (sc.comp scope own)) g.ifs ifs) (hI:FI d F sc g.target g.iter mi) (hr:Gs d F (sc.comp scope own) rest vL js) (hkj:∀ j∈ks,j∉js) (hown:∀ j∈ks++js,j∈own.map (·.2)):zJ d F sc elt scope own me (g::rest) (.g t mi ifs::vL)
inductive wS(d:aa)(A:az)(sc:Sc)(env:aD)(l:Loc)(C:Cx)(s:ai)(ys:O V)(sT:Ob)(D Cl:ag)(s':ai):Prop
 |mk {C1 C3:Cx} {σ1:Ob} {s1:ai} {items:aB af} (N:Nx [] C s C1 σ1 s1) (H1:Here d A sc env l C1 σ1 s1) (hp:C3.sj=D::Cl::C1.sj) (hN:∀ {a},a∈[D,Cl]->s1.heap.get? a=none) (ne:D≠Cl) (E:Ext [] C1 (C1.back C3) s1.heap s'.heap) (H:Here d A sc env l C3 sT s') (p:s'.heap.PlainList D items) (v:su s'.heap C3 ys items.toList) (hm:∃ m,s'.heap.Ns Cl m)
theorem ON{N ow Y:O ag}{Cl D:ag}{C1 U:Cx}{s0 s1 s4 s2:ai}{h3:aq}{tk:aa}{σ1 sT:Ob}{ys:O V}(N0:Nx [] C s0 C1 σ1 s1)(H1:Here d A sc env l C1 σ1 s1)(hk:∀ {a o},s1.heap.get? a=some o->s4.heap.get? a=some o)(hN:∀ {a},a∈N->s1.heap.get? a=none)
  (E:Ext Y (C1.with N) U s4.heap s2.heap) (hY:∀ {a},a∈Y->a∈N) (J:∀ {a},a∈ow->a∈N) (hCl:Cl∈N) (hD:D∈N) (ne:D≠Cl) (YR:Cl∉ow) (Ce:D∉ow) (I:Inv U sT s2) (p:∃ items,s2.heap.PlainList D items/\su s2.heap U ys items.toList) (hm:∃ m,s2.heap.Ns Cl m) (vr:xi ow s2.heap h3):
  wS d A sc env l C s0 ys sT D Cl {s2 with heap:=h3,toks:=tk}:=
 have hp:U.sj=N++C1.sj:=E.sj;have old:∀ {a},a∈C1.sj->a∉N:=λha=>Cc H1.I hN ha;have pick:∀ {a},a∈D::Cl::C1.sj->a∈U.sj/\a∉ow:=λha=>(aW.mp ha).elim (λz=>z▸⟨hp▸aG.mpr (.inl hD),Ce⟩) λha=>(aW.mp ha).elim (λz=>z▸⟨hp▸aG.mpr (.inl hCl),YR⟩) λha=>⟨hp▸aG.mpr (.inr ha),λz=>old ha (J z)⟩;have inN:∀ {a},a∈ow->a∈U.sj:=λha=>hp▸aG.mpr (.inl (J ha));have S2:uj s2.heap U h3 ⟨U.mu,D::Cl::C1.sj⟩:=CV (λha=>(pick ha).1) inN vr;have EL:Ext [] C1 (C1.back U) s1.heap h3:= .J6 (λha=>H1.I.there (th ha)) hk hN (λha=> .inl (hY ha)) E λb o hb e=>vr b o (λz=>hb (J z)) e
 have R:=H1.env.VL (((w6 hk λha=>hN ha).trans E.stp λe=>⟨_,hk e⟩).trans S2 λe=>E.live (hk e)) λu=>have h:=yx H1.env u
  ⟨.tail _ (.tail _ h),λx=>yg (E.ns (aG.mpr (.inr h)) (λz=>old h (hY z)) (yg x λy y y=>aT hk)) λo y y=>aT (vr _ o λz=>old h (J z)),
   λx=>(E.cell (aG.mpr (.inr h)) (λz=>old h (hY z)) (x.imp λy=>aT hk)).imp λo=>aT (vr _ o λz=>old h (J z))⟩
 p.elim λitems r=> .mk (C3:=⟨U.mu,D::Cl::C1.sj⟩) N0 H1 rfl (λha=>(aW.mp ha).elim (λz=>z▸hN hD) λha=>aR.mp ha▸hN hCl) ne EL (.of H1.A (I.drop (λha=>(pick ha).1) inN (λha=>(pick ha).2) vr) R ((H1.pl.frs.ext EL λy y z=>nomatch z).mono (λy ha=> .tail _ (.tail _ ha)) λy m y h=>⟨m,h⟩))
  (r.1.imp λy=>vr D _ Ce) (r.2.step S2) (hm.imp λy x=>yg x λo y y=>aT (vr _ o YR))
end
section
variable{d:aa}{A:az}{X Y:O ag}{C C':Cx}{σ:Ob}{s:ai}{α β γ:Type}{sc:Sc}{F:Fn}{env:aD}{l:Loc}
theorem Nb{l:Loc}{j k:aa}:Loc.get (l.set j none) k=if k=j then none else l.get k:=by
 unfold Loc.get;rw[O.getElem?_set]
 by_cases e:j=k
 ·rw[aN e,aN e.symm];cases aa.decLt j l.length with|isTrue h=>rw[aN h]|isFalse h=>rw[aI h]
 ·rw[aI e,aI λz=>e z.symm]
theorem Bp{k:aa}{V:V}:∀ {ks:O aa} {l:Loc},(vo ks l).get k=some V->l.get k=some V
 |[],_,h=>h
 |j::ks,l,h=>by
  have z:=Bp (ks:=ks) (l:=l.set j none) h;rw[Nb] at z
  split at z
  ·exact nomatch z
  ·exact z
theorem C9{k:aa}:∀ {ks:O aa} {l:Loc},k∈ks->(vo ks l).get k=none
 |j::ks,l,h=>by
  cases e:(vo (j::ks) l).get k with
  |none=>rfl
  |some V=>
   have e:(vo ks (l.set j none)).get k=some V:=e;exact(aW.mp h).elim (λz=>by have y:=Bp e;rw[Nb,aN z] at y;cases y) λz=>nomatch (C9 z).symm.trans e
theorem Uc{h h':aq}(hk:∀ {a o},h.get? a=some o->h'.get? a=some o)(hm:C'.mu=C.mu)(hp:∀ {a},a∈C'.sj->a∈C.sj\/h.get? a=none):uj h C h' C':=
 ⟨λy=>hk,λa ha=>(aG.mp ha).elim (λz=> .inl (aG.mpr (.inl (hm▸z)))) λz=>(hp z).imp_left th,λe=>hm▸e⟩
def CompUse(A:az)(use:ax (af->aM bi))(Q:VS)(D Cl:ag)(s':ai):Prop:=match use with
 |none=>∀ h',b9 Cl s'.heap h'->Q (.ref D) {s' with heap:=h'}
 |some u=>ak sB A (u (.ref D)) (λz s''=>∃ m,s''.heap.Ns Cl m/\∀ h',b9 Cl s''.heap h'->Q .none {s'' with heap:=h'}) tg s'
theorem It{elt:au}{gens:O bf}{scope:aQ}{pos p2:aK}{own:O (am×aa)}{me:ME}{tM:O MG}(K:zJ d F sc elt scope own me gens tM)(H:Here d A sc env l C σ s):
  Al (wu F tM (single (rZ F me)) (vo (own.map (·.2)) l) σ) λys sT=>ys.length<=lim->∀ {use:ax (af->aM bi)} {Q:VS},(∀ D Cl s',wS d A sc env l C s ys sT D Cl s'->CompUse A use Q D Cl s')->
   ak sB A (comprehension (.ListComp elt gens scope pos) scope env p2 (newList []) (firstAsync gens) (firstIter gens env) use) Q tg s:=
 zJ.casesOn (motive:=λgens tM w=>Al (wu F tM (single (rZ F me)) (vo (own.map (·.2)) l) σ) λys sT=>ys.length<=lim->∀ {use:ax (af->aM bi)} {Q:VS},(∀ D Cl s',wS d A sc env l C s ys sT D Cl s'->CompUse A use Q D Cl s')->
   ak sB A (comprehension (.ListComp elt gens scope pos) scope env p2 (newList []) (firstAsync gens) (firstIter gens env) use) Q tg s) K λ{g t mi ifs ks js rest vL} ok he ha hns ht hto FK hI hr hkj hown=>by
 have H0:Here d A sc env (vo (own.map (·.2)) l) C σ s:=⟨H.pl,H.env.weak λw w h=>Bp h⟩
 refine Al.bind (m:=wc F mi (vo (own.map (·.2)) l)) (f:=λxs=>wt (xQ F (.g t mi ifs) (wu F vL (single (rZ F me))) (vo (own.map (·.2)) l)) xs) ?_
 refine(hI H0).imp λxs σ1 h1=> .intro λys sT e hlen use Q hQ=> ?_;have fa:firstAsync (g::rest)=false:=by cases g;exact(av (·!=0) ha:)
 have fi:firstIter (g::rest) env=eval g.iter env:=by cases g;exact PySem.arm_firstIter_cons ..
 rw[fa,fi];refine wpAny_comprehension_free (use:=use) (cl:=uF scope env) rfl (hns env) (OJ (Hx ok H.env)) ok.kind (λx hx hl=>(uk ok.nodup (show(x.1,x.2)∈scope.names from hx)).trans (av some hl)) ?_
 refine aO h1 (λx s1a h=>h.elim λC1 h=>h.elim λs1 r=>r.2 λit s2 hgs=>DV.casesOn (motive:=λw=>ak _ _ _ _ _ _) hgs λ{J St Su} KS h0 U hN hos YQ=> ?_) λw w=>bP;have H1:=H.next r.1;have H2:Here d A sc env l (C1.with J) σ1 s2:=H1.enter U (λha=>⟨hN ha,(KS.alive h0 _ ha).imp λw=>cP⟩) hos YQ
 refine fx (OK ?_) (cg _);have Bo:s2.heap.get? s2.heap.objs.size=none:=w7 _;have H3:Here d A sc env l ((C1.with J).with [s2.heap.objs.size]) σ1 {s2 with heap:=s2.heap.push {cls:= .type "list",data:= .seq ([]:O af).toArray}}:=H2.enter vB (λha=>aR.mp ha▸⟨⟨Bo,H2.pl.above⟩,_,a8 _ rfl⟩) rfl rfl
 have Z:=QR (own:=own) (l':=vo (own.map (·.2)) l) ok H3 (λw w h=>Bp h) λp hp=>C9 (bG.mpr ⟨p,hp,rfl⟩)
 have pD:(s2.heap.push {cls:= .type "list",data:= .seq ([]:O af).toArray}).PlainList s2.heap.objs.size #[]:=⟨_,a8 _ rfl⟩;show bo _ A (.compStart _ 0 it (.ref s2.heap.objs.size) (compEnv (relabel scope env) (uF scope env) (s2.heap.push {cls:= .type "list",data:= .seq ([]:O af).toArray}) scope.names env)) (compPost _ A tg use Q (.ref s2.heap.objs.size) (s2.heap.push {cls:= .type "list",data:= .seq ([]:O af).toArray}).objs.size) {s2 with heap:=vC (s2.heap.push {cls:= .type "list",data:= .seq ([]:O af).toArray}) scope.names}
 rw[T8 H.env.scope];have Gv:∀ {a o},s2.heap.get? a=some o->(s2.heap.push {cls:= .type "list",data:= .seq ([]:O af).toArray}).get? a=some o:=vB;revert Z pD Gv;generalize s2.heap.push {cls:= .type "list",data:= .seq ([]:O af).toArray}=h3;revert Bo;generalize s2.heap.objs.size=D;intro Bo Z pD Gv;have hC:((C1.with J).with [D]).with (wx scope h3)=C1.with (wx scope h3++D::J):=av (Cx.mk C1.mu) (cf (wx scope h3) (D::J) C1.sj).symm
 rw[hC] at Z
 have QV:∀ {a o},h3.get? a=some o->(vC h3 scope.names).get? a=some o:=Ds;have dead:∀ {a},a∈wx scope h3->∀ {o},h3.get? a=some o->bM:=λha w e=>nomatch (Z.2.1 ha).1.symm.trans e
 have hDN:D∉wx scope h3:=λz=>pD.elim λw e=>dead z e;have owA:∀ {a},a∈J->∃ o,s2.heap.get? a=some o:=λha=>(KS.alive h0 _ ha).imp λw=>cP;have YS:D∉J:=λz=>(owA z).elim λw e=>nomatch Bo.symm.trans e
 have YT:∀ {a},a∈J->a∉wx scope h3:=λha z=>(owA ha).elim λw e=>dead z (Gv e);have off:Off (compEnv (yn scope sc.scope) (uF scope env) h3 scope.names env) (sc.comp scope own) J:=λu hz=>u.elim (λz=>YT hz (z▸ .head _)) λ⟨y,j,e1,e2,e3⟩=> ?_;have up:∀ {a},a∈J->a∈wx scope h3++D::J:=λha=>aG.mpr (.inr (.tail _ ha));have S24:uj s2.heap (C1.with J) (vC h3 scope.names) (C1.with (wx scope h3++D::J)):=Uc (λe=>QV (Gv e)) rfl λ{a} ha=>(aG.mp ha).elim (λha=>(aG.mp ha).elim (λz=> .inr (match e:s2.heap.get? a with|none=>rfl|some o=>(dead z (Gv e)).elim)) λz=>(aW.mp z).elim (λz=> .inr (z▸Bo)) λz=> .inl (aG.mpr (.inl z))) λz=> .inl (aG.mpr (.inr z))
 have old:∀ {a},a∈wx scope h3++D::J->s1.heap.get? a=none:=λ{a} ha=>match e:s1.heap.get? a with
  |none=>rfl
  |some o=>((aG.mp ha).elim (λz=>dead z (Gv (U e))) λz=>(aW.mp z).elim (λz=>nomatch (z▸Bo).symm.trans (U e)) λz=>nomatch (hN z).1.symm.trans e).elim
 have loop:=(Ir (elt:=elt) (gens:=g::rest) (scope:=scope) (pos:=pos) (it:=it) (k:=0) (D:=D) (x7:=[]) rfl ha ht hto FK (QU he hr (k:=0) rfl) hkj ⟨Z.1,aG.mpr (.inl (aG.mpr (.inr (.head _)))),λz=>hDN (Z.2.2 z), #[],pD.imp λw=>QV, .nil⟩ KS (KS.keep h0 S24 λw w w e=>QV (Gv e))
  (λha=>aG.mpr (.inl (up ha))) off YS λj hj=>C9 (hown j hj)).get e (aw (bF (ia _)) hlen)
 ·have fin:bo sB A (.compLoop (.ListComp elt (g::rest) scope pos) 0 it (.ref D) (compEnv (yn scope sc.scope) (uF scope env) h3 scope.names env)) (compPost sB A tg use Q (.ref D) h3.objs.size) {s2 with heap:=vC h3 scope.names}:=dO loop λrs s' hr=>by
   cases rs with
   |error _=>exact hr.elim
   |ok f=>
    refine CompEnd.casesOn (motive:=λs' w=>compPost sB A tg use Q (.ref D) h3.objs.size (.ok f) s') hr λ{s5 h6 tk C5} E5 a5 hk6=> ?_;have ns5:∃ m,s5.heap.Ns h3.objs.size m:=a5.H.env.locs.imp λw r=>r.1;have res:=ON (tk:=tk) r.1 H1 (λe=>QV (Gv (U e))) old E5 (λ{a} ha=>(aG.mp ha).elim (λz=>(aW.mp z).elim (λz=>z▸aG.mpr (.inr (.head _))) λz=>aG.mpr (.inl (Z.2.2 z))) up) up (aG.mpr (.inl (.head _):h3.objs.size∈wx scope h3\/_)) (aG.mpr (.inr (.head _))) (λz:D=h3.objs.size=>hDN (z▸ .head _)) (λz=>YT z (.head _)) YS a5.H.I a5.p ns5 hk6;have z:=hQ _ _ _ res;cases use with
    |none=>exact(wS.casesOn (motive:=λw=>∃ m,h6.Ns h3.objs.size m) res λw w w w w w w w w hm=>hm).imp λw hm=>⟨hm,z⟩
    |some u=>exact z
  exact DY (A:=A) rfl ha rfl fin (KS.self (KS.keep h0 S24 λw w w e=>QV (Gv e)) fin)
 ·have e3:(uN scope h3++uF scope env).lookup y=some _:=e3
  rw[vK] at e3
  cases e:(uN scope h3).lookup y with
  |some v=>rw[e] at e3;exact YT hz (.tail _ (bG.mpr ⟨_,lookup_mem e,aE e3⟩))
  |none=>
   rw[e] at e3
   have q:=Ke (lookup_mem (e3:(uF scope env).lookup y=some _));have g:=ok.frees _ q.1 rfl;exact(fB.mp g.2.1).elim λj' hj'=>DW H1 (λha=>(hN ha).1) (.inr ⟨y,j',hj',g.2.2,(Hx ok H.env _ q.1 rfl).trans (av some q.2.symm)⟩) hz
end
section
variable{d:aa}{A:az}{X Y:O ag}{C C':Cx}{σ:Ob}{s:ai}{α β γ:Type}{sc:Sc}{F:Fn}{env:aD}{l:Loc}
theorem Ext.finish{C1 C3 C5:Cx}{N:O ag}{h ha hb hc:aq}(J:Ext [] C1 (C1.back C3) h ha)(hp:C3.sj=N++C1.sj)(hN:∀ {a},a∈N->h.get? a=none)(U:Ext X C3 C5 ha hb)(hk:xi N hb hc)(al:∀ {a},a∈C1.sj->∃ o,h.get? a=some o):Ext X C1 (C1.back C5) h hc:=
 have fr:∀ {a o},h.get? a=some o->a∉N:=λe z=>nomatch (hN z).symm.trans e
 have inP:∀ {a},a∈C1.sj->a∈C3.sj:=λha=>hp▸aG.mpr (.inr ha)
 {sj:=rfl
  mu:=J.mu.elim λn1 e=>U.mu.elim λn2 e'=>⟨n1++n2,e'.1.trans ((av (·++n2) e.1).trans (cf ..)),λa ha=>by
   rw[wQ,aG] at ha
   refine ha.elim (e.2 a) λha=> ?_;cases hg:h.get? a with
   |none=>rfl
   |some o=>exact(J.live hg).elim λy z=>nomatch z.symm.trans (e'.2 a ha)⟩
  keep:=λ{a o} n e=>hk _ _ (fr e) (U.keep (λz=>(aG.mp z).elim (λz=>J.stp.off n e (aG.mpr (.inl z))) λz=>(aG.mp (hp▸z)).elim (fr e) λz=>n (th z)) (J.keep n e))
  ns:=λha hx e=>yg (U.ns (inP ha) hx (J.ns ha (λz=>nomatch z) e)) λo y y=>aT ((al ha).elim λy e'=>hk _ o (fr e'))
  obj:=λha hx nd e=>hk _ _ (fr e) (U.obj (inP ha) hx nd (J.obj ha (λz=>nomatch z) nd e))
  live:=λe=>(J.live e).elim λy e1=>(U.live e1).imp λo=>hk _ o (fr e)}
inductive AI(d:aa)(A:az)(sc:Sc)(env:aD)(l:Loc)(C:Cx)(s:ai)(W:V)(DZ:Ob)(D Cl:ag)(s':ai):Prop
 |mk {C1 C3:Cx} {σ1:Ob} {s1:ai} (N:Nx [] C s C1 σ1 s1) (H1:Here d A sc env l C1 σ1 s1) (hp:C3.sj=Cl::C1.sj) (hN:∀ {a},a∈[Cl]->s1.heap.get? a=none) (E:Ext [] C1 (C1.back C3) s1.heap s'.heap) (H:Here d A sc env l C3 DZ s') (hv:sg s'.heap C3 W (.ref D)) (hm:∃ m,s'.heap.Ns Cl m)
variable{ys:O V}{sT DZ:Ob}{D Cl:ag}{s':ai}{W:V}
theorem wS.to{P:Prop}(z:wS d A sc env l C s ys sT D Cl s')(k:∀ {C1 C3:Cx} {items:aB af},C3.sj=D::Cl::C1.sj->D∉Cl::C1.sj->s'.heap.PlainList D items->su s'.heap C3 ys items.toList->Inv C3 sT s'->
   (∀ {W DZ nu},Inv ⟨C3.mu++nu,Cl::C1.sj⟩ DZ s'->uj s'.heap C3 s'.heap ⟨C3.mu++nu,Cl::C1.sj⟩->(∀ {a},a∈owned nu->a=D)->sg s'.heap ⟨C3.mu++nu,Cl::C1.sj⟩ W (.ref D)->AI d A sc env l C s W DZ D Cl s')->P):P:=
 wS.casesOn (motive:=λy=>P) z λ{C1 C3 σ1 s1 items} N H1 hp hN ne E H p v hm=>k hp (λz=>(aW.mp z).elim ne λz=>(H1.I.there (th z)).elim λy e=>nomatch (hN (.head _)).symm.trans e) p v H.I λ{W DZ nu} I S ho hv=>
  .mk N H1 rfl (λha=>hN (.tail _ ha)) (C3:=⟨C3.mu++nu,Cl::C1.sj⟩) {E with
   sj:=rfl
   mu:=E.mu.elim λn e=>⟨n++nu,(av (·++nu) e.1).trans (cf ..),λa ha=>by
    rw[wQ,aG] at ha
    exact ha.elim (e.2 a) λz=>ho z▸hN (.head _)⟩} (.of H1.A I (H.env.move S λu=>⟨.tail _ (yx H1.env u),λy e=>e⟩) ((H1.pl.frs.ext E λy y z=>nomatch z).mono (λy ha=> .tail _ ha) λy m y h=>⟨m,h⟩)) hv hm
theorem wS.lst(z:wS d A sc env l C s ys sT D Cl s'):AI d A sc env l C s (.lst ys) sT D Cl s':=z.to λ{C1 C3 items} hp hD p v I k=>by
 have up:∀ {a},a∈Cl::C1.sj->a∈C3.sj:=λha=>hp▸ .tail _ ha;have S:uj s'.heap C3 s'.heap ⟨C3.mu++[],Cl::C1.sj⟩:=(bY C3.mu).symm▸CV (N:=[]) up (λz=>nomatch z) λy y y e=>e
 exact k (nu:=[]) ((bY C3.mu).symm▸I.drop (N:=[]) (tk:=s'.toks) up (λz=>nomatch z) (λy z=>nomatch z) λy y y e=>e) S (λz=>nomatch z) (.lst (λz=>(aG.mp z).elim (λz=>I.wE (hp▸ .head _) ((bY C3.mu)▸z)) hD) p (v.step S))
theorem wS.own(z:wS d A sc env l C s ys sT D Cl s'):AI d A sc env l C s (.ref sT.length) (sT++[.lst ys]) D Cl s':=z.to λ{C1 C3 items} hp hD p v I k=>by
 have up:∀ {a},a∈Cl::C1.sj->a∈C3.sj:=λha=>hp▸ .tail _ ha;have J:D∈C3.sj:=hp▸ .head _
 have S:uj s'.heap C3 s'.heap ⟨C3.mu++[(D,[])],Cl::C1.sj⟩:=⟨λy e=>e,λa ha=> .inl ((aG.mp ha).elim (λz=>by
  rw[Bn] at z
  exact(aG.mp z).elim (λz=>aG.mpr (.inl z)) λz=>aR.mp z▸th J) λz=>th (up z)),λ{i p} e=>(dq (bD.mp e).1).trans e⟩
 have q:=I.add (p:=(D,[])) (m':= .lst ys) (C':=⟨C3.mu++[(D,[])],Cl::C1.sj⟩) (s':=s') rfl (λe=>e) (b7.mpr ⟨ba,c6⟩) (λha=>⟨up ha,λz=>hD ((aR.mp z:_=D)▸ha)⟩)
  (λha=>(aR.mp ha:_=D)▸⟨I.wE J,I.above (th J),I.there (th J)⟩) S (.lst p (v.step S)) rfl rfl
 exact k q.1 S (λz=>aR.mp z) (.ref q.2)
theorem Iv{C1 C3 J:Cx}{σ1 AV:Ob}{s1 U:ai}{h':aq}(N:Nx [] C s C1 σ1 s1)(H1:Here d A sc env l C1 σ1 s1)(hp:C3.sj=Cl::C1.sj)(hN:∀ {a},a∈[Cl]->s1.heap.get? a=none)(E:Ext [] C1 (C1.back C3) s1.heap s'.heap)(E5:Ext X C3 J s'.heap U.heap)(I5:Inv J AV U)(S:b9 Cl U.heap h'):
  Nx X C s (C1.back J) AV {U with heap:=h'}/\uj U.heap J h' (C1.back J):=
 have hk:=xH S;have J9:J.sj=[Cl]++C1.sj:=E5.sj.trans hp
 ⟨⟨(N.E.mono λz h=>nomatch h).trans (E.finish (N:=[Cl]) hp hN E5 hk λha=>H1.I.there (th ha)),H1.I.leave I5 J9 hN hk⟩,Bk J9 hk⟩
def WY(d:aa)(A:az)(sc:Sc)(env:aD)(l:Loc)(C:Cx)(s:ai)(elt:au)(gens:O bf)(scope:aQ)(pos p2:aK)(W:V)(DZ:Ob):Prop:=∀ {use:ax (af->aM bi)} {Q:VS},(∀ D Cl s',AI d A sc env l C s W DZ D Cl s'->CompUse A use Q D Cl s')->
 ak sB A (comprehension (.ListComp elt gens scope pos) scope env p2 (newList []) (firstAsync gens) (firstIter gens env) use) Q tg s
theorem Kh(b:aj){elt:au}{gens:O bf}{scope:aQ}{pos p2:aK}{own:O (am×aa)}{me:ME}{tM:O MG}(K:zJ d F sc elt scope own me gens tM)(H:Here d A sc env l C σ s):
  Al (xD F (if b then .own (.comp (own.map (·.2)) me tM) else .e (.comp (own.map (·.2)) me tM)) l σ) (WY d A sc env l C s elt gens scope pos p2):=by
 cases b with
 |false=>
  refine Al.bind (m:=wu F tM (single (rZ F me)) (vo (own.map (·.2)) l)) (f:=CG) ((It (pos:=pos) (p2:=p2) K H).imp λys sT z=>Al.guard (m:=M.pure (V.lst ys)) λJ=> ?_)
  exact λU=>z (aP J) λD Cl s' r=>U D Cl s' r.lst
 |true=>
  refine Al.bind (m:=M.bind (wu F tM (single (rZ F me)) (vo (own.map (·.2)) l)) CG) (f:=zi) (Al.bind ((It (pos:=pos) (p2:=p2) K H).imp λys sT z=>Al.guard (m:=M.pure (V.lst ys)) λJ=> ?_))
  exact λU=>z (aP J) λD Cl s' r=>U D Cl s' r.own
theorem Iw(b:aj){elt:au}{gens:O bf}{scope:aQ}{pos:aK}{own:O (am×aa)}{me:ME}{tM:O MG}{ks:O aa}(J:ks=own.map (·.2))(K:zJ d F sc elt scope own me gens tM):ya d F sc (.ListComp elt gens scope pos) (if b then .own (.comp ks me tM) else .e (.comp ks me tM)):=λ{A C σ s env l} H=>by
 subst J;refine Al.imp (Kh (pos:=pos) (p2:=firstIterPos gens pos) b K H) λW DZ z=> ?_;exact z λD Cl s' r h' S=>AI.casesOn (motive:=λy=>sY [] C s (RV) W DZ (.ref D) {s' with heap:=h'}) r λN H1 hp hN E H hv hm=>have q:=Iv N H1 hp hN E .refl H.I S; .mk q.1 (hv.step q.2)
theorem QW{elt:au}{gens:O bf}{scope:aQ}{pos:aK}{own:O (am×aa)}{me:ME}{tM:O MG}{ks:O aa}(J:ks=own.map (·.2))(K:zJ d F sc elt scope own me gens tM):sA d F sc (.ListComp elt gens scope pos) (.comp ks me tM):=Iw false J K
theorem Ki{es:O au}{sU:O ME}{pos:aK}(hs:∀ e∈es,s9 e)(U:es.length<=64)(h:tj (sA d F sc) es sU):ya d F sc (.List es pos) (.own (.list sU)):=λ{A C σ s env l} H=>by
 show r0 A [] C σ s (M.bind (M.bind (sR F sU l) λvs=>M.pure (.lst vs)) zi) _ _;rw[M.bind_assoc];exact r0.standAt ((xe (pos:=pos) hs h H).tD H λxs vs C' σ' s' H S J=>(fx (Jo (m':= .lst xs) H.pl rfl rfl rfl λS=> .lst ⟨_,a8 _ rfl⟩ (J.1.step S)) (CQ J U):r0 A [] C' σ' s' (un (.lst xs)) _ _))
theorem aaO{prog:a9}{w:a0}{E:VS}{l:ag}{v:af}{x:ae}{u:bk}{Q:VS}(hl:s.heap.IsList l #[v])(hlo:0<=x)(J:x<=64)
  (h:Q (.ref s.heap.objs.size) {s with heap:=s.heap.push {cls:= .type "list",data:= .seq (cI x.toNat v).toArray}}):ak (aA prog w) A (binaryOp .Mult (.ref l) (.int x u)) Q E s:=by
 obtain⟨o,ho,hcl,k,hd⟩:=id hl;obtain⟨cls,d,data,sl⟩:=o;simp only at hcl hd
 subst hcl hd;have hT:s.TypeIs (.ref l) "list":=⟨_,ho,rfl⟩;refine wpAny_binaryOp_repeat_ref (T:="list") (U:="int") (by decide) hT (λs'=>nr s' x u) noFill_list_mul F.fills_int_mul nv repeat_list F.slot_int_index.lookup ?_
 refine gc nv (nr s x u) F.entry_int_rmul (F.args_int_rmul_2 _ _) (lm_int_rmul_list_any x u l #[v] k d sl) ⟨ho,rfl,hT, ?_⟩;refine gc F.slot_list_mul hT F.entry_list_mul (F.args_list_mul_2 _ _) (lm_list_mul_any l #[v] k d sl x u (by simp[rb];exact⟨bK (by decide) hlo,fU J (by decide)⟩) (by have:(#[v]:aB af).size=1:=rfl;rw[this];exact cm.mpr (aw (bF (kb _)) (aw (ae.toNat_le.mpr J) (by decide)))) (by have:(#[v]:aB af).size=1:=rfl;simp only[rc,this,sizeLine];simp;exact bK J (by decide))) ⟨ho, ?_⟩
 rw[listMul_foldl_if,show(#[v]:aB af).toList=[v] from rfl,JR]
 exact h
theorem Gw{f:ae->M α}{g:α->M β}{y:V}:M.bind (sS f y) g=sS (λi=>M.bind (f i) g) y:=by cases y<;>rfl
theorem OO{x y:V}{v u:af}(P:At d A C σ s)(hx:sg s.heap C x v)(hy:sg s.heap C y u):r0 A X C σ s (M.bind (CD y x) zi) (binaryOp .Mult v u) (RV):=by
 refine sg.casesOn (motive_1:=λx v w=>r0 A X C σ s (M.bind (CD y x) zi) (binaryOp .Mult v u) (RV)) hx ah ah ?_ (λw=>ah) (λw w w=>ah) ?_ (λw w w=>ah) (λw w w w=>ah) (λw w w=>ah) λw=>ah
 ·intro i t
  rw[show CD y (.int i)=sS (λj=>M.guard (smallInt i&&smallInt j) (M.pure (.int (i*j)))) y from rfl,Gw]
  exact .sS (f:=λu=>binaryOp .Mult _ u) hy λj t'=>Al.bind (Al.guard λw=>ah)
 ·intro xs a its n1 J e1
  cases xs with
  |nil=>exact ah
  |cons x r=>
   cases r with
   |cons=>exact ah
   |nil=>
    rw[show CD y (.lst [x])=sS (λn=>M.guard (decide (0<=n)&&decide (n<=64)) (M.pure (.lst (cI n.toNat x)))) y from rfl,Gw]
    refine .sS (f:=λu=>binaryOp .Mult (.ref a) u) hy λn t'=>Al.bind (Al.guard (m:=M.pure (V.lst (cI n.toNat x))) λh=> ?_);have z:∃ v,its.toList=[v]/\sg s.heap C x v:=e1.out (P:=λl=>∃ v,l=[v]/\sg s.heap C x v) λv vs a e=>⟨v,e.out (P:=λl=>v::l=[v]) rfl,a⟩;exact z.elim λv z=>aaO ((el z.1:its= #[v])▸J.isList) (aP (rY h).1) (aP (rY h).2) (Jo (m':= .lst (cI n.toNat x)) P rfl rfl rfl λS=> .lst ⟨_,a8 _ rfl⟩ ((tj.replicate z.2 n.toNat).step S))
theorem Mm{a b:au}{J mb:ME}{pos:aK}(ha:sA d F sc a J)(U:sA d F sc b mb):ya d F sc (.BinOp a .Mult b pos) (.own (.bin .Mult J mb)):=λ{A C σ s env l} H=>by
 show r0 A [] C σ s (M.bind (M.bind (rZ F J l) λx=>M.bind (rZ F mb l) λy=>CD y x) zi) _ _;rw[M.bind_assoc];refine(ha H).tD (f:=λx=>M.bind (M.bind (rZ F mb l) λy=>CD y x) zi) H λx v C' σ' s' H S hv=> ?_;rw[M.bind_assoc];exact(U H).holding.tD H λy u C' σ' s' H S hu=>(OO H.pl (hv.step S) hu).operate.standAt
theorem D3(b:aj){y:am}{U pos J:aK}{k:aa}{elt:au}{gens:O bf}{scope:aQ}{own:O (am×aa)}{me:ME}{tM:O MG}{ks:O aa}(hks:ks=own.map (·.2))
  (hsw:∀ env,env.scope=sc.scope->swapsWith (.ListComp elt gens scope pos) (some (.Name y U)) J.line env=pure true) (hy:sc.takes y k) (K:zJ d F sc elt scope own me gens tM):
  wG d F sc (.Assign [.Name y U] (.ListComp elt gens scope pos) J) (.asg (.var k) (if b then .own (.comp ks me tM) else .e (.comp ks me tM))):=λ{A C σ s env l} H=>by
 subst hks;refine Al.bind (m:=xD F (if b then .own (.comp (own.map (·.2)) me tM) else .e (.comp (own.map (·.2)) me tM)) l) (f:=λv=>M.bind (sO F (.var k) l v) λl'=>M.pure (XR.next l')) ((Kh (pos:=pos) (p2:=firstIterPos gens pos) b K H).imp λW DZ z=>Al.bind (m:=sO F (.var k) l W) (.intro λl2 σ2 e=> ?_))
 show ak sB A _ (sY (r7 env sc) C s (RX env sc) (.next l2) σ2) tg s;rw[exec_Assign_Name_used _ _ _ _ (hsw env H.env.scope)];refine ao (dj (ao ?_));refine ao (aO (z (use:=some (assign (.Name y U) env)) (Q:=λx s'=>sY (r7 env sc) C s (RX env sc) (.next l2) σ2 .next s') λD Cl s' r=> ?_) (λx s' hq=>ay (ay hq)) λx x=>id);refine AI.casesOn (motive:=λx=>CompUse A _ _ D Cl s') r λ{C1 C3 σ1 s1} N H1 hp hN E H3 hv hm=>aO (((Io (pos:=U) hy) H3 hv).get e) (λ_ s5 ⟨N5,R5⟩=> ?_) λx x=>id;have off:Off env sc [Cl]:=DW H1 hN;refine hm.imp λm hm=>⟨N5.E.ns (hp▸ .head _) (λz=>off (FG H1.env z) (.head _)) hm,λh' S=> ?_⟩;have q:=Iv N H1 hp hN E N5.E N5.I S;exact .mk q.1 (.next (R5.move q.2 λu=>⟨yx H1.env u,λo=>xH S _ o (off u)⟩))
end
end
section
theorem forIn_empty{α β γ:Type}{Z:O α}{b:β}{f:α->β->aM (i4 β)}{k:β->aM γ}(h:Z=[]):(forIn Z b f>>=k)=k b:=by cases h;rfl
theorem QX{α β:Type}{L:O α}{D:O β}(h:D=[]):L.zip D=[]:=by rw[h,O.zip_nil_right]
theorem OP{fd:cY}{as:O bp}{vals:O af}(hp:fd.params=⟨[],as,none,[],[],none,[]⟩)(J:fd.defaults= .none){r:aM (O (am×af))}
 (h1:¬ (decide (vals.length>(as.map ci).length)&&true)=true) (h2:¬ (!(((as.map ci).take ((as.map ci).length - (([]:O af).drop (0 - (as.map ci).length)).length)).filter λn=>(((as.map ci).zip vals).lookup n).isNone).isEmpty)=true)
 (h3:(pure ((as.map ci++[]).filterMap λn=>(((as.map ci).zip vals).lookup n).map (n, ·)):aM (O (am×af)))=r):bindArgs fd ⟨vals,[]⟩=r:=by
 cases fd;subst hp;subst J;refine iG (aI h1) (iG (aI h2) ?_);refine iG (forIn_empty (QX ix)) ?_;exact h3
theorem Hz{α β:Type}{ps:O α}:∀ {vs:O β},ps.length=vs.length->(ps.zip vs).map (·.1)=ps:=by
 induction ps with
 |nil=>exact λz=>rfl
 |cons p ps J=>
  intro vs h;cases vs with
  |nil=>cases h
  |cons v vs=>exact av (p:: ·) (J (dh h))
theorem FN{α β:Type}[BEq α][fY α]{l:O (α×β)}(nd:(l.map (·.1)).Nodup){l':O (α×β)}:(∀ p∈l',p∈l)->((l'.map (·.1)).filterMap λn=>(l.lookup n).map (n, ·))=l':=by
 induction l' with
 |nil=>exact λz=>rfl
 |cons p l' J=>
  intro h;rw[fw,jI,uk nd (show(p.1,p.2)∈l from h p (.head _))]
  exact av (p:: ·) (J λq U=>h q (.tail _ U))
theorem Gx{fd:cY}{as:O bp}{vals:O af}(hp:fd.params=⟨[],as,none,[],[],none,[]⟩)(U:fd.defaults= .none)(nd:(as.map ci).Nodup)(hl:as.length=vals.length):bindArgs fd ⟨vals,[]⟩=pure ((as.map ci).zip vals):=by
 have J:(as.map ci).length=vals.length:=by rw[aH];exact hl
 have e0:=Hz J;refine OP hp U ?_ ?_ ?_
 ·rw[J,cn (bT _)];exact b0
 ·rw[i5.mpr λn hn hz=> ?_]
  ·exact b0
  ·have hn:=e0▸ke hn
   exact(bG.mp hn).elim λp hp=>by
    rw[<-hp.2,uk (e0.symm▸nd) (show(p.1,p.2)∈_ from hp.1)] at hz
    exact aC hz b0
 ·rw[bY]
  exact av pure ((av (λps=>iD (λn=>(((as.map ci).zip vals).lookup n).map (n, ·)) ps) e0.symm).trans (FN (e0.symm▸nd) λz h=>h))
section
variable{kindOf:am->ax cL}{x:am}{v:af}{binds:O (am×af)}
theorem OQ:∀ {m:am->ax af},x∉binds.map (·.1)->bindL kindOf binds m x=m x:=by
 induction binds with
 |nil=>exact λy=>rfl
 |cons p r J=>
  intro m h;refine(J λz=>h (.tail _ z)).trans ?_;split
  ·exact aI λz:x=p.1=>h (z▸ .head _)
  ·rfl
theorem QY(hk:kindOf x=some .local):∀ {m:am->ax af},(binds.map (·.1)).Nodup->(x,v)∈binds->bindL kindOf binds m x=some v:=by
 induction binds with
 |nil=>exact λy h=>nomatch h
 |cons p r J=>
  intro m nd h;have z:=b7.mp (nd:(p.1::r.map (·.1)).Nodup)
  refine(aW.mp h).elim (λh=> ?_) (J z.2);subst h;refine(OQ z.1).trans ?_;rw[aN hk];exact aN rfl
theorem OR:∀ {m:am->ax af},x∉binds.map (·.1)->bindC kindOf binds m x=m x:=by
 induction binds with
 |nil=>exact λy=>rfl
 |cons p r J=>
  intro m h;refine(J λz=>h (.tail _ z)).trans ?_;split
  ·rfl
  ·exact aI λz:x=p.1=>h (z▸ .head _)
theorem QZ(hk:kindOf x≠some .local):∀ {m:am->ax af},(binds.map (·.1)).Nodup->(x,v)∈binds->bindC kindOf binds m x=some v:=by
 induction binds with
 |nil=>exact λy h=>nomatch h
 |cons p r J=>
  intro m nd h;have z:=b7.mp (nd:(p.1::r.map (·.1)).Nodup)
  refine(aW.mp h).elim (λh=> ?_) (J z.2);subst h;refine(OR z.1).trans ?_;rw[aI hk];exact aN rfl
end
theorem Q0(n:aa):∀ k,Loc.get (cI n none) k=none:=by
 induction n with
 |zero=>exact λz=>rfl
 |succ n J=>exact λk=>match k with
  |0=>rfl
  |k+1=>J k
theorem Q1{n:aa}{args:O V}:∀ k,Loc.get (args.map some++cI n none) k=args[k]?:=by
 induction args with
 |nil=>exact Q0 n
 |cons a args J=>exact λk=>match k with
  |0=>rfl
  |k+1=>J k
def Sc.fn(r:MF)(scope:aQ):Sc:=⟨scope,r.names,Iq scope⟩
inductive FnAt(a:ag)(scope:aQ)(as:O bp)(body:O aF):Prop
 |mk {o:aL} {fd:cY} (ho:G.h0.get? a=some o) (hdata:o.data= .func fd) (hcode:G.h0.CodeRec fd.code fd.qualname) (hbody:fd.body= .stmts body) (hclo:fd.closure=[]) (VQ:fd.globals=bV) (YU:fd.builtins=ei) (hpar:fd.params=⟨[],as,none,[],[],none,[]⟩) (hdef:fd.defaults= .none) (hsc:fd.scope=scope)
structure Kj(a:ag)(r:MF)(scope:aQ)(as:O bp)(body:O aF):Prop where
 at_:FnAt a scope as body
 lim:G.h0.NoLimit
 kind:scope.kind= .function
 co:scope.isCoroutine=false
 gen:scope.isGenerator=false
 names:(scope.names.map (·.1)).Nodup
 VR:(r.names.map (·.2)).Nodup
 nargs:r.nargs=as.length
 D4:∀ (i:aa) (a:am),(as.map ci)[i]?=some a->r.names.lookup a=some i
 abg:∀ a∈as.map ci,scope.names.lookup a=some .local\/scope.names.lookup a=some .cell
 YV:(as.map ci).Nodup
 OG:∀ p∈scope.names,p.2= .cell->(r.names.lookup p.1).isSome
 YW:∀ p∈scope.names,p.2≠ .free
structure FO(d:aa)(A:az):Prop where
 handled:A.handled=none
 depth:A.depth+4*d+6<=1000
 units:A.units+40*d+20<=9000
structure Fc(d:aa)(A:az)(C:Cx)(σ:Ob)(s:ai):Prop where
 A:FO d A
 I:Inv C σ s
 sz:G.h0.objs.size<=s.heap.objs.size
 frs:uM ‹az› C.sj s.heap
section
variable{d:aa}{A:az}{X Y:O ag}{C C':Cx}{σ:Ob}{s:ai}{α β γ:Type}{sc:Sc}{F:Fn}{env:aD}{l:Loc}
theorem FO.room(a:FO d A):A.depth<recursionLimit:=bw (bw (gG (by decide:0<6)) (cO (aV _ (4*d)) 6)) a.depth
theorem yG.f(h:yG d A):FO d A:=⟨h.handled,jA (k:=2) h.depth,jA (k:=20) h.units⟩
theorem At.f(P:At d A C σ s):Fc d A C σ s:=⟨P.A.f,P.I,P.above,P.frs⟩
theorem Nc{a b c k m q n:aa}(h:c+k<=m+q)(e:a+(b+m)+q<=n):a+c+b+k<=n:=by
 rw[<-dZ a b m,dZ (a+b)] at e
 rw[kh a c b,dZ (a+b)];exact aw (cw h _) e
theorem FO.down{env:aD}(h:FO (d+1) A):yG d (A.deeper env):=⟨h.handled,Nc (m:=4) (by decide) h.depth,Nc (m:=40) (by decide) h.units⟩
theorem WZ{a:ag}{r:MF}{scope:aQ}{as:O bp}{body:O aF}{args:O V}{us:O af}{s1:ai}{d':aa}(D:Kj a r scope as body)(e1:env.scope=scope)(e2:env.locals=s.heap.objs.size)(efr:env.frame=some env.locals)(e3:env.cells=uN scope s.heap)(e4:env.globals=bV)(e5:env.builtins=ei)
  (P:Fc d A C σ s) (hu:su s.heap C args us) (hl:args.length=r.nargs) (hA:yG d' (A.deeper env)) (I:InCallC s env.locals (bindL env.kindOf ((as.map ci).zip us) λy=>none) env.cells (bindC env.kindOf ((as.map ci).zip us) λy=>none) s1):
  Here d' (A.deeper env) (Sc.fn r scope) env (uZ r args) (C.with (r7 env (Sc.fn r scope))) σ s1/\(∀ {b},b∈r7 env (Sc.fn r scope)->s.heap.get? b=none):=by
 have hk:∀ {a o},s.heap.get? a=some o->s1.heap.get? a=some o:=I.toInCall.keep _ _;have cell:∀ {x b},env.cells.lookup x=some b->s.heap.objs.size<=b/\∃ o,s1.heap.get? b=some o:=λh=>⟨e2▸bB (I.above _ _ (lookup_mem h)),(I.cell _ _ h).imp λy=>cP⟩;have hN:∀ {b},b∈r7 env (Sc.fn r scope)->s.heap.objs.size<=b/\∃ o,s1.heap.get? b=some o:=λJ=>(aW.mp J).elim (λz=>z▸⟨bF e2.symm,uv I.toInCall.ns λo y y q=>⟨o,q.1⟩⟩) λJ=>(eo.mp J).elim λx hx=>cell hx.2;have dead:∀ {b},b∈r7 env (Sc.fn r scope)->s.heap.get? b=none:=λJ=>u0 (hN J).1;have S:=w6 (C:=C) hk dead;have hnd:(((as.map ci).zip us).map (·.1)).Nodup:=by rw[Hz (by rw[aH,<-D.nargs,<-hl];exact hu.length)];exact D.YV
 have val:∀ {x k V},r.names.lookup x=some k->(uZ r args).get k=some V->∃ v,(x,v)∈(as.map ci).zip us/\sg s.heap C V v:=λ{x k V} hx hV=>by
  refine(hu.get k V ((Q1 k).symm.trans hV)).imp λv h=>⟨?_,h.2⟩;have hk':k<(as.map ci).length:=by rw[aH,<-D.nargs,<-hl,hu.length];exact(bD.mp h.1).1
  have hy:=br hk';exact cv (i:=k) (O.getElem?_zip_eq_some.mpr ⟨hy.trans (av some (Hv D.VR (lookup_mem (D.D4 k _ hy)) (lookup_mem hx))),h.1⟩)
 have U:∀ {x},(Sc.fn r scope).yh x->scope.names.lookup x=some .cell:=λh=>h.elim id λh=>aC rfl (D.YW _ (lookup_mem h));have hfr:uM (A.deeper env) (C.with (r7 env (Sc.fn r scope))).sj s1.heap:=P.frs.elim λenvs f=>⟨env::envs,av (dD (env:: ·)) f.1,λe he=>(aW.mp he).elim (λz=>by rw[z];exact⟨e1▸D.kind,_,efr, .head _,_,I.toInCall.ns⟩) λhe=>⟨(f.2 e he).1,(f.2 e he).2.imp λL g=>⟨g.1,aG.mpr (.inr g.2.1),g.2.2.elim λm hm=>Hi hk hm⟩⟩⟩
 refine⟨.of hA (P.I.enter hk (λJ=>⟨⟨dead J,aw P.sz (hN J).1⟩,(hN J).2⟩) (I.toInCall.same.elim λy z=>z.elim λy e=>e▸rfl) (I.toInCall.same.elim λy z=>z.elim λy e=>e▸rfl)) {
  kind:=e1▸D.kind
  globals:=e4
  builtins:=e5
  scope:=e1
  sj:= .head _
  locs:=⟨_,I.toInCall.ns,λh1 h2 V h3=>(val h1 h3).imp λv h=>⟨QY (show env.scope.names.lookup _=_ by rw[e1];exact h2) hnd h.1,h.2.step S⟩⟩
  cells:=λ{x k} h1 h2=> ?_
  inj:=λh1 h2=>ni I.apart (lookup_mem h1) (lookup_mem h2)
  B5:=λh1 h2=>Hv D.VR (lookup_mem h1) (lookup_mem h2)
  Gk:=λ{x} hx=>(bG.mp hx).elim λp sd=>have hp:=sd.1;have e:=sd.2; ?_} hfr,dead⟩
 ·have hc:=U h2
  cases e:env.cells.lookup x with
  |none=>exact(zX (n:=s.heap.objs.size+1) (lookup_mem hc)).elim λc z=>aC (e3▸z) (CY e c)
  |some c=>exact .mk e (aG.mpr (.inl (.tail _ (eo.mpr ⟨x,bG.mpr ⟨(x, .cell),c9.mpr ⟨lookup_mem hc,rfl⟩,rfl⟩,e⟩)))) (I.cell x c e) λV hV=>(val h1 hV).imp λv h=>⟨QZ (λz=>by have z:env.scope.names.lookup x=some .local:=z;rw[e1] at z;cases hc.symm.trans z) hnd h.1,h.2.step S⟩
 ·have z:=c9.mp hp
  have m:(x,fA)∈scope.names:=e▸eq_of_beq z.2▸z.1;exact(fB.mp (D.OG _ m rfl)).elim λj hj=>⟨j,hj, .inl (uk D.names m)⟩
end
section
variable{d:aa}{A:az}{X Y:O ag}{C C':Cx}{σ:Ob}{s:ai}{α β γ:Type}{sc:Sc}{F:Fn}{env:aD}{l:Loc}
def abh(X:O ag)(C:Cx)(s:ai)(r:V)(σ':Ob)(res:dl)(s':ai):Prop:=match res with
 | .ok f=>match f with
  | .ret v=>sY X C s (RV) r σ' v s'
  |_=>bM
 | .error _=>bM
def y0(d:aa)(m:O V->M V)(a:ag):Prop:=
 ∀ {A:az} {X:O ag} {C:Cx} {σ:Ob} {s:ai} {args:O V} {us:O af},Fc d A C σ s->su s.heap C args us->Al (m args σ) λr σ'=>bo sB A (.call (.ref a) ⟨us,[]⟩) (abh X C s r σ') s
theorem y0.call{m:O V->M V}{a:ag}{args:O V}{us:O af}(h:y0 d m a)(P:Fc d A C σ s)(J:su s.heap C args us):r0 A X C σ s (m args) (call (.ref a) us) (RV):=
 Al.imp (h (X:=X) P J) λr σ' z=>ee (dO z λres s' hr=>by
  cases res with
  |error _=>exact hr
  |ok f=>cases f<;>exact hr)
theorem Q2{a:ag}{r:MF}{scope:aQ}{as:O bp}{body:O aF}(D:Kj a r scope as body){args:O V}{us:O af}{R:dl->ai->Prop}(P:Fc (d+1) A C σ s)(hu:su s.heap C args us)(hl:args.length=r.nargs)
  (h:∀ env s1,Here d (A.deeper env) (Sc.fn r scope) env (uZ r args) (C.with (r7 env (Sc.fn r scope))) σ s1->(∀ {b},b∈r7 env (Sc.fn r scope)->s.heap.get? b=none)->(∀ {b o},s.heap.get? b=some o->s1.heap.get? b=some o)->
   ak sB (A.deeper env) (execs body env) (λf s'=>R (.ok (.ret (match f with| .ret v=>v|_=> .none))) s') (λe s'=>ak sB (A.deeper env) (leaving env e) (λy s''=>R (.error e) s'') (λe' s''=>R (.error e') s'') s') s1):
  bo sB A (.call (.ref a) ⟨us,[]⟩) R s:=
 FnAt.casesOn (motive:=λy=>bo sB A (.call (.ref a) ⟨us,[]⟩) R s) D.at_ λ{o fd} ho hdata hcode hbody hclo VQ YU hpar hdef hsc=>
  have J:∀ b o,G.h0.get? b=some o->s.heap.get? b=some o:=λy y=>P.I.uG;have U:as.length=us.length:=D.nargs.symm.trans (hl.symm.trans hu.length)
  codeAny_call_cells (body:=body) P.A.room (J a o ho) hdata (D.lim.keeps J) (hcode.keeps J) hbody (Gx hpar hdef D.YV U) hclo (λx hx=>by
   rw[hsc];refine(D.abg _ (nw (show(x.1,x.2)∈_ from hx)).1).imp id λh1=>⟨h1, ?_⟩
   cases e:(cellsFrom (s.heap.objs.size+1) scope.names []).lookup x.1 with
   |none=>exact(zX (n:=s.heap.objs.size+1) (lookup_mem h1)).elim λc hc=>aC hc (CY e c)
   |some c=>rfl) (λs1 I=>have z:=WZ (d':=d) D (env:=callEnvC fd s.heap.objs.size a) hsc rfl rfl (av (uN · s.heap) hsc) VQ YU P hu hl P.A.down I;h _ s1 z.1 z.2 (I.toInCall.keep _ _)) (hsc▸D.co) (hsc▸D.gen) (hsc▸D.kind)
noncomputable def Jp(f:cG):af:=match f with| .ret v=>v|_=> .none
theorem Q3{N:O ag}{s1 s':ai}{rf:XR}{f:cG}{sT:Ob}(P:Inv C σ s)(hk:∀ {b o},s.heap.get? b=some o->s1.heap.get? b=some o)(hN:∀ {b},b∈N->s.heap.get? b=none)(x:sY N (C.with N) s1 (RX env sc) rf sT f s'):
  Al (XR.val rf sT) λv σ'=>sY X C s (RV) v σ' (Jp f) s':=
 sY.casesOn (motive:=λz=>Al (XR.val rf sT) λv σ'=>sY X C s (RV) v σ' (Jp f) s') x λ{C'} M R=>
  have hp:C'.sj=N++C.sj:=M.E.sj;have J:Nx X C s (C.back C') sT s':=⟨.left (λha=>P.there (th ha)) hk hN .inl M.E,M.I.back hp⟩
  RX.casesOn (motive:=λrf f z=>Al (XR.val rf sT) λv σ'=>sY X C s (RV) v σ' (Jp f) s') R (λz=> .mk J .none) (λz=>ah) (λz=>ah) λR=> .mk J (R.step (FE hp))
theorem ff{P:Prop}(h:false=true):P:=aC h b0
theorem V.beq_eq{a:V}:∀ b,V.beq a b=true->a=b:=
 V.rec (motive_1:=λa=>∀ b,V.beq a b=true->a=b) (motive_2:=λas=>∀ bs,V.yS as bs=true->as=bs)
  (λb=>V.casesOn (motive_1:=λb=>V.beq .none b=true->V.none=b) b (λz=>rfl) (λz=>ff) (λz=>ff) (λz=>ff) (λz=>ff) (λz=>ff) (λz z=>ff) (λz z=>ff) (λz=>ff) λz=>ff)
  (λa b=>V.casesOn (motive_1:=λb=>V.beq (.bool a) b=true->V.bool a=b) b ff (λz h=>av V.bool (eq_of_beq h)) (λz=>ff) (λz=>ff) (λz=>ff) (λz=>ff) (λz z=>ff) (λz z=>ff) (λz=>ff) λz=>ff)
  (λa b=>V.casesOn (motive_1:=λb=>V.beq (.int a) b=true->V.int a=b) b ff (λz=>ff) (λz h=>av V.int (eq_of_beq h)) (λz=>ff) (λz=>ff) (λz=>ff) (λz z=>ff) (λz z=>ff) (λz=>ff) λz=>ff)
  (λa b=>V.casesOn (motive_1:=λb=>V.beq (.str a) b=true->V.str a=b) b ff (λz=>ff) (λz=>ff) (λz h=>av V.str (eq_of_beq h)) (λz=>ff) (λz=>ff) (λz z=>ff) (λz z=>ff) (λz=>ff) λz=>ff)
  (λa J b=>V.casesOn (motive_1:=λb=>V.beq (.tup a) b=true->V.tup a=b) b ff (λz=>ff) (λz=>ff) (λz=>ff) (λz h=>av V.tup (J _ h)) (λz=>ff) (λz z=>ff) (λz z=>ff) (λz=>ff) λz=>ff)
  (λa J b=>V.casesOn (motive_1:=λb=>V.beq (.lst a) b=true->V.lst a=b) b ff (λz=>ff) (λz=>ff) (λz=>ff) (λz=>ff) (λz h=>av V.lst (J _ h)) (λz z=>ff) (λz z=>ff) (λz=>ff) λz=>ff)
  (λa c J U b=>V.casesOn (motive_1:=λb=>V.beq (.dct a c) b=true->V.dct a c=b) b ff (λz=>ff) (λz=>ff) (λz=>ff) (λz=>ff) (λz=>ff) (λz z h=>J _ (rY h).1▸U _ (rY h).2▸rfl) (λz z=>ff) (λz=>ff) λz=>ff)
  (λa c b=>V.casesOn (motive_1:=λb=>V.beq (.yc a c) b=true->V.yc a c=b) b ff (λz=>ff) (λz=>ff) (λz=>ff) (λz=>ff) (λz=>ff) (λz z=>ff) (λz z h=>eq_of_beq (rY h).1▸eq_of_beq (rY h).2▸rfl) (λz=>ff) λz=>ff)
  (λa b=>V.casesOn (motive_1:=λb=>V.beq (.ref a) b=true->V.ref a=b) b ff (λz=>ff) (λz=>ff) (λz=>ff) (λz=>ff) (λz=>ff) (λz z=>ff) (λz z=>ff) (λz h=>av V.ref (eq_of_beq h)) λz=>ff)
  (λa J b=>V.casesOn (motive_1:=λb=>V.beq (.old a) b=true->V.old a=b) b ff (λz=>ff) (λz=>ff) (λz=>ff) (λz=>ff) (λz=>ff) (λz z=>ff) (λz z=>ff) (λz=>ff) λz h=>av V.old (J _ h))
  (λbs h=>(cR.mp h).symm) (λa as J U bs=>jC (motive:=λbs=>V.yS (a::as) bs=true->a::as=bs) bs ff λz z h=>J _ (rY h).1▸U _ (rY h).2▸rfl) a
theorem HA{f:O α->O α->aj}{p:α->α->aj}(h0:∀ bs,f [] bs=bs.isEmpty)(h1:∀ a as b bs,f (a::as) (b::bs)=(p a b&&f as bs))(h2:∀ a as,f (a::as) []=false)(hp:∀ a b,p a b=true->a=b):∀ as bs,f as bs=true->as=bs
 |[],bs=>λh=>(cR.mp ((h0 bs).symm.trans h)).symm
 |a::as,[]=>λh=>ff ((h2 a as).symm.trans h)
 |a::as,b::bs=>λh=>have z:=rY ((h1 a as b bs).symm.trans h);by rw[hp a b z.1,HA h0 h1 h2 hp as bs z.2]
theorem V.HB{a b:O V}(h:V.yS a b=true):a=b:=V.tup.inj (V.beq_eq (a:= .tup a) (.tup b) h)
theorem Ud{a b:O (aa×V)}:Jg a b=true->a=b:=HA (p:=λa b=>a.1==b.1&&V.beq a.2 b.2) (λz=>rfl) (λz z z z=>rfl) (λz z=>rfl) (λz z h=>fD (eq_of_beq (rY h).1) (V.beq_eq _ (rY h).2)) a b
theorem sv.beq_eq(a:sv):∀ b,sv.beq a b=true->a=b:=
 sv.casesOn (motive:=λa=>∀ b,sv.beq a b=true->a=b) a
  (λa b=>sv.casesOn (motive:=λb=>sv.beq (.lst a) b=true->sv.lst a=b) b (λz h=>av sv.lst (V.HB h)) (λz z=>ff) λz z=>ff)
  (λa c b=>sv.casesOn (motive:=λb=>sv.beq (.dct a c) b=true->sv.dct a c=b) b (λz=>ff) (λz z h=>V.HB (rY h).1▸V.HB (rY h).2▸rfl) λz z=>ff)
  (λa c b=>sv.casesOn (motive:=λb=>sv.beq (.inst a c) b=true->sv.inst a c=b) b (λz=>ff) (λz z=>ff) λz z h=>eq_of_beq (rY h).1▸Ud (rY h).2▸rfl)
theorem Ob.beq_eq{a b:Ob}:Ob.beq a b=true->a=b:=HA (p:=sv.beq) (λz=>rfl) (λz z z z=>rfl) (λz z=>rfl) sv.beq_eq a b
variable{h h':aq}{x:V}{v:af}{xs:O V}{vs:O af}{n:aa}
theorem zv{f:α->V}(J:∀ a,V.closed n (f a)=true):∀ l:O α,V.uf n (l.map f)=true
 |[]=>rfl
 |a::l=>cM.mpr ⟨J a,zv J l⟩
theorem DictAt.closed{a:ag}{ks:O V}{ws:O af}(D:DictAt h C a ks ws):V.uf n ks=true:=
 DictAt.casesOn (motive:=λks z z=>V.uf n ks=true) D (λ{kvs} z=>zv (f:=λp:ae×af=>V.int p.1) (λz=>rfl) kvs) λ{xs} z z=>zv (f:=λp:O ae×ag×af=> .tup (p.1.map V.int)) (λp=>zv (f:=V.int) (λz=>rfl) p.1) xs
theorem sg.closed(e:sg h C x v):V.closed C.mu.length x=true:=
 sg.rec (motive_1:=λx z z=>V.closed C.mu.length x=true) (motive_2:=λxs z z=>V.uf C.mu.length xs=true) rfl rfl rfl (λz=>rfl) (λz z z e=>e) (λz z z e=>e) (λz z z e=>e) (λz z z D e=>cM.mpr ⟨D.closed,e⟩) (λz z z=>rfl)
  (λe=>aX (bD.mp e).1) rfl (λz z a b=>cM.mpr ⟨a,b⟩) e
theorem tj.closed(e:su h C xs vs):V.uf C.mu.length xs=true:=e.ind (P:=λxs z=>V.uf C.mu.length xs=true) rfl λa z b=>cM.mpr ⟨a.closed,b⟩
structure D5(C C':Cx):Prop where
 sj:C'.sj=C.sj
 mu:∃ nu,C'.mu=C.mu++nu
theorem D5.res(L:D5 C C'){a:ag}(h:a∉C'.res):a∉C.res:=λz=>L.mu.elim λnu e=>h (by
 unfold Cx.res at*
 rw[L.sj,e,wQ,cf];exact aG.mpr ((aG.mp z).imp id λz=>aG.mpr (.inr z)))
theorem DictAt.shrink{a:ag}{ks:O V}{ws:O af}(L:D5 C C')(D:DictAt h C' a ks ws):DictAt h C a ks ws:=DictAt.casesOn (motive:=λks ws z=>DictAt h C a ks ws) D .JP λD o=> .inR D λp hp=>L.res (o p hp)
theorem sg.shrink(L:D5 C C')(c:V.closed C.mu.length x=true)(e:sg h C' x v):sg h C x v:=
 sg.rec (motive_1:=λx v w=>V.closed C.mu.length x=true->sg h C x v) (motive_2:=λxs vs w=>V.uf C.mu.length xs=true->su h C xs vs) (λw=> .none) (λw=> .bool) (λw=> .int) (λe w=> .str e) (λn t w J c=> .tup (L.res n) t (J c)) (λn t w J c=> .lst (L.res n) t (J c)) (λn t w J c=> .old (L.res n) t (J c))
  (λn y w D J c=> .dct (L.res n) y (J (rY c).2) (D.shrink L)) (λn r s w=> .yc (L.res n) r s) (λe c=>L.mu.elim λnu z=> .ref ((dq (aP c)).symm.trans (z▸e))) (λw=> .nil) (λw w a b c=> .cons (a (rY c).1) (b (rY c).2)) e c
theorem tj.shrink(L:D5 C C')(c:V.uf C.mu.length xs=true)(e:su h C' xs vs):su h C xs vs:=e.ind (P:=λxs vs=>V.uf C.mu.length xs=true->su h C xs vs) (λz=> .nil) (λa z b c=> .cons (a.shrink L (rY c).1) (b (rY c).2)) c
def zn(n:aa):O (aa×V)->Prop
 |[]=>cu
 |a::as=>V.closed n a.2=true/\zn n as
def EM(n:aa):sv->Prop
 | .lst xs=>V.uf n xs=true
 | .dct _ vs=>V.uf n vs=true
 | .inst _ as=>zn n as
theorem tx.closed{as:O (aa×V)}{es:O bX}(e:tx h C as es):zn C.mu.length as:=tx.rec (motive:=λas z z=>zn C.mu.length as) ah (λz hv z r=>⟨hv.closed,r⟩) e
theorem tx.shrink{as:O (aa×V)}{es:O bX}(L:D5 C C')(c:zn C.mu.length as)(e:tx h C' as es):tx h C as es:=tx.rec (motive:=λas es z=>zn C.mu.length as->tx h C as es) (λz=> .nil) (λhn hv z r c=> .cons hn (hv.shrink L c.1) (r c.2)) e c
theorem tm.closed{p:ag×O ag}{m:sv}(z:tm h C p m):EM C.mu.length m:=tm.casesOn (motive:=λy m y=>EM C.mu.length m) z (λy e=>e.closed) (λe y=>e.closed) λy y y y y y as=>as.closed
theorem tm.shrink{p:ag×O ag}{m:sv}(L:D5 C C')(c:EM C.mu.length m)(z:tm h C' p m):tm h C p m:=
 tm.casesOn (motive:=λp m y=>EM C.mu.length m->tm h C p m) z (λl e c=> .lst l (e.shrink L c)) (λe D c=> .dct (e.shrink L c) (D.shrink L)) (λhc nd o pl fl ed as c=> .inst hc nd o pl fl ed (as.shrink L c)) c
theorem Al.vS{m:M V}{P:V->Ob->Prop}(h:Al (m σ) λv σ1=>σ1.take σ.length=σ->V.closed σ.length (freeze σ.length σ1 v)=true->P (freeze σ.length σ1 v) σ):Al (vS m σ) P:=by
 unfold Internal.vS;cases e:m σ with
 |none=>exact ah
 |some p=>exact Al.guard λq=>h.get e (Ob.beq_eq (rY q).1) (rY q).2
theorem abi{s':ai}{r:V}{σ1:Ob}{b:af}(P:Inv C σ s)(U:σ1.take σ.length=σ)(J:V.closed σ.length (freeze σ.length σ1 r)=true)(z:sY X C s (RV) r σ1 b s'):sY X C s (RV) (freeze σ.length σ1 r) σ b s':=
 sY.casesOn (motive:=λy=>sY X C s (RV) (freeze σ.length σ1 r) σ b s') z λ{C'} N R=>by
  have E:=N.E;have L:D5 C C':=⟨E.sj,E.mu.imp λy=>cP⟩
  have abj:∀ {i:aa} {m:sv},σ[i]?=some m->σ1[i]?=some m:=λ{i m} h=>by
   have hi:=(bD.mp h).1;rw[<-U,nz,aN hi] at h
   exact h
  have E':Ext X C C s.heap s'.heap:={E with sj:=rfl,mu:=⟨[],(bY _).symm,λy x=>aC x ba⟩}
  have I':Inv C σ s':={N.I with
   len:=P.len
   nodup:=P.nodup
   wE:=P.wE
   above:=P.above
   there:=λha=>(P.there ha).elim λy=>E.live
   rep:=λh1 h2=>(N.I.rep (abj h1) (E.mu.elim λnu e=>by rw[e.1,dq (bD.mp h2).1];exact h2)).shrink L (P.rep h1 h2).closed}
  refine .mk ⟨E',I'⟩ ?_;show sg s'.heap C _ _;have R:sg s'.heap C' r b:=R;rw[<-P.len] at J⊢
  cases r with
  |ref i=>
   by_cases hi:i<C.mu.length
   ·rw[show freeze C.mu.length σ1 (.ref i)= .ref i from aN hi]
    exact R.shrink L (aX hi)
   ·rw[show freeze C.mu.length σ1 (.ref i)=listOf σ1[i]? (.ref i) from aI hi] at J⊢
    cases ho:σ1[i]? with
    |none=>rw[ho] at J;exact aC (aP J) hi
    |some o=>
     rw[ho] at J
     cases o with
     |dct=>exact aC (aP J) hi
     |inst=>exact aC (aP J) hi
     |lst xs=>
      refine R.out (P:=λb=>sg s'.heap C (.lst xs) b) λp hp=> ?_
      have own:p.1∈C.res->bM:=λz=>E.mu.elim λnu e=>by
       rw[e.1,di (ec hi)] at hp
       exact(P.there z).elim λy q=>nomatch (e.2 _ (ir.mpr ⟨p,cv hp, .head _⟩)).symm.trans q
      have z:=N.I.rep ho hp;cases z with
      |lst l e=>exact .lst own l (e.shrink L J)
  |_=>exact R.shrink L J
theorem Ue{m:O V->M V}{a:ag}(hm:y0 d m a):y0 d (λargs=>vS (m args)) a:=λ{A X C σ s args us} P hu=>
 .vS (Al.imp (hm (X:=X) P hu) λr σ1 z J U=>dO z λres s' hr=>by
  cases res with
  |error _=>exact hr
  |ok f=>
   cases f with
   |ret b=>exact abi P.I J U hr
   |_=>exact hr)
end
section
variable{d:aa}{A:az}{X Y:O ag}{C C':Cx}{σ:Ob}{s:ai}{α β γ:Type}{sc:Sc}{F:Fn}{env:aD}{l:Loc}{h:aq}
theorem AW{f:af}(hk:keepIn G.K f=true)(X:G.K.In h):Keeps h f:=keeps_K hk h X
theorem YX(K:Classes)(I:Inv C σ s):G.K.In s.heap:=K.DR.keeps λz z=>I.uG
theorem Cf(K:Classes)(I:Inv C σ s)(E:Ext X C C' s.heap h):G.K.In h:=K.DR.keeps λz z e=>E.keep (I.BL e) (I.uG e)
theorem Q4{f:aa}{a:ag}{x:am}{p pos:aK}{es:O au}{sU:O ME}(K:Classes)(N:Names)(U:y0 d (F f) a)(hk:keepIn G.K (.ref a)=true)(hx:sc.kind x=some .globalImplicit)(hd:(x==("__debug__":am))=false)(hv:Means x (.ref a))(hs:∀ e∈es,s9 e)(h:tj (sA d F sc) es sU):
  sA d F sc (.Call (.Name x p) es [] pos) (.call f sU):=λH=>zm N H hx hd hv (.callWith (k:=F f) hs h H (λC' s' E=>AW hk (Cf K H.I E)) λxs vs C' σ' s' H S J z=>U.call H.pl.f J)
theorem Ix{x:am}(hx:∀ a,attrName a≠some x){at_:O (aa×V)}{es:O bX}(e:tx h C at_ es):getL x es=some none:=
 tx.rec (motive:=λw es w=>getL x es=some none) rfl (λ{n W y t k v as es} hn w w J=>DS.trans ((aI λz:y=x=>hx n (z▸hn)).trans J)) e
structure Cg(c:aa)(x:am)(a:ag):Prop where
 get:plainGet G.K (sK c) x=true
 find:findIn G.K (.ref (sK c)) x=some (some (.ref a))
 fn:isFn G.K (.ref a)=true
 keep:keepIn G.K (.ref a)=true
 no:∀ k,attrName k≠some x
inductive D6(h:aq)(C:Cx)(c:aa)(a:ag):Prop
 |mk {ox:aL} {es:O bX} {n:aa} {at_:O (aa×V)} (I:mS h a ox (sK c) (some (dictOf es n))) (as:tx h C at_ es)
theorem Al.inst{c:aa}{o:V}{v:af}(I:Inv C σ s)(hv:sg s.heap C o v){f:bi->M α}{P:α->Ob->Prop}(k:∀ i a,o= .ref i->v= .ref a->D6 s.heap C c a->Al (f () σ) P):Al (M.bind (uQ c o) f σ) P:=
 sg.casesOn (motive_1:=λo v y=>(∀ i a,o= .ref i->v= .ref a->D6 s.heap C c a->Al (f () σ) P)->Al (M.bind (uQ c o) f σ) P) hv (λy=>ah) (λy=>ah) (λy=>ah) (λy y=>ah) (λy y y y=>ah) (λy y y y=>ah) (λy y y y=>ah) (λy y y y y=>ah) (λy y y y=>ah)
  (λ{i p} hp k=>Al.bind (m:=uQ c (.ref i)) (Al.obj (f:=JJ c) I hp λo y r=>tm.casesOn (motive:=λp o y=>(D6 s.heap C c p.1->Al (f () σ) P)->Al (JJ c o σ) λa σ'=>Al (f a σ') P) r (λy y y=>ah) (λy y y=>ah)
   (λhc nd o pl fl ed as k=> .guard λe=>by cases eq_of_beq e;exact k (.mk (B8 hc o pl fl ed) as)) λz=>k i p.1 rfl rfl z)) k
theorem Nd{es:O au}{pos:aK}(hs:∀ e∈es,s9 e)(J:es.length<20):methodCallForm (es.length+([]:O Keyword).length) (backTo pos (starEach es env)) (backToKw pos (keywordEach [] env))=true:=(CT (env:=env) (pos:=pos) hs).elim λf e=>by
 show methodCallForm es.length (backTo pos (starEach es env)) []=true;unfold methodCallForm;rw[e,fz];exact cM.mpr ⟨cM.mpr ⟨bh.mpr λz z=>rfl,rfl⟩,aX (i6 J (by decide))⟩
theorem Q5{f:aa}{a:ag}{o:au}{mo:ME}{x:am}{apos pos:aK}{es:O au}{sU:O ME}(K:Classes)(hS:y0 d (F f) a)(U:Cg (uw f) x a)(hb:xT o)(J:(apos.endLine==pos.line)=true)(hl:es.length<20)(hs:∀ e∈es,s9 e)
  (ho:sA d F sc o mo) (h:tj (sA d F sc) es sU):sA d F sc (.Call (.Attribute o x apos) es [] pos) (.tt f mo sU):=λ{A C σ s env l} H=>by
 rw[nA,hb];unfold methodCall;rw[Nd hs hl];refine(ho H).tD (f:=λo=>M.bind (uQ (uw f) o) λy=>M.bind (sR F sU l) λvs=>F f (o::vs)) H λV v C1 σ1 s1 H1 S hv=>r0.standAt (Al.inst (f:=λy=>M.bind (sR F sU l) λvs=>F f (V::vs)) H1.I hv λi a' eV ev z=> ?_);subst ev;have q:r0 A [] C1 σ1 s1 (M.bind (sR F sU l) λvs=>F f (V::vs)) (callWith pos (.ref a) [.ref a'] (backTo pos (starEach es env)) []) (RV):= .callWith (k:=λvs=>F f (V::vs)) hs h H1 (λC' s' E=>AW U.keep (Cf K H1.I E)) λxs vs C' σ' s' H S hvs y=>hS.call H.pl.f (.cons (hv.step S) hvs);refine q.imp λr σ' w=>H1.pl.fr.elim λL r=>r.elim λm r=>D6.casesOn (motive:=λy=>_) z λI as=>ao (bd (nB (H1.I.fr r.1 r.2) K.DR I U.get U.find U.fn (Ix U.no as) ?_));rw[show methodCallPos true o env apos pos=pure pos by unfold methodCallPos;rw[J];rfl]
 exact sP w
theorem Q6{f:aa}{o:au}{mo:ME}{x:am}{apos pos:aK}{es:O au}{sU:O ME}(h:sA d F sc (.Call (.Attribute o x apos) es [] pos) (.tt f mo sU)):vA d F sc (.Call (.Attribute o x apos) es [] pos) (.tt f mo sU):=
 AG (λz z=>rfl) h λl=>((M.bind_assoc (rZ F mo l) (λo=>M.bind (uQ (uw f) o) λz=>M.bind (sR F sU l) λvs=>F f (o::vs)) uP).trans (av (M.bind (rZ F mo l)) (funext λo=>(M.bind_assoc (uQ (uw f) o) (λz=>M.bind (sR F sU l) λvs=>F f (o::vs)) uP).trans (av (M.bind (uQ (uw f) o)) (funext λz=>M.bind_assoc (sR F sU l) (λvs=>F f (o::vs)) uP))))).symm
theorem Q7{f:aa}{x:am}{p pos:aK}{es:O au}{sU:O ME}(h:sA d F sc (.Call (.Name x p) es [] pos) (.call f sU)):vA d F sc (.Call (.Name x p) es [] pos) (.call f sU):=
 AG (λz z=>rfl) h λl=>(M.bind_assoc (sR F sU l) (λvs=>F f vs) uP).symm
structure Jq(c:aa)(a:ag):Prop where
 le:c<=3
 makes:makesIn G.K (sK c)=true
 init:findIn G.K (.ref (sK c)) "__init__"=some (some (.ref a))
 fn:isFn G.K (.ref a)=true
 keep:keepIn G.K (.ref (sK c))=true
theorem Mn{f:af}{us:O af}:(gk "type.__call__" ⟨f::us,[]⟩).weight<=1:=by
 unfold nC;rw[show(gk "type.__call__" ⟨f::us,[]⟩).frames=0 from rfl,show(gk "type.__call__" ⟨f::us,[]⟩).isGuard=false from rfl,show(gk "type.__call__" ⟨f::us,[]⟩).isCaller=false from rfl]
 cases (gk "type.__call__" ⟨f::us,[]⟩).isCreation<;>decide
theorem Kk{a b c d e f n:aa}(h:a+c+e<=n)(J:b+f<=e):a+b+c+f<=n:=by rw[kh a b c,dZ (a+c) b f];exact aw (cw J _) h
theorem yG.make{f:af}{us:O af}(h:yG d A):FO d (A.under (.builtin "type.__call__" ⟨f::us,[]⟩)):=
 ⟨h.handled,Kk (e:=8) (d:=0) h.depth (aw (cO Mn 6) (by decide)),Kk (e:=40) (d:=0) h.units (aw (cO (bF rfl:(gk "type.__call__" ⟨f::us,[]⟩).cUnits<=1) 20) (by decide))⟩
theorem Al.xC{U W:V}{P:V->Ob->Prop}(h:W= .none->P U σ):Al (xC W U σ) P:= .guard (m:=M.pure U) λe=>h (V.casesOn (motive_1:=λW=>isNone W=true->W= .none) W (λz=>rfl) (λz=>ff) (λz=>ff) (λz=>ff) (λz=>ff) (λz=>ff) (λz z=>ff) (λz z=>ff) (λz=>ff) (λz=>ff) e)
theorem Uf{c f:aa}{a:ag}{x:am}{p pos:aK}{es:O au}{sU:O ME}(K:Classes)(N:Names)(hS:y0 d (F f) a)(U:Jq c a)(hx:sc.kind x=some .globalImplicit)(hd:(x==("__debug__":am))=false)(hv:Means x (.ref (sK c)))(hs:∀ e∈es,s9 e)(h:tj (sA d F sc) es sU):
  sA d F sc (.Call (.Name x p) es [] pos) (.new c f sU):=λ{A C σ s env l} H=>by
 refine zm N H hx hd hv (.callWith (k:=λvs=>M.bind (un (.inst c [])) λo=>M.bind (F f (o::vs)) λr=>xC r o) hs h H (λC' s' E=>AW U.keep (Cf K H.I E)) λxs vs C1 σ1 s1 H1 S hvs y=> ?_);have Xh:=YX K H1.I;have g:∀ {b o},s1.heap.get? b=some o->((s1.heap.push emptyDict).push (instObj (sK c) s1.heap.objs.size)).get? b=some o:=λe=>vB (vB e);have hd1:((s1.heap.push emptyDict).push (instObj (sK c) s1.heap.objs.size)).get? s1.heap.objs.size=some (dictOf [] 0):=vB (a8 _ rfl)
 have hi1:((s1.heap.push emptyDict).push (instObj (sK c) s1.heap.objs.size)).get? (s1.heap.objs.size+1)=some (instObj (sK c) s1.heap.objs.size):=by
  have z:=a8 (s1.heap.push emptyDict) (o:=instObj (sK c) s1.heap.objs.size) rfl;rwa [cT] at z
 have z:=Nx.alloc (X:=[]) (p:=(s1.heap.objs.size+1,[s1.heap.objs.size])) (m':= .inst c []) (s':={s1 with heap:=(s1.heap.push emptyDict).push (instObj (sK c) s1.heap.objs.size)}) H1.I g (b7.mpr ⟨λz=>jO _ (aR.mp z),b7.mpr ⟨ba,c6⟩⟩)
  (λ{b} hb=>(aW.mp hb).elim (λe=>e▸⟨⟨u0 (cU _),eA H1.pl.above⟩,_,hi1⟩) λhb=>by cases aR.mp hb;exact⟨⟨w7 _,H1.pl.above⟩,_,hd1⟩)
  (λS=> .inst (eA U.le) c6 hi1 (λy=>rfl) (λe=>aC (e▸U.le) (by decide)) hd1 .nil)
 have H2:=H1.next z.1;have P2:Fc d (A.under (.builtin "type.__call__" ⟨.ref (sK c)::vs,[]⟩)) (C1.add (s1.heap.objs.size+1,[s1.heap.objs.size])) (σ1++[.inst c []]) {s1 with heap:=(s1.heap.push emptyDict).push (instObj (sK c) s1.heap.objs.size)}:=⟨H1.A.make,z.1.I,H2.pl.above,H2.pl.frs.mono (λy h=>h) (λy m y h=>⟨m,h⟩) (by first|rfl|(unfold az.under;split<;>rfl)|simp)⟩
 have J:sg ((s1.heap.push emptyDict).push (instObj (sK c) s1.heap.objs.size)) (C1.add (s1.heap.objs.size+1,[s1.heap.objs.size])) (.ref σ1.length) (.ref (s1.heap.objs.size+1)):= .ref z.2;refine Al.bind (m:=un (.inst c [])) (f:=λo=>M.bind (F f (o::xs)) λr=>xC r o) ?_;show Al (M.bind (F f (.ref σ1.length::xs)) (λr=>xC r (.ref σ1.length)) (σ1++[.inst c []])) λa σ'=>ak sB A (call (.ref (sK c)) vs) (sY [] C1 s1 (RV) a σ') tg s1;refine Al.bind (Al.imp (hS (X:=[]) P2 (.cons J (hvs.step z.1.S))) λr σ3 q=>Al.xC λe=> ?_);refine ee (make_core (makes_of Xh U.makes) (gg Xh U.init) (λself=>bind_fn Xh self (bl.mp U.fn)) (.inl rfl) (dO q λres s3 hr=> ?_));cases res with
 |error _=>exact hr.elim
 |ok fl=>
  cases fl with
  |ret v=>exact sY.casesOn (motive:=λy=>_) hr λN3 R3=>⟨(e▸R3:sg _ _ .none v).out (P:=λv=>v= .none) rfl, .mk ⟨z.1.E.trans N3.E,N3.I⟩ (J.step N3.S)⟩
  |_=>exact hr.elim
end
section
variable{prog:a9}{w:a0}{A:az}{E:VS}{s:ai}
theorem xV{it t:ag}{i:aa}{items:aB af}{x:af}{Q:VS}(J:s.heap.IsTupleIter it t i)(ht:s.heap.IsTuple t items)(hx:items[i]?=some x)
  (hQ:∀ h',h'.IsTupleIter it t (i+1)->b9 it s.heap h'->Q x {s with heap:=h'}):ak (aA prog w) A (gm (.ref it)) Q E s:=by
 obtain⟨o,ho,hc,U⟩:=id J;obtain⟨ol,D7,_,nl,hdl⟩:=ht
 refine ao (d3 (name:=aJ "__next__") J.typeIs i7
  (cz i7 J.typeIs nD ?_ (nE _)))
 show ak _ _ (field (.ref it) 0>>=_) _ _ s;refine sf (λz=>bJ ho U (x:= .ref t) rfl) ?_;rw[aI (show ¬ ((a7 t==cA)=true) from b0)]
 show ak _ _ (field (.ref it) 1>>=_) _ _ s;refine sf (λz=>bJ ho U (x:= .int i 0) rfl) ?_;refine sf (λz=>dB D7 hdl) ?_;simp only[b6,hx];refine ao (dn ho U (aU _) (ay ⟨x,rfl,ay (hQ _ ?_ (gn ..))⟩))
 exact⟨_,cD _ ho (fE (dc U _)),(i8 ..).trans hc,by
  rw[dc U];simp[rawInt]⟩
theorem Bq{it t:ag}{i:aa}{items:aB af}{Q:VS}(hh:A.handled=none)(J:s.heap.IsTupleIter it t i)(ht:s.heap.IsTuple t items)(hx:items[i]?=none)
  (hE:∀ h' e,iX it s.heap h'->(∃ o,h'.get? e=some o/\o.cls= .type "StopIteration")->E (.ref e) {s with heap:=h'}):ak (aA prog w) A (gm (.ref it)) Q E s:=by
 obtain⟨o,ho,hc,U⟩:=id J;obtain⟨ol,D7,_,nl,hdl⟩:=ht
 refine ao (d3 (name:=aJ "__next__") J.typeIs i7
  (cz i7 J.typeIs nD ?_ (nE _)))
 show ak _ _ (field (.ref it) 0>>=_) _ _ s;refine sf (λz=>bJ ho U (x:= .ref t) rfl) ?_;rw[aI (show ¬ ((a7 t==cA)=true) from b0)]
 show ak _ _ (field (.ref it) 1>>=_) _ _ s;refine sf (λz=>bJ ho U (x:= .int i 0) rfl) ?_;refine sf (λz=>dB D7 hdl) ?_;simp only[b6,hx];refine ao (ek (ao (dn ho U (cV rfl) ?_)));refine ao ?_;refine ao (dg ?_ (by size_fits))
 refine ao (m:=firstArgMember _ _) (eS (a:=cA) (by first|rfl|(simp only[firstArgMember];rfl)) ?_)
 refine dg ?_ (by size_fits)
 refine sf (λz=>nF) ?_
 first|rw[show A.in1.handled=none from hh]|rw[hh]
 refine sP (nG ?_);exact hE _ _ (((gn ..).extBut.push _).push _) ⟨_,a8 _ rfl,rfl⟩
structure yq(h:aq)(z TI TO i1 i2 l1 l2:ag)(f0:af)(k:aa)(xs ys:aB af):Prop where
 z:de h z TI TO f0
 ti:cq h TI (.ref i1) (.ref i2)
 to:∃ a b,cq h TO a b
 i1:h.IsTupleIter i1 l1 k
 i2:h.IsTupleIter i2 l2 k
 l1:h.IsTuple l1 xs
 l2:h.IsTuple l2 ys
inductive xj(s:ai)(P:aq->Prop):ai->Prop
 |mk {g:aq} (h:P g):xj s P {s with heap:=g}
theorem xj.out{P:aq->Prop}{s':ai}(x:xj s P s'){R:ai->Prop}(k:∀ g,P g->R {s with heap:=g}):R s':=xj.casesOn (motive:=λs' z=>R s') x λh=>k _ h
theorem Iy{z TI TO i1 i2:ag}{a b:af}{Q:VS}(hz:de s.heap z TI TO .none)(hTI:cq s.heap TI (.ref i1) (.ref i2))(hTO:cq s.heap TO a b)(TOz:TO≠z)
  (h1:∀ g1,de g1 z TI TO .ellipsis->cq g1 TO a b->b9 z s.heap g1->ak (aA prog w) A (gm (.ref i1)) (λx=>xj s λg2=>cq g2 TO a b/\∀ U,cq U TO x b->b9 TO g2 U->
   ak (aA prog w) A (gm (.ref i2)) (λy=>xj s λg4=>cq g4 TO x b/\de g4 z TI TO .ellipsis/\∀ J g8,cq J TO x y->b9 TO g4 J->de g8 z TI TO (rawInt J.objs.size)->cq g8 J.objs.size x y->(∀ c o,c≠z->J.get? c=some o->g8.get? c=some o)->Q (.ref J.objs.size) {s with heap:=g8})
    (λe=>xj s λg4=>de g4 z TI TO .ellipsis/\∀ J,b9 z g4 J->E e {s with heap:=J}) {s with heap:=U})
   (λe=>xj s λg2=>de g2 z TI TO .ellipsis/\∀ U,b9 z g2 U->E e {s with heap:=U}) {s with heap:=g1}):
  ak (aA prog w) A (bq.«zip.__next__» ⟨[.ref z],[]⟩) (λfin s'=>∃ v,fin= .done (.ret v)/\Q v s') E s:=by
 show ak _ _ (field (.ref z) 2>>=_) _ _ _;refine sf (λu=>bJ hz rfl (x:= .bool false) rfl) ?_;refine sf (λu=>bJ hz rfl (x:= .ref TI) rfl) ?_;refine sf (λu=>dB hTI rfl) ?_;refine ao ?_;refine ao (bJ hz rfl (x:= .none) rfl (ay ?_));refine sf (λu=>ek) ?_;refine sf (λu=>bJ hz rfl (x:= .ref TO) rfl) ?_;refine ao (ib hz (ic 4) λg1 (hz1:de g1 z TI TO .ellipsis) s1=> ?_);have fail:∀ {e:af} {s2:ai},xj s (λg2=>de g2 z TI TO .ellipsis/\∀ U,b9 z g2 U->E e {s with heap:=U}) s2->ak (aA prog w) A (setField (.ref z) 0 .none) (λu s'=>E e s') E s2:=λx=>x.out λg2 r=>ib r.1 (ic 4) λU u s3=>r.2 U s3
 refine ao ?_;refine ao (ao (ki ?_));refine ao (aO (h1 g1 hz1 (s1.extBut _ _ TOz hTO) s1) (λx s2 r=>r.out λg2 r=>ay ?_) λe s2=>fail);refine sf (λu=>dB r.1 rfl) ?_;refine ao (nH r.1 λU t3 s3=> ?_);refine ao (kj (ay ?_));refine ao (ao (ki ?_));refine ao (aO (r.2 U t3 s3) (λy s4 r=>r.out λg4 r=>ay ?_) λe s2=>fail);refine sf (λu=>dB r.1 rfl) ?_;refine ao (nH r.1 λJ (t5:cq J TO x y) s5=> ?_);refine ao (kj (ay (ay ?_)));refine sf (λu=>dB t5 rfl) ?_;refine sf (λu=>gS) ?_;have z5:de J z TI TO .ellipsis:=s5.extBut _ _ TOz.symm r.2.1;refine ao ?_;refine ao (ib (aS _ z5:de (J.push {cls:= .type "tuple",data:= .seq #[x,y]}) z TI TO .ellipsis) (ic 4) λg7 (z7:de g7 z TI TO (rawInt J.objs.size)) s7=> ?_);refine ib z7 (gi (ic 3)) λg8 (z8:de g8 z TI TO (rawInt J.objs.size)) s8=> ?_;have up:∀ c o,c≠z->(J.push {cls:= .type "tuple",data:= .seq #[x,y]}).get? c=some o->g8.get? c=some o:=λc o c1 e=>s8.extBut _ _ c1 (s7.extBut _ _ c1 e);exact ay ⟨_,rfl,r.2.2 J g8 t5 s5 z8 (up _ _ (cy (aY z5)) (a8 _ rfl)) λc o c1 e=>up c o c1 (aS _ e)⟩
theorem yq.move{z TI TO i1 i2 l1 l2:ag}{h h':aq}{f f':af}{k:aa}{xs ys:aB af}(D:dC z TI TO i1 i2 l1 l2)(Z:yq h z TI TO i1 i2 l1 l2 f k xs ys)(k':∀ c o,c≠z->c≠TO->c≠i1->c≠i2->h.get? c=some o->h'.get? c=some o)(hz:de h' z TI TO f')(ho:∃ a b,cq h' TO a b){n:aa}(h1:h'.IsTupleIter i1 l1 n)(h2:h'.IsTupleIter i2 l2 n):yq h' z TI TO i1 i2 l1 l2 f' n xs ys:=
 ⟨hz,k' _ _ D.TIz D.TITO D.TIi1 D.TIi2 Z.ti,ho,h1,h2,Z.l1.imp λo=>aT (k' _ o D.l1z D.l1TO D.l1i1 D.l1i2),Z.l2.imp λo=>aT (k' _ o D.l2z D.l2TO D.l2i1 D.l2i2)⟩
theorem Q8{z TI TO i1 i2 l1 l2:ag}{k:aa}{xs ys:aB af}{x y:af}{Q:VS}(D:dC z TI TO i1 i2 l1 l2)(Z:yq s.heap z TI TO i1 i2 l1 l2 .none k xs ys)(hx:xs[k]?=some x)(hy:ys[k]?=some y)
  (hQ:∀ h',yq h' z TI TO i1 i2 l1 l2 (rawInt s.heap.objs.size) (k+1) xs ys->cq h' s.heap.objs.size x y->(∀ c o,c≠z->c≠TO->c≠i1->c≠i2->s.heap.get? c=some o->h'.get? c=some o)->Q (.ref s.heap.objs.size) {s with heap:=h'}):
  ak (aA prog w) A (bq.«zip.__next__» ⟨[.ref z],[]⟩) (λfin s'=>∃ v,fin= .done (.ret v)/\Q v s') E s:=Z.to.elim λa ho=>ho.elim λb hTO=>
 Iy Z.z Z.ti hTO D.TOz λg1 z1 t1 s1=>xV (Z.i1.extBut s1.extBut D.i1z) (Z.l1.extBut s1.extBut D.l1z) hx λg2 a2 s2=> .mk ⟨s2.extBut _ _ D.TOi1 t1,λg3 t3 J=>
  xV (((Z.i2.extBut s1.extBut D.i2z).extBut s2.extBut D.i12.symm).extBut J.extBut D.TOi2.symm) (((Z.l2.extBut s1.extBut D.l2z).extBut s2.extBut D.l2i1).extBut J.extBut D.l2TO) hy λg4 a4 U=> .mk ⟨U.extBut _ _ D.TOi2 t3,U.extBut _ _ D.i2z.symm (J.extBut _ _ D.TOz.symm (s2.extBut _ _ D.i1z.symm z1)),λg5 g8 t5 s5 z8 t8 up=>by
   have hsz:g5.objs.size=s.heap.objs.size:=by rw[s5.1,U.1,J.1,s2.1,s1.1]
   rw[hsz] at z8 t8⊢
   refine hQ g8 (Z.move D ?_ z8 ⟨x,y,up _ _ D.TOz t5⟩ ((((a2.extBut J.extBut D.TOi1.symm).extBut U.extBut D.i12).extBut s5.extBut D.TOi1.symm).imp λo=>aT (up _ o D.i1z)) ((a4.extBut s5.extBut D.TOi2.symm).imp λo=>aT (up _ o D.i2z))) t8 ?_
   all_goals exact λc o c1 c2 c3 c4 e=>up c o c1 (s5.extBut _ _ c2 (U.extBut _ _ c4 (J.extBut _ _ c2 (s2.extBut _ _ c3 (s1.extBut _ _ c1 e)))))⟩⟩
theorem Ug{z TI TO i1 i2 l1 l2:ag}{k:aa}{xs ys:aB af}{Q:VS}(hh:A.handled=none)(D:dC z TI TO i1 i2 l1 l2)(Z:yq s.heap z TI TO i1 i2 l1 l2 .none k xs ys)(U:xs[k]?=none\/ys[k]?=none)
  (hE:∀ h' e,(∀ c o,c≠z->c≠TO->c≠i1->c≠i2->s.heap.get? c=some o->h'.get? c=some o)->(∃ o,h'.get? e=some o/\o.cls= .type "StopIteration")->E (.ref e) {s with heap:=h'}):
  ak (aA prog w) A (bq.«zip.__next__» ⟨[.ref z],[]⟩) (λfin s'=>∃ v,fin= .done (.ret v)/\Q v s') E s:=Z.to.elim λa ho=>ho.elim λb hTO=>by
 have ne:∀ {g:aq} {e:ag},de g z TI TO .ellipsis->(∃ o,g.get? e=some o/\o.cls= .type "StopIteration")->e≠z:=λhz he x=>he.elim λo r=>by cases x;cases hz.symm.trans r.1;exact aC (km r.2) (by decide)
 refine Iy Z.z Z.ti hTO D.TOz λg1 z1 t1 s1=> ?_;cases hx:xs[k]? with
 |none=>exact Bq hh (Z.i1.extBut s1.extBut D.i1z) (Z.l1.extBut s1.extBut D.l1z) hx λg2 e s2 he=>have z2:=s2 _ _ D.i1z.symm z1; .mk ⟨z2,λg3 J=>hE g3 e (λc o c1 y c3 y x=>J.extBut _ _ c1 (s2 _ _ c3 (s1.extBut _ _ c1 x))) (he.imp λo=>aT (J.extBut _ _ (ne z2 he)))⟩
 |some x=>
  have hy:ys[k]?=none:=U.elim (λh=>nomatch hx.symm.trans h) id
  exact xV (Z.i1.extBut s1.extBut D.i1z) (Z.l1.extBut s1.extBut D.l1z) hx λg2 a2 s2=> .mk ⟨s2.extBut _ _ D.TOi1 t1,λg3 t3 J=>
   Bq hh (((Z.i2.extBut s1.extBut D.i2z).extBut s2.extBut D.i12.symm).extBut J.extBut D.TOi2.symm) (((Z.l2.extBut s1.extBut D.l2z).extBut s2.extBut D.l2i1).extBut J.extBut D.l2TO) hy λg4 e s4 he=>
    have z4:=s4 _ _ D.i2z.symm (J.extBut _ _ D.TOz.symm (s2.extBut _ _ D.i1z.symm z1)); .mk ⟨z4,λg5 s5=>hE g5 e (λc o c1 c2 c3 c4 x=>s5.extBut _ _ c1 (s4 _ _ c4 (J.extBut _ _ c2 (s2.extBut _ _ c3 (s1.extBut _ _ c1 x))))) (he.imp λo=>aT (s5.extBut _ _ (ne z4 he)))⟩⟩
theorem Fd{z TI TO i1 i2 l1 l2:ag}{k:aa}{xs ys:aB af}{x y:af}{Q:ax af->ai->Prop}(D:dC z TI TO i1 i2 l1 l2)(Z:yq s.heap z TI TO i1 i2 l1 l2 .none k xs ys)(hx:xs[k]?=some x)(hy:ys[k]?=some y)
  (U:∀ h',yq h' z TI TO i1 i2 l1 l2 (rawInt s.heap.objs.size) (k+1) xs ys->cq h' s.heap.objs.size x y->(∀ c o,c≠z->c≠TO->c≠i1->c≠i2->s.heap.get? c=some o->h'.get? c=some o)->Q (some (.ref s.heap.objs.size)) {s with heap:=h'}):
  ak (aA prog w) A (pyNext (.ref z)) Q E s:=by
 have J:s.TypeIs (.ref z) "zip":=⟨_,Z.z,rfl⟩
 exact ao (eD (d3 (name:=aJ "__next__") J fg
  (cz fg J i9 (Q8 D Z hx hy λh' a1 a2 a3=>ay (U h' a1 a2 a3)) (ja _))))
theorem Br{z TI TO i1 i2 l1 l2:ag}{k:aa}{xs ys:aB af}{Q:ax af->ai->Prop}(hh:A.handled=none)(D:dC z TI TO i1 i2 l1 l2)(Z:yq s.heap z TI TO i1 i2 l1 l2 .none k xs ys)(J:xs[k]?=none\/ys[k]?=none)
  (hQ:∀ h',(∀ c o,c≠z->c≠TO->c≠i1->c≠i2->s.heap.get? c=some o->h'.get? c=some o)->Q none {s with heap:=h'}):ak (aA prog w) A (pyNext (.ref z)) Q E s:=by
 have U:s.TypeIs (.ref z) "zip":=⟨_,Z.z,rfl⟩
 refine ao (eD (d3 (name:=aJ "__next__") U fg
  (cz fg U i9 (Ug hh D Z J λh' e hk he=> ?_) (ja _))))
 refine he.elim λo sd=> ?_;have ho:=sd.1;have hc:=sd.2;refine sf (λy=>gK (T:="StopIteration") (b:=true) ⟨o,ho,hc⟩ kq) ?_;exact ay (hQ _ hk)
noncomputable abbrev VT(h:aq)(l1:ag):aq:=h.push {cls:= .type "tuple_iterator",data:= .fields #[.ref l1, .int 0 0]}
abbrev VU(h:aq)(l1 l2:ag):aq:=(VT h l1).push {cls:= .type "tuple_iterator",data:= .fields #[.ref l2, .int 0 0]}
abbrev VV(h:aq)(l1 l2:ag):aq:=(VU h l1 l2).push {cls:= .type "tuple",data:= .seq #[.ref h.objs.size, .ref (VT h l1).objs.size]}
abbrev VW(h:aq)(l1 l2:ag):aq:=(VV h l1 l2).push {cls:= .type "tuple",data:= .seq #[.none, .none]}
abbrev Kl(h:aq)(l1 l2:ag):aq:=(VW h l1 l2).push {cls:= .type "zip",data:= .fields #[.none, .bool false, .bool false, .ref (VU h l1 l2).objs.size, .ref (VV h l1 l2).objs.size]}
theorem OS(l1 l2:ag)(xs ys:aB af):
  Meets (bq.«zip.__new__» ⟨[.type "zip", .ref l1, .ref l2],[]⟩) (λz R s=>s.heap.IsTuple l1 xs/\s.heap.IsTuple l2 ys/\
   R (.ok (.ret (.ref (VW s.heap l1 l2).objs.size))) {s with heap:=Kl s.heap l1 l2}):=
 .of_wp λprog w A R s h=>by
  obtain⟨hp,g,d,tk,os⟩:=s;obtain⟨J,U,h⟩:=h;have hsub:=sub_zip;have hL1:nJ (nK ⟨hp,g,d,tk,os⟩) l1 xs:=J;have hL2:nJ (nK ⟨hp.push {cls:= .type "tuple_iterator",data:= .fields #[.ref l1, .int 0 0]},g,d,tk,os⟩) l2 ys:=nJ.push U _;wp_walk using iY hL1,iY hL2;exact⟨_,rfl,h⟩
theorem Iz{l1 l2:ag}{xs ys:aB af}{Q:VS}(J:s.heap.IsTuple l1 xs)(U:s.heap.IsTuple l2 ys)
  (h:∀ h',yq h' (s.heap.objs.size+4) (s.heap.objs.size+2) (s.heap.objs.size+3) s.heap.objs.size (s.heap.objs.size+1) l1 l2 .none 0 xs ys->(∀ c o,s.heap.get? c=some o->h'.get? c=some o)->Q (.ref (s.heap.objs.size+4)) {s with heap:=h'}):
  ak (aA prog w) A (call (.type "zip") [.ref l1, .ref l2]) Q E s:=by
 refine callType_new F.called_zip (by decide) (F.typeCall_zip_2 _ _) (F.newCall_zip_2 _ _) (λobj=>F.args_object_init_3 obj _ _) F.entry_zip_new
  (OS l1 l2 xs ys) ⟨J,U, ?_⟩
 have z1:(VT s.heap l1).objs.size=s.heap.objs.size+1:=cT ..;have z2:(VU s.heap l1 l2).objs.size=s.heap.objs.size+2:=by rw[cT,z1]
 have z3:(VV s.heap l1 l2).objs.size=s.heap.objs.size+3:=by rw[cT,z2]
 have z4:(VW s.heap l1 l2).objs.size=s.heap.objs.size+4:=by rw[cT,z3]
 have g5:(Kl s.heap l1 l2).get? (VW s.heap l1 l2).objs.size=some _:=a8 _ rfl;have g4:(Kl s.heap l1 l2).get? (VV s.heap l1 l2).objs.size=some _:=aS _ (a8 _ rfl);have g3:(Kl s.heap l1 l2).get? (VU s.heap l1 l2).objs.size=some _:=aS _ (aS _ (a8 _ rfl));have g2:(Kl s.heap l1 l2).get? (VT s.heap l1).objs.size=some _:=aS _ (aS _ (aS _ (a8 _ rfl)));have g1:(Kl s.heap l1 l2).get? s.heap.objs.size=some _:=aS _ (aS _ (aS _ (aS _ (a8 _ rfl))));have kk:∀ c o,s.heap.get? c=some o->(Kl s.heap l1 l2).get? c=some o:=λc o x=>aS _ (aS _ (aS _ (aS _ (aS _ x))));show _/\_;rw[z2,z3,z4] at g5
 rw[z1,z2] at g3
 rw[z3] at g4
 rw[z1] at g2
 rw[z4];refine⟨⟨_,g5,rfl⟩,h _ ⟨g5,g3,⟨_,_,g4⟩,⟨_,g1,rfl,rfl⟩,⟨_,g2,rfl,rfl⟩, ?_, ?_⟩ kk⟩
 ·obtain⟨o,e,r⟩:=J;exact⟨o,kk _ o e,r⟩
 ·obtain⟨o,e,r⟩:=U;exact⟨o,kk _ o e,r⟩
end
section
variable{d:aa}{A:az}{X Y:O ag}{C C':Cx}{σ:Ob}{s:ai}{α β γ:Type}{sc:Sc}{F:Fn}{env:aD}{l:Loc}
theorem Uh{xs:O V}:∀ {ys:O V} {i:aa} {x:V},(vI xs ys)[i]?=some x->∃ a b,(xs[i]?=some a/\ys[i]?=some b)/\x= .tup [a,b]:=by
 induction xs with
 |nil=>exact λh=>(by cases h)
 |cons a xs J=>
  intro ys i x h;cases ys with
  |nil=>cases h
  |cons b ys=>
   cases i with
   |zero=>exact⟨a,b,⟨rfl,rfl⟩,(aE h).symm⟩
   |succ i=>exact J (i:=i) h
theorem Ui{xs:O V}:∀ {ys:O V},xs[(vI xs ys).length]?=none\/ys[(vI xs ys).length]?=none:=by
 induction xs with
 |nil=>exact .inl rfl
 |cons a xs J=>
  intro ys;cases ys with
  |nil=>exact .inr rfl
  |cons b ys=>exact J (ys:=ys)
structure Ap(z TI TO i1 i2 l1 l2:ag)(f0:af)(ub its2:aB af)(Fe Ff:O V)(i:aa)(h:aq)(C:Cx):Prop where
 Z:yq h z TI TO i1 i2 l1 l2 f0 i ub its2
 n1:l1∉C.res
 n2:l2∉C.res
 v1:su h C Fe ub.toList
 v2:su h C Ff its2.toList
variable{z TI TO i1 i2 l1 l2:ag}{f0:af}{ub its2:aB af}{Fe Ff:O V}{i:aa}{h h':aq}
theorem Uj{P:ag->Prop}(J:P z)(p2:P TI)(U:P TO)(p4:P i1)(p5:P i2):∀ a∈[z,TI,TO,i1,i2],P a:=bj.mpr ⟨J,bj.mpr ⟨p2,bj.mpr ⟨U,bj.mpr ⟨p4,bj.mpr ⟨p5,λy h=>aC h ba⟩⟩⟩⟩⟩
theorem Ap.keep(st:Ap z TI TO i1 i2 l1 l2 f0 ub its2 Fe Ff i h C)(S:uj h C h' C')(hk:∀ a∈[z,TI,TO,i1,i2],∀ o,h.get? a=some o->h'.get? a=some o):Ap z TI TO i1 i2 l1 l2 f0 ub its2 Fe Ff i h' C':=
 have e1:=wv S st.n1 st.Z.l1;have e2:=wv S st.n2 st.Z.l2
 ⟨⟨hk _ (.head _) _ st.Z.z,hk _ (.tail _ (.head _)) _ st.Z.ti,st.Z.to.imp λy=>cK λy=>hk _ (.tail _ (.tail _ (.head _))) _,st.Z.i1.imp λo=>aT (hk _ (.tail _ (.tail _ (.tail _ (.head _)))) o),st.Z.i2.imp λo=>aT (hk _ (.tail _ (.tail _ (.tail _ (.tail _ (.head _))))) o),e1.1,e2.1⟩,e1.2,e2.2,st.v1.step S,st.v2.step S⟩
theorem Ap.alive(st:Ap z TI TO i1 i2 l1 l2 f0 ub its2 Fe Ff i h C):∀ a∈[z,TI,TO,i1,i2],∃ o,h.get? a=some o/\xG o:=
 Uj ⟨_,st.Z.z,λy y z=>(by cases z)⟩ ⟨_,st.Z.ti,λy y z=>(by cases z)⟩ (st.Z.to.elim λy x=>x.elim λy x=>⟨_,x,λy y z=>(by cases z)⟩) (st.Z.i1.imp λo r=>⟨r.1,λy y z=>nomatch r.2.2.symm.trans z⟩) (st.Z.i2.imp λo r=>⟨r.1,λy y z=>nomatch r.2.2.symm.trans z⟩)
theorem W0{c:ag}(h:c∉[z,TI,TO,i1,i2]):(c≠z/\c≠TO)/\c≠i1/\c≠i2:=⟨⟨λe=>h (e▸ .head _),λe=>h (e▸ .tail _ (.tail _ (.head _)))⟩,λe=>h (e▸ .tail _ (.tail _ (.tail _ (.head _)))),λe=>h (e▸ .tail _ (.tail _ (.tail _ (.tail _ (.head _)))))⟩
theorem FP(hk:∀ c o,c≠z->c≠TO->c≠i1->c≠i2->h.get? c=some o->h'.get? c=some o):xi [z,TI,TO,i1,i2] h h':=λc o hc e=>have n:=W0 hc;hk c o n.1.1 n.1.2 n.2.1 n.2.2 e
theorem Nf{own:O ag}(hown:∀ a∈own,a∈C.sj)(hk:xi own h h'):uj h C h' C:=⟨λn e=>hk _ _ (λz=>n (th (hown _ z))) e,λy=> .inl,λe=>e⟩
theorem W1{elts:O au}{kk:aa}{pos:aK}(hh:A.handled=none)(D:dC z TI TO i1 i2 l1 l2):
  Src A (.Tuple elts kk pos) (.ref z) [z,TI,TO,i1,i2] (vI Fe Ff) (Ap z TI TO i1 i2 l1 l2 .none ub its2 Fe Ff) (λi v h C=>∃ T,v= .ref T/\Ap z TI TO i1 i2 l1 l2 (rawInt T) ub its2 Fe Ff i h C) where
 alive:=Ap.alive
 Cb:=λx=>x.elim λy r=>r.2.alive
 keep:=Ap.keep
 next:=λ{i x s C Q E} hx st al hown U=>(Uh hx).elim λa r=>r.elim λb r=>(st.v1.get i a r.1.1).elim λva e1=>(st.v2.get i b r.1.2).elim λvb e2=>
  Fd D st.Z (bL.symm.trans e1.1) (bL.symm.trans e2.1) λh' Z' hT hk=>by
   have J:xi [z,TI,TO,i1,i2] s.heap h':=FP hk;have S:=Nf hown J;rw[r.2] at U
   exact U (.ref s.heap.objs.size) h' s.toks (.tup (items:= #[va,vb]) (λz=>(al z).elim λy e=>aC (aY e) (bT _)) ⟨_,hT,rfl,_,rfl⟩ (.cons (e1.2.step S) (.cons (e2.2.step S) .nil))) ⟨_,rfl,Z',st.n1,st.n2,st.v1.step S,st.v2.step S⟩ J
 done:=λ{s C Q E} st hown U=>Br hh D st.Z ((Ui (xs:=Fe) (ys:=Ff)).imp (λh=>by rw[<-bL,hZ,<-st.v1.length];exact hZ.mp h) λh=>by rw[<-bL,hZ,<-st.v2.length];exact hZ.mp h) λh' hk=>U h' s.toks (FP hk)
 self:=λst U=>ku st.Z.z U
 go:=λ{i x v s C Q E} hx st hv hown U=>st.elim λT r=>by
  cases r.1;refine wpAny_letOwnedTupleGo_zip r.2.Z.z λh' hz S=> ?_;have hk:∀ {b o},b≠z->s.heap.get? b=some o->h'.get? b=some o:=λhb e=>(S.2 _ hb).trans e;have J:xi [z,TI,TO,i1,i2] s.heap h':=FP λc o c1 y y y e=>hk c1 e;have st:=Nf hown J;have Z:=r.2.Z;exact U h' ⟨Z.move D (λc o c1 y y y=>hk c1) hz (Z.to.imp λy=>cK λy=>hk D.TOz) (Z.i1.imp λo=>aT (hk D.i1z)) (Z.i2.imp λo=>aT (hk D.i2z)),r.2.n1,r.2.n2,r.2.v1.step st,r.2.v2.step st⟩ J
theorem Fg{n a b:aa}(h1:a<n)(h2:b<n):dC (n+4) (n+2) (n+3) n (n+1) a b:=by
 constructor<;>first|exact bu h1|exact bu h2|exact cy h1|exact cy h2|exact λe=>aC (nL (n:=n) e) (by decide)|exact cy (gG (by decide))|exact bu (gG (by decide))|exact bu (bw h1 (aV ..))|exact bu (bw h2 (aV ..))|exact cy (bw h1 (aV ..))|exact cy (bw h2 (aV ..))
theorem Al.tI{U:V}{f:O V->M α}{P:α->Ob->Prop}(h:∀ xs,U= .tup xs->Al (f xs σ) P):Al (M.bind (tI U) f σ) P:=
 V.casesOn (motive_1:=λU=>(∀ xs,U= .tup xs->Al (f xs σ) P)->Al (M.bind (Internal.tI U) f σ) P) U (λz=>ah) (λz z=>ah) (λz z=>ah) (λz z=>ah) (λxs h=>h xs rfl) (λz z=>ah) (λz z z=>ah) (λz z z=>ah) (λz z=>ah) (λz z=>ah) h
theorem IA{J mb:ME}{k:O V->O V->M α}{P:α->Ob->Prop}(h:Al (sR F [J,mb] l σ) λvs σ'=>∀ xs ys,vs=[.tup xs, .tup ys]->Al (k xs ys σ') P):Al (M.bind (rZ F J l) (λx=>M.bind (tI x) λxs=>M.bind (rZ F mb l) λy=>M.bind (tI y) λys=>k xs ys) σ) P:=
 Al.bind (m:=rZ F J l) (f:=λx=>M.bind (tI x) λxs=>M.bind (rZ F mb l) λy=>M.bind (tI y) λys=>k xs ys) (.intro λx σ1 e1=> .tI λxs U=>Al.bind (m:=rZ F mb l) (f:=λy=>M.bind (tI y) λys=>k xs ys) (.intro λy σ2 e2=> .tI λys ey=>h.get (a:=[x,y]) (by
  show M.bind (rZ F J l) (λv=>M.bind (M.bind (rZ F mb l) λv'=>M.bind (M.pure []) λvs=>M.pure (v'::vs)) λvs=>M.pure (v::vs)) σ=_;unfold M.bind;rw[e1];dsimp only;rw[e2]) xs ys (U▸ey▸rfl)))
theorem Uk{J mb:ME}{P:O V->Ob->Prop}(h:Al (sR F [J,mb] l σ) λvs σ'=>∀ xs ys,vs=[.tup xs, .tup ys]->P (vI xs ys) σ'):Al (wc F (.zip J mb) l σ) P:=IA (k:=λxs ys=>M.pure (vI xs ys)) h
theorem Ul{a b:au}{ma mb:ME}{x:am}{p pos J:aK}{elts:O au}{kk:aa}(N:Names)(hx:sc.kind x=some .globalImplicit)(hd:(x==("__debug__":am))=false)(hv:Means x (.type "zip"))(hs:∀ e∈[a,b],s9 e)(ha:sA d F sc a ma)(hb:sA d F sc b mb):
  FI d F sc (.Tuple elts kk J) (.Call (.Name x p) [a,b] [] pos) (.zip ma mb):=λ{A C σ s env l} H=>Uk ((xe (pos:=pos) hs (.cons ha (.cons hb .nil)) H).imp λvs σ' w xs ys e=>ao (vQ N H.env H.I hx hd hv (dL (P:=λh=>Keeps h (.type "zip")) (by rw[ux hs];rfl) (λh hp=>hp) (uy hs (aO w (λus s1 ok=>sY.casesOn (motive:=λy=>_/\ak _ _ (call (.type "zip") ([]++us)) _ _ _) ok λ{C1} N1 r=>⟨um rfl,by
  subst e;refine r.1.out (P:=λus=>ak _ _ (call (.type "zip") ([]++us)) _ _ _) λU r1 g1 g2=>g2.out (P:=λr1=>ak _ _ (call (.type "zip") ([]++U::r1)) _ _ _) λu2 r2 g2 g3=>g3.out (P:=λr2=>ak _ _ (call (.type "zip") ([]++U::u2::r2)) _ _ _) ?_;show ak _ _ (call (.type "zip") [U,u2]) _ _ _;refine g1.out (P:=λU=>ak _ _ (call (.type "zip") [U,u2]) _ _ _) λl1 ub n1 t1 w1=>g2.out (P:=λu2=>ak _ _ (call (.type "zip") [.ref l1,u2]) _ _ _) λl2 its2 n2 t2 w2=>Iz t1 t2 λh' Z hk=> ?_;have ab:=(H.next N1).pl.above;have lt1:=t1.elim λo r=>aY r.1;have lt2:=t2.elim λo r=>aY r.1;have hN:∀ a∈[s1.heap.objs.size+4,s1.heap.objs.size+2,s1.heap.objs.size+3,s1.heap.objs.size,s1.heap.objs.size+1],s1.heap.objs.size<=a:=Uj (aV _ 4) (aV _ 2) (aV _ 3) (aU _) (cU _);have S:=w6 (C:=C1) (hk _ _) λ{a} ha=>u0 (hN a ha);exact⟨C1,s1,N1,λhQ=>ku Z.z (hQ _ _ (.mk (W1 (Fe:=xs) (Ff:=ys) H.A.handled (Fg lt1 lt2)) ⟨Z,λz=>(yw.mp z).elim (λz=>aC lt1 (cm.mpr (hN _ z))) n1,λz=>(yw.mp z).elim (λz=>aC lt2 (cm.mpr (hN _ z))) n2,w1.step S,w2.step S⟩ (hk _ _) (λ{a} ha=>⟨u0 (hN a ha),aw ab (hN a ha)⟩) rfl rfl))⟩⟩) λy y=>id)))))
end
end
end
section
open PySem.W PyProof.Rows PySem.Calls
section
theorem Mo(x:ae){ns:O ae}(h:ns.Pairwise (·<= ·)):∃ U:O ae,AB (.int x) (ns.map V.int)=U.map V.int/\U.Perm (x::ns)/\U.Pairwise (·<= ·):=by
 induction ns with
 |nil=>exact⟨[x],rfl, .refl _,O.pairwise_singleton _ x⟩
 |cons y ns ih=>
  have z:=gO.mp h;show ∃ U,(if decide (x<y)=true then V.int x::V.int y::ns.map V.int else V.int y::AB (.int x) (ns.map V.int))=_/\_
  by_cases J:x<y
  ·rw[aN (aX J)]
   exact⟨x::y::ns,rfl, .refl _,gO.mpr ⟨λu hu=>(aW.mp hu).elim (λe=>e▸fu J) λhu=>bK (fu J) (z.1 u hu),h⟩⟩
  ·rw[aI λe=>J (aP e)]
   exact(ih z.2).elim λU r=>⟨y::U,av (V.int y:: ·) r.1,(r.2.1.cons y).trans (.swap x y ns),gO.mpr ⟨λu hu=>(aW.mp (r.2.1.mem_iff.mp hu)).elim (λe=>e▸d5.mp J) (z.1 u),r.2.2⟩⟩
theorem Q9(ns:O ae):∃ J:O ae,w8 (ns.map V.int)=J.map V.int/\J.Perm ns/\J.Pairwise (·<= ·):=by
 induction ns with
 |nil=>exact⟨[],rfl, .refl _, .nil⟩
 |cons x ns U=>exact U.elim λJ e=>(Mo x e.2.2).elim λks f=>⟨ks,(av (AB (.int x)) e.1).trans f.1,f.2.1.trans (e.2.1.cons x),f.2.2⟩
section
variable{d:aa}{A:az}{X Y:O ag}{C C':Cx}{σ:Ob}{s:ai}{α β γ:Type}{sc:Sc}{F:Fn}{env:aD}{l:Loc}
theorem ints_rep{h:aq}{vs:O af}{ns:O ae}(e:eL vs ns):su h C (ns.map V.int) vs:=by
 induction e with
 |nil=>exact .nil
 |cons n t _ J=>exact .cons .int J
theorem Ch{prog:a9}{w:a0}{E:VS}{x:af}{ns:O ae}{Q:VS}(h64:ns.length<64)
  (hc:∀ {Q':O af->ai->Prop},(∀ h' tk vs,(∀ {b o},s.heap.get? b=some o->h'.get? b=some o)->eL vs ns->Q' vs {s with heap:=h',toks:=tk})->ak (aA prog w) A.in1 (collect x) Q' E s)
  (h:∀ h' tk D out J,(∀ {b o},s.heap.get? b=some o->h'.get? b=some o)->s.heap.get? D=none->h'.PlainList D out->eL out.toList J->J.Perm ns->J.Pairwise (·<= ·)->Q (.ref D) {s with heap:=h',toks:=tk}):
  ak (aA prog w) A (call (.builtin "sorted") [x]) Q E s:=by
 refine nM nN nO nP (nQ _) ?_;refine ao (m:=checkCount "sorted" 1 1 _) (ay (ao (hc λh' tk vs hk hI=> ?_)));have hlen:vs.length<64:=hI.length▸h64;refine ao (fx ?_ (aw (bB hlen) (by decide)))
 have Km:(h'.push (seqObj "list" vs.toArray 0)).get? h'.objs.size=some (seqObj "list" vs.toArray 0):=a8 _ rfl;refine ao (bd (cz nR ⟨_,Km,rfl⟩ nS (list_sort_tree (s:={s with heap:=h'.push (seqObj "list" vs.toArray 0),toks:=tk}) Km hI hlen λout J a1 a2 a3=>⟨_,rfl, ?_⟩) (nU _)))
 exact(nV (out:=out) Km).elim λe he=>ay ⟨_,rfl,h _ _ _ out J (λe=>have U:=aY (hk e);(nW (bu U) (by rw[cT];exact fF U)).trans (aS _ (hk e)))
  (match e':s.heap.get? h'.objs.size with|none=>rfl|some o=>aC (aY (hk e')) (bT _)) ⟨_,he⟩ a1 a2 a3⟩
theorem Fh{h:aq}{xs:O V}{vs:O af}(hx:xs.all tJ=true)(hv:su h C xs vs):∃ ns:O ae,xs=ns.map V.int/\eL vs ns:=(ints_of hx hv).elim λps e=>⟨ps.map (·.1),by rw[e.2,bR];rfl,by
 rw[e.1];clear e;induction ps with
 |nil=>exact .nil
 |cons p ps J=>exact .cons p.1 p.2 J⟩
theorem Kn{D:ag}{h':aq}{tk:aa}{out:aB af}{ns J:O ae}(I:Inv C σ s)(hk:∀ {b o},s.heap.get? b=some o->h'.get? b=some o)(hD:s.heap.get? D=none)(hp:h'.PlainList D out)(hI:eL out.toList J)(p:J.Perm ns)(pw:J.Pairwise (·<= ·)):
  sY X C s (RV) (.lst (w8 (ns.map V.int))) σ (.ref D) {s with heap:=h',toks:=tk}:=(Q9 ns).elim λU e=>by
 cases lks_uniq (p.trans e.2.1.symm) pw e.2.2;rw[e.1];exact wR I hk λy=> .lst (λz=>(I.there z).elim λo e=>(by cases (hD.symm.trans e))) hp (ints_rep hI)
theorem OT{kvs:O (ae×af)}:∀ {vs:O af},vs.length=kvs.length->(∀ (j:aa) (v:af),vs[j]?=some v->∃ k x,kvs[j]?=some (k,x)/\(aZ pw G.w).is k v=true)->eL vs (kvs.map (·.1)):=by
 induction kvs with
 |nil=>exact λJ z=>dY J▸ .nil
 |cons kv kvs U=>
  intro vs J hv;cases vs with
  |nil=>cases J
  |cons v vs=>
   refine(hv 0 v rfl).elim λk r=>r.elim λx r=> ?_;have uI:=aE r.1;subst uI;have e:v.isInt k=true:=r.2;cases v with
   |int i t=>cases eq_of_beq e;exact .cons k t (U (dh J) λj=>hv (j+1))
   |_=>exact ff e
theorem OU{args:O V}{us:O af}(P:At d A C σ s)(ha:su s.heap C args us):r0 A X C σ s (tN .sorted args) (call (.builtin "sorted") us) (RV):=
 have I:=P.I
 .one (f:=CH) (g:=λus=>call (.builtin "sorted") us) ha λx v hv=> .on (m:=CH x) (f:=λv=>call (.builtin "sorted") [v]) hv (V.casesOn (motive_1:=λx=>Out s.heap C (λv=>r0 A X C σ s (CH x) (call (.builtin "sorted") [v]) (RV)) x) x ah (λz=>ah) (λz z=>ah) (λz z z z=>ah)
  (λxs l its n1 t1 hvs=> .guard (m:=M.pure (V.lst (w8 xs))) λhc=>(Fh (rY hc).1 hvs).elim λns e=>by
   cases e.1;have h2:ns.length<=8:=aH (as:=ns) V.int▸aP (rY hc).2;exact t1.elim λo r=>r.2.2.elim λn hd=>Ch (ns:=ns) (bH h2 (by decide)) (λ{Q'} hq=>wpAny_collect_seq l (.inr rfl) r.1 r.2.1 hd (λh' hk=>hq h' s.toks its.toList (hk _ _) e.2) (by rw[<-bQ,e.2.length];exact aw h2 (by decide))) λh' tk D out ns' hk hD hp U p pw=>Kn I hk hD hp U p pw)
  (λz z z z z z=>ah) (λz z z z z z z z=>ah) (λz z z z z z z z z=>ah)
  (λi p hp=> .obj (f:=DB) I hp λo r=>tm.casesOn (motive:=λp o z=>(p.1==ft)=false->r0 A X C σ s (DB o) (call (.builtin "sorted") [.ref p.1]) (RV)) r (λz z z=>ah)
   (λ{a ks vs ws} e D hs=> .guard (m:=M.pure (V.lst (w8 ks))) λhc=>Hj (P:=λks z=>ks.length<=8->ak _ _ (call (.builtin "sorted") [.ref a]) (sY X C s (RV) (.lst (w8 ks)) σ) tg s) D (rY hc).1 (λkvs hD h2=>by
    have h2:kvs.length<=8:=aH (as:=kvs) (λp=>V.int p.1)▸h2;rw[show kvs.map (λp=>V.int p.1)=(kvs.map (·.1)).map V.int by rw[bR];rfl]
    exact hD.dictAt.elim λep hat=>Ch (ns:=kvs.map (·.1)) (by rw[aH];exact bH h2 (by decide)) (λ{Q'} hq=>kdu_collect (kdl_dict (knd:=aZ pw G.w) (kvs:=kvs) (ep:=ep) hs) P.A.handled hat (aw h2 (by decide)) λh' tk acc hk J=>hq h' tk acc.toList (hk _ _) (OT (by rw[bQ];exact J.1) λj v h=>J.2 j v (bL.symm.trans h))) λh' tk D out ns' hk hD hp U p pw=>Kn I hk hD hp U p pw) (aP (rY hc).2))
   (λz z z z z z z z=>ah) (Hl I (vF (vh hp (.head _))))) λz z z z z z=>ah)
theorem Mp{x:am}{p pos:aK}{es:O au}{sU:O ME}(N:Names)(hx:sc.kind x=some .globalImplicit)(U:(x==("__debug__":am))=false)(hv:Means x (.builtin "sorted"))(hs:∀ e∈es,s9 e)(h:tj (sA d F sc) es sU):sA d F sc (.Call (.Name x p) es [] pos) (.bt .sorted sU):=λH=>
 zm N H hx U hv (.callWith (k:=tN .sorted) hs h H (λC' s' z=>um rfl) λxs vs C' σ' s' H S J z=>OU H.pl J)
end
end
section
theorem Ko:typeLookup (.type "list") "keys"=pure none:=by rw[gp,gq];kernel_rfl
theorem Mq:typeLookup (.type "zip") "keys"=pure none:=by rw[gp,gq];kernel_rfl
theorem HC:typeLookup (.type "zip") "__getattr__"=pure none:=by rw[gp,gq];kernel_rfl
theorem Kp:entryFor table "zip.__getattribute__"=some bq.«object.__getattribute__»:=
 kz (id':="object.__getattribute__") (by kernel_rfl) (by decide+kernel) (by decide+kernel) (by kernel_rfl)
section
variable{prog:a9}{w:a0}{A:az}{E:VS}{s:ai}
theorem OV{a:ag}{items:aB af}{n:aa}{Q:ax af->ai->Prop}(hA:A.handled=none)(hx:s.heap.get? a=some {cls:= .type "list",data:= .seq items n})
  (h:∀ h' tk,(∀ b o,s.heap.get? b=some o->h'.get? b=some o)->Q none {s with heap:=h',toks:=tk}):ak (aA prog w) A (getAttr? (.ref a) "keys") Q E s:=by
 obtain⟨hp,g,d,tk,os⟩:=s;have hT:∀ J,(⟨hp,g,d,J,os⟩:ai).TypeIs (.ref a) "list":=λz=>⟨_,hx,rfl⟩;have f1:=nX;have f3:=kA.lookup;have f4:=kA.bind (.ref a);have f5:=am_list_getattr_none
 repeat (any_goals (first|assumption|exact hT _|((with_reducible show ak _ _ (call (eC "list.__getattribute__") _ _) _ _ _);refine gc kA (hT _) am_entry_list_getattribute (F.args_list_getattribute_2 _ _) (meets_getattribute_miss_list a items n #[] (aJ "keys") _ Ko (by decide+kernel)) ⟨hx,hA,λh' J e U=> ?_⟩)|wp_step))
 refine U.there.elim λt' sd=>sd.elim λu' he=> ?_;unfold getattributeRaised
 repeat (any_goals (first|assumption|wp_step))
 exact h h' J U.keeps
theorem HD(a:ag)(f:aB af)(name:am)(u:bk)(U:typeLookup (.type "zip") name=pure none)(J:(["__module__","__name__","__qualname__","__doc__","__annotations__"]:O am).contains name=false)(hsz:name.length+100<=sizeLine):
  Meets (bq.«object.__getattribute__» ⟨[.ref a, .str name u],[]⟩) (λA R s=>s.heap.get? a=some {cls:= .type "zip",dict:=none,data:= .fields f,slots:= #[]}/\raisesAttr (.ref a) name A R s):=
 Meets.of_wp λprog w A R s hs=>by
  obtain⟨hp,g,d,tk,os⟩:=s;have hx:=hs.1;have hs:=hs.2;have hT:(⟨hp,g,d,tk,os⟩:ai).TypeIs (.ref a) "zip":=⟨_,hx,rfl⟩;unfold bq.«object.__getattribute__»
  repeat (any_goals (first|assumption|dsimp only|wp_step))
  simp -iota only[J,bN,bE]
  repeat (any_goals (first|assumption|dsimp only|wp_step))
  exact wpAny_raiseAttrError hs.1 hs.2 (attrMsg_fits (by decide+kernel) hsz)
theorem Ra{a:ag}{f:aB af}{Q:ax af->ai->Prop}(hA:A.handled=none)(hx:s.heap.get? a=some {cls:= .type "zip",dict:=none,data:= .fields f,slots:= #[]})
  (h:∀ h' tk,(∀ b o,s.heap.get? b=some o->h'.get? b=some o)->Q none {s with heap:=h',toks:=tk}):ak (aA prog w) A (getAttr? (.ref a) "keys") Q E s:=by
 obtain⟨hp,g,d,tk,os⟩:=s;have hT:∀ J,(⟨hp,g,d,J,os⟩:ai).TypeIs (.ref a) "zip":=λz=>⟨_,hx,rfl⟩;have f1:=nX;have f3:=kB.lookup;have f4:=kB.bind (.ref a);have f5:=HC
 repeat (any_goals (first|assumption|exact hT _|((with_reducible show ak _ _ (call (eC "zip.__getattribute__") _ _) _ _ _);refine gc kB (hT _) Kp (F.args_zip_getattribute_2 _ _) (HD a f (aJ "keys") _ Mq (by decide+kernel) (by decide+kernel)) ⟨hx,hA,λh' J e U=> ?_⟩)|wp_step))
 obtain⟨t',u',he⟩:=U.there;unfold getattributeRaised
 repeat (any_goals (first|assumption|wp_step))
 exact h h' J U.keeps
theorem Aa:entryFor table "dict.update.loop"=some bq.«dict.update.loop»:=kE (by kernel_rfl)
theorem wM:plainId "dict.update.loop"=true:=by decide+kernel
structure Draws(prog:a9)(w:a0)(A:az)(it:af)(own:O ag)(ps:O (ae×af))(St:aa->aq->Prop):Prop where
 keep:∀ {i h h'} {d:ag} {o:aL} {es:aB bX} {ep:aa},St i h->h.get? d=some o->o.data= .dict es ep->(∀ b o,b≠d->h.get? b=some o->h'.get? b=some o)->St i h'
 next:∀ {i:aa} {k:ae} {v:af} {s:ai} {Q:ax af->ai->Prop} {E:VS},ps[i]?=some (k,v)->St i s.heap->
  (∀ T kt h',h'.IsTuple T #[.int k kt,v]->St (i+1) h'->(∀ b o,b∉own->s.heap.get? b=some o->h'.get? b=some o)->Q (some (.ref T)) {s with heap:=h'})->ak (aA prog w) A (pyNext it) Q E s
 done:∀ {s:ai} {Q:ax af->ai->Prop} {E:VS},St ps.length s.heap->(∀ h',(∀ b o,b∉own->s.heap.get? b=some o->h'.get? b=some o)->Q none {s with heap:=h'})->ak (aA prog w) A (pyNext it) Q E s
noncomputable def yy(kvs:O (ae×af)):O (ae×af)->O (ae×af)
 |[]=>kvs
 |p::ps=>yy (stored kvs p.1 p.2) ps
theorem OW{kvs:O (ae×af)}{k:ae}{v:af}:(stored kvs k v).length<=kvs.length+1:=by
 unfold stored;split
 ·simp
 ·simp
theorem Mr{it:af}{own:O ag}{ps:O (ae×af)}{St:aa->aq->Prop}{d:ag}{res:af}(D:Draws prog w A.in1 it own ps St)(hd:d∉own):∀ (n i:aa) {kvs:O (ae×af)} {s:ai} {t:bk} {R:dl->ai->Prop},i+n=ps.length->s.heap.DictOf (aZ prog w) d kvs->St i s.heap->kvs.length+n<=1000->
  (∀ h' tk,h'.DictOf (aZ prog w) d (yy kvs (ps.drop i))->(∀ b o,b∉own->b≠d->s.heap.get? b=some o->h'.get? b=some o)->R (.ok (.ret res)) {s with heap:=h',toks:=tk})->
  bo (aA prog w) A (.builtin "dict.update.loop" ⟨[.ref d,it, .int (i:ae) t,res],[]⟩) R s:=by
 intro n;induction n with
 |zero=>
  intro i kvs s t R hi hD J hl hR;refine eF Aa ?_;rw[ie wM _];have hi':i=ps.length:=hi;subst hi';refine ao (D.done J λh' hk=> ?_);refine ao (m:=rg _ _) (ay ?_);rw[O.drop_length] at hR
  obtain⟨o,es,ep,ho,r⟩:=hD;exact ay (hR h' s.toks ⟨o,es,ep,hk d o hd ho,r⟩ λb o hb z e=>hk b o hb e)
 |succ n ih=>
  intro i kvs s t R hi hD J hl hR;refine eF Aa ?_;rw[ie wM _];have U:i<ps.length:=kF (gG (eU n)) hi;obtain⟨⟨k,v⟩,hp⟩:∃ p,ps[i]?=some p:=⟨_,br U⟩
  have hdr:ps.drop i=(k,v)::ps.drop (i+1):=by
   rw[gY U]
   congr 1
   exact aE ((br U).symm.trans hp)
  refine ao (D.next hp J λT kt h1 hT abk hk1=> ?_);dsimp only;have hTt:({s with heap:=h1}:ai).TypeIs (.ref T) "tuple":=hT.typeIs
  obtain⟨oT,Rb,hcT,nT,Dt⟩:=id hT;refine ao (bd (ao (wpAny_tryCatch ?_)));refine sf (λz=>d4 hTt) ?_;refine iy (by decide) ?_
  refine ao (dB Rb Dt (ay ?_));have hD1:h1.DictOf (aZ prog w) d kvs:=by obtain⟨o,es,ep,ho,r⟩:=hD;exact⟨o,es,ep,hk1 d o hd ho,r⟩
  refine bd (wpAny_dictSet_pairs (knd:=aZ prog w) (k:=k) (by simp[aZ,fQ]) hD1 (λh2 VX S=> ?_) (aw (aw (aV ..) hl) (by decide)))
  have CW:St (i+1) h2:=by
   obtain⟨o,es,ep,ho,hx,hda,_⟩:=hD1;exact D.keep abk ho hda λb o hb e=>(S.2 b hb).trans e
  refine ay ⟨d8 wM _, ?_⟩;refine ih (i+1) ((jb ..).trans hi) VX CW (aw (cO OW n) (aw (bF (jb ..)) hl)) λh3 tk Iu vr=> ?_;rw[hdr] at hR
  exact hR h3 tk Iu λb o hb hbd e=>vr b o hb hbd ((S.2 b hbd).trans (hk1 b o hb e))
structure zK(h:aq)(its:aB af)(ps:O (ae×af)):Prop where
 sz:its.size=ps.length
 get:∀ {j:aa} {p:ae×af},ps[j]?=some p->∃ T kt,its[j]?=some (.ref T)/\h.IsTuple T #[.int p.1 kt,p.2]
theorem zK.move{h h':aq}{its:aB af}{ps:O (ae×af)}(x:zK h its ps)(k:∀ {T items},h.IsTuple T items->h'.IsTuple T items):zK h' its ps:=⟨x.sz,λhp=>(x.get hp).imp λT=>cK λkt r=>⟨r.1,k r.2⟩⟩
theorem Ci{h h':aq}{d a:ag}{od:aL}{P:aL->Prop}(J:h.get? d=some od)(hk:∀ b o,b≠d->h.get? b=some o->h'.get? b=some o)(n:¬ P od)(x:∃ o,h.get? a=some o/\P o):∃ o,h'.get? a=some o/\P o:=
 x.elim λo r=>⟨o,hk _ _ (λz=>n (aE ((z▸J).symm.trans r.1)▸r.2)) r.1,r.2⟩
structure YY(I l:ag)(its:aB af)(ps:O (ae×af))(i:aa)(h:aq):Prop where
 it:h.IsListIter I l i
 l:h.IsList l its
 p:zK h its ps
theorem OX{I l:ag}{its:aB af}{ps:O (ae×af)}(hh:A.handled=none):Draws prog w A (.ref I) [I] ps (YY I l its ps) where
 keep:=λst hd J hk=>⟨Ci hd hk (λr=>nomatch J.symm.trans r.2) st.it,Ci hd hk (λr=>r.2.elim λy e=>nomatch J.symm.trans e) st.l,st.p.move (Ci hd hk λr=>r.2.elim λy e=>nomatch J.symm.trans e)⟩
 next:=λ{i k v s Q E} hp st hQ=>(st.p.get hp).elim λT r=>r.elim λkt r=>mW st.it st.l r.1 λh' hit S=>by
  have hk:∀ b o,b≠I->s.heap.get? b=some o->h'.get? b=some o:=λb o U e=>(S.2 b U).trans e
  exact st.it.elim λoI g=>have mt:∀ {T:ag} {items:aB af},s.heap.IsTuple T items->h'.IsTuple T items:=Ci g.1 hk λr=>aC (km (g.2.1.symm.trans r.1)) (by decide)
   hQ T kt h' (mt r.2) ⟨hit,Ci g.1 hk (λr=>aC (km (g.2.1.symm.trans r.1)) (by decide)) st.l,st.p.move mt⟩ λb o U=>hk b o λz=>U (z▸ .head _)
 done:=λst hQ=>mX hh st.it st.l (nY.mpr (bF st.p.sz)) λh' he=>hQ h' λb o U e=>he b o (λz=>U (z▸ .head _)) e
theorem Cj{l:ag}{T:bc}{Kq:O ag}{ps:O (ae×af)}{Q:VS}(hA:A.handled=none)(hT:s.TypeIs (.ref l) T)(hne:(bU T != .type "dict")=true)(hsz:ps.length<=64)(h00:∀ a∈Kq,a≠s.heap.objs.size)
  (hkeys:∀ {A':az} {s':ai} {Q:ax af->ai->Prop} {E:VS},A'.handled=none->(∀ b o,s.heap.get? b=some o->s'.heap.get? b=some o)->(∀ h' tk,(∀ b o,s'.heap.get? b=some o->h'.get? b=some o)->Q none {s' with heap:=h',toks:=tk})->ak (aA prog w) A' (getAttr? (.ref l) "keys") Q E s')
  (hiter:∀ {A':az} {s':ai} {Q:VS} {E:VS},A'.handled=none->(∀ b o,s.heap.get? b=some o->s'.heap.get? b=some o)->
   (∀ it own St h',Draws prog w A' it own ps St->St 0 h'->(∀ b o,s'.heap.get? b=some o->h'.get? b=some o)->(∀ a∈own,a∈Kq\/s'.heap.get? a=none)->Q it {s' with heap:=h'})->ak (aA prog w) A' (pyIter (.ref l)) Q E s')
  (h:∀ h' tk,h'.DictOf (aZ prog w) s.heap.objs.size (yy [] ps)->(∀ b o,b∉Kq->s.heap.get? b=some o->h'.get? b=some o)->Q (.ref s.heap.objs.size) {s with heap:=h',toks:=tk}):
  ak (aA prog w) A (call (.type "dict") [.ref l]) Q E s:=by
 refine callType_codes (Q₁:=λobj U=>obj= .ref s.heap.objs.size/\U={s with heap:=s.heap.push {cls:= .type "dict",data:= .dict #[]}}) F.kt_called_dict (F.kt_typeCall_dict_1 _) F.entry_dict_init (kt_code_dict_new _ ⟨rfl,rfl⟩) ?_
 rintro obj U ⟨rfl,rfl⟩;have J:(s.heap.push {cls:= .type "dict",data:= .dict #[]}).DictOf (aZ prog w) s.heap.objs.size []:=nZ s.heap;have k1:∀ b o,s.heap.get? b=some o->(s.heap.push {cls:= .type "dict",data:= .dict #[]}).get? b=some o:=λb o e=>aS _ e;refine⟨J.typeIs,F.args_dict_init_2 _ _, ?_⟩;unfold bq.«dict.__init__»;refine ao ?_;refine sf (λy=>wpAny_notOrdered_dict J.typeIs) ?_;refine ay ?_;show ak _ _ (n4 "dict.__init__" s.heap.objs.size (.ref l) [] .none) _ _ _;unfold n4;have hT1:({s with heap:=s.heap.push {cls:= .type "dict",data:= .dict #[]}}:ai).TypeIs (.ref l) T:=hT.imp λo z=>⟨k1 l o z.1,z.2⟩
 refine sf (λy=>d4 hT1) ?_;rw[aN hne];refine ao (hkeys hA k1 λh2 Ng hk2=> ?_);rw[aN (by rfl)]
 refine sf (λy=>ek) ?_;have k2:∀ b o,s.heap.get? b=some o->h2.get? b=some o:=λb o e=>hk2 b o (k1 b o e);have VX:h2.DictOf (aZ prog w) s.heap.objs.size []:=uv J λo es ep z=>⟨o,es,ep,hk2 _ _ z.1,z.2⟩;refine ao (hiter (s':={s with heap:=h2,toks:=Ng}) hA k2 λit own St h3 D h0 vr hown=> ?_)
 refine ay ⟨d8 wM _, ?_⟩;have Iu:h3.DictOf (aZ prog w) s.heap.objs.size []:=uv VX λo es ep z=>⟨o,es,ep,vr _ _ z.1,z.2⟩
 have hd:s.heap.objs.size∉own:=λz=>(hown _ z).elim (λz=>h00 _ z rfl) λz=>by
  obtain⟨o,es,ep,e,_⟩:=VX;rw[show({s with heap:=h2,toks:=Ng}:ai).heap=h2 from rfl,e] at z
  cases z
 refine Mr (A:=A.in1) (s:={s with heap:=h3,toks:=Ng}) D hd ps.length 0 (by simp) Iu h0 (aw (bF (ia _)) (aw hsz (by decide))) λh' tk hD' hk'=> ?_
 rw[O.drop_zero] at hD'
 refine⟨rfl,h h' tk hD' λb o hb e=>hk' b o (λz=>(hown b z).elim hb λz=> ?_) (λz=> ?_) (vr b o (k2 b o e))⟩
 ·rw[show({s with heap:=h2,toks:=Ng}:ai).heap=h2 from rfl,k2 b o e] at z
  cases z
 ·rw[z] at e
  exact aC (aY e) (bT _)
theorem HE{l:ag}{its:aB af}{n:aa}{ps:O (ae×af)}{Q:VS}(hA:A.handled=none)(U:s.heap.get? l=some {cls:= .type "list",data:= .seq its n})(hp:zK s.heap its ps)(hsz:ps.length<=64)
  (h:∀ h' tk,h'.DictOf (aZ prog w) s.heap.objs.size (yy [] ps)->(∀ b o,s.heap.get? b=some o->h'.get? b=some o)->Q (.ref s.heap.objs.size) {s with heap:=h',toks:=tk}):
  ak (aA prog w) A (call (.type "dict") [.ref l]) Q E s:=
 Cj (T:="list") (Kq:=[]) hA ⟨_,U,rfl⟩ (by decide) hsz (λy h=>nomatch h) (λKr hk hq=>OV Kr (hk _ _ U) hq) (λ{A' s' Q E} Kr hk hq=>have J:=hk _ _ U;j7 (items:=its) ⟨_,J,rfl,n,rfl⟩ (hq _ _ _ _ (OX (I:=s'.heap.objs.size) (l:=l) (its:=its) Kr) ⟨⟨_,a8 _ rfl,rfl,rfl⟩,⟨_,aS _ J,rfl,n,rfl⟩,hp.move λt=>t.imp λo=>aT λe=>aS _ (hk _ o e)⟩
  (λb o e=>aS _ e) λa ha=> .inr (aR.mp ha▸w7 _))) λh' tk hD hk=>h h' tk hD λb o e=>hk b o (λz=>nomatch z) e
end
section
variable{prog:a9}{w:a0}{A:az}{E:VS}{s:ai}
abbrev Gy(h:aq)(z:ag)(T:ag)(f1:aj)(TI TO:ag):Prop:=h.get? z=some {cls:= .type "zip",dict:=none,data:= .fields #[rawInt (T:ae), .bool f1, .bool false, .ref TI, .ref TO],slots:= #[]}
structure AX(h:aq)(z TI TO i1 i2 l1 l2 T:ag)(f1:aj)(k:aa)(xs ys:aB af):Prop where
 tz:T≠z
 t:∃ o,h.get? T=some o/\xG o
 z:Gy h z T f1 TI TO
 ti:cq h TI (.ref i1) (.ref i2)
 i1:h.IsTupleIter i1 l1 k
 i2:h.IsTupleIter i2 l2 k
 l1:h.IsTuple l1 xs
 l2:h.IsTuple l2 ys
theorem Fi{z TI TO i1 i2 T:ag}{f1:aj}{Q:VS}(hz:Gy s.heap z T f1 TI TO)(U:∃ o,s.heap.get? T=some o/\xG o)(hTI:cq s.heap TI (.ref i1) (.ref i2))
  (h1:∀ J,Gy J z T true TI TO->(∀ c o,c≠z->s.heap.get? c=some o->J.get? c=some o)->ak (aA prog w) A (gm (.ref i1)) (λx=>xj s λg2=>ak (aA prog w) A (gm (.ref i2)) (λy=>xj s λg4=>Q (.ref g4.objs.size) {s with heap:=g4.push {cls:= .type "tuple",data:= .seq #[x,y]}}) E {s with heap:=g2}) E {s with heap:=J}):
  ak (aA prog w) A (bq.«zip.__next__» ⟨[.ref z],[]⟩) (λfin s'=>∃ v,fin= .done (.ret v)/\Q v s') E s:=by
 show ak _ _ (field (.ref z) 2>>=_) _ _ _;refine sf (λu=>bJ hz rfl (x:= .bool false) rfl) ?_;refine sf (λu=>bJ hz rfl (x:= .ref TI) rfl) ?_;refine sf (λu=>dB hTI rfl) ?_;refine ao (aO (Q:=λb=>xj s λJ=>b=false/\Gy J z T true TI TO/\∀ c o,c≠z->s.heap.get? c=some o->J.get? c=some o) (E:=E) ?_ (λb s1 r=>r.out λJ r=> ?_) λu u=>id)
 ·unfold rh
  refine sf (λu=>bJ hz rfl (x:=rawInt (T:ae)) rfl) ?_;show ak _ _ (loadIfAlive (fX (T:ae))>>=_) _ _ _;refine U.elim λoT U=>ao (kdx_alive U.1 ?_);refine sf (λu=>bJ hz rfl (x:= .bool f1) rfl) ?_;cases f1
  ·exact ao (ib hz (gi (ic 3)) λJ hz1 s1=>ay (.mk ⟨rfl,hz1,λc o hc e=>s1.extBut _ _ hc e⟩))
  ·exact ay (.mk (g:=s.heap) ⟨rfl,hz,λu u u e=>e⟩)
 ·cases r.1
  refine ao ?_;refine ao (ao (bd ?_));refine ao (aO (h1 J r.2.1 r.2.2) (λx s2 r=>r.out λg2 r=>ay (ay ?_)) λu u=>id);refine ao (ao (bd ?_));refine ao (aO r (λy s4 r=>r.out λg4 r=>ay (ay (ay ?_))) λu u=>id);exact ao (gS (ay ⟨_,rfl,r⟩) (by show(2:aa)<=sizeLine;decide))
theorem Ms{z TI TO i1 i2 l1 l2 T:ag}{f1:aj}{k:aa}{xs ys:aB af}{x y:af}{Q:VS}(D:dC z TI TO i1 i2 l1 l2)(Z:AX s.heap z TI TO i1 i2 l1 l2 T f1 k xs ys)(hx:xs[k]?=some x)(hy:ys[k]?=some y)
  (hQ:∀ h' T',AX h' z TI TO i1 i2 l1 l2 T true (k+1) xs ys->cq h' T' x y->(∀ c o,c≠z->c≠i1->c≠i2->s.heap.get? c=some o->h'.get? c=some o)->Q (.ref T') {s with heap:=h'}):
  ak (aA prog w) A (bq.«zip.__next__» ⟨[.ref z],[]⟩) (λfin s'=>∃ v,fin= .done (.ret v)/\Q v s') E s:=
 Fi Z.z Z.t Z.ti λg1 z1 k1=>xV (Z.i1.imp λo=>aT (k1 _ o D.i1z)) (Z.l1.imp λo=>aT (k1 _ o D.l1z)) hx λg2 a2 s2=> .mk (xV (Z.i2.imp λo=>aT λe=>s2.extBut _ o D.i12.symm (k1 _ o D.i2z e)) (Z.l2.imp λo=>aT λe=>s2.extBut _ o D.l2i1 (k1 _ o D.l2z e)) hy λU a4 s4=> .mk (by
  have up:∀ {c o},U.get? c=some o->(U.push {cls:= .type "tuple",data:= .seq #[x,y]}).get? c=some o:=vB;have J:∀ c o,c≠z->c≠i1->c≠i2->s.heap.get? c=some o->(U.push {cls:= .type "tuple",data:= .seq #[x,y]}).get? c=some o:=λc o c1 c2 c3 e=>up (s4.extBut _ _ c3 (s2.extBut _ _ c2 (k1 c o c1 e)));have b1:=a2.imp λo=>aT λe=>up (s4.extBut _ o D.i12 e);have b2:=a4.imp λo=>aT (up (o:=o));exact hQ _ _ ⟨Z.tz,cZ (λe:T=i1=>e▸b1.imp λo r=>⟨r.1,λu u z=>nomatch r.2.2.symm.trans z⟩) λe1=>cZ (λe:T=i2=>e▸b2.imp λo r=>⟨r.1,λu u z=>nomatch r.2.2.symm.trans z⟩) λe2=>Z.t.imp λo=>aT (J _ o Z.tz e1 e2),up (s4.extBut _ _ D.i2z.symm (s2.extBut _ _ D.i1z.symm z1)),J _ _ D.TIz D.TIi1 D.TIi2 Z.ti,b1,b2,Z.l1.imp λo=>aT (J _ o D.l1z D.l1i1 D.l1i2),Z.l2.imp λo=>aT (J _ o D.l2z D.l2i1 D.l2i2)⟩ (a8 _ rfl) J))
theorem OY{z TI TO i1 i2 l1 l2 T:ag}{f1:aj}{k:aa}{xs ys:aB af}{Q:VS}(U:A.handled=none)(D:dC z TI TO i1 i2 l1 l2)(Z:AX s.heap z TI TO i1 i2 l1 l2 T f1 k xs ys)(J:xs[k]?=none\/ys[k]?=none)
  (hE:∀ h' e,(∀ c o,c≠z->c≠i1->c≠i2->s.heap.get? c=some o->h'.get? c=some o)->(∃ o,h'.get? e=some o/\o.cls= .type "StopIteration")->E (.ref e) {s with heap:=h'}):
  ak (aA prog w) A (bq.«zip.__next__» ⟨[.ref z],[]⟩) (λfin s'=>∃ v,fin= .done (.ret v)/\Q v s') E s:=Fi Z.z Z.t Z.ti λg1 z1 k1=>by
 have t1:g1.IsTupleIter i1 l1 k:=Z.i1.imp λo=>aT (k1 _ o D.i1z);have u1:g1.IsTuple l1 xs:=Z.l1.imp λo=>aT (k1 _ o D.l1z);cases hx:xs[k]? with
 |none=>exact Bq U t1 u1 hx λh2 e s2 he=>hE h2 e (λc o c1 c2 y x=>s2 _ _ c2 (k1 c o c1 x)) he
 |some x=>exact xV t1 u1 hx λg2 a2 s2=> .mk (Bq U (Z.i2.imp λo=>aT λe=>s2.extBut _ o D.i12.symm (k1 _ o D.i2z e)) (Z.l2.imp λo=>aT λe=>s2.extBut _ o D.l2i1 (k1 _ o D.l2z e)) (J.elim (λh=>nomatch hx.symm.trans h) id) λh4 e s4 he=>hE h4 e (λc o c1 c2 c3 x=>s4 _ _ c3 (s2.extBut _ _ c2 (k1 c o c1 x))) he)
theorem Ja{z TI TO i1 i2 l1 l2 T:ag}{f1:aj}{k:aa}{xs ys:aB af}{x y:af}{Q:ax af->ai->Prop}(D:dC z TI TO i1 i2 l1 l2)(Z:AX s.heap z TI TO i1 i2 l1 l2 T f1 k xs ys)(hx:xs[k]?=some x)(hy:ys[k]?=some y)
  (hQ:∀ h' J,AX h' z TI TO i1 i2 l1 l2 T true (k+1) xs ys->cq h' J x y->(∀ c o,c≠z->c≠i1->c≠i2->s.heap.get? c=some o->h'.get? c=some o)->Q (some (.ref J)) {s with heap:=h'}):
  ak (aA prog w) A (pyNext (.ref z)) Q E s:=by
 have U:s.TypeIs (.ref z) "zip":=⟨_,Z.z,rfl⟩
 exact ao (eD (d3 (name:=aJ "__next__") U fg
  (cz fg U i9 (Ms D Z hx hy λh' T a1 a2 a3=>ay (hQ h' T a1 a2 a3)) (ja _))))
theorem E3{z TI TO i1 i2 l1 l2 T:ag}{f1:aj}{k:aa}{xs ys:aB af}{Q:ax af->ai->Prop}(hh:A.handled=none)(D:dC z TI TO i1 i2 l1 l2)(Z:AX s.heap z TI TO i1 i2 l1 l2 T f1 k xs ys)(J:xs[k]?=none\/ys[k]?=none)
  (hQ:∀ h',(∀ c o,c≠z->c≠i1->c≠i2->s.heap.get? c=some o->h'.get? c=some o)->Q none {s with heap:=h'}):ak (aA prog w) A (pyNext (.ref z)) Q E s:=by
 have U:s.TypeIs (.ref z) "zip":=⟨_,Z.z,rfl⟩
 refine ao (eD (d3 (name:=aJ "__next__") U fg
  (cz fg U i9 (OY (Q:=λv s'=>ak (aA prog w) A (pure (some v)) Q E s') hh D Z J λh' e hk he=> ?_) (ja _))))
 exact he.elim λo r=>ao (gK (T:="StopIteration") (b:=true) ⟨o,r⟩ kq (ay (hQ _ hk)))
structure Ks(ub its2:aB af)(ps:O (ae×af)):Prop where
 get:∀ {j:aa} {p:ae×af},ps[j]?=some p->∃ kt,ub[j]?=some (.int p.1 kt)/\its2[j]?=some p.2
 fin:ub[ps.length]?=none\/its2[ps.length]?=none
inductive YZ(z TI TO i1 i2 l1 l2:ag)(ub its2:aB af):aa->aq->Prop
 |start {h:aq} (Z:yq h z TI TO i1 i2 l1 l2 .none 0 ub its2):YZ z TI TO i1 i2 l1 l2 ub its2 0 h
 |out {i:aa} {h:aq} {T:ag} {f1:aj} (Z:AX h z TI TO i1 i2 l1 l2 T f1 i ub its2):YZ z TI TO i1 i2 l1 l2 ub its2 i h
theorem EN{z TO i1 i2 c:ag}(h:c∉[z,TO,i1,i2]):(c≠z/\c≠TO)/\c≠i1/\c≠i2:=⟨⟨λe=>h (e▸ .head _),λe=>h (e▸ .tail _ (.head _))⟩,λe=>h (e▸ .tail _ (.tail _ (.head _))),λe=>h (e▸ .tail _ (.tail _ (.tail _ (.head _))))⟩
theorem Rc{z TI TO i1 i2 l1 l2:ag}{ub its2:aB af}{ps:O (ae×af)}(hh:A.handled=none)(D:dC z TI TO i1 i2 l1 l2)(P:Ks ub its2 ps):
  Draws prog w A (.ref z) [z,TO,i1,i2] ps (YZ z TI TO i1 i2 l1 l2 ub its2) where
 keep:=λ{i h h' dd oo es ep} st hd hdat hk=>by
  have no:∀ {a:ag} {o:aL},h.get? a=some o->xG o->h'.get? a=some o:=λ{a o} e hn=>hk a o (λz=>by cases z;cases hd.symm.trans e;exact hn _ _ hdat) e
  have it:∀ {a l:ag} {k:aa},h.IsTupleIter a l k->h'.IsTupleIter a l k:=λx=>x.imp λo r=>⟨no r.1 (λy y z=>nomatch r.2.2.symm.trans z),r.2⟩
  have tu:∀ {a:ag} {its:aB af},h.IsTuple a its->h'.IsTuple a its:=λx=>x.imp λo r=>⟨no r.1 (λy y z=>r.2.2.elim λy e=>nomatch e.symm.trans z),r.2⟩
  cases st with
  |start Z=>exact .start ⟨no Z.z (λy y z=>nomatch z),no Z.ti (λy y z=>nomatch z),Z.to.imp λy=>cK λy e=>no e (λy y z=>nomatch z),it Z.i1,it Z.i2,tu Z.l1,tu Z.l2⟩
  |out Z=>exact .out ⟨Z.tz,Z.t.imp λo r=>⟨no r.1 r.2,r.2⟩,no Z.z (λy y z=>nomatch z),no Z.ti (λy y z=>nomatch z),it Z.i1,it Z.i2,tu Z.l1,tu Z.l2⟩
 next:=λ{i k v s Q E} hp st hQ=>(P.get hp).elim λkt e=>by
  cases st with
  |start Z=>exact Fd D Z e.1 e.2 λh' J hT hk=>hQ _ kt h' ⟨_,hT,rfl,_,rfl⟩ (.out (f1:=false) ⟨λz=>aC (aY (z▸Z.z)) (bT _),⟨_,hT,λy y z=>nomatch z⟩,J.z,J.ti,J.i1,J.i2,J.l1,J.l2⟩) λb o U e=>have n:=EN U;hk b o n.1.1 n.1.2 n.2.1 n.2.2 e
  |out Z=>exact Ja D Z e.1 e.2 λh' T J hT hk=>hQ T kt h' ⟨_,hT,rfl,_,rfl⟩ (.out J) λb o U e=>have n:=EN U;hk b o n.1.1 n.2.1 n.2.2 e
 done:=λ{s Q E} st hQ=>by
  have f:=P.fin;revert f st;generalize ps.length=n;intro st f;cases st with
  |start Z=>exact Br hh D Z f λh' hk=>hQ h' λb o U e=>have n:=EN U;hk b o n.1.1 n.1.2 n.2.1 n.2.2 e
  |out Z=>exact E3 hh D Z f λh' hk=>hQ h' λb o U e=>have n:=EN U;hk b o n.1.1 n.2.1 n.2.2 e
end
end
section
theorem nn{α:Type}{a:α}{P:Prop}(h:none=some a):P:=(by cases h)
section
variable{d:aa}{A:az}{X Y:O ag}{C C':Cx}{σ:Ob}{s:ai}{α β γ:Type}{sc:Sc}{F:Fn}{env:aD}{l:Loc}{h:aq}
theorem Kt{kvs:O (ae×af)}{k:ae}{v:af}(nd:(kvs.map (·.1)).Nodup):((stored kvs k v).map (·.1)).Nodup:=by
 rw[DO nd];refine cP (b:=∀ b∈(yv (λx:ae×af=>x.1=k) (λx=>(x.1,v)) (k,v) kvs).map (·.1),b=k\/b∈kvs.map (·.1)) ?_
 induction kvs with
 |nil=>exact⟨b7.mpr ⟨ba,c6⟩,λb J=> .inl (aR.mp J)⟩
 |cons p kvs U=>
  have n:=b7.mp nd;have U:=U n.2;unfold yv
  by_cases J:p.1=k
  ·rw[aN J]
   exact⟨nd,λb=> .inr⟩
  ·rw[aI J]
   exact⟨b7.mpr ⟨λhm=>(U.2 _ hm).elim J n.1,U.1⟩,λc hc=>(aW.mp hc).elim (λe=> .inr (e▸ .head _)) λe=>(U.2 _ e).imp id (.tail _)⟩
theorem Ku{ps:O (ae×af)}:∀ {kvs:O (ae×af)} {vs Re:O V},(kvs.map (·.1)).Nodup->su h C Re (kvs.map (·.2))->su h C vs (ps.map (·.2))->
  (dictFrom (ps.map λp=>V.int p.1) vs (kvs.map (λp=>V.int p.1),Re)).1=(yy kvs ps).map (λp=>V.int p.1)/\su h C (dictFrom (ps.map λp=>V.int p.1) vs (kvs.map (λp=>V.int p.1),Re)).2 ((yy kvs ps).map (·.2)):=by
 induction ps with
 |nil=>exact λnd h0 h1=>⟨rfl,h0⟩
 |cons p ps J=>
  intro kvs vs Re nd h0 h1;cases vs with
  |nil=>exact h1.no.elim
  |cons v vs=>
   have e:=tj.inv (x:=v) (v:=p.2) h1;have z:=BM (f:=λq:ae×af=>V.int q.1) (g:=(·.2)) (p:=λx=>x.1=p.1) (upd:=λx=>(x.1,p.2)) (new:=(p.1,p.2)) (i:= .int p.1) (λx=>EI x.1 p.1) (λw=>rfl) rfl (λw=>e.1) e.1 h0
   rw[<-DO nd] at z
   have y:=J (Kt (k:=p.1) (v:=p.2) nd) z.2 e.2;rw[<-z.1] at y
   exact y
theorem Rf{xs:O V}{its:O af}(hv:su h C xs its):∀ {q:O V×O V},pairsOf xs=some q->q.1.all tJ=true->
  ∃ ps:O (ae×af),(q.1=ps.map (λp=>V.int p.1)/\su h C q.2 (ps.map (·.2)))/\its.length=ps.length/\∀ {j:aa} {p:ae×af},ps[j]?=some p->∃ T kt,its[j]?=some (.ref T)/\h.IsTuple T #[.int p.1 kt,p.2]:=
 hv.ind (P:=λxs its=>∀ {q:O V×O V},pairsOf xs=some q->q.1.all tJ=true->∃ ps:O (ae×af),(q.1=ps.map (λp=>V.int p.1)/\su h C q.2 (ps.map (·.2)))/\its.length=ps.length/\∀ {j:aa} {p:ae×af},ps[j]?=some p->∃ T kt,its[j]?=some (.ref T)/\h.IsTuple T #[.int p.1 kt,p.2])
  (λe y=>aE e▸⟨[],⟨rfl, .nil⟩,rfl,λh=>nomatch h⟩) λ{x xs u its} a y ih {q} e hi=>by
   cases x with
   |tup l=>
    cases l with
    |nil=>exact nn e
    |cons k l=>
     cases l with
     |nil=>exact nn e
     |cons v l=>
      cases l with
      |cons=>exact nn e
      |nil=>
       refine(c5.mp e).elim λU r=> ?_;cases r.2;refine(ih r.1 (rY hi).2).elim λps g=>vn (P:=λk=>sg h C (.tup [k,v]) u->∃ ps:O (ae×af),(k::U.1=ps.map (λp=>V.int p.1)/\su h C (v::U.2) (ps.map (·.2)))/\(u::its).length=ps.length/\∀ {j:aa} {p:ae×af},ps[j]?=some p->∃ T kt,(u::its)[j]?=some (.ref T)/\h.IsTuple T #[.int p.1 kt,p.2]) (rY hi).1 (λi a=> ?_) a
       refine a.out (P:=λu=>∃ ps:O (ae×af),(V.int i::U.1=ps.map (λp=>V.int p.1)/\su h C (v::U.2) (ps.map (·.2)))/\(u::its).length=ps.length/\∀ {j:aa} {p:ae×af},ps[j]?=some p->∃ T kt,(u::its)[j]?=some (.ref T)/\h.IsTuple T #[.int p.1 kt,p.2]) λT items n t w=> ?_
       have z:∃ kt b,items.toList=[.int i kt,b]/\sg h C v b:=w.out (P:=λl=>∃ kt b,l=[.int i kt,b]/\sg h C v b) λa r e6 e7=>e6.out (P:=λa=>∃ kt b,a::r=[.int i kt,b]/\sg h C v b) λkt=>e7.out (P:=λr=>∃ J b,dm i kt::r=[.int i J,b]/\sg h C v b) λb r2 e8 e9=>e9.out (P:=λr2=>∃ J b',dm i kt::b::r2=[.int i J,b']/\sg h C v b') ⟨kt,b,rfl,e8⟩
       exact z.elim λkt z=>z.elim λb z=>⟨(i,b)::ps,⟨av (V.int i:: ·) g.1.1, .cons z.2 g.1.2⟩,av (·+1) g.2.1,λ{j p} hj=>by
        cases j with
        |zero=>cases aE hj;exact⟨T,kt,rfl,(el z.1:items= #[.int i kt,b])▸t⟩
        |succ j=>exact g.2.2 (j:=j) hj⟩
   |_=>exact nn e
theorem Rg{ps:O (ae×af)}{D:ag}{h':aq}{tk:aa}{q:O V×O V}(I:Inv C σ s)(J:s.heap.get? D=none)(U:(D==ft)=false)(hD:h'.DictOf (aZ pw G.w) D (yy [] ps))(hk:∀ {b o},s.heap.get? b=some o->h'.get? b=some o)(h1:q.1=ps.map (λp=>V.int p.1))(h2:su s.heap C q.2 (ps.map (·.2))):
  sY X C s (RV) (.dct (dictFrom q.1 q.2 ([],[])).1 (dictFrom q.1 q.2 ([],[])).2) σ (.ref D) {s with heap:=h',toks:=tk}:=wR I hk λS=>by
 have z:=Ku (kvs:=[]) (Re:=[]) (C:=C) (h:=h') c6 .nil (h2.step S);rw[<-h1] at z
 exact .dct (λz=>(I.there z).elim λy e=>(by cases (J.symm.trans e))) U z.2 ((show(dictFrom q.1 q.2 ([],[])).1=_ from z.1)▸ .JP hD)
theorem Kv(P:At d A C σ s):(s.heap.objs.size==ft)=false:=bS.mpr (cy (bw P.I.big P.above))
theorem Al.yU{xs:O V}{P:V->Ob->Prop}(k:∀ q,pairsOf xs=some q->q.1.all tJ=true->xs.length<=64->P (.dct (dictFrom q.1 q.2 ([],[])).1 (dictFrom q.1 q.2 ([],[])).2) σ):Al (yU xs σ) P:=
 Al.bind (m:=Internal.sM (pairsOf xs)) (f:=λp:O V×O V=>M.guard (p.1.all tJ&&decide (xs.length<=64)) (M.pure (V.dct (dictFrom p.1 p.2 ([],[])).1 (dictFrom p.1 p.2 ([],[])).2))) (Al.sM λq J=>Al.guard λhc=>k q J (rY hc).1 (aP (rY hc).2))
theorem Rh{e:au}{me:ME}{x:am}{p pos:aK}(N:Names)(hx:sc.kind x=some .globalImplicit)(hd:(x==("__debug__":am))=false)(hv:Means x (.type "dict"))(hs:∀ e'∈[e],s9 e')(h:sA d F sc e me):sA d F sc (.Call (.Name x p) [e] [] pos) (.bt .dict [me]):=λH=>
 zm N H hx hd hv (.callWith (k:=tN .dict) hs (.cons h .nil) H (λC' s' z=>um rfl) λxs vs C' σ' s' H S J hl=> .one (f:=uK yU) (g:=λus=>call (.type "dict") us) J λx v hv=> .uK (f:=λv=>call (.type "dict") [v]) hv λys a its t1 U=>Al.yU λq hq hi hlen=>(Rf U hq hi).elim λps g=>t1.elim λn hex=>
  HE H.A.handled hex ⟨bQ.symm.trans g.2.1,λhj=>(g.2.2 hj).imp λT=>cK λkt r=>⟨bL.symm.trans r.1,r.2⟩⟩ (g.2.1▸U.length▸hlen) λh' tk hD hk=>Rg H.I (w7 _) (Kv H.pl) hD (hk _ _) g.1.1 g.1.2)
theorem Ri{xs:O V}{ub:O af}(h1:su h C xs ub):∀ {ys:O V} {its2:O af} {q:O V×O V},su h C ys its2->pairsOf (vI xs ys)=some q->q.1.all tJ=true->
  ∃ ps:O (ae×af),(q.1=ps.map (λp=>V.int p.1)/\su h C q.2 (ps.map (·.2)))/\ps.length=(vI xs ys).length/\(∀ {j:aa} {p:ae×af},ps[j]?=some p->∃ kt,ub[j]?=some (.int p.1 kt)/\its2[j]?=some p.2)/\(ub[ps.length]?=none\/its2[ps.length]?=none):=
 h1.ind (P:=λxs ub=>∀ {ys:O V} {its2:O af} {q:O V×O V},su h C ys its2->pairsOf (vI xs ys)=some q->q.1.all tJ=true->∃ ps:O (ae×af),(q.1=ps.map (λp=>V.int p.1)/\su h C q.2 (ps.map (·.2)))/\ps.length=(vI xs ys).length/\(∀ {j:aa} {p:ae×af},ps[j]?=some p->∃ kt,ub[j]?=some (.int p.1 kt)/\its2[j]?=some p.2)/\(ub[ps.length]?=none\/its2[ps.length]?=none))
  (λz e z=>aE e▸⟨[],⟨rfl, .nil⟩,rfl,(λh=>nomatch h), .inl rfl⟩) λ{x xs u ub} a z ih {ys its2 q} h2 e hi=>by
   cases ys with
   |nil=>exact aE e▸h2.out (P:=λits2=>∃ ps:O (ae×af),(([]:O V)=ps.map (λp=>V.int p.1)/\su h C [] (ps.map (·.2)))/\ps.length=0/\(∀ {j:aa} {p:ae×af},ps[j]?=some p->∃ kt,(u::ub)[j]?=some (.int p.1 kt)/\its2[j]?=some p.2)/\((u::ub)[ps.length]?=none\/its2[ps.length]?=none)) ⟨[],⟨rfl, .nil⟩,rfl,(λh=>nomatch h), .inr rfl⟩
   |cons y ys=>
    refine(c5.mp (show(pairsOf (vI xs ys)).map (λp=>(x::p.1,y::p.2))=some q from e)).elim λJ r=> ?_
    cases r.2;refine h2.out (P:=λits2=>∃ ps:O (ae×af),(x::J.1=ps.map (λp=>V.int p.1)/\su h C (y::J.2) (ps.map (·.2)))/\ps.length=(vI (x::xs) (y::ys)).length/\(∀ {j:aa} {p:ae×af},ps[j]?=some p->∃ kt,(u::ub)[j]?=some (.int p.1 kt)/\its2[j]?=some p.2)/\((u::ub)[ps.length]?=none\/its2[ps.length]?=none)) λw its2 b h2=>(ih h2 r.1 (rY hi).2).elim λps g=> ?_
    refine vn (P:=λx=>sg h C x u->∃ ps:O (ae×af),(x::J.1=ps.map (λp=>V.int p.1)/\su h C (y::J.2) (ps.map (·.2)))/\ps.length=(vI xs ys).length+1/\(∀ {j:aa} {p:ae×af},ps[j]?=some p->∃ kt,(u::ub)[j]?=some (.int p.1 kt)/\(w::its2)[j]?=some p.2)/\((u::ub)[ps.length]?=none\/(w::its2)[ps.length]?=none)) (rY hi).1 (λi a=> ?_) a
    refine a.out (P:=λu=>∃ ps:O (ae×af),(V.int i::J.1=ps.map (λp=>V.int p.1)/\su h C (y::J.2) (ps.map (·.2)))/\ps.length=(vI xs ys).length+1/\(∀ {j:aa} {p:ae×af},ps[j]?=some p->∃ kt,(u::ub)[j]?=some (.int p.1 kt)/\(w::its2)[j]?=some p.2)/\((u::ub)[ps.length]?=none\/(w::its2)[ps.length]?=none)) λkt=>⟨(i,w)::ps,⟨av (V.int i:: ·) g.1.1, .cons b g.1.2⟩,av (·+1) g.2.1,λ{j p} U=>by
     cases j with
     |zero=>cases aE U;exact⟨kt,rfl,rfl⟩
     |succ j=>exact g.2.2.1 (j:=j) U,g.2.2.2⟩
theorem Mt{l1 l2:ag}{ub its2:aB af}{xs ys:O V}(P:At d A C σ s)(t1:bW s.heap l1 ub)(w1:su s.heap C xs ub.toList)(t2:bW s.heap l2 its2)(w2:su s.heap C ys its2.toList):
  Al (yU (vI xs ys) σ) λr σ'=>ak sB A (call (.type "zip") [.ref l1, .ref l2]) (λz s1=>ak sB A (call (.type "dict") [z]) (sY X C s (RV) r σ') tg s1) tg s:=Al.yU λq U hi hlen=>(Ri w1 w2 U hi).elim λps g=>Iz t1 t2 λh' Z hk=>by
 have D:=Fg (t1.elim λo r=>aY r.1) (t2.elim λo r=>aY r.1);have ZP:Ks ub its2 ps:=⟨λhj=>(g.2.2.1 hj).imp λkt e=>⟨bL.symm.trans e.1,bL.symm.trans e.2⟩,g.2.2.2.imp bL.symm.trans bL.symm.trans⟩;have lz:∀ a∈[s.heap.objs.size+4,s.heap.objs.size+2,s.heap.objs.size+3,s.heap.objs.size,s.heap.objs.size+1],(∃ o,h'.get? a=some o)/\s.heap.objs.size<=a:=Uj ⟨⟨_,Z.z⟩,aV _ 4⟩ ⟨⟨_,Z.ti⟩,aV _ 2⟩ ⟨Z.to.elim λy x=>x.elim λy x=>⟨_,x⟩,aV _ 3⟩ ⟨Z.i1.imp λy=>cP,aU _⟩ ⟨Z.i2.imp λy=>cP,cU _⟩;have l4:∀ a∈[s.heap.objs.size+4,s.heap.objs.size+3,s.heap.objs.size,s.heap.objs.size+1],(∃ o,h'.get? a=some o)/\s.heap.objs.size<=a:=λa ha=>lz a ((aW.mp ha).elim (λe=>e▸ .head _) λha=> .tail _ (.tail _ ha))
 refine Cj (T:="zip") (ps:=ps) (Kq:=[s.heap.objs.size+4,s.heap.objs.size+3,s.heap.objs.size,s.heap.objs.size+1]) P.A.handled ⟨_,Z.z,rfl⟩ (by decide) (g.2.1▸hlen) (λa ha z=>(l4 a ha).1.elim λo e=>aC (aY (z▸e)) (bT _)) (λKr J U=>Ra Kr (J _ _ Z.z) U)
  (λ{A' s' Q' E'} Kr J U=>ku (J _ _ Z.z) (U _ _ _ s'.heap (Rc Kr D ZP) (.start ⟨J _ _ Z.z,J _ _ Z.ti,Z.to.imp λy=>cK λy=>J _ _,Z.i1.imp λo=>aT (J _ o),Z.i2.imp λo=>aT (J _ o),Z.l1.imp λo=>aT (J _ o),Z.l2.imp λo=>aT (J _ o)⟩) (λy y e=>e) λa ha=> .inl ha)) λh2 tk hD hk2=> ?_
 have hle:s.heap.objs.size<=h'.objs.size:=bB (aY (lz s.heap.objs.size (.tail _ (.tail _ (.tail _ (.head _))))).1.choose_spec);exact Rg P.I (u0 hle) (bS.mpr (cy (bw P.I.big (aw P.above hle)))) hD (λe=>hk2 _ _ (λz=>aC (aY e) (cm.mpr (l4 _ z).2)) (hk _ _ e)) g.1.1 g.1.2
theorem Kw{a b:au}{ma mb:ME}{x y:am}{p pos p2 J:aK}(N:Names)(hx:sc.kind x=some .globalImplicit)(hd:(x==("__debug__":am))=false)(hv:Means x (.type "dict"))(hy:sc.kind y=some .globalImplicit)(hd2:(y==("__debug__":am))=false)(hv2:Means y (.type "zip"))
  (hs:∀ e∈[a,b],s9 e) (U:∀ e∈[jc (.Name y p2) [a,b] [] J],s9 e) (ha:sA d F sc a ma) (hb:sA d F sc b mb):sA d F sc (.Call (.Name x p) [.Call (.Name y p2) [a,b] [] J] [] pos) (.wj ma mb):=λ{A C σ s env l} H=>
 IA (k:=λxs ys=>yU (vI xs ys)) ((xe (pos:=J) hs (.cons ha (.cons hb .nil)) H).imp λvs σ' w xs ys e=> .intro λr Um er=>ao (vQ N H.env H.I hx hd hv (dL (P:=λh=>Keeps h (.type "dict")) (by rw[ux U];rfl) (λh hp=>hp) (uy U (by
  refine ao (ao (vQ N H.env H.I hy hd2 hv2 (dL (P:=λh=>Keeps h (.type "zip")) (by rw[ux hs];rfl) (λh hp=>hp) (uy hs (aO w (λus s1 ok=>sY.casesOn (motive:=λv=>_/\ak _ _ (call (.type "zip") ([]++us)) _ _ _) ok λ{C1} N1 q=>⟨um rfl, ?_⟩) λv v=>id)))))
  subst e;refine q.1.out (P:=λus=>ak _ _ (call (.type "zip") ([]++us)) _ _ _) λu1 r1 g1 g2=>g2.out (P:=λr1=>ak _ _ (call (.type "zip") ([]++u1::r1)) _ _ _) λu2 r2 g2 g3=>g3.out (P:=λr2=>ak _ _ (call (.type "zip") ([]++u1::u2::r2)) _ _ _) ?_;show ak _ _ (call (.type "zip") [u1,u2]) _ _ _;refine g1.out (P:=λu1=>ak _ _ (call (.type "zip") [u1,u2]) _ _ _) λl1 ub n1 t1 w1=>g2.out (P:=λu2=>ak _ _ (call (.type "zip") [.ref l1,u2]) _ _ _) λl2 its2 n2 t2 w2=>aO ((Mt (X:=[]) (H.next N1).pl t1 w1 t2 w2).get er) (λz s2 h2=> ?_) λv v=>id;exact sP (ao (bd (ay (ay ⟨um rfl,aO h2 (λv v=>sY.nx N1) λv v=>id⟩)))))))))
end
section
variable{d:aa}{A:az}{X Y:O ag}{C C':Cx}{σ:Ob}{s:ai}{α β γ:Type}{sc:Sc}{F:Fn}{env:aD}{l:Loc}
inductive D8(i:aa)(x:am):Prop
 |mk {a:ag} {items:aB af} {ks:O aa} (hm:Means x (.ref a)) (hk:EG[i]?=some ks) (ht:bW G.h0 a items) (hv:∀ {h C},su h C (ks.map V.str) items.toList)
theorem Rj{i:aa}{x:am}{pos:aK}(N:Names)(hx:sc.kind x=some .globalImplicit)(J:(x==("__debug__":am))=false)(hg:D8 i x):sA d F sc (.Name x pos) (.glob i):=λ{A C σ s env l} H=>D8.casesOn (motive:=λz=>r0 A [] C σ s (VD i) (eval (.Name x pos) env) (RV)) hg λ{a items ks} hm hk ht hv=>by
 refine Al.sM λv e=> ?_;rw[hk] at e
 cases aE e;exact vQ N H.env H.I hx J hm (sJ H.I (.tup (ht.elim λo r=>H.I.BL r.1) (ht.imp λo=>aT H.I.uG) hv))
structure vX(s s1:ai):Prop where
 keep:∀ {a o},s.heap.get? a=some o->s1.heap.get? a=some o
 os:s1.os=s.os
 gens:s1.gens=s.gens
theorem vX.trans{s s1 s2:ai}(a:vX s s1)(b:vX s1 s2):vX s s2:=⟨λh=>b.keep (a.keep h),b.os.trans a.os,b.gens.trans a.gens⟩
theorem vX.tok{s s1:ai}(a:vX s s1){n:aa}:vX s {s1 with toks:=n}:=⟨a.keep,a.os,a.gens⟩
theorem vX.refl(s:ai):vX s s:=⟨λh=>h,rfl,rfl⟩
theorem vX.push{s s1:ai}(a:vX s s1)(o:aL):vX s {s1 with heap:=s1.heap.push o}:=⟨λh=>vB (a.keep h),a.os,a.gens⟩
theorem Here.OZ(H:Here d A sc env l C σ s){s1:ai}(g:vX s s1):Here d A sc env l C σ s1:=H.next (.grow H.I g.keep g.os g.gens)
structure D9(sc:Sc)(x:am)(k:aa):Prop where
 slot:sc.slots.lookup x=some k
 kind:sc.kind x=some .local\/sc.yh x
 h1:(x==("__debug__":am))=false
 h2:(x==("__classdict__":am))=false
theorem Y0{i n:aa}(h:i<n):seqIndex? (i:ae) n=some i:=by
 unfold seqIndex?;rw[show(if(i:ae)<0 then(i:ae)+n else(i:ae))=i from aI (d5.mpr (cQ i))]
 exact(aN (cM.mpr ⟨aX (cQ i),aX (dz.mpr h)⟩)).trans (av some (b6 i))
theorem IB{x:am}{p p2 pos:aK}{k i kd:aa}{xs:O V}{y:V}(H:Here d A sc env l C σ s)(hk:D9 sc x k)(hV:l.get k=some (.tup xs))(hi:(i:ae)<2^63)(hy:xs[i]?=some y){Q:VS}
  (h:∀ u,sg s.heap C y u->Q u {s with toks:=s.toks+1}):ak sB A (eval (.Subscript (.Name x p) (.Constant (.int (i:ae)) kd p2) pos) env) Q tg s:=by
 rw[eval_Subscript];refine ao (dK (J1 (h:=s.heap) H.env hk.slot hk.kind hk.h2 hV λv hv=> ?_) hk.h1);cases hv with| @tup _ a its n1 t1 e1=> ?_
 refine(e1.get i y hy).elim λu J=> ?_;have U:i<its.size:=by rw[<-bQ];exact(bD.mp J.1).1
 refine ao (bd (iO (ao (dj (ao (DQ (s:={s with toks:=s.toks+1}) t1 _ ?_))))))
 rw[(λz z=>rfl:Hq (.Constant (.int (i:ae)) kd p2))];exact ao (wpAny_operating (mf t1 (bK (by decide) (cQ i)) hi (Y0 U) (bL.symm.trans J.1) (ao (jW (ay (h u J.2))))))
theorem Kx{x:am}{z:am}{op:dT}{k:aa}{b c:ae}{xs:O V}{k1 k2 k3 k4 kt:aa}{p1 p2 p3 p4 p5 p6 p7 p8:aK}(H:Here d A sc env l C σ s)(hk:D9 sc x k)(hV:l.get k=some (.tup xs))(hy:xs[1]?=some (.int b))
  (U:(op= .Sub/\c=b - 1)\/(op= .Add/\c=b+1)) {Q:VS}
  (h:∀ (a:ag) (t1 t2 t3:bk) s2,vX s s2->s.heap.objs.size<=a->bW s2.heap a #[.int 1 t1, .str z t2, .int c t3]->Q (.ref a) s2):
  ak sB A (eval (.Tuple [.Constant (.int 1) k1 p1, .Constant (.str z) k2 p2, .BinOp (.Subscript (.Name x p3) (.Constant (.int 1) k3 p4) p5) op (.Constant (.int 1) k4 p6) p7] kt p8) env) Q tg s:=by
 refine n5 (eG (iO (eG (iP (eG (wpAny_BinOp ?_))))));refine IB (i:=1) (H.OZ (vX.refl s).tok) hk hV (by decide) hy λu hu=> ?_
 cases hu with| @int _ tb=> ?_
 refine iO ?_
 have fin:∀ J k,ak sB A (spliced (backTo p8 (starEach [] env))) (λvs s2=>(dm 1 s.toks:: .str z (s.toks+1):: .int c J::vs).length<=sizeLine/\Q (.ref s2.heap.objs.size) {s2 with heap:=s2.heap.push {cls:= .type "tuple",data:= .seq (dm 1 s.toks:: .str z (s.toks+1):: .int c J::vs).toArray}}) tg {s with toks:=k}:=λJ k=>
  ig ⟨(by decide:3<=sizeLine),h _ s.toks (s.toks+1) J _ (vX.push (s1:={s with toks:=k}) (vX.refl s).tok _) (aU _) (AF (a8 _ rfl))⟩
 exact U.elim (λe=>by cases e.1;cases e.2;exact lW (fin _ _)) λe=>by cases e.1;cases e.2;exact lV (fin _ _)
theorem Al.due{k J:aa}{P:V->Ob->Prop}(h:∀ a b c gs,l.get k=some (.tup [.int a, .int b])->l.get J=some (.tup (.str c::gs))->P (Jj c b) σ):Al (rZ F (.due k J) l σ) P:=
 Al.bind (m:=Internal.sM (l.get k)) (f:=λn=>M.bind (Internal.sM (l.get J)) λgo=>JK n go) (Al.sM λn hn=>Al.bind (m:=Internal.sM (l.get J)) (f:=λgo=>JK n go) (Al.sM λgo hg=>by
  cases n with
  |tup ns=>
   cases ns with
   |nil=>exact ah
   |cons a ns=>
    cases ns with
    |nil=>exact ah
    |cons b ns=>
     cases ns with
     |cons=>exact ah
     |nil=>
      cases a with
      |int a=>
       cases b with
       |int b=>
        cases go with
        |tup gs=>
         cases gs with
         |nil=>exact ah
         |cons g gs=>
          cases g with
          |str c=>exact h a b c gs hn hg
          |_=>exact ah
        |_=>exact ah
       |_=>exact ah
      |_=>exact ah
  |_=>exact ah))
theorem W2{h':aq}{y1 y2 z1 z2 xc:am}{c:aa}{b:ae}{ta U:ag}{u1 u2 u3 v1 v2 v3:bk}(J:sV 39=some y1)(Rk:sV 37=some y2)(hz1:sV 2=some z1)(hz2:sV 4=some z2)(hc:sV c=some xc)(na:ta∉C.res)(nb:U∉C.res)
  (tA:bW h' ta #[.int 1 u1, .str z1 u2, .int (b - 1) u3]) (tB:bW h' U #[.int 1 v1, .str z2 v2, .int (b+1) v3]):sg h' C (Jj c b) ((valueAt [(y1,a7 ta),(y2,a7 U)] xc).getD .none):=by
 have va:∀ {p:Prop} [gR p] {o:ax (am×af)} {q:am×af},(match decide p with|true=>some q|false=>o)=if p then some q else o:=λ{p} y {o q}=>by by_cases h:p<;>simp[h]
 unfold valueAt Jj;rw[jN,jN,O.find?_nil]
 by_cases Y1:c=39
 ·cases Y1
  cases aE (J.symm.trans hc);rw[aN rfl,aX rfl];exact .tup na tA (.cons .int (.cons (.str hz1) (.cons .int .nil)))
 ·rw[aI Y1,cn λz=>Y1 ((vP J hc).mp z).symm]
  by_cases Y2:c=37
  ·cases Y2
   cases aE (Rk.symm.trans hc);rw[aN rfl];rw[aX rfl];exact .tup nb tB (.cons .int (.cons (.str hz2) (.cons .int .nil)))
  ·rw[aI Y2]
   rw[cn λz=>Y2 ((vP Rk hc).mp z).symm];exact .none
theorem Uo{x g z1 z2 y1 y2 Y3:am}{k kg:aa}{k1 k2 k3 k4 kt a1 a2 a3 a4 at_ c1 c2 c3 c4:aa}{p1 p2 p3 p4 p5 p6 p7 p8 q1 q2 q3 q4 q5 q6 q7 q8 r1 r2 r3 r4 r5 r6 U apos pos:aK}
  (hk:D9 sc x k) (hg:D9 sc g kg) (hy1:sV 39=some y1) (Rk:sV 37=some y2) (hz1:sV 2=some z1) (hz2:sV 4=some z2) (hget:Y3=aJ "get") (hline:(apos.endLine==pos.line)=true)
  (hs:∀ e∈[au.Subscript (.Name g r3) (.Constant (.int 0) c3 r4) r5, .Constant .none c4 r6],s9 e) (hb:∀ ks vs,xT (.Dict ks vs U)):
  sA d F sc (.Call (.Attribute (.Dict [some (.Constant (.str y1) c1 r1),some (.Constant (.str y2) c2 r2)]
   [.Tuple [.Constant (.int 1) k1 p1, .Constant (.str z1) k2 p2, .BinOp (.Subscript (.Name x p3) (.Constant (.int 1) k3 p4) p5) .Sub (.Constant (.int 1) k4 p6) p7] kt p8,
    .Tuple [.Constant (.int 1) a1 q1, .Constant (.str z2) a2 q2, .BinOp (.Subscript (.Name x q3) (.Constant (.int 1) a3 q4) q5) .Add (.Constant (.int 1) a4 q6) q7] at_ q8] U) Y3 apos)
   [.Subscript (.Name g r3) (.Constant (.int 0) c3 r4) r5, .Constant .none c4 r6] [] pos) (.due k kg):=λ{A C σ s env l} H=>by
 refine Al.due λw0 b c gs hn hgo=> ?_;obtain⟨nm,e,sl,ty,pa⟩:=M6 Bm.get;subst e;subst hget;refine @PySem.wpAny_Call_method pw G.w A tg s env _ _ apos pos _ "dict" "dict.get" _ (hb _ _ _ _ _) ?_ hline pa sl ty ?_
 ·rfl
 refine wpAny_Dict_walk (knd:=kG pw G.w) rfl rfl (λh=>nomatch h) (cV rfl) ?_
 have Bo:s.heap.get? s.heap.objs.size=none:=w7 _;have lo:=Kv H.pl;have g0:vX s {s with heap:=s.heap.push {cls:= .type "dict",data:= .dict #[]}}:=(vX.refl s).push _
 have d0:(s.heap.push {cls:= .type "dict",data:= .dict #[]}).get? s.heap.objs.size=some {cls:= .type "dict",data:= .dict #[]}:=a8 _ rfl;have dN:=nZ (knd:=kG pw G.w) s.heap;have sz:s.heap.objs.size+1=(s.heap.push {cls:= .type "dict",data:= .dict #[]}).objs.size:=(cT ..).symm;have O0:∀ {a},s.heap.objs.size<=a->a∉C.res:=λha hr=>(H.I.there hr).elim λo ho=>aC (aY ho) (cm.mpr ha);revert Bo lo g0 d0 dN sz O0;generalize s.heap.objs.size=D;intro Bo lo g0 d0 dN sz O0;refine n6 (iP (Kx (c:=b - 1) (b:=b) (H.OZ g0.tok) hk hn rfl (.inl ⟨rfl,rfl⟩) λta u1 u2 u3 sa ga ha hta=> ?_));refine n6 (iP (Kx (c:=b+1) (b:=b) (H.OZ (g0.tok.trans ga).tok) hk hn rfl (.inr ⟨rfl,rfl⟩) λtb v1 v2 v3 sb gb hb htb=>pairTrees_nil_walk ?_));have gA:vX s sb:=(g0.tok.trans ga).tok.trans gb;have gB:vX sa sb:=(vX.refl sa).tok.trans gb;have szA:D+1<=ta:=sz▸ha;have szB:D<tb:=bw (aY (ga.keep d0)) hb;refine⟨[(y1, .ref ta),(y2, .ref tb)],⟨kH _ _ _ _,rfl,kH _ _ _ _,rfl,trivial⟩,yg dN λo y y=>aT λe=>gB.keep (ga.keep e),λh' J Nh=> ?_⟩;have nd:[y1,y2].Nodup:=b7.mpr ⟨λz=>aC ((vP hy1 Rk).mp (aR.mp z)) (by decide),b7.mpr ⟨ba,c6⟩⟩
 rw[merged_nil_of_nodup [(y1,a7 ta),(y2,a7 tb)] nd] at J
 have kD:∀ {a o},a≠D->sb.heap.get? a=some o->h'.get? a=some o:=λn e=>(Nh.2 _ n).trans e;have gC:∀ tk,vX s {sb with heap:=h',toks:=tk}:=λtk=>⟨λh=>kD (λz=>nomatch (z▸Bo).symm.trans h) (gA.keep h),gA.os,gA.gens⟩
 refine⟨J.mapOf.typeIs,λa ha=>by cases ha;exact uv J λo y y r=>⟨o,r.1,r.2.1.2.1⟩, ?_⟩
 refine dL (P:=λh=>Keeps h (.builtin "dict.get")) (by rw[ux hs];rfl) (λh hp=>hp) (uy hs (eG (IB (i:=0) (H.OZ (gC _)) hg hgo (by decide) rfl λu hu=> ?_)))
 cases hu with| @str _ xc tc hxc=> ?_
 refine eG (mN (ig ⟨um rfl, ?_⟩));refine iN ri J.mapOf.typeIs rj (rk _ _ _) (mI (kG pw G.w) D (key:= .str xc tc) (k:=xc) (kH _ _ _ _) lo .none) ⟨_,J.mapOf, ?_⟩;exact wR H.I (gC 0).keep (λy=>W2 hy1 Rk hz1 hz2 hxc (O0 (bB szA)) (O0 (bB szB)) (hta.imp λo=>aT λe=>kD (cy szA) (gB.keep e)) (htb.imp λo=>aT (kD (cy szB)))) gA.os gA.gens
end
section
noncomputable def Aq:ae ⊕ am->af->aj
 | .inl i,v=>v.isInt i
 | .inr x,v=>kI x v
theorem isInt_shape{i:ae}{v:af}(h:v.isInt i=true):∃ t,v= .int i t:=by
 cases v with
 |int j t=>exact⟨t,by rw[(eq_of_beq h:j=i)]⟩
 |_=>exact ff h
theorem Rm{i:ae}{v:af}(h:Aq (.inl i) v=true):∃ t,v= .int i t:=isInt_shape h
theorem IC{x:am}{v:af}(h:Aq (.inr x) v=true):∃ t,v= .str x t:=af.isStrOf_shape h
noncomputable def mixHash(w:a0):ae ⊕ am->ae
 | .inl i=>hashInt i
 | .inr x=>hashStr w x
theorem wy{P:ae ⊕ am->af->Prop}{k:ae ⊕ am}{v:af}(h:Aq k v=true)(a:∀ i t,P (.inl i) (.int i t))(b:∀ x t,P (.inr x) (.str x t)):P k v:=match k,h with
 | .inl i,h=>(Rm h).elim λt e=>e▸a i t
 | .inr x,h=>(IC h).elim λt e=>e▸b x t
def ug(prog:a9)(w:a0):KeyKind prog w (ae ⊕ am) where
 is:=Aq
 hash:=mixHash w
 inj:=λv a b ha J=>wy (P:=λa v=>Aq b v=true->a=b) ha (λi t J=>wy (P:=λb v=>v= .int i t->je i=b) J (λj u e=>by cases e;rfl) (λy u e=>(by cases e)) rfl) (λx t J=>wy (P:=λb v=>v= .str x t->eH x=b) J (λj u e=>nomatch e) (λy u e=>by cases e;rfl) rfl) J
 byValue:=λk v h=>wy (P:=λz v=>carriedByValue v=true) h (λz z=>rfl) λz z=>rfl
 pyHash:=λ{A E s k v Q} hv h=>wy (P:=λk v=>Q (mixHash w k) {s with toks:=s.toks+1}->ak (aA prog w) A (pyHash v) Q E s) hv (λz z h=>wpAny_pyHash_int h) (λz z h=>wpAny_pyHash_str h) h
 eqBool:=λ{A E s a b u v Q} U hv h=>wy (P:=λa u=>Q (decide (a=b)) s->ak (aA prog w) A (eqBool u v) Q E s) U
  (λi t h=>wy (P:=λb v=>Q (decide (je i=b)) s->ak (aA prog w) A (eqBool (.int i t) v) Q E s) hv (λj u h=>kJ (by rw[show(i==j)=decide ((je i:ae ⊕ am)=je j) from d6.mpr je.inj_iff.symm];exact h)) (λy u h=>rl i t y u prog w E Q h) h)
  (λx t h=>wy (P:=λb v=>Q (decide (eH x=b)) s->ak (aA prog w) A (eqBool (.str x t) v) Q E s) hv (λj u h=>rm x t j u prog w E Q h) (λy u h=>n7 (by rw[show decide (x=y)=decide ((eH x:ae ⊕ am)=eH y) from d6.mpr eH.inj_iff.symm];exact h)) h) h
 «strs»:=λk x t v h=>wy (P:=λk u=>u= .str x t->Aq k v=v.isStr x) h (λi t e=>nomatch e) (λy u e=>by
  cases e;show kI x v=v.isStr x;cases v<;>rfl) rfl
def Cm(p:gr):Prop:=p.more=0/\p.j=p.i/\p.dummy=none/\p.i<8
theorem Rn{t:bA}(h:t.mask=7)(x:ae):Cm (t.probeStart x):=by
 unfold n8 n9;rw[h];refine⟨?_,rfl,rfl, ?_⟩
 ·show(if _<=7 then _ else _) - _=0
  exact dG _
 ·show _%(7+1)<8
  exact jf _ (eU _)
theorem Ky{t:bA}(h:t.mask=7){p:gr}(g:Cm p):Cm (t.advance p)/\(t.advance p).perturb=p.perturb / 32/\(t.advance p).j=(p.i*5+1+p.perturb / 32)%8:=by
 have h1:=g.1;have h2:=g.2.1;have h3:=g.2.2.1;unfold bA.advance bA.leap n9;rw[h,aI (cm.mpr (bF h1))];refine⟨⟨?_,rfl,h3, ?_⟩,rfl,rfl⟩
 ·show(if _<=7 then _ else _) - _=0
  exact dG _
 ·show _%(7+1)<8
  exact jf _ (eU _)
structure Kz(t:bA)(j0:aa):Prop where
 mask:t.mask=7
 place:t.place= #[j0]
 dummies:t.dummies= #[]
structure Gz(t:bA):Prop where
 mask:t.mask=7
 place:t.place= #[]
 dummies:t.dummies= #[]
theorem HG(j:aa):kK #[] j=false:=by
 unfold kK;simp
theorem zL(j0 j:aa):fG #[j0] j=if j0<j then 1 else 0:=by
 show fG.go #[j0] j 1 0 1=_;rfl
theorem Ro{t:bA}(h:Gz t)(j:aa):t.slot j= .empty:=by
 unfold oh;rw[h.place,h.dummies,HG];simp
theorem AY{t:bA}{j0:aa}(h:Kz t j0)(j:aa):t.slot j=if j=j0 then .live 0 else .empty:=by
 unfold oh;rw[h.place,h.dummies,HG,zL]
 by_cases e:j=j0
 ·subst e
  rw[aN rfl,aI (bT _)];exact aN (bC (some _))
 ·rw[aI e]
  by_cases l:j0<j
  ·rw[aN l];exact(aI b0).trans (aI b0)
  ·rw[aI l];exact(aI λz=>e (aE (eq_of_beq (z:(some j0==some j)=true))).symm).trans (aI b0)
theorem Up{t:bA}{f:aa->ae}{x:ae}{n:aa}{p:gr}:eI t f x (n+1) p=match t.slot p.j with| .empty=>some (.empty p.j p.dummy)| .dummy=>eI t f x n (t.advance {p with dummy:=some p.j})| .live i=>if f i==x then some (.candidate p.j i (t.advance p)) else eI t f x n (t.advance p):=rfl
theorem O1{t:bA}(h:Gz t)(f:aa->ae)(x:ae){p:gr}(g:Cm p):t.probe f x p=some (.empty p.j none):=by
 unfold jg;rw[h.mask];show eI t f x (219+1) p=_;rw[Up];rw[Ro h,g.2.2.1]
theorem Ni(i:aa):(i*5+1+0 / 32)%8≠i:=λe=>(show ∀ i,i<8->(i*5+1+0 / 32)%8≠i by decide) _ (e▸jf _ (by decide)) e
theorem KA{t:bA}{j0:aa}(h:Kz t j0)(f:aa->ae)(x:ae)(hx:(f 0==x)=false):∀ (n:aa) (fuel:aa) (p:gr),Cm p->p.perturb<32^n->n+2<=fuel->∃ j,eI t f x fuel p=some (.empty j none)/\j≠j0/\j<8
 |n,0=>λp g hp U=>aC U (aC (by assumption) (gu _))
 |n,fuel+1=>λp g hp U=>by
  rw[Up];rw[AY h]
  by_cases e:p.j=j0
  ·simp only[aN e,hx,bN,bE]
   refine(Ky h.mask g).elim λJ sd=> ?_;have g2:=sd.1;have g3:=sd.2;cases n with
   |zero=>
    have hz:p.perturb=0:=by simpa using hp
    cases fuel with
    |zero=>exact aC (by assumption) (bT _)
    |succ fuel=>
     rw[Up];rw[AY h];have hj:p.j=p.i:=g.2.1
     have:(t.advance p).j≠j0:=by
      rw[g3,hz,<-e,hj];exact Ni _
     simp only[aI this];exact⟨_,by rw[J.2.2.1],this,by rw[J.2.1];exact J.2.2.2⟩
   |succ n=>
    exact KA h f x hx n fuel _ J (by rw[g2];exact oi (kF hp oj)) (iV (by assumption))
  ·simp only[aI e]
   exact⟨p.j,by rw[g.2.2.1],e,by rw[g.2.1];exact g.2.2.2⟩
theorem W3(x:ae):dP x<32^13:=bw ((f6 (om _ (by decide))).mpr (oq _ (by decide):x%(2^64:ae)<((2^64:aa):ae))) (by decide)
end
section
variable{prog:a9}{w:a0}{A:az}{E:VS}{s:ai}
theorem fits_of{t:bA}{n:aa}(h1:t.place.size=n)(h2:t.dummies= #[])(h3:t.mask=7)(J:n<=7):t.fits n=true:=by
 unfold ot kL;rw[h1,h2,h3,bC];exact aX J
theorem KB{t:bA}{j0:aa}(h:Kz t j0):t.fits 1=true:=fits_of (h.place▸rfl) h.dummies h.mask (by decide)
theorem Rp{t:bA}(h:Gz t):t.fits 0=true:=fits_of (h.place▸rfl) h.dummies h.mask (by decide)
theorem Uq{v:af}(h:carriedByValue v=true)(n:aa):ofAClassStatement n v=pure false:=by
 cases v with
 |ref a=>exact ff h
 |_=>cases n<;>rfl
theorem Ur{α γ:Type}{b:γ}{f:α->γ->aM (i4 γ)}{Q:γ->ai->Prop}(l:O α)(J:∀ x∈l,∀ {Q:i4 γ->ai->Prop},Q (.yield b) s->ak (aA prog w) A (f x b) Q E s)(h:Q b s):ak (aA prog w) A (forIn l b f) Q E s:=by
 induction l with
 |nil=>exact ay h
 |cons x l U=>
  rw[gZ];exact ao (J x (.head _) (U λy hy=>J y (.tail _ hy)))
set_option smartUnfolding false in
theorem Nj{ks:O (ae ⊕ am)}{a:ag}(hk:cj (ug prog w) s.heap ks a){Q:aj->ai->Prop}(h:Q false s):ak (aA prog w) A (ofAClassStatement 8 (.ref a)) Q E s:=
 uv hk λo items n r=>by
  refine ao (d4 hk.typeIs (ao (m:=if("tuple"=="tuple")=true then pure true else isSubtype (.type "tuple") (.type "tuple")) (ay (ao (dB r.1 r.2.2.1 (ao ?_))))))
  rw[<-ou];refine Ur _ (λx hx {Q} J=> ?_) (ay h);exact ao (eS (t:=ofAClassStatement 7 x) (Uq (r.2.2.2.byValue x hx) 7) (ay J))
theorem KC{M:ce}{α:Type}{c:aj}{m n:aM α}{Q:α->ai->Prop}(hc:c=false)(h:ak M A n Q E s):ak M A (if c=true then m else n) Q E s:=by
 cases hc;exact h
theorem Y4{M:ce}{α:Type}{c:aj}{m n:aM α}{Q:α->ai->Prop}(hc:c=true)(h:ak M A m Q E s):ak M A (if c=true then m else n) Q E s:=by
 cases hc;exact h
theorem Y5{α γ:Type}{b:γ}{x:α}{f:α->γ->aM (i4 γ)}{Q:γ->ai->Prop}(h:ak (aA prog w) A (f x b) (λr=>Q (match r with| .yield b=>b| .done b=>b)) E s):ak (aA prog w) A (forIn [x] b f) Q E s:=by
 rw[gZ]
 exact ao (aO h (λr s h=>match r,h with
  | .yield _,h=>ay h
  | .done _,h=>ay h) λz z=>id)
theorem W4{J U:O (ae ⊕ am)}{x y:ag}(hx:cj (ug prog w) s.heap J x)(hy:cj (ug prog w) s.heap U y){Q:aj->ai->Prop}(h:Q false s):ak (aA prog w) A (searchCouldBeSeen (.ref y) [.ref x]) Q E s:=
 ao (Y5 (dw (λz=>ay (ay h)) λz=>ao (oz hy (KC rfl (ao (oz hx (KC rfl (ao (Nj hy (KC rfl (ao (Nj hx (KC rfl (ay (ay h)))))))))))))))
abbrev vc(prog:a9)(w:a0)(ks:O (ae ⊕ am)):ae:=tupleKeyHash (ug prog w) ks
theorem Da{kx U:O (ae ⊕ am)}{D x y:ag}{o:aL}{ep:aa}{t:bA}{j0:aa}(ho:s.heap.get? D=some o)(hd:o.data= .set #[(vc prog w kx, .ref x)] ep t)(T:Kz t j0)
  (hx:cj (ug prog w) s.heap kx x) (hy:cj (ug prog w) s.heap U y) (hu:A.units<cLine) {Q:SetFound->ai->Prop}
  (h1:kx=U->Q (.there none) s) (h2:kx≠U->∀ j,j≠j0->j<8->Q (.free j false) s):
  ∀ (n fuel:aa) (J:ax gr),Cm (J.getD (t.probeStart (vc prog w U)))->(J.getD (t.probeStart (vc prog w U))).perturb<32^n->n<20->(n+2<=fuel\/((J.getD (t.probeStart (vc prog w U))).j≠j0/\1<=fuel))->
   (kx=U->(J.getD (t.probeStart (vc prog w U))).j=j0)->ak (aA prog w) A (setSearchFrom D (.ref y) (vc prog w U) true fuel J) Q E s
 |n,0=>λJ g hp hn hf hs=>hf.elim (λz=>aC z (jh _)) λz=>aC z.2 (jh _)
 |n,fuel+1=>λJ g hp hn hf hs=>by
  refine sf (λv=>dQ ho hd (KB T)) ?_;have Y6:t.gaveWay=false:=by unfold oA;rw[T.mask];rfl
  dsimp only;rw[Y6];simp -iota only[bN,bE];generalize hst:J.getD (t.probeStart (vc prog w U))=p at*
  generalize Y7:t.probe _ (vc prog w U) p=r
  by_cases hh:(vc prog w kx==vc prog w U)=true
  ·by_cases hj:p.j=j0
   ·have hr:r=some (.candidate p.j 0 (t.advance p)):=by
     refine Y7.symm.trans ?_;unfold jg;rw[T.mask];show eI t _ _ (219+1) p=_;unfold eI;rw[AY T,aN hj];show(if(vc prog w kx==vc prog w U)=true then _ else _)=_
     rw[aN hh]
    subst hr
    have fin:ak (aA prog w) A (do
      let equal<-fP [.ref x] (eqBool (.ref x) (.ref y))
      let (es',_,t')<-setState D
      if(true&&equal)=true then return .there none
      let some same:=t'.sameMemory t.moves t.mask|unsupported "set.changed-during-lookup:is-the-new-block-at-the-old-address"
      let aaP<-match (if same then t'.slot p.j else .empty) with
       | .live i'=>match es'[i']? with
        |some (_,y')=>do pure (if<-isSame y' (.ref x) then some i' else none)
        |none=>pure none
       |_=>pure none
      match aaP with
      |none=>rule "set.search.anew";setSearchFrom D (.ref y) (vc prog w U) true fuel none
      |some i'=>if equal then return .there (some i') else setSearchFrom D (.ref y) (vc prog w U) true fuel (some (t.advance p))) Q E s:=by
     refine ao (bd (wpAny_eqBool_tuple hu hx hy ?_));refine sf (λv=>dQ ho hd (KB T)) ?_
     by_cases hk:kx=U
     ·simp only[hk,decide_true,aj.and_self,eZ]
      exact ay (h1 hk)
     ·simp only[hk,decide_false,eN,bN,bE]
      have hsm:t.sameMemory t.moves t.mask=some true:=by unfold bA.sameMemory;simp
      rw[hsm];rw[AY T,aN hj];refine ao ?_;refine wpAny_isSame_ref_self ?_;simp only[eZ];refine sP ?_;dsimp only;obtain⟨g1,g2,g3⟩:=Ky T.mask g;cases n with
      |zero=>
       have hz:p.perturb=0:=by simpa using hp
       have hpj:p.j=p.i:=g.2.1;have hjn:(t.advance p).j≠j0:=by rw[g3,hz,<-hj,hpj];exact Ni _
       exact Da ho hd T hx hy hu h1 h2 0 fuel (some (t.advance p)) g1 (by show(t.advance p).perturb<_;rw[g2,hz];decide) (eU _) (.inr ⟨hjn,hf.elim ji λz=>aC hj z.1⟩) (λe=>aC e hk)
      |succ n=>
       exact Da ho hd T hx hy hu h1 h2 n fuel (some (t.advance p)) g1 (by show(t.advance p).perturb<_;rw[g2];exact oi (kF hp oj)) (bB (by assumption)) (.inl (hf.elim ji λz=>aC hj z.1)) (λe=>aC e hk)
    refine dw (λv=> ?_) (λv=>fin);have hfl:((aB.filter (λ(e:ae×af)=>e.1==vc prog w U) #[(vc prog w kx,a7 x)]).toList.map (·.2))=[.ref x]:=by simp[hh]
    rw[hfl];refine sf (λv=>W4 hx hy) ?_;exact fin
   ·have hr:r=some (.empty p.j none):=by
     refine Y7.symm.trans ?_;unfold jg;rw[T.mask];show eI t _ _ (219+1) p=_;unfold eI;rw[AY T,aI hj,g.2.2.1]
    subst hr;refine ay (h2 (λe=>hj (hs e)) _ hj (by rw[g.2.1];exact g.2.2.2))
  ·have hh:(vc prog w kx==vc prog w U)=false:=by simpa using hh
   have hne:kx≠U:=λe=>by rw[e] at hh;simp at hh
   refine(KA T (λi=>(dD (λe:ae×af=>e.1) #[(vc prog w kx,a7 x)][i]?).getD 0) (vc prog w U) hh n 220 p g hp (bH (by assumption) (by decide))).elim λj sd=>sd.elim λe sd=> ?_
   have a:=sd.1;have b:=sd.2
   have hr:r=some (.empty j none):=by
    refine Y7.symm.trans ?_;unfold jg;rw[T.mask];exact e
   subst hr;exact ay (h2 hne j a b)
end
section
variable{prog:a9}{w:a0}{A:az}{E:VS}{s:ai}
theorem Rq{ks:O (ae ⊕ am)}{a:ag}(hk:cj (ug prog w) s.heap ks a)(ht:∃ x,eH x∈ks){Q:aj->ai->Prop}(h:Q false s):ak (aA prog w) A (hashByValue 8 (.ref a)) Q E s:=by
 have hT:=hk.typeIs;obtain⟨o,items,n,ho,_,hd,hi⟩:=hk;refine sf (λz=>iS hT rn.lookup) ?_;refine sf (λz=>dB ho hd) ?_;refine ao ?_;show ak _ _ (forIn items _ _) _ _ s;rw[<-ou]
 have hz:∀ {l:O (ae ⊕ am)} {vs:O af},fR (ug prog w) l vs->(∃ x,eH x∈l)->∃ y t,gV y t∈vs:=by
  intro l;induction l with
  |nil=>rintro vs _ ⟨x,hx⟩;cases hx
  |cons k l ih=>
   rintro vs hv ⟨x,hx⟩;cases vs with
   |nil=>cases hv
   |cons v vs=>
    obtain⟨h1,h2⟩:(ug prog w).is k v=true/\fR (ug prog w) l vs:=by cases hv with|cons a b=>exact⟨a,b⟩
    rcases aW.mp hx with rfl|hx
    ·obtain⟨t,rfl⟩:=IC h1
     exact⟨_,_,kM⟩
    ·obtain⟨y,t,hm⟩:=ih h2 ⟨x,hx⟩
     exact⟨y,t,kN _ hm⟩
 refine wpAny_forIn_list _ (λrest r s'=>r.1=none/\s'=s/\(∀ v∈rest,carriedByValue v=true)/\∃ y t,gV y t∈rest) _ ?_ ?_ _ _ ⟨rfl,rfl,hi.byValue,hz hi ht⟩
 ·rintro v rest r s' ⟨hr,rfl,J,y,t,hm⟩
  have hv:=J v kM
  have:∃ b,hashByValue 7 v=pure b/\(b=true->v≠ .str y t):=by
   cases v<;>first|exact⟨false,by unfold hashByValue;rfl,λe=>by cases e⟩|exact⟨_,by unfold hashByValue;rfl,λz e=>by cases e⟩|(exfalso;simp[carriedByValue] at hv;done)
  refine this.elim λb sd=> ?_;have this:=sd.1;have hb:=sd.2;rw[this];refine sP ?_;cases b
  ·simp -iota only[oB,eZ]
   exact ay (ay h)
  ·simp -iota only[oE,bN,bE]
   exact ay ⟨rfl,rfl,λu U=>J u (kN _ U),y,t,by
    rcases aW.mp hm with e|e
    ·exact aC e.symm (hb rfl)
    ·exact e⟩
 ·rintro⟨r1,r2⟩ s' ⟨hr,rfl,_,y,t,hm⟩
  cases hm
structure Tab(ld:aj)(t:bA)(l:O (ae×af)):Prop where
 led:t.led=ld
 plain:l≠[]->t.plain=false
 mask:t.mask=7
 dummies:t.dummies= #[]
 size:t.place.size=l.length
 one:∀ e,l=[e]->t.place= #[dP e.1%8]
def xf(ld:aj)(h:aq)(D:ag)(l:O (ae×af)):Prop:=∃ o ep t,h.get? D=some o/\o.ExactSet/\o.data= .set l.toArray ep t/\Tab ld t l
theorem xf.keep{ld:aj}{h h':aq}{D:ag}{l:O (ae×af)}(x:xf ld h D l)(hk:∀ o,h.get? D=some o->h'.get? D=some o):xf ld h' D l:=
 uv x λo ep t z=>⟨o,ep,t,hk o z.1,z.2⟩
theorem xf.typeIs{ld:aj}{D:ag}{l:O (ae×af)}(x:xf ld s.heap D l):s.TypeIs (.ref D) "set":=uv x λo y y z=>⟨o,z.1,z.2.1.1⟩
theorem Tab.fits{ld:aj}{t:bA}{l:O (ae×af)}(T:Tab ld t l)(h:l.length<=7):t.fits l.length=true:=by
 unfold ot kL;rw[T.size,T.mask,T.dummies];simp;exact h
theorem Nk{t:bA}(h:t.mask=7)(x:ae):(t.probeStart x).j=dP x%8:=by
 unfold n8;rw[h]
theorem Jb{α:Type}(xs:aB α)(p:aa)(x:α)(hp:p<=xs.size):(fh xs p x).size=xs.size+1:=by
 unfold fh;simp;rw[fW hp,kh,oF hp]
theorem Us{pl:aB aa}{l:O (ae×af)}{j:aa}(U:l.length<=1)(hs:pl.size=l.length)(h1:∀ e,l=[e]->pl= #[dP e.1%8]):fG pl j<=pl.size:=by
 cases l with
 |nil=>rw[kO hs];exact aU 0
 |cons e0 l=>
  cases l with
  |cons _ _=>exact aC U (by simp)
  |nil=>
   rw[h1 e0 rfl,zL]
   by_cases J:dP e0.1%8<j
   ·rw[aN J];exact aU 1
   ·rw[aI J];exact cg _
theorem O2{pl:aB aa}{l:O (ae×af)}{j:aa}{y:ae×af}(hl:l.length<=1)(hs:pl.size=l.length)(h1:∀ e,l=[e]->pl= #[dP e.1%8]):∃ l',fh l.toArray (fG pl j) y=l'.toArray/\(l'=l++[y]\/l'=y::l)/\(l=[]->fh pl (fG pl j) j= #[j]):=by
 cases l with
 |nil=>
  have J:=kO hs;exact⟨[y],by rw[J];rfl, .inl rfl,λz=>by rw[J];rfl⟩
 |cons e0 l=>
  cases l with
  |cons _ _=>exact aC hl (by simp)
  |nil=>
   rw[h1 e0 rfl,zL]
   by_cases U:dP e0.1%8<j
   ·rw[aN U];exact⟨[e0,y],rfl, .inl rfl,λh=>nomatch h⟩
   ·rw[aI U];exact⟨[y,e0],rfl, .inr rfl,λh=>nomatch h⟩
theorem KD{ld:aj}{kx:O (ae ⊕ am)}{D x:ag}{l:O (ae×af)}{o:aL}{ep:aa}{t:bA}{j:aa}{U:ae}(ho:s.heap.get? D=some o)(hex:o.ExactSet)(hd:o.data= .set l.toArray ep t)(T:Tab ld t l)(hl:l.length<=1)
  (hx:cj (ug prog w) s.heap kx x) (ht:∃ z,eH z∈kx) (hj:l=[]->j=dP U%8) {Q:aj->ai->Prop}
  (h:∀ h' l',b9 D s.heap h'->xf ld h' D l'->(l'=l++[(U, .ref x)]\/l'=(U, .ref x)::l)->Q true {s with heap:=h'}):
  ak (aA prog w) A (do
   let (es,_,t)<-setState D
   let (t,p):=t.put j
   let byValue<-if t.plain then hashByValue 8 (.ref x) else pure true
   let t:=if byValue then t else{t with plain:=false}
   storeSet D (fh es p (U, .ref x)) t
   if !false&&t.tooFull then setRelay D (oG (es.size+1))
   return true) Q E s:=by
 refine sf (λy=>dQ ho hd (by exact T.fits (aw (by assumption) (by decide)))) ?_
 dsimp only
 have hby:∀ b:aj,(b=true->t.plain=false)->ak (aA prog w) A (do
   let J:=if b then(t.put j).1 else{(t.put j).1 with plain:=false}
   storeSet D (fh l.toArray (t.put j).2 (U, .ref x)) J
   if !false&&J.tooFull then setRelay D (oG (l.toArray.size+1))
   return true) Q E s:=λb hbp=>by
  generalize ht1:(if b=true then(t.put j).1 else{(t.put j).1 with plain:=false})=J
  have Rr:J.led=ld/\J.plain=false:=by
   subst ht1;cases b
   ·exact⟨T.led,rfl⟩
   ·exact⟨T.led,hbp rfl⟩
  have hm:J.mask=7/\J.dummies= #[]/\J.place=fh t.place (t.put j).2 j:=by
   subst ht1;cases b<;>(refine⟨T.mask, ?_,rfl⟩;show(if kK t.dummies j=true then _ else t.dummies)= #[];rw[T.dummies,HG];rfl)
  obtain⟨l',hl',Y8,hpl⟩:∃ l',fh l.toArray (t.put j).2 (U,a7 x)=l'.toArray/\(l'=l++[(U, .ref x)]\/l'=(U, .ref x)::l)/\(l=[]->J.place= #[j]):=(O2 hl T.size T.one).imp λl' z=>⟨z.1,z.2.1,λh=>hm.2.2.trans (z.2.2 h)⟩;rw[hl'];have hlen:l'.length=l.length+1:=by rcases Y8 with rfl|rfl<;>simp
  have hsz:l'.toArray.size<=sizeLine:=by rw[oH,ii,hlen];exact bH (by assumption) (by decide)
  have Y9:J.place.size=l'.length:=by
   rw[hm.2.2,Jb,T.size,hlen];exact Us hl T.size T.one
  refine ao (wpAny_storeSet_of ho hd ?_ hsz)
  have aaQ:(!false&&J.tooFull)=false:=by
   unfold bA.tooFull kL;rw[Y9,hm.1,hm.2.1,hlen];simp;exact bH (aa.mul_le_mul_right 5 (bZ hl)) (by decide)
  rw[aaQ];refine ay (h _ l' (gn s.heap D _) ?_ Y8)
  have hg:(s.heap.update D (oJ l'.toArray J)).get? D=some {o with data:= .set l'.toArray (ep+1) J}:=by
   have:=cD (oJ l'.toArray J) ho (by rw[putSet_of l'.toArray J hd];rfl)
   rw[putSet_of l'.toArray J hd] at this;exact this
  refine⟨_,ep+1,J,hg,hex,rfl,Rr.1,λy=>Rr.2,hm.1,hm.2.1,Y9,λe he=> ?_⟩
  have Za:l=[]:=by
   have:l'.length=1:=by rw[he];rfl
   exact dY (dh (hlen.symm.trans this))
  rw[hpl Za,hj Za];rcases Y8 with rfl|rfl<;>(subst Za;cases he;rfl)
 exact dw (λy=>ao (Rq hx ht (hby false λe=>by cases e))) (λhp=>sP (hby true λy=>show(t.put j).1.plain=false by simpa using hp))
end
section
variable{prog:a9}{w:a0}{A:az}{E:VS}{s:ai}
theorem Mu{D x:ag}{o:aL}{ep:aa}{t:bA}{J:ae}(ho:s.heap.get? D=some o)(U:o.data= .set #[] ep t)(T:Gz t){Q:SetFound->ai->Prop}
  (h:Q (.free (dP J%8) false) s):ak (aA prog w) A (setSearch D (.ref x) J true) Q E s:=by
 show ak _ _ (setState D>>=_) _ _ _;refine sf (λz=>dQ ho U (Rp T)) ?_;have Y6:t.gaveWay=false:=by unfold oA;rw[T.mask];rfl
 dsimp only;rw[Y6];simp -iota only[bN,bE,lJ];rw[O1 T _ _ (Rn T.mask J),Nk T.mask];exact ay h
theorem Nl{ld:aj}{U:O (ae ⊕ am)}{D y:ag}{l:O (ae×af)}(hS:xf ld s.heap D l)(hy:cj (ug prog w) s.heap U y)(ht:∃ z,eH z∈U)(hu:A.units<cLine)
  (hl:l=[]\/∃ J x,l=[(vc prog w J, .ref x)]/\cj (ug prog w) s.heap J x) {Q:aj->ai->Prop}
  (h1:∀ J x tk,l=[(vc prog w J, .ref x)]->cj (ug prog w) s.heap J x->J=U->Q false {s with toks:=tk})
  (h2:∀ h' l' tk,(∀ J x,l=[(vc prog w J, .ref x)]->cj (ug prog w) s.heap J x->J≠U)->b9 D s.heap h'->xf ld h' D l'->(l'=l++[(vc prog w U, .ref y)]\/l'=(vc prog w U, .ref y)::l)->Q true {s with heap:=h',toks:=tk}):
  ak (aA prog w) A (setAdd D (.ref y)) Q E s:=by
 unfold setAdd;refine bd (ao (wpAny_pyHash_tuple hu hy ?_));refine bd ?_;show ak _ _ (setAddHashedIn D (.ref y) (vc prog w U) (99999+1)) _ _ _;obtain⟨o,ep,t,ho,hex,hd,T⟩:=hS;have hlen:l.length<=1:=by rcases hl with rfl|⟨_,_,rfl,_⟩<;>simp
 refine sf (λv=>dQ (s:={s with toks:=s.toks+(U.length+1)}) ho hd (by exact T.fits (aw (by assumption) (by decide)))) ?_
 dsimp only;have hbs:byScan (.ref y) l.toArray=false:=rfl;rcases hl with rfl|⟨J,x,rfl,hx⟩
 ·have T0:Gz t:=⟨T.mask,kO T.size,T.dummies⟩
  refine sf (λv=>Mu (s:={s with toks:=s.toks+(U.length+1)}) ho hd T0) ?_
  exact KD (s:={s with toks:=s.toks+(U.length+1)}) ho hex hd T hlen hy ht (λv=>rfl) λh' l' h3 h4 h5=>h2 h' l' _ (λJ x e=>by cases e) h3 h4 h5
 ·have T1:Kz t (dP (vc prog w J)%8):=⟨T.mask,T.one _ rfl,T.dummies⟩
  refine ao (Da (s:={s with toks:=s.toks+(U.length+1)}) ho hd T1 hx hy hu ?_ ?_ 13 100000 none (Rn T.mask _) ?_ (by decide) (.inl (by decide)) ?_)
  ·intro hk
   exact ay (h1 J x _ rfl hx hk)
  ·intro hk j hj1 hj2
   exact KD (s:={s with toks:=s.toks+(U.length+1)}) ho hex hd T hlen hy ht (λe=>by cases e) λh' l' h3 h4 h5=>h2 h' l' _ (λkx' x' e hx'=>by
    have e2:x=x':=by
     have:=av (λl=>l.map (·.2)) e
     simpa using this
    subst e2;rw[hx'.inj hx];exact hk) h3 h4 h5
  ·exact W3 _
  ·intro hk
   show(t.probeStart _).j=_;rw[Nk T.mask,hk]
end
section
variable{prog:a9}{w:a0}{A:az}{E:VS}{s:ai}
def Kept(h0 h:aq):Prop:=∀ b o,h0.get? b=some o->h.get? b=some o
theorem KE{I D:ag}{fp wr:O ag}{n:aa}{P:aa->af->Prop}{St:aa->aq->Prop}{J:aa->aq->Prop}{h0:aq}(W:eQ prog w A.in1 I fp wr n P St)(hDf:D∉fp)(VY:h0.get? D=none)(hwr:∀ b∈wr,h0.get? b=none)
  (hJ:∀ i h h',J i h->(∀ o,h.get? D=some o->h'.get? D=some o)->J i h')
  (hadd:∀ i v (s:ai) (Q:aj->ai->Prop) (E:VS),i<n->P i v->Kept h0 s.heap->J i s.heap->(∀ b h' tk,J (i+1) h'->b9 D s.heap h'->Q b {s with heap:=h',toks:=tk})->ak (aA prog w) A.in1 (setAdd D v) Q E s)
  {R:dl->ai->Prop}:∀ (k i:aa) (s:ai),n - i=k->i<=n->St i s.heap->J i s.heap->Kept h0 s.heap->
   (∀ h' tk,J n h'->Kept h0 h'->R (.ok (.ret .none)) {s with heap:=h',toks:=tk})->
   bo (aA prog w) A (.builtin "set.update.loop" ⟨[.ref D, .ref I],[]⟩) R s:=by
 have hDw:D∉wr:=λh=>hDf (W.sub _ h);have VZ:∀ {h h':aq},Kept h0 h->(∀ b o,b∉wr->h.get? b=some o->h'.get? b=some o)->Kept h0 h':=λk1 k2 b o e=>k2 b o (λhb=>by rw[hwr b hb] at e;cases e) (k1 b o e)
 have aaR:∀ {h h':aq},Kept h0 h->b9 D h h'->Kept h0 h':=λk1 k2 b o e=>(k2.2 b (λhb=>by rw[hb,VY] at e;cases e)).trans (k1 b o e)
 intro k;induction k with
 |zero=>
  intro i s hk hi U hj hkp hR;have hin:i=n:=gW hi (aa.le_of_sub_eq_zero hk);subst hin;refine eF oK ?_;rw[ie kP _];show ak _ A.in1 (pyNext (.ref I)>>=_) _ _ s;refine ao (W.done s _ _ U λh' tk hm=> ?_);exact ay (hR h' tk (hJ _ _ _ hj λo e=>hm D o hDw e) (VZ hkp hm))
 |succ k ih=>
  intro i s hk hi U hj hkp hR;have hlt:i<n:=aa.lt_of_sub_eq_succ hk;refine eF oK ?_;rw[ie kP _];show ak _ A.in1 (pyNext (.ref I)>>=_) _ _ s;refine ao (W.item i s _ _ hlt U λv h1 tk1 hP abl hm=> ?_);have k1:=VZ hkp hm;refine ao (bd (hadd i v _ _ _ hlt hP k1 (hJ _ _ _ hj λo e=>hm D o hDw e) λb h2 Ng hj2 Nh=> ?_));refine ay ⟨d8 kP _,ih (i+1) _ (av aa.pred hk) hlt (W.frame _ _ _ abl λb hb o e=> ?_) hj2 (aaR k1 Nh) λh3 Rs hj3 k3=>hR h3 Rs hj3 k3⟩;exact(Nh.2 b (λh:b=D=>hDf (by rw[<-h];exact hb))).trans e
noncomputable def u4(w:a0):aj:= !(w.params.followText "set-order")
noncomputable def wH(led:aj):aL:={cls:= .type "set",dict:=none,data:= .set #[] 0 (.fresh 0 0 led)}
theorem HI(a:af){Q₁:VS}(h:Q₁ (.ref s.heap.objs.size) {s with heap:=s.heap.push (wH (u4 w))}):
  bo (aA prog w) A (.call (.builtin "set.__new__") ⟨[.type "set",a],[]⟩) (wants Q₁ E) s:=by
 refine g9 ?_;refine ao (eS (ro a) (ay ⟨d8 oL _,eF rq ?_⟩));rw[ie oL _];unfold bq.«set.__new__» rr;have J:=sub_set_self;obtain⟨hp,g,d,tk,os⟩:=s;wp_walk;refine hF (ay ?_);dsimp only;refine ao (nc (ay ?_));exact ay h
theorem Ea{l:ag}{T:bc}{Post:aq->Prop}{Q:VS}(hT0:s.TypeIs (.ref l) T)(hT2:(bU T==bU "dict")=false)
  (hs1:isSubtype (.type T) (.type "set")=pure false) (hs2:isSubtype (.type T) (.type "frozenset")=pure false)
  (abm:∀ (R:bi->ai->Prop) (E':VS),(∀ h' tk,Post h'->Kept s.heap h'->R () {s with heap:=h',toks:=tk})->
   ak (aA prog w) A.in1.in1 (pyIter (.ref l)) (λit s'=>ak (aA prog w) A.in1.in1 (do let _<-runValue (.builtin "set.update.loop" ⟨[.ref s.heap.objs.size,it],[]⟩)) R E' s') E' {s with heap:=s.heap.push {cls:= .type "set",dict:=none,data:= .set #[] 0 (.fresh 0 0 (u4 w))}})
  (h:∀ (h':aq) (tk:aa),Post h'->Kept s.heap h'->Q (.ref s.heap.objs.size) {s with heap:=h',toks:=tk}):
  ak (aA prog w) A (call (.type "set") [.ref l]) Q E s:=by
 refine fj.mro.elim λc sd=>sd.elim λtl abE=> ?_;have hmade:=fj.made;have hsub:=fj.sub;refine ee (g9 ?_);refine ay ⟨kQ _ (by decide+kernel),eF ru ?_⟩
 rw[az.under_plain (weight_type_call_type "set" [.ref l] []) rfl];have h1:=fj.notType;have h2:=fj.canCreate;have hct:=rx (.ref l)
 repeat (any_goals (first|assumption|wp_step))
 refine dO (HI (.ref l) (E:=E) (Q₁:=λobj J=>obj= .ref s.heap.objs.size/\J={s with heap:=s.heap.push {cls:= .type "set",dict:=none,data:= .set #[] 0 (.fresh 0 0 (u4 w))}}) ⟨rfl,rfl⟩) λr J hr=> ?_
 cases r with
 |error e=>exact hr
 |ok fl=>
  cases fl with
  |ret obj=>
   obtain⟨rfl,rfl⟩:=hr;have hS:(s.heap.push {cls:= .type "set",dict:=none,data:= .set #[] 0 (.fresh 0 0 (u4 w))}).get? s.heap.objs.size=some {cls:= .type "set",dict:=none,data:= .set #[] 0 (.fresh 0 0 (u4 w))}:=a8 _ rfl;have hT:oM {s with heap:=s.heap.push {cls:= .type "set",dict:=none,data:= .set #[] 0 (.fresh 0 0 (u4 w))}} (.ref s.heap.objs.size) "set":=⟨_,hS,rfl⟩
   have hli:=fj.init.lookup;have hbi:=fj.init.bind (.ref s.heap.objs.size)
   repeat (any_goals (first|assumption|wp_step))
   refine dO (jZ (R:=wants (λr U=>r= .none/\∃ h' tk,U={s with heap:=h',toks:=tk}/\Post h'/\Kept s.heap h') E) fj.init.plain ry (check_set_init_1 hT ?_)) λr₂ U O3=> ?_
   ·have hTl:oM {s with heap:=s.heap.push {cls:= .type "set",dict:=none,data:= .set #[] 0 (.fresh 0 0 (u4 w))}} (.ref l) T:=by
     obtain⟨o,ho,hc⟩:=hT0;exact⟨o,aS _ ho,hc⟩
    have key:= @abm;unfold bq.«set.__init__» noKeywords rz;generalize hPI:pyIter=PI at*
    generalize hRV:runValue=RV at*
    wp_walk;exact key _ _ λh' tk hp hk=>ay ⟨rfl,h',tk,rfl,hp,hk⟩
   ·cases r₂ with
    |error e=>exact O3
    |ok aaS=>
     cases aaS with
     |ret r=>
      obtain⟨rfl,h',tk,rfl,hS',hk'⟩:=O3
      repeat (any_goals (first|assumption|wp_step))
      exact h _ _ hS' hk'
     |_=>exact O3.elim
  |_=>exact hr.elim
end
section
variable{prog:a9}{w:a0}{A:az}{E:VS}{s:ai}
theorem sub_tuple_set:isSubtype (.type "tuple") (.type "set")=pure false:=by rw[gv];kernel_rfl
theorem sub_tuple_frozenset:isSubtype (.type "tuple") (.type "frozenset")=pure false:=by rw[gv];kernel_rfl
theorem KG{l:ag}{items:aB af}{J:aa->aq->Prop}{Q:VS}(hh:A.handled=none)(src:s.heap.IsList l items\/s.heap.IsTuple l items)
  (hJ0:∀ h,h.get? s.heap.objs.size=some (wH (u4 w))->J 0 h)
  (hJ:∀ i h h',J i h->(∀ o,h.get? s.heap.objs.size=some o->h'.get? s.heap.objs.size=some o)->J i h')
  (hadd:∀ i v (s':ai) (Q:aj->ai->Prop) (E:VS),items[i]?=some v->Kept s.heap s'.heap->J i s'.heap->(∀ b h' tk,J (i+1) h'->b9 s.heap.objs.size s'.heap h'->Q b {s' with heap:=h',toks:=tk})->ak (aA prog w) A.in1.in1.in1 (setAdd s.heap.objs.size v) Q E s')
  (h:∀ (h':aq) (tk:aa),J items.size h'->Kept s.heap h'->Q (.ref s.heap.objs.size) {s with heap:=h',toks:=tk}):
  ak (aA prog w) A (call (.type "set") [.ref l]) Q E s:=by
 have Zb:A.in1.in1.in1.handled=none:=by simp[hh]
 generalize hD:s.heap.objs.size=D at*
 have VY:s.heap.get? D=none:=by rw[<-hD];exact w7 _
 have V0:∀ o,(s.heap.push o).objs.size=D+1:=λo=>by rw[cT,hD]
 have nI:s.heap.get? (D+1)=none:=by
  cases e:s.heap.get? (D+1) with
  |none=>rfl
  |some o=>exact aC (aY e) (by rw[hD];exact cm.mpr (cU _))
 have kp:∀ o1 o2,Kept s.heap ((s.heap.push o1).push o2):=λo1 o2 b o e=>aS _ (aS _ e);rcases src with hl|hl
 ·obtain⟨ol,D7,U,nl,hdl⟩:=id hl
  have hlS:l<D:=hD▸aY D7;refine Ea (T:="list") (Post:=J items.size) ⟨ol,D7,U⟩ (by decide) rA rB (λR E' hR=> ?_) (by rw[hD];exact h)
  rw[hD];have hl1:(s.heap.push (wH (u4 w))).IsList l items:=⟨ol,aS _ D7,U,nl,hdl⟩;refine j7 (s:={s with heap:=s.heap.push (wH (u4 w))}) hl1 (ao (kR ?_))
  show bo _ _ (.builtin "set.update.loop" ⟨[.ref D, .ref (s.heap.push (wH (u4 w))).objs.size],[]⟩) _ _;rw[V0];refine KE (n:=items.size) (J:=J) (h0:=s.heap) (fp:=[D+1,l]) (wr:=[D+1]) (P:=λi v=>items[i]?=some v) (eQ.list Zb (D+1) l (bu (fF hlS)) items) (by simp only[aW,aR,ba,or_false,not_or];exact⟨bu (eW D),cy hlS⟩) VY (by simpa using nI) hJ (λi v s' Q E z hv k j hq=>hadd i v s' Q E hv k j hq) (items.size - 0) 0 _ (rfl) (cg _) ⟨⟨_,by rw[<-V0 (wH (u4 w))];exact a8 _ rfl,rfl,rfl⟩,hl1.push _⟩ (hJ0 _ (aS _ (by rw[<-hD];exact a8 _ rfl))) (kp _ _) (λh' tk hj hk=>ay (hR h' tk hj hk))
 ·obtain⟨ol,D7,U,nl,hdl⟩:=id hl
  have hlS:l<D:=hD▸aY D7;refine Ea (T:="tuple") (Post:=J items.size) ⟨ol,D7,U⟩ (by decide) sub_tuple_set sub_tuple_frozenset (λR E' hR=> ?_) (by rw[hD];exact h)
  rw[hD];have hl1:(s.heap.push (wH (u4 w))).IsTuple l items:=⟨ol,aS _ D7,U,nl,hdl⟩;refine iY (s:={s with heap:=s.heap.push (wH (u4 w))}) hl1 (ao (kR ?_))
  show bo _ _ (.builtin "set.update.loop" ⟨[.ref D, .ref (s.heap.push (wH (u4 w))).objs.size],[]⟩) _ _;rw[V0];refine KE (n:=items.size) (J:=J) (h0:=s.heap) (fp:=[D+1,l]) (wr:=[D+1]) (P:=λi v=>items[i]?=some v) (eQ.tuple Zb (D+1) l (bu (fF hlS)) items) (by simp only[aW,aR,ba,or_false,not_or];exact⟨bu (eW D),cy hlS⟩) VY (by simpa using nI) hJ (λi v s' Q E z hv k j hq=>hadd i v s' Q E hv k j hq) (items.size - 0) 0 _ (rfl) (cg _) ⟨⟨_,by rw[<-V0 (wH (u4 w))];exact a8 _ rfl,rfl,rfl⟩,hl1.push _⟩ (hJ0 _ (aS _ (by rw[<-hD];exact a8 _ rfl))) (kp _ _) (λh' tk hj hk=>ay (hR h' tk hj hk))
end
section
variable{prog:a9}{w:a0}{A:az}{E:VS}{s:ai}
abbrev Key:=O (ae ⊕ am)×ag
def entryOf(prog:a9)(w:a0)(p:Key):ae×af:=(vc prog w p.1, .ref p.2)
inductive Holds(prog:a9)(w:a0):O Key->O Key->Prop
 |none:Holds prog w [] []
 |one (p:Key):Holds prog w [p] [p]
 |same (p q:Key):p.1=q.1->Holds prog w [p,q] [p]
 |two (p q:Key):p.1≠q.1->Holds prog w [p,q] [p,q]
 |swap (p q:Key):p.1≠q.1->Holds prog w [p,q] [q,p]
theorem Ut{l:ag}{items:aB af}{vals:O Key}{Q:VS}(hh:A.handled=none)(hu:A.units+10<cLine)(src:s.heap.IsList l items\/s.heap.IsTuple l items)
  (hi:items.toList=vals.map λp=>a7 p.2) (hn:vals.length<=2) (hk:∀ p∈vals,cj (ug prog w) s.heap p.1 p.2) (ht:∀ p∈vals,∃ z,eH z∈p.1)
  (h:∀ (h':aq) (tk:aa) (out:O Key),xf (u4 w) h' s.heap.objs.size (out.map (entryOf prog w))->Holds prog w vals out->Kept s.heap h'->Q (.ref s.heap.objs.size) {s with heap:=h',toks:=tk}):
  ak (aA prog w) A (call (.type "set") [.ref l]) Q E s:=by
 have hu3:A.in1.in1.in1.units<cLine:=bw (kS (by decide:3<10) A.units) (bB hu)
 have hsz:items.size=vals.length:=by rw[<-bQ,hi,aH]
 refine KG (J:=λi h=>∃ out,xf (u4 w) h s.heap.objs.size (out.map (entryOf prog w))/\Holds prog w (vals.take i) out) hh src (λh0 e=>⟨[],⟨_,0,_,e,⟨rfl,rfl,rfl⟩,rfl,rfl,λz=>aC rfl z,rfl,rfl,rfl,λe z=>by cases z⟩, .none⟩) (λi h1 h2 hj k=>by obtain⟨out,a,b⟩:=hj;exact⟨out,a.keep k,b⟩) (λi v s' Q' E' hv kp ⟨out,hS,hH⟩ hq=> ?_) λh' tk ⟨out,a,b⟩ k=>h h' tk out a (by rwa [hsz,mL] at b) k
 have U:(vals.map λp=>a7 p.2)[i]?=some v:=by rw[<-hi,bL];exact hv
 rw[ca] at U
 have up:∀ p∈vals,cj (ug prog w) s'.heap p.1 p.2:=λp hp=>by obtain⟨o,its,n,ho,r⟩:=hk p hp;exact⟨o,its,n,kp _ _ ho,r⟩
 have first:∀ {p:Key},p∈vals->out=[]->v= .ref p.2->(∀ h' tk,xf (u4 w) h' s.heap.objs.size ([p].map (entryOf prog w))->b9 s.heap.objs.size s'.heap h'->Q' true {s' with heap:=h',toks:=tk})->ak (aA prog w) A.in1.in1.in1 (setAdd s.heap.objs.size v) Q' E' s':=λ{p} hp ho hvp hq=>by
  subst ho;subst hvp;refine Nl hS (up p hp) (ht p hp) hu3 (.inl rfl) (λkx x tk e=>by cases e) λh2 l' tk y sb sI hl=>hq h2 tk ?_ sb
  have:l'=[entryOf prog w p]:=by rcases hl with e|e<;>exact e
  rw[this] at sI;exact sI
 rcases vals with _|⟨p,_|⟨q,_|⟨r,rest⟩⟩⟩
 ·simp at U
 ·rcases i with _|i
  ·have hv2:v= .ref p.2:=by simpa using U.symm
   cases hH;exact first (.head _) rfl hv2 λh' tk a b=>hq true h' tk ⟨[p],a, .one p⟩ b
  ·simp at U
 ·rcases i with _|_|i
  ·have hv2:v= .ref p.2:=by simpa using U.symm
   cases hH;exact first (.head _) rfl hv2 λh' tk a b=>hq true h' tk ⟨[p],a, .one p⟩ b
  ·have hv2:v= .ref q.2:=by simpa using U.symm
   subst hv2;cases hH;refine Nl hS (up q (.tail _ (.head _))) (ht q (.tail _ (.head _))) hu3 (.inr ⟨p.1,p.2,rfl,up p (.head _)⟩) (λkx x tk e hx hkq=> ?_) λh2 l' tk hne sb sI hl=> ?_
   ·have e2:p.2=x:=by
     have:=av (λl=>l.map (·.2)) e
     simpa [entryOf] using this
    refine hq false s'.heap tk ⟨[p],hS, .same p q ?_⟩ ⟨rfl,λy y=>rfl⟩;subst e2;rw[<-hkq];exact(up p (.head _)).inj hx
   ·have hpq:=hne p.1 p.2 rfl (up p (.head _))
    rcases hl with e|e
    ·exact hq true h2 tk ⟨[p,q],by rw[e] at sI;exact sI, .two p q hpq⟩ sb
    ·exact hq true h2 tk ⟨[q,p],by rw[e] at sI;exact sI, .swap p q hpq⟩ sb
  ·simp at U
 ·simp at hn
end
end
section
theorem HJ:entryFor table "set.__iter__"=some bq.«frozenset.__iter__»:=
 kz (id':="frozenset.__iter__") (by kernel_rfl) rfl (by decide+kernel) (by kernel_rfl)
theorem zM:rC.lookup (bc.ofList ['r','o','t','a','r','e','t','i','_','t','e','s'].reverse)=some rD:=by kernel_rfl
theorem tn:gU "set_iterator" "__next__" "set_iterator.__next__":=
 .of (owner:="set_iterator") (n:="__next__") (by rw[gp,gq];kernel_rfl) (by decide+kernel) (by decide+kernel) (by decide+kernel)
  (by first|exact .inl (by decide+kernel)|exact .inr (by decide+kernel)) (by rw[gv];kernel_rfl)
theorem yk:gU "set_iterator" "__iter__" "set_iterator.__iter__":=
 .of (owner:="set_iterator") (n:="__iter__") (by rw[gp,gq];kernel_rfl) (by decide+kernel) (by decide+kernel) (by decide+kernel)
  (by first|exact .inl (by decide+kernel)|exact .inr (by decide+kernel)) (by rw[gv];kernel_rfl)
theorem wh:entryFor table "set_iterator.__next__"=some bq.«set_iterator.__next__»:=kE (by kernel_rfl)
theorem Bd:entryFor table "set_iterator.__iter__"=some bq.«dict_keyiterator.__iter__»:=
 kz (id':="dict_keyiterator.__iter__") (by kernel_rfl) rfl (by decide+kernel) (by kernel_rfl)
theorem wI(a:af):argsOk "set_iterator.__next__" ⟨[a],[]⟩:=by
 unfold argsOk;rw[oN (id:="set_iterator.__next__") (n:=['_','_','t','x','e','n','_','_']) (o:=['r','o','t','a','r','e','t','i','_','t','e','s']) (by kernel_rfl) zM];kernel_rfl
theorem BQ(a:af):argsOk "set_iterator.__iter__" ⟨[a],[]⟩:=by
 unfold argsOk;rw[oN (id:="set_iterator.__iter__") (n:=['_','_','r','e','t','i','_','_']) (o:=['r','o','t','a','r','e','t','i','_','t','e','s']) (by kernel_rfl) zM];kernel_rfl
section
variable{prog:a9}{w:a0}{A:az}{E:VS}{s:ai}
theorem Uu{r:ag}{Q:aj->ai->Prop}(U:s.TypeIs (.ref r) "set")(h:Q false s):ak (aA prog w) A (oO (.ref r)) Q E s:=by
 unfold oO;refine sf (λz=>iS U rE.lookup) ?_;generalize hid:("set.__len__":bc)=id0
 wp_delta
 subst hid;refine sf (λz=>gK (T:="set") (b:=true) U (by rw[gv];kernel_rfl)) ?_
 refine dw (λJ=>aC J (by decide)) (λz=> ?_)
 refine dw (λz=> ?_) (λJ=>aC (by decide+kernel) J)
 refine sf (λz=>d4 U) ?_;exact ay h
theorem Eb{J:Source}{n:aa}{Q:aa->ai->Prop}(hn:n≠0)(h:∀ i,i<n->∀ d,Q i {s with drawn:=d}):ak (aA prog w) A (choose J n) Q E s:=
 λz z z=>⟨hn,h _ (jf _ (aa.pos_of_ne_zero hn)) _⟩
theorem Uv{α:Type}{a b:α}{Q:O α->ai->Prop}(h1:∀ d,Q [a,b] {s with drawn:=d})(h2:∀ d,Q [b,a] {s with drawn:=d}):ak (aA prog w) A (drawOrder 2 [a,b]) Q E s:=by
 show ak _ _ (choose .order 2>>=_) _ _ s;refine ao (Eb (by decide) λi hi d=> ?_)
 have tail:∀ {x:α} {Q:O α->ai->Prop} {s:ai},(∀ d,Q [x] {s with drawn:=d})->ak (aA prog w) A (drawOrder 1 [x]) Q E s:=λ{x Q s} J=>by
  show ak _ _ (choose .order 1>>=_) _ _ s;refine ao (Eb (by decide) λi hi d=> ?_)
  have:i=0:=oP.mp hi;subst this;exact sP (ay (J d))
 rcases(aa.lt_succ_iff_lt_or_eq.mp hi).imp_left oP.mp with rfl|rfl
 ·exact ao (tail λd=>ay (h1 d))
 ·exact ao (tail λd=>ay (h2 d))
theorem Ec{α:Type}{f:aa->aa}{n k m:aa}{l:O α}{o:aB α}(hm:l.length=m:=by rfl):fH f (n+1) k l o=match l[f k%m]? with|some x=>fH f n (k+1) (l.eraseIdx (f k%m)) (o.push x)|none=>o:=by subst hm;rfl
theorem Uw{α:Type}(f:aa->aa)(a:α):pickOrder f #[a]= #[a]:=by
 show fH f 1 0 [a] #[]=_;rw[Ec (m:=1),kT];rfl
theorem Ux{α:Type}(f:aa->aa)(a b:α):pickOrder f #[a,b]= #[a,b]\/pickOrder f #[a,b]= #[b,a]:=by
 show fH f 2 0 [a,b] #[]=_\/fH f 2 0 [a,b] #[]=_;have:=aa.mod_two_eq_zero_or_one (f 0);rcases this with e|e
 ·left;rw[Ec (m:=2),e];show fH f 1 1 [b] #[a]=_;rw[Ec (m:=1),kT];rfl
 ·right;rw[Ec (m:=2),e];show fH f 1 1 [a] #[b]=_;rw[Ec (m:=1),kT];rfl
end
section
variable{prog:a9}{w:a0}{A:az}{E:VS}{s:ai}
def uD(h:aq)(I D:ag)(first:af)(i n ep:aa):Prop:=∃ o,h.get? I=some o/\o.cls= .type "set_iterator"/\o.data= .fields #[first, .int i 0, .ref D, .int n 0, .int ep 0]
def SetObj(h:aq)(D:ag)(es:aB (ae×af))(ep:aa)(t:bA):Prop:=∃ o,h.get? D=some o/\o.data= .set es ep t/\t.fits es.size=true
theorem uD.typeIs{I D:ag}{first:af}{i n ep:aa}(x:uD s.heap I D first i n ep):s.TypeIs (.ref I) "set_iterator":=x.imp λo z=>⟨z.1,z.2.1⟩
theorem uD.at{h h':aq}{I D:ag}{first:af}{i n ep:aa}(x:uD h I D first i n ep)(e:∀ o,h.get? I=some o->h'.get? I=some o):uD h' I D first i n ep:=x.imp λo z=>⟨e o z.1,z.2⟩
theorem SetObj.at{h h':aq}{D:ag}{es:aB (ae×af)}{ep:aa}{t:bA}(x:SetObj h D es ep t)(e:∀ o,h.get? D=some o->h'.get? D=some o):SetObj h' D es ep t:=x.imp λo z=>⟨e o z.1,z.2⟩
theorem size_of{D:ag}{es:aB (ae×af)}{ep:aa}{t:bA}(U:SetObj s.heap D es ep t){Q:aB (ae×af)->ai->Prop}(h:Q es s):ak (aA prog w) A (setEntries D) Q E s:=by
 refine U.elim λo J=> ?_;have ho:=J.1;have hd:=J.2.1;have hf:=J.2.2;exact ao (dQ ho hd hf (ay h))
theorem O4{I D:ag}{sl i nx ep:aa}{es:aB (ae×af)}{t:bA}{x:af}{Q:ax af->ai->Prop}(hI:uD s.heap I D (.int sl 0) i es.size ep)(hS:SetObj s.heap D es ep t)
  (hx:∀ (E:VS) (Q:ax (af×aa)->ai->Prop),Q (some (x,nx)) s->ak (aA prog w) A.in1 (setNext D sl i ep) Q E s)
  (hQ:∀ h',uD h' I D (.int nx 0) (i+1) es.size ep->b9 I s.heap h'->Q (some x) {s with heap:=h'}):ak (aA prog w) A (pyNext (.ref I)) Q E s:=by
 have hT:=hI.typeIs;refine(id hI).elim λo U=>U.elim λho U=> ?_;have hc:=U.1;have J:=U.2
 refine ao (eD (d3 (name:=aJ "__next__") hT tn
  (cz tn hT wh ?_ (wI _))))
 refine sP ?_;refine sf (λz=>jj ho J) ?_;dsimp only;refine sf (λz=>size_of hS) ?_;simp -iota only[eE,bN,bE,b6];refine sf (λz=>hx _ _) ?_;refine sf (λz=>dn ho J (cV rfl)) ?_;have h1:=cD (cr λfs=>fs.set! 0 (rawInt nx)) ho (fE (dc J _));refine sf (λz=>dn h1 (dc J _) (cV rfl)) ?_;have h2:=cD (cr λfs=>fs.set! 1 (rawInt (i+1))) h1 (fE (dc (dc J _) _));refine ay ⟨x,rfl,ay (hQ _ ⟨_,h2, ?_, ?_⟩ ((gn ..).trans (gn ..)))⟩
 ·rw[i8,i8];exact hc
 ·rw[dc (dc J _)];simp[rawInt]
theorem ID{I:ag}{h1:aq}{Q:ax af->ai->Prop}{t:aM Fin}(J:A.handled=none)(U:s.TypeIs (.ref I) "set_iterator")
  (hcode:(bq.«set_iterator.__next__» ⟨[.ref I],[]⟩)=t)
  (ht:∀ (Q':Fin->ai->Prop) (E':VS),ak (aA prog w) A.in1 (newExc (.type "StopIteration") []>>=λe=>(raiseNew e:aM Fin)) Q' E' {s with heap:=h1}->ak (aA prog w) A.in1 t Q' E' s)
  (hQ:∀ h',(∀ b o,h1.get? b=some o->h'.get? b=some o)->Q none {s with heap:=h'}):ak (aA prog w) A (pyNext (.ref I)) Q E s:=by
 unfold pyNext
 refine ao (eD (d3 (name:=aJ "__next__") U tn
  (cz tn U wh ?_ (wI _))))
 rw[hcode];refine ht _ _ ?_;refine ao ?_;refine ao (dg ?_ (by size_fits))
 refine ao (m:=firstArgMember _ _) (eS (a:=cA) (by first|rfl|(simp only[firstArgMember];rfl)) ?_)
 refine dg ?_ (by size_fits)
 refine sf (λz=>nF) ?_
 first|rw[show A.in1.handled=none from J]|rw[J]
 refine sP (nG ?_);refine ao (gK (T:="StopIteration") (b:=true) ⟨_,a8 _ rfl,rfl⟩ kq ?_);exact ay (hQ _ λb o e=>aS _ (aS _ e))
theorem Ru{I D:ag}{sl i ep:aa}{es:aB (ae×af)}{t:bA}{Q:ax af->ai->Prop}(hh:A.handled=none)(hI:uD s.heap I D (.int sl 0) i es.size ep)(hS:SetObj s.heap D es ep t)
  (hx:∀ (E:VS) (Q:ax (af×aa)->ai->Prop),Q none s->ak (aA prog w) A.in1 (setNext D sl i ep) Q E s)
  (hQ:∀ h',iX I s.heap h'->Q none {s with heap:=h'}):ak (aA prog w) A (pyNext (.ref I)) Q E s:=by
 refine(id hI).elim λo J=> ?_;have ho:=J.1;have hc:=J.2.1;have U:=J.2.2;refine ID (h1:=s.heap.update I (cr (·.setIfInBounds 2 .none))) hh hI.typeIs rfl (λQ' E' hq=> ?_) λh' hk=>hQ h' λb ob hb e=>hk b ob ((b8 _ _ (bz hb)).trans e)
 refine sP ?_;refine sf (λz=>jj ho U) ?_;dsimp only;refine sf (λz=>size_of hS) ?_;simp -iota only[eE,bN,bE,b6];refine sf (λz=>hx _ _) ?_;exact ao (dn ho U (cV rfl) hq)
theorem O5{I D T:ag}{i p ep:aa}{es:aB (ae×af)}{t:bA}{pl:aB af}{hx:ae}{x:af}{Q:ax af->ai->Prop}(hI:uD s.heap I D (.ref T) i es.size ep)(hS:SetObj s.heap D es ep t)(hT:s.heap.IsTuple T pl)
  (hp:pl[i]?=some (.int p 0)) (he:es[p]?=some (hx,x))
  (hQ:∀ h',uD h' I D (.ref T) (i+1) es.size ep->b9 I s.heap h'->Q (some x) {s with heap:=h'}):ak (aA prog w) A (pyNext (.ref I)) Q E s:=by
 have U:=hI.typeIs;obtain⟨o,ho,hc,hd⟩:=id hI;refine hT.elim λoT J=>J.elim λRb J=>J.elim λz J=>J.elim λnT Dt=> ?_
 refine ao (eD (d3 (name:=aJ "__next__") U tn
  (cz tn U wh ?_ (wI _))))
 refine sP ?_;refine sf (λz=>jj ho hd) ?_;dsimp only;refine sf (λz=>size_of hS) ?_;simp -iota only[eE,bN,bE,b6];refine sf (λz=>dB Rb Dt) ?_;simp only[b6,hp];refine ao ?_;refine hS.elim λoS J=> ?_;have hoS:=J.1;have hdS:=J.2.1;have hfS:=J.2.2;refine sf (λz=>dQ hoS hdS hfS) ?_;simp only[b6,eE,bN,bE,he];refine ay ?_;refine sf (λz=>dn ho hd (cV rfl)) ?_;have h2:=cD (cr (·.setIfInBounds 1 (rawInt (i+1)))) ho (fE (dc hd _))
 refine ay ⟨x,rfl,ay (hQ _ ⟨_,h2, ?_, ?_⟩ (gn ..))⟩
 ·rw[i8];exact hc
 ·rw[dc hd];simp[rawInt]
theorem Rv{I D T:ag}{i ep:aa}{es:aB (ae×af)}{t:bA}{pl:aB af}{Q:ax af->ai->Prop}(hh:A.handled=none)(hI:uD s.heap I D (.ref T) i es.size ep)(hS:SetObj s.heap D es ep t)(hT:s.heap.IsTuple T pl)
  (hp:pl[i]?=none) (hQ:∀ h',iX I s.heap h'->Q none {s with heap:=h'}):ak (aA prog w) A (pyNext (.ref I)) Q E s:=by
 refine(id hI).elim λo J=>J.elim λho J=> ?_;have hc:=J.1;have U:=J.2;refine hT.elim λoT J=>J.elim λRb J=>J.elim λz J=>J.elim λnT Dt=> ?_;have h1:=cD (cr (·.setIfInBounds 0 (rawInt 0))) ho (fE (dc U _))
 refine ID (h1:=(s.heap.update I (cr (·.setIfInBounds 0 (rawInt 0)))).update I (cr (·.setIfInBounds 2 .none))) hh hI.typeIs rfl (λQ' E' hq=> ?_) λh' hk=>hQ h' λb ob hb e=>hk b ob ((b8 _ _ (bz hb)).trans ((b8 _ _ (bz hb)).trans e))
 refine sP ?_;refine sf (λz=>jj ho U) ?_;dsimp only;refine sf (λz=>size_of hS) ?_;simp -iota only[eE,bN,bE,b6];refine sf (λz=>dB Rb Dt) ?_;simp only[b6,hp];refine sf (λz=>dn ho U (cV rfl)) ?_;exact ao (dn h1 (dc U _) (cV rfl) hq)
theorem IE{I D:ag}{first:af}{i n ep:aa}{Q:VS}(hI:uD s.heap I D first i n ep)(h:Q (.ref I) s):ak (aA prog w) A (pyIter (.ref I)) Q E s:=by
 refine oQ hI.typeIs yk (cz yk hI.typeIs Bd ?_ (BQ _));exact ay ⟨_,rfl,"set_iterator",_,hI.typeIs,tn.lookup,h⟩
end
section
variable{prog:a9}{w:a0}{A:az}{E:VS}{s:ai}
theorem BR(hh:A.handled=none){I D:ag}(hne:D≠I){es:aB (ae×af)}{ep:aa}{t:bA}(sl:aa->aa)(order:O af)(hl:order.length=es.size)
  (h1:∀ i x,order[i]?=some x->∀ (s:ai) (E:VS) (Q:ax (af×aa)->ai->Prop),SetObj s.heap D es ep t->Q (some (x,sl (i+1))) s->ak (aA prog w) A.in1 (setNext D (sl i) i ep) Q E s)
  (h2:∀ (s:ai) (E:VS) (Q:ax (af×aa)->ai->Prop),SetObj s.heap D es ep t->Q none s->ak (aA prog w) A.in1 (setNext D (sl es.size) es.size ep) Q E s):
  eQ prog w A I [I,D] [I] es.size (λi v=>order[i]?=some v) (λi h=>uD h I D (.int (sl i) 0) i es.size ep/\SetObj h D es ep t) where
 sub:=λb J=>by simp -iota at J;simp -iota [J]
 frame:=λz z z st hk=>⟨st.1.at λo e=>hk I (.head _) o e,st.2.at λo e=>hk D (.tail _ (.head _)) o e⟩
 item:=λi s Q E hi st U=>by
  obtain⟨x,hx⟩:∃ x,order[i]?=some x:=⟨_,br (hl.symm▸hi)⟩;refine O4 st.1 st.2 (λE Q hq=>h1 i x hx s E Q st.2 hq) λh' hI hs=> ?_;exact U x h' s.toks hx ⟨hI,st.2.at λo e=>(hs.2 D hne).trans e⟩ λb o J e=>(hs.2 b (λh=>J (by simp -iota [h]))).trans e
 done:=λs Q E st U=>Ru hh st.1 st.2 (λE Q hq=>h2 s E Q st.2 hq) λh' he=>U h' s.toks λb o J e=>he b o (λh=>J (by simp -iota [h])) e
 self:=λz z z z st U=>IE st.1 U
theorem Mv(hh:A.handled=none){I D T:ag}(hne:D≠I)(hnT:T≠I){es:aB (ae×af)}{ep:aa}{t:bA}(pl:O aa)(order:O af)(hl:order.length=es.size)(hp:pl.length=es.size)
  (h1:∀ (i:aa) (x:af),order[i]?=some x->∃ (p:aa) (hx:ae),pl[i]?=some p/\es[p]?=some (hx,x)):
  eQ prog w A I [I,D,T] [I] es.size (λi v=>order[i]?=some v) (λi h=>uD h I D (.ref T) i es.size ep/\SetObj h D es ep t/\h.IsTuple T (pl.map λ(p:aa)=>rawInt p).toArray) where
 sub:=λb J=>by simp -iota at J;simp -iota [J]
 frame:=λz z z st hk=>⟨st.1.at λo e=>hk I (.head _) o e,st.2.1.at λo e=>hk D (.tail _ (.head _)) o e,st.2.2.at λo e=>hk T (by simp -iota) o e⟩
 item:=λi s Q E hi st U=>by
  obtain⟨x,hx⟩:∃ x,order[i]?=some x:=⟨_,br (hl.symm▸hi)⟩;refine(h1 i x hx).elim λp sd=>sd.elim λhv sd=> ?_;have h3:=sd.1;have h4:=sd.2;refine O5 st.1 st.2.1 st.2.2 (p:=p) (by simp -iota [h3,rawInt]) h4 λh' hI hs=> ?_
  exact U x h' s.toks hx ⟨hI,st.2.1.at λo e=>(hs.2 D hne).trans e,st.2.2.at λo e=>(hs.2 T hnT).trans e⟩ λb o J e=>(hs.2 b (λh=>J (by simp -iota [h]))).trans e
 done:=λs Q E st U=>Rv hh st.1 st.2.1 st.2.2 (by simp -iota [hp]) λh' he=>U h' s.toks λb o J e=>he b o (λh=>J (by simp -iota [h])) e
 self:=λz z z z st U=>IE st.1 U
theorem EO{Q:aj->ai->Prop}(h:Q (!u4 w) s):ak (aA prog w) A setsByText Q E s:=by
 unfold setsByText;refine ao (hF (ay ?_));unfold u4 at h
 rw[dR] at h
 exact h
theorem IF{D:ag}{es:aB (ae×af)}{ep i:aa}{t:bA}{Q:ax (af×aa)->ai->Prop}(hS:SetObj s.heap D es ep t)(ht:u4 w=false)
  (h:Q (((pickOrder (w.params.setOrder D ep) es)[i]?).map λe=>(e.2,0)) s):ak (aA prog w) A (setNext D 0 i ep) Q E s:=by
 refine hS.elim λo J=> ?_;have ho:=J.1;have U:=J.2.1;have hf:=J.2.2;refine sf (λz=>dQ ho U hf) ?_;dsimp only;refine sf (λz=>EO) ?_;rw[ht];simp -iota only[oB,eZ,eE,bN,bE];refine ao ?_;refine sf (λz=>dQ ho U hf) ?_;refine sf (λz=>EO) ?_;rw[ht];refine ao (hF (ay ?_));exact ay h
theorem FQ{D:ag}{es:aB (ae×af)}{ep i sl:aa}{t:bA}{Q:ax (af×aa)->ai->Prop}(hS:SetObj s.heap D es ep t)(ht:u4 w=true)(hl:t.led=true)(hn:es.size<=1)
  (h:Q (match es[fG t.place sl]?,t.place[fG t.place sl]? with|some (_,x),some j=>some (x,j+1)|_,_=>none) s):ak (aA prog w) A (setNext D sl i ep) Q E s:=by
 refine hS.elim λo U=> ?_;have ho:=U.1;have hd:=U.2.1;have hf:=U.2.2;refine sf (λz=>dQ ho hd hf) ?_;dsimp only;refine sf (λz=>EO) ?_;rw[ht];simp -iota only[oE,bN,bE];refine dw (λJ=>aC J ?_) (λz=> ?_)
 ·show ¬ ((!t.plain&&decide (es.size>1))=true)
  simp -iota only[ef,fy,not_and];exact λz=>cm.mpr hn
 ·refine ao ?_
  refine dw (λJ=>aC J (by rw[hl];simp -iota)) (λz=>ay (ay h))
theorem O6{α β:Type}{f:aa->aa}{g:α->β}{l:O α}(hn:l.length<=2):(pickOrder f l.toArray).toList.map g=l.map g\/(pickOrder f l.toArray).toList.map g=(l.map g).reverse:=by
 cases l with
 |nil=>exact .inl rfl
 |cons a l=>
  cases l with
  |nil=>rw[show[a].toArray= #[a] from rfl,Uw];exact .inl rfl
  |cons b l=>
   cases l with
   |nil=>
    exact(Ux f a b).imp (λe=>by rw[e]) λe=>by rw[e];rfl
   |cons _ _=>exact aC hn (by simp -iota)
theorem O7{D:ag}{l:O (ae×af)}(hh:A.handled=none)(hS:xf (u4 w) s.heap D l)(hn:l.length<=2){Q:VS}
  (hQ:∀ (I:ag) (fp wr:O ag) (St:aa->aq->Prop) (order:O af) (h':aq) (J:_),(order=l.map (·.2)\/order=(l.map (·.2)).reverse)->eQ prog w A I fp wr l.length (λi v=>order[i]?=some v) St->St 0 h'->
   (∀ b∈fp,b=D\/s.heap.objs.size<=b)->(∀ b∈wr,s.heap.objs.size<=b)->Kept s.heap h'->Q (.ref I) {s with heap:=h',drawn:=J}):ak (aA prog w) A (pyIter (.ref D)) Q E s:=by
 have hT:=hS.typeIs;obtain⟨o,ep,t,ho,hex,hd,T⟩:=hS;have hf:t.fits l.toArray.size=true:=by exact T.fits (aw (by assumption) (by decide))
 have V1:D<s.heap.objs.size:=aY ho;refine oQ hT oR (cz oR hT HJ ?_ (rF _));refine sP ?_;refine ao ?_;refine ao (size_of ⟨o,ho,hd,hf⟩ (ay ?_));refine ao ?_;refine sf (λz=>dQ ho hd hf) ?_;refine ao (EO (ay ?_))
 have fin:∀ (first:af) (h1:aq) (J:_) (fp:O ag) (St:aa->aq->Prop) (order:O af) (Q':kU->ai->Prop) (E':VS),(∀ I s',s'.TypeIs (.ref I) "set_iterator"->Q (.ref I) s'->Q' (.done (.ret (.ref I))) s')->Kept s.heap h1->(order=l.map (·.2)\/order=(l.map (·.2)).reverse)->
   eQ prog w A h1.objs.size (h1.objs.size::fp) [h1.objs.size] l.length (λi v=>order[i]?=some v) St->(∀ h2,uD h2 h1.objs.size D first 0 l.length ep->Kept h1 h2->St 0 h2)->(∀ b∈fp,b=D\/s.heap.objs.size<=b)->s.heap.objs.size<=h1.objs.size->
   ak (aA prog w) A.in1 (do ret (<-newFields "set_iterator" [first,rawInt 0, .ref D,rawInt l.toArray.size,rawInt (<-setEpoch D)])) Q' E' {s with heap:=h1,drawn:=J}:=λfirst h1 J fp St order Q' E' hq' k1 ho' hW hSt hfp U=>by
  refine sf (λz=>wpAny_setEpoch_of (k1 _ _ ho) hd hf) ?_;refine ao (dg ?_ (by size_fits))
  refine ay (hq' _ _ ⟨_,a8 _ rfl,rfl⟩ ?_);have k2:Kept h1 (h1.push {cls:= .type "set_iterator",data:= .fields [first,rawInt 0, .ref D,rawInt l.toArray.size,rawInt ep].toArray}):=λb o e=>aS _ e
  refine hQ _ _ _ _ order _ J ho' hW (hSt _ ⟨_,a8 _ rfl,rfl,by simp -iota [rawInt]⟩ k2) (λb hb=> ?_) (λb hb=>by rw[aR.mp hb];exact U) λb o e=>k2 b o (k1 b o e)
  rcases aW.mp hb with rfl|hb
  ·exact .inr U
  ·exact hfp b hb
 have kr:Kept s.heap s.heap:=λz z e=>e;have Zc:D≠s.heap.objs.size:=bu V1;have so:∀ {h2:aq},Kept s.heap h2->SetObj h2 D l.toArray ep t:=λk=>⟨o,k _ _ ho,hd,hf⟩;cases hb:u4 w with
 |false=>
  refine sP ?_;generalize e1:(pickOrder (w.params.setOrder D ep) l.toArray).toList.map (·.2)=order
  have e2:order=l.map (·.2)\/order=(l.map (·.2)).reverse:=e1▸O6 hn
  have hlen:order.length=l.length:=by rcases e2 with e|e<;>rw[e]<;>simp -iota
  have hget:∀ i:aa,((pickOrder (w.params.setOrder D ep) l.toArray)[i]?).map (λe=>(e.2,(0:aa)))=order[i]?.map λx=>(x,0):=λi=>by
   rw[<-e1,ca,<-bL,kW];rfl
  refine fin (.int (0:aa) 0) s.heap s.drawn [D] (λi h=>uD h s.heap.objs.size D (.int (0:aa) 0) i l.toArray.size ep/\SetObj h D l.toArray ep t) order _ _ (λI s' a b=>⟨_,rfl,"set_iterator",_,a,tn.lookup,b⟩) kr e2
   (by have:=BR (prog:=prog) (w:=w) hh Zc (es:=l.toArray) (ep:=ep) (t:=t) (λz=>0) order (by exact hlen) (λi x hx s E Q hS hq=>IF hS hb (by rw[hget,hx];exact hq)) (λs E Q hS hq=>IF hS hb (by rw[hget,d9 (by exact bF hlen)];exact hq));simpa -iota using this)
   (λh2 hI k=>⟨by exact hI,so k⟩) (λb hb=> .inl (aR.mp hb)) (aU _)
 |true=>
  have Uy:t.led=true:=by rw[T.led,hb]
  rcases l with _|⟨a,_|⟨b,_|⟨c,l⟩⟩⟩
  ·refine dw (λhab=>aC hab ?_) (λz=>sP ?_)
   ·show ¬ ((true&&(!t.plain&&decide (([]:O (ae×af)).toArray.size>1)))=true)
    simp -iota
   ·refine fin (.int (0:aa) 0) s.heap s.drawn [D] (λi h=>uD h s.heap.objs.size D (.int (0:aa) 0) i (#[]:aB (ae×af)).size ep/\SetObj h D #[] ep t) [] _ _ (λI s' a b=>⟨_,rfl,"set_iterator",_,a,tn.lookup,b⟩) kr (.inl rfl)
     (BR (prog:=prog) (w:=w) hh Zc (es:= #[]) (ep:=ep) (t:=t) (λz=>0) [] rfl (λi x hx=>by simp -iota at hx) (λs E Q hS hq=>FQ hS hb Uy (by decide) (by exact hq)))
     (λh2 hI k=>⟨hI,so k⟩) (λb hb=> .inl (aR.mp hb)) (aU _)
  ·have hpl:=T.one a rfl
   generalize hj:dP a.1%8=j0 at hpl
   refine dw (λhab=>aC hab ?_) (λz=>sP ?_)
   ·show ¬ ((true&&(!t.plain&&decide (([a]:O (ae×af)).toArray.size>1)))=true)
    simp -iota
   ·refine fin (.int (0:aa) 0) s.heap s.drawn [D] (λi h=>uD h s.heap.objs.size D (.int ((if i=0 then 0 else j0+1:aa):ae) 0) i (#[a]:aB (ae×af)).size ep/\SetObj h D #[a] ep t) [a.2] _ _ (λI s' a b=>⟨_,rfl,"set_iterator",_,a,tn.lookup,b⟩) kr (.inl rfl)
     (BR (prog:=prog) (w:=w) hh Zc (es:= #[a]) (ep:=ep) (t:=t) (λi=>if i=0 then 0 else j0+1) [a.2] rfl (λi x hx s E Q hS hq=> ?_) (λs E Q hS hq=> ?_))
     (λh2 hI k=>⟨hI,so k⟩) (λb hb=> .inl (aR.mp hb)) (aU _)
    ·rcases i with _|i
     ·have:a.2=x:=by simpa -iota using hx
      subst this;refine FQ hS hb Uy (aU _) ?_;rw[hpl];simp -iota only[eZ,zL,gu,bE]
      simpa -iota using hq
     ·simp -iota at hx
    ·refine FQ hS hb Uy (aU _) ?_
     rw[hpl];show Q (match #[a][fG #[j0] (if 1=0 then 0 else j0+1)]?,_ with|some (_,x),some j=>some (x,j+1)|_,_=>none) s
     rw[aI (by decide),zL,aN (eW _)]
     simpa -iota using hq
  ·have hpl:t.plain=false:=T.plain (by simp -iota)
   refine dw (λz=> ?_) (λhab=>aC ?_ hab)
   ·have two:∀ (J:_) (pl:O aa) (order:O af),(pl=[0,1]/\order=[a.2,b.2]\/pl=[1,0]/\order=[b.2,a.2])->ak (aA prog w) A.in1 (do
      let first<-newTuple (pl.map λ(i:aa)=>rawInt i)
      ret (<-newFields "set_iterator" [first,rawInt 0, .ref D,rawInt (#[a,b]:aB (ae×af)).size,rawInt (<-setEpoch D)]))
      (λfin s'=>∃ v,fin=kU.done (cG.ret v)/\∃ T' r,s'.TypeIs v T'/\typeLookup (bU T') (aJ "__next__")=pure (some r)/\Q v s') E {s with drawn:=J}:=λJ pl order V2=>by
     have Rr:pl.length=2:=by rcases V2 with⟨rfl,_⟩|⟨rfl,_⟩<;>rfl
     refine ao (dg ?_ (by show(eJ (λ(i:aa)=>rawInt i) pl).toArray.size<=sizeLine;rw[ii,aH,Rr];decide))
     have k1:Kept s.heap (s.heap.push {cls:= .type "tuple",data:= .seq (pl.map λ(i:aa)=>rawInt i).toArray}):=λb o e=>aS _ e;have U:(s.heap.push {cls:= .type "tuple",data:= .seq (pl.map λ(i:aa)=>rawInt i).toArray}).objs.size=s.heap.objs.size+1:=cT ..
     refine fin (.ref s.heap.objs.size) (s.heap.push {cls:= .type "tuple",data:= .seq (pl.map λ(i:aa)=>rawInt i).toArray}) J [D,s.heap.objs.size]
      (λi h=>uD h (s.heap.push {cls:= .type "tuple",data:= .seq (pl.map λ(i:aa)=>rawInt i).toArray}).objs.size D (.ref s.heap.objs.size) i (#[a,b]:aB (ae×af)).size ep/\SetObj h D #[a,b] ep t/\h.IsTuple s.heap.objs.size (pl.map λ(p:aa)=>rawInt p).toArray)
      order _ _ (λI s' a b=>⟨_,rfl,"set_iterator",_,a,tn.lookup,b⟩) k1 (by rcases V2 with⟨_,rfl⟩|⟨_,rfl⟩;exact .inl rfl;exact .inr rfl)
      (Mv (prog:=prog) (w:=w) hh (by rw[U];exact bu (fF V1)) (by rw[U];exact bu (eW _)) (es:= #[a,b]) (ep:=ep) (t:=t) pl order (by rcases V2 with⟨_,rfl⟩|⟨_,rfl⟩<;>rfl) Rr (λi x hx=> ?_))
      (λh2 hI k=>⟨hI,so λb o e=>k b o (k1 b o e),_,k _ _ (a8 _ rfl),rfl,0,rfl⟩) (λb hb=> ?_) (by rw[U];exact cU _)
     ·rcases V2 with⟨rfl,rfl⟩|⟨rfl,rfl⟩
      ·rcases i with _|_|i
       ·have:a.2=x:=by simpa -iota using hx
        exact⟨0,a.1,rfl,by subst this;rfl⟩
       ·have:b.2=x:=by simpa -iota using hx
        exact⟨1,b.1,rfl,by subst this;rfl⟩
       ·simp -iota at hx
      ·rcases i with _|_|i
       ·have:b.2=x:=by simpa -iota using hx
        exact⟨1,b.1,rfl,by subst this;rfl⟩
       ·have:a.2=x:=by simpa -iota using hx
        exact⟨0,a.1,rfl,by subst this;rfl⟩
       ·simp -iota at hx
     ·rcases aW.mp hb with rfl|hb
      ·exact .inl rfl
      ·rw[aR.mp hb];exact .inr (aU _)
    exact ao (Uv (λJ=>two J [0,1] _ (.inl ⟨rfl,rfl⟩)) (λJ=>two J [1,0] _ (.inr ⟨rfl,rfl⟩)))
   ·show(true&&(!t.plain&&decide (([a,b]:O (ae×af)).toArray.size>1)))=true
    rw[hpl];rfl
  ·simp -iota at hn
end
section
variable{prog:a9}{w:a0}{A:az}{E:VS}{s:ai}
theorem KH{R:dl->ai->Prop}{D S:ag}{l:O (ae×af)}{res:af}{c₀:aa}(hh:A.handled=none)(HK:xf (u4 w) s.heap D l)(hn:l.length<=2)(hSD:S≠D)(hS:s.heap.get? S=some {cls:= .type "list",data:= .seq #[] c₀})
  (hR:∀ h' tk dr J c' order,(order=l.map (·.2)\/order=(l.map (·.2)).reverse)->(∀ b o,b≠S->s.heap.get? b=some o->h'.get? b=some o)->h'.get? S=some {cls:= .type "list",dict:=none,data:= .seq J c',slots:= #[]}->f8 (λi v=>order[i]?=some v) J l.length->R (.ok (.ret res)) {s with heap:=h',toks:=tk,drawn:=dr}):
  ak (aA prog w) A.in1 (iI (.ref S) (.ref D) res)
   (λfin s'=>match fin with| .done f=>R (.ok f) s'| .again c'=>c'.quiet=true/\bo (aA prog w) A c' R s') (λe s'=>R (.error e) s') s:=by
 unfold iI;refine sf (λz=>d4 (T:="set") HK.typeIs) ?_;have h1:iJ (.ref S) (.ref D)=false:=by simp[iJ,hSD]
 have n1:(bU "set"==bU "list")=false:=by decide
 have n2:(bU "set"==bU "tuple")=false:=by decide
 simp -iota only[h1,n1,n2,dI,bN,bE];refine ao (O7 (A:=A.in1) hh HK hn λI fp wr St order h2 dr ho W st hfp hwr k2=> ?_);have Tz:S<s.heap.objs.size:=aY hS
 have hSf:S∉fp:=λh=>by
  rcases hfp S h with e|e
  ·exact hSD e
  ·exact aC Tz (cm.mpr e)
 have key:∀ (h:aq) (U tk:aa),St 0 h->(∀ b o,b≠S->s.heap.get? b=some o->h.get? b=some o)->
   h.get? S=some {cls:= .type "list",data:= .seq #[] U}->bo (aA prog w) A (.builtin "list.extend.loop" ⟨[.ref S, .ref I,res],[]⟩) R {s with heap:=h,toks:=tk,drawn:=dr}:=by
  intro h U tk hst hk xS;refine ml W.toS (aw hn (by decide)) S hSf res l.length 0 _ #[] U rfl (cg _) hst xS (f8.nil _) λs' J c' hm hS' hacc=> ?_
  rw[mm hm];refine hR s'.heap s'.toks dr J c' order ho (λb o hb e=>hm.heap b o (λhmem=> ?_) (hk b o hb e)) hS' hacc;rcases aW.mp hmem with e'|hmem
  ·exact hb e'
  ·exact aC (aY e) (cm.mpr (hwr b hmem))
 have xS:=k2 _ _ hS;refine ao (bd (Uu (HK.keep (λo e=>k2 _ _ e)).typeIs ?_));refine dw (λz=> ?_) (λz=>ay ⟨d8 oU _,key _ c₀ _ st (λb o z e=>k2 _ _ e) xS⟩);refine sf (λz=>ek) ?_;refine ao ?_;show ak _ _ (updateSeq S (·.push .none)>>=λz=>updateSeq S (·.pop)) _ _ _
 refine sf (λz=>iK xS rfl) ?_;have Gm:=cD (dv (·.push cA)) xS rfl
 refine iK (hz:=by seq_fits) Gm rfl ?_
 have Oq:=cD (dv (·.pop)) Gm rfl
 refine ay ⟨d8 oU _,key _ _ _ ?_ (λb o hb e=> ?_) Oq⟩
 ·refine W.frame 0 _ _ st λb hb o e=> ?_
  have hbS:b≠S:=λh=>hSf (h▸hb);exact(b8 _ _ (bz hbS)).trans ((b8 _ _ (bz hbS)).trans e)
 ·exact(b8 _ _ (bz hb)).trans ((b8 _ _ (bz hb)).trans (k2 _ _ e))
theorem Jc{R:O af->ai->Prop}{D:ag}{l:O (ae×af)}(hh:A.handled=none)(HK:xf (u4 w) s.heap D l)(hn:l.length<=2)
  (h:∀ (h':aq) (tk:aa) (dr:_) (vs:O af),Kept s.heap h'->(vs=l.map (·.2)\/vs=(l.map (·.2)).reverse)->R vs {s with heap:=h',toks:=tk,drawn:=dr}):
  ak (aA prog w) A (collect (.ref D)) R E s:=by
 have V1:D<s.heap.objs.size:=uv HK λu u u z=>aY z.1;refine ao (kR (eF entry_proto_collect' ?_));show ak _ A.in1 (newList []>>=λl=>again (.builtin "list.__iadd__" ⟨[l, .ref D],[]⟩)) _ _ s;refine sf (λu=>dg) ?_;refine ay ⟨d8 rG _,eF entry_list_iadd' ?_⟩;have xS:(s.heap.push {cls:= .type "list",data:= .seq ([]:O af).toArray}).get? s.heap.objs.size=some {cls:= .type "list",data:= .seq #[]}:=a8 _ rfl;show ak _ A.in1 (iI (.ref s.heap.objs.size) (.ref D) (.ref s.heap.objs.size)) _ _ _
 have key:=KH (prog:=prog) (w:=w) (A:=A) (s:={s with heap:=s.heap.push {cls:= .type "list",data:= .seq ([]:O af).toArray}}) (D:=D) (l:=l) (S:=s.heap.objs.size) (res:= .ref s.heap.objs.size) (c₀:=0)
  (R:=λ(q:dl) (s':ai)=>∃ (h':aq) (tk:aa) (dr:_) (J:aB af) (c':aa) (order:O af),q= .ok (.ret (.ref s.heap.objs.size))/\s'={s with heap:=h',toks:=tk,drawn:=dr}/\
   Kept s.heap h'/\h'.get? s.heap.objs.size=some {cls:= .type "list",dict:=none,data:= .seq J c',slots:= #[]}/\(order=l.map (·.2)\/order=(l.map (·.2)).reverse)/\f8 (λi v=>order[i]?=some v) J l.length)
  hh (HK.keep λo e=>aS _ e) hn (cy V1) xS
  (λh' tk dr J c' order ho hk hS' U=>⟨h',tk,dr,J,c',order,rfl,rfl,λb o e=>hk b o (bu (aY e)) (aS _ e),hS',ho,U⟩)
 have same:∀ {J:aB af} {order:O af},(order=l.map (·.2)\/order=(l.map (·.2)).reverse)->f8 (λi v=>order[i]?=some v) J l.length->J.toList=order:=λ{J order} ho ha=>by
  have hl:order.length=l.length:=by rcases ho with e|e<;>rw[e]<;>simp
  refine jQ λi=> ?_;cases hv:J[i]? with
  |some v=>rw[bL,hv];exact(ha.2 i v hv).symm
  |none=>
   rw[bL,hv];have:l.length<=i:=by rw[<-ha.1];exact nY.mp hv
   rw[d9 (hl▸this)]
 refine aO key (λfin s' x=> ?_) λe s' x=> ?_
 ·cases fin with
  |done f=>
   obtain⟨h',tk,dr,J,c',order,e,rfl,hk,hS',ho,U⟩:=x;cases e;refine sf (λu=>fI hS') ?_;exact ay (h h' tk dr J.toList hk (by rw[same ho U];exact ho))
  |again c₁=>
   refine⟨x.1,dO x.2 λq s₂ y=> ?_⟩;obtain⟨h',tk,dr,J,c',order,rfl,rfl,hk,hS',ho,U⟩:=y;refine sf (λu=>fI hS') ?_;exact ay (h h' tk dr J.toList hk (by rw[same ho U];exact ho))
 ·obtain⟨_,_,_,_,_,_,e',_⟩:=x
  cases e'
end
end
section
theorem O8:((bg 70).all λi=>(bg 70).all λj=>match sV i,sV j with|some x,some y=>decide (x.cps.toList<y.cps.toList)==decide (i<j)|_,_=>true)=true:=by decide+kernel
theorem Rw:strTab.length<=70:=by decide+kernel
theorem GA{a:aa}{x:am}(h:sV a=some x):a<70:=by
 unfold sV at h
 have:a<strTab.length:=by
  rcases aa.lt_or_ge a strTab.length with z|z
  ·exact z
  ·rw[d9 z] at h;cases h
 exact bw this Rw
theorem W5{a b:aa}{x y:am}(ha:sV a=some x)(J:sV b=some y):decide (x.cps.toList<y.cps.toList)=decide (a<b):=by
 have h:=O8;rw[bh] at h
 have h1:=h a (b5.mpr (GA ha));rw[bh] at h1
 have h2:=h1 b (b5.mpr (GA J));rw[ha,J] at h2
 exact eq_of_beq h2
section
variable{prog:a9}{w:a0}{A:az}{E:VS}{s:ai}
def xg(h:aq)(x:ag)(i:ae)(c:aa)(k:ae):Prop:=∃ t y u v,sV c=some y/\bW h x #[.int i t, .str y u, .int k v]
theorem xg.out{h:aq}{x:ag}{i k:ae}{c:aa}(p:xg h x i c k){P:Prop}(f:∀ t y u v o n,sV c=some y->h.get? x=some o->o.cls= .type "tuple"->o.data= .seq #[.int i t, .str y u, .int k v] n->P):P:=by
 obtain⟨t,y,u,v,hy,o,ho,hc,n,J⟩:=p;exact f _ _ _ _ _ _ hy ho hc J
theorem Zd{x y:ag}{i j:ae}{c d:aa}{k l:ae}(hx:xg s.heap x i c k)(hy:xg s.heap y j d l){Q:aj->ai->Prop}(h:Q (vH (.tup [.int i, .str c, .int k]) (.tup [.int j, .str d, .int l])) s):
  ak (aA prog w) A (keyLt' (tuples' true) (.ref x) (.ref y)) Q E s:=by
 refine hx.out λt1 sx u1 v1 ox nx hc J v dx=>hy.out λt2 sy u2 v2 oy ny U hoy v dy=> ?_;have h:Q (if(i==j)=true then(if(c==d)=true then decide (k<l) else decide (c<d)) else decide (i<j)) s:=h
 refine kat_lt J dx hoy dy ?_;refine kX (kJ (kY (λe1=> ?_) (λe1=> ?_)))
 ·rw[aN e1] at h
  refine kZ (kX (n7 (kY (λe2=> ?_) (λe2=> ?_))))
  ·have e3:sx=sy:=aP e2
   have e4:(c==d)=true:=bl.mpr ((vP hc U).mp e3);rw[aN e4] at h
   refine kZ (kX (kJ (kY (λe5=> ?_) (λe5=> ?_))))
   ·have:k=l:=eq_of_beq e5
    subst this;refine kZ (kat_nil ?_)
    simpa using h
   ·refine k6 ?_
    refine kat_one _ _ (jE ?_);exact h
  ·have e3:sx≠sy:=jk e2
   have e4:¬ (c==d)=true:=λz=>e3 ((vP hc U).mpr (eq_of_beq z));rw[aI e4] at h
   refine k6 ?_;refine kat_one _ _ (lt_str ?_);rw[W5 hc U];exact h
 ·rw[aI (by rw[e1];decide)] at h
  refine k6 ?_;exact oneLt_int h
end
section
variable{prog:a9}{w:a0}{A:az}{E:VS}{s:ai}
abbrev Lit:=ae×aa×ae
noncomputable def Lit.v(l:Lit):V:= .tup [.int l.1, .str l.2.1, .int l.2.2]
abbrev GB(h:aq)(p:Lit×ag):Prop:=xg h p.2 p.1.1 p.1.2.1 p.1.2.2
theorem xg.keep{h h':aq}{x:ag}{i k:ae}{c:aa}(p:xg h x i c k)(hk:∀ o,h.get? x=some o->h'.get? x=some o):xg h' x i c k:=by
 refine p.elim λt J=>J.elim λy J=>J.elim λu J=>J.elim λv J=>J.elim λa J=>J.elim λo J=> ?_;have ho:=J.1;have r:=J.2;exact⟨t,y,u,v,a,o,hk o ho,r⟩
def EP(p q:Lit×ag):O (Lit×ag):=if vH q.1.v p.1.v then[q,p] else[p,q]
def y3:O (Lit×ag)->O (Lit×ag)
 |[]=>[]
 |p::r=>match r with|[]=>[p]|q::r=>EP p q++r
theorem Rx(p q:Lit×ag):(EP p q).length=2:=by
 unfold EP;cases vH q.1.v p.1.v<;>rfl
theorem IG(ps:O (Lit×ag)):(y3 ps).length=ps.length:=match ps with
 |[]=>rfl
 |[_]=>rfl
 |p::q::r=>by
  show(EP p q++r).length=_;rw[bv,Rx,gw];rfl
theorem Ry:∀ ps:O (Lit×ag),ps.length<2->y3 ps=ps
 |[]=>λz=>rfl
 |p::r=>match r with
  |[]=>λz=>rfl
  |_::_=>λh=>aC h (jl (cF 2 _))
theorem Rz(vs:O af):(arrOf (oV general' (vs.toArray.zip vs.toArray) #[] 7 none)).map (·.2)=vs.toArray:=by
 show(vs.toArray.zip vs.toArray).map (·.2)=_
 apply el;simp;exact oW (aU _)
theorem Ze{α:Type}{ps:O α}(h:ps.length=2):∃ p q,ps=[p,q]:=by
 cases ps with
 |nil=>cases h
 |cons p ps=>cases ps with
  |nil=>cases h
  |cons q ps=>cases ps with
   |nil=>exact⟨p,q,rfl⟩
   |cons _ _=>cases h
theorem RA{a:ag}{n:aa}{ps:O (Lit×ag)}{P:kU->ai->Prop}(ho:s.heap.get? a=some (seqObj "list" (ps.map λp=>a7 p.2).toArray n))(hl:∀ p∈ps,GB s.heap p)(hna:∀ p∈ps,p.2≠a)(hn:ps.length<=2)
  (h:P (.done (.ret .none)) {s with heap:=sortedHeap s.heap a (ps.map λp=>a7 p.2) ((y3 ps).map λp=>a7 p.2).toArray}):
  ak (aA prog w) A (bq.«list.sort» ⟨[.ref a],[]⟩) P E s:=by
 generalize hvs:(ps.map λp=>a7 p.2)=vs at ho h
 have U:vs.length=ps.length:=by rw[<-hvs];simp
 rw[list_sort_plain];have ha:a<s.heap.objs.size:=aY ho;refine sf (λz=>listItems_at ho rfl) ?_;refine ao (k7 ho rfl ?_ (aw (bF U) (aw hn (by decide))) (cg _))
 obtain⟨e1,ho1⟩:∃ e1,(s.heap.update a (dv λz=> #[])).get? a=some (seqObj "list" #[] e1):=⟨_,get?_update_seq ho (λz=> #[])⟩;refine sf (λz=>k8 ho1 rfl) ?_;refine ao (gS ?_ (aw (bF U) (aw hn (by decide))))
 refine ao (fx ?_ (cg _));refine bd ?_
 have J:(((s.heap.update a (dv λz=> #[])).push (seqObj "tuple" vs.toArray 0)).push (seqObj "list" #[] 0)).get? a=some (seqObj "list" #[] e1):=by
  rw[oX _ _ _ (by rw[size_push',oY];exact bu (fF ha)),oX _ _ _ (by rw[oY];exact bu ha)]
  exact ho1
 dsimp only
 have up:∀ p∈ps,GB (((s.heap.update a (dv λz=> #[])).push (seqObj "tuple" vs.toArray 0)).push (seqObj "list" #[] 0)) p:=λp hp=>(hl p hp).keep λo e=>
  aS _ (aS _ ((b8 _ _ (bz (hna p hp))).trans e))
 generalize hH:((s.heap.update a (dv λz=> #[])).push (seqObj "tuple" vs.toArray 0)).push (seqObj "list" #[] 0)=H at J up⊢
 by_cases h2:vs.toArray.size<2
 ·rw[aN h2,aN h2]
  refine sP ?_;refine sP ?_;dsimp only;refine sf (λz=>k8 J rfl) ?_
  have hz:(arrOf (oV general' (vs.toArray.zip vs.toArray) #[] 7 none)).map (·.2)=((y3 ps).map λp=>a7 p.2).toArray:=by
   have h3:ps.length<2:=U▸h2;rw[Ry ps h3,hvs];exact Rz vs
  rw[hz];refine ao (k7 J rfl ?_ (cg _) (by rw[ii,aH,IG];exact aw hn (by decide)))
  simp only[eE,bN,bE];exact ay (by subst hH;exact h)
 ·rw[aI h2,aI h2]
  have h3:ps.length=2:=gW hn (U▸ec h2);obtain⟨p,q,rfl⟩:∃ p q,ps=[p,q]:=Ze h3;subst hvs;have hp:=up p (.head _);have hq:=up q (.tail _ (.head _));obtain⟨t1,t2,hK⟩:∃ t1 t2,KatTups H [.ref p.2, .ref q.2] [.int p.1.1 t1, .int q.1.1 t2]:=hp.out λz z z z z z z ho hc hd=>hq.out λz z z z z z z ho' hc' hd'=>⟨_,_, .cons ho hc hd rfl (.cons ho' hc' hd' rfl .nil)⟩;refine ao (kat_kind (T:= .type "int") (vs:=[.ref p.2, .ref q.2]) hK (cV rfl) (λv hv=> ?_) (by decide) ?_)
  ·have:∃ i t,v= .int i t:=by
    rcases aW.mp hv with rfl|hv
    ·exact⟨_,_,rfl⟩
    ·rw[aR.mp hv];exact⟨_,_,rfl⟩
   obtain⟨i,t,rfl⟩:=this;exact .of_pure rfl
  have hkd:(bU "int"!=bU "tuple")=true:=by decide
  refine ao (aO (kat_run (κ:=tuples' true) (ks:=[.ref p.2, .ref q.2]) (vs:=[.ref p.2, .ref q.2]) (Q:=λst' s'=>s'={s with heap:=H}/\(arrOf st').map (·.2)=((y3 [p,q]).map λp=>a7 p.2).toArray/\failedOf st'=none)
   (G:=λpm s'=>s'={s with heap:=H}/\pm=if vH q.1.v p.1.v then #[1,0] else #[0,1])
   rfl (aU _) (cV rfl) (λpm st' s' b1 b2 b3 b4=>⟨b4.1, ?_,b3⟩) ?_) ?_ λz z e=>e)
  ·rw[kat_snds rfl b2,b4.2]
   show _=O.toArray (eJ _ ((if vH q.1.v p.1.v=true then[q,p] else[p,q])++[]))
   cases vH q.1.v p.1.v<;>rfl
  ·show ak (aA prog w) A (keyLt' (tuples' true) (.ref q.2) (.ref p.2)) _ _ _
   refine Zd hq hp ?_;cases hb:vH (.tup [.int q.1.1, .str q.1.2.1, .int q.1.2.2]) (.tup [.int p.1.1, .str p.1.2.1, .int p.1.2.2]) with
   |true=>exact⟨rfl,by rw[aN (show vH q.1.v p.1.v=true from hb)];simp only[ij,O.length_nil,ia];decide+kernel⟩
   |false=>exact⟨rfl,by rw[aI (show ¬ vH q.1.v p.1.v=true from by rw[show vH q.1.v p.1.v=false from hb];decide)];rfl⟩
  ·rintro⟨⟨⟩,st'⟩ s' ⟨rfl,hz,hf⟩
   refine sf (λz=>k8 J rfl) ?_;rw[hz];refine ao (k7 J rfl ?_ (cg _) (by rw[ii,aH,IG,oH];simp))
   rw[hf];simp only[eE,bN,bE];exact ay (by subst hH;exact h)
end
section
variable{d:aa}{A:az}{X:O ag}{C:Cx}{σ:Ob}{s:ai}{sc:Sc}{F:Fn}{env:aD}{l:Loc}
def AZ(p:Lit):O (ae ⊕ am):=[.inl p.1, .inr ((sV p.2.1).getD ⟨#[]⟩), .inl p.2.2]
def keyOf(p:Lit×ag):Key:=(AZ p.1,p.2)
theorem RB{prog:a9}{w:a0}{h:aq}{p:Lit×ag}(a:GB h p):cj (ug prog w) h (keyOf p).1 (keyOf p).2:=by
 refine a.elim λt J=>J.elim λy J=>J.elim λu J=>J.elim λv J=>J.elim λhc J=>J.elim λo J=>J.elim λho J=>J.elim λU J=>J.elim λn hd=> ?_;refine⟨o,_,n,ho,U,hd, ?_⟩;show fR (ug prog w) [.inl p.1.1, .inr ((sV p.1.2.1).getD ⟨#[]⟩), .inl p.1.2.2] _;rw[hc];exact .cons (by simp[ug,Aq,fQ]) (.cons (by simp[ug,Aq,kI]) (.cons (by simp[ug,Aq,fQ]) .nil))
theorem Mw{P:V->Prop}{x:V}(h:isLit x=true)(q:∀ i c k,P (.tup [.int i, .str c, .int k])):P x:=by
 cases x with
 |tup xs=>
  cases xs with
  |nil=>exact ff h
  |cons x xs=>cases xs with
   |nil=>exact ff h
   |cons y xs=>cases xs with
    |nil=>exact ff h
    |cons z xs=>cases xs with
     |cons _ _=>exact ff h
     |nil=>
      have h:=rY (h:(tJ x&&(BW y&&tJ z))=true);refine vn (P:=λx=>P (.tup [x,y,z])) h.1 λi=>vn (P:=λz=>P (.tup [.int i,y,z])) (rY h.2).2 λk=> ?_;cases y with
      |str c=>exact q i c k
      |_=>exact ff (rY h.2).1
 |_=>exact ff h
def Db(h:aq)(C:Cx)(xs:O V)(vs:O af):Prop:=∃ ps:O (Lit×ag),xs=ps.map (·.1.v)/\vs=ps.map (λp=>a7 p.2)/\∀ p∈ps,GB h p/\sg h C p.1.v (.ref p.2)
theorem Db.cons{h:aq}{i:ae}{c:aa}{k:ae}{xs:O V}{v:af}{vs:O af}(a:sg h C (.tup [.int i, .str c, .int k]) v)(r:Db h C xs vs):Db h C (.tup [.int i, .str c, .int k]::xs) (v::vs):=
 a.out (P:=λv=>sg h C (.tup [.int i, .str c, .int k]) v->Db h C (.tup [.int i, .str c, .int k]::xs) (v::vs)) (λb its n t w a=>r.elim λps r=>⟨((i,c,k),b)::ps,av (_:: ·) r.1,av (_:: ·) r.2.1,λp hp=>(aW.mp hp).elim (λe=>e▸⟨
  w.out (P:=λl=>its.toList=l->xg h b i c k) (λx x e1 w=>e1.out (P:=λv1=>its.toList=v1::_->xg h b i c k) λJ=>w.out (P:=λl=>its.toList=_::l->xg h b i c k) λx x e2 w=>e2.out (P:=λv2=>its.toList=_::v2::_->xg h b i c k) λy u hy=>w.out (P:=λl=>its.toList=_::_::l->xg h b i c k) λx x U w=>U.out (P:=λv3=>its.toList=_::_::v3::_->xg h b i c k) λz=>w.out (P:=λl=>its.toList=_::_::_::l->xg h b i c k) λe=>⟨J,y,u,z,hy,(el e:its= #[.int i J, .str y u, .int k z])▸t⟩) rfl,a⟩) (r.2.2 p)⟩) a
theorem W6{h:aq}{xs:O V}{vs:O af}(e:su h C xs vs):xs.all isLit=true->Db h C xs vs:=
 e.ind (P:=λxs vs=>xs.all isLit=true->Db h C xs vs) (λz=>⟨[],rfl,rfl,λz hp=>aC hp ba⟩) λ{x xs v vs} a z J hx=>Mw (P:=λx=>sg h C x v->Db h C (x::xs) (v::vs)) (rY hx).1 (λz z z a=> .cons a (J (rY hx).2)) a
theorem RC{p q:Prop}[gR p][gR q](h:p/\¬q\/q/\¬p):decide p= !decide q:=h.elim (λl=>by rw[aX l.1,cn l.2];rfl) λl=>by rw[aX l.1,cn l.2];rfl
theorem Uz{a b:aa}(h:a≠b):decide (a<b)= !decide (b<a):=RC ((aa.lt_or_gt_of_ne h).imp (λl=>⟨l,oZ l⟩) λl=>⟨l,oZ l⟩)
theorem KI{a b:ae}(h:a≠b):decide (a<b)= !decide (b<a):=RC ((ae.lt_or_gt_of_ne h).imp (λl=>⟨l,d5.mpr (fu l)⟩) λl=>⟨l,d5.mpr (fu l)⟩)
theorem W7{p q:Lit}(h:p≠q):vH p.v q.v= !vH q.v p.v:=by
 obtain⟨a,b,c⟩:=p;obtain⟨J,U,c'⟩:=q;show(if(a==J)=true then(if(b==U)=true then decide (c<c') else decide (b<U)) else decide (a<J))= !(if(J==a)=true then(if(U==b)=true then decide (c'<c) else decide (U<b)) else decide (J<a))
 by_cases ha:a=J
 ·subst ha
  by_cases hb:b=U
  ·subst hb
   have hc:c≠c':=λe=>h (by rw[e])
   simp only[bC,eZ];exact KI hc
  ·have hb2:U≠b:=bz hb
   simp only[bC,eZ,bS.mpr hb,bS.mpr hb2,bN,bE];exact Uz hb
 ·have ha2:J≠a:=bz ha
  simp only[bS.mpr ha,bS.mpr ha2,bN,bE];exact KI ha
def aaT(v:V):Lit:=(intOf ((Jh v).headD .none),strOf ((Jh v).tail.headD .none),intOf ((Jh v).tail.tail.headD .none))
theorem Nm{p q:Lit}:V.beq p.v q.v=true<->p=q:=⟨λh=>av aaT (V.beq_eq _ h),λh=>by
 subst h;show((p.1==p.1)&&((p.2.1==p.2.1)&&((p.2.2==p.2.2)&&true)))=true;rw[bC,bC,bC];rfl⟩
theorem W8{prog:a9}{h:aq}{p q:Lit×ag}(a:GB h p)(b:GB h q):AZ p.1=AZ q.1<->p.1=q.1:=⟨λe=>a.elim λt a=>a.elim λy a=>a.elim λu a=>a.elim λv a=>b.elim λt' b=>b.elim λJ b=>b.elim λU b=>b.elim λv' b=>by
 unfold AZ at e
 rw[a.1,b.1] at e
 have e1:=dM e;have e2:=dM e1.2;exact fD (je.inj e1.1) (fD ((vP a.1 b.1).mp (eH.inj e2.1)) (je.inj (dM e2.2).1)),λe=>av AZ e⟩
theorem UA{prog:a9}{w:a0}{h:aq}{ps:O (Lit×ag)}{out:O Key}(hl:∀ p∈ps,GB h p)(hH:Holds prog w (ps.map keyOf) out):
  ∃ qs:O (Lit×ag),out=qs.map keyOf/\(∀ q∈qs,q∈ps)/\qs.length<=2/\∀ U,(U=qs\/U=qs.reverse)->(y3 U).map (·.1.v)=w8 (dedup [] (ps.map (·.1.v))):=by
 have dd:∀ x y:V,dedup [] [x,y]=if V.beq y x then[x] else[x,y]:=λx y=>by
  show(if(V.beq y x||false)=true then[x] else[x,y])=_
  rw[dI]
 rcases ps with _|⟨p,_|⟨q,_|⟨r,ps⟩⟩⟩
 ·cases hH
  exact⟨[],rfl,by decide,by decide,λU h=>by rcases h with rfl|rfl<;>rfl⟩
 ·cases hH
  exact⟨[p],rfl,by simp,(cV rfl),λU h=>by rcases h with rfl|rfl<;>rfl⟩
 ·have hk:=W8 (prog:=prog) (hl p (.head _)) (hl q (.tail _ (.head _)))
  have fin:AZ p.1≠AZ q.1->(y3 [p,q]).map (·.1.v)=w8 (dedup [] ([p,q].map (·.1.v)))/\(y3 [q,p]).map (·.1.v)=w8 (dedup [] ([p,q].map (·.1.v))):=λhne=>by
   have J:p.1≠q.1:=λe=>hne (hk.mpr e)
   have hb:V.beq q.1.v p.1.v=false:=by
    cases h:V.beq q.1.v p.1.v with
    |false=>rfl
    |true=>exact aC (Nm.mp h).symm J
   have e1:dedup [] ([p,q].map (·.1.v))=[p.1.v,q.1.v]:=by
    show dedup [] [p.1.v,q.1.v]=_;rw[dd,hb];rfl
   rw[e1];have e2:w8 [p.1.v,q.1.v]=if vH p.1.v q.1.v then[p.1.v,q.1.v] else[q.1.v,p.1.v]:=rfl
   rw[e2];have tri:=W7 J;constructor
   ·show eJ (λx:Lit×ag=>x.1.v) ((if vH q.1.v p.1.v=true then[q,p] else[p,q])++[])=_
    rw[tri];cases vH q.1.v p.1.v<;>rfl
   ·show eJ (λx:Lit×ag=>x.1.v) ((if vH p.1.v q.1.v=true then[p,q] else[q,p])++[])=_
    cases vH p.1.v q.1.v<;>rfl
  cases hH with
  |same _ _ h=>
   have J:p.1=q.1:=hk.mp h;refine⟨[p],rfl,by simp,(cV rfl),λU h=> ?_⟩
   have e1:dedup [] ([p,q].map (·.1.v))=[p.1.v]:=by
    show dedup [] [p.1.v,q.1.v]=_;rw[dd,aN (Nm.mpr J.symm)]
   rw[e1];rcases h with rfl|rfl<;>rfl
  |two _ _ h=>
   refine⟨[p,q],rfl,by simp,(aU _),λU h'=> ?_⟩
   rcases h' with rfl|rfl
   ·exact(fin h).1
   ·exact(fin h).2
  |swap _ _ h=>
   refine⟨[q,p],rfl,by simp,(aU _),λU h'=> ?_⟩
   rcases h' with rfl|rfl
   ·exact(fin h).2
   ·exact(fin h).1
 ·cases hH
end
section
variable{d:aa}{A:az}{X:O ag}{C C':Cx}{σ σ':Ob}{s:ai}{sc:Sc}{F:Fn}{env:aD}{l:Loc}
theorem uj.abB{h h':aq}(k:Kept h h'):uj h C h' C:=⟨λ{a o} z e=>k a o e,λz x=> .inl x,λe=>e⟩
theorem UB{h:aq}{ps zs:O (Lit×ag)}(J:∀ p∈ps,sg h C p.1.v (.ref p.2))(hz:∀ z∈zs,z∈ps):su h C (zs.map (·.1.v)) (zs.map λq=>a7 q.2):=by
 induction zs with
 |nil=>exact .nil
 |cons z zs U=>exact .cons (J z (hz z (.head _))) (U λq hq=>hz q (.tail _ hq))
theorem RD{p q r:Lit×ag}(h:r∈EP p q):r=p\/r=q:=by
 unfold EP at h
 cases J:vH q.1.v p.1.v<;>(rw[J] at h;simp at h)
 ·exact h
 ·exact h.symm
theorem IH{ps:O (Lit×ag)}{r:Lit×ag}(h:r∈y3 ps):r∈ps:=match ps,h with
 |[_],h=>h
 |_::_::_,h=>(aG.mp h).elim (λh=>(RD h).elim (λe=>e▸ .head _) λe=>e▸ .tail _ (.head _)) λh=> .tail _ (.tail _ h)
theorem Mx{A:az}{s1:ai}{U:O (Lit×ag)}{D:ag}{Q:VS}{E:VS}(hh:A.handled=none)(hS:xf (u4 G.w) s1.heap D ((U.map keyOf).map (entryOf pw G.w)))(hq2:U.length<=2)(hl:∀ p∈U,GB s1.heap p)
  (hQ:∀ h' tk dr J a out,(J=U\/J=U.reverse)->Kept s1.heap h'->s1.heap.get? a=none->h'.PlainList a out->out.toList=(y3 J).map (λq=>a7 q.2)->Q (.ref a) {s1 with heap:=h',toks:=tk,drawn:=dr}):ak sB A (call (.builtin "sorted") [.ref D]) Q E s1:=by
 refine nM nN nO nP (nQ _) ?_;refine ao (m:=checkCount "sorted" 1 1 _) (ay (ao (Jc hh hS (by rw[aH,aH];exact hq2) λh2 Ng dr vs k2 Zf=> ?_)))
 rw[show(eJ (entryOf pw G.w) (U.map keyOf)).map (·.2)=U.map λq=>a7 q.2 by rw[bR,bR];rfl] at Zf
 have hv:∃ J,(J=U\/J=U.reverse)/\vs=J.map λq=>a7 q.2:=Zf.elim (λe=>⟨U, .inl rfl,e⟩) λe=>⟨U.reverse, .inr rfl,e.trans eY.symm⟩;refine hv.elim λJ r=> ?_;cases r.2;have hlen:J.length<=2:=r.1.elim (λe=>e▸hq2) λe=>by rw[e,fv];exact hq2
 have hmem:∀ q∈J,GB s1.heap q:=λq hq=>hl q (r.1.elim (λe=>e▸hq) λe=>eX.mp (e▸hq));refine ao (fx ?_ (aw (bF (aH _)) (aw hlen (by decide))))
 have Km:(h2.push (seqObj "list" (J.map λq=>a7 q.2).toArray 0)).get? h2.objs.size=some (seqObj "list" (J.map λq=>a7 q.2).toArray 0):=a8 _ rfl;have kp:Kept s1.heap (h2.push (seqObj "list" (J.map λq=>a7 q.2).toArray 0)):=λb o e=>aS _ (k2 b o e);refine ao (bd (cz nR ⟨_,Km,rfl⟩ nS (RA (ps:=J) Km (λq hq=>(hmem q hq).keep (kp _)) (λq hq=>(hmem q hq).elim λz x=>x.elim λz x=>x.elim λz x=>x.elim λz x=>x.2.elim λo x=>bu (aY (k2 _ _ x.1))) hlen ⟨_,rfl, ?_⟩) (nU _)))
 exact(nV (out:=((y3 J).map λq=>a7 q.2).toArray) Km).elim λe he=>ay ⟨_,rfl,hQ _ _ _ J _ _ r.1 (λb o e=>have hlt:=aY (k2 b o e);(nW (bu hlt) (by rw[cT];exact fF hlt)).trans (kp b o e))
  (match e':s1.heap.get? h2.objs.size with|none=>rfl|some o=>aC (aY (k2 _ _ e')) (bT _)) ⟨_,he⟩ rfl⟩
theorem Ed{xs:O V}{l:ag}{items:aB af}(P:At d A C σ s)(J:s.heap.IsList l items\/s.heap.IsTuple l items)(w:su s.heap C xs items.toList):
  Al (CI xs σ) λr σ'=>ak sB A (call (.type "set") [.ref l]) (λz s1=>ak sB A (call (.builtin "sorted") [z]) (sY X C s (RV) r σ') tg s1) tg s:=Al.guard λhc=>(W6 w (rY hc).1).elim λps r=>by
 cases r.1;have hn:ps.length<=2:=aH (as:=ps) (·.1.v)▸aP (rY hc).2
 have U:∀ {k:Key},k∈ps.map keyOf->∃ p∈ps,keyOf p=k:=bG.mp;refine Ut (vals:=ps.map keyOf) P.A.handled (bw (kS (by decide:10<40) _) (aw (aw (cO (aV _ (40*d)) 40) P.A.units) (by decide))) J (by rw[r.2.1,bR];rfl) (by rw[aH];exact hn) (λk hk=>(U hk).elim λp z=>z.2▸RB (r.2.2 p z.1).1) (λk hk=>(U hk).elim λp z=>z.2▸⟨_,kN _ kM⟩) λh1 tk1 out hS hH k1=> ?_
 refine(UA (λp hp=>(r.2.2 p hp).1) hH).elim λqs g=> ?_;cases g.1;refine Mx P.A.handled hS g.2.2.1 (λp hp=>(r.2.2 p (g.2.1 p hp)).1.keep (k1 _)) λh2 tk dr wT a o hq k2 ha hL hO=>wR P.I (λe=>k2 _ _ (k1 _ _ e)) λS=> ?_;rw[<-g.2.2.2 wT hq];exact .lst (λz=>(P.I.there z).elim λo e=>nomatch ha.symm.trans (k1 _ _ e)) hL (hO▸UB (λp hp=>(r.2.2 p hp).2.step S) λz hz=>g.2.1 z (hq.elim (λe=>e▸IH hz) λe=>eX.mp (e▸IH hz)))
end
section
variable{d:aa}{A:az}{X:O ag}{C C':Cx}{σ σ':Ob}{s:ai}{sc:Sc}{F:Fn}{env:aD}{l:Loc}{α:Type}
theorem UC{J:ME}{k:V->M V}{P:V->Ob->Prop}(h:Al (sR F [J] l σ) λvs σ'=>∀ x,vs=[x]->Al (k x σ') P):Al (M.bind (sR F [J] l) (one k) σ) P:=
 Al.bind (h.imp λvs σ' z=>match vs,z with
  |[x],z=>z x rfl
  |[],_=>ah
  |_::_::_,_=>ah)
theorem KJ{x y:am}{bx by_:af}{a:au}{ma:ME}{p pos p2 J:aK}{b:Bt}{k:V->M V}(N:Names)(hx:sc.kind x=some .globalImplicit)(hd:(x==("__debug__":am))=false)(hv:Means x bx)(hy:sc.kind y=some .globalImplicit)(hd2:(y==("__debug__":am))=false)(hv2:Means y by_)
  (nx:∀ h,Keeps h bx) (ny:∀ h,Keeps h by_) (hs:∀ e∈[a],s9 e) (U:∀ e∈[jc (.Name y p2) [a] [] J],s9 e) (ha:sA d F sc a ma) (hm:∀ l,rZ F (.bt b [ma]) l=M.bind (sR F [ma] l) (one k))
  (hk:∀ {C:Cx} {σ:Ob} {s:ai} {A:az} {v:V} {u:af},At d A C σ s->sg s.heap C v u->Al (k v σ) λr σ'=>ak sB A (call by_ [u]) (λz s1=>ak sB A (call bx [z]) (sY [] C s (RV) r σ') tg s1) tg s):
  sA d F sc (.Call (.Name x p) [.Call (.Name y p2) [a] [] J] [] pos) (.bt b [ma]):=λ{A C σ s env l} H=>by
 rw[hm]
 exact UC ((xe (pos:=J) hs (.cons ha .nil) H).imp λvs σ' w x e=> .intro λr Um er=>ao (vQ N H.env H.I hx hd hv (dL (P:=λh=>Keeps h bx) (by rw[ux U];rfl) (λh hp=>hp) (uy U (by
  refine ao (ao (vQ N H.env H.I hy hd2 hv2 (dL (P:=λh=>Keeps h by_) (by rw[ux hs];rfl) (λh hp=>hp) (uy hs (aO w (λus s1 ok=>sY.casesOn (motive:=λt=>_/\ak _ _ (call by_ ([]++us)) _ _ _) ok λ{C1} N1 q=>⟨ny _, ?_⟩) λt t=>id)))))
  subst e;refine q.1.out (P:=λus=>ak _ _ (call by_ ([]++us)) _ _ _) λu1 r1 g1 g2=>g2.out (P:=λr1=>ak _ _ (call by_ ([]++u1::r1)) _ _ _) ?_;exact aO ((hk (H.next N1).pl g1).get er) (λz s2 h2=>sP (ao (bd (ay (ay ⟨nx _,aO h2 (λt t=>sY.nx N1) λt t=>id⟩))))) λt t=>id)))))
theorem KK{x y:am}{a:au}{ma:ME}{p pos p2 J:aK}(N:Names)(hx:sc.kind x=some .globalImplicit)(hd:(x==("__debug__":am))=false)(hv:Means x (.builtin "sorted"))(hy:sc.kind y=some .globalImplicit)(U:(y==("__debug__":am))=false)(hv2:Means y (.type "set"))
  (hs:∀ e∈[a],s9 e) (hs1:∀ e∈[jc (.Name y p2) [a] [] J],s9 e) (ha:sA d F sc a ma):sA d F sc (.Call (.Name x p) [.Call (.Name y p2) [a] [] J] [] pos) (.bt .u7 [ma]):=
 KJ (k:=DC) N hx hd hv hy U hv2 (λh=>um rfl) (λh=>um rfl) hs hs1 ha (λl=>rfl) λ{C σ s A v u} P hu=>
  sg.casesOn (motive_1:=λv u q=>Al (DC v σ) λr σ'=>ak sB A (call (.type "set") [u]) (λz s1=>ak sB A (call (.builtin "sorted") [z]) (sY [] C s (RV) r σ') tg s1) tg s) hu ah ah ah (λq=>ah)
   (λq t w=>Ed P (.inr t) w) (λq t w=>Ed P (.inl (t.elim λn e=>⟨_,e,rfl,n,rfl⟩)) w) (λq q q=>ah) (λq q q q=>ah) (λq q q=>ah) λq=>ah
theorem O9(ns:O ae):∀ acc:O ae,dedup (acc.map V.int) (ns.map V.int)=(ns.foldl step_dedup acc).map V.int:=by
 induction ns with
 |nil=>exact λz=>rfl
 |cons n ns J=>
  intro acc
  have U:(acc.map V.int).any (V.beq (.int n))=acc.any (·==n):=by
   rw[fS];exact av acc.any (funext λa=>fJ (a:=n) (b:=a))
  show(if(acc.map V.int).any (V.beq (.int n)) then dedup (acc.map V.int) (ns.map V.int) else dedup (acc.map V.int++[.int n]) (ns.map V.int))=(ns.foldl step_dedup (step_dedup acc n)).map V.int
  rw[U];unfold step_dedup;cases acc.any (·==n) with
  |true=>exact J acc
  |false=>exact(av (dedup · (ns.map V.int)) cW.symm).trans (J (acc++[n]))
theorem range_getD(ns:O ae):(bg ns.length).map (λi=>ns.getD i 0)=ns:=O.ext_getElem (by rw[aH,o0]) λi h1 h2=>by
 rw[O.getElem_map,O.getElem_range,pb,br h2];rfl
theorem My{x y:am}{a:au}{ma:ME}{p pos p2 U:aK}(N:Names)(hx:sc.kind x=some .globalImplicit)(hd:(x==("__debug__":am))=false)(hv:Means x (.builtin "len"))(hy:sc.kind y=some .globalImplicit)(hd2:(y==("__debug__":am))=false)(hv2:Means y (.type "set"))
  (hs:∀ e∈[a],s9 e) (hs1:∀ e∈[jc (.Name y p2) [a] [] U],s9 e) (ha:sA d F sc a ma):sA d F sc (.Call (.Name x p) [.Call (.Name y p2) [a] [] U] [] pos) (.bt .yT [ma]):=
 KJ (k:=vm λxs=>M.guard (xs.all tJ&&decide (xs.length<=4)) (M.pure (.int (dedup [] xs).length))) N hx hd hv hy hd2 hv2 (λh=>um rfl) (λh=>um rfl) hs hs1 ha (λl=>rfl) λ{C σ s A v u} P hu=>
  sg.casesOn (motive_1:=λv u q=>Al (vm (λxs=>M.guard (xs.all tJ&&decide (xs.length<=4)) (M.pure (.int (dedup [] xs).length))) v σ) λr σ'=>ak sB A (call (.type "set") [u]) (λz s1=>ak sB A (call (.builtin "len") [z]) (sY [] C s (RV) r σ') tg s1) tg s) hu ah ah ah (λq=>ah)
   (λ{xs a its} q t w=>Al.guard λhc=>(Fh (rY hc).1 w).elim λns e=>by
    cases e.1;have hlen:its.size=ns.length:=bQ.symm.trans e.2.length;have h2:its.size<=4:=hlen▸aH (as:=ns) V.int▸aP (rY hc).2;have hval:∀ (i:aa) (v:af),its[i]?=some v->∃ t,v= .int (ns.getD i 0) t:=λi v hv=>rH e.2 i v (bL.trans hv)
    refine KG (J:=λi h=>h.SetOf (aZ pw G.w) s.heap.objs.size (λk'=>(firstMet (λi=>ns.getD i 0) i).any (·==k')) (firstMet (λi=>ns.getD i 0) i).length) P.A.handled (.inr t)
     (λh0 e=>pc ((setObjOf_fresh (knd:=aZ pw G.w) (u4 G.w)).setOf e (by decide)) (λq=>rfl) rfl)
     (λi h1 h2 hj k=>hj.imp λo=>cK λq=>cK λq=>cK λq=>aT (k _)) (λi v s' Q' E' hv' kp hS' hq=> ?_) λh' tk hS k1=> ?_
    ·refine(hval i v hv').elim λt z=> ?_
     subst z;have h4:i<its.size:=(d7.mp hv').1;exact bd (ao ((aZ pw G.w).pyHash (k:=ns.getD i 0) (pd _ _ _ _) (wpAny_setAddHashed_of (knd:=aZ pw G.w) (s:={s' with toks:=s'.toks+1}) (pd _ _ _ _) rfl hS' (bH (bZ (firstMet_length_le (λi=>ns.getD i 0) i)) (bw (gi h4) (aw (bZ h2) (by decide)))) λh' Nh hS2=>hq _ _ _ (pc hS2 (λk'=>by rw[pe,step_any]) (by rw[pe,step_length])) Nh)))
    ·refine hS.elim λo z=>z.elim λes z=>z.elim λep z=>z.elim λt z=> ?_
     have hb:es.size<4096:=z.2.2.2.2.2.1;refine call_len_set (s:={s with heap:=h',toks:=tk}) z.1 z.2.1 z.2.2.1 z.2.2.2.2.2.2.1 (mE (dz.mpr hb) (by decide)) (wR P.I (k1 _ _) λS=> ?_)
     have Zg:(dedup [] (ns.map V.int)).length=es.size:=by
      refine(av gx (O9 ns [])).trans ?_;rw[aH,z.2.2.2.2.2.2.2,hlen];unfold firstMet;rw[range_getD]
     rw[Zg];exact .int)
   (λq q q=>ah) (λq q q=>ah) (λq q q q=>ah) (λq q q=>ah) λq=>ah
end
end
end
section
open PySem.W PyProof.Rows PySem.Calls Builtin Builtin.ObjectAttr
section
section
variable{prog:a9}{w:a0}{A:az}{E:VS}{h:aq}{g:aB eP}{d:gf}{t:aa}{os:fq}{K:bb}{x C D:ag}{ox:aL}{od:ax aL}{name:am}
set_option tactic.hygienic true in
theorem GD{dx:ag}{tk:bk}{v:af}{es:O bX}{n:aa}{Q:Fin->ai->Prop}(U:h.get? dx=some (dictOf es n))(J:(getL name es).isSome=true)(hz:es.length<=999)
  (hq:∀ h',h'.get? dx=some (dictOf (putL name (eT w.params name) (.str name t) v es) (putN name es n))->(∀ b o,b≠dx->h.get? b=some o->h'.get? b=some o)->Q (.done (.ret .none)) ⟨h',g,d,t+1,os⟩):
  ak (aA prog w) A (storeInDict dx (.str name tk) name v) Q E ⟨h,g,d,t,os⟩:=by
 refine sP (ao (ao (ao (hF (ay (ao (iT (ao (lc U ?_)))))))))
 have c:(!es.any (·.key.isStr name)&&es.any (·.refKey))=false:=by
  unfold getL at J
  split at J
  ·rename_i en he
   rw[ik.mpr ⟨en,O.mem_of_find?_eq_some he,O.find?_some he⟩];rfl
  ·split at J
   ·cases J
   ·rename_i z;rw[jm] at z;rw[z,eN]
 dsimp only[dictOf];have c':(!es.toArray.any (·.key.isStr name)&&es.toArray.any (·.refKey))=false:=by rw[<-pf,<-pf];exact c
 rw[aRefKeyMayBeTheName_at,c'];have D':=cD (aL.putName name (eT w.params name) (.str name t) v) U (by rw[pg];rfl)
 rw[pg] at D'
 refine wpAny_updatePart U ?_
 have hlen:(putL name (eT w.params name) (.str name t) v es).length<=es.length+1:=by
  have:∀ l:O bX,(putL name (eT w.params name) (.str name t) v l).length<=l.length+1:=by
   intro l;induction l with
   |nil=>simp[putL]
   |cons e l ih=>unfold putL;split<;>simp;exact ih
  exact this es
 refine sf (λy=>wpAny_lookBehind D' (pastItsLine_dict (aw hlen (bZ (aw hz (by decide)))))) ?_
 exact ay (hq _ D' λb o hb e=>(b8 _ _ (bz hb)).trans e)
theorem Nn{a:aa}{v:af}{Q:bi->ai->Prop}(F:vp K C D)(X:K.In h)(I:InstAt h x ox C od)(hn:attrName a=some name)
  (hq:∀ tk,ak (aA prog w) A.in1 (rI (.ref x) (.ref C) (.str name tk) name v false) (λfin s'=>fin= .done (.ret .none)/\Q () s') E ⟨h,g,d,t+1,os⟩):
  ak (aA prog w) A (setAttr (.ref x) name v) Q E ⟨h,g,d,t,os⟩:=by
 have J:=rJ;have SE:=rK;refine ao (iT (ao (ao (ao (I.type.at (gg X F.sa _ _ _ _ (λy y e=>e) (bd ?_)))))))
 refine sP (ao (aO (Q:=λy s'=>Q () s') (ee ?_) (λy s' hs=>ay (ay hs)) λy y z=>z));refine jZ J.slot.plain J.entry (@mR (aA prog w) _ _ ⟨h,g,d,t+1,os⟩ "object.__setattr__" "object" "__setattr__" (.ref x) [.str name t,v] [] _ J.kind J.split (F.inst X I _ (.inr (.inr rfl))) (J.args (.ref x) (.str name t) v) ?_);show ak _ _ (bq.«object.__setattr__» ⟨[.ref x, .str name t,v],[]⟩) _ _ _;rw[osa_eq,refuse_eq];refine ao (ao (I.type.at (ao ((F.mro X _).at ?_))))
 refine ay (ao (I.type.at (ao ((gg X (F.no a name hn)).at (sP ?_)))))
 refine aO (hq t) (λfin s' U=> ?_) λy y z=>z;obtain⟨rfl,U⟩:=U;exact U
end
section
variable{prog:a9}{w:a0}{A:az}{E:VS}{h:aq}{g:aB eP}{d:gf}{t:aa}{os:fq}{K:bb}{x C D:ag}{name:am}
noncomputable abbrev wJ(w:a0)(name:am)(t:aa)(v:af):bX:=⟨eT w.params name, .str name t,v⟩
theorem KL{a:aa}{v:af}{es:O bX}{n dx:aa}{dat:cJ}{Q:bi->ai->Prop}(F:vp K C D)(X:K.In h)(hx:h.get? x=some ⟨.ref C,some dx,dat, #[]⟩)(J:notCls ⟨.ref C,some dx,dat, #[]⟩=true)(hd:h.get? dx=some (dictOf es n))(hn:attrName a=some name)(hl:(getL name es).isSome=true)(hz:es.length<=999)
  (hq:∀ h',h'.get? dx=some (dictOf (putL name (eT w.params name) (.str name (t+1)) v es) (putN name es n))->(∀ b o,b≠dx->h.get? b=some o->h'.get? b=some o)->Q () ⟨h',g,d,t+2,os⟩):
  ak (aA prog w) A (setAttr (.ref x) name v) Q E ⟨h,g,d,t,os⟩:=by
 have I:W.InstAt h x ⟨.ref C,some dx,dat, #[]⟩ C (some (dictOf es n)):=⟨hx,rfl,J,hd⟩;refine Nn F X I hn λtk=> ?_;obtain⟨cd,hc,U⟩:=any_some F.dict;refine sP (ao (ao (lc hx (ao ((jY X hc).here ?_)))));rw[U];refine ay (a:=some dx) (GD hd hl hz λh' h1 h2=>⟨rfl,hq h' h1 h2⟩)
theorem Jd{a:aa}{v:af}{vs:aB af}{Q:bi->ai->Prop}(F:vp K C D)(X:K.In h)(hx:h.get? x=some ⟨.ref C,none, .fields vs, #[]⟩)(hn:attrName a=some name)
  (hq:∀ h',h'.get? x=some ⟨.ref C,some h.objs.size, .fields vs, #[]⟩->h'.get? h.objs.size=some (dictOf [wJ w name (t+1) v] 1)->(∀ b o,b≠x->h.get? b=some o->h'.get? b=some o)->Q () ⟨h',g,d,t+2,os⟩):
  ak (aA prog w) A (setAttr (.ref x) name v) Q E ⟨h,g,d,t,os⟩:=by
 have I:W.InstAt h x ⟨.ref C,none, .fields vs, #[]⟩ C none:=⟨hx,rfl,rfl,trivial⟩;refine Nn F X I hn λtk=> ?_;obtain⟨cd,hc,U⟩:=any_some F.dict;refine sP (ao (ao (lc hx (ao ((jY X hc).here ?_)))));rw[U];have V3:=aS (h:=h) {cls:= .type "dict",data:= .dict #[]} hx;have J:x≠h.objs.size:=bu (aY hx);refine ao (wpAny_alloc' (ao (wpAny_update' V3 (ay ?_))))
 have hD:((h.push {cls:= .type "dict",data:= .dict #[]}).update x λo=>{o with dict:=some h.objs.size}).get? h.objs.size=some (dictOf [] 0):=
  (ph _ _ _ _ J.symm).trans (jn rfl rfl)
 have hX:((h.push {cls:= .type "dict",data:= .dict #[]}).update x λo=>{o with dict:=some h.objs.size}).get? x=some ⟨.ref C,some h.objs.size, .fields vs, #[]⟩:=cD _ V3 rfl
 refine GD hD rfl (by simp) λh' h1 h2=>⟨rfl,hq h' (h2 _ _ J hX) h1 λb o hb e=>h2 b o (bu (aY e)) ((ph _ _ _ _ hb).trans (aS _ e))⟩
end
end
section
theorem KM:typeOf (.builtin "Exception.__init__")=pure (.type "wrapper_descriptor"):=by kernel_rfl
theorem Fj:gU "wrapper_descriptor" "__get__" "wrapper_descriptor.__get__":= .of (owner:="wrapper_descriptor") (n:="__get__") (by rw[gp,gq];kernel_rfl) (by decide+kernel) (by decide+kernel) (by decide+kernel)
 (by first|exact .inl (by decide+kernel)|exact .inr (by decide+kernel)) (by rw[gv];kernel_rfl)
theorem KN:entryFor table "wrapper_descriptor.__get__"=some bq.«wrapper_descriptor.__get__»:=kE (by kernel_rfl)
theorem Mz(a b c:af):argsOk "wrapper_descriptor.__get__" ⟨[a,b,c],[]⟩:=by unfold argsOk;kernel_rfl
noncomputable abbrev u5(x:ag):aL:={cls:= .type "method-wrapper",dict:=none,data:= .fields #[.builtin "Exception.__init__", .ref x],slots:= #[]}
section
variable{prog:a9}{w:a0}{A:az}{E:VS}{h:aq}{g:aB eP}{d:gf}{t:aa}{os:fq}{K:bb}{x C D so:ag}{ox:aL}{od:ax aL}{name:am}
theorem Zh{Q:Fin->ai->Prop}(hx:h.get? x=some ox)(hc:ox.cls= .ref C)(hs:bO (aA prog w) h (isSubtype (.ref C) (.type "Exception")) true)
  (J:Q (.done (.ret (.ref h.objs.size))) ⟨h.push (u5 x),g,d,t,os⟩):
  ak (aA prog w) A (bq.«wrapper_descriptor.__get__» ⟨[.builtin "Exception.__init__", .ref x, .ref C],[]⟩) Q E ⟨h,g,d,t,os⟩:=by
 have e1:("Exception.__init__".cutAt '.')=["Exception","__init__"]:=by first|rfl|decide+kernel
 have e2:(".".intercalate ["Exception","__init__"].dropLast)="Exception":=by decide+kernel
 unfold bq.«wrapper_descriptor.__get__»
 repeat (first|(with_reducible refine fk hx ?_;rw[hc])|(with_reducible refine bO.at hs ?_)|(rw[e1,e2];with_reducible refine bO.at hs ?_)|wp_step|dsimp only)
 all_goals exact J
theorem FR{J l:O af}{tk:bk}{Q:Fin->ai->Prop}
  (U:h.get? so=some {cls:= .type "super",dict:=none,data:= .fields #[.ref D, .ref x, .ref C],slots:= #[]}) (hno:bO (aA prog w) h (opaqueClassAbove (.ref C)) none)
  (hC:bO (aA prog w) h (mroOf (.ref C)) J) (hl:(J.dropWhile (·!= .ref D)).drop 1=l) (X:K.In h) (hx:h.get? x=some ox) (hc:ox.cls= .ref C) (hs:bO (aA prog w) h (isSubtype (.ref C) (.type "Exception")) true)
  (hf:alongIn K name l=some (some (.builtin "Exception.__init__"))) (hxC:x≠C) (hn:(name==("__class__":am))=false)
  (hq:Q (.done (.ret (.ref h.objs.size))) ⟨h.push (u5 x),g,d,t,os⟩):
  ak (aA prog w) A (bq.«super.__getattribute__» ⟨[.ref so, .str name tk],[]⟩) Q E ⟨h,g,d,t,os⟩:=by
 have hlk:=Fj.lookup;have hne:(a7 x==a7 C)=false:=by simp[hxC]
 have hTf:(⟨h,g,d,t,os⟩:ai).TypeIs (.builtin "Exception.__init__") "wrapper_descriptor":=KM;have hdt:({cls:= .type "super",dict:=none,data:= .fields #[.ref D, .ref x, .ref C],slots:= #[]}:aL).data= .fields #[.ref D, .ref x, .ref C]:=rfl;have f0:(#[.ref D, .ref x, .ref C]:aB af)[0]?=some (.ref D):=rfl;have f1:(#[.ref D, .ref x, .ref C]:aB af)[1]?=some (.ref x):=rfl;have f2:(#[.ref D, .ref x, .ref C]:aB af)[2]?=some (.ref C):=rfl
 repeat (first
  |(with_reducible refine bJ U hdt f0 ?_)|(with_reducible refine bJ U hdt f1 ?_)|(with_reducible refine bJ U hdt f2 ?_)
  |(with_reducible refine ks_wpAny_notOpaque hno ?_)
  |(with_reducible refine bO.at hC ?_;rw[hl])
  |(refine ks_forIn_along X (λz z=>rfl) rfl ?_ hf)
  |(with_reducible refine d4 hTf ?_)
  |(with_reducible refine cz Fj hTf KN ?_ (Mz _ _ _))
  |(with_reducible refine Zh hx hc hs ?_)
  |(with_reducible refine⟨_,rfl, ?_⟩)
  |(simp only[hn,hne,dI,bN,bE])
  |wp_step
  |dsimp only)
 all_goals exact hq
theorem Be{J l:O af}{pl:aM aj}{Q:af×O af->ai->Prop}
  (U:h.get? so=some {cls:= .type "super",dict:=none,data:= .fields #[.ref D, .ref x, .ref C],slots:= #[]}) (hno:bO (aA prog w) h (opaqueClassAbove (.ref C)) none)
  (hC:bO (aA prog w) h (mroOf (.ref C)) J) (hl:(J.dropWhile (·!= .ref D)).drop 1=l) (X:K.In h) (hx:h.get? x=some ox) (hc:ox.cls= .ref C) (hs:bO (aA prog w) h (isSubtype (.ref C) (.type "Exception")) true)
  (hf:alongIn K name l=some (some (.builtin "Exception.__init__"))) (hxC:x≠C) (hn:(name==("__class__":am))=false)
  (hq:Q (.ref h.objs.size,[]) ⟨h.push (u5 x),g,d,t+1,os⟩):
  ak (aA prog w) A (getMethod (.ref so) name pl) Q E ⟨h,g,d,t,os⟩:=by
 have hlk:=lf.lookup;have hcan:=rL;have hT:∀ t',(⟨h,g,d,t',os⟩:ai).TypeIs (.ref so) "super":=λy=>⟨_,U,rfl⟩;refine sf (λy=>iS (hT _) hlk) ?_;show ak _ _ (if(rM "super.__getattribute__"!="object.__getattribute__")=true then _ else _) _ _ _
 refine iy hcan ?_;refine ao (ao (iT (bd (ao (d4 (hT _) (ao (eS hlk ?_)))))));show ak _ _ (getAttrByItsOwn (.ref so) (.str name t) (.type "super") (.builtin "super.__getattribute__") true false) _ _ _;refine sf (λy=>eS (show(if onTheHeap (.type "super") then typeLookup (.type "super") "__getattr__" else pure none)=pure none from rfl)) ?_
 refine ao (eD (bd ?_));refine sf (λy=>eS (lf.bind _)) ?_
 refine aO (Q:=λv s'=>v= .ref h.objs.size/\s'=⟨h.push (u5 x),g,d,t+1,os⟩) (E:=λy y=>bM)
  (cz lf (hT _) rN (FR U hno hC hl X hx hc hs hf hxC hn ⟨_,rfl,rfl,rfl⟩) (rO _ _)) (λv s' hv=> ?_) λy y z=>z.elim
 obtain⟨rfl,rfl⟩:=hv;exact ay (ay hq)
end
section
variable{prog:a9}{w:a0}{A:az}{E:VS}{h:aq}{g:aB eP}{d:gf}{t:aa}{os:fq}{K:bb}{x C D so q:ag}{ox:aL}{od:ax ag}{name:am}
theorem FT{rest:O af}{Q:bi->ai->Prop}{M:ce}{U:aL}{cd:dU}(X:K.In h)(F:vp K C D)(hx:h.get? x=some ox)(hc:ox.cls= .ref C)(hC:h.get? C=some U)(J:U.data= .cls cd)(hs:bO M h (isSubtype (.ref C) (.type "Exception")) true)(hq:Q () ⟨h,g,d,t,os⟩):
  ak M A (checkBoundCall "Exception.__init__" ⟨.ref x::rest,[]⟩) Q E ⟨h,g,d,t,os⟩:=by
 have Zi:=lh.initRow;unfold checkBoundCall
 repeat (first|(with_reducible refine fk hx ?_;rw[hc])|(with_reducible refine fI hC ?_;rw[J])|(with_reducible refine bO.at hm ?_)|(with_reducible refine bO.at hs ?_)|wp_step)
 refine ki ?_
 rw[show ∀ (a b:bc) (n:aa),Bind.check ⟨.positional,"*","Exception", .self,[⟨"args", .varPos,false⟩]⟩ a b n (eJ (λx=>x.fst) ({pos:=a7 x::rest}:Args).kw)=pure () from
  λa b n=>check_star_args _ _ _ _ _ _]
 exact ay hq
theorem HL{M:ce}(J:h.get? q=some (u5 x)):bO M h (keeperOf (.ref q)) .machine:=by
 intro A Q E s k U;refine sf (λz=>fI (k _ _ J)) ?_;exact ay U
theorem KO{rest:O af}{Q:VS}{oC:aL}{cd:dU}{vs:aB af}{sl:aB (ax af)}{t0:ag}(X:K.In h)(F:vp K C D)(hw:h.get? q=some (u5 x))(hx:h.get? x=some ⟨.ref C,od, .fields vs,sl⟩)(h0:vs[0]?=some (.ref t0))(hC:h.get? C=some oC)(J:oC.data= .cls cd)
  (hs:bO (aA prog w) h (isSubtype (.ref C) (.type "Exception")) true) (hl:rest.length<=8)
  (hQ:Q .none ⟨(h.push {cls:= .type "tuple",data:= .seq rest.toArray}).update x (cr (·.setIfInBounds 0 (.ref h.objs.size))),g,d,t,os⟩):
  ak (aA prog w) A (call (.ref q) rest) Q E ⟨h,g,d,t,os⟩:=by
 refine ee (g9 ?_);show ak _ _ (callAny (.ref q) ⟨rest,[]⟩) _ _ _;refine sf (λz=>fI hw) ?_;have c1:(bU "method-wrapper"==bU "method")=false:=by decide+kernel
 have c2:(bU "method-wrapper"==bU "builtin_function_or_method")=false:=by decide+kernel
 have c3:(bU "method-wrapper"!=bU "method")=true:=by decide+kernel
 dsimp only;refine sf (λz=>FT X F hx rfl hC J hs) ?_;refine ay ⟨d8 lh.init.plain _,eF lh.initEntry ?_⟩;show ak _ _ (bq.«BaseException.__init__» ⟨.ref x::rest,[]⟩) _ _ _;unfold bq.«BaseException.__init__»;dsimp only;have U:0<vs.size:=(d7.mp h0).1;have GE:=aS (h:=h) {cls:= .type "tuple",data:= .seq rest.toArray} hx;refine ao (dg (ao (ao (bJ GE rfl h0 (ao (dn GE rfl U ?_))))) (aw hl (by decide)))
 exact kj (ay hQ)
end
end
section
structure Bu(f:ag)(as:O bp)(scope:aQ)(body:O aF)(D:ag)(fd:cY)(cc:ag):Prop where
 at_:∃ o,G.h0.get? f=some o/\o.cls= .type "function"/\o.data= .func fd
 code:G.h0.CodeRec fd.code fd.qualname
 body:fd.body= .stmts body
 params:fd.params=⟨[],as,none,[],[],none,[]⟩
 dflt:fd.defaults= .none
 scope:fd.scope=scope
 globals:fd.globals=bV
 builtins:fd.builtins=ei
 closure:fd.closure=[(("__class__":am),cc)]
 file:∃ cda oc vs tf,fd.code= .ref cda/\G.h0.get? cda=some oc/\oc.data= .fields vs/\vs[2]?=some (.str pw.main.file tf)
 cell:∃ Zj,G.h0.get? cc=some Zj/\Zj.data= .cell (some (.ref D))
 lim:G.h0.NoLimit
structure Cn:Prop where
 g:G.mg ("super":am)=none
 b:G.mb ("super":am)=some (.type "super")
 top:(pw.main.scope.names.lookup ("super":am)).isSome=false
section
variable{A:az}{E:VS}{s:ai}{x C D f cc L:ag}{ox:aL}{od:ax aL}{name:am}
theorem KP{as:O bp}{scope:aQ}{body:O aF}{fd:cY}{env:aD}{m:am->ax af}{p0 p1:aK}{attr:am}{whole:aM af}{a:bp}{as':O bp}{oD:aL}{cdD:dU}{Q:VS}
  (N:Names) (S:Cn) (B:Bu f as scope body D fd cc) (y4:env=callEnv fd L f) (has:as=a::as') (J:∀ b o,G.h0.get? b=some o->s.heap.get? b=some o) (hm:s.heap.Ns L m) (hv:m a.arg=some (.ref x)) (hx:s.heap.get? x=some ox) (hxc:ox.cls= .ref C) (hxn:∀ c,ox.data≠ .cls c)
  (hD:s.heap.get? D=some oD) (II:oD.data= .cls cdD) (U:bO sB s.heap (isSubtype (.ref C) (.ref D)) true)
  (hat:(attr==("__class__":am))=false) (hks:scope.names.lookup ("super":am)=some .globalImplicit) (hkc:scope.names.lookup ("__class__":am)=some .free) (hka:scope.names.lookup a.arg=some .local) (hk:scope.kind= .function)
  (h:∀ h',h'.get? s.heap.objs.size=some (ks_superObj D x C)->(∀ b o,s.heap.get? b=some o->h'.get? b=some o)->Q (.ref s.heap.objs.size) {s with heap:=h'}):
  _root_.PySem.wpAt sB A (.func body env) (attributeBase (.Call (.Name "super" p0) [] [] p1) attr env whole) Q E s:=by
 subst y4;obtain⟨o,ho,hoc,hod⟩:=B.at_;obtain⟨cda,oc,vs,tf,hc1,hc2,hc3,hc4⟩:=B.file;obtain⟨Zj,hl1,hl2⟩:=B.cell;have sc:=B.scope;refine ks_wpAt_super_base (env:=callEnv fd L f) (by unfold dA callEnv newEnv;rw[sc];exact hks) (by unfold dA callEnv newEnv;rw[sc];exact hkc) hat rfl (J _ _ ho) hod (ar:=a) (B.params▸has▸rfl) hc1 (J _ _ hc2) hc3 hc4 (by simp) S.top ?_
 refine ks_loadName_global (by show fd.scope.kind=_;rw[sc];exact hk) (by unfold dA callEnv newEnv;rw[sc];exact hks) (loadGlobal_builtin (env:=callEnv fd L f) (by show s.heap.Ns fd.globals _;rw[B.globals];exact uv N.g λo es ep z=>⟨o,es,ep,J _ _ z.1,z.2⟩) S.g (by show s.heap.Ns fd.builtins _;rw[B.builtins];exact uv N.b λo es ep z=>⟨o,es,ep,J _ _ z.1,z.2⟩) S.b ⟨rfl, ?_⟩)
 refine mM (by show fd.scope.kind=_;rw[sc];exact hk) (by unfold dA callEnv newEnv;rw[sc];exact hkc) (c:=cc) (by show(newEnv _ _ _ fd.closure _ _ _ _ _).cells.lookup _=_;rw[B.closure];rfl) ⟨_,J _ _ hl1,hl2⟩ ?_
 refine dJ (by show fd.scope.kind=_;rw[sc];exact hk) (by unfold dA callEnv newEnv;rw[sc];exact hka) hm hv ?_
 obtain⟨hh,g,d,t,os⟩:=s;refine ks_wpAny_isType_cls hD II ⟨rfl, ?_⟩;exact ks_wpAny_call_super hD II hx hxc hxn U λh' e k=>h h' e k
end
end
section
structure yz(scope:aQ)(as:O bp):Prop where
 kind:scope.kind= .function
 co:scope.isCoroutine=false
 gen:scope.isGenerator=false
 sup:scope.names.lookup ("super":am)=some .globalImplicit
 cls:scope.names.lookup ("__class__":am)=some .free
 D4:∀ a∈as,scope.names.lookup a.arg=some .local
 cells:∀ p∈scope.names,p.2≠ .cell
 nodup:(as.map (·.arg)).Nodup
structure V4(s s':ai)(x:ag):Prop where
 keep:∀ b o,b≠x->s.heap.get? b=some o->s'.heap.get? b=some o
 os:s'.os=s.os
 gens:s'.gens=s.gens
section
variable{A:az}{E:VS}{s:ai}{x C D f cc L:ag}{ox:aL}{od:ax aL}{name:am}
theorem Jr{h h':aq}{L:ag}{m:am->ax af}(x:h.Ns L m)(k:∀ o,h.get? L=some o->h'.get? L=some o):h'.Ns L m:=uv x λo es ep r=>⟨o,es,ep,k o r.1,r.2⟩
theorem V5{h:aq}{L:ag}{m:am->ax af}(x:h.Ns L m):L<h.objs.size:=uv x λz z z r=>aY r.1
theorem vp.sub{K:bb}{C D:ag}(F:vp K C D){h:aq}{M:ce}(X:K.In h){b:af}(J:b∈[a7 C, .ref D, .type "Exception", .type "BaseException", .type "object"]):bO M h (isSubtype (.ref C) b) true:=
 F.cls.elim λcd z=>mP X (by
  show(clsIn K C).bind _=_;rw[z.1];show(if cd.mro.isEmpty then none else some (cd.mro.contains b))=some true
  rw[z.2,df.mpr J];rfl)
theorem Co{binds:O (am×af)}(nd:(binds.map (·.1)).Nodup){n:am}{v:af}(h:(n,v)∈binds):binds.reverse.lookup n=some v:=
 uk (by rw[eY];exact nh.mpr (nd.imp λh=>bz h)) (eX.mpr h)
theorem KQ{as:O bp}{scope:aQ}{body:O aF}{fd:cY}{us:O af}{R:dl->ai->Prop}(S:yz scope as)(B:Bu f as scope body D fd cc)(U:∀ b o,G.h0.get? b=some o->s.heap.get? b=some o)(hroom:A.depth<recursionLimit)(hl:as.length=us.length)
  (h:∀ env J tk,env=callEnv fd s.heap.objs.size f->J.Ns s.heap.objs.size (λy=>((as.map (·.arg)).zip us).reverse.lookup y)->(∀ b o,s.heap.get? b=some o->J.get? b=some o)->
   _root_.PySem.wpAt sB (A.deeper env) (.func body env) (execs body env) (λf s'=>R (.ok (.ret (match f with| .ret v=>v|_=> .none))) s')
    (λe s'=>ak sB (A.deeper env) (leaving env e) (λz s''=>R (.error e) s'') (λe' s''=>R (.error e') s'') s') {s with heap:=J,toks:=tk}):
  bo sB A (.call (.ref f) ⟨us,[]⟩) R s:=by
 obtain⟨o,ho,hoc,hod⟩:=B.at_;refine ks_codeAny_call_defAt (binds:=(as.map (·.arg)).zip us) hroom (U _ _ ho) hod (B.lim.keeps U) (B.code.keeps U) B.body (rP (Gx B.params B.dflt S.nodup hl)) (B.scope▸S.cells) (λp hp=> ?_) (λJ hns hk=>h _ J _ rfl hns hk) (B.scope▸S.co) (B.scope▸S.gen) (B.scope▸S.kind)
 rw[B.scope];obtain⟨a,ha,e⟩:=bG.mp (nw (show(p.1,p.2)∈_ from hp)).1
 rw[<-e];exact S.D4 a ha
def zp(e o:au)(args:O au)(p2 J:aK):Prop:=∀ env,∃ pl,eval e env=(do
   let U<-attributeBase o "__init__" env (eval o env)
   standAt p2.atName
   let (f,first)<-fP [U] (getMethod U "__init__" pl)
   callWith J f first (backTo J (starEach args env)) [])
structure aaU(s s':ai)(x C:ag)(vs:aB af)(nm:am)(v:af):Prop extends V4 s s' x where
 obj:∃ dx t' k,s'.heap.get? x=some ⟨.ref C,some dx, .fields (vs.setIfInBounds 0 (.ref t')), #[]⟩/\(s.heap.get? dx=none/\s.heap.objs.size<=dx)/\s'.heap.get? dx=some (dictOf [wJ G.w nm k v] 1)
theorem W9{U J:bp}{scope:aQ}{body:O aF}{fd:cY}{what:af}{nm:am}{an:aa}{p0 p1 p2 p3 p4 p5 p6 p7 p8 p9:aK}{vs:aB af}{t0:ag}{oD oC:aL}{cdD Zk:dU}{R:dl->ai->Prop}(N:Names)(SN:Cn)(S:yz scope [U,J])(B:Bu f [U,J] scope body D fd cc)
  (hbody:body=[.Expr (.Call (.Attribute (.Call (.Name "super" p0) [] [] p1) "__init__" p2) [.Name J.arg p3] [] p4) p5, .Assign [.Attribute (.Name U.arg p6) nm p7] (.Name J.arg p8) p9])
  (he:zp (.Call (.Attribute (.Call (.Name "super" p0) [] [] p1) "__init__" p2) [.Name J.arg p3] [] p4) (.Call (.Name "super" p0) [] [] p1) [.Name J.arg p3] p2 p4) (hn:attrName an=some nm) (hd1:(U.arg==("__debug__":am))=false) (hd2:(J.arg==("__debug__":am))=false) (hroom:A.depth<recursionLimit)
  (GF:G.K.In G.h0) (M4:G.h0.get? x=none) (F:vp G.K C D) (hk0:∀ b o,G.h0.get? b=some o->s.heap.get? b=some o) (hx:s.heap.get? x=some ⟨.ref C,none, .fields vs, #[]⟩) (h0:vs[0]?=some (.ref t0)) (hxC:x≠C)
  (hC:s.heap.get? C=some oC) (V6:oC.data= .cls Zk) (hD:s.heap.get? D=some oD) (II:oD.data= .cls cdD) (hop:nsIn G.K cStatics "thirdparty.any"=some none) (GG:alongIn G.K "__init__" [.type "Exception", .type "BaseException", .type "object"]=some (some (.builtin "Exception.__init__"))) (RF:C≠D)
  (hR:∀ s',aaU s s' x C vs nm what->R (.ok (.ret .none)) s'):bo sB A (.call (.ref f) ⟨[.ref x,what],[]⟩) R s:=by
 have X:G.K.In s.heap:=GF.keeps hk0;refine KQ S B hk0 hroom rfl λenv h₀ tk y4 hns hk=> ?_;have hm1:((([U,J]:O bp).map (·.arg)).zip [.ref x,what]).reverse.lookup U.arg=some (.ref x):=Co (by exact S.nodup) (.head _)
 have hm2:((([U,J]:O bp).map (·.arg)).zip [.ref x,what]).reverse.lookup J.arg=some what:=Co (by exact S.nodup) (.tail _ (.head _))
 have hX:G.K.In h₀:=X.keeps hk;have sb:∀ {h':aq},G.K.In h'->∀ b,b=a7 D\/b= .type "Exception"->bO sB h' (isSubtype (.ref C) b) true:=λX b hb=>F.sub X (hb.elim (λe=>e▸ .tail _ (.head _)) λe=>e▸ .tail _ (.tail _ (.head _)));subst hbody;refine pi (pj ?_ (by rw[y4];show _=_;unfold interactive callEnv newEnv;rw[B.scope,S.kind];rfl) (by rfl))
 have hxn:∀ {h':aq},∀ c,(⟨.ref C,none, .fields vs, #[]⟩:aL).data≠ .cls c:=λc e=>by cases e
 obtain⟨pl,he⟩:=he env;refine pn (pl:=pl) (KP (a:=U) (as':=[J]) N SN B y4 rfl (λb o e=>hk _ _ (hk0 b o e)) (L:=s.heap.objs.size) hns hm1 (hk _ _ hx) rfl (hxn (h':=h₀)) (hk _ _ hD) II (sb hX _ (.inl rfl)) (by decide+kernel) S.sup S.cls (S.D4 _ (.head _)) S.kind λh1 hso k1=> ?_) he
 have GH:∀ b o,s.heap.get? b=some o->h1.get? b=some o:=λb o e=>k1 b o (hk b o e);have X1:=X.keeps GH;refine Be hso (po X1 hop) (F.mro X1 _) (l:=[.type "Exception", .type "BaseException", .type "object"]) (by simp[RF]) X1 (GH _ _ hx) rfl (sb X1 _ (.inr rfl)) GG hxC (by decide+kernel) ?_
 have k2:∀ b o,s.heap.get? b=some o->(h1.push (u5 x)).get? b=some o:=λb o e=>aS _ (GH b o e);have X2:=X.keeps k2;have w2:(h1.push (u5 x)).get? h1.objs.size=some (u5 x):=jn rfl rfl;have Ee:(h1.push (u5 x)).Ns s.heap.objs.size λy=>((([U,J]:O bp).map (·.arg)).zip [.ref x,what]).reverse.lookup y:=Jr hns λo e=>aS _ (k1 _ _ e)
 generalize h1.objs.size=q at w2
 generalize Zl:h1.push (u5 x)=h2 at k2 X2 w2 Ee
 clear Zl hso k1 GH X1;have hsc:=B.scope;have lk:env.scope.kind= .function:=by rw[y4];show fd.scope.kind=_;rw[hsc];exact S.kind
 have lo:env.locals=s.heap.objs.size:=(av _ y4);have ka1:env.kindOf U.arg=some .local:=by unfold dA;rw[y4];show fd.scope.names.lookup _=_;rw[hsc];exact S.D4 _ (.head _)
 have ka2:env.kindOf J.arg=some .local:=by unfold dA;rw[y4];show fd.scope.names.lookup _=_;rw[hsc];exact S.D4 _ (.tail _ (.head _))
 have hs:∀ e∈[pp J.arg p3],s9 e:=bj.mpr ⟨λw w=>rfl,λw h=>nomatch h⟩
 refine dL (P:=λh=>h=h2) (by rw[ux hs];rfl) (λh hp=>⟨.machine, .inr (.inl rfl),hp▸HL w2⟩) (uy hs ?_)
 refine eG (dK (dJ lk ka2 (lo▸Ee) hm2 ?_) hd2);refine ig ⟨rfl, ?_⟩;refine KO X2 F w2 (k2 _ _ hx) h0 (k2 _ _ hC) V6 (sb X2 _ (.inr rfl)) (cV rfl) ?_;have hxs:x≠s.heap.objs.size:=bu (aY hx);have p3:∀ b o,h2.get? b=some o->(h2.push {cls:= .type "tuple",data:= .seq ([]++[what]).toArray}).get? b=some o:=λb o e=>aS _ e;have x3:=cD (cr λy=>y.setIfInBounds 0 (a7 h2.objs.size)) (p3 _ _ (k2 _ _ hx)) rfl;have k3:∀ b o,b≠x->h2.get? b=some o->((h2.push {cls:= .type "tuple",data:= .seq ([]++[what]).toArray}).update x (cr λy=>y.setIfInBounds 0 (a7 h2.objs.size))).get? b=some o:=λb o hb e=>(b8 _ _ (bz hb)).trans (p3 _ _ e);generalize (h2.push {cls:= .type "tuple",data:= .seq ([]++[what]).toArray}).update x (cr λy=>y.setIfInBounds 0 (a7 h2.objs.size))=h3 at x3 k3⊢
 have x3:h3.get? x=some ⟨.ref C,none, .fields (vs.setIfInBounds 0 (.ref h2.objs.size)), #[]⟩:=x3;have HM:h3.Ns s.heap.objs.size λy=>((([U,J]:O bp).map (·.arg)).zip [.ref x,what]).reverse.lookup y:=Jr Ee λo e=>k3 _ _ (bz hxs) e
 have kC:∀ b o,G.h0.get? b=some o->h3.get? b=some o:=λb o e=>k3 b o (λz=>by rw[z,M4] at e;cases e) (k2 _ _ (hk0 _ _ e))
 refine pq (jo (pr (dK (dJ lk ka2 (by rw[lo];exact HM) hm2 (dK (dJ lk ka1 (by rw[lo];exact HM) hm1 ?_) hd1)) hd2) (by rfl)))
 refine Jd F (GF.keeps kC) x3 hn λh4 e1 e2 k4=>pt (hR _ ⟨⟨λb o hb e=>k4 b o hb (k3 b o hb (k2 _ _ e)),rfl,rfl⟩,h3.objs.size,h2.objs.size,tk+1+1,e1,⟨?_,bB (V5 HM)⟩,e2⟩);cases e:s.heap.get? h3.objs.size with
 |none=>rfl
 |some o=>
  by_cases z:h3.objs.size=x
  ·exact aC (aY x3) (by rw[z];exact bT _)
  ·exact aC (aY (k3 _ _ z (k2 _ _ e))) (bT _)
end
section
variable{A:az}{E:VS}{s:ai}{x C D f f2 cc Zm L:ag}{ox:aL}{od:ax aL}{name:am}
structure aaV(s s':ai)(x C:ag)(vs:aB af)(nm uT:am)(v v2:af):Prop extends V4 s s' x where
 obj:∃ dx t' k k2,s'.heap.get? x=some ⟨.ref C,some dx, .fields (vs.setIfInBounds 0 (.ref t')), #[]⟩/\(s.heap.get? dx=none/\s.heap.objs.size<=dx)/\dx≠x/\s'.heap.get? dx=some (dictOf [wJ G.w nm k v,wJ G.w uT k2 v2] 2)
theorem Je{M:ce}{h:aq}{q g x:ag}{U:aL}{fd:cY}(hq:h.get? q=some (methodObj (.ref g) (.ref x)))(hg:h.get? g=some U)(J:U.data= .func fd):bO M h (keeperOf (.ref q)) .boundFrame:=by
 intro A Q E s k hQ;refine sf (λz=>fI (k _ _ hq)) ?_;have c1:(bU "method"!=bU "method")=false:=by decide+kernel
 dsimp only;refine sf (λz=>fI (k _ _ hg)) ?_;rw[J];exact ay hQ
theorem Xa{a1 U a3 b1 b2:bp}{scope Ef:aQ}{body GI:O aF}{fd V7:cY}{what step:af}{nm uT:am}{an V8:aa}{p0 p1 p2 p3 p4 p5 p6 p7 p8 p9 q0 q1 q2 q3 q4 q5 q6 q7 q8 q9:aK}{vs:aB af}{t0:ag}{oD oC:aL}{cdD Zk:dU}{R:dl->ai->Prop}(N:Names)(SN:Cn)
  (S:yz scope [a1,U,a3]) (B:Bu f [a1,U,a3] scope body C fd cc)
  (S2:yz Ef [b1,b2]) (B2:Bu f2 [b1,b2] Ef GI D V7 Zm)
  (hbody:body=[.Expr (.Call (.Attribute (.Call (.Name "super" p0) [] [] p1) "__init__" p2) [.Name U.arg p3] [] p4) p5, .Assign [.Attribute (.Name a1.arg p6) uT p7] (.Name a3.arg p8) p9])
  (he:zp (.Call (.Attribute (.Call (.Name "super" p0) [] [] p1) "__init__" p2) [.Name U.arg p3] [] p4) (.Call (.Name "super" p0) [] [] p1) [.Name U.arg p3] p2 p4)
  (KR:GI=[.Expr (.Call (.Attribute (.Call (.Name "super" q0) [] [] q1) "__init__" q2) [.Name b2.arg q3] [] q4) q5, .Assign [.Attribute (.Name b1.arg q6) nm q7] (.Name b2.arg q8) q9])
  (Zn:zp (.Call (.Attribute (.Call (.Name "super" q0) [] [] q1) "__init__" q2) [.Name b2.arg q3] [] q4) (.Call (.Name "super" q0) [] [] q1) [.Name b2.arg q3] q2 q4)
  (hn:attrName an=some nm) (hn2:attrName V8=some uT) (hnn:nm≠uT) (hd1:(a1.arg==("__debug__":am))=false) (hd2:(U.arg==("__debug__":am))=false) (Zo:(a3.arg==("__debug__":am))=false) (Zp:(b1.arg==("__debug__":am))=false) (Zq:(b2.arg==("__debug__":am))=false) (hroom:A.depth+4<recursionLimit)
  (GF:G.K.In G.h0) (M4:G.h0.get? x=none) (F:vp G.K C D) (J:∀ b o,G.h0.get? b=some o->s.heap.get? b=some o) (hx:s.heap.get? x=some ⟨.ref C,none, .fields vs, #[]⟩) (h0:vs[0]?=some (.ref t0)) (hxC:x≠C)
  (hC:G.h0.get? C=some oC) (V6:oC.data= .cls Zk) (hD:G.h0.get? D=some oD) (II:oD.data= .cls cdD) (hop:nsIn G.K cStatics "thirdparty.any"=some none) (GG:alongIn G.K "__init__" [.type "Exception", .type "BaseException", .type "object"]=some (some (.builtin "Exception.__init__"))) (hf2:alongIn G.K "__init__" [.ref D, .type "Exception", .type "BaseException", .type "object"]=some (some (.ref f2))) (RF:C≠D)
  (hR:∀ s',aaV s s' x C vs nm uT what step->R (.ok (.ret .none)) s'):bo sB A (.call (.ref f) ⟨[.ref x,what,step],[]⟩) R s:=by
 have X:G.K.In s.heap:=GF.keeps J;refine KQ S B J (bH (aV ..) hroom) rfl λenv h₀ tk y4 hns hk=> ?_;have hm1:((([a1,U,a3]:O bp).map (·.arg)).zip [.ref x,what,step]).reverse.lookup a1.arg=some (.ref x):=Co (by exact S.nodup) (.head _)
 have hm2:((([a1,U,a3]:O bp).map (·.arg)).zip [.ref x,what,step]).reverse.lookup U.arg=some what:=Co (by exact S.nodup) (.tail _ (.head _))
 have hm3:((([a1,U,a3]:O bp).map (·.arg)).zip [.ref x,what,step]).reverse.lookup a3.arg=some step:=Co (by exact S.nodup) (.tail _ (.tail _ (.head _)))
 have hX:G.K.In h₀:=X.keeps hk;have sb:∀ {h':aq},G.K.In h'->bO sB h' (isSubtype (.ref C) (.ref C)) true:=λX=>F.sub X (.head _);subst hbody;refine pi (pj ?_ (by rw[y4];show _=_;unfold interactive callEnv newEnv;rw[B.scope,S.kind];rfl) (by rfl))
 have hxn:∀ c,(⟨.ref C,none, .fields vs, #[]⟩:aL).data≠ .cls c:=λc e=>by cases e
 obtain⟨pl,he⟩:=he env;refine pn (pl:=pl) (KP (a:=a1) (as':=[U,a3]) N SN B y4 rfl (λb o e=>hk _ _ (J b o e)) (L:=s.heap.objs.size) hns hm1 (hk _ _ hx) rfl hxn (hk _ _ (J _ _ hC)) V6 (sb hX) (by decide+kernel) S.sup S.cls (S.D4 _ (.head _)) S.kind λh1 hso k1=> ?_) he
 have GH:∀ b o,s.heap.get? b=some o->h1.get? b=some o:=λb o e=>k1 b o (hk b o e);have X1:=X.keeps GH;obtain⟨og,hg,hgc,hgd⟩:=B2.at_;refine ks_wpAny_getMethod_super hso (po X1 hop) (F.mro X1 _) (l:=[.ref D, .type "Exception", .type "BaseException", .type "object"]) (by simp) X1 hf2 (GH _ _ (J _ _ hg)) hgc hxC (by decide+kernel) ?_
 have k2:∀ b o,s.heap.get? b=some o->(h1.push (methodObj (.ref f2) (.ref x))).get? b=some o:=λb o e=>aS _ (GH b o e);have X2:=X.keeps k2;have w2:(h1.push (methodObj (.ref f2) (.ref x))).get? h1.objs.size=some (methodObj (.ref f2) (.ref x)):=jn rfl rfl;have Ee:(h1.push (methodObj (.ref f2) (.ref x))).Ns s.heap.objs.size λy=>((([a1,U,a3]:O bp).map (·.arg)).zip [.ref x,what,step]).reverse.lookup y:=Jr hns λo e=>aS _ (k1 _ _ e)
 generalize h1.objs.size=q at w2⊢
 generalize Zl:h1.push (methodObj (.ref f2) (.ref x))=h2 at k2 X2 w2 Ee⊢
 clear Zl hso k1 GH X1;have hsc:=B.scope;have lk:env.scope.kind= .function:=by rw[y4];show fd.scope.kind=_;rw[hsc];exact S.kind
 have lo:env.locals=s.heap.objs.size:=by rw[y4];rfl
 have ka:∀ a∈[a1,U,a3],env.kindOf a.arg=some .local:=λa ha=>by unfold dA;rw[y4];show fd.scope.names.lookup _=_;rw[hsc];exact S.D4 _ ha
 have hs:∀ e∈[pp U.arg p3],s9 e:=bj.mpr ⟨λv v=>rfl,λv h=>nomatch h⟩
 refine dL (P:=λh=>h=h2) (by rw[ux hs];rfl) (λh hp=>⟨.boundFrame, .inr (.inr rfl),hp▸Je w2 (k2 _ _ (J _ _ hg)) hgd⟩) (uy hs ?_)
 refine eG (dK (dJ lk (ka U (.tail _ (.head _))) (by rw[lo];exact Ee) hm2 ?_) hd2)
 refine ig ⟨rfl, ?_⟩;refine ee (ks_codeAny_call_bound w2 ?_);refine W9 N SN S2 B2 KR Zn hn Zp Zq ?_ GF M4 F (λb o e=>k2 _ _ (J _ _ e)) (k2 _ _ hx) h0 hxC (k2 _ _ (J _ _ hC)) V6 (k2 _ _ (J _ _ hD)) II hop GG RF λs3 M=> ?_
 ·exact bH (cw (by decide:1<=4) _) hroom
 ·dsimp only
  obtain⟨dx,t',k,m1,m2,m3⟩:=M.obj;have m9:s.heap.objs.size<=dx:=aw (bB (V5 Ee)) m2.2;have m2:h2.get? dx=none:=m2.1
  have hsd:s.heap.get? dx=none:=by
   cases e:s.heap.get? dx with
   |none=>rfl
   |some o=>rw[k2 _ _ e] at m2;cases m2
  have hdx:dx≠x:=λz=>by rw[z,k2 _ _ hx] at m2;cases m2
  have hxs:x≠s.heap.objs.size:=bu (aY hx);have HM:s3.heap.Ns s.heap.objs.size λy=>((([a1,U,a3]:O bp).map (·.arg)).zip [.ref x,what,step]).reverse.lookup y:=Jr Ee λo e=>M.keep _ _ (bz hxs) e
  have kC:∀ b o,G.h0.get? b=some o->s3.heap.get? b=some o:=λb o e=>M.keep b o (λz=>by rw[z,M4] at e;cases e) (k2 _ _ (J _ _ e))
  refine pq (jo (pr (dK (dJ lk (ka a3 (.tail _ (.tail _ (.head _)))) (by rw[lo];exact HM) hm3 (dK (dJ lk (ka a1 (.head _)) (by rw[lo];exact HM) hm1 ?_) hd1)) Zo) (by rfl)))
  have isN:∀ k,(gV nm k).isStr uT=false:=λk=>by show(nm==uT)=false;rw[bS];exact hnn
  obtain⟨Zb,g3,dr3,Rs,os3⟩:=s3;refine KL F (GF.keeps kC) m1 rfl m3 hn2 (by rw[DS (y:=nm) (t:=k),aI hnn];rfl) (by simp) λh4 e1 k4=>pt (hR _ ⟨⟨λb o hb e=>k4 b o (λz=>by rw[z,hsd] at e;cases e) (M.keep b o hb (k2 _ _ e)),M.os,M.gens⟩,dx,t',k,Rs+1,k4 _ _ (bz hdx) m1,⟨hsd,m9⟩,hdx, ?_⟩)
  rw[e1]
  have p1:putL uT (eT G.w.params uT) (.str uT (Rs+1)) step [wJ G.w nm k what]=[wJ G.w nm k what,wJ G.w uT (Rs+1) step]:=by
   unfold putL;rw[isN];rfl
  have p2:putN uT [wJ G.w nm k what] 1=2:=by
   unfold putN;simp only[dF,isN,pv,aj.or_self,bN,bE]
  rw[p1,p2]
end
end
section
structure PI where
 nm:am
 q:am
 N:ag
 D:ag
 bs:O af
 hdct:aj
 sn:O am
 sub:O af
 ab:aj
 col:ax aj
 dd:ax ag
 k0:ax af
 k1:ax af
 k2:ax af
 k3:ax af
 k5:ax af
section
variable{i:PI}{C:ag}{prog:a9}{w:a0}{A:az}{E:VS}{h:aq}{g:aB eP}{d:gf}{t:aa}{os:fq}
noncomputable abbrev Dc(D:ag):O af:=[.ref D, .type "Exception", .type "BaseException", .type "object"]
abbrev Bv(i:PI)(C:ag):aL:=excClassObj i.nm i.q C i.N i.bs (Dc i.D) i.hdct i.sn i.sub i.ab i.col i.dd i.k0 i.k1 i.k2 i.k3 i.k5 "Exception.__new__"
noncomputable abbrev xI(h:aq)(C:ag):aL:={cls:= .ref C,data:= .fields #[.ref h.objs.size, .none, .none, .none, .bool false, .none]}
theorem Zr{R:dl->ai->Prop}{rest:O af}(J:h.get? C=some (Bv i C))(hl:rest.length<=8)
  (hq:R (.ok (.ret (.ref (h.objs.size+1)))) ⟨(h.push {cls:= .type "tuple",data:= .seq rest.toArray}).push (xI h C),g,d,t,os⟩):bo (aA prog w) A (.builtin "Exception.__new__" ⟨.ref C::rest,[]⟩) R ⟨h,g,d,t,os⟩:=by
 have Fn:=px;have abC:=Fn.ends;have Zs:(a7 C::Dc i.D).contains (.type "Exception")=true:=rfl;have U:(a7 C::Dc i.D).contains (.type "AttributeError")=false:=rfl;have hcN:(a7 C::Dc i.D).contains (.type "NameError")=false:=rfl;have hrest:rest.length<=sizeLine:=aw hl (by decide)
 refine codeAny_builtinAt Fn.entry ?_;refine _root_.PySem.wpAt_bind ?_;refine _root_.PySem.wpAt_bind (_root_.PySem.wpAt_stack λp below=>_root_.PySem.wpAt_of_wpAny ?_);wp_walk;refine _root_.PySem.wpAt_of_wpAny ?_;rw[Fn.owner]
 repeat (first|with_reducible refine wpAny_madeHere_exc Fn.canon J ?_|with_reducible refine fk J ?_|(with_reducible refine li J ?_;first|rw[Zs]|rw[U]|rw[hcN])|wp_step)
 show R _ _;rw[cT];exact hq
theorem KT{K:bb}{rest:O af}{f:ag}{Q:kU->ai->Prop}(X:K.In h)(J:h.get? C=some (Bv i C))(hab:i.ab=false)(GG:findIn K (.ref C) "__init__"=some (some (.ref f)))(U:isFn K (.ref f)=true)(hl:rest.length<=8)
  (hq:bo (aA prog w) A (.call (.ref f) ⟨.ref (h.objs.size+1)::rest,[]⟩) (λr s'=>r= .ok (.ret .none)/\Q (.done (.ret (.ref (h.objs.size+1)))) s') ⟨(h.push {cls:= .type "tuple",data:= .seq rest.toArray}).push (xI h C),g,d,t,os⟩):
  ak (aA prog w) A (bq.«type.__call__» ⟨.ref C::rest,[]⟩) Q E ⟨h,g,d,t,os⟩:=by
 have Fn:=px;have kp:∀ b o,h.get? b=some o->((h.push {cls:= .type "tuple",data:= .seq rest.toArray}).push (xI h C)).get? b=some o:=λb o e=>aS _ (aS _ e);have aaW:=kp _ _ J;have hcC:(a7 C::Dc i.D).contains (.ref C)=true:=by rw[O.contains_cons,bC];rfl
 repeat (first|with_reducible refine fk J ?_|with_reducible refine wpAny_madeBy_exc J ?_|wp_step)
 refine codeAny_call_builtin_code (kQ _ Fn.quiet) (wpAny_check_new_subU Fn (bmB:=Dc i.D) (by simp) (.base) J ?_)
 refine Zr J hl ?_
 repeat (first|with_reducible refine fk hget ?_|(with_reducible refine li aaW ?_;rw[hcC])|wp_step)
 refine(gg (X.keeps kp) GG).at ?_
 refine bd (ao ((bind_fn (X.keeps kp) (.ref (h.objs.size+1)) (bl.mp U)).at ?_))
 refine ao (ee (dO hq λr s' hr=> ?_));obtain⟨rfl,hr⟩:=hr;wp_walk;exact hr
theorem Xb{K:bb}{rest:O af}{f:ag}{Q:VS}(X:K.In h)(J:h.get? C=some (Bv i C))(U:i.ab=false)(GG:findIn K (.ref C) "__init__"=some (some (.ref f)))(hfn:isFn K (.ref f)=true)(hl:rest.length<=8)
  (hq:bo (aA prog w) (A.under (.builtin "type.__call__" ⟨.ref C::rest,[]⟩)) (.call (.ref f) ⟨.ref (h.objs.size+1)::rest,[]⟩) (λr s'=>r= .ok (.ret .none)/\Q (.ref (h.objs.size+1)) s') ⟨(h.push {cls:= .type "tuple",data:= .seq rest.toArray}).push (xI h C),g,d,t,os⟩):
  ak (aA prog w) A (call (.ref C) rest) Q E ⟨h,g,d,t,os⟩:=by
 have f1:=tc_lookup;have f2:=tc_bind (.ref C);have hT:(⟨h,g,d,t,os⟩:ai).TypeIs (.ref C) "type":=⟨_,J,rfl⟩;refine ee (g9 ?_);show ak _ _ (callAny (.ref C) _) _ _ _
 repeat (any_goals (first|assumption|with_reducible refine fk J ?_|wp_step))
 refine⟨rfl, ?_⟩;refine codeAny_call_builtin_at (kQ _ (by decide+kernel)) entry_typeCall (wpAny_check_type_call_sub J (KT X J U GG hfn hl ?_))
 exact hq
end
end
section
structure Zt(s s':ai)(e dx:ag)(what step:af)(nm uT:am):Prop where
 keep:∀ b o,s.heap.get? b=some o->s'.heap.get? b=some o
 os:s'.os=s.os
 gens:s'.gens=s.gens
 e0:s.heap.get? e=none
 d0:s.heap.get? dx=none
 e1:s.heap.objs.size<=e
 d1:s.heap.objs.size<=dx
 ne:dx≠e
 obj:∃ vs,s'.heap.get? e=some ⟨.ref (sK 4),some dx, .fields vs, #[]⟩/\vs[1]?=some .none
 dict:∃ k k2,s'.heap.get? dx=some (dictOf [wJ G.w nm k what,wJ G.w uT k2 step] 2)
def FU(nm uT:am):Prop:=∀ {A:az} {s:ai} {what step:af} {Q:VS} {E:VS},A.depth+6<recursionLimit->(∀ b o,G.h0.get? b=some o->s.heap.get? b=some o)->G.h0.objs.size<=s.heap.objs.size->
 (∀ s' e dx,Zt s s' e dx what step nm uT->Q (.ref e) s')->ak sB A (call (.ref (sK 4)) [what,step]) Q E s
section
variable{A:az}{s:ai}{D f f2 cc Zm:ag}
theorem UD{c:Code}(h0:c.frames=0)(h1:c.isGuard=false)(h2:c.isCaller=false):c.weight<=1:=by
 unfold nC;rw[h0,h1,h2];cases c.isCreation<;>decide
theorem Pa(A:az)(f:af)(us:O af):(A.under (.builtin "type.__call__" ⟨f::us,[]⟩)).depth<=A.depth+1:=
 cw (UD (c:= .builtin "type.__call__" ⟨f::us,[]⟩) rfl (show guardIds.contains "type.__call__"=false by decide) (by rfl)) _
theorem RG{a1 a2 a3 b1 J:bp}{scope Ef:aQ}{body GI:O aF}{fd V7:cY}{nm uT:am}{an V8:aa}{p0 p1 p2 p3 p4 p5 p6 p7 p8 p9 q0 q1 q2 q3 q4 q5 q6 q7 q8 q9:aK}{oD:aL}{cdD:dU}{i:PI}
  (N:Names) (SN:Cn) (S:yz scope [a1,a2,a3]) (B:Bu f [a1,a2,a3] scope body (sK 4) fd cc)
  (S2:yz Ef [b1,J]) (B2:Bu f2 [b1,J] Ef GI D V7 Zm)
  (hbody:body=[.Expr (.Call (.Attribute (.Call (.Name "super" p0) [] [] p1) "__init__" p2) [.Name a2.arg p3] [] p4) p5, .Assign [.Attribute (.Name a1.arg p6) uT p7] (.Name a3.arg p8) p9])
  (he:zp (.Call (.Attribute (.Call (.Name "super" p0) [] [] p1) "__init__" p2) [.Name a2.arg p3] [] p4) (.Call (.Name "super" p0) [] [] p1) [.Name a2.arg p3] p2 p4)
  (KR:GI=[.Expr (.Call (.Attribute (.Call (.Name "super" q0) [] [] q1) "__init__" q2) [.Name J.arg q3] [] q4) q5, .Assign [.Attribute (.Name b1.arg q6) nm q7] (.Name J.arg q8) q9])
  (Zn:zp (.Call (.Attribute (.Call (.Name "super" q0) [] [] q1) "__init__" q2) [.Name J.arg q3] [] q4) (.Call (.Name "super" q0) [] [] q1) [.Name J.arg q3] q2 q4)
  (hn:attrName an=some nm) (hn2:attrName V8=some uT) (hnn:nm≠uT) (hd1:(a1.arg==("__debug__":am))=false) (hd2:(a2.arg==("__debug__":am))=false) (Zo:(a3.arg==("__debug__":am))=false) (Zp:(b1.arg==("__debug__":am))=false) (Zq:(J.arg==("__debug__":am))=false)
  (GF:G.K.In G.h0) (F:vp G.K (sK 4) D) (hC:G.h0.get? (sK 4)=some (Bv i (sK 4))) (hab:i.ab=false) (abn:findIn G.K (.ref (sK 4)) "__init__"=some (some (.ref f))) (hfn:isFn G.K (.ref f)=true)
  (hD:G.h0.get? D=some oD) (II:oD.data= .cls cdD) (hop:nsIn G.K cStatics "thirdparty.any"=some none) (GG:alongIn G.K "__init__" [.type "Exception", .type "BaseException", .type "object"]=some (some (.builtin "Exception.__init__"))) (hf2:alongIn G.K "__init__" [.ref D, .type "Exception", .type "BaseException", .type "object"]=some (some (.ref f2))) (RF:sK 4≠D):FU nm uT:=by
 intro A s what step Q E U hk0 hsz hQ;obtain⟨h,g,d,t,os⟩:=s;have e0:h.get? (h.objs.size+1)=none:=u0 (cU _);have kp:∀ b o,h.get? b=some o->((h.push {cls:= .type "tuple",data:= .seq [what,step].toArray}).push (xI h (sK 4))).get? b=some o:=λb o e=>aS _ (aS _ e);have hx:((h.push {cls:= .type "tuple",data:= .seq [what,step].toArray}).push (xI h (sK 4))).get? (h.objs.size+1)=some (xI h (sK 4)):=jn (by simp only[cT]) rfl
 refine Xb (GF.keeps hk0) (hk0 _ _ hC) hab abn hfn (cV rfl) ?_;have hr:=Pa A (.ref (sK 4)) [what,step];have hlt:sK 4<h.objs.size:=bw (aY hC) hsz;refine Xa N SN S B S2 B2 hbody he KR Zn hn hn2 hnn hd1 hd2 Zo Zp Zq (bH (cO hr 4) (aa.lt_of_succ_lt U)) GF (u0 (eA hsz)) F (λb o e=>kp _ _ (hk0 _ _ e)) hx rfl (cy (fF hlt)) hC rfl hD II hop GG hf2 RF λs' M=> ?_;obtain⟨dx,t',k,k2,m1,m2,m3,m4⟩:=M.obj;refine⟨rfl,hQ s' _ dx ⟨λb o e=>M.keep b o (λz=>by have e:h.get? b=some o:=e;rw[z,e0] at e;cases e) (kp _ _ e),M.os,M.gens,e0, ?_,cU _,aw (by simp only[cT];exact eA (cU _)) m2.2,m3,⟨_,m1,rfl⟩,⟨k,k2,m4⟩⟩⟩
 cases e:h.get? dx with
 |none=>rfl
 |some o=>have m2:=m2.1;rw[kp _ _ e] at m2;cases m2
end
end
end
section
open PySem.W PyProof.Rows PySem.Calls
section
structure y5:Prop where
 make:∃ nm uT,attrName 10=some nm/\attrName 11=some uT/\FU nm uT
 obj:∃ i,G.h0.get? (sK 4)=some (Bv i (sK 4))
 keep:keepIn G.K (.ref (sK 4))=true
inductive Rest(h:aq)(C:Cx)(vs:aB af):Prop
 |none (e:vs[1]?=some .none)
 |some {T:ag} {oT:aL} {ts:aB af} (e:vs[1]?=some (.ref T)) (t:h.get? T=some oT) (d:oT.data= .fields ts) (z:ts[3]?=some .none) (n:T∉C.res)
inductive wd(h:aq)(C:Cx)(i:aa):af->Prop
 |mk {p:ag×O ag} {dx:ag} {vs:aB af} (m:C.mu[i]?=some p) (o:h.get? p.1=some ⟨.ref (sK 4),some dx, .fields vs, #[]⟩) (r:Rest h C vs):wd h C i (.ref p.1)
inductive IJ(X:O ag)(C:Cx)(s:ai)(r:V)(σ':Ob)(e:af)(s':ai):Prop
 |mk {C':Cx} {i:aa} (N:Nx X C s C' σ' s') (hr:r= .ref i) (x:wd s'.heap C' i e)
section
variable{d:aa}{A:az}{X Y:O ag}{C C':Cx}{σ σ':Ob}{s s':ai}{sc:Sc}{F:Fn}{env:aD}{l:Loc}{α:Type}
theorem IJ.nx{r:V}{J:Ob}{e:af}{s'':ai}(N:Nx X C s C' σ' s')(h:IJ X C' s' r J e s''):IJ X C s r J e s'':=match h with
 | .mk U hr x=> .mk ⟨N.E.trans U.E,U.I⟩ hr x
theorem RH{J mb:ME}{k:V->V->M α}{P:α->Ob->Prop}(h:Al (sR F [J,mb] l σ) λvs σ'=>∀ x y,vs=[x,y]->Al (k x y σ') P):Al (M.bind (rZ F J l) (λx=>M.bind (rZ F mb l) λy=>k x y) σ) P:=
 Al.bind (m:=rZ F J l) (f:=λx=>M.bind (rZ F mb l) λy=>k x y) (.intro λx σ1 e1=>Al.bind (m:=rZ F mb l) (f:=λy=>k x y) (.intro λy σ2 e2=>h.get (a:=[x,y]) (by
  show M.bind (rZ F J l) (λv=>M.bind (M.bind (rZ F mb l) λU=>M.bind (M.pure []) λvs=>M.pure (U::vs)) λvs=>M.pure (v::vs)) σ=_;unfold M.bind;rw[e1];dsimp only;rw[e2]) x y rfl))
theorem Pb{M:ce}{i:PI}{Cl:ag}{x:aM af}{Q:cG->ai->Prop}{E:VS}
  (hh:A.handled=none) (h:ak M A x (λv J=>∃ e vs dx,v= .ref e/\J.heap.get? Cl=some (Bv i Cl)/\J.heap.get? e=some ⟨.ref Cl,dx, .fields vs, #[]⟩/\vs[1]?=some .none/\E (.ref e) J) E s):ak M A (raiseStmt env (some x) none) Q E s:=by
 have Zs:(a7 Cl::Dc i.D).contains (.type "BaseException")=true:=rfl;refine ao (aO h (λv J U=> ?_) λz z x=>x);obtain⟨e,vs,dx,rfl,hC,he,hv,hE⟩:=U;obtain⟨hp,g,d,tk,os⟩:=J
 repeat (first|with_reducible refine fk he ?_|with_reducible refine fk hC ?_|(with_reducible refine li hC ?_;rw[Zs])|(with_reducible refine bJ he rfl hv ?_)|wp_step)
 exact wpAny_raiseNew_none hh hE
theorem UE{a b:V}{u u2:af}{e dx:ag}{nm uT:am}{s2:ai}(I:Inv C σ s)(J:G.h0.objs.size<=s.heap.objs.size)(hu:sg s.heap C a u)(Zu:sg s.heap C b u2)(n10:attrName 10=some nm)(n11:attrName 11=some uT)(Z:Zt s s2 e dx u u2 nm uT):IJ X C s (.ref σ.length) (σ++[.inst 4 [(10,a),(11,b)]]) (.ref e) s2:=
 Z.obj.elim λvs z=>Z.dict.elim λt1 U=>U.elim λt2 U=>
  have N:=Nx.alloc (X:=X) (p:=(e,[dx])) (m':= .inst 4 [(10,a),(11,b)]) I (Z.keep _ _) (b7.mpr ⟨λh=>Z.ne (aR.mp h).symm,b7.mpr ⟨ba,c6⟩⟩)
   (λ{y} hy=>(aW.mp hy).elim (λh=>h▸⟨⟨Z.e0,aw J Z.e1⟩,_,z.1⟩) λhy=>by cases aR.mp hy;exact⟨⟨Z.d0,aw J Z.d1⟩,_,U⟩)
   (λS=> .inst (aU 4) (show([10,11]:O aa).Nodup by decide) z.1 (λh=>aC h (bT 4)) (λx=>⟨vs,rfl⟩) U (.cons n10 (hu.step S) (.cons n11 (Zu.step S) .nil))) Z.os Z.gens
  .mk N.1 rfl (.mk N.2 z.1 (.none z.2))
theorem RI{x:am}{np J pos:aK}{U eb:au}{ma mb:ME}{Q:cG->ai->Prop}(K:Classes)(N:Names)(XE:y5)(hx:sc.kind x=some .globalImplicit)(hd:(x==("__debug__":am))=false)(hv:Means x (.ref (sK 4)))(hs:∀ e∈[U,eb],s9 e)(ha:sA d F sc U ma)(hb:sA d F sc eb mb)
  (H:Here d A sc env l C σ s):Al (M.bind (rZ F ma l) (λx=>M.bind (rZ F mb l) λy=>un (.inst 4 [(10,x),(11,y)])) σ) λr σ'=>ak sB A (exec (.Raise (some (.Call (.Name x np) [U,eb] [] J)) none pos) env) Q (IJ [] C s r σ') s:=
 RH (k:=λx y=>un (.inst 4 [(10,x),(11,y)])) ((xe (pos:=J) hs (.cons ha (.cons hb .nil)) H).imp λvs σ1 w a b e=>by
  show ak _ _ _ _ (IJ [] C s (.ref σ1.length) (σ1++[.inst 4 [(10,a),(11,b)]])) _;refine XE.make.elim λnm z=>z.elim λuT z=> ?_;obtain⟨i,hC⟩:=XE.obj;refine ao (dj (Pb (Cl:=sK 4) (i:=i) H.A.handled (ao ?_)));refine ao (vQ N H.env H.I hx hd hv (dL (P:=λh=>Keeps h (.ref (sK 4))) (by rw[ux hs];rfl) (λh hp=>hp) (uy hs (aO w (λus s1 ok=>sY.casesOn (motive:=λv=>_/\ak _ _ (call (.ref (sK 4)) ([]++us)) _ _ _) ok λ{C1} N1 q=>⟨AW XE.keep (Cf K H.I N1.E), ?_⟩) λv v=>bP))))
  subst e;have H1:=H.next N1;refine q.1.out (P:=λus=>ak _ _ (call (.ref (sK 4)) ([]++us)) _ _ _) λu r hu hr=>hr.out (P:=λr=>ak _ _ (call (.ref (sK 4)) ([]++u::r)) _ _ _) λu2 r Zu hr=>hr.out (P:=λr=>ak _ _ (call (.ref (sK 4)) ([]++u::u2::r)) _ _ _) ?_;refine z.2.2 (bw (kS (by decide:6<8) _) (aw (cO (aV _ (4*d)) 8) H.A.depth)) (λv v=>H1.I.uG) H1.pl.above λs2 e dx Z=>ao (dj (ay ?_))
  exact Z.obj.elim λvs z'=>⟨e,vs,some dx,rfl,Z.keep _ _ (H1.I.uG hC),z'.1,z'.2, .nx N1 (UE H1.I H1.pl.above hu Zu z.1 z.2.1 Z)⟩)
end
end
section
structure Pc(s s':ai)(frames:O ag)(e:ag)(oe:aL)(vs:aB af):Prop where
 off:∀ {b o},b≠e->b∉frames->s.heap.get? b=some o->s'.heap.get? b=some o
 on:∀ {b o},b≠e->s.heap.get? b=some o->∃ sl,s'.heap.get? b=some {o with slots:=sl}
 os:s'.os=s.os
 gens:s'.gens=s.gens
 exc:∃ T oT ts,(s'.heap.get? e=some {oe with data:= .fields (vs.setIfInBounds 1 (.ref T))}/\s.heap.get? T=none)/\(s'.heap.get? T=some oT/\oT.data= .fields ts)/\ts[3]?=some .none
theorem Fk{h:aq}{a:ag}{o:aL}{f:aL->aL}(ho:h.get? a=some o)(J:f o=o)(b:ag):(h.update a f).get? b=h.get? b:=by
 by_cases U:a=b
 ·subst U
  have hx:=(aq.get?_some_iff.mp ho).2;rw[cD f ho (by rw[J];cases o with|mk c d dt s0=>cases dt<;>first|rfl|exact jm _▸hx),J,ho]
 ·exact b8 _ _ U
theorem set_same{ts:aB af}{i:aa}{v:af}(h:ts[i]?=some v):ts.setIfInBounds i v=ts:=by
 have z:=d7.mp h;exact z.elim λJ e=>by rw[<-e,aB.setIfInBounds_def,dif_pos J,aB.set_getElem_self]
section
variable{M:ce}{A:az}{E:VS}{s:ai}
theorem GJ{base:aq}{env:aD}{outer:O aD}{L e:ag}{oe:aL}{vs:aB af}{head:af}{hadNext:aj}{Q:bi->ai->Prop}
  (hfr:A.frames=some (env::outer)) (hl:s.heap.FunFrames base (env::outer)) (hf:env.frame=some L) (he:s.heap.get? e=some oe) (hd:oe.data= .fields vs) (hsz:1<vs.size)
  (h:∀ s',Pc s s' ((env::outer).filterMap (·.frame)) e oe vs->Q () s'):
  ak M A (do let a<-frameOf env;let pl<-entryPlaceOf L hadNext;let b<-rQ head a .none (rawInt L) .none pl;setField (.ref e) 1 b) (λz s'=>ak M A (setFlight (.ref e) none) Q E s') E s:=by
 have abo:e∉(env::outer).filterMap (·.frame):=λhm=>(hl.mem hm).2.elim λo r=>aC hd (aE (r.1.symm.trans he)▸r.2 vs)
 refine ao (wpAny_frameOf_fun hfr hl hf λJ U=>ao (wpAny_entryPlaceOf λpl hpl=>ao (dg ?_ (hpl.sizeOk5 _ _ _ _ _))))
 have Zv:3<([head, .ref L, .none,rawInt L, .none]++(if pl.isEmpty then cI 6 cA else pl)).toArray.size:=by
  rw[ii,bv];exact bw (by decide:3<5) (aV _ _)
 generalize ([head, .ref L, .none,rawInt L, .none]++(if pl.isEmpty then cI 6 cA else pl)).toArray=tv at Zv⊢
 have GE:J.get? e=some oe:=(U.2.1 e abo).trans he;have V9:=aS (h:=J) {cls:= .type "traceback",dict:=none,data:= .fields tv} GE;refine dn V9 hd hsz ?_;have hTe:J.objs.size≠e:=cy (aY GE);have hd₃:=dc hd (·.setIfInBounds 1 (a7 J.objs.size))
 have Wa:=cD (cr (·.setIfInBounds 1 (a7 J.objs.size))) V9 (fE hd₃)
 have Wb:=(b8 (J.push {cls:= .type "traceback",dict:=none,data:= .fields tv}) (cr (·.setIfInBounds 1 (a7 J.objs.size))) (bz hTe)).trans (a8 J rfl)
 refine ao (bJ Wa hd₃ (x:= .ref J.objs.size) (lj hsz) (Y4 rfl (dn Wb rfl Zv (h _ ?_))))
 have keep:∀ {b o},b≠e->J.get? b=some o->(((J.push {cls:= .type "traceback",dict:=none,data:= .fields tv}).update e (cr (·.setIfInBounds 1 (a7 J.objs.size)))).update J.objs.size
   (cr (·.setIfInBounds 3 ((none:ax ag).elim cA λf=>rawInt f)))).get? b=some o:=λ{b o} RK hb=>
  (b8 _ _ (cy (aY hb))).trans ((b8 _ _ (bz RK)).trans (aS _ hb))
 refine⟨λ{b o} RK hbf hb=>keep RK ((U.2.1 b hbf).trans hb),λ{b o} RK hb=>(U.2.2 b o hb).imp λsl=>keep RK,rfl,rfl,J.objs.size,_,_,⟨?_,u0 (bF U.1.symm)⟩,⟨cD _ Wb (fE (dc rfl _)),dc rfl _⟩,lj Zv⟩;rw[b8 _ _ hTe,Wa];cases oe;subst hd;rfl
theorem UF{base:aq}{env:aD}{outer:O aD}{L e:ag}{oe:aL}{vs:aB af}{C:Cx}{Q:bi->ai->Prop}
  (U:A.frames=some (env::outer)) (hl:s.heap.FunFrames base (env::outer)) (hf:env.frame=some L) (he:s.heap.get? e=some oe) (hd:oe.data= .fields vs) (hr:Rest s.heap C vs)
  (h:∀ s',Pc s s' ((env::outer).filterMap (·.frame)) e oe vs->Q () s'):
  ak M A (noteFrame (.ref e) env) (λw s'=>ak M A (setFlight (.ref e) none) Q E s') E s:=by
 unfold noteFrame;simp only[hf];cases hr with
 |none h1=>exact ao (bJ he hd h1 (KC rfl (GJ U hl hf he hd (d7.mp h1).1 h)))
 | @some T oT ts h1 hT Dt h3 n=>
  refine ao (bJ he hd h1 (Y4 rfl (ao (bJ hT Dt h3 (KC rfl (ao (dn hT Dt (d7.mp h3).1 ?_)))))))
  have J:=Fk (f:=cr (·.setIfInBounds 3 cA)) hT (by
   cases oT;subst Dt;exact av (aL.mk _ _ · _) (av lm (set_same h3)))
  refine GJ (s:={s with heap:=s.heap.update T (cr (·.setIfInBounds 3 cA))}) U (hl.of_keeps λb o hb w=>⟨o,(J b).trans hb,rfl⟩) hf ((J e).trans he) hd (d7.mp h1).1 λs' N=>h s' ⟨λ{b o} x y z=>N.off x y ((J b).trans z),λ{b o} x z=>N.on x ((J b).trans z),N.os,N.gens,N.exc.imp λT'=>cK λw=>cK λw=>aT (And.imp_right (J T').symm.trans)⟩
end
section
variable{d:aa}{A:az}{X Y:O ag}{C C':Cx}{σ:Ob}{s s':ai}{sc:Sc}{F:Fn}{env:aD}{l:Loc}
theorem UG{p:ag×O ag}{dx:ag}{vs:aB af}{m:sv}(z:tm s.heap C p m)(ho:s.heap.get? p.1=some ⟨.ref (sK 4),some dx, .fields vs, #[]⟩):∃ at_,m= .inst 4 at_:=
 have no:∀ {P:Prop} {o o':aL} {q:ax aL},q=some o->q=some o'->o.data≠o'.data->P:=λe J n=>aC (av gh (aE (e.symm.trans J))) n
 tm.casesOn (motive:=λp m y=>s.heap.get? p.1=some ⟨.ref (sK 4),some dx, .fields vs, #[]⟩->∃ at_,m= .inst 4 at_) z (λl y ho=>l.elim λn e=>no e ho λz=>nomatch z)
  (λy D ho=>DictAt.casesOn (motive:=λy y y=>∃ at_,_=sv.inst 4 at_) D (λD=>uv D λo y y r=>no r.1 ho (r.2.2.1▸λz=>nomatch z)) λD y=>uv D λo y y r=>no r.1 ho (r.2.2.1▸λz=>nomatch z))
  (λ{a dd c at_ es n dat} hc nd o pl fl ed as ho=>(iU hc).elim (λh=>no o ho (pl h▸λz=>nomatch z)) λh=>h▸⟨at_,rfl⟩) ho
end
section
variable{d:aa}{A:az}{X Y:O ag}{C C':Cx}{σ σ':Ob}{s s':ai}{sc:Sc}{F:Fn}{env:aD}{l:Loc}{α β γ δ:Type}
theorem noted{frames:O ag}{i:aa}{p:ag×O ag}{dx:ag}{vs:aB af}(I:Inv C σ s)(U:∀ L∈frames,L∈C.sj/\∃ m,s.heap.Ns L m)(hp:C.mu[i]?=some p)(ho:s.heap.get? p.1=some ⟨.ref (sK 4),some dx, .fields vs, #[]⟩)(hsz:1<vs.size)(N:Pc s s' frames p.1 ⟨.ref (sK 4),some dx, .fields vs, #[]⟩ vs):Nx X C s C σ s'/\wd s'.heap C i (.ref p.1):=by
 have hown:p.1∈owned C.mu:=vh hp (.head _);have Wc:∀ {a},a∈C.sj->a≠p.1:=λha z=>I.wE ha (z▸hown);refine N.exc.elim λT z=>z.elim λoT z=>z.elim λts z=> ?_
 have E:Ext X C C s.heap s'.heap:={
  sj:=rfl
  mu:=⟨[],(bY _).symm,λy x=>nomatch x⟩
  keep:=λn=>N.off (λz=>n (vF (z▸hown))) λz=>n (th (U _ z).1)
  ns:=λha y x=>uv x λo es ep r=>(N.on (Wc ha) r.1).elim λsl e=>⟨_,es,ep,e,r.2⟩
  obj:=λha y nd e=>N.off (Wc ha) (λz=>(U _ z).2.elim λm x=>uv x λo' es ep r=>nd es ep (aE (e.symm.trans r.1)▸r.2.1)) e
  live:=λ{a o} e=>cZ (λh:a=p.1=>⟨_,h▸z.1.1⟩) λh=>(N.on h e).elim λsl e=>⟨_,e⟩}
 have S:=E.stp
 refine⟨⟨E,{I with
  uG:=λe=>N.off (λz=>I.BL e (z▸vF hown)) (λz=>I.BL e (th (U _ z).1)) (I.uG e)
  os:=N.os.trans I.os
  gens:=N.gens.trans I.gens
  there:=λha=>(I.there ha).elim λy=>E.live
  rep:=λ{j m q} h1 h2=>cZ (λJ:i=j=> ?_) λJ=>(I.rep h1 h2).keep S λha=>N.off (λz=>E4 I.nodup hp h2 J (.head _) (z▸ha)) λz=>I.wE (U _ z).1 (vh h2 ha)}⟩, .mk hp z.1.1 (.some (lj hsz) z.2.1.1 z.2.1.2 z.2.2 λhr=>(I.there hr).elim λo e=>nomatch z.1.2.symm.trans e)⟩
 subst J;have uI:=aE (hp.symm.trans h2);subst uI;refine tm.casesOn (motive:=λq m y=>p=q->tm s'.heap C q m) (I.rep h1 hp) ?_ ?_ ?_ rfl
 ·exact λlx y e=>by cases e;exact lx.elim λn e=>aC (av gh (aE (e.symm.trans ho))) λz=>nomatch z
 ·intro a ks vs' ws _ D e
  subst e;exact DictAt.casesOn (motive:=λks y y=>tm s'.heap C (a,[]) (.dct ks vs')) D (λD=>uv D λo y y r=>aC (av gh (aE (r.1.symm.trans ho))) (r.2.2.1▸λz=>nomatch z)) λD y=>uv D λo y y r=>aC (av gh (aE (r.1.symm.trans ho))) (r.2.2.1▸λz=>nomatch z)
 ·intro a dd c at_ es n dat hc nd o pl fl ed as e
  subst e;have e:=aE (o.symm.trans ho);have hdd:dd=dx:=aE (av aL.dict e);have hdat:dat= .fields vs:=av gh e;subst hdd;have hc4:c=4:=(iU hc).elim (λh=>aC ((pl h).symm.trans hdat) λz=>nomatch z) id
  subst hc4;exact .inst hc nd z.1.1 (λh=>aC h (bT 4)) (λy=>⟨_,rfl⟩) (N.off (λz=>(b7.mp (Fa I.nodup hp)).1 (z▸ .head _)) (λz=>I.wE (U _ z).1 (vh hp (.tail _ (.head _)))) ed) (as.step S)
def KU(C:Cx)(h:aq)(e:aD):Prop:=e.scope.kind= .function/\∃ L,e.frame=some L/\L∈C.sj/\∃ m,h.Ns L m
theorem Eg(I:Inv C σ s):∀ {envs:O aD},(∀ e∈envs,KU C s.heap e)->s.heap.FunFrames G.h0 envs
 |[]=>λy=>trivial
 |e::es=>λh=>(h e (.head _)).2.elim λL r=>r.2.2.elim λm r'=>uv r' λo y y q=>⟨(h e (.head _)).1▸(λz=>nomatch z),⟨L,o,r.1,(match J:G.h0.get? L with|none=>rfl|some _=>aC (th r.2.1) (I.BL J)),q.1,λvs z=>nomatch z.symm.trans q.2.1⟩,Eg I λe he=>h e (.tail _ he)⟩
theorem KV{outer:O aD}{i:aa}{e:af}{Q:bi->ai->Prop}{E:VS}(I:Inv C σ s)(U:A.frames=some (env::outer))(J:∀ e∈env::outer,KU C s.heap e)(hx:wd s.heap C i e)
  (h:∀ s',Nx X C s C σ s'->wd s'.heap C i e->Q () s'):ak sB A (noteFrame e env) (λy s'=>ak sB A (setFlight e none) Q E s') E s:=
 (J env (.head _)).2.elim λL r=>wd.casesOn (motive:=λe y=>(∀ s',Nx X C s C σ s'->wd s'.heap C i e->Q () s')->ak sB A (noteFrame e env) (λy s'=>ak sB A (setFlight e none) Q E s') E s) hx
  (λm o z h=>UF U (Eg I J) r.1 o rfl z λs' N=>have q:=noted I (λL hL=>(eo.mp hL).elim λe he=>(J e he.1).2.elim λL' h'=>aE (he.2.symm.trans h'.1)▸h'.2) m o (Rest.casesOn (motive:=λy=>_<_) z (λe=>(d7.mp e).1) λe y y y y=>(d7.mp e).1) N;h s' q.1 q.2) h
theorem Du(h:uM (A.deeper env) C.sj s.heap):∃ outer,(A.deeper env).frames=some (env::outer)/\∀ e∈env::outer,KU C s.heap e:=h.elim λenvs r=>by
 have e:A.frames.map (env:: ·)=some envs:=r.1
 cases J:A.frames with
 |none=>rw[J] at e;cases e
 |some o=>rw[J] at e;cases e;exact⟨o,r.1,r.2⟩
theorem Dd{m:M α}{f:α->M γ}{t:aM β}{K:β->aM δ}{R:aq->Cx->α->β->Prop}{Q:γ->Ob->δ->ai->Prop}{E:γ->Ob->VS}(hm:r0 A X C σ s m t R)(U:∀ a b C' σ' s',Nx X C s C' σ' s'->R s'.heap C' a b->Al (f a σ') λc J=>ak sB A (K b) (Q c J) (E c J) s'):
  Al (M.bind m f σ) λc J=>ak sB A (t>>=K) (Q c J) (E c J) s:=
 (hm.split (T:=λb s' c J=>ak sB A (K b) (Q c J) (E c J) s') U).imp λy y z=>ao (aO z (λy y=>id) λy y=>bP)
end
section
variable{d:aa}{A:az}{X Y:O ag}{C C':Cx}{σ σ':Ob}{s s':ai}{sc:Sc}{F:Fn}{env:aD}{l:Loc}{α β γ δ:Type}
inductive KW(X:O ag)(C:Cx)(s:ai)(x:V)(σ':Ob)(v:af)(s':ai):Prop
 |mk {W:V} (e:x= .lst [W]) (k:sY X C s (RV) W σ' v s')
def KY(X:O ag)(C:Cx)(s:ai)(x:V)(σ':Ob)(res:dl)(s':ai):Prop:=match res with
 | .ok f=>match f with
  | .ret v=>KW X C s x σ' v s'
  |_=>bM
 | .error e=>IJ X C s x σ' e s'
def EQ(d:aa)(m:O V->M V)(a:ag):Prop:=
 ∀ {A:az} {X:O ag} {C:Cx} {σ:Ob} {s:ai} {args:O V} {us:O af},Fc d A C σ s->su s.heap C args us->Al (m args σ) λr σ'=>bo sB A (.call (.ref a) ⟨us,[]⟩) (KY X C s r σ') s
theorem KW.nx{r:V}{J:Ob}{v:af}{s'':ai}(N:Nx X C s C' σ' s')(h:KW X C' s' r J v s''):KW X C s r J v s'':=match h with
 | .mk e k=> .mk e (k.nx N)
theorem EQ.call{m:O V->M V}{a:ag}{args:O V}{us:O af}(h:EQ d m a)(P:Fc d A C σ s)(J:su s.heap C args us):Al (m args σ) λr σ'=>ak sB A (call (.ref a) us) (KW X C s r σ') (IJ X C s r σ') s:=
 Al.imp (h (X:=X) P J) λr σ' z=>ee (dO z λres s' hr=>by
  cases res with
  |error _=>exact hr
  |ok f=>cases f<;>exact hr)
inductive FV(X:O ag)(C:Cx)(s:ai)(env:aD)(sc:Sc)(x:V)(σ':Ob)(f:cG)(s':ai):Prop
 |mk {W:V} {rf:XR} {sT:Ob} (e:x= .lst [W]) (v:XR.val rf sT=some (W,σ')) (k:sY X C s (RX env sc) rf sT f s')
inductive GK(A:az)(X:O ag)(C:Cx)(s:ai)(r:V)(σ':Ob)(e:af)(s':ai):Prop
 |mk {C':Cx} {i:aa} (N:Nx X C s C' σ' s') (hr:r= .ref i) (x:wd s'.heap C' i e) (f:uM A C'.sj s'.heap)
theorem Al.assoc{m:M α}{n:α->M β}{g:β->M γ}{P:γ->Ob->Prop}(h:Al (M.bind m (λx=>M.bind (n x) g) σ) P):Al (M.bind (M.bind m n) g σ) P:=by
 unfold M.bind at*
 cases e:m σ with
 |none=>exact ah
 |some p=>rw[e] at h;exact h
theorem Al.val{rf:XR}{P:V->Ob->Prop}(h:∀ W sT,XR.val rf σ=some (W,sT)->P (.lst [W]) sT):Al (M.bind (XR.val rf) (λv=>M.pure (.lst [v])) σ) P:=Al.bind (m:=XR.val rf) (.intro λW sT e=>h W sT e)
theorem MA{st1:aF}{m1:MS}{t:au}{mt:ME}{rest:O aF}{vL:O MS}{x:am}{np J U ipos:aK}{ea eb:au}{ma mb:ME}(K:Classes)(N:Names)(XE:y5)(h1:wG d F sc st1 m1)(ht:vA d F sc t mt)(hx:sc.kind x=some .globalImplicit)(hd:(x==("__debug__":am))=false)(hv:Means x (.ref (sK 4)))(hs:∀ e∈[ea,eb],s9 e)(ha:sA d F sc ea ma)(hb:sA d F sc eb mb)(h3:xw d F sc rest vL)(H:Here d A sc env l C σ s):
  Al (M.bind (M.bind (xu F m1 l) vz) (λl=>M.bind (sN F mt l) λc=>if c then M.bind (rZ F ma l) λx=>M.bind (rZ F mb l) λy=>un (.inst 4 [(10,x),(11,y)]) else M.bind (M.bind (r8 F vL l) XR.val) λv=>M.pure (.lst [v])) σ)
   λx' σ'=>ak sB A (execs (st1:: .If t [.Raise (some (.Call (.Name x np) [ea,eb] [] J)) none U] [] ipos::rest) env) (FV (r7 env sc) C s env sc x' σ') (GK A (r7 env sc) C s x' σ') s:=
 .assoc (Dd (K:=λf=>match f with| .next=>execs (.If t [.Raise (some (.Call (.Name x np) [ea,eb] [] J)) none U] [] ipos::rest) env|f=>pure f) (h1 H) λrt f C1 σ1 s1 N1 R=>by
  refine RX.casesOn (motive:=λrt f w=>Al (M.bind (vz rt) _ σ1) λx' σ'=>ak sB A (match f with| .next=>execs (.If t [.Raise (some (.Call (.Name x np) [ea,eb] [] J)) none U] [] ipos::rest) env|f=>pure f) (FV (r7 env sc) C s env sc x' σ') (GK A (r7 env sc) C s x' σ') s1) R (λ{l1} R=> ?_) (λw=>ah) (λw=>ah) λw=>ah
  have H1:=H.stored N1 R;refine(r0.An (m:=sN F mt l1) (f:=λc:aj=>if c then M.bind (rZ F ma l1) λx=>M.bind (rZ F mb l1) λy=>un (.inst 4 [(10,x),(11,y)]) else M.bind (M.bind (r8 F vL l1) XR.val) λv=>M.pure (.lst [v])) (T:=λb s2 x' σ'=>if b then ak sB A (execs [.Raise (some (.Call (.Name x np) [ea,eb] [] J)) none U] env) (λf s'=>ak sB A (match f with| .next=>execs rest env|f=>pure f) (FV (r7 env sc) C s env sc x' σ') (GK A (r7 env sc) C s x' σ') s') (GK A (r7 env sc) C s x' σ') s2 else ak sB A (execs [] env) (λf s'=>ak sB A (match f with| .next=>execs rest env|f=>pure f) (FV (r7 env sc) C s env sc x' σ') (GK A (r7 env sc) C s x' σ') s') (GK A (r7 env sc) C s x' σ') s2) H1 (ht H1) λa b C2 σ2 s2 H2 N2 r=> ?_).imp λw w z=>ao (wpAny_If (pos:=ipos) (aO z (λw w=>id) λw w=>bP))
  have N3:Nx (r7 env sc) C s C2 σ2 s2:=⟨N1.E.trans N2.E,H2.I⟩;subst r;cases a with
  |true=>exact Al.imp (RI (Q:=λw w=>bM) K N XE hx hd hv hs ha hb H2) λr σ' z=>ao (aO z (λw w=>bP) λe s' q=>match q with| .mk N4 hr x=> .mk ⟨N3.E.trans (N4.E.mono λw h=>nomatch h),N4.I⟩ hr x (H2.next N4).pl.frs)
  |false=>exact .assoc (Al.bind ((h3 H2).imp λrf sT z=> .val λW σ' e=>by
   exact ay (aO z (λf s' k=> .mk rfl e (k.nx N3)) λw w=>bP))))
theorem wd.back{i:aa}{e:af}{h:aq}{N:O ag}(x:wd h C' i e)(hp:C'.sj=N++C.sj):wd h (C.back C') i e:=wd.casesOn (motive:=λe y=>wd h (C.back C') i e) x λm o r=> .mk m o (Rest.casesOn (motive:=λy=>_) r .none λe t d z n=> .some e t d z λq=>n (CU hp q))
theorem MB{a:ag}{r:MF}{scope:aQ}{as:O bp}{body:O aF}{m:M V}(D:Kj a r scope as body)(args:O V)
  (hb:∀ {A:az} {C:Cx} {σ:Ob} {s:ai} {env:aD},Here d A (Sc.fn r scope) env (uZ r args) C σ s->Al (m σ) λJ σ'=>ak sB A (execs body env) (FV (r7 env (Sc.fn r scope)) C s env (Sc.fn r scope) J σ') (GK A (r7 env (Sc.fn r scope)) C s J σ') s)
  {us:O af} (P:Fc (d+1) A C σ s) (hu:su s.heap C args us):Al (M.guard (args.length==r.nargs) m σ) λJ σ'=>bo sB A (.call (.ref a) ⟨us,[]⟩) (KY X C s J σ') s:=
 Al.guard λhl=> .intro λJ σ' e=>Q2 D P hu (eq_of_beq hl) λenv s1 H hN hk=>aO ((hb H).get e) (λf s' x=>FV.casesOn (motive:=λy=>KY X C s J σ' (.ok (.ret (Jp f))) s') x λe1 e2 k=> .mk e1 ((Q3 P.I hk hN k).get e2)) λe' s' x=>GK.casesOn (motive:=λy=>ak sB (A.deeper env) (leaving env e') (λy s''=>KY X C s J σ' (.error e') s'') (λU s''=>KY X C s J σ' (.error U) s'') s') x λ{C1 i} N1 hr z fr=>(Du fr).elim λouter f=>ao (KV (X:=[]) N1.I f.1 f.2 z λs'' N2 z2=>by
  have hp:C1.sj=r7 env (Sc.fn r scope)++C.sj:=N1.E.sj;exact .mk (C':=C.back C1) ⟨.left (λha=>P.I.there (th ha)) hk hN .inl (N1.E.trans (N2.E.mono λy h=>nomatch h)),N2.I.back hp⟩ hr (z2.back hp))
end
section
variable{d:aa}{A:az}{X Y:O ag}{C C':Cx}{σ σ':Ob}{s s':ai}{sc:Sc}{F:Fn}{env:aD}{l:Loc}{α β γ δ:Type}
theorem MC{f:aa}{a:ag}{o:au}{mo:ME}{x:am}{apos pos:aK}{es:O au}{sU:O ME}{kk:V->M γ}{Q E:γ->Ob->VS}(K:Classes)(hS:EQ d (F f) a)(hM:Cg (uw f) x a)(hb:xT o)(U:(apos.endLine==pos.line)=true)(hl:es.length<20)(hs:∀ e∈es,s9 e)
  (ho:sA d F sc o mo) (h:tj (sA d F sc) es sU) (H:Here d A sc env l C σ s)
  (hv:∀ W v C' σ' s',Nx [] C s C' σ' s'->sg s'.heap C' W v->Al (kk (.lst [W]) σ') λc J=>Q c J v s') (he:∀ i e C' σ' s',Nx [] C s C' σ' s'->wd s'.heap C' i e->Al (kk (.ref i) σ') λc J=>E c J e s'):
  Al (M.bind (rZ F mo l) (λo=>M.bind (uQ (uw f) o) λy=>M.bind (sR F sU l) λvs=>M.bind (F f (o::vs)) kk) σ) λc J=>ak sB A (eval (.Call (.Attribute o x apos) es [] pos) env) (Q c J) (E c J) s:=by
 rw[nA,hb];unfold methodCall;rw[Nd hs hl];refine Dd (ho H) λV v C1 σ1 s1 N1 hv1=> ?_;have H1:=H.next N1;refine Al.inst (f:=λy=>M.bind (sR F sU l) λvs=>M.bind (F f (V::vs)) kk) H1.I hv1 λi a' eV ev z=> ?_;subst ev;refine Al.imp (P:=λc J=>ak sB A (callWith pos (.ref a) [.ref a'] (backTo pos (starEach es env)) []) (Q c J) (E c J) s1) (((xe (pos:=pos) hs h H1).split (f:=λvs=>M.bind (F f (V::vs)) kk) (T:=λus s2 c J=>Keeps s2.heap (.ref a)/\ak sB A (call (.ref a) (.ref a'::us)) (Q c J) (E c J) s2) λxs us C2 σ2 s2 N2 r=>Al.bind ((hS.call (X:=[]) (H1.next N2).pl.f (.cons (hv1.step N2.S) r.1)).imp λx' σ' w=> ?_)).imp λy y z=>dL (P:=λh=>Keeps h (.ref a)) (by rw[ux hs];rfl) (λh hp=>hp) (uy hs (aO z (λy y=>id) λy y=>bP))) λc J w=>H1.pl.fr.elim λL r=>r.elim λm r=>D6.casesOn (motive:=λy=>_) z λI as=>ao (dj (ao (bd (nB (H1.I.fr r.1 r.2) K.DR I hM.get hM.find hM.fn (Ix hM.no as) ?_))))
 ·have N3:Nx [] C s C2 σ2 s2:=⟨N1.E.trans N2.E,N2.I⟩
  exact Al.intro λc J e=>⟨AW hM.keep (Cf K H1.I N2.E),aO w (λv s' q=>match q with
   | .mk ex k=>match k with| .mk N r=>(hv _ _ _ _ _ ⟨N3.E.trans N.E,N.I⟩ r).get (ex▸e)) λe' s' q=>match q with
   | .mk N hr r=>(he _ _ _ _ _ ⟨N3.E.trans N.E,N.I⟩ r).get (hr▸e)⟩
 ·dsimp only
  rw[show methodCallPos true o env apos pos=pure pos by unfold methodCallPos;rw[U];rfl]
  exact sP w
theorem Pd{t k n1 n2 i:aa}{c:aa}{at_:O (aa×V)}(hk:l.get k=some (.ref i))(ho:σ[i]?=some (.inst c at_)){P:XR->Ob->Prop}(h:∀ T J y2,l.get t=some T->at_.lookup n1=some J->at_.lookup n2=some y2->Al (yD T (.tup [J,y2]) σ) λb σ'=>P (.ret (.bool b)) σ'):
  Al (zj (rZ F (.cmp (.var t) [.Eq] [.tup [.attr (.var k) n1, .attr (.var k) n2]]) l) σ) P:=by
 have U:∀ n,rZ F (.attr (.var k) n) l σ=Internal.sM (at_.lookup n) σ:=λn=>by
  show M.bind (Internal.sM (l.get k)) (λx=>wD x n) σ=_;rw[hk];show M.bind (ur i) (EE n) σ=_;unfold M.bind ur;rw[ho];rfl
 refine Al.bind (m:=rZ F (.cmp (.var t) [.Eq] [.tup [.attr (.var k) n1, .attr (.var k) n2]]) l) (f:=λv=>M.pure (XR.ret v)) (Al.bind (m:=Internal.sM (l.get t)) (f:=λx=>M.bind (vU F x [.Eq] [.tup [.attr (.var k) n1, .attr (.var k) n2]] l) λb=>M.pure (V.bool b)) (.sM λT hT=>Al.bind (m:=vU F T [.Eq] [.tup [.attr (.var k) n1, .attr (.var k) n2]] l) (f:=λb=>M.pure (V.bool b)) (Al.bind (m:=rZ F (.tup [.attr (.var k) n1, .attr (.var k) n2]) l) (f:=λb=>M.guard true (yD T b)) (Al.bind (m:=sR F [.attr (.var k) n1, .attr (.var k) n2] l) (f:=λvs=>M.pure (V.tup vs)) (Al.bind (m:=rZ F (.attr (.var k) n1) l) (f:=λv=>M.bind (sR F [.attr (.var k) n2] l) λvs=>M.pure (v::vs)) ?_)))));rw[U n1];refine .sM λJ h1=>Al.bind (m:=sR F [.attr (.var k) n2] l) (f:=λvs=>M.pure (J::vs)) (Al.bind (m:=rZ F (.attr (.var k) n2) l) (f:=λv=>M.bind (sR F [] l) λvs=>M.pure (v::vs)) ?_);rw[U n2];exact .sM λy2 h2=>h T J y2 hT h1 h2
theorem MD{M:ce}{e:ag}{o:aL}{vs:aB af}{Q:bi->ai->Prop}{E:VS}(he:s.heap.get? e=some o)(J:o.data= .fields vs)(hr:Rest s.heap C vs)(h:∀ h',(∀ {b o},s.heap.get? b=some o->h'.get? b=some o)->Q () {s with heap:=h'}):ak M A (setFlight (.ref e) none) Q E s:=
 Rest.casesOn (motive:=λz=>_) hr (λh1=>ao (bJ he J h1 (KC rfl (ay (h _ id))))) λ{T oT ts} h1 U Dt h3 z=>
  ao (bJ he J h1 (Y4 rfl (dn U Dt (d7.mp h3).1 (h _ λ{b o}=>(Fk (f:=cr (·.setIfInBounds 3 cA)) U (by
   cases oT;subst Dt;exact av (aL.mk _ _ · _) (av lm (set_same h3))) b).trans))))
theorem GL{h':aq}{tk:aa}{m:am->ax af}(I:Inv C σ s)(J:env.locals∈C.sj)(hn:h'.Ns env.locals m)(S:b9 env.locals s.heap h'):Nx (r7 env sc) C s C σ {s with heap:=h',toks:=tk}:=
 have k:∀ {b o},b≠env.locals->s.heap.get? b=some o->h'.get? b=some o:=λn e=>(S.2 _ n).trans e
 have E:Ext (r7 env sc) C C s.heap h':={
  sj:=rfl
  mu:=⟨[],(bY _).symm,λy x=>nomatch x⟩
  keep:=λn=>k λz=>n (th (z▸J))
  ns:=λy hx x=>yg x λy y y=>aT (k λz=>hx (z▸ .head _))
  obj:=λy hx y=>k λz=>hx (z▸ .head _)
  live:=λ{a o} e=>cZ (λz:a=env.locals=>z▸uv hn λo y y r=>⟨o,r.1⟩) λz=>⟨o,k z e⟩}
 ⟨E,I.EH (s':={s with heap:=h',toks:=tk}) rfl rfl (λn=>k λz=>n (z▸J)) E.live⟩
theorem GM{a:au}{x:am}{pos:aK}{Q:VS}{E:VS}{prog:a9}{w:a0}(J:xT a)(h:ak (aA prog w) A (eval a env) (λv s1=>ak (aA prog w) A (getAttr v x true) Q E s1) E s):ak (aA prog w) A (eval (.Attribute a x pos) env) Q E s:=by
 show ak _ _ (attributeBase a x env (eval a env)>>=_) _ _ _;rw[J];exact ao (aO h (λv s1 h1=>ao (dj (ao (bd (aO h1 (λu s2 h2=>ao (jW (ay h2))) λz z x=>x))))) λz z x=>x)
end
end
section
def Js(d:aa)(F:Fn)(sc:Sc)(st:aF)(J:MS):Prop:=
 ∀ {A:az} {C:Cx} {σ:Ob} {s:ai} {env:aD} {l:Loc},Here d (A.deeper env) sc env l C σ s->r0 (A.deeper env) (r7 env sc) C σ s (xu F J l) (exec st env) (RX env sc)
def zN(d:aa)(F:Fn)(sc:Sc)(J:O aF)(U:O MS):Prop:=
 ∀ {A:az} {C:Cx} {σ:Ob} {s:ai} {env:aD} {l:Loc},Here d (A.deeper env) sc env l C σ s->r0 (A.deeper env) (r7 env sc) C σ s (r8 F U l) (execs J env) (RX env sc)
section
variable{d:aa}{A:az}{X Y:O ag}{C C':Cx}{σ σ':Ob}{s s':ai}{sc:Sc}{F:Fn}{env:aD}{l:Loc}{α β γ δ:Type}
noncomputable def yA(t k:aa):ME:= .cmp (.var t) [.Eq] [.tup [.attr (.var k) 11, .attr (.var k) 10]]
theorem Zw{h:aq}{p:ag×O ag}{at_:O (aa×V)}(z:tm h C p (.inst 4 at_)){P:Prop}(k:∀ es n dd dat,InstAt h p.1 ⟨.ref (sK 4),some dd,dat, #[]⟩ (sK 4) (some (dictOf es n))->tx h C at_ es->P):P:=by
 cases z with
 |inst hc nd o pl fl ed as=>exact k _ _ _ _ (B8 hc o pl fl ed) as
theorem y5.Zx(XE:y5){M:ce}{B:az}{e:ag}{oe:aL}{Q:aj->ai->Prop}{E:VS}(hk:∀ {a o},G.h0.get? a=some o->s.heap.get? a=some o)(he:s.heap.get? e=some oe)(hc:oe.cls= .ref (sK 4))(J:Q true s):ak M B (excMatches (.ref e) (.ref (sK 4))) Q E s:=by
 obtain⟨i,U⟩:=XE.obj;exact wpAny_excMatches_sub_self (h:=s.heap) (hk U) he hc rfl J
theorem RM{a:ag}{t re:au}{x:am}{rp U:aK}{Q:cG->ai->Prop}(h0:∀ {Q:aj->ai->Prop} {E:VS},Q true s->ak sB (A.mark (some (.ref a))) (eval t env) (λc J=>ak sB (A.mark (some (.ref a))) (excMatches (.ref a) c) Q E J) E s)
  (h:ak sB (A.mark (some (.ref a))) (setFlight (.ref a) none) (λz J=>ak sB (A.mark (some (.ref a))) (storeName env x (.ref a)) (λz s₂=>ak sB (A.mark (some (.ref a))) (eval re env) (λv s₃=>ak sB A (do bindName env x .none;unbindBehindTheSuite env x U) (λz s'=>Q (.ret v) s') tg s₃) tg s₂) tg J) tg s):
  ak sB A (handleBy (.ref a) env [.ExceptHandler (some t) (some x) [.Return (some re) rp] U]) Q tg s:=
 wpAny_handleBy_cons (codeAny_handlers_test (h0 (codeAny_handlers_suite_as (aO h (λz z h=>aO h (λz z h=>jo (j8 (aO h (λz z h=>h) λz z=>bP))) λz z=>bP) λz z=>bP)))) (by intro q;cases q)
theorem KZ{x y nm uT:am}{kt:aa}{xp IK yp IL IM tp cp:aK}{B:az}{p:ag×O ag}{at_:O (aa×V)}{T y1 y2:V}{b:aj}{m:am->ax af}{vT:af}{Q:VS}(K:Classes)(U:(x==("__debug__":am))=false)(RN:(y==("__debug__":am))=false)(Fl:attrName 10=some nm)(h11:attrName 11=some uT)(hB:B.units+64<cLine)(hk:env.scope.kind= .function)(kx:env.kindOf x=some .local)(ky:env.kindOf y=some .local)
  (I:Inv C σ s) (hm:s.heap.Ns env.locals m) (hx:m x=some (.ref p.1)) (hy:m y=some vT) (hT:sg s.heap C T vT) (z:tm s.heap C p (.inst 4 at_)) (g1:at_.lookup 11=some y1) (g2:at_.lookup 10=some y2) (e:yD T (.tup [y1,y2]) σ=some (b,σ'))
  (hQ:∀ h' tk,(∀ {a o},s.heap.get? a=some o->h'.get? a=some o)->σ'=σ->Q (.bool b) {s with heap:=h',toks:=tk}):ak sB B (eval (.Compare (.Name y yp) [.Eq] [.Tuple [.Attribute (.Name x xp) uT IL, .Attribute (.Name x IK) nm IM] kt tp] cp) env) Q tg s:=
 Zw z λes n dd dat w3 w4=>((Bj h11 w4).1 y1 g1).elim λu1 q1=>((Bj Fl w4).1 y2 g2).elim λu2 q2=>K.exc.elim λD' FX=>by
  obtain⟨J,g,dr,tk,os⟩:=s;have DR:G.K.In J:=K.DR.keeps λw w=>I.uG;refine pz (dK (dJ hk ky hm hy ?_) RN) rfl;refine n5 (eG (GM (λw w w=>rfl) (dK (dJ hk kx hm hx (Hr FX DR w3 h11 q1.1 (handed q1.2) ?_)) U)));refine eG (GM (λw w w=>rfl) (dK (dJ hk kx hm hx (Hr FX DR w3 Fl q2.1 (handed q2.2) (ig ⟨(by decide:2<=sizeLine), ?_⟩))) U))
  have N5:Nx [] C ⟨J,g,dr,tk,os⟩ C σ ⟨J.push {cls:= .type "tuple",data:= .seq [u1,u2].toArray},g,dr,tk+1+1,os⟩:= .grow I λe=>aS _ e;have hU:sg (J.push {cls:= .type "tuple",data:= .seq [u1,u2].toArray}) C (.tup [y1,y2]) (.ref J.objs.size):= .tup (vW I) (AF (a8 _ rfl)) (.cons (q1.2.step N5.S) (.cons (q2.2.step N5.S) .nil));exact(Al.eq (P:=λb' Um=>(Um=σ->Q (.bool b') ⟨J.push {cls:= .type "tuple",data:= .seq [u1,u2].toArray},g,dr,tk+1+1,os⟩)->ak sB B (bI .Eq vT (.ref J.objs.size)) Q tg ⟨J.push {cls:= .type "tuple",data:= .seq [u1,u2].toArray},g,dr,tk+1+1,os⟩) N5.I (hT.step N5.S) hU λda db as bs r1 r2 Zy Zz k=>jF r1 r2 Zy Zz hB (k rfl)).get e (hQ _ _ λe=>aS _ e)
def IN(A:az)(env:aD)(hs:O fK)(Q:cG->ai->Prop)(e:af)(s:ai):Prop:=ak sB A (noteFrame e env) (λz J=>ak sB A (setFlight e none) (λz U=>ak sB A (handleBy e env hs) Q tg U) tg J) tg s
theorem IN.nx{hs:O fK}{rf:XR}{J:Ob}{e:af}{s'':ai}(N:Nx X C s C' σ' s')(h:IN A env hs (sY X C' s' (RX env sc) rf J) e s''):IN A env hs (sY X C s (RX env sc) rf J) e s'':=aO h (λz z h=>aO h (λz z h=>aO h (λz z=>sY.nx N) λz z=>id) λz z=>id) λz z=>id
theorem MH{xn x y nm uT:am}{t k kt:aa}{np xp IK yp IL IM tp cp rp hpos:aK}{i:aa}{e:af}(N:Names)(XE:y5)(K:Classes)(hxn:sc.kind xn=some .globalImplicit)(hdn:(xn==("__debug__":am))=false)(hv:Means xn (.ref (sK 4)))(hxs:sc.slots.lookup x=some k)(J:sc.kind x=some .local)(hdx:(x==("__debug__":am))=false)
  (hys:sc.slots.lookup y=some t) (Wd:sc.kind y=some .local) (RN:(y==("__debug__":am))=false) (hxy:y≠x) (Fl:attrName 10=some nm) (h11:attrName 11=some uT) (H:Here d (A.deeper env) sc env l C σ s) (hx:wd s.heap C i e):
  Al (M.bind (yW l k (.ref i)) (λl'=>zj (rZ F (yA t k) l')) σ) λrf sT=>IN (A.deeper env) env [.ExceptHandler (some (.Name xn np)) (some x) [.Return (some (.Compare (.Name y yp) [.Eq] [.Tuple [.Attribute (.Name x xp) uT IL, .Attribute (.Name x IK) nm IM] kt tp] cp)) rp] hpos] (sY (r7 env sc) C s (RX env sc) rf sT) e s:=
 Al.bind (m:=yW l k (.ref i)) (Al.guard (m:=M.pure (l.put k (.ref i))) λhk=>by
  have hkl:=aP hk;have htk:t≠k:=λz=>hxy (H.env.B5 (z▸hys) hxs);refine wd.casesOn (motive:=λe w=>wd s.heap C i e->Al (zj (rZ F (yA t k) (l.put k (.ref i))) σ) λrf sT=>IN (A.deeper env) env _ (sY (r7 env sc) C s (RX env sc) rf sT) e s) hx (λ{p dx vs} hp ho w hx=> ?_) hx;have hlt:i<σ.length:=H.I.len▸(bD.mp hp).1;refine(UG (H.I.rep (br hlt) hp) ho).elim λat_ hat=> ?_;have hσ:σ[i]?=some (.inst 4 at_):=(br hlt).trans (av some hat);refine Pd ((B9 hkl).trans (aN rfl)) hσ λT y1 y2 hT g1 g2=> .intro λb σ' e=>(Du H.pl.frs).elim λouter f=>KV (X:=[]) H.I f.1 f.2 hx λs2 N2 YD=> ?_;rw[B9 hkl,aI htk] at hT
  have R2:=H.env.ext N2.E;refine wd.casesOn (motive:=λe' w=>a7 p.1=e'->ak _ _ (handleBy (.ref p.1) env _) (sY (r7 env sc) C s (RX env sc) (.ret (.bool b)) σ') tg s2) YD (λ{p' dx2 vs2} hp' ho2 r2 ep=> ?_) rfl;have uI:=aE (hp.symm.trans hp');subst uI;have ZA:∀ {Q:aj->ai->Prop} {E:VS},Q true s2->ak sB ((A.deeper env).mark (some (.ref p.1))) (excMatches (.ref p.1) (.ref (sK 4))) Q E s2:=λhq=>XE.Zx N2.I.uG ho2 rfl hq;refine RM (λhq=>vQ N R2 N2.I hxn hdn hv (ZA hq)) (MD ho2 rfl r2 λh3 k3=> ?_);have N3:Nx [] C s2 C σ {s2 with heap:=h3}:= .grow N2.I k3
  have U:=R2.ext N3.E;have ko:∀ {z},sc.kind z=some .local->env.kindOf z=some .local:=λhz=>by unfold dA;rw[U.scope];exact hz
  refine U.locs.elim λm3 z3=>mT (ko J) z3.1 (λh4 ZB S4=> ?_) (by rw[U.kind];rfl)
  have N4:=GL (sc:=sc) (tk:=s2.toks+1) N3.I U.sj ZB S4;refine(z3.2 hys Wd T hT).elim λvT gT=>KZ (p:=p) K hdx RN Fl h11 H.A.MW U.kind (ko J) (ko Wd) N4.I ZB (aN rfl) ((aI hxy).trans gT.1) (gT.2.step N4.S) (N4.I.rep hσ hp) g1 g2 e λh5 tk k5 es=> ?_;cases es;have N5:Nx (r7 env sc) C _ C σ _:= .grow (s':=⟨h5,s2.gens,s2.drawn,tk,s2.os⟩) N4.I k5;refine(Hi k5 ZB).elim λm5 hm5=>wpAny_nameGoes (ko J) hm5 (by rw[U.kind];rfl) λh6 m6 hm6 S6=> ?_
  have N6:=GL (sc:=sc) (tk:=tk+1) N5.I U.sj hm6 S6;exact .mk ⟨(N2.up.E.trans N3.up.E).trans (N4.E.trans (N5.E.trans N6.E)),N6.I⟩ (.ret .bool))
end
section
variable{d:aa}{A:az}{X Y:O ag}{C C':Cx}{σ σ':Ob}{s s':ai}{sc:Sc}{F:Fn}{env:aD}{l:Loc}{α β γ δ:Type}
theorem RO{body:O aF}{h0:fK}{hs:O fK}{mb U:O MS}{pos:aK}(hbody:xw d F sc body mb):wG d F sc (.Try body (h0::hs) [] [] pos) (.DF mb U):=λ{A C σ s env l} H=>
 (hbody H).imp λrf sT z=>pA (aO z (λf s1 J=>by
  cases f with
  |next=>exact ay J
  |_=>exact J) λy y=>bP)
theorem ZC{t e2:au}{mt me:ME}{p2:aK}{W:V}{v:af}(ht:sA d F sc t mt)(he:sA d F sc e2 me)(H:Here d A sc env l C σ s)(hv:sg s.heap C W v):
  Al (M.bind (rZ F mt l) (λy=>M.bind (yD W y) λb=>if b then zj (rZ F me l) else M.pure (.ret (.bool false))) σ) λrf sT=>ak sB A (eval t env) (λb s2=>ak sB A (bI .Eq v b) (λv s3=>ak sB A (standAt p2>>=λx=>c7 [v] (truthy v)>>=λt=>match jp,t with| .And,false=>pure v| .Or,true=>pure v|_,_=>boolOp p2 .And [eval e2 env]) (λJ U=>sY (r7 env sc) C s (RX env sc) rf sT (.ret J) U) tg s3) tg s2) tg s:=
 r0.An (T:=λb s2 rf sT=>ak sB A (bI .Eq v b) (λv s3=>ak sB A (standAt p2>>=λx=>c7 [v] (truthy v)>>=λt=>match jp,t with| .And,false=>pure v| .Or,true=>pure v|_,_=>boolOp p2 .And [eval e2 env]) (λJ U=>sY (r7 env sc) C s (RX env sc) rf sT (.ret J) U) tg s3) tg s2) H (ht H) λy u C1 σ1 s1 H1 N1 hu=>
  Al.bind (m:=yD W y) (f:=λb=>if b then zj (rZ F me l) else M.pure (.ret (.bool false))) (Al.eq H1.I (hv.step (N1 (X:=[])).S) hu λda db as bs r1 r2 Zy Zz=>by
   have k:Al ((if dk da db then zj (rZ F me l) else M.pure (.ret (.bool false))) σ1) λrf sT=>ak sB A (standAt p2>>=λx=>c7 [.bool (dk da db)] (truthy (.bool (dk da db)))>>=λt=>match jp,t with| .And,false=>pure (.bool (dk da db))| .Or,true=>pure (.bool (dk da db))|_,_=>boolOp p2 .And [eval e2 env]) (λJ U=>sY (r7 env sc) C s (RX env sc) rf sT (.ret J) U) tg s1:=by
    cases dk da db with
    |false=>exact ao (dj (ao (bd (pB (ay (.mk N1 (.ret .bool)))))))
    |true=>exact(r0.An (f:=λv=>M.pure (XR.ret v)) (T:=λJ U rf sT=>sY (r7 env sc) C s (RX env sc) rf sT (.ret J) U) H1 (he H1) λa b C2 σ2 s2 H2 N2 r=> .mk ⟨N1.E.trans (N2 (X:=r7 env sc)).E,H2.I⟩ (.ret r)).imp λx x z=>ao (dj (ao (bd (pB z))))
   exact k.imp λrf sT z=>jF r1 r2 Zy Zz H1.A.MW z)
def ZD(F:Fn)(mo:ME)(sU:O ME)(mt me:ME)(k:aa)(J:ME)(l:Loc):Internal.X:=M.bind (rZ F mo l) λv=>M.bind (uQ (uw raiser) v) λz=>M.bind (sR F sU l) λvs=>M.bind (F raiser (v::vs)) (BY (λr=>M.bind (rZ F mt l) λy=>M.bind (yD r y) λb=>if b then zj (rZ F me l) else M.pure (.ret (.bool false))) λi=>M.bind (yW l k (.ref i)) λl'=>zj (rZ F J l'))
theorem RP{ZE:aF}{m0:MS}{o t e2:au}{mo mt me:ME}{es:O au}{sU:O ME}{cx xn x y nm uT:am}{tk k kt:aa}{a:ag}{apos J p1 p2 p3 np xp IK yp IL IM tp cp rp U pos:aK}(N:Names)(XE:y5)(K:Classes)(h0:wG d F sc ZE m0)(hS:EQ d (F raiser) a)(hM:Cg (uw raiser) cx a)(hb:xT o)(hline:(apos.endLine==J.line)=true)(hl:es.length<20)(hs:∀ e∈es,s9 e)(ho:sA d F sc o mo)(hes:tj (sA d F sc) es sU)(ht:sA d F sc t mt)(htm:behindInMarks .Eq t=false)(he:sA d F sc e2 me)
  (hxn:sc.kind xn=some .globalImplicit) (hdn:(xn==("__debug__":am))=false) (hv:Means xn (.ref (sK 4))) (hxs:sc.slots.lookup x=some k) (hxk:sc.kind x=some .local) (hdx:(x==("__debug__":am))=false)
  (hys:sc.slots.lookup y=some tk) (Wd:sc.kind y=some .local) (RN:(y==("__debug__":am))=false) (hxy:y≠x) (Fl:attrName 10=some nm) (h11:attrName 11=some uT):
  Js d F sc (.Try [ZE, .Return (some (.BoolOp .And [.Compare (.Call (.Attribute o cx apos) es [] J) [.Eq] [t] p1,e2] p2)) p3] [.ExceptHandler (some (.Name xn np)) (some x) [.Return (some (.Compare (.Name y yp) [.Eq] [.Tuple [.Attribute (.Name x xp) uT IL, .Attribute (.Name x IK) nm IM] kt tp] cp)) rp] U] [] [] pos) (.DG [m0] mo sU mt me k (yA tk k)):=λ{A C σ s env l} H=>by
 refine Al.imp (P:=λrf sT=>ak sB (A.deeper env) (execs [ZE, .Return (some (.BoolOp .And [.Compare (.Call (.Attribute o cx apos) es [] J) [.Eq] [t] p1,e2] p2)) p3] env) (λf s'=>sY (r7 env sc) C s (RX env sc) rf sT f s'/\f≠ .next) (IN (A.deeper env) env [.ExceptHandler (some (.Name xn np)) (some x) [.Return (some (.Compare (.Name y yp) [.Eq] [.Tuple [.Attribute (.Name x xp) uT IL, .Attribute (.Name x IK) nm IM] kt tp] cp)) rp] U] (sY (r7 env sc) C s (RX env sc) rf sT)) s) ?_ λrf sT z=>pA (aO z (λf s1 q=>by
  cases f with
  |next=>exact aC rfl q.2
  |_=>exact q.1) λw w=>id)
 show Al (M.bind (M.bind (M.bind (xu F m0 l) (XR.xt (r8 F []))) vz) (ZD F mo sU mt me k (yA tk k)) σ) _;refine Al.assoc (n:=vz) (Al.assoc (m:=xu F m0 l) (n:=XR.xt (r8 F [])) (Dd (K:=λf=>match f with| .next=>execs [.Return (some (.BoolOp .And [.Compare (.Call (.Attribute o cx apos) es [] J) [.Eq] [t] p1,e2] p2)) p3] env|f=>pure f) (h0 H) λrt f C1 σ1 s1 N1 R=> ?_))
 refine RX.casesOn (motive:=λrt f w=>Al (M.bind (XR.xt (r8 F []) rt) (λx=>M.bind (vz x) (ZD F mo sU mt me k (yA tk k))) σ1) λrf sT=>ak sB (A.deeper env) (match f with| .next=>execs [.Return (some (.BoolOp .And [.Compare (.Call (.Attribute o cx apos) es [] J) [.Eq] [t] p1,e2] p2)) p3] env|f=>pure f) (λf s'=>sY (r7 env sc) C s (RX env sc) rf sT f s'/\f≠ .next) (IN (A.deeper env) env [.ExceptHandler (some (.Name xn np)) (some x) [.Return (some (.Compare (.Name y yp) [.Eq] [.Tuple [.Attribute (.Name x xp) uT IL, .Attribute (.Name x IK) nm IM] kt tp] cp)) rp] U] (sY (r7 env sc) C s (RX env sc) rf sT)) s1) R (λ{l1} R=> ?_) (λw=>ah) (λw=>ah) λw=>ah
 have H1:=H.stored N1 R;refine Al.imp (MC (Q:=λrf sT v s'=>ak sB (A.deeper env) (eval t env) (λb s2=>ak sB (A.deeper env) (bI .Eq v b) (λv s3=>ak sB (A.deeper env) (standAt p2>>=λw=>c7 [v] (truthy v)>>=λt=>match jp,t with| .And,false=>pure v| .Or,true=>pure v|_,_=>boolOp p2 .And [eval e2 env]) (λv' s4=>sY (r7 env sc) C s (RX env sc) rf sT (.ret v') s4) tg s3) tg s2) tg s') (E:=λrf sT=>IN (A.deeper env) env [.ExceptHandler (some (.Name xn np)) (some x) [.Return (some (.Compare (.Name y yp) [.Eq] [.Tuple [.Attribute (.Name x xp) uT IL, .Attribute (.Name x IK) nm IM] kt tp] cp)) rp] U] (sY (r7 env sc) C s (RX env sc) rf sT)) K hS hM hb hline hl hs ho hes H1 (λW v C2 σ2 s2 N2 hv=> ?_) λi e C2 σ2 s2 N2 hx=> ?_) λrf sT z=>jo (j8 (ao (pz (aO z (λv s2 h=>aO h (λb s3 h=>aO h (λv s4 h=>aO h (λw w h=>⟨h,λz=>nomatch z⟩) λw w=>bP) λw w=>bP) λw w=>bP) λw w=>id) htm)))
 ·exact(ZC ht he (H1.next N2) hv).imp λrf sT z=>aO z (λb s2 h=>aO h (λv s3 h=>aO h (λv s4 h=>h.nx ⟨N1.E.trans N2.up.E,N2.I⟩) λw w=>id) λw w=>id) λw w=>id
 ·exact(MH N XE K hxn hdn hv hxs hxk hdx hys Wd RN hxy Fl h11 (H1.next N2) hx).imp λrf sT z=>z.nx ⟨N1.E.trans N2.up.E,N2.I⟩
theorem IO{J:O aF}{U:O MS}(h:xw d F sc J U):zN d F sc J U:=λH=>h H
theorem Fm{st:aF}{J:O aF}{ms:MS}{U:O MS}(h1:Js d F sc st ms)(h2:zN d F sc J U):zN d F sc (st::J) (ms::U):=λ{A C σ s env l} H=>
 r0.bind (m:=xu F ms l) (f:=XR.xt (r8 F U)) (g:=λf=>match f with| .next=>execs J env|f=>pure f) (h1 H) λrt f C' σ' s' N R=>
  RX.casesOn (motive:=λrt f z=>r0 (A.deeper env) (r7 env sc) C' σ' s' (XR.xt (r8 F U) rt) (match f with| .next=>execs J env|f=>pure f) (RX env sc)) R (λR=>h2 (H.stored N R)) (λR=> .pure N.I (.brk R)) (λR=> .pure N.I (.cont R)) λR=> .pure N.I (.ret R)
theorem UH{a:ag}{r:MF}{scope:aQ}{as:O bp}{body:O aF}(D:Kj a r scope as body)(J:zN d F (Sc.fn r scope) body r.body):y0 (d+1) (zV F r) a:=λ{A X C σ s args us} P U=>
 Al.guard (m:=M.bind (r8 F r.body (uZ r args)) XR.val) λhl=>Al.bind (.intro λrf sT e=> .intro λv σ' e2=>Q2 D P U (eq_of_beq hl) λenv s1 H hN hk=>aO ((J H).get e) (λf s' x=>(Q3 P.I hk hN x).get e2) λz z=>bP)
end
end
section
noncomputable def dE:au:= .Constant .none 0 default
structure Vw where
 kids:O au:=[]
 k:aa:=0
 nm:am:=default
 gens:O bf:=[]
 scope:aQ:=default
 cut:O (ax au):=[]
def vw:au->Vw
 | .BoolOp _ vs _=>{kids:=vs}
 | .BinOp l _ r _=>{kids:=[l,r]}
 | .UnaryOp _ x _=>{kids:=[x]}
 | .IfExp t a b _=>{kids:=[t,a,b]}
 | .Dict ks vs _=>{kids:=ks.map (·.getD dE)++vs}
 | .ListComp e g s _=>{kids:=[e],gens:=g,scope:=s}
 | .Compare l _ J _=>{kids:=l::J}
 | .Call f as _ _=>{kids:=f::as}
 | .Attribute v _ _=>{kids:=[v]}
 | .Subscript v s _=>{kids:=[v,s]}
 | .List es _=>{kids:=es}
 | .Tuple es k _=>{kids:=es,k:=k}
 | .Constant _ k _=>{k:=k}
 | .Name x _=>{nm:=x}
 | .Slice a b c _=>{cut:=[a,b,c]}
 |_=>{}
def kids(e:au):O au:=(vw e).kids
def kid(e:au)(i:aa):au:=(vw e).kids.getD i dE
def GN(e:au):aa:=(vw e).k
def xJ(e:au):am:=(vw e).nm
def cut(e:au)(i:aa):ax au:=(vw e).cut.getD i none
noncomputable def xK(sc:Sc)(x:am):aj:=sc.kind x==some .globalImplicit&& !(x==("__debug__":am))
noncomputable def Bw(sc:Sc)(x:am)(k:aa):aj:=sc.slots.lookup x==some k&&((sc.kind x==some .local||(sc.kind x==some .cell||sc.kind x==some .free))&&(!(x==("__debug__":am))&& !(x==("__classdict__":am))))
noncomputable def Cp(sc:Sc)(x:am)(k:aa):aj:=sc.slots.lookup x==some k&&(sc.kind x==some .local||(sc.kind x==some .cell&&sc.own.contains x))
noncomputable def Eh:Bt->bc
 | .abs=>"abs"| .len=>"len"| .vE=>"range"| .AQ=>"range"| .sorted=>"sorted"| .u7=>"sorted"| .yT=>"len"| .list=>"list"| .tuple=>"tuple"| .max2=>"max"| .min2=>"min"| .JF=>"max"| .min1=>"min"| .sum=>"sum"| .dict=>"dict"
def By(f:aa):am:=aJ ((fnName f).getD ("",0)).1
def Jt(f c:aa):aj:=(fnName f).any (·.2==c)
def K4(c:aa):am:=aJ ((zH[c]?).getD "")
def We(n:aa):am:=(attrName n).getD default
def constOf:V->Const
 | .int i=> .int i
 | .bool b=> .bool b
 | .str c=> .str ((sV c).getD default)
 |_=> .none
def ZF:V->aj
 | .int _=>true
 | .bool _=>true
 | .none=>true
 | .str c=>(sV c).isSome
 |_=>false
noncomputable def bOp:aj->iR
 |true=> .And
 |false=> .Or
noncomputable def Ju{α:Type}:O α->aj
 |[]=>false
 |_::_=>true
section
variable{α β:Type}
def wf(f:α->au->au):O α->O au->O au
 |[],_=>[]
 |m::J,es=>f m (es.headD dE)::wf f J es.tail
def wU(f:α->au->aj):O α->O au->aj
 |[],_=>true
 |m::J,es=>f m (es.headD dE)&&wU f J es.tail
end
def UI(e:au):O am:=if(kids e).isEmpty then[xJ e] else(kids e).map xJ
noncomputable def zw:O MT->O aa
 |[]=>[]
 |t::ts=>(match t with| .var k=>k|_=>0)::zw ts
noncomputable def K5:O MT->aj
 |[]=>true
 |t::ts=>(match t with| .var _=>true|_=>false)&&K5 ts
def Ar:MT->O aa
 | .var k=>[k]
 | .tup ts=>zw ts
 |_=>[]
def Pe:MT->aj
 | .var _=>true
 | .tup ts=>K5 ts
 |_=>false
noncomputable def xL{α:Type}[BEq α]:O α->aj
 |[]=>true
 |x::xs=> !xs.contains x&&xL xs
def RR(sc:Sc)(own:O (am×aa))(p:am×cL):aj:=match p.2 with
 | .free=>(own.lookup p.1).isNone&&((sc.slots.lookup p.1).isSome&&(sc.kind p.1==some .cell||sc.kind p.1==some .free))
 | .local=>(sc.slots.lookup p.1).isNone||(own.lookup p.1).isSome
 | .cell=>(own.lookup p.1).isSome
 |_=>true
noncomputable def isFun:ScopeKind->aj
 | .function=>true
 |_=>false
def No(sc:Sc)(scope:aQ)(own:O (am×aa)):aj:=
 isFun scope.kind&&(xL (scope.names.map (·.1))&&(scope.names.all (RR sc own)&&(xL (own.map (·.1))&&(xL (own.map (·.2))&&own.all λp=>sc.slots.all λq=> !(q.2==p.2)))))
noncomputable def abp:MG->MT
 | .g t _ _=>t
def A0(tM:O MG):O aa:=tM.flatMap λg=>Ar (abp g)
def AJ(gens:O bf)(ks:O aa):O (am×aa):=(gens.flatMap λg=>UI g.target).zip ks
def Xc:ME->aj
 | .c v=>isNone v
 |_=>false
noncomputable def isTup:MT->aj
 | .tup _=>true
 |_=>false
noncomputable def y6:ME->aj
 | .var _=>true
 | .attr _ _=>true
 | .item _ _=>true
 |_=>false
noncomputable def oneOf:O ME->aj
 |[]=>false
 |_::r=>r.isEmpty
structure Un where
 E:Sc->ME->au->au
 ok:Sc->ME->au->aj
 Ab:Sc->ME->au->aj
 A:Sc->MT->au->au
 IP:Sc->MT->au->aj
section
variable(u:Un)
def Np(sc:Sc):MI->au->au
 | .e a,e=>u.E sc a e
 | .zip a b,e=> .Call (.Name "zip" (kid e 0).pos) [u.E sc a (kid e 1),u.E sc b (kid e 2)] [] e.pos
def ZG(sc:Sc)(t:MT):MI->au->aj
 | .e a,e=>u.ok sc a e
 | .zip a b,e=>isTup t&&(xK sc "zip"&&(u.ok sc a (kid e 1)&&u.ok sc b (kid e 2)))
def unG(sc si:Sc):MG->bf->bf
 | .g t it ifs,g=>⟨u.A sc t g.target,Np u si it g.iter,wf (u.E sc) ifs g.ifs,0⟩
def Pf(sc si:Sc):MG->bf->aj
 | .g t it ifs,g=>Pe t&&(u.IP sc t g.target&&(wU (u.Ab sc) ifs g.ifs&&ZG u si t it g.iter))
def UJ(sc:Sc):O MG->O bf->O bf
 |[],_=>[]
 |m::J,gs=>unG u sc sc m (gs.headD ⟨dE,dE,[],0⟩)::UJ sc J gs.tail
def UK(sc:Sc):O MG->O bf->aj
 |[],_=>true
 |m::J,gs=>Pf u sc sc m (gs.headD ⟨dE,dE,[],0⟩)&&UK sc J gs.tail
def RU(sc si:Sc):O MG->O bf->O bf
 |[],_=>[]
 |m::J,gs=>unG u sc si m (gs.headD ⟨dE,dE,[],0⟩)::UJ u sc J gs.tail
def ZH(sc si:Sc):O MG->O bf->aj
 |[],_=>false
 |m::J,gs=>Pf u sc si m (gs.headD ⟨dE,dE,[],0⟩)&&UK u sc J gs.tail
def inner(sc:Sc)(ks:O aa)(e:au):Sc:=sc.comp (vw e).scope (AJ (vw e).gens ks)
def RW(sc:Sc)(ks:O aa)(me:ME)(tM:O MG)(e:au):au:= .ListComp (u.E (inner sc ks e) me (kid e 0)) (RU u (inner sc ks e) sc tM (vw e).gens) (vw e).scope e.pos
def Ei(sc:Sc)(ks:O aa)(me:ME)(tM:O MG)(e:au):aj:=
 (AJ (vw e).gens ks).map (·.2)==ks&&(No sc (vw e).scope (AJ (vw e).gens ks)&&(u.ok (inner sc ks e) me (kid e 0)&&(ZH u (inner sc ks e) sc tM (vw e).gens&&(A0 tM==ks&&xL ks))))
noncomputable def Wf(sc:Sc)(m:ME)(o:ax au):ax au:=o.map (u.E sc m)
def Wg(sc:Sc)(m:ME):ax au->aj
 |some e=>u.ok sc m e
 |none=>Xc m
def cN(i:ae)(e:au):au:= .Constant (.int i) (GN e) e.pos
def cS(c:aa)(e:au):au:= .Constant (.str ((sV c).getD default)) (GN e) e.pos
def ZI(op:dT)(c:aa)(e:au)(x:am):au:=
 .Tuple [cN 1 (kid e 0),cS c (kid e 1), .BinOp (.Subscript (.Name x (kid (kid (kid e 2) 0) 0).pos) (cN 1 (kid (kid (kid e 2) 0) 1)) (kid (kid e 2) 0).pos) op (cN 1 (kid (kid e 2) 1)) (kid e 2).pos] (GN e) e.pos
def dX(e:au):am:=xJ (kid (kid (kid (kid (kid (kid e 0) 0) 2) 2) 0) 0)
def abq(e:au):au:=
 .Call (.Attribute (.Dict [some (cS 39 (kid (kid (kid e 0) 0) 0)),some (cS 37 (kid (kid (kid e 0) 0) 1))] [ZI .Sub 2 (kid (kid (kid e 0) 0) 2) (dX e),ZI .Add 4 (kid (kid (kid e 0) 0) 3) (dX e)] (kid (kid e 0) 0).pos) "get" (kid e 0).pos)
  [.Subscript (.Name (xJ (kid (kid e 1) 0)) (kid (kid e 1) 0).pos) (cN 0 (kid (kid e 1) 1)) (kid e 1).pos, .Constant .none (GN (kid e 2)) (kid e 2).pos] [] e.pos
noncomputable def isSet:Bt->aj
 | .u7=>true
 | .yT=>true
 |_=>false
def ZJ(sc:Sc)(b:Bt)(es:O ME)(e:au):O au:=if isSet b then[.Call (.Name "set" (kid (kid e 1) 0).pos) (wf (u.E sc) es (kids (kid e 1)).tail) [] (kid e 1).pos] else wf (u.E sc) es (kids e).tail
def okN(b:Bt)(es:O ME):aj:=match b with| .dict=>oneOf es| .sorted=>true|b=>Gp b
def Pg(sc:Sc)(b:Bt)(es:O ME)(e:au):aj:=match isSet b with
 |true=>oneOf es&&(xK sc "set"&&wU (u.ok sc) es (kids (kid e 1)).tail)
 |false=>okN b es&&wU (u.ok sc) es (kids e).tail
def tW(sc:Sc):ME->au->au
 | .c v,e=> .Constant (constOf v) (GN e) e.pos
 | .var _,e=> .Name (xJ e) e.pos
 | .glob i,e=> .Name (aJ ((xR[i]?).getD "")) e.pos
 | .bool b es,e=> .BoolOp (bOp b) (wf (u.E sc) es (kids e)) e.pos
 | .bin op a b,e=> .BinOp (u.E sc a (kid e 0)) op (u.E sc b (kid e 1)) e.pos
 | .not a,e=> .UnaryOp .Not (u.E sc a (kid e 0)) e.pos
 | .neg a,e=> .UnaryOp .USub (u.E sc a (kid e 0)) e.pos
 | .ite t a b,e=> .IfExp (u.E sc t (kid e 0)) (u.E sc a (kid e 1)) (u.E sc b (kid e 2)) e.pos
 | .due _ _,e=>abq e
 | .list es,e=> .List (wf (u.E sc) es (kids e)) e.pos
 | .tup es,e=> .Tuple (wf (u.E sc) es (kids e)) (GN e) e.pos
 | .cmp a ops es,e=> .Compare (u.E sc a (kid e 0)) ops (wf (u.E sc) es (kids e).tail) e.pos
 | .comp ks me tM,e=>RW u sc ks me tM e
 | .item a i,e=> .Subscript (u.E sc a (kid e 0)) (u.E sc i (kid e 1)) e.pos
 | .slice a lo hi st,e=> .Subscript (u.E sc a (kid e 0)) (.Slice (Wf u sc lo (cut (kid e 1) 0)) (Wf u sc hi (cut (kid e 1) 1)) (Wf u sc st (cut (kid e 1) 2)) (kid e 1).pos) e.pos
 | .attr a n,e=> .Attribute (u.E sc a (kid e 0)) (We n) e.pos
 | .call f es,e=> .Call (.Name (By f) (kid e 0).pos) (wf (u.E sc) es (kids e).tail) [] e.pos
 | .new c _ es,e=> .Call (.Name (K4 c) (kid e 0).pos) (wf (u.E sc) es (kids e).tail) [] e.pos
 | .tt f a es,e=> .Call (.Attribute (u.E sc a (kid (kid e 0) 0)) (By f) (kid e 0).pos) (wf (u.E sc) es (kids e).tail) [] e.pos
 | .uh m a es,e=> .Call (.Attribute (u.E sc a (kid (kid e 0) 0)) (aJ (J4 m)) (kid e 0).pos) (wf (u.E sc) es (kids e).tail) [] e.pos
 | .bt b es,e=> .Call (.Name (aJ (Eh b)) (kid e 0).pos) (ZJ u sc b es e) [] e.pos
 | .wj a b,e=> .Call (.Name "dict" (kid e 0).pos) [.Call (.Name "zip" (kid (kid e 1) 0).pos) [u.E sc a (kid (kid e 1) 1),u.E sc b (kid (kid e 1) 2)] [] (kid e 1).pos] [] e.pos
 | .isA a t,e=> .Call (.Name "isinstance" (kid e 0).pos) [u.E sc a (kid e 1), .Name (aJ (tyName t)) (kid e 2).pos] [] e.pos
 | .bad,e=>dE
def A1(e:au):aj:=(kid e 0).pos.endLine==e.pos.line
def wg(sc:Sc):ME->au->aj
 | .c v,e=>ZF v
 | .var k,e=>Bw sc (xJ e) k
 | .glob i,e=>decide (i<6)&&xK sc (aJ ((xR[i]?).getD ""))
 | .bool b es,e=>Ju es&&wU (u.ok sc) es (kids e)
 | .bin op a b,e=>u.ok sc a (kid e 0)&&u.ok sc b (kid e 1)
 | .not a,e=>u.ok sc a (kid e 0)
 | .neg a,e=>u.ok sc a (kid e 0)
 | .ite t a b,e=>u.Ab sc t (kid e 0)&&(u.ok sc a (kid e 1)&&u.ok sc b (kid e 2))
 | .due k g,e=>Bw sc (dX e) k&&(Bw sc (xJ (kid (kid e 1) 0)) g&&A1 e)
 | .list es,e=>decide (es.length<=64)&&wU (u.ok sc) es (kids e)
 | .tup es,e=>decide (es.length<=64)&&wU (u.ok sc) es (kids e)
 | .cmp a ops es,e=>u.ok sc a (kid e 0)&&(wU (u.ok sc) es (kids e).tail&&(ops.length==es.length&&(Ju es&& !lastMarks ops (wf (u.E sc) es (kids e).tail))))
 | .comp ks me tM,e=>Ei u sc ks me tM e
 | .item a i,e=>u.ok sc a (kid e 0)&&u.ok sc i (kid e 1)
 | .slice a lo hi st,e=>u.ok sc a (kid e 0)&&(Wg u sc lo (cut (kid e 1) 0)&&(Wg u sc hi (cut (kid e 1) 1)&&Wg u sc st (cut (kid e 1) 2)))
 | .attr a n,e=>y6 a&&((attrName n).isSome&&u.ok sc a (kid e 0))
 | .call f es,e=>Jt f 99&&(xK sc (By f)&&wU (u.ok sc) es (kids e).tail)
 | .new c f es,e=>fnName f==some ("__init__",c)&&(decide (c<=3)&&(xK sc (K4 c)&&wU (u.ok sc) es (kids e).tail))
 | .tt f a es,e=>(fnName f).any (λq=>decide (q.2<=3)&&q.1 !="__init__")&&(!(f==raiser)&&(y6 a&&(A1 e&&(decide (es.length<20)&&(u.ok sc a (kid (kid e 0) 0)&&wU (u.ok sc) es (kids e).tail)))))
 | .uh m a es,e=>y6 a&&(A1 e&&(decide (es.length<20)&&(u.ok sc a (kid (kid e 0) 0)&&wU (u.ok sc) es (kids e).tail)))
 | .bt b es,e=>xK sc (aJ (Eh b))&&Pg u sc b es e
 | .wj a b,e=>xK sc "dict"&&(xK sc "zip"&&(u.ok sc a (kid (kid e 1) 1)&&u.ok sc b (kid (kid e 1) 2)))
 | .isA a t,e=>xK sc "isinstance"&&(xK sc (aJ (tyName t))&&u.ok sc a (kid e 1))
 | .bad,e=>false
def RY(sc:Sc):ME->au->aj
 | .not a,e=>u.Ab sc a (kid e 0)
 | .bool b es,e=>wU (u.Ab sc) es (kids e)
 | .ite t a b,e=>u.Ab sc t (kid e 0)&&(u.Ab sc a (kid e 1)&&u.Ab sc b (kid e 2))
 | .cmp a ops es,e=>wg u sc (.cmp a ops es) e
 | .c v,e=>ZF v
 | .var k,e=>Bw sc (xJ e) k
 | .attr a n,e=>wg u sc (.attr a n) e
 | .call f es,e=>wg u sc (.call f es) e
 | .tt f a es,e=>wg u sc (.tt f a es) e
 | .isA a t,e=>wg u sc (.isA a t) e
 |_,_=>false
def wN(sc:Sc):MT->au->au
 | .var _,e=> .Name (xJ e) e.pos
 | .tup ts,e=> .Tuple (wf (u.A sc) ts (kids e)) (GN e) e.pos
 | .attr a n,e=> .Attribute (u.E sc a (kid e 0)) (We n) e.pos
 | .item a i,e=> .Subscript (u.E sc a (kid e 0)) (u.E sc i (kid e 1)) e.pos
def HN(sc:Sc):MT->au->aj
 | .var k,e=>Cp sc (xJ e) k
 | .tup ts,e=>wU (u.IP sc) ts (kids e)
 | .attr a n,e=>(attrName n).isSome&&u.ok sc a (kid e 0)
 | .item a i,e=>u.ok sc a (kid e 0)&&u.ok sc i (kid e 1)
end
def FW:aa->Un
 |0=>⟨λz z z=>dE,λz z z=>false,λz z z=>false,λz z z=>dE,λz z z=>false⟩
 |n+1=>⟨tW (FW n),wg (FW n),RY (FW n),wN (FW n),HN (FW n)⟩
end
section
structure Hy(d:aa)(F:Fn):Prop where
 K:Classes
 N:Names
 XE:y5
 fn:∀ f nm,fnName f=some (nm,99)->∃ a,(keepIn G.K (.ref a)=true/\Means (aJ nm) (.ref a))/\y0 d (F f) a
 me:∀ f nm c,fnName f=some (nm,c)->c<=3->nm≠"__init__"->∃ a,Cg (uw f) (aJ nm) a/\(f≠raiser->y0 d (F f) a)/\(f=raiser->EQ d (F f) a)
 new:∀ f c,fnName f=some ("__init__",c)->c<=3->∃ a,Jq c a/\y0 d (F f) a
 cls:∀ c nm,zH[c]?=some nm->Means (aJ nm) (.ref (sK c))
 bt:∀ p∈AE,Means (aJ p.1) p.2
 gl:∀ i nm,xR[i]?=some nm->D8 i (aJ nm)
structure ZK(e:au):Prop where
 p:s9 e
 s:Hq e
 f:Cd e
structure Sound(d:aa)(F:Fn)(u:Un):Prop where
 E:∀ {sc m e},u.ok sc m e=true->sA d F sc (u.E sc m e) m
 T:∀ {sc m e},u.Ab sc m e=true->vA d F sc (u.E sc m e) m
 A:∀ {sc m e},u.IP sc m e=true->x9 d F sc (u.A sc m e) m
 P:∀ {sc m e},u.ok sc m e=true->ZK (u.E sc m e)
 B:∀ {sc m e},u.ok sc m e=true->y6 m=true->xT (u.E sc m e)
 Q:∀ {sc m e},u.IP sc m e=true->Ca (u.A sc m e)
 Z:∀ {sc m e},u.IP sc m e=true->isTup m=true->∃ es k p,u.A sc m e= .Tuple es k p
section
variable{d:aa}{F:Fn}{sc si:Sc}{u:Un}
theorem uz{x:am}(h:xK sc x=true):sc.kind x=some .globalImplicit/\(x==("__debug__":am))=false:=⟨eq_of_beq (rY h).1,cH _▸(rY h).2⟩
theorem FY{x:am}{k:aa}(h:Bw sc x k=true):D9 sc x k:=⟨eq_of_beq (rY h).1,((fL _ _).mp (rY (rY h).2).1).imp eq_of_beq λh=>((fL _ _).mp h).imp eq_of_beq eq_of_beq,cH _▸(rY (rY (rY h).2).2).1,cH _▸(rY (rY (rY h).2).2).2⟩
theorem Au{x:am}{k:aa}(h:Cp sc x k=true):sc.takes x k:=⟨eq_of_beq (rY h).1,((fL _ _).mp (rY h).2).imp eq_of_beq λh=>⟨eq_of_beq (rY h).1,df.mp (rY h).2⟩⟩
theorem wz{α:Type}[BEq α][fY α]{l:O α}:xL l=true->l.Nodup:=by
 induction l with
 |nil=>exact λy=>c6
 |cons x xs J=>exact λh=>b7.mpr ⟨λz=>ff ((cH _▸(rY h).1:xs.contains x=false).symm.trans (df.mpr z)),J (rY h).2⟩
theorem isSome_of{α:Type}{o:ax α}{x:α}(h:o.isSome=true):o=some (o.getD x):=by
 cases o with
 |none=>exact ff h
 |some _=>rfl
theorem UL{scope:aQ}{own:O (am×aa)}(h:No sc scope own=true):DX sc scope own:=by
 have h2:=rY (rY h).2;have h3:=rY h2.2;have J:=rY h3.2;have U:=rY J.2;have n:=λp hp=>bh.mp h3.1 p hp;have nm:∀ {p k},p∈scope.names->p.2=k->RR sc own (p.1,k)=true:=λhp hk=>hk▸n _ hp
 exact⟨(match hk:scope.kind,(rY h).1 with| .function,_=>rfl),wz h2.1,λp hp hk=>have z:=rY (nm hp hk);have y:=rY z.2;⟨jq.mp z.1,y.1,((fL _ _).mp y.2).imp eq_of_beq eq_of_beq⟩,
  λp hp hk=>((fL _ _).mp (nm hp hk)).imp jq.mp id,λp hp hk=>nm hp hk,wz J.1,wz U.1,λp hp q hq z=>ff ((cH _▸bh.mp (bh.mp U.2 p hp) q hq:(q.2==p.2)=false).symm.trans (bl.mpr z))⟩
theorem Nq{ts:O MT}:K5 ts=true->ts=(zw ts).map .var:=by
 induction ts with
 |nil=>exact λz=>rfl
 |cons t ts J=>
  cases t with
  |var k=>exact λh=>av (MT.var k:: ·) (J (rY h).2)
  |_=>exact λh=>ff (rY h).1
theorem ZL{t:MT}(h:Pe t=true):Ao t (Ar t):=by
 cases t with
 |var k=>exact .var k
 |tup ts=>exact(av (λJ=>Ao (.tup J) (zw ts)) (Nq h)).mpr (.tup (zw ts))
 |_=>exact ff h
theorem xW{α:Type}{f:α->au->au}{J:O α}:∀ {es:O au},(wf f J es).length=J.length:=by
 induction J with
 |nil=>exact rfl
 |cons m J U=>exact av (·+1) U
theorem Cq{α:Type}{f:α->au->au}{ok:α->au->aj}{R:au->α->Prop}{P:au->Prop}(U:∀ {m e},ok m e=true->R (f m e) m)(hP:∀ {m e},ok m e=true->P (f m e)){J:O α}:∀ {es:O au},wU ok J es=true->tj R (wf f J es) J/\∀ e∈wf f J es,P e:=by
 induction J with
 |nil=>exact λy=>⟨.nil,λy h=>nomatch h⟩
 |cons m J ih=>exact λh=>have z:=ih (rY h).2;⟨.cons (U (rY h).1) z.1,λe he=>(aW.mp he).elim (λq=>q▸hP (rY h).1) (z.2 e)⟩
theorem F0{α:Type}{f:α->au->au}{J:O ME}{g:ME->au->au}{es:O au}(h:Ju J=true):wf g J es≠[]:=by
 cases J with
 |nil=>exact ff h
 |cons=>exact λz=>nomatch z
variable(H:Hy d F)(S:Sound d F u)
include S
theorem y7{J:O ME}{es:O au}(h:wU (u.ok sc) J es=true):tj (sA d F sc) (wf (u.E sc) J es) J/\∀ e∈wf (u.E sc) J es,s9 e:=Cq S.E (λh=>(S.P h).p) h
theorem Wh{J:O ME}{es:O au}(h:wU (u.Ab sc) J es=true):tj (vA d F sc) (wf (u.E sc) J es) J:=(Cq (P:=λz=>cu) S.T (λz=>trivial) h).1
theorem aaX{J:O MT}{es:O au}(h:wU (u.IP sc) J es=true):tj (x9 d F sc) (wf (u.A sc) J es) J/\∀ e∈wf (u.A sc) J es,Ca e:=Cq S.A S.Q h
theorem UM{m:ME}{o:ax au}(h:Wg u sc m o=true):yK d F sc (Wf u sc m o) m:=by
 cases o with
 |some e=>exact .some (S.E h)
 |none=>
  cases m with
  |c v=>cases v with
   |none=>exact .none
   |_=>exact ff h
  |_=>exact ff h
include H
omit S in
theorem yr{x:bc}{v:af}(hm:(x,v)∈AE):Means (aJ x) v:=H.bt _ hm
theorem ZM{t:MT}{J:au}{m:MI}{e:au}(ht:u.IP sc t J=true)(h:ZG u si t m e=true):FI d F si (u.A sc t J) (Np u si m e) m/\Cd (Np u si m e):=by
 cases m with
 |e a=>exact⟨YG (S.E h),(S.P h).f⟩
 |zip a b=>
  have h1:=rY (show(isTup t&&(xK si "zip"&&(u.ok si a (kid e 1)&&u.ok si b (kid e 2))))=true from h)
  have h2:=rY h1.2;have h3:=rY h2.2;obtain⟨es,k,p,q⟩:=S.Z ht h1.1;rw[q];exact⟨Ul H.N (uz h2.1).1 (uz h2.1).2 (yr H (by decide+kernel)) (bj.mpr ⟨(S.P h3.1).p,bj.mpr ⟨(S.P h3.2).p,λz h=>nomatch h⟩⟩) (S.E h3.1) (S.E h3.2),λz z=>rfl⟩
theorem ZN{t:MT}{it:MI}{ifs:O ME}{g:bf}(h:Pf u sc si (.g t it ifs) g=true):(x9 d F sc (u.A sc t g.target) t/\Ao t (Ar t))/\tj (vA d F sc) (wf (u.E sc) ifs g.ifs) ifs/\FI d F si (u.A sc t g.target) (Np u si it g.iter) it/\Cd (Np u si it g.iter):=
 have h:=rY h;have h2:=rY h.2;have h3:=rY h2.2
 ⟨⟨S.A h2.1,ZL h.1⟩,Wh S h3.1,ZM H S h2.1 h3.2⟩
theorem aaY{tM:O MG}:∀ {gs:O bf},UK u sc tM gs=true->(A0 tM).Nodup->Gs d F sc (UJ u sc tM gs) tM (A0 tM):=by
 induction tM with
 |nil=>exact λy y=> .nil
 |cons m U ih=>
  intro gs h nd;cases m with
  |g t it ifs=>
   have z:=ZN H S (rY h).1;have n:=gN.mp (show(Ar t++A0 U).Nodup from nd)
   exact .cons (.mk rfl z.2.2.2 z.1.1 z.1.2 z.2.1 z.2.2.1) (λj hj J=>n.2.2 j hj j J rfl) (ih (rY h).2 n.2.1)
theorem ER{ks:O aa}{me:ME}{tM:O MG}{e:au}(h:Ei u sc ks me tM e=true):ks=(AJ (vw e).gens ks).map (·.2)/\zJ d F sc (u.E (inner sc ks e) me (kid e 0)) (vw e).scope (AJ (vw e).gens ks) me (RU u (inner sc ks e) sc tM (vw e).gens) tM:=by
 have h1:=rY h;have h2:=rY h1.2;have h3:=rY h2.2;have J:=rY h3.2;have h5:=rY J.2;have e1:(AJ (vw e).gens ks).map (·.2)=ks:=eq_of_beq h1.1
 have e2:A0 tM=ks:=eq_of_beq h5.1;have nd:(A0 tM).Nodup:=e2▸wz h5.2;refine⟨e1.symm, ?_⟩;cases tM with
 |nil=>exact ff J.1
 |cons m ms=>
  cases m with
  |g t it ifs=>
   have z:=ZN H S (rY J.1).1;have n:=gN.mp (show(Ar t++A0 ms).Nodup from nd)
   exact .mk (UL h2.1) (S.E h3.1) rfl z.2.2.2 z.1.1 z.1.2 z.2.1 z.2.2.1 (aaY H S (rY J.1).2 n.2.1) (λj U hj'=>n.2.2 j U j hj' rfl) λj U=>by rw[e1,<-e2];exact U
end
section
variable{d:aa}{F:Fn}{sc si:Sc}{u:Un}{e:au}
theorem aaZ{f c:aa}(h:Jt f c=true):∃ nm,fnName f=some (nm,c)/\By f=aJ nm:=by
 unfold Jt at h
 unfold By;cases J:fnName f with
 |none=>rw[J] at h;exact ff h
 |some q=>
  rw[J] at h
  cases eq_of_beq (h:(q.2==c)=true);exact⟨q.1,rfl,rfl⟩
theorem RZ{J:O ME}(h:oneOf J=true):∃ m,J=[m]:=by
 cases J with
 |nil=>exact ff h
 |cons m r=>cases r with
  |nil=>exact⟨m,rfl⟩
  |cons=>exact ff h
theorem Ej{b:aj}(h:(!b)=true):b=false:=cH _▸h
variable(H:Hy d F)(S:Sound d F u)
include H S
theorem call_of{f:aa}{es:O ME}(h:wg u sc (.call f es) e=true):sA d F sc (tW u sc (.call f es) e) (.call f es):=
 have h:=rY (show(Jt f 99&&(xK sc (By f)&&wU (u.ok sc) es (kids e).tail))=true from h)
 have h2:=rY h.2;have z:=y7 S h2.2
 (aaZ h.1).elim λnm q=>(H.fn f nm q.1).elim λa r=>Q4 H.K H.N r.2 r.1.1 (uz h2.1).1 (uz h2.1).2 (q.2▸r.1.2) z.2 z.1
theorem Nr{f:aa}{a:ME}{es:O ME}(h:wg u sc (.tt f a es) e=true):sA d F sc (tW u sc (.tt f a es) e) (.tt f a es):=by
 have h1:=rY (show((fnName f).any (λq=>decide (q.2<=3)&&q.1 !="__init__")&&(!(f==raiser)&&(y6 a&&(A1 e&&(decide (es.length<20)&&(u.ok sc a (kid (kid e 0) 0)&&wU (u.ok sc) es (kids e).tail))))))=true from h)
 have h2:=rY h1.2;have h3:=rY h2.2;have U:=rY h3.2;have h5:=rY U.2;have J:=rY h5.2;have z:=y7 S J.2
 have q:∃ nm c,fnName f=some (nm,c)/\(c<=3/\nm≠"__init__")/\By f=aJ nm:=by
  have h:=h1.1;unfold By;cases hf:fnName f with
  |none=>rw[hf] at h;exact ff h
  |some q=>
   rw[hf] at h
   have h:=rY (h:(decide (q.2<=3)&&q.1 !="__init__")=true);exact⟨q.1,q.2,rfl,⟨aP h.1,pC.mp h.2⟩,rfl⟩
 obtain⟨nm,c,q⟩:=q;obtain⟨a',r⟩:=H.me f nm c q.1 q.2.1.1 q.2.1.2;exact λ{y y y y y y} H'=>Q5 H.K (r.2.1 (bS.mp (Ej h2.1))) (q.2.2.symm▸r.1) (S.B J.1 h3.1) U.1 (bH (bF xW) (aP h5.1)) z.2 (S.E J.1) z.1 H'
theorem Nt{a:ME}{n:aa}(h:wg u sc (.attr a n) e=true):sA d F sc (tW u sc (.attr a n) e) (.attr a n):=
 have h:=rY (show(y6 a&&((attrName n).isSome&&u.ok sc a (kid e 0)))=true from h)
 have h2:=rY h.2
 QA H.K (S.B h2.2 h.1) (isSome_of h2.1) (S.E h2.2)
theorem R1{a:ME}{t:Ty}(h:wg u sc (.isA a t) e=true):sA d F sc (tW u sc (.isA a t) e) (.isA a t):=
 have h:=rY (show(xK sc "isinstance"&&(xK sc (aJ (tyName t))&&u.ok sc a (kid e 1)))=true from h)
 have h2:=rY h.2
 TU H.N (uz h.1).1 (uz h.1).2 (yr H (by decide+kernel)) (uz h2.1).1 (uz h2.1).2 (yr H (by cases t<;>decide+kernel)) (S.P h2.2).p (S.E h2.2)
omit H S in
theorem ZO{v:V}(h:ZF v=true):sA d F sc (tW u sc (.c v) e) (.c v):=by
 cases v with
 |int i=>exact TG
 |bool b=>exact Qo
 |none=>exact Qp
 |str c=>exact TH (isSome_of h)
 |_=>exact ff h
omit H S in
theorem R6{k:aa}(h:Bw sc (xJ e) k=true):sA d F sc (tW u sc (.var k) e) (.var k):=have z:=FY h;TF z.slot z.kind z.h1 z.h2
omit H in
theorem R7{a:ME}{ops:O ct}{es:O ME}(h:wg u sc (.cmp a ops es) e=true):sA d F sc (tW u sc (.cmp a ops es) e) (.cmp a ops es)/\vA d F sc (tW u sc (.cmp a ops es) e) (.cmp a ops es):=
 have h:=rY (show(u.ok sc a (kid e 0)&&(wU (u.ok sc) es (kids e).tail&&(ops.length==es.length&&(Ju es&& !lastMarks ops (wf (u.E sc) es (kids e).tail)))))=true from h)
 have h2:=rY h.2;have h3:=rY h2.2;have J:=rY h3.2;have z:=(y7 S h2.1).1
 ⟨TQ (S.E h.1) z ((eq_of_beq h3.1).trans xW.symm) (F0 (α:=bi) (f:=λy e=>e) J.1) (Ej J.2),TR (S.E h.1) z ((eq_of_beq h3.1).trans xW.symm) (F0 (α:=bi) (f:=λy e=>e) J.1) (Ej J.2)⟩
omit S in
theorem Xd{i:aa}(h:wg u sc (.glob i) e=true):sA d F sc (tW u sc (.glob i) e) (.glob i):=
 have h:=rY (show(decide (i<6)&&xK sc (aJ ((xR[i]?).getD "")))=true from h)
 Rj H.N (uz h.2).1 (uz h.2).2 (H.gl i _ (by
  have hi:i<xR.length:=aP h.1;rw[br hi];rfl))
theorem ZQ{c f:aa}{es:O ME}(h:wg u sc (.new c f es) e=true):sA d F sc (tW u sc (.new c f es) e) (.new c f es):=
 have h:=rY (show(fnName f==some ("__init__",c)&&(decide (c<=3)&&(xK sc (K4 c)&&wU (u.ok sc) es (kids e).tail)))=true from h)
 have h2:=rY h.2;have h3:=rY h2.2;have z:=y7 S h3.2;have hc:c<zH.length:=bH (aP h2.1) (by decide)
 (H.new f c (eq_of_beq h.1) (aP h2.1)).elim λa r=>Uf H.K H.N r.2 r.1 (uz h3.1).1 (uz h3.1).2 (H.cls c _ (by rw[br hc];rfl)) z.2 z.1
omit H in
theorem UN{m:Bm}{a:ME}{es:O ME}(h:wg u sc (.uh m a es) e=true):sA d F sc (tW u sc (.uh m a es) e) (.uh m a es):=
 have h3:=rY (show(y6 a&&(A1 e&&(decide (es.length<20)&&(u.ok sc a (kid (kid e 0) 0)&&wU (u.ok sc) es (kids e).tail))))=true from h)
 have U:=rY h3.2;have h5:=rY U.2;have J:=rY h5.2;have z:=y7 S J.2
 Oz (S.B J.1 h3.1) rfl U.1 z.2 (bH (bF xW) (aP h5.1)) (S.E J.1) z.1
theorem Xe{b:Bt}{es:O ME}(h:wg u sc (.bt b es) e=true):sA d F sc (tW u sc (.bt b es) e) (.bt b es):=by
 have h:=rY (show(xK sc (aJ (Eh b))&&Pg u sc b es e)=true from h)
 have g:=uz h.1
 have sim:isSet b=false->sA d F sc (.Call (.Name (aJ (Eh b)) (kid e 0).pos) (wf (u.E sc) es (kids e).tail) [] e.pos) (.bt b es)->sA d F sc (tW u sc (.bt b es) e) (.bt b es):=λhs h=>by
  show sA d F sc (.Call (.Name (aJ (Eh b)) (kid e 0).pos) (if isSet b then _ else wf (u.E sc) es (kids e).tail) [] e.pos) _
  rw[aI (by rw[hs];exact b0)]
  exact h
 have pl:isSet b=false->(okN b es&&wU (u.ok sc) es (kids e).tail)=true:=λhs=>by
  have h:=h.2;unfold Pg at h
  rw[hs] at h
  exact h
 have U:Gp b=true->isSet b=false->sA d F sc (tW u sc (.bt b es) e) (.bt b es):=λhb hs=>sim hs (have z:=y7 S (rY (pl hs)).2;WU H.N hb g.1 g.2 (yr H (by cases b<;>first|exact ff hb|decide+kernel)) z.2 z.1)
 have set:isSet b=true->∃ m,es=[m]/\xK sc "set"=true/\u.ok sc m ((kids (kid e 1)).tail.headD dE)=true:=λhs=>by
  have h:=h.2;unfold Pg at h
  rw[hs] at h
  have h:=rY h;have h2:=rY h.2;exact(RZ h.1).imp λm q=>⟨q,h2.1,by rw[q] at h2;exact(rY h2.2).1⟩
 cases b with
 |u7=>
  obtain⟨m,q⟩:=set rfl;cases q.1;have gs:=uz q.2.1;exact λ{y y y y y y} J=>KK H.N g.1 g.2 (yr H (by decide+kernel)) gs.1 gs.2 (yr H (by decide+kernel)) (bj.mpr ⟨(S.P q.2.2).p,λy h=>nomatch h⟩) (bj.mpr ⟨λy y=>rfl,λy h=>nomatch h⟩) (S.E q.2.2) J
 |yT=>
  obtain⟨m,q⟩:=set rfl;cases q.1;have gs:=uz q.2.1;exact λ{y y y y y y} J=>My H.N g.1 g.2 (yr H (by decide+kernel)) gs.1 gs.2 (yr H (by decide+kernel)) (bj.mpr ⟨(S.P q.2.2).p,λy h=>nomatch h⟩) (bj.mpr ⟨λy y=>rfl,λy h=>nomatch h⟩) (S.E q.2.2) J
 |dict=>
  obtain⟨m,q⟩:=RZ (rY (pl rfl)).1;subst q;have z:=(rY (rY (pl rfl)).2).1;exact λ{y y y y y y} J=>sim rfl (Rh H.N g.1 g.2 (yr H (by decide+kernel)) (bj.mpr ⟨(S.P z).p,λy h=>nomatch h⟩) (S.E z)) J
 |sorted=>exact λ{y y y y y y} J=>sim rfl (have z:=y7 S (rY (pl rfl)).2;Mp H.N g.1 g.2 (yr H (by decide+kernel)) z.2 z.1) J
 |_=>exact λ{y y y y y y} J=>U rfl rfl J
theorem Ph{a b:ME}(h:wg u sc (.wj a b) e=true):sA d F sc (tW u sc (.wj a b) e) (.wj a b):=
 have h:=rY (show(xK sc "dict"&&(xK sc "zip"&&(u.ok sc a (kid (kid e 1) 1)&&u.ok sc b (kid (kid e 1) 2))))=true from h)
 have h2:=rY h.2;have h3:=rY h2.2
 Kw H.N (uz h.1).1 (uz h.1).2 (yr H (by decide+kernel)) (uz h2.1).1 (uz h2.1).2 (yr H (by decide+kernel)) (bj.mpr ⟨(S.P h3.1).p,bj.mpr ⟨(S.P h3.2).p,λz h=>nomatch h⟩⟩) (bj.mpr ⟨λz z=>rfl,λz h=>nomatch h⟩) (S.E h3.1) (S.E h3.2)
omit H S in
theorem ZR{k g:aa}(h:wg u sc (.due k g) e=true):sA d F sc (tW u sc (.due k g) e) (.due k g):=
 have h:=rY (show(Bw sc (dX e) k&&(Bw sc (xJ (kid (kid e 1) 0)) g&&A1 e))=true from h)
 Uo (FY h.1) (FY (rY h.2).1) (isSome_of (by decide+kernel)) (isSome_of (by decide+kernel)) (isSome_of (by decide+kernel)) (isSome_of (by decide+kernel)) rfl (rY h.2).2 (bj.mpr ⟨λz z=>rfl,bj.mpr ⟨λz z=>rfl,λz h=>nomatch h⟩⟩) λz z z z z=>rfl
theorem wK{m:ME}(h:wg u sc m e=true):sA d F sc (tW u sc m e) m:=by
 cases m with
 |c v=>exact ZO h
 |var k=>exact R6 h
 |glob i=>exact Xd H h
 |bool b es=>
  have h:=rY h;have z:=(y7 S h.2).1;have n:=F0 (α:=bi) (f:=λy e=>e) (g:=u.E sc) (es:=kids e) h.1;cases b with
  |true=>exact λ{y y y y y y} H=>E9 (op:= .And) z n H
  |false=>exact λ{y y y y y y} H=>E9 (op:= .Or) z n H
 |bin op a b=>exact have h:=rY h;TJ (S.E h.1) (S.E h.2)
 |not a=>exact TK (S.E h)
 |neg a=>exact TL (S.E h)
 |ite t a b=>exact have h:=rY h;TM (S.T h.1) (S.E (rY h.2).1) (S.E (rY h.2).2)
 |due k J=>exact ZR h
 |list es=>exact have h:=rY h;have z:=y7 S h.2;Qq z.2 (aw (bF xW) (aP h.1)) z.1
 |tup es=>exact have h:=rY h;have z:=y7 S h.2;TP z.2 (aw (bF xW) (aP h.1)) z.1
 |cmp a ops es=>exact(R7 S h).1
 |comp ks me tM=>exact have z:=ER H S h;QW z.1 z.2
 |item a i=>exact have h:=rY h;Qt (S.P h.2).s (S.E h.1) (S.E h.2)
 |slice a lo hi st=>exact have h:=rY h;have h2:=rY h.2;have h3:=rY h2.2;Oy (S.E h.1) (UM S h2.1) (UM S h3.1) (UM S h3.2)
 |attr a n=>exact Nt H S h
 |call f es=>exact call_of H S h
 |new c f es=>exact ZQ H S h
 |tt f a es=>exact Nr H S h
 |uh m a es=>exact UN S h
 |bt b es=>exact Xe H S h
 |wj a b=>exact Ph H S h
 |isA a t=>exact R1 H S h
 |bad=>exact ff h
theorem De{m:ME}(h:RY u sc m e=true):vA d F sc (tW u sc m e) m:=by
 cases m with
 |not a=>exact TS (S.T h)
 |bool b es=>
  have z:=Wh S h;cases b with
  |true=>exact λ{y y y y y y} H=>J2 (op:= .And) z H
  |false=>exact λ{y y y y y y} H=>J2 (op:= .Or) z H
 |ite t a b=>exact have h:=rY h;TT (S.T h.1) (S.T (rY h.2).1) (S.T (rY h.2).2)
 |cmp a ops es=>exact(R7 S h).2
 |c v=>exact AG (λy y=>rfl) (ZO h) λy=>rfl
 |var k=>exact AG (λy y=>rfl) (R6 h) λy=>rfl
 |attr a n=>exact AG (λy y=>rfl) (Nt H S h) λl=>(M.bind_assoc (rZ F a l) (λx=>wD x n) uP).symm
 |call f es=>exact Q7 (call_of H S h)
 |tt f a es=>exact Q6 (Nr H S h)
 |isA a t=>exact AG (λy y=>rfl) (R1 H S h) λl=>(M.bind_assoc (rZ F a l) (λx=>isA x t) uP).symm
 |_=>exact ff h
theorem K6{m:MT}(h:HN u sc m e=true):x9 d F sc (wN u sc m e) m:=by
 cases m with
 |var k=>exact Io (Au h)
 |tup ts=>exact have z:=aaX S h;TV z.2 z.1
 |attr a n=>exact have h:=rY h;QD H.K (isSome_of h.1) (S.E h.2)
 |item a i=>exact have h:=rY h;QE (S.E h.1) (S.E h.2)
omit H S in
theorem zO{m:ME}(h:wg u sc m e=true):ZK (tW u sc m e):=by
 cases m<;>first|exact ff h|exact⟨λz z=>rfl,λz z=>rfl,λz z=>rfl⟩
omit H S in
theorem IQ{m:ME}(h:y6 m=true):xT (tW u sc m e):=by
 cases m<;>first|exact ff h|exact λz z z=>rfl
omit H S in
theorem K8{m:MT}:Ca (wN u sc m e):=by
 cases m<;>exact λz z=>rfl
omit S in
theorem Ek(n:aa):Sound d F (FW n):=by
 induction n with
 |zero=>exact⟨λh=>ff h,λh=>ff h,λh=>ff h,λh=>ff h,λh=>ff h,λh=>ff h,λh=>ff h⟩
 |succ n S=>exact⟨wK H S,De H S,K6 H S,zO,λz=>IQ,λz=>K8,λ{sc m e} z h=>by
   cases m with
   |tup ts=>exact⟨_,_,_,rfl⟩
   |_=>exact ff h⟩
end
end
section
structure Vs where
 es:O au:=[]
 bs:O (O aF):=[]
 hs:O fK:=[]
noncomputable def GO:aF->Vs
 | .Return v _=>{es:=v.toList}
 | .Assign ts v _=>{es:=v::ts}
 | .For t i b _ _=>{es:=[t,i],bs:=[b]}
 | .While t b _ _=>{es:=[t],bs:=[b]}
 | .If t b o _=>{es:=[t],bs:=[b,o]}
 | .Raise e _ _=>{es:=e.toList}
 | .Try b hs _ _ _=>{bs:=[b],hs:=hs}
 | .Expr v _=>{es:=[v]}
 |_=>{}
def se(st:aF)(i:aa):au:=(GO st).es.getD i dE
def sb(st:aF)(i:aa):O aF:=(GO st).bs.getD i []
noncomputable def dS:aF:= .Pass default
noncomputable def dH:fK:= .ExceptHandler none none [] default
def y8(f:MS->aF->aF):O MS->O aF->O aF
 |[],_=>[]
 |m::J,es=>f m (es.headD dS)::y8 f J es.tail
def zY(f:MS->aF->aj):O MS->O aF->aj
 |[],_=>true
 |m::J,es=>f m (es.headD dS)&&zY f J es.tail
noncomputable def yB(scope:aQ):aD:={scope:=scope,locals:=0,globals:=0,cells:=[]}
noncomputable def pureOf{α:Type}:aM α->ax α
 | .pure b=>some b
 |_=>none
def Cr{α:Type}[BEq α](t:aM α)(a:α):aj:=(pureOf t).any (·==a)
noncomputable def R8:ME->aj
 | .comp _ _ _=>true
 |_=>false
noncomputable def isBad:ME->aj
 | .bad=>true
 |_=>false
noncomputable def R9:dT->aj
 | .Mult=>true
 |_=>false
section
variable(u:Un)
def Pi(sc:Sc):ME->au->au
 | .comp ks me tM,e=>RW u sc ks me tM e
 | .list es,e=> .List (wf (u.E sc) es (kids e)) e.pos
 | .bin _ a b,e=> .BinOp (u.E sc a (kid e 0)) .Mult (u.E sc b (kid e 1)) e.pos
 |_,_=>dE
def Wi(sc:Sc):ME->au->aj
 | .comp ks me tM,e=>Ei u sc ks me tM e
 | .list es,e=>decide (es.length<=64)&&wU (u.ok sc) es (kids e)
 | .bin op a b,e=>R9 op&&(u.ok sc a (kid e 0)&&u.ok sc b (kid e 1))
 |_,_=>false
def aa0(rec:MR->au->au)(sc:Sc):MR->au->au
 | .newList,e=> .List [] e.pos
 | .newDict,e=> .Dict [] [] e.pos
 | .tup rs,e=> .Tuple (wf rec rs (kids e)) (GN e) e.pos
 | .e a,e=>tW u sc a e
 | .own a,e=>Pi u sc a e
def Xf(rec:MR->au->aj)(sc:Sc):MR->au->aj
 | .newList,e=>true
 | .newDict,e=>true
 | .tup rs,e=>decide (rs.length<=64)&&wU rec rs (kids e)
 | .e a,e=>wg u sc a e
 | .own a,e=>Wi u sc a e
def zP(sc:Sc):aa->MR->au->au
 |0=>λz z=>dE
 |n+1=>aa0 u (zP sc n) sc
def ZS(sc:Sc):aa->MR->au->aj
 |0=>λz z=>false
 |n+1=>Xf u (ZS sc n) sc
def storesOf(sc:Sc)(t e:au):ax (ax (O am)):=pureOf (swappedStores [t] e (yB sc.scope))
def Wj(sc:Sc):MR->au->aj
 | .e (.comp ks me tM),e=>Ei u sc ks me tM e
 | .own (.comp ks me tM),e=>Ei u sc ks me tM e
 |_,_=>false
noncomputable def ZT:MR->aj
 | .tup _=>true
 |_=>false
noncomputable def Wk:MT->ax aa
 | .var k=>some k
 |_=>none
def Sa(sc:Sc)(t:MT)(r:MR)(names:O am):aj:=isTup t&&(Pe t&&(ZT r&&(names.length==(Ar t).length&&((names.zip (Ar t)).all (λp=>Cp sc p.1 p.2)&&xL (Ar t)))))
def UO(sc:Sc)(t:MT)(r:MR)(J:au):ax (ax (O am))->aj
 |none=>false
 |some o=>match o with
  |none=>HN u sc t J
  |some names=>Sa sc t r names
def Pj(sc:Sc)(t:MT)(r:MR)(J v:au)(line:aa):aj:=
 if Cr (swapsWith (zP u sc 4 r v) (some (wN u sc t J)) line (yB sc.scope)) true then(Wk t).any (Cp sc (xJ J))&&Wj u sc r v
 else Cr (swapsWith (zP u sc 4 r v) (some (wN u sc t J)) line (yB sc.scope)) false&&(ZS u sc 4 r v&&UO u sc t r J (storesOf sc (wN u sc t J) (zP u sc 4 r v)))
def aa1(rec:MS->aF->aF)(sc:Sc):MS->aF->aF
 | .expr a,st=> .Expr (tW u sc a (se st 0)) st.pos
 | .ret a,st=>if isBad a then st else .Return (some (tW u sc a (se st 0))) st.pos
 | .zF _ _,st=>st
 | .FA,st=> .Return none st.pos
 | .asg t r,st=> .Assign [wN u sc t (se st 1)] (zP u sc 4 r (se st 0)) st.pos
 | .if_ t b o,st=> .If (tW u sc t (se st 0)) (y8 rec b (sb st 0)) (y8 rec o (sb st 1)) st.pos
 | .wP t b,st=> .While (tW u sc t (se st 0)) (y8 rec b (sb st 0)) [] st.pos
 | .ua t it b,st=> .For (u.A sc t (se st 0)) (Np u sc it (se st 1)) (y8 rec b (sb st 0)) [] st.pos
 | .cont,st=> .Continue st.pos
 | .brk,st=> .Break st.pos
 | .DF b _,st=> .Try (y8 rec b (sb st 0)) ((GO st).hs.headD dH::(GO st).hs.tail) [] [] st.pos
 |_,_=>dS
def Xg(rec:MS->aF->aj)(sc:Sc):MS->aF->aj
 | .expr a,st=> !R8 a&&wg u sc a (se st 0)
 | .ret a,st=>isBad a||wg u sc a (se st 0)
 | .zF _ _,st=>true
 | .FA,st=>true
 | .asg t r,st=>Pj u sc t r (se st 1) (se st 0) st.pos.line
 | .if_ t b o,st=>RY u sc t (se st 0)&&(zY rec b (sb st 0)&&zY rec o (sb st 1))
 | .wP t b,st=>RY u sc t (se st 0)&&zY rec b (sb st 0)
 | .ua t it b,st=>u.IP sc t (se st 0)&&(ZG u sc t it (se st 1)&&zY rec b (sb st 0))
 | .cont,st=>true
 | .brk,st=>true
 | .DF b _,st=>zY rec b (sb st 0)
 |_,_=>false
def El(sc:Sc):aa->MS->aF->aF
 |0=>λz z=>dS
 |n+1=>aa1 u (El sc n) sc
def IR(sc:Sc):aa->MS->aF->aj
 |0=>λz z=>false
 |n+1=>Xg u (IR sc n) sc
end
section
variable{d:aa}{F:Fn}{sc si:Sc}{u:Un}{e:au}
theorem IS{α:Type}{t:aM α}{a:α}(h:pureOf t=some a):t=pure a:=by
 cases t with
 |pure b=>exact av aM.pure (aE h)
 |_=>exact nn h
theorem Sb{α:Type}[BEq α][fY α]{t:aM α}{a:α}(h:Cr t a=true):t=pure a:=IS (by
 unfold Cr at h
 cases hp:pureOf t with
 |none=>rw[hp] at h;exact ff h
 |some b=>rw[hp] at h;exact av some (eq_of_beq h))
theorem MJ{t e:au}{n:aa}{env:aD}{scope:aQ}(h:env.scope=scope):swapsWith e (some t) n env=swapsWith e (some t) n (yB scope):=by
 subst h;rfl
theorem K9{ts:O au}{e:au}{env:aD}{scope:aQ}(h:env.scope=scope):swappedStores ts e env=swappedStores ts e (yB scope):=by
 subst h;rfl
theorem ZU{a:ME}(h:isBad a=true):a= .bad:=by
 cases a<;>first|exact ff h|rfl
theorem Sd{m:ME}(hc:R8 m=false)(h:wg u sc m e=true):QI (tW u sc m e):=by
 cases m<;>first|exact ff h|exact ff (hc.symm.trans rfl)|exact λz z=>rfl
variable(H:Hy d F)(S:Sound d F u)
include H S
theorem ZV{a:ME}(h:Wi u sc a e=true):ya d F sc (Pi u sc a e) (.own a)/\s9 (Pi u sc a e):=by
 cases a with
 |comp ks me tM=>exact have z:=ER H S h;⟨Iw true z.1 z.2,λy y=>rfl⟩
 |list es=>exact have h:=rY h;have z:=y7 S h.2;⟨Ki z.2 (aw (bF xW) (aP h.1)) z.1,λy y=>rfl⟩
 |bin op a b=>
  have h:=rY (show(R9 op&&(u.ok sc a (kid e 0)&&u.ok sc b (kid e 1)))=true from h)
  cases op with
  |Mult=>exact⟨Mm (S.E (rY h.2).1) (S.E (rY h.2).2),λy y=>rfl⟩
  |_=>exact ff h.1
 |_=>exact ff h
theorem aa2(n:aa):∀ {m:MR} {e:au},ZS u sc n m e=true->ya d F sc (zP u sc n m e) m/\s9 (zP u sc n m e):=by
 induction n with
 |zero=>exact λh=>ff h
 |succ n J=>
  intro m e h;cases m with
  |newList=>exact⟨Ka,λy y=>rfl⟩
  |newDict=>exact⟨Kc,λy y=>rfl⟩
  |tup rs=>exact have h:=rY h;have z:=Cq (R:=ya d F sc) (P:=s9) (λh=>(J h).1) (λh=>(J h).2) h.2;⟨T6 z.2 (aw (bF xW) (aP h.1)) z.1,λy y=>rfl⟩
  |e a=>exact⟨YK (wK H S h),(zO h).p⟩
  |own a=>exact ZV H S h
omit H S in
theorem Xi{t:MT}{r:MR}{J v:au}{pos:aK}{names:O am}(h:Sa sc t r names=true)(U:∀ env,env.scope=sc.scope->swapsWithSole [J] v pos.line env=pure false)(hst:∀ env,env.scope=sc.scope->swappedStores [J] v env=pure (some names))(hr:ya d F sc v r):wG d F sc (.Assign [J] v pos) (.asg t r):=by
 have k1:=rY h;have k2:=rY k1.2;have k3:=rY k2.2;have k4:=rY k3.2;have k5:=rY k4.2;have hlen:names.length=(Ar t).length:=eq_of_beq k4.1;intro A C σ s env l HH;cases t with
 |tup ts=>
  cases r with
  |tup rs=>
   have e1:(names.zip (zw ts)).map (·.1)=names:=Hz hlen
   have e2:(names.zip (zw ts)).map (·.2)=zw ts:=oW (bF hlen.symm)
   have e3:ts=(names.zip (zw ts)).map λp=>MT.var p.2:=(Nq k2.1).trans ((av (eJ MT.var) e2).symm.trans bR);have z:=QP (pos:=pos) (ps:=names.zip (zw ts)) U (e1.symm▸hst) (λp hp=>Au (bh.mp k5.1 p hp)) (e2.symm▸wz k5.2) hr HH;rw[<-e3] at z
   exact z
  |_=>exact ff k3.1
 |_=>exact ff k1.1
theorem Pk{t:MT}{r:MR}{U v:au}{pos:aK}(h1:(Wk t).any (Cp sc (xJ U))=true)(h2:Wj u sc r v=true)(J:∀ env:aD,env.scope=sc.scope->swapsWith (zP u sc 4 r v) (some (wN u sc t U)) pos.line env=pure true):wG d F sc (.Assign [wN u sc t U] (zP u sc 4 r v) pos) (.asg t r):=by
 intro A C σ s env l HH;cases t with
 |var k=>
  cases r with
  |e a=>cases a with
   |comp ks me tM=>exact have z:=ER H S h2;D3 false z.1 J (Au h1) z.2 HH
   |_=>exact ff h2
  |own a=>cases a with
   |comp ks me tM=>exact have z:=ER H S h2;D3 true z.1 J (Au h1) z.2 HH
   |_=>exact ff h2
  |_=>exact ff h2
 |_=>exact ff h1
theorem ZW{t:MT}{r:MR}{J v:au}{pos:aK}(h:Pj u sc t r J v pos.line=true):wG d F sc (.Assign [wN u sc t J] (zP u sc 4 r v) pos) (.asg t r):=by
 unfold Pj at h
 have U:∀ {b:aj},Cr (swapsWith (zP u sc 4 r v) (some (wN u sc t J)) pos.line (yB sc.scope)) b=true->∀ env:aD,env.scope=sc.scope->swapsWith (zP u sc 4 r v) (some (wN u sc t J)) pos.line env=pure b:=λhs env he=>(MJ he).trans (Sb hs);intro A C σ s env l HH
 by_cases hs:Cr (swapsWith (zP u sc 4 r v) (some (wN u sc t J)) pos.line (yB sc.scope)) true=true
 ·rw[aN hs] at h
  exact Pk H S (rY h).1 (rY h).2 (U hs) HH
 ·rw[aI hs] at h
  have h2:=rY (rY h).2;have hr:ya d F sc (zP u sc 4 r v) r:=(aa2 H S 4 h2.1).1;have st:∀ {o},storesOf sc (wN u sc t J) (zP u sc 4 r v)=some o->∀ env:aD,env.scope=sc.scope->swappedStores [wN u sc t J] (zP u sc 4 r v) env=pure o:=λho env he=>(K9 he).trans (IS ho);have h3:=h2.2;cases ho:storesOf sc (wN u sc t J) (zP u sc 4 r v) with
  |none=>rw[ho] at h3;exact ff h3
  |some o=>
   rw[ho] at h3
   cases o with
   |none=>exact T7 (U (rY h).1) (st ho) K8 hr (K6 H S h3) HH
   |some names=>exact Xi h3 (U (rY h).1) (st ho) hr HH
omit H S in
theorem Pl{f:MS->aF->aF}{ok:MS->aF->aj}(hr:∀ {m st},ok m st=true->wG d F sc (f m st) m){J:O MS}:∀ {U:O aF},zY ok J U=true->xw d F sc (y8 f J U) J:=by
 induction J with
 |nil=>exact λz=>Ip
 |cons m J ih=>exact λh=>OB (hr (rY h).1) (ih (rY h).2)
theorem GP(n:aa):∀ {m:MS} {st:aF},IR u sc n m st=true->wG d F sc (El u sc n m st) m:=by
 induction n with
 |zero=>exact λh=>ff h
 |succ n ih=>
  intro m st h;have ss:=λ{ms:O MS} {U:O aF} (h:zY (IR u sc n) ms U=true)=>(Pl (f:=El u sc n) ih h:xw d F sc (y8 (El u sc n) ms U) ms);intro A C σ s env l J;cases m with
  |expr a=>exact have h:=rY h;QJ (Sd (Ej h.1) h.2) (wK H S h.2) J
  |ret a=>
   cases hb:isBad a with
   |true=>rw[ZU hb];exact ah
   |false=>
    have h:(isBad a||wg u sc a (se st 0))=true:=h
    rw[hb] at h
    show r0 A (r7 env sc) C σ s _ (exec (if isBad a then st else .Return (some (tW u sc a (se st 0))) st.pos) env) _
    rw[aI (by rw[hb];exact b0)]
    exact T3 (wK H S h) J
  |zF _ _=>exact ah
  |FA=>exact QK J
  |asg t r=>exact ZW H S h J
  |if_ t b o=>exact have h:=rY h;WX (De H S h.1) (ss (rY h.2).1) (ss (rY h.2).2) J
  |wP t b=>exact have h:=rY h;OD (De H S h.1) (ss h.2) J
  |ua t it b=>exact have h:=rY h;have z:=ZM H S h.1 (rY h.2).1;T5 z.2 z.1 (S.A h.1) (ss (rY h.2).2) J
  |cont=>exact QL J
  |brk=>exact T4 J
  |DF b hd=>exact RO (ss h) J
  |_=>exact ff h
end
end
section
noncomputable def ES(a:dp):aj:=a.posonlyargs.isEmpty&&(a.vararg.isNone&&(a.kwonlyargs.isEmpty&&(a.kw_defaults.isEmpty&&(a.kwarg.isNone&&a.defaults.isEmpty))))
noncomputable def HO(r:MF):aa->O am->aj
 |_,[]=>true
 |i,x::xs=>r.names.lookup x==some i&&HO r (i+1) xs
def Pm(r:MF)(scope:aQ)(as:O bp):aj:=
 isFun scope.kind&&(!scope.isCoroutine&&(!scope.isGenerator&&(xL (scope.names.map (·.1))&&(xL (r.names.map (·.2))&&(r.nargs==as.length&&(HO r 0 (as.map (·.arg))&&
 ((as.map (·.arg)).all (λx=>scope.names.lookup x==some .local||scope.names.lookup x==some .cell)&&(xL (as.map (·.arg))&&scope.names.all (λp=>(!(p.2== .cell)||(r.names.lookup p.1).isSome)&& !(p.2== .free))))))))))
def wV:Un:=FW 30
noncomputable def hdV:fK->ax au×ax am×O aF×aK
 | .ExceptHandler t n b p=>(t,n,b,p)
def Em(st:aF):au:=se ((sb st 0).getD 1 dS) 0
def F2(st:aF):au:=kid (kid (Em st) 0) 0
def La(st:aF):ax au×ax am×O aF×aK:=hdV ((GO st).hs.headD dH)
def Lb(st:aF):am:=(La st).2.1.getD default
def A2(st:aF):au:=se ((La st).2.2.1.getD 0 dS) 0
def Pn(sc:Sc)(J:MS)(o:ME)(sU:O ME)(mt me:ME)(st:aF):aF:=
 .Try [El wV sc 20 J ((sb st 0).getD 0 dS), .Return (some (.BoolOp .And [.Compare (.Call (.Attribute (tW wV sc o (kid (kid (F2 st) 0) 0)) "check" (kid (F2 st) 0).pos) (wf (tW wV sc) sU (kids (F2 st)).tail) [] (F2 st).pos) [.Eq] [tW wV sc mt (kid (kid (Em st) 0) 1)] (kid (Em st) 0).pos,tW wV sc me (kid (Em st) 1)] (Em st).pos)) ((sb st 0).getD 1 dS).pos]
  [.ExceptHandler (some (.Name "ProofFault" ((La st).1.getD dE).pos)) (some (Lb st)) [.Return (some (.Compare (.Name (xJ (kid (A2 st) 0)) (kid (A2 st) 0).pos) [.Eq] [.Tuple [.Attribute (.Name (Lb st) (kid (kid (kid (A2 st) 1) 0) 0).pos) "step" (kid (kid (A2 st) 1) 0).pos, .Attribute (.Name (Lb st) (kid (kid (kid (A2 st) 1) 1) 0).pos) "what" (kid (kid (A2 st) 1) 1).pos] (GN (kid (A2 st) 1)) (kid (A2 st) 1).pos] (A2 st).pos)) ((La st).2.2.1.getD 0 dS).pos] (La st).2.2.2] [] [] st.pos
noncomputable def Po(sc:Sc)(x:am)(k:aa):aj:=sc.slots.lookup x==some k&&(sc.kind x==some .local&& !(x==("__debug__":am)))
def Wl(sc:Sc)(J:MS)(o:ME)(sU:O ME)(mt me:ME)(t k:aa)(st:aF):aj:=
 IR wV sc 20 J ((sb st 0).getD 0 dS)&&(y6 o&&(A1 (F2 st)&&(decide (sU.length<20)&&(wg wV sc o (kid (kid (F2 st) 0) 0)&&(wU (wg wV sc) sU (kids (F2 st)).tail&&(wg wV sc mt (kid (kid (Em st) 0) 1)&&(!behindInMarks .Eq (tW wV sc mt (kid (kid (Em st) 0) 1))&&(wg wV sc me (kid (Em st) 1)&&
 (xK sc "ProofFault"&&(Po sc (Lb st) k&&(Po sc (xJ (kid (A2 st) 0)) t&& !(xJ (kid (A2 st) 0)==Lb st))))))))))))
def Nu(sc:Sc)(U:MS)(mt ma mb:ME)(vL:O MS)(J:O aF):O aF:=
 El wV sc 20 U (J.getD 0 dS):: .If (tW wV sc mt (se (J.getD 1 dS) 0)) [.Raise (some (.Call (.Name "ProofFault" (kid (se ((sb (J.getD 1 dS) 0).getD 0 dS) 0) 0).pos) [tW wV sc ma (kid (se ((sb (J.getD 1 dS) 0).getD 0 dS) 0) 1),tW wV sc mb (kid (se ((sb (J.getD 1 dS) 0).getD 0 dS) 0) 2)] [] (se ((sb (J.getD 1 dS) 0).getD 0 dS) 0).pos)) none ((sb (J.getD 1 dS) 0).getD 0 dS).pos] [] (J.getD 1 dS).pos::y8 (El wV sc 20) vL (J.drop 2)
def Nv(sc:Sc)(U:MS)(mt ma mb:ME)(vL:O MS)(J:O aF):aj:=
 IR wV sc 20 U (J.getD 0 dS)&&(RY wV sc mt (se (J.getD 1 dS) 0)&&(xK sc "ProofFault"&&(wg wV sc ma (kid (se ((sb (J.getD 1 dS) 0).getD 0 dS) 0) 1)&&(wg wV sc mb (kid (se ((sb (J.getD 1 dS) 0).getD 0 dS) 0) 2)&&zY (IR wV sc 20) vL (J.drop 2)))))
section
variable{d:aa}{F:Fn}{sc:Sc}
theorem Ld{x:am}{k:aa}(h:Po sc x k=true):sc.slots.lookup x=some k/\sc.kind x=some .local/\(x==("__debug__":am))=false:=⟨eq_of_beq (rY h).1,eq_of_beq (rY (rY h).2).1,Ej (rY (rY h).2).2⟩
theorem ZX(H:Hy d F){m0:MS}{o mt me:ME}{sU:O ME}{t k:aa}{st:aF}(h:Wl sc m0 o sU mt me t k st=true):Js d F sc (Pn sc m0 o sU mt me st) (.DG [m0] o sU mt me k (yA t k)):=by
 have S:=Ek H 30;have h1:=rY h;have h2:=rY h1.2;have h3:=rY h2.2;have h4:=rY h3.2;have h5:=rY h4.2;have h6:=rY h5.2;have h7:=rY h6.2;have h8:=rY h7.2;have h9:=rY h8.2;have Fl:=rY h9.2;have J:=rY Fl.2;have U:=rY J.2;have hx:=Ld J.1;have hy:=Ld U.1;have z:=Cq (R:=sA d F sc) (P:=s9) (λh=>wK H S h) (λh=>(zO h).p) h6.1;obtain⟨a,hM,_,hC⟩:=H.me 51 "check" 3 (by decide+kernel) (by decide) (by decide)
 intro A C σ s env l HH;exact RP H.N H.XE H.K (GP H S 20 h1.1) (hC rfl) hM (IQ h2.1) h3.1 (bH (bF xW) (aP h4.1)) z.2 (wK H S h5.1) z.1 (wK H S h7.1) (Ej h8.1) (wK H S h9.1) (uz Fl.1).1 (uz Fl.1).2 (H.cls 4 "ProofFault" rfl) hx.1 hx.2.1 hx.2.2 hy.1 hy.2.1 hy.2.2 (bS.mp (Ej U.2)) rfl rfl HH
theorem UP(H:Hy d F){U:MS}{mt ma mb:ME}{vL:O MS}{J:O aF}{A:az}{env:aD}{l:Loc}{C:Cx}{σ:Ob}{s:ai}(h:Nv sc U mt ma mb vL J=true)(HH:Here d A sc env l C σ s):
  Al (M.bind (M.bind (xu F U l) vz) (λl=>M.bind (sN F mt l) λc=>if c then M.bind (rZ F ma l) λx=>M.bind (rZ F mb l) λy=>un (.inst 4 [(10,x),(11,y)]) else M.bind (M.bind (r8 F vL l) XR.val) λv=>M.pure (.lst [v])) σ)
   λx' σ'=>ak sB A (execs (Nu sc U mt ma mb vL J) env) (FV (r7 env sc) C s env sc x' σ') (GK A (r7 env sc) C s x' σ') s:=by
 have S:=Ek H 30;have h1:=rY h;have h2:=rY h1.2;have h3:=rY h2.2;have h4:=rY h3.2;have h5:=rY h4.2;exact MA H.K H.N H.XE (GP H S 20 h1.1) (De H S h2.1) (uz h3.1).1 (uz h3.1).2 (H.cls 4 "ProofFault" rfl) (bj.mpr ⟨(zO h4.1).p,bj.mpr ⟨(zO h5.1).p,λz h=>nomatch h⟩⟩) (wK H S h4.1) (wK H S h5.1) (Pl (GP H S 20) h5.2) HH
theorem Xj{st:aF}{m:MS}(h2:Js d F sc st m){f:MS->aF->aF}{ok:MS->aF->aj}(hr:∀ {m st},ok m st=true->wG d F sc (f m st) m){J:O MS}:∀ {U:O aF},zY ok J U=true->zN d F sc (y8 f J U++[st]) (J++[m]):=by
 induction J with
 |nil=>exact λz=>Fm h2 (IO Ip)
 |cons m J ih=>exact λh=>Fm (λH=>hr (rY h).1 H) (ih (rY h).2)
end
noncomputable def GQ:O MS:=t7.body.dropLast
def zz:MS×ME×ME×ME×O MS:=((sZ.body.getD 0 .cont),(BZ (sZ.body.getD 1 .cont)).1,(BZ (sZ.body.getD 1 .cont)).2.1,(BZ (sZ.body.getD 1 .cont)).2.2,sZ.body.drop 2)
noncomputable def Xk:MS->MS×ME×O ME×ME×ME
 | .DG pre o args t e _ _=>(pre.getD 0 .cont,o,args,t,e)
 |_=>(.cont, .bad,[], .bad, .bad)
def vt:MS×ME×O ME×ME×ME:=Xk (t7.body.getLastD .cont)
def Le(f:aa)(r:MF)(sc:Sc)(J:O aF):O aF:=
 if f==32 then y8 (El wV sc 20) GQ J++[Pn sc vt.1 vt.2.1 vt.2.2.1 vt.2.2.2.1 vt.2.2.2.2 (J.getLastD dS)]
 else if f==51 then Nu sc zz.1 zz.2.1 zz.2.2.1 zz.2.2.2.1 zz.2.2.2.2 J
 else y8 (El wV sc 20) r.body J
def Lf(f:aa)(r:MF)(sc:Sc)(J:O aF):aj:=
 if f==32 then zY (IR wV sc 20) GQ J&&Wl sc vt.1 vt.2.1 vt.2.2.1 vt.2.2.2.1 vt.2.2.2.2 5 10 (J.getLastD dS)
 else if f==51 then Nv sc zz.1 zz.2.1 zz.2.2.1 zz.2.2.2.1 zz.2.2.2.2 J
 else zY (IR wV sc 20) r.body J
def Wm(f:aa):aj:=match prog[f]? with
 |none=>false
 |some r=>(yY f).any λq=>ES q.2.2&&(Pm r q.2.1 q.2.2.args&&Lf f r (Sc.fn r q.2.1) q.1)
def Pp(f:aa):ax (O aF):=(prog[f]?).bind λr=>(yY f).map λq=>Le f r (Sc.fn r q.2.1) q.1
theorem ZY:(bg 59).all Wm=true:=by decide+kernel
theorem ZZ:(bg 59).map Pp=(bg 59).map λf=>(yY f).map (·.1):=by kernel_rfl
end
section
def Lg(h:aq)(a:ag)(body:O aF)(scope:aQ)(args:dp):Prop:=
 ∃ o fd,h.get? a=some o/\o.data= .func fd/\h.CodeRec fd.code fd.qualname/\fd.body= .stmts body/\fd.closure=[]/\fd.globals=bV/\fd.builtins=ei/\fd.params=args/\fd.defaults= .none/\fd.scope=scope
structure Head(ad:aa->ag):Prop where
 K:Classes
 N:Names
 XE:y5
 lim:G.h0.NoLimit
 heap:∀ f body scope args,yY f=some (body,scope,args)->f<59->Lg G.h0 (ad f) body scope args
 fn:∀ f nm,fnName f=some (nm,99)->keepIn G.K (.ref (ad f))=true/\Means (aJ nm) (.ref (ad f))
 me:∀ f nm c,fnName f=some (nm,c)->c<=3->nm≠"__init__"->Cg (uw f) (aJ nm) (ad f)
 new:∀ f c,fnName f=some ("__init__",c)->c<=3->Jq c (ad f)
 cls:∀ c nm,zH[c]?=some nm->Means (aJ nm) (.ref (sK c))
 bt:∀ p∈AE,Means (aJ p.1) p.2
 gl:∀ i nm,xR[i]?=some nm->D8 i (aJ nm)
section
variable{ad:aa->ag}
theorem Pq{r:MF}{xs:O am}:∀ {n:aa},HO r n xs=true->∀ (i:aa) (a:am),xs[i]?=some a->r.names.lookup a=some (n+i):=by
 induction xs with
 |nil=>exact λz z z h=>nn h
 |cons x xs J=>
  intro n h i a hi;cases i with
  |zero=>exact aE hi▸eq_of_beq (rY h).1
  |succ i=>exact(J (rY h).2 i a hi).trans (av some (jb n i))
theorem Xl{p as k:O bp}{v w:ax bp}{J:O (ax au)}{es:O au}(e1:p=[])(e2:v=none)(U:k=[])(e4:J=[])(e5:w=none)(e6:es=[]):dp.mk p as v k J w es=⟨[],as,none,[],[],none,[]⟩:=by rw[e1,e2,U,e4,e5,e6]
theorem Xm{a:dp}(h:ES a=true):a=⟨[],a.args,none,[],[],none,[]⟩:=by
 cases a;have h1:=rY h;have h2:=rY h1.2;have h3:=rY h2.2;have J:=rY h3.2;have U:=rY J.2;exact Xl (cR.mp h1.1) (jq.mp h2.1) (cR.mp h3.1) (cR.mp J.1) (jq.mp U.1) (cR.mp U.2)
theorem Xn{a:ag}{r:MF}{scope:aQ}{args:dp}{body:O aF}(lim:G.h0.NoLimit)(hh:Lg G.h0 a body scope args)(ha:ES args=true)(h:Pm r scope args.args=true):Kj a r scope args.args body:=by
 have h1:=rY h;have h2:=rY h1.2;have h3:=rY h2.2;have J:=rY h3.2;have U:=rY J.2;have h6:=rY U.2;have h7:=rY h6.2;have h8:=rY h7.2;have h9:=rY h8.2;have nm:=λp hp=>rY (bh.mp h9.2 p hp)
 exact⟨hh.elim λo z=>z.elim λfd z=>⟨z.1,z.2.1,z.2.2.1,z.2.2.2.1,z.2.2.2.2.1,z.2.2.2.2.2.1,z.2.2.2.2.2.2.1,z.2.2.2.2.2.2.2.1.trans (Xm ha),z.2.2.2.2.2.2.2.2.1,z.2.2.2.2.2.2.2.2.2⟩,lim,(match hk:scope.kind,h1.1 with| .function,_=>rfl),Ej h2.1,Ej h3.1,wz J.1,wz U.1,eq_of_beq h6.1,
  λi a hi=>(Pq h7.1 i a hi).trans (av some (ia i)),λx hx=>((fL _ _).mp (bh.mp h8.1 x hx)).imp eq_of_beq eq_of_beq,wz h9.1,λp hp hk=>((fL _ _).mp (nm p hp).1).elim (λz=>aC hk (bS.mp (Ej z))) id,λp hp=>bS.mp (Ej (nm p hp).2)⟩
theorem Bz{f:aa}{p:bc×aa}(h:fnName f=some p):f<59:=(c5.mp h).elim λq z=>(bD.mp z.1).1
theorem Z0{f:aa}(J:f<59):∃ r body scope args,prog[f]?=some r/\yY f=some (body,scope,args)/\ES args=true/\Pm r scope args.args=true/\Lf f r (Sc.fn r scope) body=true/\Le f r (Sc.fn r scope) body=body:=by
 have h:=bh.mp ZY f (b5.mpr J);have e:=av (·[f]?) ZZ
 have e:(Pp f:ax (O aF))=(yY f).map (·.1):=by
  rw[ca,ca,pE J] at e
  exact aE e
 unfold Wm at h
 unfold Pp at e
 cases hr:prog[f]? with
 |none=>rw[hr] at h;exact ff h
 |some r=>
  rw[hr] at h e
  cases U:yY f with
  |none=>rw[U] at h;exact ff h
  |some q=>
   rw[U] at h e
   have h:=rY h;exact⟨r,q.1,q.2.1,q.2.2,rfl,rfl,h.1,(rY h.2).1,(rY h.2).2,aE e⟩
theorem Xo:GQ++[.DG [vt.1] vt.2.1 vt.2.2.1 vt.2.2.2.1 vt.2.2.2.2 10 (yA 5 10)]=t7.body:=by kernel_rfl
theorem Xp(T:Head ad)(d:aa):∀ f,f<59->(f≠raiser->y0 d (sC prog d f) (ad f))/\(f=raiser->EQ d (sC prog d f) (ad f)):=by
 induction d with
 |zero=>exact λf hf=>⟨λy y y y y y y y y y=>ah,λy y y y y y y y y y=>ah⟩
 |succ d ih=>
  intro f hf
  have ne:∀ {f nm c},fnName f=some (nm,c)->c≠3->f≠raiser:=λh hc e=>by
   subst e;exact hc (av gj (aE (h.symm.trans (by decide+kernel:fnName 51=some ("check",3)))))
  have H:Hy d (sC prog d):=⟨T.K,T.N,T.XE,λf nm h=>⟨ad f,T.fn f nm h,(ih f (Bz h)).1 (ne h (by decide))⟩,λf nm c h1 h2 h3=>⟨ad f,T.me f nm c h1 h2 h3,ih f (Bz h1)⟩,λf c h1 h2=>⟨ad f,T.new f c h1 h2,(ih f (Bz h1)).1 λe=>by
   subst e;exact aC (av fC (aE (h1.symm.trans (by decide+kernel:fnName 51=some ("check",3))))) (by decide:"__init__"≠"check")⟩,T.cls,T.bt,T.gl⟩
  obtain⟨r,body,scope,args,hr,Zi,c1,c2,J,e⟩:=Z0 hf;have D:=Xn T.lim (T.heap f body scope args Zi hf) c1 c2
  have em:∀ args,sC prog (d+1) f args=if f==raiser then Jk (sC prog d) r args else zt r.pure (zV (sC prog d) r args):=λargs=>by
   show(match prog[f]? with|some r=>_|none=>_)=_
   rw[hr]
  have S:=Ek H 30;unfold Lf at J
  unfold Le at e
  refine⟨λhn=> ?_,λh51=> ?_⟩
  ·have hb:zN d (sC prog d) (Sc.fn r scope) body r.body:=by
    by_cases Z1:(f==32)=true
    ·rw[aN Z1] at J e
     have U:=eq_of_beq Z1;subst U;have U:=(aE hr:t7=r);subst U;have z:zN d (sC prog d) (Sc.fn t7 scope) (y8 (El wV (Sc.fn t7 scope) 20) GQ body++[Pn (Sc.fn t7 scope) vt.1 vt.2.1 vt.2.2.1 vt.2.2.2.1 vt.2.2.2.2 (body.getLastD dS)]) _:=Xj (ZX H (rY J).2) (GP H S 20) (rY J).1;rw[e,Xo] at z
     exact z
    ·rw[aI Z1] at J e
     have n51:¬ (f==51)=true:=λz=>hn (eq_of_beq z);rw[aI n51] at J e
     have z:zN d (sC prog d) (Sc.fn r scope) (y8 (El wV (Sc.fn r scope) 20) r.body body) r.body:=IO (Pl (GP H S 20) J);rw[e] at z
     exact z
   have call:y0 (d+1) (zV (sC prog d) r) (ad f):=UH D hb;intro A X C σ s args us P hu;rw[em args,aI λz=>hn (eq_of_beq z)];cases hp:r.pure with
   |true=>exact Ue call P hu
   |false=>exact call P hu
  ·subst h51
   rw[aI (show ¬ (raiser==32)=true by decide+kernel),aN (show(raiser==51)=true from rfl)] at J e
   have U:=(aE hr:sZ=r);subst U;intro A X C σ s args us P hu
   exact MB D args (λHH=>by
    have z:=UP H J HH;rw[e] at z
    exact z) P hu
end
end
end
section
open PySem.W PyProof.Rows
section
section
noncomputable def Lh(st:cX->eK->ax (cX×eK))(ok:eK->aj):aa->cX->eK->ax cX
 |0,_,_=>none
 |n+1,s,t=>match through t with
  |true=>some s
  |false=>match ok t with
   |false=>none
   |true=>match st s t with
    |none=>none
    |some r=>Lh st ok n r.1 r.2
theorem Z2{st:cX->eK->ax (cX×eK)}{ok:eK->aj}{n:aa}{s:cX}{t:eK}:Lh st ok (n+1) s t=match through t with|true=>some s|false=>match ok t with|false=>none|true=>match st s t with|none=>none|some r=>Lh st ok n r.1 r.2:=rfl
theorem IT{U:bc->ax bq}{p:a9}{w:a0}{m:aa}{J:ax af}:∀ {n:aa} {s s':cX} {t:eK},Lh (stepT (denote U) p w) (stepOk m J) n s t=some s'->topRun U p w m J n s.abs t=some s'.abs
 |0,_,_,_,h=>by cases h
 |n+1,s,s',t,h=>by
  rw[Z2] at h
  unfold topRun;cases ht:through t with
  |true=>rw[ht] at h;cases h;rfl
  |false=>
   rw[ht] at h
   cases hk:stepOk m J t with
   |false=>rw[hk] at h;cases h
   |true=>
    rw[hk] at h
    cases hs:stepT (denote U) p w s t with
    |none=>rw[hs] at h;cases h
    |some r=>obtain⟨s₂,t₂⟩:=r;rw[hs] at h;rw[stepT_spec hs];exact IT h
noncomputable def En:O aL->aa->BT->ax BT
 |[],_,t=>some t
 |o::os,i,t=>match ((t.ins i o).get i).isSome with
  |true=>En os (i+1) (t.ins i o)
  |false=>none
theorem UQ{o:aL}{os:O aL}{i:aa}{t:BT}:En (o::os) i t=match ((t.ins i o).get i).isSome with|true=>En os (i+1) (t.ins i o)|false=>none:=rfl
theorem Fo(life:Life):∀ {os:O aL} {i:aa} {t t':BT},En os i t=some t'->(absHeap t' (i+os.length) life).objs.toList=(absHeap t i life).objs.toList++os
 |[],i,t,t',h=>by cases h;simp
 |o::os,i,t,t',h=>by
  rw[UQ] at h
  cases g:((t.ins i o).get i).isSome with
  |false=>rw[g] at h;cases h
  |true=>
   rw[g] at h
   have:=Fo life h;rw[absHeap_ins g] at this
   rw[ij,show i+(os.length+1)=i+1+os.length from(jb ..).symm,this]
   simp[aq.push]
def toT(s:ai):ax cX:=(En s.heap.objs.toList 0 .nil).map λt=>⟨t,s.heap.objs.size,s.heap.life,s.gens,s.drawn,s.toks,s.os⟩
theorem Xq{s:ai}{t:cX}(h:toT s=some t):t.abs=s:=by
 obtain⟨b,J,rfl⟩:=c5.mp h;obtain⟨⟨objs,life⟩,gens,drawn,toks,os⟩:=s;have q:=Fo life J;rw[ia] at q
 have U:(absHeap b objs.toList.length life).objs=objs:=aB.toList_inj.mp (q.trans (O.nil_append _));have e:absHeap b objs.size life=⟨objs,life⟩:=av (λo=>aq.mk o life) U;show ai.mk _ _ _ _ _=_;rw[e]
def Pr(tb:bc->ax bq)(p:a9)(w:a0)(N:aa)(J:ai):ax cX:=
 match J.heap.isNs bV&&J.gens.size==0 with
 |true=>(toT J).bind λU=>Lh (stepT (denote tb) p w) (stepOk J.heap.objs.size (J.heap.nsMap bV "__annotations__")) N U (topStub p)
 |false=>none
noncomputable def Ab(p:a9)(U J:ai):aj:=staticsOk (importedModules p.main.body) U.heap J.heap&&namesBound p J.heap&&gensDone J&&laidKept U.heap J.heap
def zA{α:Type}(p:a9)(w:a0)(N:aa)(f:cX->α):ax α:=
 (fencedOpening treeTable p w N).bind λJ=>(Pr treeTable p w N J).bind λt=>match Ab p J t.abs with
  |true=>some (f t)
  |false=>none
theorem Se{α:Type}{p:a9}{w:a0}{N:aa}{f:cX->α}{a:α}(h:zA p w N f=some a):∃ t,openEnds treeTable p w N=some t.abs/\f t=a:=by
 unfold zA at h
 obtain⟨J,h1,h⟩:=fM.mp h;obtain⟨t,h2,h⟩:=fM.mp h;cases ho:Ab p J t.abs with
 |false=>rw[ho] at h;cases h
 |true=>
  rw[ho] at h
  refine⟨t, ?_,aE h⟩;unfold openEnds;rw[h1];show topFrom treeTable p w N J=_;unfold Pr at h2
  unfold topFrom;cases hg:(J.heap.isNs bV&&J.gens.size==0) with
  |false=>rw[hg] at h2;cases h2
  |true=>
   rw[hg] at h2
   obtain⟨U,h3,h4⟩:=fM.mp h2;have:=IT h4;rw[Xq h3] at this
   dsimp only;rw[this];show(match Ab p J t.abs with|true=>_|false=>_:ax ai)=_
   rw[ho]
theorem UR{α β:Type}{p:a9}{w:a0}{N:aa}{f:cX->α}{g:cX->β}{a:α}{b:β}(h:zA p w N f=some a)(k:zA p w N g=some b):zA p w N (λs=>(f s,g s))=some (a,b):=by
 unfold zA at*
 obtain⟨J,h1,h⟩:=fM.mp h;rw[h1] at k⊢
 obtain⟨t,h2,h⟩:=fM.mp h;rw[jX,h2,jX] at k⊢
 cases ho:Ab p J t.abs with
 |false=>rw[ho] at h;cases h
 |true=>
  rw[ho] at h k
  have U:=aE h;subst U;have U:=aE k;subst U;rfl
end
end
end
section
open PySem.W PyProof.Rows PySem.Calls
section
def Xr:O ag:=[2,3,15,16,17,18,19,20,212,211,241,240,328,327,384,383,444,443,518,517,202,201,231,230,190,219]++(bg 59).flatMap λf=>[ad f,ad f - 1]
noncomputable def y9(t:BT)(n:aa):O ag->bb
 |[]=>[]
 |a::as=>match ln a n with
  |true=>(match t.get a with
   |some o=>(match alive o with
    |some o=>(a,o)::y9 t n as
    |none=>y9 t n as)
   |none=>y9 t n as)
  |false=>y9 t n as
theorem Xs{t:BT}{n:aa}{a:ag}{as:O ag}:y9 t n (a::as)=match ln a n with|true=>(match t.get a with|some o=>(match alive o with|some o=>(a,o)::y9 t n as|none=>y9 t n as)|none=>y9 t n as)|false=>y9 t n as:=rfl
theorem A3(t:BT)(n:aa)(life:Life){a:ag}{o:aL}:∀ as:O ag,(y9 t n as).lookup a=some o->(absHeap t n life).get? a=some o
 |[]=>λe=>by cases e
 |x::as=>λe=>by
  rw[Xs] at e
  cases h1:ln x n with
  |false=>rw[h1] at e;exact A3 t n life as e
  |true=>
   rw[h1] at e
   cases h2:t.get x with
   |none=>rw[h2] at e;exact A3 t n life as e
   |some o'=>
    rw[h2] at e
    dsimp only at e
    cases h3:alive o' with
    |none=>rw[h3] at e;exact A3 t n life as e
    |some U=>
     rw[h3] at e
     dsimp only at e
     rw[eu] at e
     by_cases J:a=x
     ·subst J
      rw[bC] at e
      cases e;rw[abs_get (aa.blt_eq.mp h1) h2,h3]
     ·rw[bS.mpr J] at e
      exact A3 t n life as e
def qv:a9:=view pw [59]
noncomputable def GR:O am:=((((Jl.filter λp=>p.2.1==99).map (·.1)).filter (·!="law"))++zH++xR++["quotient_of","arith_holds","is_round","are_inverse","need_at","time_holds","is_accepted","logic_holds","FdError","clause_of","__name__"]).map aJ
def Li(s:cX):bb:=y9 s.tree s.n Xr
theorem Z3(w:a0):zA pw w 8000 (λs=>(allB (Li s),shapes (Li s)))=some (true,Gj):=by
 unfold zA fencedOpening Pr topStub Ab;rw[pF,pG,pH,pI,pJ,pK,pL,pM,pN,pO];kernel_rfl
theorem Z4(w:a0):zA pw w 8000 (λs=>openSeen qv GR (importedModules pw.main.body) (λz=>true) true s.abs)=some (openGood qv GR):=by
 unfold zA fencedOpening Pr topStub Ab;rw[pF,pG,pH,pI,pJ,pK,pL,pM,pN,pO];rw[rR];kernel_rfl
def Ps(s:ai):Prop:=∃ K:bb,K.In s.heap/\Facts K
theorem left:LeftO pw qv GR (λz=>true) Ps (λz=>cu) 8000:=λw=>by
 obtain⟨t,h,e⟩:=Se (UR (Z4 w) (Z3 w));rw[h];have e1:=av fC e;have e2:(allB (Li t),shapes (Li t))=_:=av gj e;have J:Ps t.abs=cu:=eq_true ⟨Li t,λa o x=>A3 _ _ _ _ x,av fC e2,av gj e2⟩;show some (_,Ps t.abs)=_;rw[J];exact av (λx=>some (x,cu)) e1
end
section
theorem vf{α:Type}{o:ax α}{p:α->aj}{P:Prop}(h:o.any p=true)(k:∀ x,o=some x->p x=true->P):P:=by
 cases o with
 |none=>cases h
 |some x=>exact k x rfl h
theorem AK{α:Type}{x:α}{P:Prop}(h:none=some x):P:=by cases h
theorem Lj{d:cJ}{f:cY}:Og d=some f->d= .func f:=by
 cases d with
 |func g=>exact av cJ.func∘aE
 |_=>exact AK
theorem Nw{d:cJ}{f:dU}:Tk d=some f->d= .cls f:=by
 cases d with
 |cls g=>exact av cJ.cls∘aE
 |_=>exact AK
theorem Pt{d:cJ}{f:aB af}:MQ d=some f->d= .fields f:=by
 cases d with
 |fields g=>exact av lm∘aE
 |_=>exact AK
theorem US{d:cJ}{f:ax af}:VF d=some f->d= .cell f:=by
 cases d with
 |cell g=>exact av cJ.cell∘aE
 |_=>exact AK
theorem Xu{d:cJ}{f:aB af×aa}:Yo d=some f->d= .seq f.1 f.2:=by
 cases d with
 |seq g n=>exact λh=>aE h▸rfl
 |_=>exact AK
theorem Ny{d:af}{f:ag}:Tl d=some f->d= .ref f:=by
 cases d with
 |ref g=>exact av a7∘aE
 |_=>exact AK
theorem UT{x:am}{v:af}:VG x v=true->∃ t,v= .str x t:=by
 cases v with
 |str y t=>exact λh=>⟨t,eq_of_beq h▸rfl⟩
 |_=>exact ff
theorem six{α:Type}{xs:O α}{v:α}(h:(xs.length==6)=true)(k:xs[4]?=some v):∃ a b c d f,xs=[a,b,c,d,v,f]:=by
 rcases xs with _|⟨a,_|⟨b,_|⟨c,_|⟨d,_|⟨e,_|⟨f,_|⟨g,r⟩⟩⟩⟩⟩⟩⟩
 iterate 6 exact aC h b0
 ·exact⟨a,b,c,d,f,aE k▸rfl⟩
 ·exact aC (bF (eq_of_beq h)) (jr (cF 7 r.length))
theorem fact{K:bb}(F:Facts K)(i:aa){b:aj}(h:(Yq K)[i]?=some b):b=true:=bh.mp F.b b (cv h)
section
variable(c:Oh G)
include c
theorem aa3{x:am}{v:af}(e:eB (nsIn G.K bV x) (some (some v))=true):G.mg x=some v:=mg_of c.X c.g (bl.mp e)
theorem Wn{x:am}(e:eB (nsIn G.K bV x) (some none)=true):G.mg x=none:=mg_none_of c.X c.g (bl.mp e)
omit c in
theorem HP{K:bb}{f:aa}{nm:bc}{cl:aa}(J:fnName f=some (nm,cl))(h:Gi K f=true):isFn K (.ref (ad f))=true/\keepIn K (.ref (ad f))=true/\
  (cl=99->eB (nsIn K bV (aJ nm)) (some (some (.ref (ad f))))=true)/\(cl≠99->uw f=cl/\plainGet K (sK cl) (aJ nm)=true/\findIn K (.ref (sK cl)) (aJ nm)=some (some (.ref (ad f)))):=by
 unfold Gi at h
 rw[J] at h
 have z:=rY (show(isFn K (.ref (ad f))&&(keepIn K (.ref (ad f))&&bif cl==99 then _ else _))=true from h)
 have y:=rY z.2;refine⟨z.1,y.1,λe=>by subst e;exact y.2,λe=> ?_⟩
 have q:=y.2;rw[show(cl==99)=false from bS.mpr e] at q
 have q:=rY (show(uw f==cl&&(plainGet K (sK cl) (aJ nm)&&eB (findIn K (.ref (sK cl)) (aJ nm)) (some (some (.ref (ad f))))))=true from q)
 exact⟨eq_of_beq q.1,(rY q.2).1,bl.mp (rY q.2).2⟩
omit c in
theorem HQ{K:bb}(F:Facts K){f:aa}{q:bc×aa}(J:fnName f=some q):Gi K f=true:=bh.mp (fact F 0 rfl) f (b5.mpr (Bz J))
omit c in
theorem Pu:Jl.all (λq=> !AD.contains q.1)=true:=by decide+kernel
omit c in
theorem Xv{f:aa}{nm:bc}{cl:aa}(U:fnName f=some (nm,cl)):∀ k,attrName k≠some (aJ nm):=by
 intro k hk;obtain⟨t,ht,e⟩:=c5.mp hk;have e:=str_inj.mp e;unfold fnName at U
 obtain⟨⟨J,c',i,j⟩,hq,e'⟩:=c5.mp U;cases e';have z:=bh.mp Pu _ (cv hq);simp only[cH] at z
 have hm:=cv ht;rw[e] at hm
 rw[show AD.contains J=true by simpa using hm] at z
 cases z
omit c in
theorem Df{K:bb}(F:Facts K){cl:aa}(h:cl<=3):Hg K cl=true:=bh.mp (fact F 1 rfl) cl (b5.mpr (lu h))
theorem Z5{f:aa}{body:O aF}{scope:aQ}{args:dp}(hr:yY f=some (body,scope,args))(J:f<59):Lg G.h0 (ad f) body scope args:=by
 have e:((bg 59).map (λf=>(fdOf G.K (ad f)).map Hh))[f]?=((bg 59).map (λf=>(yY f).map FC))[f]?:=av (·[f]?) (av fC c.F.s)
 rw[ca,ca,pE J] at e
 have e:(fdOf G.K (ad f)).map Hh=(yY f).map FC:=aE e;rw[hr] at e
 obtain⟨fd,h1,h2⟩:=c5.mp e;have hc:FB G.K f=true:=bh.mp (fact c.F 3 rfl) f (b5.mpr J);unfold FB at hc
 rw[h1] at hc
 obtain⟨o,ho,U⟩:=fM.mp h1;exact⟨o,fd,c.X _ _ ho,Lj U,pP c.X hc,av (·.1) h2,av (·.2.1) h2,av (·.2.2.1) h2,av (·.2.2.2.1) h2,av (·.2.2.2.2.1) h2,av (·.2.2.2.2.2.1) h2,av (·.2.2.2.2.2.2) h2⟩
theorem GS{x:am}{v:af}(e:eB (nsIn G.K bV x) (some (some v))=true):Means x v:= .inl (aa3 c e)
theorem Wo{f:aa}{nm:bc}(J:fnName f=some (nm,99)):keepIn G.K (.ref (ad f))=true/\Means (aJ nm) (.ref (ad f)):=
 have h:=HP J (HQ c.F J)
 ⟨h.2.1,GS c (h.2.2.1 rfl)⟩
theorem Xw{f:aa}{nm:bc}{cl:aa}(J:fnName f=some (nm,cl))(hc:cl<=3):Cg (uw f) (aJ nm) (ad f):=by
 have h:=HP J (HQ c.F J);obtain⟨h1,h2,h3⟩:=h.2.2.2 (bu (bH hc (by decide)))
 exact⟨by rw[h1];exact h2,by rw[h1];exact h3,h.1,h.2.1,Xv J⟩
omit c in
theorem Dg{K:bb}{cl:aa}(h:Hg K cl=true):makesIn K (sK cl)=true/\keepIn K (.ref (sK cl))=true/\hasDictIn K (sK cl)=true/\plainOver K (sK cl)=true/\findIn K (.ref (sK cl)) "__setattr__"=some (some (.builtin "object.__setattr__"))/\
  ∀ a x,attrName a=some x->plainGet K (sK cl) x=true/\findIn K (.ref (sK cl)) x=some none:=
 have a:=rY h;have b:=rY a.2;have c:=rY b.2;have d:=rY c.2;have e:=rY d.2
 ⟨a.1,b.1,c.1,d.1,bl.mp e.1,λy y hx=>(c5.mp hx).elim λt q=>have z:=rY (bh.mp e.2 t (cv q.1));q.2▸⟨z.1,bl.mp z.2⟩⟩
theorem Z6{f:aa}{cl:aa}(J:fnName f=some ("__init__",cl))(hc:cl<=3):Jq cl (ad f):=by
 have h:=HP J (HQ c.F J);obtain⟨h1,h2,h3⟩:=h.2.2.2 (bu (bH hc (by decide)))
 have z:=Dg (Df c.F hc);exact⟨hc,z.1,h3,h.1,z.2.1⟩
theorem Sf{k:aa}{nm:bc}(h:zH[k]?=some nm):Means (aJ nm) (.ref (sK k)):=by
 have hk:k<5:=(bD.mp h).1;have z:=bh.mp (fact c.F 2 rfl) k (b5.mpr hk);rw[show zH.getD k ""=nm by rw[pb,h];rfl] at z
 exact GS c z
omit c in
theorem Xx:AE.all (λq=>eB (bootBuiltins (aJ q.1)|>some) (some (some q.2))&& !(aJ q.1==("__name__":am)))=true:=by decide+kernel
theorem UU:∀ q∈AE,Means (aJ q.1) q.2:=λq U=>by
 have z:=bh.mp (fact c.F 5 rfl) q U;have J:=bh.mp Xx q U;simp only[ef,cH] at J
 have z3:=aE (bl.mp J.1);refine .inr ⟨Wn c z, ?_⟩;show G.mb _=_;rw[c.bt _ (λe=>by rw[e] at J;exact aC J.2 (by simp)),z3]
omit c in
theorem Sg{h:aq}{C:Cx}{ks:O aa}:∀ {vs:O af},strsOk ks vs=true->su h C (ks.map V.str) vs:=by
 induction ks with
 |nil=>exact λe=>cR.mp e▸ .nil
 |cons k ks J=>
  intro vs e;cases vs with
  |nil=>exact ff e
  |cons v vs=>
   have e:(strOk k v&&strsOk ks vs)=true:=e;cases v with
   |str x t=>exact .cons (.str (eq_of_beq (rY e).1)) (J (rY e).2)
   |_=>exact ff (rY e).1
theorem Xy{i:aa}{nm:bc}(h:xR[i]?=some nm):D8 i (aJ nm):=
 vf (show JN G.K i=true from bh.mp (fact c.F 4 rfl) i (b5.mpr (bD.mp h).1)) λU e z=>vf z λks hg z=>vf z λv hn z=>vf z λv e2 z=>vf z λa ea z=>vf z λo ho J=>vf (rY J).2 λp hp q=>by
  cases aE (h.symm.trans e);subst e2;rw[Ny ea] at hn
  exact .mk (.inl (mg_of c.X c.g hn)) hg ⟨o,c.X _ _ ho,eq_of_beq (rY J).1,p.2,Xu hp⟩ (Sg q)
end
def Pv(scope:aQ)(as:O bp):aj:=scope.kind== .function&& !scope.isCoroutine&& !scope.isGenerator&&scope.names.lookup ("super":am)==some .globalImplicit&&scope.names.lookup ("__class__":am)==some .free&&
 as.all (λa=>scope.names.lookup a.arg==some .local)&&scope.names.all (λp=>p.2 != .cell)&&xL (as.map (·.arg))
theorem Sh:Pv (vV 36).2.1 (vV 36).2.2.args=true:=by decide+kernel
theorem Si:Pv (vV 35).2.1 (vV 35).2.2.args=true:=by decide+kernel
theorem Fp{scope:aQ}{as:O bp}(h:Pv scope as=true):yz scope as:=by
 unfold Pv at h
 simp only[ef,bl,cH,bh,pC] at h
 obtain⟨⟨⟨⟨⟨⟨⟨h1,h2⟩,h3⟩,J⟩,U⟩,h6⟩,h7⟩,h8⟩:=h;exact⟨h1,h2,h3,J,U,h6,h7,wz h8⟩
theorem Xz{P:Prop}(k:∀ {U J a3 p0 p1 p2 p3 p4 p5 p6 p7 p8 p9},(vV 36).2.2=⟨[],[U,J,a3],none,[],[],none,[]⟩->(vV 36).1=[.Expr (.Call (.Attribute (.Call (.Name "super" p0) [] [] p1) "__init__" p2) [.Name J.arg p3] [] p4) p5, .Assign [.Attribute (.Name U.arg p6) (aJ "step") p7] (.Name a3.arg p8) p9]->
  zp (.Call (.Attribute (.Call (.Name "super" p0) [] [] p1) "__init__" p2) [.Name J.arg p3] [] p4) (.Call (.Name "super" p0) [] [] p1) [.Name J.arg p3] p2 p4->((U.arg==("__debug__":am))=false/\(J.arg==("__debug__":am))=false/\(a3.arg==("__debug__":am))=false)->P):P:=
 k rfl rfl (λenv=>⟨_,rfl⟩) ⟨by decide+kernel,by decide+kernel,by decide+kernel⟩
theorem XA{P:Prop}(k:∀ {U J p0 p1 p2 p3 p4 p5 p6 p7 p8 p9},(vV 35).2.2=⟨[],[U,J],none,[],[],none,[]⟩->(vV 35).1=[.Expr (.Call (.Attribute (.Call (.Name "super" p0) [] [] p1) "__init__" p2) [.Name J.arg p3] [] p4) p5, .Assign [.Attribute (.Name U.arg p6) (aJ "what") p7] (.Name J.arg p8) p9]->
  zp (.Call (.Attribute (.Call (.Name "super" p0) [] [] p1) "__init__" p2) [.Name J.arg p3] [] p4) (.Call (.Name "super" p0) [] [] p1) [.Name J.arg p3] p2 p4->((U.arg==("__debug__":am))=false/\(J.arg==("__debug__":am))=false)->P):P:=
 k rfl rfl (λenv=>⟨_,rfl⟩) ⟨by decide+kernel,by decide+kernel⟩
theorem IU{K:bb}{C D:ag}(h:Yp K C D=true):vp K C D:=
 have a:=rY h;have b:=rY a.2;have c:=rY b.2;have d:=rY c.2;have e:=rY d.2
 ⟨vf a.1 λcd e q=>⟨cd,e,bl.mp q⟩,bl.mp b.1,bl.mp c.1,bl.mp d.1,e.1,λz z hx=>(c5.mp hx).elim λt q=>q.2▸bl.mp (bh.mp e.2 t (cv q.1))⟩
theorem aa4{cd:dU}{L:O af}(h1:cd.mro=L)(h2:cd.abstract=false)(h3:cd.hasDel=false):cd=⟨cd.name,cd.bases,L,cd.ns,cd.qualname,cd.hasDict,cd.slotNames,cd.subclasses,false,cd.collection,false⟩:=by
 cases cd;cases h1;cases h2;cases h3;rfl
theorem Z7{o:aL}{C D:ag}{cd:dU}{k0 k1 k2 k3 k5:ax af}(h1:o.cls= .type "type")(h2:o.data= .cls cd)(h3:cd.mro=[.ref C, .ref D, .type "Exception", .type "BaseException", .type "object"])(J:cd.abstract=false)(U:cd.hasDel=false)(h6:o.slots.toList=[k0,k1,k2,k3,some (.builtin "Exception.__new__"),k5]):
  o=Bv ⟨cd.name,cd.qualname,cd.ns,D,cd.bases,cd.hasDict,cd.slotNames,cd.subclasses,false,cd.collection,o.dict,k0,k1,k2,k3,k5⟩ C:=by
 rw[aa4 h3 J U] at h2
 obtain⟨_,_,_,⟨_⟩⟩:=o;cases h1;cases h2;cases h6;rfl
theorem Wp{K:bb}{C D:ag}(h:pfB K C D=true):∃ i:PI,K.lookup C=some (Bv i C)/\i.D=D/\i.ab=false:=
 vf h λo ho h=>
  have a:=rY h;have b:=rY a.2;have c:=rY b.2
  vf c.2 λcd U q=>(six b.1 (bl.mp c.1)).elim λk0 z=>z.elim λk1 z=>z.elim λk2 z=>z.elim λk3 z=>z.elim λk5 z=>
   have J:=rY (rY q).2
   ⟨_,(Z7 (eq_of_beq a.1) (Nw U) (bl.mp (rY q).1) ((cH _).mp J.1) ((cH _).mp J.2) z)▸ho,rfl,rfl⟩
theorem UV{K:bb}{D:ag}(h:P7 K D=true):∃ o cd,K.lookup D=some o/\o.data= .cls cd:=
 vf h λo ho z=>(fB.mp z).elim λcd e=>⟨o,cd,ho,Nw e⟩
theorem Sj:(gE.main.scope.names.lookup ("super":am)).isSome=false:=by decide+kernel
section
variable(c:Oh G)
include c
theorem Sk{i:aa}{a D cc:ag}{as:O bp}(hs:Tm G.K a D cc=true)(he:(fdOf G.K a).map CL=some (Bi (vV i) cc))(ha:(vV i).2.2=⟨[],as,none,[],[],none,[]⟩):
  ∃ fd,Bu a as (vV i).2.1 (vV i).1 D fd cc:=
 vf hs λo ho z=>vf (rY z).2 λfd J q=>by
  rw[show fdOf G.K a=some fd from fM.mpr ⟨o,ho,J⟩] at he
  have he:CL fd=Bi (vV i) cc:=aE he;have U:=rY (rY q).2
  exact⟨fd,⟨o,c.X _ _ ho,eq_of_beq (rY z).1,Lj J⟩,pP c.X (rY q).1,av (·.1) he,(av (·.2.1) he).trans ha,av (·.2.2.1) he,av (·.2.2.2.1) he,av (·.2.2.2.2.1) he,av (·.2.2.2.2.2.1) he,av (·.2.2.2.2.2.2) he,
   vf U.1 λc' e1 z=>vf z λoc e2 z=>vf z λvs e3 z=>vf z λv e4 z=>(UT z).elim λt e5=>⟨c',oc,vs,t,Ny e1,c.X _ _ e2,Pt e3,e5▸e4⟩,
   vf U.2 λoc e z=>⟨oc,c.X _ _ e,US (bl.mp z)⟩,c.lim⟩
theorem Nz:Names:=⟨c.g,c.b⟩
theorem Pw:Cn:=⟨Wn c (fact c.F 17 rfl),(c.bt _ (by decide+kernel)).trans (by decide+kernel),Sj⟩
theorem Sl:Classes:=by
 refine⟨c.X,λk a x hk hx=> ?_,⟨212,IU (fact c.F 6 rfl)⟩,λk hk=> ?_⟩
 ·have z:=Dg (Df c.F hk)
  exact⟨(z.2.2.2.2.2 a x hx).1,z.2.2.1,(z.2.2.2.2.2 a x hx).2⟩
 ·have z:=Dg (Df c.F hk)
  exact⟨z.2.2.2.2.1,z.2.2.2.1⟩
theorem XB:FU (aJ "what") (aJ "step"):=
 Xz λha hb hc J=>XA λU hB hC hD=>(Sk c (fact c.F 9 rfl) (av (λx=>x.2.1) c.F.s) ha).elim λfd B=>(Sk c (fact c.F 10 rfl) (av (λx=>x.2.2) c.F.s) U).elim λV7 B2=>(Wp (fact c.F 7 rfl)).elim λi hi=>(UV (fact c.F 8 rfl)).elim λoD z=>z.elim λcdD z=>
  RG (D:=212) (an:=10) (V8:=11) (Nz c) (Pw c) (by have S:=Fp Sh;rwa [ha] at S) B (by have S:=Fp Si;rwa [U] at S) B2 hb hc hB hC rfl rfl (by decide+kernel) J.1 J.2.1 J.2.2 hD.1 hD.2 c.X (IU (fact c.F 6 rfl)) (c.X _ _ hi.1) hi.2.2 (bl.mp (fact c.F 11 rfl)) (fact c.F 12 rfl) (c.X _ _ z.1) z.2 (bl.mp (fact c.F 13 rfl)) (bl.mp (fact c.F 14 rfl)) (bl.mp (fact c.F 15 rfl)) (show(241:aa)≠212 by decide)
theorem UW:y5:=⟨⟨_,_,rfl,rfl,XB c⟩,(Wp (fact c.F 7 rfl)).elim λi hi=>⟨i,c.X _ _ hi.1⟩,fact c.F 16 rfl⟩
theorem Sn:Head ad:=by
 refine⟨Sl c,Nz c,UW c,c.lim,λf body scope args h J=>Z5 c h J,λf nm h=>Wo c h,λf nm k h hk z=>Xw c h hk,λf k h hk=>Z6 c h hk,λk nm h=>Sf c h,UU c,λi nm h=>Xy c h⟩
end
theorem XC{h:aq}{C:Cx}{vals:O af}{ns:O ae}(e:eL vals ns):su h C (ns.map V.int) vals:=ints_rep e
theorem So:JO G:=by
 intro s fa l vals ns σ' Q E c hh hos hg J hL hI hl hQ;obtain⟨h0,gens,drawn,toks,os⟩:=s;cases hh;cases hos;have U:fnName 33=some ("law",99):=by decide+kernel
 have hm:=(Wo c U).2
 have e:fa=ad 33:=by
  rcases hm with z|z
  ·have z:G.mg (aJ "law")=_:=z
   rw[J] at z
   cases z;rfl
  ·have z:G.mg (aJ "law")=_:=z.1
   rw[J] at z
   cases z
 subst e;have hS:y0 30 (λargs=>sC prog 30 33 args) (ad 33):=(Xp (Sn c) 30 33 (by decide)).1 (by decide)
 have abt:608<G.h0.objs.size:=((Sn c).heap 33 _ _ _ (by rfl) (by decide)).elim λo z=>z.elim λy z=>aY z.1
 have P:Fc 30 callerA ⟨[],[]⟩ [] ⟨G.h0,gens,drawn,toks,G.Yr⟩:=⟨⟨rfl,by decide+kernel,by decide+kernel⟩,⟨λh=>h,i6 (by decide) abt,rfl,hg,rfl,c6,λh=>(nomatch h),λh=>(nomatch h),λh=>(nomatch h),λh=>nn h⟩,aU _,⟨[],rfl,λy h=>nomatch h⟩⟩
 refine aO ((hS.call (X:=[]) P (.cons (.old (λh=>(nomatch h)) hL (XC hI)) .nil)).get hl) (λv s' h=> ?_) λx s' h=>h.elim
 exact sY.casesOn (motive:=λy=>Q v s') h λN R=>sg.out (P:=λv=>Q v s') R (hQ s' (λy y=>N.I.uG) N.I.os N.I.gens)
theorem said:lw.wellSaid=true:=by
 rw[rS];unfold rT
 iterate 18 refine jt ?_ ?_
 unfold rU
 iterate 2 refine jt ?_ ?_
 unfold rV
 iterate 13 refine jt ?_ ?_
 unfold rW
 iterate 4 refine jt ?_ ?_
 rotate_left 3
 as_aux_lemma=>kernel_rfl
 all_goals kernel_rfl
theorem aa5(w:a0)(h h':aq):(∃ K:bb,K.In h/\Facts K)->(∀ b o,h.get? b=some o->h'.get? b=some o)->∃ K:bb,K.In h'/\Facts K:=λ⟨K,x,F⟩ k=>⟨K,λa o e=>k _ _ (x a o e),F⟩
set_option tactic.hygienic true in
theorem law_of(hl:∀ ns:O ae,ns.length<=63->∃ σ',sC prog 30 33 [.old (ns.map V.int)] []=some (.bool true,σ')):lw.Holds:=by
 refine holds_law said λwl=> ?_;refine holds_open (r:=lw.row) (q:=qv) (loose:=GR) (Xt:=λz=>true) (XP:=λz z=>cu) (Yf:=Ps) (Ya:=λz=>cu) (YP:=λz h=>∃ K:bb,K.In h/\Facts K) (N:=8000) left (λw s e=>of_eq_true e) aa5 (λz z=>trivial) (λz z z z z=>trivial) (by rfl) (by rfl) (by rfl) (λs z=>recFacts_nil rfl) (by rfl) wl (by decide+kernel) ⟨rfl,rfl,rfl,rfl,rfl,by decide+kernel⟩ (by w_witness2) ?_
 intro w s₀ J mg mb G Y fa o pm cd doc dV kV ho hd' hcd hD hmg hg args vals as U hlay hrd hwl hlo;clear hd' hcd hD;obtain⟨K,KX,KF⟩:=Y;refine Ground.open G ?_;intro T B D TE TW
 try (refine guard_noD D (by decide+kernel) ?_;clear D)
 wrow_args U hlay hrd hwl hlo
 have c:Oh ⟨w,K,J.heap,mg,mb,J.os⟩:=⟨KF,KX,T.g,T.b,T.nolimit,λx hx=>T.builtins x hx⟩;rename_i ns _ _ _ _ _ _ _ l vals _ hL _ _ _ hI _ hlen _;obtain⟨σ',h⟩:=hl ns (cB.mp (d5.mp hlen));refine Tn So ⟨w,K,J.heap,mg,mb,J.os⟩ _ _ _ _ _ _ _ _ c rfl rfl hg hmg hL hI h λs' h1 h2 h3=>GoodW.toG ?_;exact⟨.inl ⟨_,_,_,rfl,λz=>by rfl, .bool true,postW_of (X:=true) (by rfl) (by show pQ _ (.eq .res (.lit (.bool true))) _=_;simp[pQ,rX]) rfl,λz=>⟨c6,λz h=>nomatch h⟩⟩,h1,h2,h3⟩
end
section
def To{α:Type}(m:M α)(σ:Ob)(a:α)(σ1:Ob):Prop:=m σ=some (a,σ1)
inductive W{α:Type}(m:M α)(σ:Ob)(Q:α->Ob->Prop):Prop
 |of {a:α} {σ1:Ob} (h:To m σ a σ1) (q:Q a σ1)
abbrev Is{α:Type}(m:M α)(σ:Ob)(a:α):Prop:=To m σ a σ
section
variable{α β:Type}{m:M α}{f:α->M β}{σ σ1 σ2:Ob}{a:α}
theorem W.elim{Q:α->Ob->Prop}{P:Prop}(h:W m σ Q)(k:∀ a σ1,To m σ a σ1->Q a σ1->P):P:=W.casesOn h λh q=>k _ _ h q
theorem W.mono{P Q:α->Ob->Prop}(h:W m σ P)(k:∀ a σ1,P a σ1->Q a σ1):W m σ Q:=h.elim λa σ1 e p=> .of e (k a σ1 p)
theorem M.then{b:β}(h:To m σ a σ1)(k:To (f a) σ1 b σ2):To (M.bind m f) σ b σ2:=by
 show(match m σ with|some p=>f p.1 p.2|none=>none)=_
 rw[show m σ=_ from h];exact k
theorem M.inv{b:β}(h:To (M.bind m f) σ b σ2):∃ a σ1,To m σ a σ1/\To (f a) σ1 b σ2:=by
 have h:(match m σ with|some p=>f p.1 p.2|none=>none)=some (b,σ2):=h
 cases e:m σ with
 |none=>rw[e] at h;cases h
 |some p=>rw[e] at h;exact⟨p.1,p.2,e,h⟩
theorem W.bind{Q:β->Ob->Prop}(h:W m σ λa σ1=>W (f a) σ1 Q):W (M.bind m f) σ Q:=h.elim λa σ1 e q=>q.elim λb σ2 e2 J=> .of (M.then e e2) J
end
structure Fr(X:O aa)(σ σ1:Ob):Prop where
 len:σ.length<=σ1.length
 at_:∀ r,r<σ.length->r∉X->σ1[r]?=σ[r]?
section
variable{X Y:O aa}{σ σ1 σ2 τ:Ob}{r:aa}{o:sv}
theorem Fr.rfl:Fr X σ σ:=⟨aU _,λz z z=>ly _⟩
theorem Fr.trans(h:Fr X σ σ1)(k:Fr X σ1 σ2):Fr X σ σ2:=⟨aw h.len k.len,λr a b=>(k.at_ r (bw a h.len) b).trans (h.at_ r a b)⟩
theorem Fr.app:Fr X σ (σ++τ):=⟨bv▸aV _ _,λz h z=>dq h⟩
theorem Fr.set(h:r∈X\/σ.length<=r)(k:Fr X σ σ1):Fr X σ (σ1.set r o):=⟨le_of_le_of_eq k.len eO.symm,λi a b=>(ew λ(e:r=i)=>h.elim (λh=>b (e▸h)) λh=>jr a (e▸h)).trans (k.at_ i a b)⟩
theorem Fr.sub(h:Fr X σ σ1)(k:∀ r,r∈X->r<σ.length->r∈Y):Fr Y σ σ1:=⟨h.len,λr a b=>h.at_ r a λc=>b (k r c a)⟩
theorem Fr.get(h:Fr X σ σ1)(e:σ[r]?=some o)(n:r∉X):σ1[r]?=some o:=(h.at_ r (bD.mp e).1 n).trans e
theorem xx(e:σ[r]?=some o):r<σ.length:=(bD.mp e).1
theorem Fr.take(h:Fr [] σ σ1):σ1.take σ.length=σ:=jQ λi=>by
 by_cases hi:i<σ.length
 ·rw[nz,aN hi];exact h.at_ i hi ba
 ·rw[d9 (by rw[fN];exact aw (iE _ _) (ec hi)),d9 (ec hi)]
theorem wW:(σ++o::τ)[σ.length]?=some o:=by rw[di (aU _),dG];rfl
end
theorem tQ{a b:aj}(h:a=true)(k:b=true):(a&&b)=true:=by rw[h,k];rfl
theorem V.yL(v:V):V.beq v v=true:=
 V.rec (motive_1:=λv=>V.beq v v=true) (motive_2:=λv=>V.yS v v=true) (ly _) (λb=>bC b) (λb=>bC b) (λb=>bC b) (λz h=>h) (λz h=>h)
  (λz z h k=>tQ h k) (λa b=>tQ (bC a) (bC b)) (λb=>bC b) (λz h=>h) (ly _) (λz z h k=>tQ h k) v
theorem F3{α:Type}{f:O α->O α->aj}{p:α->α->aj}(h0:f [] []=true)(h1:∀ a as b bs,f (a::as) (b::bs)=(p a b&&f as bs))(hp:∀ a,p a a=true):∀ as,f as as=true
 |[]=>h0
 |a::as=>(h1 a as a as).trans (tQ (hp a) (F3 h0 h1 hp as))
theorem V.F4(v:O V):V.yS v v=true:=V.yL (.tup v)
theorem Sp(v:O (aa×V)):Jg v v=true:=F3 (p:=λa b=>a.1==b.1&&V.beq a.2 b.2) rfl (λz z z z=>rfl) (λa=>tQ (bC _) (V.yL _)) v
theorem sv.yL(o:sv):sv.beq o o=true:=sv.casesOn (motive:=λo=>sv.beq o o=true) o V.F4 (λk v=>tQ (V.F4 k) (V.F4 v)) λc a=>tQ (bC c) (Sp a)
theorem Ob.yL(σ:Ob):Ob.beq σ σ=true:=F3 (p:=sv.beq) rfl (λz z z z=>rfl) sv.yL σ
def Rt(σ:Ob)(v:V)(x:XR)(σ1:Ob):Prop:=x= .ret v/\Fr [] σ σ1
section
variable{d f n:aa}{args xs:O V}{σ σ1:Ob}{v:V}
theorem Px:sC prog (d+1) f args=match prog[f]? with|some r=>if f==raiser then Jk (sC prog d) r args else zt r.pure (zV (sC prog d) r args)|none=>M.fail:=rfl
theorem vG(r:MF){Q:V->Ob->Prop}(hp:prog[f]?=some r)(hc:(!(f==raiser)&&(!r.pure&&args.length==r.nargs))=true)(h:W (r8 (sC prog d) r.body (uZ r args)) σ λx σ1=>W (XR.val x) σ1 Q):W (sC prog (d+1) f args) σ Q:=by
 rw[ef,ef,cH,cH] at hc
 rw[Px,hp];dsimp only;rw[aI (by rw[hc.1];decide),zt,aI (by rw[hc.2.1];decide),zV,hc.2.2]
 exact W.bind h
theorem Sq(n:aa)(v:V):V.closed 0 v=true->V.closed n v=true:=
 V.rec (motive_1:=λv=>V.closed 0 v=true->V.closed n v=true) (motive_2:=λv=>V.uf 0 v=true->V.uf n v=true) id (λy=>id) (λy=>id) (λy=>id) (λy h=>h) (λy h=>h)
  (λy y h k e=>have z:=cM.mp e;tQ (h z.1) (k z.2)) (λy y=>id) (λi h=>aC (aP (p:=i<0) h) (gu i)) (λy h=>h) id (λy y h k e=>have z:=cM.mp e;tQ (h z.1) (k z.2)) v
theorem UX{m:M V}{w:V}(e:m σ=some (v,σ1))(h:Fr [] σ σ1)(J:freeze σ.length σ1 v=w)(hv:V.closed 0 w=true):vS m σ=some (w,σ):=by
 unfold vS;rw[e];dsimp only;rw[J,h.take,Ob.yL,Sq _ _ hv];rfl
theorem Sr(r:MF){w:V}(hp:prog[f]?=some r)(hc:(!(f==raiser)&&(r.pure&&args.length==r.nargs))=true)(h:W (r8 (sC prog d) r.body (uZ r args)) σ λx σ1=>∃ v,x= .ret v/\Fr [] σ σ1/\freeze σ.length σ1 v=w)(hv:V.closed 0 w=true):Is (sC prog (d+1) f args) σ w:=by
 rw[ef,ef,cH] at hc
 unfold Is;rw[Px,hp];dsimp only;rw[aI (by rw[hc.1];decide),zt,aN hc.2.1,zV,hc.2.2]
 exact h.elim λx σ1 e q=>q.elim λv q=>UX (M.then e (q.1▸rfl)) q.2.1 q.2.2 hv
theorem Ss(hv:V.closed 0 v=true):freeze n σ1 v=v:=
 V.casesOn (motive_1:=λv=>V.closed 0 v=true->freeze n σ1 v=v) v (λz=>rfl) (λz z=>rfl) (λz z=>rfl) (λz z=>rfl) (λz z=>rfl) (λz z=>rfl) (λz z z=>rfl) (λz z z=>rfl) (λi h=>aC (aP (p:=i<0) h) (gu i)) (λz z=>rfl) hv
theorem uU(r:MF)(hp:prog[f]?=some r)(hc:(!(f==raiser)&&(r.pure&&args.length==r.nargs))=true)(hv:V.closed 0 v=true)(h:W (r8 (sC prog d) r.body (uZ r args)) σ (Rt σ v)):Is (sC prog (d+1) f args) σ v:=
 Sr r hp hc (h.mono λz z q=>⟨v,q.1,q.2,Ss hv⟩) hv
end
section
variable{F:Fn}{rest b o:O MS}{l l1:Loc}{σ σ1 σ2 σ3 B7:Ob}{Q:XR->Ob->Prop}{v u x y z w:V}{t:MT}{r:MR}{i k n f:aa}{e a c2:ME}{c c1:aj}{es:O ME}{vs xs:O V}
theorem A4{s:MS}(h:W (xu F s l) σ λx σ1=>W (XR.xt (r8 F rest) x) σ1 Q):W (r8 F (s::rest) l) σ Q:=W.bind h
theorem wA(h:To (xD F r l) σ v σ1)(h2:To (sO F t l v) σ1 l1 σ2)(q:W (r8 F rest l1) σ2 Q):W (r8 F (.asg t r::rest) l) σ Q:=A4 (.of (show To (M.bind (xD F r l) λv=>M.bind (sO F t l v) λl1=>M.pure (XR.next l1)) σ _ σ2 from M.then h (M.then h2 rfl)) q)
theorem yl{F:Fn}(hi:decide (i<l.length)=true):Is (sO F (.var i) l v) σ (l.put i v):=by
 show M.guard _ _ _=_;rw[hi];rfl
theorem vY(h:To (rZ F e l) σ v σ1)(hi:decide (i<l.length)=true)(q:W (r8 F rest (l.put i v)) σ1 Q):W (r8 F (.asg (.var i) (.e e)::rest) l) σ Q:=wA h (yl hi) q
theorem vM(h:Is (rZ F e l) σ v)(hi:decide (i<l.length)=true)(q:W (r8 F rest (l.put i v)) σ Q):W (r8 F (.asg (.var i) (.e e)::rest) l) σ Q:=vY h hi q
theorem Jv(h:Is (rZ F e l) σ (.lst xs))(hi:decide (i<l.length)=true)(q:W (r8 F rest (l.put i (.ref σ.length))) (σ++[.lst xs]) Q):W (r8 F (.asg (.var i) (.own e)::rest) l) σ Q:=wA (M.then h rfl) (yl hi) q
theorem BA(h:To (sN F e l) σ c σ1)(q:W (r8 F (if c then b else o) l) σ1 λx σ2=>W (XR.xt (r8 F rest) x) σ2 Q):W (r8 F (.if_ e b o::rest) l) σ Q:=A4 (.bind (m:=sN F e l) (f:=λc=>if c then r8 F b l else r8 F o l) (.of h (by revert q;cases c<;>exact id)))
theorem tS(h:Is (sN F e l) σ c)(q:W (r8 F (if c then b else o) l) σ λx σ2=>W (XR.xt (r8 F rest) x) σ2 Q):W (r8 F (.if_ e b o::rest) l) σ Q:=BA h q
theorem tO(h:W (r8 F rest l) σ Q):W (r8 F [] l) σ λx σ2=>W (XR.xt (r8 F rest) x) σ2 Q:= .of (a:= .next l) rfl h
theorem wm{ρ:Type}{P:ρ->XR->Ob->Prop}{p q:ρ}(h:Is (sN F e l) σ c)(hp:c=true->P p (.ret v) σ)(J:c=false->W (r8 F rest l) σ (P q)):W (r8 F (.if_ e [.ret (.c v)] []::rest) l) σ (P (if c then p else q)):=
 tS h (by cases c;exact tO (J rfl);exact .of (a:= .ret v) rfl (.of (a:= .ret v) rfl (hp rfl)))
theorem za{ρ:Type}{P:ρ->XR->Ob->Prop}{p q:ρ}(h:Is (sN F e l) σ c)(hp:c=true->W (r8 F b l) σ λx σ1=>W (XR.xt (r8 F rest) x) σ1 (P p))(J:c=false->W (r8 F o l) σ λx σ1=>W (XR.xt (r8 F rest) x) σ1 (P q)):W (r8 F (.if_ e b o::rest) l) σ (P (if c then p else q)):=tS h (by cases c;exact J rfl;exact hp rfl)
theorem zQ(h:To (rZ F e l) σ v σ1)(q:W (r8 F rest l) σ1 Q):W (r8 F (.expr e::rest) l) σ Q:=A4 (.of (show To (M.bind (rZ F e l) λz=>M.pure (XR.next l)) σ _ σ1 from M.then h rfl) q)
theorem Cs(h:To (rZ F e l) σ v σ1)(q:Q (.ret v) σ1):W (r8 F (.ret e::rest) l) σ Q:=A4 (.of (show To (M.bind (rZ F e l) λv=>M.pure (XR.ret v)) σ _ σ1 from M.then h rfl) (.of (a:= .ret v) rfl q))
theorem tX(h:Is (rZ F e l) σ v)(q:Q (.ret v) σ):W (r8 F (.ret e::rest) l) σ Q:=Cs h q
theorem xX{it:MI}(h:Is (wc F it l) σ vs)(q:W (uR (uS (sO F t) (r8 F b)) vs l) σ λx σ1=>W (XR.xt (r8 F rest) x) σ1 Q):W (r8 F (.ua t it b::rest) l) σ Q:=A4 (.bind (m:=wc F it l) (f:=λvs=>uR (uS (sO F t) (r8 F b)) vs l) (.of h q))
theorem Eo(h:Is (rZ F e l) σ v)(h2:Is (rZ F a l) σ u)(h3:Is (rZ F c2 l) σ w)(J:To (uL u w v) σ () B7)(q:W (r8 F rest l) B7 Q):W (r8 F (.asg (.item a c2) (.e e)::rest) l) σ Q:=
 wA h (show To (M.bind (rZ F a l) λo=>M.bind (rZ F c2 l) λx=>M.bind (uL o x v) λz=>M.pure l) σ _ B7 from M.then h2 (M.then h3 (M.then J rfl))) q
theorem zb(h:To (rZ F e l) σ v σ1)(h2:Is (rZ F a l) σ1 u)(J:To (uY u n v) σ1 () B7)(q:W (r8 F rest l) B7 Q):W (r8 F (.asg (.attr a n) (.e e)::rest) l) σ Q:=
 wA h (show To (M.bind (rZ F a l) λo=>M.bind (uY o n v) λz=>M.pure l) σ1 _ B7 from M.then h2 (M.then J rfl)) q
def XR.post(N:Loc->Ob->Prop)(Q:XR->Ob->Prop):XR->Ob->Prop
 | .next l,σ=>N l σ
 | .cont l,σ=>N l σ
 | .brk l,σ=>Q (.next l) σ
 | .ret v,σ=>Q (.ret v) σ
theorem W.loop{ι:Type}{turn:Loc->V->X}{g:ι->V}{I:O ι->Loc->Ob->Prop}(hI:∀ y ys l σ,I (y::ys) l σ->W (turn l (g y)) σ (XR.post (I ys) Q))(h0:∀ l σ,I [] l σ->Q (.next l) σ):∀ ys l σ,I ys l σ->W (uR turn (ys.map g) l) σ Q
 |[]=>λl σ h=> .of (a:= .next l) rfl (h0 l σ h)
 |y::ys=>λl σ h=> .bind ((hI y ys l σ h).mono λx σ1 q=>by
  cases x with
  |next l1=>exact W.loop hI h0 ys l1 σ1 q
  |cont l1=>exact W.loop hI h0 ys l1 σ1 q
  |brk l1=>exact .of (a:= .next l1) rfl q
  |ret v=>exact .of (a:= .ret v) rfl q)
theorem wO(hi:decide (i<l.length)=true)(q:W (r8 F b (l.put i v)) σ Q):W (uS (sO F (.var i)) (r8 F b) l v) σ Q:= .bind (.of (yl hi) q)
end
section
variable{F:Fn}{l:Loc}{σ σ1 σ2 σ3 B7 vg:Ob}{v u x y z w:V}{vs:O V}{a b e e2:ME}{es:O ME}{k f n:aa}{c c1 p:aj}{op op2:ct}{ops:O ct}
theorem tL(h:To (rZ F a l) σ u σ)(k:To (wD u n) σ v vg):To (rZ F (.attr a n) l) σ v vg:=M.then h k
theorem tq(h:To (rZ F e l) σ v σ1)(k:To (sR F es l) σ1 vs σ2):To (sR F (e::es) l) σ (v::vs) σ2:=M.then h (M.then k rfl)
theorem es1(h:To (rZ F e l) σ v σ1):To (sR F [e] l) σ ([v]) σ1:=tq h rfl
theorem ue(h:To (sR F es l) σ vs σ)(k:To (F f vs) σ v vg):To (rZ F (.call f es) l) σ v vg:=M.then h k
theorem ym(h:To (rZ F a l) σ u σ)(i:Is (uQ (uw f) u) σ ())(hs:To (sR F es l) σ vs σ)(k:To (F f (u::vs)) σ v vg):To (rZ F (.tt f a es) l) σ v vg:=M.then h (M.then i (M.then hs k))
theorem uc{t:Bt}(h:To (sR F es l) σ vs σ)(k:To (tN t vs) σ v vg):To (rZ F (.bt t es) l) σ v vg:=M.then h k
theorem wn{m:Bm}(h:To (rZ F a l) σ u σ)(i:Is (xB m u) σ ())(hs:To (sR F es l) σ vs σ)(k:To (w9 m u vs) σ v vg):To (rZ F (.uh m a es) l) σ v vg:=M.then h (M.then i (M.then hs k))
theorem sG(h:To (rZ F a l) σ x σ)(h2:To (rZ F b l) σ y σ)(k:To (tZ x y) σ v vg):To (rZ F (.item a b) l) σ v vg:=M.then h (M.then h2 k)
theorem xy{op:dT}(h:To (rZ F a l) σ x σ)(h2:To (rZ F b l) σ y σ)(k:To (AP op x y) σ v vg):To (rZ F (.bin op a b) l) σ v vg:=M.then h (M.then h2 k)
theorem xY{lo hi st:ME}(h1:To (rZ F a l) σ x σ)(h2:To (rZ F lo l) σ y σ)(h3:To (rZ F hi l) σ z σ)(J:To (rZ F st l) σ w σ)(k:To (uO x y z w) σ v vg):To (rZ F (.slice a lo hi st) l) σ v vg:=M.then h1 (M.then h2 (M.then h3 (M.then J k)))
theorem e_new{c:aa}(h:To (sR F es l) σ vs σ1)(k:To (F f (.ref σ1.length::vs)) (σ1++[.inst c []]) .none σ2):To (rZ F (.new c f es) l) σ (.ref σ1.length) σ2:=M.then h (M.then (a:=V.ref σ1.length) (σ1:=σ1++[.inst c []]) (show un _ _=_ from rfl) (M.then k (show xC _ _ _=_ from rfl)))
theorem vN(h:To (sR F es l) σ vs σ1):To (rZ F (.tup es) l) σ (.tup vs) σ1:=M.then h rfl
theorem GT(h:To (sR F es l) σ vs σ1):To (rZ F (.list es) l) σ (.lst vs) σ1:=M.then h rfl
theorem vO(h:To (sN F e l) σ c σ)(k:To (rZ F (if c then a else b) l) σ v vg):To (rZ F (.ite e a b) l) σ v vg:=M.then h (by revert k;cases c<;>exact id)
theorem aa6(h:To (rZ F a l) σ (.bool c) vg):To (rZ F (.not a) l) σ (.bool !c) vg:=M.then h (M.then rfl rfl)
theorem sX(h:To (rZ F e l) σ y σ)(k:To (uC op x y) σ c vg):To (vU F x [op] [e] l) σ c vg:=M.then h k
theorem ch2(h:Is (rZ F e l) σ y)(k:Is (uC op x y) σ c)(h2:Is (rZ F e2 l) σ z)(k2:Is (uC op2 y z) σ c1):Is (vU F x [op,op2] [e,e2] l) σ (c&&c1):=M.then h (M.then k (by revert k;cases c;exact λw=>rfl;exact λw=>M.then h2 k2))
theorem sE(h:To (rZ F a l) σ x σ)(k:To (vU F x ops es l) σ c vg):To (sN F (.cmp a ops es) l) σ c vg:=M.then h k
theorem zc(h:To (rZ F a l) σ x σ)(k:To (vU F x ops es l) σ c vg):To (rZ F (.cmp a ops es) l) σ (.bool c) vg:=M.then h (M.then k rfl)
theorem uW(h:To (sN F a l) σ c vg):To (sN F (.not a) l) σ (!c) vg:=M.then h rfl
theorem uu(h:To (sR F es l) σ vs σ)(k:To (F f vs) σ (.bool c) vg):To (sN F (.call f es) l) σ c vg:=M.then h (M.then k rfl)
theorem xM(h:To (rZ F a l) σ u σ)(i:Is (uQ (uw f) u) σ ())(hs:To (sR F es l) σ vs σ)(k:To (F f (u::vs)) σ (.bool c) vg):To (sN F (.tt f a es) l) σ c vg:=M.then h (M.then i (M.then hs (M.then k rfl)))
theorem aa7{t:Ty}(h:To (rZ F a l) σ u σ)(k:To (isA u t) σ (.bool c) vg):To (sN F (.isA a t) l) σ c vg:=M.then h (M.then k rfl)
theorem xZ(h:To (sN F e l) σ c σ)(k:c=true->To (sN F (.bool true es) l) σ c1 σ):Is (sN F (.bool true (e::es)) l) σ (c&&c1):=show To (M.bind (sN F e l) λb=>if b==true then xo F true es l else M.pure b) σ _ σ from M.then h (by revert k;cases c;exact λz=>rfl;exact λk=>k rfl)
theorem uJ(h:To (sN F e l) σ c σ)(k:c=false->To (sN F (.bool false es) l) σ c1 σ1)(q:c=true->σ=σ1):To (sN F (.bool false (e::es)) l) σ (c||c1) σ1:=show To (M.bind (sN F e l) λb=>if b==false then xo F false es l else M.pure b) σ _ σ1 from M.then h (by revert k q;cases c;exact λk z=>k rfl;exact λz q=>q rfl▸rfl)
theorem tP(h:To (sN F e l) σ c vg):To (sN F (.bool p [e]) l) σ c vg:=show To (M.bind (sN F e l) λb=>if b==p then M.pure p else M.pure b) σ _ vg from M.then h (by cases c<;>cases p<;>rfl)
theorem Wq(h:To (rZ F e l) σ (.bool c) σ)(k:c=true->To (rZ F e2 l) σ (.bool c1) σ):To (rZ F (.bool true [e,e2]) l) σ (.bool (c&&c1)) σ:=show To (M.bind (rZ F e l) λv=>M.bind (uP v) λb=>if b==true then M.bind (rZ F e2 l) λv=>M.pure v else M.pure v) σ _ σ from M.then h (M.then rfl (by revert k;cases c;exact λz=>rfl;exact λk=>M.then (k rfl) rfl))
theorem x8(h:To (rZ F a l) σ u σ1)(k:To (zE u) σ1 vs σ1):To (wc F (.e a) l) σ vs σ1:=M.then h k
variable{ι:Type}{ys:O ι}{g h:ι->V}{own:aa}{it:MI}
theorem Lk{turn:V->M (O V)}{p:ι->aj}:∀ ys:O ι,(∀ y∈ys,Is (turn (g y)) σ (if p y then[h y] else[]))->Is (wt turn (ys.map g)) σ ((ys.filter p).map h)
 |[]=>λx=>rfl
 |y::ys=>λk=>show To (M.bind (turn (g y)) λa=>M.bind (wt turn (ys.map g)) λb=>M.pure (a++b)) σ _ σ from M.then (k y (.head _)) (M.then (Lk ys λz hz=>k z (.tail _ hz)) (by
  rw[il];cases p y<;>rfl))
theorem UY(p:ι->aj)(hi:Is (wc F it (l.set own none)) σ (ys.map g))(J:decide (own<l.length)=true)(hc:∀ y∈ys,Is (xo F true es (l.set own (some (g y)))) σ (p y))(U:∀ y∈ys,p y=true->Is (rZ F e (l.set own (some (g y)))) σ (h y))(hn:decide (ys.length<=lim)=true):
  Is (rZ F (.comp [own] e [.g (.var own) it es]) l) σ (.lst ((ys.filter p).map h)):=
 M.then (m:=wu F [.g (.var own) it es] (single (rZ F e)) (l.set own none)) (f:=CG) (M.then (m:=wc F it (l.set own none)) (f:=λvs=>wt (xQ F (.g (.var own) it es) (single (rZ F e)) (l.set own none)) vs) hi (Lk (p:=p) (h:=h) ys λy hy=>
  M.then (m:=sO F (.var own) (l.set own none) (g y)) (f:=λl1=>M.bind (xo F true es l1) λc=>if c then single (rZ F e) l1 else M.pure []) (a:=l.set own (some (g y))) ((yl (F:=F) (v:=g y) (l:=l.set own none) (by rw[eO];exact J)).trans (by rw[Loc.put,pR])) (M.then (hc y hy) (by
   cases q:p y with
   |false=>rfl
   |true=>exact show To (M.bind (rZ F e _) λv=>M.pure [v]) σ _ σ from M.then (U y hy q) rfl)))) (by
  show M.guard _ _ _=_;rw[aX (aw (eg (aH _) (fm p ys)) (aP hn))];rfl)
theorem BB(p:ι->aj)(hi:Is (wc F it (l.set own none)) σ (ys.map g))(J:decide (own<l.length)=true)(hc:∀ y∈ys,Is (sN F e (l.set own (some (g y)))) σ (p y))(hn:decide (ys.length<=lim)=true):
  Is (rZ F (.comp [own] (.var own) [.g (.var own) it [e]]) l) σ (.lst ((ys.filter p).map g)):=
 UY p hi J (λy hy=>tP (p:=true) (hc y hy)) (λy z z=>by
  show sM (Loc.get _ _) _=_;rw[Loc.get,du (aP J)];rfl) hn
theorem Dh(hi:Is (wc F it (l.set own none)) σ (ys.map g))(J:decide (own<l.length)=true)(U:∀ y∈ys,Is (rZ F e (l.set own (some (g y)))) σ (h y))(hn:decide (ys.length<=lim)=true):
  Is (rZ F (.comp [own] e [.g (.var own) it []]) l) σ (.lst (ys.map h)):=by
 have z:=UY (l:=l) (e:=e) (es:=[]) (λx=>true) hi J (λx x=>rfl) (λy hy x=>U y hy) hn;rwa [pT.mpr λx x=>rfl] at z
end
end
section
mutual
noncomputable def V.mv(ρ:aa->aa):V->V
 | .tup xs=> .tup (V.ul ρ xs)
 | .lst xs=> .lst (V.ul ρ xs)
 | .old xs=> .old (V.ul ρ xs)
 | .dct ks vs=> .dct (V.ul ρ ks) (V.ul ρ vs)
 | .ref i=> .ref (ρ i)
 |v=>v
noncomputable def V.ul(ρ:aa->aa):O V->O V
 |[]=>[]
 |x::xs=>V.mv ρ x::V.ul ρ xs
end
def sv.mo(ρ:aa->aa):sv->sv
 | .lst xs=> .lst (V.ul ρ xs)
 | .dct ks vs=> .dct (V.ul ρ ks) (V.ul ρ vs)
 | .inst c _=> .inst c []
structure Rl where
 oS:O aa
 vZ:Ob
 e:aa->aa
 lt:∀ i,i<oS.length->e i<vZ.length
 inst:∀ i c,oS[i]?=some c->∃ a,vZ[e i]?=some (.inst c a)
noncomputable def Rl.ρ(R:Rl)(i:aa):aa:=if i<R.oS.length then R.e i else R.vZ.length+(i - R.oS.length)
noncomputable def Rl.sm(R:Rl)(τ:Ob):Ob:=(R.oS.map λc=>sv.inst c [])++τ
def Rl.big(R:Rl)(τ:Ob):Ob:=R.vZ++τ.map (sv.mo R.ρ)
def v5(τ:Ob):Prop:=∀ o∈τ,sv.casesOn (motive:=λz=>Prop) o (λz=>cu) (λz z=>cu) λz z=>bM
section
variable{R:Rl}{α β γ δ:Type}{r:α->β}{r':γ->δ}{m:M α}{m':M β}{v:V}{xs ys:O V}
def Sm(R:Rl)(r:α->β)(m:M α)(m':M β):Prop:=∀ τ a σ1,v5 τ->To m (R.sm τ) a σ1->∃ J,σ1=R.sm J/\v5 J/\To m' (R.big τ) (r a) (R.big J)
theorem Sm.pure{a:α}{b:β}(h:r a=b):Sm R r (M.pure a) (M.pure b):=λτ x σ1 n e=>by cases e;exact⟨τ,rfl,n,h▸rfl⟩
theorem Sm.fail:Sm R r M.fail m':=λz z z z e=>nomatch e
theorem Sm.bind{f:α->M γ}{f':β->M δ}(h:Sm R r m m')(hf:∀ a,Sm R r' (f a) (f' (r a))):Sm R r' (M.bind m f) (M.bind m' f'):=λτ x σ1 n e=>
 (M.inv e).elim λa z=>z.elim λσ2 z=>(h τ a σ2 n z.1).elim λyM q=>(hf a yM x σ1 q.2.1 (q.1▸z.2)).elim λJ U=>⟨J,U.1,U.2.1,M.then q.2.2 U.2.2⟩
theorem Sm.sM{o:ax α}{o':ax β}(h:o.map r=o'):Sm R r (sM o) (sM o'):=by
 subst h;cases o
 ·exact .fail
 ·exact .pure rfl
theorem Sm.guard{c J:aj}(h:c=true->J=true/\Sm R r m m'):Sm R r (M.guard c m) (M.guard J m'):=by
 cases c
 ·exact .fail
 ·rw[(h rfl).1];exact(h rfl).2
theorem Sm.ite{c:aj}{n:M α}{J:M β}(h:Sm R r m m')(k:Sm R r n J):Sm R r (if c then m else n) (if c then m' else J):=by cases c;exact k;exact h
theorem wo:∀ xs:O V,V.ul ρ xs=xs.map (V.mv ρ)
 |[]=>rfl
 |x::xs=>av _ (wo xs)
theorem Ct:(V.ul ρ xs).length=xs.length:=by rw[wo,aH]
theorem A5{p:V->aj}(hp:∀ v,p v=true->V.mv ρ v=v):∀ {xs:O V},xs.all p=true->V.ul ρ xs=xs
 |[]=>λy=>rfl
 |x::xs=>λh=>by
  have z:=rY (a:=p x) h;show V.mv ρ x::V.ul ρ xs=_;rw[hp x z.1,A5 hp z.2]
theorem Di(v:V):∀ n,V.plain n v=true->V.mv ρ v=v:=
 V.rec (motive_1:=λv=>∀ n,V.plain n v=true->V.mv ρ v=v) (motive_2:=λvs=>∀ n,vs.all (V.plain n)=true->V.ul ρ vs=vs) (λz z=>rfl) (λz z z=>rfl) (λz z z=>rfl) (λz z z=>rfl)
  (λxs J n h=>by cases n with|zero=>exact ff h|succ n=>exact av V.tup (J n h)) (λxs J n h=>by cases n with|zero=>exact ff h|succ n=>exact av V.lst (J n h))
  (λz z z z n h=>by cases n<;>exact ff h) (λz z z z=>rfl) (λz n h=>by cases n<;>exact ff h) (λz z n h=>by cases n<;>exact ff h) (λz z=>rfl)
  (λx xs J U n h=>show V.mv ρ x::V.ul ρ xs=x::xs from congr (av pU (J n (rY h).1)) (U n (rY h).2)) v
theorem zR(v:V)(h:tJ v=true):V.mv ρ v=v:=by cases v<;>first|rfl|exact ff h
theorem Sv(v:V)(h:BW v=true):V.mv ρ v=v:=by cases v<;>first|rfl|exact ff h
theorem xN(v:V):V.closed 0 v=true->V.mv ρ v=v:=
 V.rec (motive_1:=λv=>V.closed 0 v=true->V.mv ρ v=v) (motive_2:=λvs=>V.uf 0 vs=true->V.ul ρ vs=vs) (λz=>rfl) (λz z=>rfl) (λz z=>rfl) (λz z=>rfl) (λz h k=>av V.tup (h k)) (λz h k=>av V.lst (h k))
  (λz z h k e=>congr (av V.dct (h (rY e).1)) (k (rY e).2)) (λz z z=>rfl) (λi h=>aC (aP (p:=i<0) h) (gu i)) (λz h k=>av V.old (h k)) (λz=>rfl) (λx xs h k e=>show V.mv ρ x::V.ul ρ xs=x::xs from congr (av pU (h (rY e).1)) (k (rY e).2)) v
theorem NA(v:V)(h:wi v=true):V.mv ρ v=v:=xN v (by
 cases v with
 |tup xs=>cases xs with
  |nil=>exact ff h
  |cons x xs=>cases xs with
   |nil=>exact ff h
   |cons y xs=>
    have z:=rY (a:=xs.isEmpty) h;have J:tJ x=true:=(rY z.2).1;have U:tJ y=true:=(rY z.2).2;rw[cR.mp z.1];cases x<;>first|exact ff J|(cases y<;>first|exact ff U|rfl)
 |_=>exact ff h)
theorem Sw{k:V}{ks:O V}(h:keyOk k ks=true):V.mv ρ k=k/\V.ul ρ ks=ks:=by
 rcases gI.mp h with h|h
 ·exact⟨zR k (rY h).1,A5 zR (rY h).2⟩
 ·exact⟨NA k (rY h).1,A5 NA (rY h).2⟩
theorem Sm.key{k:V}{ks:O V}{f f':V->O V->M β}{r:β->β}(h:Sm R r (f k ks) (f' k ks)){c:V->O V->aj}(hc:∀ k ks,c k ks=true->keyOk k ks=true):Sm R r (M.guard (c k ks) (f k ks)) (M.guard (c (V.mv R.ρ k) (V.ul R.ρ ks)) (f' (V.mv R.ρ k) (V.ul R.ρ ks))):=
 .guard λq=>by
  have z:=Sw (ρ:=R.ρ) (hc k ks q);rw[z.1,z.2];exact⟨q,h⟩
variable{a b:V}
theorem Sm.sS{f f':ae->M α}{r:α->α}(h:∀ i,Sm R r (f i) (f' i)):Sm R r (sS f v) (sS f' (V.mv R.ρ v)):=by cases v<;>first|exact .fail|exact h _
theorem Sm.onStr{f f':aa->M α}{r:α->α}(h:∀ i,Sm R r (f i) (f' i)):Sm R r (onStr f v) (onStr f' (V.mv R.ρ v)):=by cases v<;>first|exact .fail|exact h _
theorem Sm.tT{f f':ae->ae->M α}{r:α->α}(h:∀ i j,Sm R r (f i j) (f' i j)):Sm R r (tT f a b) (tT f' (V.mv R.ρ a) (V.mv R.ρ b)):= .sS λi=> .sS (h i)
theorem Sm.vm{f:O V->M α}{f':O V->M β}(h:∀ xs,Sm R r (f xs) (f' (V.ul R.ρ xs))):Sm R r (vm f v) (vm f' (V.mv R.ρ v)):=by cases v<;>first|exact .fail|exact h _
theorem Sm.uK{f:O V->M α}{f':O V->M β}(h:∀ xs,Sm R r (f xs) (f' (V.ul R.ρ xs))):Sm R r (uK f v) (uK f' (V.mv R.ρ v)):=by cases v<;>first|exact .fail|exact h _
theorem Sm.xq{f:aa->M α}{f':aa->M β}(h:∀ i,Sm R r (f i) (f' (R.ρ i))):Sm R r (xq f v) (xq f' (V.mv R.ρ v)):=by cases v<;>first|exact .fail|exact h _
theorem Sm.one{f f':V->M V}(h:∀ v,Sm R (V.mv R.ρ) (f v) (f' (V.mv R.ρ v))):∀ xs,Sm R (V.mv R.ρ) (one f xs) (one f' (V.ul R.ρ xs))
 |[]=> .fail
 |[x]=>h x
 |_::_::_=> .fail
theorem Sm.two{f f':V->V->M V}(h:∀ v w,Sm R (V.mv R.ρ) (f v w) (f' (V.mv R.ρ v) (V.mv R.ρ w))):∀ xs,Sm R (V.mv R.ρ) (two f xs) (two f' (V.ul R.ρ xs))
 |[]=> .fail
 |[_]=> .fail
 |[x,y]=>h x y
 |_::_::_::_=> .fail
theorem Rl.new(R:Rl)(k:aa):R.ρ (R.oS.length+k)=R.vZ.length+k:=by
 unfold Rl.ρ;rw[aI (cm.mpr (aV _ _)),cE]
theorem Rl.len(R:Rl)(τ:Ob):(R.sm τ).length=R.oS.length+τ.length:=by unfold Rl.sm;rw[bv,aH]
theorem Sm.get{i:aa}{f:sv->M α}{f':sv->M β}(hi:∀ c a,Sm R r (f (.inst c [])) (f' (.inst c a)))(hn:∀ k,i=R.oS.length+k->(∀ xs,Sm R r (f (.lst xs)) (f' (.lst (V.ul R.ρ xs))))/\∀ ks vs,Sm R r (f (.dct ks vs)) (f' (.dct (V.ul R.ρ ks) (V.ul R.ρ vs)))):
  Sm R r (M.bind (ur i) f) (M.bind (ur (R.ρ i)) f'):=λτ x σ1 n e=>by
 have gt:∀ {i σ o},σ[i]?=some o->To (ur i) σ o σ:=λ{i σ o} h=>by
  show(match σ[i]? with|some o=>some (o,σ)|none=>none)=_
  rw[h]
 obtain⟨o,σ2,e1,e2⟩:=M.inv e;have e1:(match (R.sm τ)[i]? with|some o=>some (o,R.sm τ)|none=>none)=some (o,σ2):=e1
 by_cases h:i<R.oS.length
 ·have q:(R.sm τ)[i]?=some (.inst R.oS[i] []):=by
   unfold Rl.sm;rw[dq (by rw[aH];exact h),ca,br h];rfl
  rw[q] at e1
  have J:=im (aE e1);have uI:=J.1;have GU:=J.2;subst uI GU
  exact(R.inst i _ (br h)).elim λa q=>(hi _ a τ x σ1 n e2).elim λU z=>⟨U,z.1,z.2.1,M.then (gt (by
   unfold Rl.ρ Rl.big;rw[aN h,dq (R.lt i h),q])) z.2.2⟩
 ·obtain⟨k,rfl⟩:=pV (ec h)
  have q:(R.sm τ)[R.oS.length+k]?=τ[k]?:=by
   unfold Rl.sm;rw[di (by rw[aH];exact aV _ _),aH,cE]
  have q2:(R.big τ)[R.ρ (R.oS.length+k)]?=τ[k]?.map (sv.mo R.ρ):=by
   unfold Rl.big;rw[R.new,di (aV _ _),cE,ca]
  rw[q] at e1
  cases hk:τ[k]? with
  |none=>rw[hk] at e1;cases e1
  |some o=>
   rw[hk] at e1 q2
   have J:=im (aE e1);have uI:=J.1;have GU:=J.2;subst uI GU;have no:=n o (cv hk);cases o with
   |lst xs=>exact((hn k rfl).1 xs τ x σ1 n e2).elim λU z=>⟨U,z.1,z.2.1,M.then (gt q2) z.2.2⟩
   |dct ks vs=>exact((hn k rfl).2 ks vs τ x σ1 n e2).elim λU z=>⟨U,z.1,z.2.1,M.then (gt q2) z.2.2⟩
   |inst c a=>exact no.elim
theorem v5.lst{τ:Ob}(n:v5 τ)(k:aa)(xs:O V):v5 (τ.set k (.lst xs))/\v5 (τ++[.lst xs]):=⟨λo h=>(pW h).elim (n o) λe=>e▸trivial,λo h=>(aG.mp h).elim (n o) λe=>aR.mp e▸trivial⟩
theorem v5.dct{τ:Ob}(n:v5 τ)(k:aa)(xs ys:O V):v5 (τ.set k (.dct xs ys))/\v5 (τ++[.dct xs ys]):=⟨λo h=>(pW h).elim (n o) λe=>e▸trivial,λo h=>(aG.mp h).elim (n o) λe=>aR.mp e▸trivial⟩
theorem Sm.set{k:aa}{o:sv}(h:∀ τ:Ob,v5 τ->v5 (τ.set k o)):Sm R id (zD (R.oS.length+k) o) (zD (R.ρ (R.oS.length+k)) (o.mo R.ρ)):=λτ x σ1 n e=>by
 have J:=im (aE e);have U:=J.1;have GU:=J.2;subst U GU;refine⟨τ.set k o, ?_,h τ n, ?_⟩
 ·unfold Rl.sm
  rw[gy _ _ (by rw[aH];exact aV _ _),aH,cE]
 ·show some ((),(R.big τ).set _ _)=_
  unfold Rl.big;rw[R.new,gy _ _ (aV _ _),cE,ju]
theorem Sm.alloc{o:sv}(h:∀ τ:Ob,v5 τ->v5 (τ++[o])):Sm R (V.mv R.ρ) (un o) (un (o.mo R.ρ)):=λτ x σ1 n e=>by
 have J:=im (aE e);have U:=J.1;have GU:=J.2;subst U GU;refine⟨τ++[o],by unfold Rl.sm;exact cf _ _ _,h τ n, ?_⟩
 show some (V.ref (R.big τ).length,_)=some (V.ref (R.ρ (R.sm τ).length),_);rw[R.len,R.new];unfold Rl.big;rw[cW,<-cf,bv,aH];rfl
end
end
section
abbrev Rl.v(R:Rl):V->V:=V.mv R.ρ
abbrev Rl.vs(R:Rl):O V->O V:=V.ul R.ρ
abbrev v6(R:Rl)(m m':M V):Prop:=Sm R R.v m m'
section
variable{R:Rl}{v w:V}{xs ys:O V}
theorem Rl.key(R:Rl){k:V}{ks:O V}(h:keyOk k ks=true):R.v k=k/\R.vs ks=ks:=Sw h
theorem Ll:∀ (n:aa) (a:ae),R.vs (tw a n)=tw a n
 |0=>λz=>rfl
 |n+1=>λa=>av (_:: ·) (Ll n (a+1))
theorem Sx(v:V):Sm R R.vs (zE v) (zE (R.v v)):=by cases v<;>first|exact .fail|exact .pure rfl|exact .pure (Ll _ _)
theorem Sm.lst{α β:Type}{r:α->β}{i:aa}{f:O V->M α}{f':O V->M β}(h:∀ xs,Sm R r (f xs) (f' (R.vs xs))):Sm R r (M.bind (ur i) λo=>M.bind (wq o) f) (M.bind (ur (R.ρ i)) λo=>M.bind (wq o) f'):=
 .get (λz z=>nofun) λz z=>⟨λxs=> .bind (r:=R.vs) (.pure rfl) h,λz z=>nofun⟩
theorem Lm(v:V):Sm R R.v (wa v) (wa (R.v v)):=by cases v<;>first|exact .lst λz=> .pure rfl|exact .pure rfl
theorem Z8(a b:V):Sm R id (Dp a b) (Dp (R.v a) (R.v b)):= .guard λh=>by
 have z:=rY h;show(V.plain 8 (V.mv _ a)&&V.plain 8 (V.mv _ b))=true/\Sm R id _ (M.pure (V.eqv (V.mv _ a) (V.mv _ b)));rw[Di a 8 z.1,Di b 8 z.2];exact⟨h, .pure rfl⟩
theorem NB(a:V)(xs:O V):Sm R id (AO a xs) (AO (R.v a) (R.vs xs)):= .guard λh=>by
 have z:=rY h;show(V.plain 8 (V.mv _ a)&&(V.ul _ xs).all (V.plain 8))=true/\Sm R id _ (M.pure ((V.ul _ xs).any λy=>V.eqv y (V.mv _ a)));rw[Di a 8 z.1,A5 (λv=>Di v 8) z.2];exact⟨h, .pure rfl⟩
theorem NC(a b:V):Sm R id (Hc a b) (Hc (R.v a) (R.v b)):=by
 cases b<;>first
  |exact .fail
  |exact NB _ _
  |exact .get (λz z=> .fail) λz z=>⟨λxs=>NB _ _,λks vs=> .guard λh=>by show keyOk (R.v a) (R.vs ks)=true/\Sm R id _ (M.pure ((R.vs ks).any (V.beq (R.v a))));rw[(R.key h).1,(R.key h).2];exact⟨h, .pure rfl⟩⟩
theorem ND{m m':M aj}(h:Sm R id m m'):Sm R id (JD m) (JD m'):= .bind (f:=λr=>M.pure (!r)) (f':=λr=>M.pure (!r)) h λz=> .pure rfl
theorem Sy(a b:V):Sm R id (yD a b) (yD (R.v a) (R.v b)):=
 .bind (f:=λx=>M.bind (wa b) λy=>Dp x y) (f':=λx=>M.bind (wa (R.v b)) λy=>Dp x y) (Lm a) λx=> .bind (f:=λy=>Dp x y) (f':=λy=>Dp (R.v x) y) (Lm b) λy=>Z8 x y
theorem Z9(a b:V):Sm R id (mlt a b) (mlt (R.v a) (R.v b)):=by
 cases a with
 |int x=>exact .sS λy=> .pure rfl
 |tup xs=>
  cases xs with
  |nil=>exact .fail
  |cons x xs=>
   cases xs with
   |cons _ _=>exact .fail
   |nil=>
    exact .sS λx=> .vm λys=>by
        cases ys with
        |nil=>exact .fail
        |cons y ys=>
         cases ys with
         |nil=>exact .sS λy=> .pure rfl
         |cons _ _=>exact .fail
 |_=>exact .fail
theorem Cu(v:V):isNone (R.v v)=isNone v:=by cases v<;>rfl
theorem Sm.none{α β:Type}{r:α->β}{m:M α}{m':M β}(h:Sm R r m m'):Sm R r (M.guard (isNone v) m) (M.guard (isNone (R.v v)) m'):= .guard λq=>⟨(Cu v).trans q,h⟩
theorem NE(op:ct)(a b:V):Sm R id (uC op a b) (uC op (R.v a) (R.v b)):=by
 cases op with
 |Is=>exact .none (.pure (Cu a).symm)
 |IsNot=>exact .none (.pure (av not (Cu a).symm))
 |Eq=>exact Sy a b
 |NotEq=>exact ND (Sy a b)
 |Lt=>exact Z9 a b
 |In=>exact NC a b
 |NotIn=>exact ND (NC a b)
 |_=>exact .tT λz z=> .pure rfl
theorem Cv(xs ys:O V):R.vs (xs++ys)=R.vs xs++R.vs ys:=by show V.ul _ _=V.ul _ _++V.ul _ _;simp only[wo,cW]
theorem Sm.same{α β:Type}{r:α->β}{c:aj}{m:M α}{m':M β}(h:Sm R r m m'):Sm R r (M.guard c m) (M.guard c m'):= .guard λq=>⟨q,h⟩
theorem Sm.lens{α β:Type}{r:α->β}{c:O aa->aj}{xss:O (O V)}{m:M α}{m':M β}(h:Sm R r m m'):Sm R r (M.guard (c (xss.map gx)) m) (M.guard (c ((xss.map R.vs).map gx)) m'):=by
 rw[bR,show(gx∘R.vs)=gx from funext λz=>Ct]
 exact .same h
theorem XD(op:dT)(a b:V):v6 R (AP op a b) (AP op (R.v a) (R.v b)):=by
 cases op with
 |Add=>cases a with
  |int x=>exact .sS λy=> .pure rfl
  |tup xs=>exact .vm λys=> .lens (c:=λl=>decide (l.headD 0+l.tail.headD 0<=lim)) (xss:=[xs,ys]) (.pure (av V.tup (Cv _ _)))
  |lst xs=>exact .uK λys=> .lens (c:=λl=>decide (l.headD 0+l.tail.headD 0<=lim)) (xss:=[xs,ys]) (.pure (av V.lst (Cv _ _)))
  |_=>exact .fail
 |Sub=>exact .tT λz z=> .pure rfl
 |Mult=>cases a with
  |int x=>exact .sS λy=> .same (.pure rfl)
  |lst xs=>
   exact Sm.one (R:=R) (f:=λx=>sS (λn=>M.guard (decide (0<=n)&&decide (n<=64)) (M.pure (.lst (cI n.toNat x)))) b) (f':=λx=>sS (λn=>M.guard (decide (0<=n)&&decide (n<=64)) (M.pure (.lst (cI n.toNat x)))) (R.v b))
     (λx=> .sS λn=> .same (.pure (av V.lst (by show V.ul _ _=_;rw[wo,pX])))) xs
  |_=>exact .fail
 |Mod=>exact .tT λz z=> .same (.pure rfl)
 |_=>exact .fail
theorem NF(i:V)(xs:O V):v6 R (AC i xs) (AC (R.v i) (R.vs xs)):= .sS λk=> .same (.sM (by
 show _=atIdx (V.ul _ xs) k;unfold atIdx;rw[Ct,wo];cases DA k xs.length with
 |none=>rfl
 |some j=>show dD _ xs[j]?=(xs.map _)[j]?;rw[ca]))
theorem Ep(k:V):∀ ks vs:O V,(dictAt k ks vs).map R.v=dictAt k ks (R.vs vs)
 |[],_=>rfl
 |_::_,[]=>rfl
 |j::ks,v::vs=>by
  show dD _ (if _ then _ else _)=if _ then _ else _
  split
  ·rfl
  ·exact Ep k ks vs
theorem Av(k w:V):∀ ks vs:O V,(dictPut k (R.v w) ks (R.vs vs)).1=(dictPut k w ks vs).1/\R.vs (dictPut k w ks vs).2=(dictPut k (R.v w) ks (R.vs vs)).2
 |[],_=>⟨rfl,rfl⟩
 |_::_,[]=>⟨rfl,rfl⟩
 |j::ks,v::vs=>by
  show(if _ then _ else _:O V×O V).1=(if _ then _ else _:O V×O V).1/\V.ul _ (if _ then _ else _:O V×O V).2=(if _ then _ else _:O V×O V).2
  split
  ·exact⟨rfl,rfl⟩
  ·exact⟨av (j:: ·) (Av k w ks vs).1,av (_:: ·) (Av k w ks vs).2⟩
theorem F5{k w:V}(hk:R.v k=k):∀ {ks vs:O V},R.vs ks=ks->R.vs (dictPut k w ks vs).1=(dictPut k w ks vs).1
 |[],_=>λy=>av (·::[]) hk
 |_::_,[]=>λy=>av (·::[]) hk
 |j::ks,v::vs=>λh=>by
  have z:=dM h;show V.ul _ (if _ then _ else _:O V×O V).1=(if _ then _ else _:O V×O V).1
  split
  ·exact h
  ·show V.mv _ j::V.ul _ (dictPut k w ks vs).1=j::(dictPut k w ks vs).1
   exact z.1.symm▸av _ (F5 hk z.2)
theorem Ln(i:V)(ks vs:O V):v6 R (BX i ks vs) (BX (R.v i) (R.vs ks) (R.vs vs)):= .guard λh=>by rw[(R.key h).1,(R.key h).2];exact⟨h, .sM (Ep i ks vs)⟩
theorem UZ(o i:V):v6 R (tZ o i) (tZ (R.v o) (R.v i)):=by
 cases o<;>first
  |exact .fail
  |exact NF _ _
  |exact Ln _ _ _
  |exact .get (λz z=> .fail) λz z=>⟨λxs=>NF _ _,λks vs=>Ln _ _ _⟩
theorem Sm.len{α β:Type}{r:α->β}{c:aa->aj}{m:M α}{m':M β}(h:Sm R r m m'):Sm R r (M.guard (c xs.length) m) (M.guard (c (R.vs xs).length) m'):=by
 rw[show(R.vs xs).length=xs.length from Ct]
 exact .same h
theorem HR(n:aa)(xs:O V):R.vs (xs.take n)=(R.vs xs).take n:=by show V.ul _ _=(V.ul _ _).take n;simp only[wo,gz]
theorem NG(n:aa)(xs:O V):R.vs (xs.drop n)=(R.vs xs).drop n:=by show V.ul _ _=(V.ul _ _).drop n;simp only[wo,io]
theorem XF(k:ae)(v:V):v6 R (ED k v) (ED k (R.v v)):=by
 cases v with
 |tup xs=>exact .len (c:=wb k) (.pure (av V.tup (HR _ _)))
 |lst xs=>exact .len (c:=wb k) (.pure (av V.lst (HR _ _)))
 |old xs=>exact .len (c:=wb k) (.pure (av V.lst (HR _ _)))
 |str s=>exact .same (.sM (by cases JE.lookup s<;>rfl))
 |_=>exact .fail
theorem Sz(o lo hi st:V):v6 R (uO o lo hi st) (uO (R.v o) (R.v lo) (R.v hi) (R.v st)):=by
 cases st with
 |none=>cases lo with
  |none=>exact .sS λk=>XF k o
  |int k=>exact .none (by
    cases o with
    |tup xs=>exact .len (c:=wb k) (.pure (av V.tup (NG _ _)))
    |lst xs=>exact .len (c:=wb k) (.pure (av V.lst (NG _ _)))
    |_=>exact .fail)
  |_=>exact .fail
 |int i=>exact .guard λh=>⟨by rw[Cu,Cu];exact h, .vm λxs=> .len (c:=λn=>decide (n<=lim)) (.pure (av V.tup (by show V.ul _ _=(V.ul _ _).reverse;simp only[wo,eY])))⟩
 |_=>exact .fail
theorem aab{ρ:aa->aa}{xs:O V}:sv.mo ρ (.lst xs)= .lst (V.ul ρ xs):=rfl
theorem Py(o i v:V):Sm R id (uL o i v) (uL (R.v o) (R.v i) (R.v v)):= .xq λr=> .get (λy y=> .fail) λk hk=>by
 subst hk
 exact⟨λxs=> .sS λj=> .len (c:=λn=>decide (0<=j)&&(decide (j.toNat<n)&&smallInt j)) (by
   have z:=Sm.set (R:=R) (k:=k) (o:= .lst (xs.set j.toNat v)) λτ n=>(n.lst k _).1;rw[aab,wo,ju,<-wo] at z
   exact z),
  λks vs=> .guard λh=>by
   have q:=R.key (rY h).1;have p:=Av (R:=R) i v ks vs;show(keyOk (R.v i) (R.vs ks)&&decide ((R.vs ks).length<lim))=true/\Sm R id _ (zD _ (.dct (dictPut (R.v i) (R.v v) (R.vs ks) (R.vs vs)).1 (dictPut (R.v i) (R.v v) (R.vs ks) (R.vs vs)).2));rw[q.1,q.2,p.1,<-p.2];have z:=Sm.set (R:=R) (k:=k) (o:= .dct (dictPut i v ks vs).1 (dictPut i v ks vs).2) λτ n=>(n.dct k _ _).1;rw[show sv.mo R.ρ (.dct (dictPut i v ks vs).1 (dictPut i v ks vs).2)= .dct (dictPut i v ks vs).1 (R.vs (dictPut i v ks vs).2) from av (sv.dct · _) (F5 q.1 q.2)] at z
   exact⟨h,z⟩⟩
end
section
variable{R:Rl}{v w:V}{xs ys:O V}
theorem NH{p:V->aj}{x:V}(hx:p x=true):∀ {xs:O V},xs.all p=true->(AB x xs).all p=true
 |[]=>λz=>tQ hx rfl
 |y::ys=>λh=>by
  show(if _ then _ else _:O V).all p=true
  split
  ·exact tQ hx h
  ·exact tQ (rY h).1 (NH hx (rY (a:=p y) h).2)
theorem Lp{p:V->aj}:∀ {xs:O V},xs.all p=true->(w8 xs).all p=true
 |[]=>λz=>rfl
 |x::xs=>λh=>NH (rY (a:=p x) h).1 (Lp (rY (a:=p x) h).2)
theorem zS{p:V->aj}(hp:∀ v,p v=true->R.v v=v)(h:xs.all p=true):R.vs xs=xs:=A5 hp h
theorem Fq(xs:O V):v6 R (CF xs) (CF (R.vs xs)):= .guard λh=>by
 rw[zS zR (rY h).1];exact⟨h, .pure (av V.lst (zS zR (Lp (rY h).1)))⟩
theorem Lq:∀ xs:O V,(pairsOf xs).map (λp=>(R.vs p.1,R.vs p.2))=pairsOf (R.vs xs)
 |[]=>rfl
 |x::xs=>by
  have J:=Lq xs;cases x with
  |tup l=>
   cases l with
   |nil=>rfl
   |cons k l=>
    cases l with
    |nil=>rfl
    |cons v l=>
     cases l with
     |cons _ _=>rfl
     |nil=>
      show dD _ (dD _ (pairsOf xs))=dD _ (pairsOf (R.vs xs));rw[<-J,kW,kW];rfl
  |_=>rfl
theorem NI:∀ (ks vs a b:O V),(dictFrom ks (R.vs vs) (a,R.vs b)).1=(dictFrom ks vs (a,b)).1/\R.vs (dictFrom ks vs (a,b)).2=(dictFrom ks (R.vs vs) (a,R.vs b)).2
 |[],_=>λx x=>⟨rfl,rfl⟩
 |_::_,[]=>λx x=>⟨rfl,rfl⟩
 |k::ks,v::vs=>λa b=>by
  have z:=Av (R:=R) k v a b;have y:=NI ks vs (dictPut k v a b).1 (dictPut k v a b).2;rw[z.2] at y
  show(dictFrom ks (R.vs vs) (dictPut k (R.v v) a (R.vs b))).1=_/\_=(dictFrom ks (R.vs vs) (dictPut k (R.v v) a (R.vs b))).2;rw[show dictPut k (R.v v) a (R.vs b)=((dictPut k v a b).1,(dictPut k (R.v v) a (R.vs b)).2) from fD z.1 rfl]
  exact y
theorem IV:∀ (ks vs a b:O V),R.vs ks=ks->R.vs a=a->R.vs (dictFrom ks vs (a,b)).1=(dictFrom ks vs (a,b)).1
 |[],_=>λz z z h=>h
 |_::_,[]=>λz z z h=>h
 |k::ks,v::vs=>λa b h h2=>IV ks vs _ _ (dM h).2 (F5 (dM h).1 h2)
theorem U0(xs:O V):v6 R (yU xs) (yU (R.vs xs)):=by
 have g:∀ (n:aa) (p:O V×O V),v6 R (M.guard (p.1.all tJ&&decide (n<=64)) (M.pure (.dct (dictFrom p.1 p.2 ([],[])).1 (dictFrom p.1 p.2 ([],[])).2))) (M.guard ((R.vs p.1).all tJ&&decide (n<=64)) (M.pure (.dct (dictFrom (R.vs p.1) (R.vs p.2) ([],[])).1 (dictFrom (R.vs p.1) (R.vs p.2) ([],[])).2))):=λn p=> .guard λh=>by
  have z:=zS (R:=R) zR (rY h).1;have y:=NI (R:=R) p.1 p.2 [] [];rw[z];refine⟨h, .pure ?_⟩;show V.dct (R.vs _) (R.vs _)=V.dct (dictFrom p.1 (R.vs p.2) ([],R.vs [])).1 (dictFrom p.1 (R.vs p.2) ([],R.vs [])).2;rw[y.1,<-y.2,IV _ _ _ _ z rfl]
 unfold yU;rw[show(R.vs xs).length=xs.length from Ct]
 exact .bind (r:=λp=>(R.vs p.1,R.vs p.2)) (.sM (Lq xs)) (g xs.length)
theorem NJ(xs:O V):v6 R (BI xs) (BI (R.vs xs)):=by
 unfold BI;rw[show(R.vs xs).length=xs.length from Ct]
 exact .same (.pure rfl)
theorem NK(xs:O V):v6 R (CG xs) (CG (R.vs xs)):= .len (c:=λn=>decide (n<=lim)) (.pure rfl)
theorem NL(xs:O V):v6 R (Fz xs) (Fz (R.vs xs)):= .len (c:=λn=>decide (n<=lim)) (.pure rfl)
theorem U1(v:V)(h:P1 v=true):R.v v=v:=by cases v<;>first|rfl|exact ff h
theorem Wr(b:Bt)(J:b≠ .u7)(xs:O V):v6 R (tN b xs) (tN b (R.vs xs)):=by
 cases b<;>first
  |exact aC rfl J
  |(show v6 R (one _ xs) (one _ (R.vs xs));refine Sm.one (R:=R) (λv=> ?_) xs)
  |(show v6 R (two _ xs) (two _ (R.vs xs));refine Sm.two (R:=R) (λv w=> ?_) xs)
 ·exact .sS λz=> .pure rfl
 ·cases v<;>first|exact .fail|exact NJ _|exact .lst NJ
 ·exact .sS λz=> .same (.pure rfl)
 ·exact .tT λz z=> .same (.pure rfl)
 ·cases v<;>first|exact .fail|exact Fq _|exact .get (λz z=> .fail) λz z=>⟨λz=> .fail,λks z=>Fq ks⟩
 ·exact .vm λys=> .guard λh=>by rw[show V.ul _ ys=ys from zS zR (rY h).1];exact⟨h, .pure rfl⟩
 ·cases v<;>first|exact .fail|exact NK _
 ·cases v<;>first|exact .fail|exact NL _|exact .lst NL
 ·exact .tT λz z=> .pure rfl
 ·exact .tT λz z=> .pure rfl
 ·exact .uK (.two λz z=> .tT λz z=> .pure rfl)
 ·exact .uK (.two λz z=> .tT λz z=> .pure rfl)
 ·exact .uK λys=> .guard λh=>by rw[show V.ul _ ys=ys from zS U1 (rY h).1];exact⟨h, .bind (r:=id) (.sM (by cases sumInts ys<;>rfl)) λz=> .pure rfl⟩
 ·exact .uK U0
theorem SA(v:V)(t:Ty):v6 R (isA v t) (isA (R.v v) t):=by cases v<;>first|exact .fail|exact .pure rfl
theorem XG(m:Bm)(o:V)(xs:O V):v6 R (w9 m o xs) (w9 m (R.v o) (R.vs xs)):= .xq λr=> .get (λy y=> .fail) λk hk=>by
 subst hk;refine⟨λys=> ?_,λks vs=> ?_⟩
 ·cases m with
  |append=>
   exact .one (λv=> .len (c:=λn=>decide (n<lim)) (.bind (r:=id) (f:=λy=>M.pure V.none) (f':=λy=>M.pure V.none) (by
    have z:=Sm.set (R:=R) (k:=k) (o:= .lst (ys++[v])) λτ n=>(n.lst k _).1;rw[show sv.mo R.ρ (.lst (ys++[v]))= .lst (R.vs ys++[R.v v]) from av sv.lst (Cv _ _)] at z
    exact z) λy=> .pure rfl)) xs
  |extend=>
   exact .one (λv=>by
    cases v with
    |yc a b=>exact .len (c:=λn=>decide (n+(b - a).toNat<=lim)) (.bind (r:=id) (f:=λy=>M.pure V.none) (f':=λy=>M.pure V.none) (by
      have z:=Sm.set (R:=R) (k:=k) (o:= .lst (ys++tw a (b - a).toNat)) λτ n=>(n.lst k _).1;rw[show sv.mo R.ρ (.lst (ys++tw a (b - a).toNat))= .lst (R.vs ys++tw a (b - a).toNat) from av sv.lst ((Cv _ _).trans (av _ (Ll _ _)))] at z
      exact z) λy=> .pure rfl)
    |_=>exact .fail) xs
  |get=>exact .fail
  |count=>
   exact .one (λv=> .onStr λs=> .guard λh=>by rw[show V.ul _ ys=ys from zS Sv (rY h).1];exact⟨h, .pure rfl⟩) xs
  |index=>
   exact .one (λv=> .onStr λs=> .guard λh=>by rw[show V.ul _ ys=ys from zS Sv (rY h).1];exact⟨h, .sM (by cases ys.findIdx? (V.beq (.str s))<;>rfl)⟩) xs
 ·cases m with
  |get=>
   have g:∀ k d,v6 R (yd ks vs k d) (yd (R.vs ks) (R.vs vs) (R.v k) (R.v d)):=λk d=> .guard λh=>by
    rw[show R.v k=k from zR k (rY h).1,zS zR (rY h).2]
    exact⟨h, .pure (by rw[<-Ep];cases dictAt k ks vs<;>rfl)⟩
   cases xs with
   |nil=>exact .fail
   |cons k xs=>
    cases xs with
    |nil=>exact g k .none
    |cons d xs=>
     cases xs with
     |nil=>exact g k d
     |cons _ _=>exact .fail
  |_=>exact .fail
theorem XH(m:Bm)(o:V):Sm R id (xB m o) (xB m (R.v o)):= .xq λr=> .get (λz z=> .fail) λz z=>⟨λz=> .same (.pure rfl),λz z=> .same (.pure rfl)⟩
theorem NM(c:aa)(o:V):Sm R id (uQ c o) (uQ c (R.v o)):= .xq λr=> .get (λz z=> .same (.pure rfl)) λz z=>⟨λz=> .fail,λz z=> .fail⟩
theorem zq(v:V):Sm R id (uP v) (uP (R.v v)):=by cases v<;>first|exact .fail|exact .pure rfl
def Rl.l(R:Rl)(l:Loc):Loc:=l.map (dD R.v)
theorem SB(k:aa)(l:Loc):(l.get k).map R.v=(R.l l).get k:=by
 unfold Rl.l Loc.get;rw[ca];cases l[k]?<;>rfl
theorem Lr:∀ (ks:O aa) (l:Loc),R.l (vo ks l)=vo ks (R.l l)
 |[]=>λz=>rfl
 |k::ks=>λl=>(Lr ks (l.set k none)).trans (av _ (by unfold Rl.l;rw[ju];rfl))
theorem aac(l:Loc)(k:aa)(v:V):Sm R R.l (yW l k v) (yW (R.l l) k (R.v v)):= .guard λh=>by
 rw[show(R.l l).length=l.length from aH _]
 exact⟨h, .pure (by unfold Rl.l Loc.put;rw[ju];rfl)⟩
theorem Ls:∀ xs ys:O V,R.vs (vI xs ys)=vI (R.vs xs) (R.vs ys)
 |[],_=>rfl
 |_::_,[]=>rfl
 |x::xs,y::ys=>av (_:: ·) (Ls xs ys)
theorem NN{t t':V->M (O V)}(h:∀ v,Sm R R.vs (t v) (t' (R.v v))):∀ xs:O V,Sm R R.vs (wt t xs) (wt t' (R.vs xs))
 |[]=> .pure rfl
 |x::xs=> .bind (f:=λa=>M.bind (wt t xs) λb=>M.pure (a++b)) (f':=λa=>M.bind (wt t' (R.vs xs)) λb=>M.pure (a++b)) (h x) λa=> .bind (f:=λb=>M.pure (a++b)) (f':=λb=>M.pure (R.vs a++b)) (NN h xs) λb=> .pure (Cv _ _)
end
end
section
mutual
noncomputable def vv:ME->aj
 | .c v=>V.closed 0 v
 | .bool _ es=>zd es
 | .list es=>zd es
 | .tup es=>zd es
 | .call _ es=>zd es
 | .bt b es=> !(b== .u7)&&zd es
 | .bin _ a b=>vv a&&vv b
 | .item a b=>vv a&&vv b
 | .wj a b=>vv a&&vv b
 | .not a=>vv a
 | .neg a=>vv a
 | .isA a _=>vv a
 | .ite t a b=>vv t&&(vv a&&vv b)
 | .cmp a _ bs=>vv a&&zd bs
 | .comp _ e gs=>vv e&&Pz gs
 | .slice a b c d=>vv a&&(vv b&&(vv c&&vv d))
 | .tt _ a es=>vv a&&zd es
 | .uh _ a es=>vv a&&zd es
 | .due _ _=>false
 | .attr _ _=>false
 | .new _ _ _=>false
 |_=>true
noncomputable def zd:O ME->aj
 |[]=>true
 |e::es=>vv e&&zd es
noncomputable def abu:MG->aj
 | .g t it es=>Lu t&&(U2 it&&zd es)
noncomputable def Pz:O MG->aj
 |[]=>true
 |g::gs=>abu g&&Pz gs
noncomputable def U2:MI->aj
 | .e a=>vv a
 | .zip a b=>vv a&&vv b
noncomputable def Lu:MT->aj
 | .var _=>true
 | .tup ts=>U3 ts
 | .attr _ _=>false
 | .item a b=>vv a&&vv b
noncomputable def U3:O MT->aj
 |[]=>true
 |t::ts=>Lu t&&U3 ts
end
mutual
noncomputable def U4:MR->aj
 | .tup rs=>U5 rs
 | .own a=>vv a
 | .e a=>vv a
 |_=>true
noncomputable def U5:O MR->aj
 |[]=>true
 |r::rs=>U4 r&&U5 rs
end
mutual
noncomputable def okM:MS->aj
 | .expr a=>vv a
 | .ret a=>vv a
 | .asg t r=>Lu t&&U4 r
 | .if_ t b o=>vv t&&(Er b&&Er o)
 | .wP t b=>vv t&&Er b
 | .ua t it b=>Lu t&&(U2 it&&Er b)
 | .zF _ _=>false
 | .DF _ _=>false
 | .DG _ _ _ _ _ _ _=>false
 |_=>true
noncomputable def Er:O MS->aj
 |[]=>true
 |s::ss=>okM s&&Er ss
end
theorem Es{R:Rl}(v:V):Sm R R.vs (tI v) (tI (R.v v)):= .vm λz=> .pure rfl
section
variable{R:Rl}{F F':Fn}(HF:∀ f args,v6 R (F f args) (F' f (R.vs args)))
include HF
mutual
theorem uo:∀ (e:ME) (l:Loc),vv e=true->v6 R (rZ F e l) (rZ F' e (R.l l))
 | .c v,l,h=> .pure (xN v h)
 | .var k,l,_=> .sM (SB k l)
 | .glob i,_,_=> .sM (by
  cases EG[i]? with
  |none=>rfl
  |some xs=>exact av (λx=>some (V.tup x)) (by show V.ul _ _=_;rw[wo,bR];rfl))
 | .bool b es,l,h=>Ws b es l h
 | .bin op a b,l,h=> .bind (uo a l (rY h).1) λx=> .bind (uo b l (rY h).2) λy=>XD op x y
 | .not a,l,h=> .bind (uo a l h) λx=> .bind (zq x) λb=> .pure rfl
 | .neg a,l,h=> .bind (uo a l h) λx=> .sS λw=> .pure rfl
 | .ite t a b,l,h=> .bind (Et t l (rY h).1) λc=> .ite (uo a l (rY (rY h).2).1) (uo b l (rY (rY h).2).2)
 | .list es,l,h=> .bind (Aw es l h) λw=> .pure rfl
 | .tup es,l,h=> .bind (Aw es l h) λw=> .pure rfl
 | .cmp a ops bs,l,h=> .bind (uo a l (rY h).1) λx=> .bind (PA bs x ops l (rY h).2) λw=> .pure rfl
 | .comp own e gs,l,h=> .bind (Lr own l▸Wt gs (k:=single (rZ F e)) (k':=single (rZ F' e)) (λl=> .bind (f:=λv=>M.pure [v]) (f':=λv=>M.pure [v]) (uo e l (rY h).1) λw=> .pure rfl) (vo own l) (rY h).2) NK
 | .item a b,l,h=> .bind (uo a l (rY h).1) λx=> .bind (uo b l (rY h).2) λy=>UZ x y
 | .slice a b c d,l,h=> .bind (uo a l (rY h).1) λx=> .bind (uo b l (rY (rY h).2).1) λy=> .bind (uo c l (rY (rY (rY h).2).2).1) λz=> .bind (uo d l (rY (rY (rY h).2).2).2) λu=>Sz x y z u
 | .call f es,l,h=> .bind (Aw es l h) (HF f)
 | .tt f a es,l,h=> .bind (uo a l (rY h).1) λo=> .bind (NM _ o) λw=> .bind (Aw es l (rY h).2) λvs=>HF f (o::vs)
 | .uh m a es,l,h=> .bind (uo a l (rY h).1) λo=> .bind (XH m o) λw=> .bind (Aw es l (rY h).2) (XG m o)
 | .bt b es,l,h=> .bind (Aw es l (rY h).2) (Wr b λe=>nomatch (e▸(rY h).1:(!(Bt.u7==Bt.u7))=true))
 | .wj a b,l,h=> .bind (uo a l (rY h).1) λx=> .bind (Es _) λxs=> .bind (uo b l (rY h).2) λy=> .bind (Es _) λys=>(av V.lst (Ls xs ys))▸Wr .dict (by decide) [.lst (vI xs ys)]
 | .isA a t,l,h=> .bind (uo a l h) λx=>SA x t
 | .bad,_,_=> .fail
theorem Aw:∀ (es:O ME) (l:Loc),zd es=true->Sm R R.vs (sR F es l) (sR F' es (R.l l))
 |[],_,_=> .pure rfl
 |e::es,l,h=> .bind (uo e l (rY h).1) λz=> .bind (Aw es l (rY h).2) λz=> .pure rfl
theorem Et:∀ (e:ME) (l:Loc),vv e=true->Sm R id (sN F e l) (sN F' e (R.l l))
 | .not a,l,h=> .bind (Et a l h) λy=> .pure rfl
 | .bool b es,l,h=>PB b es l h
 | .ite t a b,l,h=> .bind (Et t l (rY h).1) λc=> .ite (Et a l (rY (rY h).2).1) (Et b l (rY (rY h).2).2)
 | .cmp a ops bs,l,h=> .bind (uo a l (rY h).1) λx=>PA bs x ops l (rY h).2
 | .c v,_,h=>by
  have z:=zq (R:=R) v;rwa [show R.v v=v from xN v h] at z
 | .var k,l,_=> .bind (.sM (SB k l)) zq
 | .call f es,l,h=> .bind (Aw es l h) λvs=> .bind (HF f vs) zq
 | .tt f a es,l,h=> .bind (uo a l (rY h).1) λo=> .bind (NM _ o) λy=> .bind (Aw es l (rY h).2) λvs=> .bind (HF f (o::vs)) zq
 | .isA a t,l,h=> .bind (uo a l h) λx=> .bind (SA x t) zq
 | .glob _,_,_=> .fail
 | .bin _ _ _,_,_=> .fail
 | .neg _,_,_=> .fail
 | .list _,_,_=> .fail
 | .tup _,_,_=> .fail
 | .comp _ _ _,_,_=> .fail
 | .item _ _,_,_=> .fail
 | .slice _ _ _ _,_,_=> .fail
 | .uh _ _ _,_,_=> .fail
 | .bt _ _,_,_=> .fail
 | .wj _ _,_,_=> .fail
 | .bad,_,_=> .fail
theorem Ws:∀ (b:aj) (es:O ME) (l:Loc),zd es=true->v6 R (CJ F b es l) (CJ F' b es (R.l l))
 |_,[],_,_=> .fail
 |b,[e],l,h=> .bind (uo e l (rY h).1) λz=> .pure rfl
 |b,e::e2::es,l,h=> .bind (uo e l (rY h).1) λv=> .bind (zq v) λc=> .ite (Ws b (e2::es) l (rY h).2) (.pure rfl)
theorem PB:∀ (b:aj) (es:O ME) (l:Loc),zd es=true->Sm R id (xo F b es l) (xo F' b es (R.l l))
 |_,[],_,_=> .pure rfl
 |b,e::es,l,h=> .bind (Et e l (rY h).1) λc=> .ite (PB b es l (rY h).2) (.pure rfl)
theorem PA:∀ (es:O ME) (a:V) (ops:O ct) (l:Loc),zd es=true->Sm R id (vU F a ops es l) (vU F' (R.v a) ops es (R.l l))
 |[],_,_,_,_=> .fail
 |e::es,a,[],l,h=> .bind (uo e l (rY h).1) λz=> .fail
 |[e],a,op::ops,l,h=> .bind (uo e l (rY h).1) λb=> .same (NE op a b)
 |e::e2::es,a,op::ops,l,h=> .bind (uo e l (rY h).1) λb=> .bind (NE op a b) λc=> .ite (PA (e2::es) b ops l (rY h).2) (.pure rfl)
theorem aad:∀ (i:MI) (l:Loc),U2 i=true->Sm R R.vs (wc F i l) (wc F' i (R.l l))
 | .e a,l,h=> .bind (uo a l h) Sx
 | .zip a b,l,h=> .bind (f:=λx=>M.bind (tI x) λxs=>M.bind (rZ F b l) λy=>M.bind (tI y) λys=>M.pure (vI xs ys)) (f':=λx=>M.bind (tI x) λxs=>M.bind (rZ F' b (R.l l)) λy=>M.bind (tI y) λys=>M.pure (vI xs ys)) (uo a l (rY h).1) λx=>
  .bind (Es _) λxs=> .bind (uo b l (rY h).2) λy=> .bind (Es _) λys=> .pure (Ls xs ys)
theorem Wt:∀ (gs:O MG) {k k':Loc->M (O V)},(∀ l,Sm R R.vs (k l) (k' (R.l l)))->∀ l,Pz gs=true->Sm R R.vs (wu F gs k l) (wu F' gs k' (R.l l))
 |[],_,_,hk,l,_=>hk l
 | .g t it es::gs,k,k',hk,l,h=> .bind (aad it l (rY (rY (rY h).1).2).1) (NN λv=> .bind (f:=λl1=>M.bind (xo F true es l1) λc=>if c then wu F gs k l1 else M.pure []) (f':=λl1=>M.bind (xo F' true es l1) λc=>if c then wu F' gs k' l1 else M.pure []) (PC t l v (rY (rY h).1).1) λl1=> .bind (PB true es l1 (rY (rY (rY h).1).2).2) λc=> .ite (Wt gs hk l1 (rY h).2) (.pure rfl))
theorem PC:∀ (t:MT) (l:Loc) (v:V),Lu t=true->Sm R R.l (sO F t l v) (sO F' t (R.l l) (R.v v))
 | .var k,l,v,_=>aac l k v
 | .tup ts,l,v,h=> .bind (f:=λvs=>M.guard (ts.length==vs.length) (tY F ts l vs)) (f':=λvs=>M.guard (ts.length==vs.length) (tY F' ts (R.l l) vs)) (Es v) λvs=> .len (c:=λn=>ts.length==n) (Wu ts l vs h)
 | .item a b,l,v,h=> .bind (f:=λo=>M.bind (rZ F b l) λx=>M.bind (uL o x v) λz=>M.pure l) (f':=λo=>M.bind (rZ F' b (R.l l)) λx=>M.bind (uL o x (R.v v)) λz=>M.pure (R.l l)) (uo a l (rY h).1) λo=> .bind (uo b l (rY h).2) λx=> .bind (Py o x v) λz=> .pure rfl
theorem Wu:∀ (ts:O MT) (l:Loc) (vs:O V),U3 ts=true->Sm R R.l (tY F ts l vs) (tY F' ts (R.l l) (R.vs vs))
 |[],l,[],_=> .pure rfl
 |[],_,_::_,_=> .fail
 |_::_,_,[],_=> .fail
 |t::ts,l,v::vs,h=> .bind (f:=λl1=>tY F ts l1 vs) (f':=λl1=>tY F' ts l1 (R.vs vs)) (PC t l v (rY h).1) λl1=>Wu ts l1 vs (rY h).2
end
end
end
section
noncomputable def Rl.x(R:Rl):XR->XR
 | .next l=> .next (R.l l)
 | .brk l=> .brk (R.l l)
 | .cont l=> .cont (R.l l)
 | .ret v=> .ret (R.v v)
abbrev GV(R:Rl)(m m':X):Prop:=Sm R R.x m m'
section
variable{R:Rl}{F F':Fn}
theorem aae{m m':X}{k k':Loc->X}(h:GV R m m')(hk:∀ l,GV R (k l) (k' (R.l l))):GV R (Oe m k) (Oe m' k'):= .bind h λx=>by
 cases x with
 |next l=>exact hk l
 |_=>exact .pure rfl
theorem Lv{t t':Loc->V->X}(h:∀ l v,GV R (t l v) (t' (R.l l) (R.v v))):∀ (vs:O V) (l:Loc),GV R (uR t vs l) (uR t' (R.vs vs) (R.l l))
 |[],_=> .pure rfl
 |v::vs,l=> .bind (h l v) λx=>by
  cases x with
  |next l=>exact Lv h vs l
  |cont l=>exact Lv h vs l
  |_=>exact .pure rfl
theorem F6{t t':Loc->X}(h:∀ l,GV R (t l) (t' (R.l l))):∀ (n:aa) (l:Loc),GV R (xa t n l) (xa t' n (R.l l))
 |0,_=> .fail
 |n+1,l=> .bind (h l) λx=>by
  cases x with
  |next l=>exact F6 h n l
  |cont l=>exact F6 h n l
  |_=>exact .pure rfl
variable(HF:∀ f args,v6 R (F f args) (F' f (R.vs args)))
include HF
mutual
theorem aaf:∀ (r:MR) (l:Loc),U4 r=true->v6 R (xD F r l) (xD F' r (R.l l))
 | .newList,_,_=>Sm.alloc (o:= .lst []) λτ n=>(n.lst 0 _).2
 | .newDict,_,_=>Sm.alloc (o:= .dct [] []) λτ n=>(n.dct 0 _ _).2
 | .tup rs,l,h=> .bind (f:=λvs=>M.pure (V.tup vs)) (f':=λvs=>M.pure (V.tup vs)) (Wv rs l h) λz=> .pure rfl
 | .own a,l,h=> .bind (uo HF a l h) λz=> .uK λxs=>Sm.alloc (o:= .lst xs) λτ n=>(n.lst 0 _).2
 | .e a,l,h=>uo HF a l h
theorem Wv:∀ (rs:O MR) (l:Loc),U5 rs=true->Sm R R.vs (xr F rs l) (xr F' rs (R.l l))
 |[],_,_=> .pure rfl
 |r::rs,l,h=> .bind (aaf r l (rY h).1) λz=> .bind (Wv rs l (rY h).2) λz=> .pure rfl
end
mutual
theorem abv:∀ (s:MS) (l:Loc),okM s=true->GV R (xu F s l) (xu F' s (R.l l))
 | .expr a,l,h=> .bind (f:=λz=>M.pure (XR.next l)) (f':=λz=>M.pure (XR.next (R.l l))) (uo HF a l h) λz=> .pure rfl
 | .ret a,l,h=> .bind (f:=λv=>M.pure (XR.ret v)) (f':=λv=>M.pure (XR.ret v)) (uo HF a l h) λz=> .pure rfl
 | .FA,_,_=> .pure rfl
 | .asg t r,l,h=> .bind (f:=λv=>M.bind (sO F t l v) λl=>M.pure (XR.next l)) (f':=λv=>M.bind (sO F' t (R.l l) v) λl=>M.pure (XR.next l)) (aaf HF r l (rY h).2) λv=> .bind (f:=λl=>M.pure (XR.next l)) (f':=λl=>M.pure (XR.next l)) (PC HF t l v (rY h).1) λz=> .pure rfl
 | .if_ t b o,l,h=> .bind (f:=λc=>if c then r8 F b l else r8 F o l) (f':=λc=>if c then r8 F' b (R.l l) else r8 F' o (R.l l)) (Et HF t l (rY h).1) λc=> .ite (ET b l (rY (rY h).2).1) (ET o l (rY (rY h).2).2)
 | .wP t b,l,h=>F6 (λl=> .bind (f:=λc=>if c then r8 F b l else M.pure (XR.brk l)) (f':=λc=>if c then r8 F' b (R.l l) else M.pure (XR.brk (R.l l))) (Et HF t l (rY h).1) λc=> .ite (ET b l (rY h).2) (.pure rfl)) _ l
 | .ua t it b,l,h=> .bind (f:=λvs=>uR (uS (sO F t) (r8 F b)) vs l) (f':=λvs=>uR (uS (sO F' t) (r8 F' b)) vs (R.l l)) (aad HF it l (rY (rY h).2).1) λvs=>Lv (λl v=> .bind (PC HF t l v (rY h).1) λl=>ET b l (rY (rY h).2).2) vs l
 | .cont,_,_=> .pure rfl
 | .brk,_,_=> .pure rfl
theorem ET:∀ (ss:O MS) (l:Loc),Er ss=true->GV R (r8 F ss l) (r8 F' ss (R.l l))
 |[],_,_=> .pure rfl
 |s::ss,l,h=>aae (abv s l (rY h).1) λl=>ET ss l (rY h).2
end
theorem aag{r:MF}(h:Er r.body=true)(args:O V):v6 R (zV F r args) (zV F' r (R.vs args)):= .len (c:=λn=>n==r.nargs) (.bind (by
 have z:=ET HF r.body (uZ r args) h
 rwa [show R.l (uZ r args)=uZ r (R.vs args) by
  show eJ _ (_++_)=(V.ul _ args).map some++_;rw[cW,bR,pX,wo,bR];rfl] at z) λx=>by
 cases x with
 |next l=>exact .pure rfl
 |ret v=>exact .pure rfl
 |_=>exact .fail)
end
section
variable{R:Rl}
theorem PD{n i:aa}:R.ρ i<R.vZ.length+n<->i<R.oS.length+n:=by
 unfold Rl.ρ
 exact if h:i<R.oS.length then(aN h).symm▸⟨λz=>bw h (aV _ _),λz=>bw (R.lt i h) (aV _ _)⟩
  else(aI h).symm▸(aa.add_lt_add_iff_left.trans (aa.sub_lt_iff_lt_add' (ec h)))
theorem SC{n:aa}(v:V):V.closed (R.oS.length+n) v=true->V.closed (R.vZ.length+n) (R.v v)=true:=
 V.rec (motive_1:=λv=>V.closed (R.oS.length+n) v=true->V.closed (R.vZ.length+n) (R.v v)=true) (motive_2:=λv=>V.uf (R.oS.length+n) v=true->V.uf (R.vZ.length+n) (R.vs v)=true) id (λz=>id) (λz=>id) (λz=>id) (λz h=>h) (λz h=>h)
  (λz z h k e=>tQ (h (rY e).1) (k (rY e).2)) (λz z=>id) (λi h=>aX (PD.mpr (aP (p:=i<R.oS.length+n) h))) (λz h=>h) id (λz z h k e=>tQ (h (rY e).1) (k (rY e).2)) v
theorem XI(τ:Ob):(R.big τ).length=R.vZ.length+τ.length:=by unfold Rl.big;rw[bv,aH]
theorem SD{n:aa}(τ:Ob)(v:V):freeze (R.vZ.length+n) (R.big τ) (R.v v)=R.v (freeze (R.oS.length+n) (R.sm τ) v):=by
 cases v with
 |ref i=>
  show(if R.ρ i<_ then _ else _)=R.v (if i<_ then _ else _)
  by_cases h:i<R.oS.length+n
  ·rw[aN h,aN (PD.mpr h)]
  ·rw[aI h,aI λz=>h (PD.mp z)]
   obtain⟨k,rfl⟩:=pV (aw (aV _ n) (ec h));unfold Rl.big Rl.sm;show listOf _ (V.ref (R.ρ (R.oS.length+k)))=R.v (listOf _ (V.ref (R.oS.length+k)));rw[R.new,di (aV _ _),cE,ca,di (by rw[aH];exact aV _ _),aH,cE]
   cases τ[k]? with
   |none=>exact av V.ref (R.new k).symm
   |some o=>cases o<;>first|rfl|exact av V.ref (R.new k).symm
 |_=>rfl
theorem XJ{m m':M V}(h:v6 R m m'):v6 R (vS m) (vS m'):=λτ x σ1 n e=>by
 have e:(match m (R.sm τ) with|some p=>M.guard (Ob.beq (p.2.take (R.sm τ).length) (R.sm τ)&&V.closed (R.sm τ).length (freeze (R.sm τ).length p.2 p.1)) (M.pure (freeze (R.sm τ).length p.2 p.1)) (R.sm τ)|none=>none)=some (x,σ1):=e
 cases hm:m (R.sm τ) with
 |none=>rw[hm] at e;cases e
 |some p=>
  obtain⟨a,σ2⟩:=p;rw[hm] at e
  obtain⟨J,rfl,n1,h1⟩:=h τ a σ2 n hm;dsimp only at e
  rw[R.len] at e
  cases q:Ob.beq ((R.sm J).take (R.oS.length+τ.length)) (R.sm τ)&&V.closed (R.oS.length+τ.length) (freeze (R.oS.length+τ.length) (R.sm J) a) with
  |false=>rw[q] at e;cases e
  |true=>
   rw[q] at e
   have U:=im (aE e);have uI:=U.1;have GU:=U.2;subst uI GU;refine⟨τ,rfl,n, ?_⟩
   have ht:J.take τ.length=τ:=by
    have z:=Ob.beq_eq (rY q).1;unfold Rl.sm at z
    rw[pY,aH,cE,fV (by rw[aH];exact aV _ _)] at z
    exact O.append_cancel_left z
   unfold To vS;rw[show m' (R.big τ)=_ from h1,XI]
   dsimp only
   have hb:(R.big J).take (R.vZ.length+τ.length)=R.big τ:=by
    unfold Rl.big;rw[pY,cE,fV (aV _ _),<-gz,ht]
   rw[hb,SD,Ob.yL,SC _ (rY q).2];rfl
end
noncomputable def Ww(f:aa):aj:=lA f 25||(lA 43 f&&lA f 48)
theorem aah:((bg 49).all λf=> !Ww f||(match prog[f]? with|some r=>Er r.body|none=>true))=true:=by decide+kernel
def BS(sp:O V->M V):aa->Fn
 |0,_,_=>M.fail
 |d+1,f,args=>if f==36 then sp args else M.guard (Ww f) (match prog[f]? with
   |some r=>zt r.pure (zV (BS sp d) r args)
   |none=>M.fail)
theorem aai{sp:O V->M V}{d f:aa}{args:O V}:BS sp (d+1) f args=if f==36 then sp args else M.guard (Ww f) (match prog[f]? with|some r=>zt r.pure (zV (BS sp d) r args)|none=>M.fail):=rfl
set_option tactic.hygienic true in
theorem PE{R:Rl}{sp:O V->M V}(J:∀ d args,v6 R (sp args) (sC prog (d+1) 36 (R.vs args))):∀ (d d' f:aa) (args:O V),d<=d'->v6 R (BS sp d f args) (sC prog d' f (R.vs args))
 |0,_,_,_,_=> .fail
 |d+1,0,_,_,h=>aC h (jh d)
 |d+1,d'+1,f,args,h=>by
  rw[aai];split
  ·rename_i e
   rw[eq_of_beq e];exact J d' args
  ·cases q:Ww f with
   |false=>exact .fail
   |true=>
    have U:f<49:=by
     rcases gI.mp q with q|q
     ·exact bH (cV q) (by decide)
     ·exact lu (cV (rY q).2)
    have ok:=bh.mp aah f (b5.mpr U);rw[q] at ok
    show v6 R (match prog[f]? with|some r=>zt r.pure (zV (BS sp d) r args)|none=>M.fail) _
    rw[Px];cases hr:prog[f]? with
    |none=>exact .fail
    |some r=>
     rw[hr] at ok
     have hf:(f==raiser)=false:=bS.mpr (bu (i6 U (by decide)))
     dsimp only;rw[hf];have run:=aag (λf args=>PE J d d' f args (ji h)) ok args;show v6 R (zt _ _) (zt _ _);cases r.pure
     ·exact run
     ·exact XJ run
def GW(d f:aa)(args:O V)(v:V):aj:=match BS (λz=>M.fail) d f args [] with
 |some p=>V.beq p.1 v&&(p.2.isEmpty&&(V.uf 0 args&&V.closed 0 v))
 |none=>false
set_option tactic.hygienic true in
theorem AL{d d' f:aa}{args:O V}{v:V}{σ:Ob}(h:GW d f args v=true)(J:d<=d'):Is (sC prog d' f args) σ v:=by
 unfold GW at h
 split at h
 ·rename_i p e
  obtain⟨h1,h⟩:=rY h;refine(rY h).elim λh2 h=> ?_;refine(rY h).elim λh3 U=> ?_;obtain⟨τ,e1,_,e2⟩:=PE (R:=⟨[],σ,id,λi h=>aC h (gu i),λi c h=>nomatch h⟩) (λd args=> .fail) d d' f args J [] p.1 p.2 (λz h=>nomatch h) e
  have e3:τ=[]:=e1.symm.trans (cR.mp h2);subst e3;rw[show Rl.vs _ args=args from V.tup.inj (xN (.tup args) h3),V.beq_eq _ h1,show Rl.v _ v=v from xN v U] at e2
  exact(bY σ)▸e2
 ·exact ff h
end
section
abbrev sr:=ae×aa×ae
abbrev ze:=ax (ae×ax ae)
abbrev Step:=aa×O sr×O ae×ze
abbrev Dom:=O (ae×ae)
noncomputable def sF(l:sr):V:= .tup [.int l.1, .str l.2.1, .int l.2.2]
noncomputable def ivV(p:ae×ae):V:= .tup [.int p.1, .int p.2]
noncomputable abbrev ud(c:O sr):V:= .tup (c.map sF)
noncomputable abbrev tF(xs:O ae):V:= .tup (xs.map .int)
noncomputable abbrev t9(xs:O ae):V:= .lst (xs.map .int)
abbrev aaj(D:Dom):V:= .tup (D.map ivV)
noncomputable def ui:ze->V
 |none=> .none
 |some p=>match p.2 with
  |none=> .int p.1
  |some b=> .tup [.int p.1, .int b]
def sL(s:Step):V:= .tup [.str s.1,ud s.2.1,tF s.2.2.1,ui s.2.2.2]
noncomputable def says(l:sr)(v:ae):aj:=if l.2.1==2 then decide (v<=l.2.2) else if l.2.1==4 then decide (v>=l.2.2) else(v==l.2.2)==(l.2.1==3)
noncomputable def neg(l:sr):sr:=(l.1,if l.2.1==2 then 4 else if l.2.1==4 then 2 else if l.2.1==3 then 1 else 3,if l.2.1==2 then l.2.2+1 else if l.2.1==4 then l.2.2 - 1 else l.2.2)
theorem AM{ι:Type}[eh ι](x y:ι):(x==y)=decide (x=y):=rfl
structure Enc{ι:Type}[eh ι](n:aa)(g:ι->V):Prop where
 eq:∀ x y,V.eqv (g x) (g y)=decide (x=y)
 pl:∀ k x,V.plain (k+n) (g x)=true
section
variable{ι:Type}[eh ι]{n:aa}{g:ι->V}{σ:Ob}
theorem HS(h:∀ x y,V.eqv (g x) (g y)=decide (x=y)):∀ xs ys:O ι,V.Hb (xs.map g) (ys.map g)=decide (xs=ys)
 |[],[]=>rfl
 |[],_::_=>rfl
 |_::_,[]=>rfl
 |x::xs,y::ys=>by
  show(V.eqv (g x) (g y)&&V.Hb (xs.map g) (ys.map g))=_;rw[h,HS h xs ys,<-jv];exact d6.mpr O.cons_eq_cons.symm
theorem Eu(h:∀ x,V.plain n (g x)=true)(xs:O ι):(xs.map g).all (V.plain n)=true:=by rw[fz];exact bh.mpr λx z=>h x
theorem Enc.lst(E:Enc n g):Enc (n+1) λxs:O ι=> .lst (xs.map g):=⟨HS E.eq,λk xs=>Eu (E.pl k) xs⟩
theorem Enc.tup(E:Enc n g):Enc (n+1) λxs:O ι=> .tup (xs.map g):=⟨HS E.eq,λk xs=>Eu (E.pl k) xs⟩
theorem Enc.int:Enc 0 V.int:=⟨λx y=>(AM x y),λk x=>by cases k<;>rfl⟩
theorem Enc.lit:Enc 1 sF:=⟨λx y=>by
 show((x.1==y.1)&&((x.2.1==y.2.1)&&((x.2.2==y.2.2)&&true)))=_;rw[AM,AM,AM,pZ,<-jv,<-jv];exact d6.mpr ⟨λh=>fD h.1 (fD h.2.1 h.2.2),λh=>h▸⟨rfl,rfl,rfl⟩⟩,λk x=>by cases k<;>rfl⟩
theorem Enc.iv:Enc 1 ivV:=⟨λx y=>by
 show((x.1==y.1)&&((x.2==y.2)&&true))=_;rw[AM,AM,pZ,<-jv];exact d6.mpr ⟨λh=>fD h.1 h.2,λh=>h▸⟨rfl,rfl⟩⟩,λk x=>by cases k<;>rfl⟩
theorem Lw{v:V}{k:aa}(h:V.plain k v=true):wa v=M.pure v:=by cases v<;>first|rfl|(cases k<;>cases h)
theorem Enc.cmp(E:Enc n g){k:aa}(h:k+n=8)(x y:ι):Is (yD (g x) (g y)) σ (decide (x=y)):=by
 have p:∀ x,V.plain 8 (g x)=true:=λx=>h▸E.pl k x;show M.bind (wa _) (λa=>M.bind (wa _) λb=>Dp a b) σ=_;rw[Lw (p x),Lw (p y)];show M.guard (V.plain 8 _&&V.plain 8 _) (M.pure (V.eqv _ _)) σ=_;rw[p,p,E.eq];rfl
theorem Enc.ne(E:Enc n g){k:aa}(h:k+n=8)(x y:ι):Is (uC .NotEq (g x) (g y)) σ (!decide (x=y)):=M.then (f:=λr=>M.pure (!r)) (E.cmp h x y) rfl
theorem Enc.mem(E:Enc n g){k:aa}(h:k+n=8)(x:ι)(ys:O ι)[gR (x∈ys)]:Is (AO (g x) (ys.map g)) σ (decide (x∈ys)):=by
 have p:∀ x,V.plain 8 (g x)=true:=λx=>h▸E.pl k x;show M.guard (V.plain 8 _&&_) (M.pure _) σ=_;rw[p,Eu p];rw[fS,show(λy=>V.eqv y (g x))∘g=λy=>decide (y=x) from funext λy=>E.eq y x]
 refine av (λb=>some (b,σ)) (ej.mpr ?_);rw[ik,fy];exact⟨λ⟨y,hy,e⟩=>aP e▸hy,λh=>⟨x,h,aX rfl⟩⟩
end
end
section
noncomputable def subs:O (O ae):=[[],[0],[1],[0,1],[2],[0,2],[1,2],[0,1,2],[3],[1,3],[2,3],[1,2,3]]
noncomputable def xk:O ae->Dom
 |[]=>[]
 |x::xs=>match xk xs with
  |[]=>[(x,x)]
  |p::r=>if x+1==p.1 then(x,p.2)::r else(x,x)::p::r
abbrev dV(L:O ae):V:=aaj (xk L)
noncomputable def HT:O ae:=[-3, -2, -1,0,1,2,3,4,5,6]
noncomputable def signs:O aa:=[1,2,3,4]
structure uH(l:sr):Prop where
 x:l.1=0\/l.1=1
 s:l.2.1∈signs
 k:l.2.2∈HT
structure yt(l:sr):Prop where
 ok:uH l
 ng:uH (neg l)
theorem tU{α:Type}{p:α->aj}{xs:O α}(h:xs.all p=true){x:α}(hx:x∈xs):p x=true:=bh.mp h x hx
theorem x0{P:aa->Prop}{s:aa}(h:s∈signs)(h1:P 1)(h2:P 2)(h3:P 3)(J:P 4):P s:=bj.mpr ⟨h1,bj.mpr ⟨h2,bj.mpr ⟨h3,bj.mpr ⟨J,λz h=>aC h ba⟩⟩⟩⟩ s h
theorem PF(x:ae):(subs.all λL=>HT.all λk=>signs.all λs=>GW 3 17 [sF (x,s,k),dV L] (dV (L.filter (says (x,s,k)))))=true:=by kernel_rfl
theorem HU:(subs.all λL=>(decide (xk L=[])==L.isEmpty)&&((subs.all λM=>decide (xk L=xk M)==decide (L=M))&&HT.all λk=>signs.all λs=>subs.contains (L.filter (says (0,s,k)))))=true:=by decide+kernel
theorem F7:(subs.all λL=>GW 2 8 [dV L] (.int L.length)&&(decide (L.length<=3)&&L.all λv=>GW 3 10 [dV L, .int v] (.bool true)))=true:=by decide+kernel
section
variable{d:aa}{σ:Ob}{L M:O ae}{l:sr}
theorem PG(J:L∈subs)(h:uH l):Is (sC prog (d+3) 17 [sF l,dV L]) σ (dV (L.filter (says l))):=AL (tU (tU (tU (PF l.1) J) h.k) h.s) (cF _ _)
theorem HV(J:L∈subs)(h:uH l):L.filter (says l)∈subs:=df.mp (tU (tU (rY (rY (tU HU J)).2).2 h.k) h.s)
theorem join_nil(J:L∈subs):decide (xk L=[])=L.isEmpty:=eq_of_beq (rY (tU HU J)).1
theorem U6(J:L∈subs)(U:M∈subs):decide (xk L=xk M)=decide (L=M):=eq_of_beq (tU (rY (rY (tU HU J)).2).1 U)
theorem U7(J:L∈subs):Is (sC prog (d+2) 8 [dV L]) σ (.int L.length):=AL (rY (tU F7 J)).1 (cF _ _)
theorem sub_len(J:L∈subs):L.length<=3:=aP (rY (rY (tU F7 J)).2).1
theorem XK(J:L∈subs){v:ae}(hv:v∈L):Is (sC prog (d+3) 10 [dV L, .int v]) σ (.bool true):=AL (tU (rY (rY (tU F7 J)).2).2 hv) (cF _ _)
theorem XL(hs:l.2.1∈signs):Is (sC prog (d+1) 16 [sF l]) σ (sF (neg l)):=uU Af rfl rfl rfl (W.of (by
 obtain⟨x,s,k⟩:=l;exact x0 (P:=λs=>r8 (sC prog d) Af.body (uZ Af [sF (x,s,k)]) σ=some (.ret (sF (neg (x,s,k))),σ)) hs (by kernel_rfl) (by kernel_rfl) (by kernel_rfl) (by kernel_rfl)) ⟨rfl, .rfl⟩)
theorem A6(hs:l.2.1∈signs)(v:ae):Is (sC prog (d+1) 23 [sF l, .int v]) σ (.bool (says l v)):=uU Ag rfl rfl rfl (W.of (by
 obtain⟨x,s,k⟩:=l;exact x0 (P:=λs=>r8 (sC prog d) Ag.body (uZ Ag [sF (x,s,k), .int v]) σ=some (.ret (.bool (says (x,s,k) v)),σ)) hs (by kernel_rfl) (by kernel_rfl) (by kernel_rfl) (by kernel_rfl)) ⟨rfl, .rfl⟩)
end
section
variable{α:Type}{σ σ1:Ob}{r c n:aa}{o:sv}{a:O (aa×V)}{v:V}{xs:O V}
theorem aak(h:σ[r]?=some o):Is (ur r) σ o:=by show(match σ[r]? with|some o=>some (o,σ)|none=>none)=_;rw[h]
theorem sQ{f:sv->M α}{b:α}(h:σ[r]?=some o)(k:To (f o) σ b σ1):To (M.bind (ur r) f) σ b σ1:=M.then (aak h) k
theorem tr(h:σ[r]?=some (.inst c a))(e:a.lookup n=some v):Is (wD (.ref r) n) σ v:=sQ h (by show sM _ σ=_;rw[e];rfl)
theorem vx(h:σ[r]?=some (.inst c a)):Is (uQ c (.ref r)) σ ():=sQ h (by show M.guard (c==c) _ σ=_;rw[bC];rfl)
theorem wp{m:Bm}(h:σ[r]?=some o)(k:DH m o=true):Is (xB m (.ref r)) σ ():=sQ (f:=λo=>M.guard (DH m o) (M.pure ())) h (by show M.guard _ _ σ=_;rw[k];rfl)
end
noncomputable def tK:ax V->ax V->aj->O V
 |none,none,_=>[]
 |some _,none,_=>[.int 0]
 |none,some _,_=>[.int 1]
 |some _,some _,false=>[.int 0, .int 1]
 |some _,some _,true=>[.int 1, .int 0]
noncomputable def tV:ax V->ax V->aj->O V
 |none,none,_=>[]
 |some a,none,_=>[a]
 |none,some b,_=>[b]
 |some a,some b,false=>[a,b]
 |some a,some b,true=>[b,a]
inductive Bx(σ:Ob)(b t:aa)(L:ae->O ae):Prop
 |mk {A B:V} {p q:ax V} {o:aj} (ne:b≠t) (box:σ[b]?=some (.inst 1 [(0, .lst [A,B]),(1, .ref t)])) (dct:σ[t]?=some (.dct (tK p q o) (tV p q o))) (d0:p.getD A=dV (L 0)) (d1:q.getD B=dV (L 1)) (s0:L 0∈subs) (s1:L 1∈subs)
section
variable{σ σ1:Ob}{b t d:aa}{L:ae->O ae}{l:sr}{x:ae}
theorem tC{P:ae->Prop}(h:x=0\/x=1)(h0:P 0)(h1:P 1):P x:=h.elim (λe=>e▸h0) λe=>e▸h1
theorem Bx.sub(B:Bx σ b t L)(hx:x=0\/x=1):L x∈subs:=B.casesOn λz z z z z s0 s1=>tC (P:=λx=>L x∈subs) hx s0 s1
theorem Bx.inst(B:Bx σ b t L):Is (uQ 1 (.ref b)) σ ():=B.casesOn λz h z z z z z=>vx h
theorem Bx.keep(B:Bx σ b t L)(h1:σ1[b]?=σ[b]?)(h2:σ1[t]?=σ[t]?):Bx σ1 b t L:=B.casesOn λne J U d0 d1 s0 s1=> .mk ne (h1.trans J) (h2.trans U) d0 d1 s0 s1
theorem aal{A B:V}{p q:ax V}{o:aj}(h:σ[t]?=some (.dct (tK p q o) (tV p q o)))(hx:x=0\/x=1):Is (w9 .get (.ref t) [.int x,if x==0 then A else B]) σ (if x==0 then p.getD A else q.getD B):=sQ h (by
 cases p<;>cases q<;>cases o<;>exact tC (P:=λx=>To (EF .get t [.int x,if x==0 then A else B] (.dct (tK _ _ _) (tV _ _ _))) σ (if x==0 then _ else _) σ) hx rfl rfl)
theorem A7{ι:Type}{g:ι->V}{n:aa}(h:∀ y,V.closed n (g y)=true):∀ ys:O ι,V.uf n (ys.map g)=true
 |[]=>rfl
 |y::ys=>tQ (h y) (A7 h ys)
theorem Wx(L:O ae):V.closed 0 (dV L)=true:=A7 (λz=>rfl) _
theorem Ax(B:Bx σ b t L)(hx:x=0\/x=1):Is (sC prog (d+1) 36 [.ref b, .int x]) σ (dV (L x)):=B.casesOn λ{J U p q o} ne hb hd d0 d1 s0 s1=>
 uU DI rfl rfl (Wx _) (tX (wn (tL rfl (tr hb rfl)) (wp hd rfl) (tq rfl (es1 (sG (tL rfl (tr hb rfl)) rfl (show Is (tZ (.lst [J,U]) (.int x)) σ (if x==0 then J else U) from tC (P:=λx=>Is (tZ (.lst [J,U]) (.int x)) σ (if x==0 then J else U)) hx rfl rfl)))) (aal hd hx))
  ⟨tC (P:=λx=>XR.ret (if x==0 then p.getD J else q.getD U)= .ret (dV (L x))) hx (av XR.ret d0) (av XR.ret d1), .rfl⟩)
end
end
section
noncomputable def upd(L:ae->O ae)(l:sr):ae->O ae:=λx=>if x==l.1 then(L x).filter (says l) else L x
theorem yN{ι:Type}(p:ι->aj):∀ xs:O ι,(xs.filter p).isEmpty= !xs.any p
 |[]=>rfl
 |x::xs=>by
  rw[il,dF];cases p x
  ·exact yN p xs
  ·rfl
theorem NO{p:ae->aj}:∀ xs:O ae,decide (xs.filter p=xs)=xs.all p
 |[]=>rfl
 |x::xs=>by
  rw[il,O.all_cons];cases p x
  ·refine cn λe=> ?_
   have z:=fm p xs;rw[show xs.filter p=x::xs from e] at z
   exact aa.not_succ_le_self _ z
  ·exact(d6.mpr ⟨λe=>(dM e).2,av _⟩).trans (NO xs)
section
variable{σ σ1:Ob}{b t d:aa}{L:ae->O ae}{l:sr}{x:ae}{D:V}{p q:ax V}{o:aj}
theorem NP(J:L x∈subs)(U:uH l):(!decide (xk ((L x).filter (says l))=[]))=(L x).any (says l):=by rw[join_nil (HV J U),yN,dR]
theorem Jw{F:Fn}{l:Loc}:Is (rZ F (.tup []) l) σ (aaj []):=rfl
theorem F8(B:Bx σ b t L)(J:uH l):Is (rZ (sC prog (d+3)) (.call 17 [.var 1, .tt 36 (.var 0) [.item (.var 1) (.c (.int 0))]]) [some (.ref b),some (sF l)]) σ (dV ((L l.1).filter (says l))):=
 ue (tq rfl (es1 (ym rfl B.inst (es1 rfl) (Ax (d:=d+2) B J.x)))) (PG (B.sub J.x) J)
theorem MK(B:Bx σ b t L)(J:uH l):Is (sC prog (d+4) 37 [.ref b,sF l]) σ (.bool ((L l.1).any (says l))):=
 uU B0 rfl rfl rfl (tX (zc (F8 B J) (sX Jw (Enc.iv.tup.ne (k:=6) rfl _ []))) ⟨by rw[NP (B.sub J.x) J], .rfl⟩)
theorem Lx(B:Bx σ b t L)(J:uH l):Is (sC prog (d+4) 38 [.ref b,sF l]) σ (.bool ((L l.1).all (says l))):=
 uU Bh rfl rfl rfl (tX (zc (F8 B J) (sX (ym rfl B.inst (es1 rfl) (Ax B J.x)) (Enc.iv.tup.cmp (k:=6) rfl _ _))) ⟨by rw[U6 (HV (B.sub J.x) J) (B.sub J.x),NO], .rfl⟩)
theorem XM(h:σ[t]?=some (.dct (tK p q o) (tV p q o)))(hx:x=0\/x=1):∃ o',To (uL (.ref t) (.int x) D) σ () (σ.set t (.dct (tK (if x==0 then some D else p) (if x==0 then q else some D) o') (tV (if x==0 then some D else p) (if x==0 then q else some D) o'))):=
 tC (P:=λx=>∃ o',To (uL (.ref t) (.int x) D) σ () (σ.set t (.dct (tK (if x==0 then some D else p) (if x==0 then q else some D) o') (tV (if x==0 then some D else p) (if x==0 then q else some D) o')))) hx
  (by cases p<;>cases q<;>first|exact⟨o,sQ h rfl⟩|exact⟨true,sQ h rfl⟩|(cases o;exact⟨false,sQ h rfl⟩;exact⟨true,sQ h rfl⟩))
  (by cases p<;>cases q<;>first|exact⟨o,sQ h rfl⟩|exact⟨false,sQ h rfl⟩|(cases o;exact⟨false,sQ h rfl⟩;exact⟨true,sQ h rfl⟩))
theorem U8(h:σ[t]?=some (.dct (tK (if x==0 then some D else p) (if x==0 then q else some D) o) (tV (if x==0 then some D else p) (if x==0 then q else some D) o)))(hx:x=0\/x=1):Is (tZ (.ref t) (.int x)) σ D:=sQ h
 (tC (P:=λx=>To (yE (.int x) (.dct (tK (if x==0 then some D else p) (if x==0 then q else some D) o) (tV (if x==0 then some D else p) (if x==0 then q else some D) o))) σ D σ) hx (by cases q<;>cases o<;>rfl) (by cases p<;>cases o<;>rfl))
set_option tactic.hygienic true in
theorem NQ(B:Bx σ b t L)(J:uH l):W (sC prog (d+4) 39 [.ref b,sF l]) σ λv σ1=>v= .bool ((L l.1).any (says l))/\Bx σ1 b t (upd L l)/\Fr [t] σ σ1:=by
 have hs:=F8 (d:=d) B J
 have sub:=λx (hx:x=0\/x=1)=>(show upd L l x∈subs by
  unfold upd;split
  ·rename_i e
   rw[eq_of_beq e];exact HV (B.sub J.x) J
  ·exact B.sub hx)
 have an:=NP (l:=l) (B.sub J.x) J;obtain⟨ne,hb,hd,d0,d1,_,_⟩:=B;obtain⟨o',e⟩:=XM (D:=dV ((L l.1).filter (says l))) hd J.x;have U:=λob=>(ew (l:=σ) (a:=ob) (bz ne)).trans hb;have hd1:=λob=>du (l:=σ) (a:=ob) (xx hd);refine vG Ih rfl rfl (Eo hs (tL rfl (tr hb rfl)) rfl e (tX (zc (sG (tL rfl (tr (U _) rfl)) rfl (U8 (hd1 _) J.x)) (sX Jw (Enc.iv.tup.ne (k:=6) rfl _ []))) (W.of rfl ⟨by rw[an], .mk ne (U _) (hd1 _) ?_ ?_ (sub 0 (.inl rfl)) (sub 1 (.inr rfl)), .set (.inl (.head _)) .rfl⟩)))
 ·refine tC (P:=λx=>l.1=x->_) J.x (λe=> ?_) (λe=> ?_) rfl<;>(unfold upd;rw[e])
  ·rfl
  ·exact d0
 ·refine tC (P:=λx=>l.1=x->_) J.x (λe=> ?_) (λe=> ?_) rfl<;>(unfold upd;rw[e])
  ·exact d1
  ·rfl
noncomputable def zB(L:ae->O ae):O sr->ax (ae->O ae)
 |[]=>some L
 |l::ls=>if(L l.1).any (says (neg l)) then zB (upd L (neg l)) ls else none
theorem Ly(B:Bx σ b t L)(c:O sr)(hc:∀ l∈c,yt l):W (sC prog (d+5) 40 [.ref b,ud c]) σ λv σ1=>v= .bool (zB L c).isSome/\(∀ M,zB L c=some M->Bx σ1 b t M)/\Fr [t] σ σ1:=
 vG Gh rfl rfl (xX (x8 rfl rfl) (W.loop (g:=sF) (I:=λys l σ1=>∃ o M,l=[some (.ref b),some (ud c),o]/\Bx σ1 b t M/\zB M ys=zB L c/\(∀ l∈ys,yt l)/\Fr [t] σ σ1)
  (λy ys l σ1 ⟨o,M,J,B,hr,hy,fr⟩=>by
   subst J;have k:=hy y (.head _);refine(NQ (d:=d) B k.ng).elim λv σ2 e q=> ?_;obtain⟨rfl,U,f2⟩:=q;refine wO rfl (BA (uW (xM rfl B.inst (es1 (ue (es1 rfl) (XL k.ok.s))) e)) ?_);have hr:(if(M y.1).any (says (neg y)) then zB (upd M (neg y)) ys else none)=zB L c:=hr
   cases h:(M (neg y).1).any (says (neg y)) with
   |true=>
    rw[show(M y.1).any (says (neg y))=true from h] at hr
    exact .of (a:= .next _) rfl (.of (a:= .next _) rfl ⟨_,_,rfl,U,hr,λl J=>hy l (.tail _ J),fr.trans f2⟩)
   |false=>
    rw[show(M y.1).any (says (neg y))=false from h] at hr
    exact .of (a:= .ret _) rfl (.of (a:= .ret (.bool false)) rfl (.of (a:= .ret _) rfl (.of (a:= .bool false) rfl ⟨by rw[<-hr];rfl,λM e=>(by rw[<-hr] at e;cases e),fr.trans f2⟩))))
  (λl σ1 ⟨o,M,J,B,hr,_,fr⟩=>tX rfl (.of (a:= .bool true) rfl ⟨by rw[<-hr];rfl,λN e=>(by rw[<-hr] at e;cases e;exact B),fr⟩)) c _ σ ⟨none,L,rfl,B,rfl,hc, .rfl⟩))
end
end
section
noncomputable def pick(L:ae->O ae)(k:(ae->O ae)->aj):O sr->aj
 |[]=>true
 |l::t=>match t with
  |[]=>k (upd L l)
  |_::_=>false
noncomputable def v7:O (O sr)->(ae->O ae)->aj
 |[],_=>false
 |y::r,L=>if y.any λl=>(L l.1).all (says l) then v7 r L else pick L (v7 r) (y.filter λl=>(L l.1).any (says l))
theorem Ev{ι:Type}[eh ι](p:ι->aj)(xs:O ι):(!decide (xs.filter p=[]))=xs.any p:=by
 have z:=yN p xs;cases h:xs.filter p with
 |nil=>rw[h] at z;exact(av not z).trans (dR _)
 |cons x t=>rw[h] at z;rw[cn (lB x t)];exact(av not z).trans (dR _)
theorem uA{n:aa}(h:n<=1000):decide (n<=lim)=true:=aX (aw h (by decide))
section
variable{σ σ1 σ2:Ob}{X:O aa}{r t:aa}{xs:O V}{v:V}{c:aj}
theorem Fr.own(h:Fr X σ σ1)(k:Fr [t] σ1 σ2)(n:σ.length<=t):Fr X σ σ2:=⟨aw h.len k.len,λr a b=>(k.at_ r (bw a h.len) λe=>aC (aR.mp e▸a) (cm.mpr n)).trans (h.at_ r a b)⟩
theorem Fr.more{τ:Ob}(h:Fr X σ σ1):Fr X σ (σ1++τ):=h.trans .app
theorem HW(h:xs.length<=1000):Is (BI xs) σ (.int xs.length):=by show M.guard _ _ σ=_;rw[uA h];rfl
theorem HX(h:σ[r]?=some (.lst xs))(k:xs.length<=1000):Is (tN .len [.ref r]) σ (.int xs.length):=sQ (f:=λo=>M.bind (wq o) BI) h (HW k)
theorem PH{a b:ae}:Is (uC .Gt (.int a) (.int b)) σ (decide (a>b)):=rfl
theorem HY(h:σ[r]?=some (.lst xs))(k:Is (yD (.lst xs) v) σ c):Is (yD (.ref r) v) σ c:=M.then (m:=wa (.ref r)) (a:= .lst xs) (f:=λa=>M.bind (wa v) λb=>Dp a b) (sQ (f:=λo=>M.bind (wq o) λxs=>M.pure (V.lst xs)) h rfl) k
theorem Bx.app{b:aa}{L:ae->O ae}{τ:Ob}(B:Bx σ b t L):Bx (σ++τ) b t L:=B.casesOn λne J U d0 d1 s0 s1=> .mk ne ((dq (xx J)).trans J) ((dq (xx U)).trans U) d0 d1 s0 s1
theorem v8{a:O (aa×V)}{τ:Ob}{c n:aa}(h:(decide (c<=3)&&decide (a.length<=64))=true):To (uY (.ref σ.length) n v) (σ++ .inst c a::τ) () (σ++ .inst c (putAt a n v)::τ):=sQ wW (by
 show M.guard (decide (c<=3)&&decide (a.length<=64)) _ _=_;rw[h];show some ((),(σ++_).set σ.length _)=_;rw[gy _ _ (aU _),dG];rfl)
theorem len_one{o:sv}:(σ++[o]).length=σ.length+1:=bv
theorem Lz{d:aa}(D:V):To (sC prog (d+1) 35 [.ref σ.length,D]) (σ++[.inst 1 []]) .none (σ++[.inst 1 [(0,D),(1, .ref (σ.length+1))], .dct [] []]):=
 (show W (sC prog (d+1) 35 [.ref σ.length,D]) (σ++[.inst 1 []]) λv σ1=>v= .none/\σ1=σ++[.inst 1 [(0,D),(1, .ref (σ.length+1))], .dct [] []] from
  vG Gg rfl rfl (zb (v:=D) (u:= .ref σ.length) (σ1:=σ++[sv.inst 1 []]) rfl rfl (v8 rfl) (wA (v:= .ref (σ.length+1)) (l1:=[some (.ref σ.length),some D]) (σ1:=σ++[sv.inst 1 [(0,D)],sv.dct [] []]) (by
   show some (V.ref (σ++[sv.inst 1 [(0,D)]]).length,_)=_;rw[len_one];exact av (λx=>some (_,x)) (cf σ [_] [_])) (M.then (m:=rZ (sC prog d) (.var 0) [some (.ref σ.length),some D]) (a:= .ref σ.length) (σ1:=σ++[sv.inst 1 [(0,D)],sv.dct [] []]) (f:=λo=>M.bind (uY o 1 (.ref (σ.length+1))) λz=>M.pure [some (.ref σ.length),some D]) rfl (M.then (v8 rfl) rfl)) (.of (a:= .next _) rfl (.of (a:= .none) rfl ⟨rfl,rfl⟩))))).elim λv σ1 e q=>by rw[q.1,q.2] at e;exact e
theorem NR{L:ae->O ae}(h0:L 0∈subs)(h1:L 1∈subs):Bx (σ++[.inst 1 [(0, .lst [dV (L 0),dV (L 1)]),(1, .ref (σ.length+1))], .dct [] []]) σ.length (σ.length+1) L:= .mk (p:=none) (q:=none) (o:=false) (bu (eW _)) wW (by
 rw[di (cU _),mj (aU _),dG];rfl) rfl rfl h0 h1
end
end
section
def Cw(ls:O (O sr)):Prop:=∀ y∈ls,y.length<=8/\∀ l∈y,uH l
inductive EU(St:(ae->O ae)->Ob->Prop)(Lc:Loc->Prop)(P:Ob->Prop)(M:ae->O ae)(y:O sr):XR->Ob->Prop
 |next {l:Loc} {σ:Ob} {N:ae->O ae} (h:Lc l) (s:St N σ) (e:∀ r,v7 (y::r) M=v7 r N):EU St Lc P M y (.next l) σ
 |cont {l:Loc} {σ:Ob} (h:Lc l) (s:St M σ) (e:∀ r,v7 (y::r) M=v7 r M):EU St Lc P M y (.cont l) σ
 |ret {v:aj} {σ:Ob} (s:P σ) (e:∀ r,v7 (y::r) M=v):EU St Lc P M y (.ret (.bool v)) σ
theorem GX{St:(ae->O ae)->Ob->Prop}{Lc:Loc->Prop}{P:Ob->Prop}{F:Fn}{b:O MS}{i:aa}{l:Loc}{σ:Ob}{M:ae->O ae}{e:ME}{ls:O (O sr)}(hi:Is (rZ F e l) σ (.lst (ls.map ud)))(U:∀ M σ,St M σ->P σ)
  (turn:∀ y M l σ,y.length<=8->(∀ l∈y,uH l)->Lc l->St M σ->W (uS (sO F (.var i)) (r8 F b) l (ud y)) σ (EU St Lc P M y)) (J:Lc l) (hs:St M σ) (ok:Cw ls):
  W (r8 F [.ua (.var i) (.e e) b, .ret (.c (.bool false))] l) σ λx σ1=>x= .ret (.bool (v7 ls M))/\P σ1:=
 xX (x8 hi rfl) (W.loop (I:=λys l σ=>Lc l/\∃ N,St N σ/\Cw ys/\v7 ls M=v7 ys N) (λy ys l σ ⟨J,N,hs,ok,e⟩=>(turn y N l σ (ok y (.head _)).1 (ok y (.head _)).2 J hs).mono λx σ1 q=>by
   cases q with
   |next h s k=>exact⟨h,_,s,λz hz=>ok z (.tail _ hz),e.trans (k ys)⟩
   |cont h s k=>exact⟨h,_,s,λz hz=>ok z (.tail _ hz),e.trans (k ys)⟩
   |ret s k=>exact .of (a:= .ret _) rfl ⟨by rw[e,k ys],s⟩)
  (λl σ ⟨J,N,hs,ok,e⟩=>tX rfl ⟨by rw[e];rfl,U N σ hs⟩) ls l σ ⟨J,M,hs,ok,rfl⟩)
section
variable{d:aa}{M:ae->O ae}{y:O sr}
theorem LA(h:(y.any λl=>(M l.1).all (says l))=true)(r:O (O sr)):v7 (y::r) M=v7 r M:=aN h
theorem IW(h:(y.any λl=>(M l.1).all (says l))=false)(r:O (O sr)):v7 (y::r) M=pick M (v7 r) (y.filter λl=>(M l.1).any (says l)):=aI (by rw[h];decide)
noncomputable def SG:O MS:=match xb.body with
 |_::_::s::_=>(match s with| .ua _ _ b=>b|_=>[])
 |_=>[]
theorem EV{σ:Ob}{F:Fn}{l:Loc}{e:ME}{own:aa}{p:sr->aj}{t:ME}(hi:Is (rZ F e (l.set own none)) σ (ud y))(J:decide (own<l.length)=true)(hc:∀ z∈y,Is (sN F t (l.set own (some (sF z)))) σ (p z))(hn:y.length<=8):Is (rZ F (.comp [own] (.var own) [.g (.var own) (.e e) [t]]) l) σ (.lst ((y.filter p).map sF)):=
 BB p (x8 hi rfl) J hc (uA (aw hn (by decide)))
theorem PJ{b t:aa}{v0 v1 v2:V}{vZ:Ob}(h0:vZ.length<=t)(y:O sr)(M:ae->O ae)(l:Loc)(σ:Ob)(hn:y.length<=8)(hy:∀ l∈y,uH l)(hl:∃ o4 o5,l=[some v0,some v1,some v2,some (.ref b),o4,o5,none,none])(hs:Bx σ b t M/\Fr [] vZ σ):
  W (uS (sO (sC prog (d+4)) (.var 4)) (r8 (sC prog (d+4)) SG) l (ud y)) σ (EU (λM σ=>Bx σ b t M/\Fr [] vZ σ) (λl=>∃ o4 o5,l=[some v0,some v1,some v2,some (.ref b),o4,o5,none,none]) (Fr [] vZ) M y):=by
 obtain⟨o4,o5,rfl⟩:=hl;have B:=hs.1;have fr:=hs.2;refine wO rfl (tS (sE (EV rfl rfl (λz hz=>xM rfl B.inst rfl (Lx B (hy z hz))) hn) (sX rfl (Enc.lit.lst.ne (k:=6) rfl _ []))) ?_);rw[Ev];cases ha:y.any λl=>(M l.1).all (says l) with
 |true=>exact .of (a:= .cont _) rfl (.of (a:= .cont _) rfl (.cont ⟨_,_,rfl⟩ ⟨B,fr⟩ (LA ha)))
 |false=>
  have GY:=IW ha;refine tO (Jv (EV rfl rfl (λz hz=>xM rfl B.inst rfl (MK B (hy z hz))) hn) rfl ?_);have J:∀ l∈y.filter (λl=>(M l.1).any (says l)),uH l/\(M l.1).any (says l)=true:=λl h=>⟨hy l (c9.mp h).1,(c9.mp h).2⟩;have hlen:(y.filter λl=>(M l.1).any (says l)).length<=8:=aw (fm _ _) hn;generalize (y.filter λl=>(M l.1).any (says l))=z at GY J hlen
  have U:=wW (σ:=σ) (o:= .lst (z.map sF)) (τ:=[]);refine tS (sE rfl (sX rfl (HY U (Enc.lit.lst.cmp (k:=6) rfl z [])))) ?_;have B1:=B.app (τ:=[.lst (z.map sF)]);have hlen:(z.map sF).length<=1000:=(aH _).symm▸aw hlen (by decide)
  have f1:Fr [] vZ (σ++[.lst (z.map sF)]):=fr.more;have gt:=sE (F:=sC prog (d+4)) (ops:=[.Gt]) (es:=[.c (.int 1)]) (l:=Loc.put (Loc.put [some v0,some v1,some v2,some (.ref b),o4,o5,none,none] 4 (ud y)) 5 (.ref σ.length)) (uc (t:= .len) (es:=[.var 5]) (vs:=[.ref σ.length]) rfl (HX U hlen)) (sX (y:= .int 1) rfl PH);cases z with
  |nil=>exact .of (a:= .ret _) rfl (.of (a:= .ret _) rfl (.ret f1 GY))
  |cons q z=>
   refine tO ?_;cases z with
   |nil=>
    have hq:=J q (.head _);refine(NQ (d:=d) B1 hq.1).elim λv σ2 e k=> ?_;obtain⟨rfl,B2,f2⟩:=k;rw[hq.2] at e
    exact BA (uJ gt (λx=>tP (uW (xM rfl B1.inst (es1 (sG rfl rfl (sQ U rfl))) e))) nofun) (.of (a:= .next _) rfl (.of (a:= .next _) rfl (.next ⟨_,_,rfl⟩ ⟨B2,f1.own f2 h0⟩ GY)))
   |cons q' z=>
    have hc:decide (((sF q::sF q'::z.map sF).length:ae)>1)=true:=aX (dz.mpr (gi (eU _)))
    exact tS (uJ (σ1:=σ++[.lst ((q::q'::z).map sF)]) (c1:=true) gt (λh=>aC (hc.symm.trans h) (by decide)) λx=>rfl) (by
     rw[show(decide _||true)=true from jU _]
     exact .of (a:= .ret _) rfl (.of (a:= .ret _) rfl (.ret f1 GY)))
end
end
section
noncomputable def td(L:ae->O ae)(c:O sr):ae->O ae:=λx=>(L x).filter λv=> !c.any λl=>l.1==x&&says l v
noncomputable def u6(L:ae->O ae)(c:O sr)(ls:O (O sr)):aj:=(td L c 0).isEmpty||((td L c 1).isEmpty||v7 ls (td L c))
theorem int_lt(a b:ae):decide (a>=b+1)= !decide (a<=b):=(d6.mpr (ae.lt_iff_add_one_le.symm.trans gP.symm)).trans (qa)
theorem U9(l:sr)(v:ae)(hs:l.2.1∈signs):says (neg l) v= !says l v:=by
 obtain⟨x,s,k⟩:=l;refine x0 (P:=λs=>says (neg (x,s,k)) v= !says (x,s,k) v) hs ?_ ?_ ?_ ?_
 ·show((v==k)==true)= !((v==k)==false);cases v==k<;>rfl
 ·exact int_lt v k
 ·show((v==k)==false)= !((v==k)==true);cases v==k<;>rfl
 ·exact(d6.mpr ⟨λ(h:v<=k - 1)=>gP.mpr (ae.lt_of_le_sub_one h),λh=>ae.le_sub_one_of_lt (gP.mp h)⟩).trans (qa)
theorem SH(L:ae->O ae)(l:sr)(c:O sr)(hs:l.2.1∈signs):td (upd L (neg l)) c=td L (l::c):=funext λx=>by
 show lC _ (if x==l.1 then _ else _)=_
 cases h:x==l.1 with
 |true=>
  rw[aN rfl,O.filter_filter];refine av (lC · _) (funext λv=> ?_)
  rw[U9 l v hs,dF,eq_of_beq h,bC,lD,qb,aj.and_comm]
 |false=>
  refine av (lC · _) (funext λv=> ?_)
  rw[dF,show(l.1==x)=false from(fJ ..).trans h,aj.false_and,fZ]
theorem Va{L:ae->O ae}{x:ae}(h:L x=[])(c:O sr):td L c x=[]:=by unfold td;rw[h];rfl
set_option tactic.hygienic true in
theorem HZ:∀ (c:O sr) {L:ae->O ae},(∀ l∈c,uH l)->L 0≠[]->L 1≠[]->zB L c=if(td L c 0).isEmpty||(td L c 1).isEmpty then none else some (td L c)
 |[],L,_,h0,h1=>by
  rw[show td L []=L from funext λx=>pT.mpr λy y=>rfl]
  cases q0:L 0 with
  |nil=>exact aC q0 h0
  |cons a b=>cases q1:L 1 with
   |nil=>exact aC q1 h1
   |cons c d=>rfl
 |l::c,L,hc,h0,h1=>by
  have U:=hc l (.head _);rw[<-SH L l c U.s];show(if(L l.1).any (says (neg l)) then zB (upd L (neg l)) c else none)=_
  have J:=yN (says (neg l)) (L l.1)
  have ne:∀ x,(x=0\/x=1)->(L l.1).any (says (neg l))=true->upd L (neg l) x≠[]:=λx hx q=>by
   unfold upd;split
   ·rename_i e
    rw[show x=l.1 from eq_of_beq e]
    exact λz=>by rw[z,q] at J;cases J
   ·exact tC (P:=λx=>L x≠[]) hx h0 h1
  cases q:(L l.1).any (says (neg l)) with
  |true=>exact HZ c (λz hz=>hc z (.tail _ hz)) (ne 0 (.inl rfl) q) (ne 1 (.inr rfl) q)
  |false=>
   have e:td (upd L (neg l)) c l.1=[]:=Va (by
    rw[q] at J
    show(if l.1==l.1 then _ else _)=_
    rw[bC];exact cR.mp J) c
   refine tC (P:=λx=>td (upd L (neg l)) c x=[]->(if false=true then zB (upd L (neg l)) c else none)=if(td (upd L (neg l)) c 0).isEmpty||(td (upd L (neg l)) c 1).isEmpty then none else some (td (upd L (neg l)) c)) U.x (λe=> ?_) (λe=> ?_) e<;>rw[e]
   ·rfl
   ·rw[show([]:O ae).isEmpty=true from rfl,jU];rfl
section
variable{d ck:aa}{σ:Ob}{L:ae->O ae}{c:O sr}{ls:O (O sr)}
theorem LC{τ:Ob}(h0:L 0∈subs)(h1:L 1∈subs)(J:L 0≠[])(n1:L 1≠[]):Is (uC .In (.tup []) (.lst [dV (L 0),dV (L 1)])) τ false:=by
 have p:∀ {x},L x∈subs->L x≠[]->¬[]=xk (L x):=λh n e=>n (cR.mp ((join_nil h).symm.trans (aX e.symm)));have z:=Enc.iv.tup.mem (k:=6) (σ:=τ) rfl [] [xk (L 0),xk (L 1)];exact Eq.mp (av (Is _ τ) (cn λh=>(aW.mp h).elim (p h0 J) λh=>p h1 n1 (aR.mp h))) z
theorem ML{a:O (aa×V)}(hk:σ[ck]?=some (.inst 3 a))(ha:a.lookup 0=some (.lst [dV (L 0),dV (L 1)]))(h0:L 0∈subs)(h1:L 1∈subs)(U:L 0≠[])(n1:L 1≠[])(hc:∀ l∈c,yt l)(hl:Cw ls):
  Is (sC prog (d+6) 55 [.ref ck,ud c, .lst (ls.map ud)]) σ (.bool (u6 L c ls)):=uU xb rfl rfl rfl (by
 refine vY (e_new (es1 (tL rfl (tr hk ha))) (Lz _)) rfl ?_;have B:=NR (σ:=σ) h0 h1;have fr:=Fr.app (X:=[]) (σ:=σ) (τ:=[.inst 1 [(0, .lst [dV (L 0),dV (L 1)]),(1, .ref (σ.length+1))], .dct [] []]);have J:=fr.get hk ba;generalize σ++[.inst 1 [(0, .lst [dV (L 0),dV (L 1)]),(1, .ref (σ.length+1))], .dct [] []]=σ1 at B fr J
 refine(Ly (d:=d) B c hc).elim λv σ2 e q=> ?_;obtain⟨rfl,q,f2⟩:=q;have f3:=fr.own f2 (cU _);rw[HZ c (λl h=>(hc l h).ok) U n1] at e q
 refine BA (uJ (sE Jw (sX (tL rfl (tr J ha)) (LC h0 h1 U n1))) (λz=>tP (uW (xM rfl B.inst rfl e))) nofun) ?_
 unfold u6;rw[<-qc];cases h:(td L c 0).isEmpty||(td L c 1).isEmpty with
 |true=>exact .of (a:= .ret _) rfl (.of (a:= .ret _) rfl ⟨rfl,f3⟩)
 |false=>
  rw[h] at q
  exact tO (GX (St:=λM σ1=>Bx σ1 σ.length (σ.length+1) M/\Fr [] σ σ1) (P:=Fr [] σ) (F:=sC prog (d+5)) (b:=SG) (i:=4) (e:= .var 2) rfl (λz z h=>h.2) (PJ (d:=d+1) (cU _)) ⟨_,_,rfl⟩ ⟨q _ rfl,f3⟩ hl))
end
end
section
noncomputable def aam:O MS:=match zW.body with
 |_::_::s::_=>(match s with| .ua _ _ b=>b|_=>[])
 |_=>[]
structure Lo(vZ:Ob)(r:aa)(M:ae->O ae)(σ:Ob):Prop where
 at_:σ[r]?=some (.lst [t9 (M 0),t9 (M 1)])
 len:∀ x,(x=0\/x=1)->(M x).length<=8
 fr:Fr [] vZ σ
theorem SI{ι:Type}[eh ι](p:ι->aj)(xs:O ι):decide ((xs.filter λv=> !p v)=[])=xs.all p:=by
 rw[qd,<-Ev,dR]
theorem SJ{ι:Type}[eh ι](p:ι->aj)(xs:O ι):decide (xs.filter p=[])= !xs.any p:=by
 rw[<-Ev,dR]
section
variable{d r:aa}{σ vZ:Ob}{M:ae->O ae}{l:sr}{x:ae}
theorem Lo.item(H:Lo vZ r M σ)(hx:x=0\/x=1):Is (tZ (.ref r) (.int x)) σ (t9 (M x)):=sQ H.at_ (tC (P:=λx=>To (yE (.int x) (.lst [t9 (M 0),t9 (M 1)])) σ (t9 (M x)) σ) hx rfl rfl)
theorem Lo.set(H:Lo vZ r M σ)(h0:vZ.length<=r)(hx:l.1=0\/l.1=1):∃ σ1,To (uL (.ref r) (.int l.1) (t9 ((M l.1).filter (says l)))) σ () σ1/\Lo vZ r (upd M l) σ1:=by
 refine⟨σ.set r (.lst [t9 (upd M l 0),t9 (upd M l 1)]),sQ H.at_ ?_,du (xx H.at_),λx hx=> ?_, .set (.inr h0) H.fr⟩
 ·unfold upd
  exact tC (P:=λz=>To (Ae r (.int z) (t9 ((M z).filter (says l))) (.lst [t9 (M 0),t9 (M 1)])) σ () (σ.set r (.lst [t9 (if(0:ae)==z then(M 0).filter (says l) else M 0),t9 (if(1:ae)==z then(M 1).filter (says l) else M 1)]))) hx rfl rfl
 ·unfold upd
  split
  ·exact aw (fm _ _) (H.len x hx)
  ·exact H.len x hx
theorem Jx{F:Fn}{l:Loc}{e t:ME}{own:aa}{xs:O ae}{p:ae->aj}(hi:Is (rZ F e (l.set own none)) σ (t9 xs))(J:decide (own<l.length)=true)(hc:∀ v,Is (sN F t (l.set own (some (.int v)))) σ (p v))(hn:xs.length<=8):Is (rZ F (.comp [own] (.var own) [.g (.var own) (.e e) [t]]) l) σ (t9 (xs.filter p)):=
 BB p (x8 hi rfl) J (λv z=>hc v) (uA (aw hn (by decide)))
theorem yO{xs:O V}(h:xs.length<=1000):Is (tN .len [.lst xs]) σ (.int xs.length):=HW h
theorem Vb{v0 v1 v2:V}(h0:vZ.length<=r)(y:O sr)(M:ae->O ae)(l:Loc)(σ:Ob)(hn:y.length<=8)(hy:∀ l∈y,uH l)(hl:∃ U o5 o6,l=[some v0,some v1,some v2,some (.ref r),U,o5,o6,none,none,none,none,none,none,none,none])(H:Lo vZ r M σ):
  W (uS (sO (sC prog (d+1)) (.var 4)) (r8 (sC prog (d+1)) aam) l (ud y)) σ (EU (Lo vZ r) (λl=>∃ U o5 o6,l=[some v0,some v1,some v2,some (.ref r),U,o5,o6,none,none,none,none,none,none,none,none]) (Fr [] vZ) M y):=by
 obtain⟨U,o5,o6,rfl⟩:=hl;refine wO rfl (tS (sE (EV (p:=λz=>(M z.1).all (says z)) rfl rfl (λz hz=> ?_) hn) (sX rfl (Enc.lit.lst.ne (k:=6) rfl _ []))) ?_)
 ·rw[<-SI]
  exact sE (Jx (sG rfl (sG (x:=sF z) rfl rfl rfl) (H.item (hy z hz).x)) rfl (λv=>uW (uu rfl (A6 (hy z hz).s v))) (H.len _ (hy z hz).x)) (sX rfl (Enc.int.lst.cmp (k:=7) rfl _ []))
 rw[Ev];cases ha:y.any λl=>(M l.1).all (says l) with
 |true=>exact .of (a:= .cont _) rfl (.of (a:= .cont _) rfl (.cont ⟨_,_,_,rfl⟩ H (LA ha)))
 |false=>
  have GY:=IW ha;refine tO (vM (EV (p:=λz=>(M z.1).any (says z)) rfl rfl (λz hz=> ?_) hn) rfl ?_)
  ·rw[<-Ev]
   exact sE (Jx (sG rfl (sG (x:=sF z) rfl rfl rfl) (H.item (hy z hz).x)) rfl (λv=>uu rfl (A6 (hy z hz).s v)) (H.len _ (hy z hz).x)) (sX rfl (Enc.int.lst.ne (k:=7) rfl _ []))
  have J:∀ l∈y.filter (λl=>(M l.1).any (says l)),uH l:=λl h=>hy l (c9.mp h).1;have hlen:(y.filter λl=>(M l.1).any (says l)).length<=8:=aw (fm _ _) hn;generalize (y.filter λl=>(M l.1).any (says l))=z at GY J hlen
  refine tS (sE rfl (sX rfl (Enc.lit.lst.cmp (k:=6) rfl z []))) ?_;have hlen:(z.map sF).length<=1000:=(aH _).symm▸aw hlen (by decide)
  cases z with
  |nil=>exact .of (a:= .ret _) rfl (.of (a:= .ret _) rfl (.ret H.fr GY))
  |cons q z=>
   refine tO (tS (sE (uc rfl (yO hlen)) (sX rfl PH)) ?_);cases z with
   |nil=>
    have hq:=J q (.head _);refine(H.set h0 hq.x).elim λσ1 sd=> ?_;have e:=sd.1;have H1:=sd.2;exact tO (vM rfl rfl (Eo (Jx (sG rfl rfl (H.item hq.x)) rfl (λv=>uu rfl (A6 hq.s v)) (H.len _ hq.x)) rfl rfl e (.of (a:= .next _) rfl (.next ⟨_,_,_,rfl⟩ H1 GY))))
   |cons q' z=>
    rw[show decide ((((q::q'::z).map sF).length:ae)>1)=true from aX (dz.mpr (gi (eU _)))]
    exact .of (a:= .ret _) rfl (.of (a:= .ret _) rfl (.ret H.fr GY))
theorem LD{L:ae->O ae}{c:O sr}{ls:O (O sr)}(h:∀ x,(x=0\/x=1)->(L x).length<=8)(hc:∀ l∈c,uH l)(hn:c.length<=8)(J:Cw ls):Is (sC prog (d+2) 27 [.lst [t9 (L 0),t9 (L 1)],ud c, .lst (ls.map ud)]) σ (.bool (u6 L c ls)):=uU zW rfl rfl rfl (by
 refine Jv (Dh (ys:=[0,1]) (g:=V.int) (h:=λx=>t9 (td L c x)) rfl rfl (λx hx=> ?_) rfl) rfl ?_
 ·have hx:x=0\/x=1:=(aW.mp hx).imp_right aR.mp
  refine Jx (sG rfl rfl (tC (P:=λx=>Is (tZ (.lst [t9 (L 0),t9 (L 1)]) (.int x)) σ (t9 (L x))) hx rfl rfl)) rfl (λv=> ?_) (h x hx);rw[<-SJ];exact sE (EV (p:=λl=>l.1==x&&says l v) rfl rfl (λz hz=>xZ (sE (sG (x:=sF z) rfl rfl rfl) (sX rfl rfl)) λy=>tP (uu rfl (A6 (hc z hz).s v))) hn) (sX rfl (Enc.lit.lst.cmp (k:=6) rfl _ []))
 have H:Lo σ σ.length (td L c) (σ++[.lst [t9 (td L c 0),t9 (td L c 1)]]):=⟨wW,λx hx=>aw (fm _ _) (h x hx), .app⟩;refine tS (sE rfl (sX rfl (sQ H.at_ (Enc.int.lst.mem (k:=7) rfl [] [td L c 0,td L c 1])))) ?_;have e:decide ([]∈[td L c 0,td L c 1])=((td L c 0).isEmpty||(td L c 1).isEmpty):=by cases td L c 0<;>cases td L c 1<;>rfl
 rw[e];unfold u6;rw[<-qc];cases h:(td L c 0).isEmpty||(td L c 1).isEmpty with
 |true=>exact .of (a:= .ret _) rfl (.of (a:= .ret _) rfl ⟨rfl,H.fr⟩)
 |false=>exact tO (GX (St:=Lo σ σ.length) (P:=Fr [] σ) (F:=sC prog (d+1)) (b:=aam) (i:=4) (e:= .var 2) rfl (λy y h=>h.fr) (Vb (aU _)) ⟨_,_,_,rfl⟩ H J))
end
end
section
abbrev Told:=aa×aa
def Ew:V:=tF [0,1]
noncomputable def H8(c:aa):ae:=[1, -1,2].getD (c%3) 0
def tG(p:Told):V:=match p.1 with
 |0=> .tup [.str 33,tF [1,H8 p.2],Ew, .int p.2]
 |1=> .tup [.str 34,tF [1,H8 p.2],Ew, .int p.2]
 |2=> .tup [.str 32,tF [1,H8 p.2],Ew, .int p.2]
 |3=> .tup [.str 9,Ew, .str 58]
 |4=> .tup [.str 55,Ew, .tup ((bg p.2).map λ(k:aa)=>tF [(k:ae),(((k+p.2)%3:aa):ae)])]
 |5=> .tup [.str 30,tF [0],tF [1]]
 |_=> .tup [.str 27,Ew]
noncomputable def x1:O Told:=[(3,0),(5,0),(6,0)]++(bg 5).flatMap λc=>[(0,c),(1,c),(2,c),(4,c)]
def tH(p:Told)(a b:ae):aj:=match p.1 with
 |0=>decide (a+H8 p.2*b<=p.2)
 |1=> !(a+H8 p.2*b==p.2)
 |2=>a+H8 p.2*b==p.2
 |3=> !(a==b)
 |4=>(bg p.2).any λ(k:aa)=>a==(k:ae)&&b==(((k+p.2)%3:aa):ae)
 |5=>decide (a<b)
 |_=>decide (a<=b)
def uB(t:Told)(A B:O ae):aj:=A.any λa=>B.any λb=>tH t a b
noncomputable def b4:O ae:=[0,1,2,3]
theorem LE:(x1.all λt=>GW 3 7 [tG t] Ew&&(V.plain 7 (tG t)&&(V.closed 0 (tG t)&&[0,1].all λa=>b4.all λb=>GW 2 22 [tG t,tF [a,b]] (.bool (tH t a b))&&GW 4 5 [tG t,tF [a,b]] (.bool (tH t a b)))))=true:=by decide+kernel
def NS(A B:V):O V->M V:=two λr x=>xq (λi=>sS (λk=>M.guard (i==1) (if k==0 then M.pure A else M.guard (k==1) (M.pure B))) x) r
def jS:Ob:=[.inst 2 [], .inst 1 []]
def GZ(o:ax (V×Ob))(v:V):aj:=match o with
 |some p=>p.2.length==2&&V.beq p.1 v
 |none=>false
def XN(t:Told)(A B:O ae):aj:=
 (!uB t A B&&GZ (BS (NS (dV A) (dV B)) 8 43 [.ref 0,tG t, .ref 1] jS) (.bool true))||
  (GZ (BS (NS (dV A) (dV B)) 8 43 [.ref 0,tG t, .ref 1] jS) (.bool false)&&GZ (BS (NS (dV A) (dV B)) 8 48 [.ref 0,tG t,Ew, .ref 1] jS) (.bool (uB t A B)))
noncomputable def As:O (O ae):=[[0],[1],[0,1]]
noncomputable def Bs:O (O ae):=[[0],[1],[0,1],[2],[0,2],[1,2],[0,1,2],[3],[1,3],[2,3],[1,2,3]]
def aan(t:Told):aj:=As.all λA=>Bs.all λB=>XN t A B
set_option maxHeartbeats 4000000 in
theorem SL:∀ t∈x1,aan t=true:=by
 unfold x1
 repeat (refine bj.mpr ⟨by decide+kernel, ?_⟩)
 exact λz h=>aC h ba
end
section
theorem H9{t:Told}(h:t∈x1):GW 3 7 [tG t] Ew=true/\V.plain 7 (tG t)=true/\V.closed 0 (tG t)=true:=have z:=rY (tU LE h);have y:=rY z.2;⟨z.1,y.1,(rY y.2).1⟩
section
variable{d j b t:aa}{σ:Ob}{L:ae->O ae}
theorem Vc{p:Told}(h:p∈x1):Is (sC prog (d+3) 7 [tG p]) σ Ew:=AL (H9 h).1 (cF _ _)
theorem BD{p:Told}(h:p∈x1){x y:ae}(hx:x=0\/x=1)(hy:y∈b4):Is (sC prog (d+2) 22 [tG p,tF [x,y]]) σ (.bool (tH p x y))/\Is (sC prog (d+4) 5 [tG p,tF [x,y]]) σ (.bool (tH p x y)):=
 have z:=rY (tU (tU (rY (rY (rY (tU LE h)).2).2).2 (aW.mpr (hx.imp_right aR.mpr))) hy)
 ⟨AL z.1 (cF _ _),AL z.2 (cF _ _)⟩
noncomputable def RJ{J U:O (aa×V)}(hj:σ[j]?=some (.inst 2 J))(hb:σ[b]?=some (.inst 1 U)):Rl where
 oS:=[2,1]
 vZ:=σ
 e:=λi=>if i==0 then j else b
 lt:=λi z=>by cases i==0;exact xx hb;exact xx hj
 inst:=λi c h=>by
  cases i with
  |zero=>cases h;exact⟨J,hj⟩
  |succ i=>cases i with
   |zero=>cases h;exact⟨U,hb⟩
   |succ i=>cases h
theorem XO{J U:V}{σ σ1:Ob}{v:V}{P:O V->Prop}(h:∀ k:ae,(k=0\/k=1)->v=(if k==0 then J else U)->σ1=σ->P [.ref 1, .int k])(args:O V):To (NS J U args) σ v σ1->P args:=by
 cases args with
 |nil=>intro e;cases e
 |cons r args=>cases args with
  |nil=>intro e;cases e
  |cons x args=>cases args with
   |cons _ _=>intro e;cases e
   |nil=>cases r with
    |ref i=>cases x with
     |int k=>
      intro e;have e:To (M.guard (i==1) (if k==0 then M.pure J else M.guard (k==1) (M.pure U))) σ v σ1:=e
      cases h1:i==1 with
      |false=>rw[h1] at e;cases e
      |true=>
       rw[h1] at e
       rw[show i=1 from eq_of_beq h1]
       cases h2:k==0 with
       |true=>
        rw[h2] at e
        have q:(J,σ)=(v,σ1):=aE e;exact h k (.inl (eq_of_beq h2)) (by rw[h2];exact(av fC q).symm) (av gj q).symm
       |false=>
        rw[h2] at e
        cases h3:k==1 with
        |false=>rw[h3] at e;cases e
        |true=>
         rw[h3] at e
         have q:(U,σ)=(v,σ1):=aE e;exact h k (.inr (eq_of_beq h3)) (by rw[h2];exact(av fC q).symm) (av gj q).symm
     |_=>intro e;cases e
    |_=>intro e;cases e
theorem XQ{a1 a2:O (aa×V)}(B:Bx σ b t L)(J:σ[j]?=some (.inst 2 a1))(U:σ[b]?=some (.inst 1 a2))(d:aa)(args:O V):v6 (RJ J U) (NS (dV (L 0)) (dV (L 1)) args) (sC prog (d+1) 36 ((RJ J U).vs args)):=λτ v σ1 n e=>
 XO (P:=λargs=>∃ yM,σ1=(RJ J U).sm yM/\v5 yM/\To (sC prog (d+1) 36 ((RJ J U).vs args)) ((RJ J U).big τ) ((RJ J U).v v) ((RJ J U).big yM)) (λk hk hv hs=>⟨τ,hs,n,by
  rw[show v=dV (L k) from hv.trans (tC (P:=λk=>(if k==0 then dV (L 0) else dV (L 1))=dV (L k)) hk rfl rfl),show(RJ J U).v (dV (L k))=_ from xN _ (Wx _)]
  exact Ax (B.app (τ:=τ.map _)) hk⟩) args e
set_option tactic.hygienic true in
theorem Ex{a1:O (aa×V)}(B:Bx σ b t L)(hj:σ[j]?=some (.inst 2 a1)){f:aa}{args:O V}{r:aj}(h:GZ (BS (NS (dV (L 0)) (dV (L 1))) 8 f args jS) (.bool r)=true){ar:O V}(ha:∀ U (J:σ[b]?=some (.inst 1 U)),(RJ hj J).vs args=ar):Is (sC prog (d+8) f ar) σ (.bool r):=by
 have ⟨U,J⟩:∃ U,σ[b]?=some (.inst 1 U):=B.casesOn λy J y y y y y=>⟨_,J⟩;unfold GZ at h
 split at h
 ·rename_i p e
  obtain⟨τ,e1,_,e2⟩:=PE (R:=RJ hj J) (XQ B hj J) 8 (d+8) f args (cF _ _) [] p.1 p.2 (λy h=>nomatch h) e
  have e3:τ=[]:=by
   have z:=av gx e1;rw[Rl.len,eq_of_beq (rY h).1] at z
   exact O.length_eq_zero_iff.mp (nL (n:=2) z.symm)
  subst e3;rw[ha U J,V.beq_eq _ (rY h).2] at e2
  exact(bY σ)▸e2
 ·exact ff h
theorem PK{a1:O (aa×V)}(B:Bx σ b t L)(U:σ[j]?=some (.inst 2 a1)){p:Told}(hp:p∈x1)(hA:L 0∈As)(hB:L 1∈Bs):
  ∃ r,Is (sC prog (d+8) 43 [.ref j,tG p, .ref b]) σ (.bool r)/\(r=true->uB p (L 0) (L 1)=false)/\(r=false->Is (sC prog (d+8) 48 [.ref j,tG p,Ew, .ref b]) σ (.bool (uB p (L 0) (L 1)))):=by
 have h:=tU (tU (SL p hp) hA) hB;have c:∀ {a2} (J:σ[b]?=some (.inst 1 a2)),(RJ U J).v (tG p)=tG p:=λJ=>xN _ (H9 hp).2.2;rcases gI.mp h with h|h
 ·exact⟨true,Ex B U (rY h).2 λa2 J=>by show[V.ref j,(RJ U J).v _,V.ref b]=_;rw[c],λz=>fO.mp (rY h).1,nofun⟩
 ·exact⟨false,Ex B U (rY h).1 λa2 J=>by show[V.ref j,(RJ U J).v _,V.ref b]=_;rw[c],nofun,λz=>Ex B U (rY h).2 λa2 J=>by show[V.ref j,(RJ U J).v _,_,V.ref b]=_;rw[c];rfl⟩
theorem Vd:(subs.all λM=>M.isEmpty||(Bs.contains M&&(As.contains M||M.any λv=> !(v==0||v==1))))=true:=by decide
theorem Wy{M:O ae}(h:M∈subs)(n:M≠[]):M∈Bs/\((∀ v∈M,v=0\/v=1)->M∈As):=by
 have z:=tU Vd h;rw[show M.isEmpty=false from jw.mpr λe=>n (cR.mp e),fZ] at z
 refine⟨df.mp (rY z).1,λk=>(gI.mp (rY z).2).elim df.mp λq=> ?_⟩;obtain⟨v,hv,e⟩:=ik.mp q;rcases k v hv with rfl|rfl<;>cases e
end
end
section
theorem zr{i:ae}(h:0<=i)(k:i<=1000):smallInt i=true:=by
 unfold smallInt;rw[aX (bK (by decide) h),aX (bK k (by decide))];rfl
theorem aao{σ:Ob}{a b:aa}(ha:a<=1000)(J:b<=1000):Is (AP .Mult (.int a) (.int b)) σ (.int ((a*b:aa):ae)):=by
 show M.guard (smallInt a&&smallInt b) _ σ=_;rw[zr (cQ a) (cB.mpr ha),zr (cQ b) (cB.mpr J),ae.natCast_mul];rfl
theorem SM{t:Told}{A B:O ae}(h:(A.isEmpty||B.isEmpty)=true):uB t A B=false:=by
 cases A with
 |nil=>rfl
 |cons a A=>cases B with
  |nil=>exact j4.mpr λz z=>b0
  |cons b B=>cases h
section
variable{d j:aa}{σ:Ob}{L:ae->O ae}{c:O sr}{p:Told}
theorem MM(J:σ[j]?=some (.inst 2 [(0, .lst [dV (L 0),dV (L 1)]),(2, .int 64)]))(h0:L 0∈subs)(h1:L 1∈subs)(n0:L 0≠[])(n1:L 1≠[])(hL:∀ v∈L 0,v=0\/v=1)(hp:p∈x1)(hc:∀ l∈c,yt l):
  Is (sC prog (d+9) 42 [.ref j,tG p,ud c]) σ (.bool (!uB p (td L c 0) (td L c 1))):=uU zg rfl rfl rfl (by
 refine vY (e_new (es1 (tL rfl (tr J rfl))) (Lz _)) rfl ?_;have B:=NR (σ:=σ) h0 h1;have fr:=Fr.app (X:=[]) (σ:=σ) (τ:=[.inst 1 [(0, .lst [dV (L 0),dV (L 1)]),(1, .ref (σ.length+1))], .dct [] []]);generalize σ++[.inst 1 [(0, .lst [dV (L 0),dV (L 1)]),(1, .ref (σ.length+1))], .dct [] []]=σ1 at B fr
 refine(Ly (d:=d+3) B c hc).elim λv σ2 e q=> ?_;obtain⟨rfl,q,f2⟩:=q;have f3:=fr.own f2 (cU _);have J:=f3.get J ba;rw[HZ c (λl h=>(hc l h).ok) n0 n1] at e q
 refine BA (uW (xM rfl B.inst rfl e)) ?_;clear e;cases h:(td L c 0).isEmpty||(td L c 1).isEmpty with
 |true=>rw[SM h];exact .of (a:= .ret _) rfl (.of (a:= .ret _) rfl ⟨rfl,f3⟩)
 |false=>
  rw[h] at q
  have B:=q _ rfl;have hL:∀ v∈td L c 0,v=0\/v=1:=λv hv=>hL v (c9.mp hv).1;have m0:td L c 0≠[]:=λz=>by rw[z] at h;cases h
  have m1:td L c 1≠[]:=λz=>by rw[z,lE] at h;cases h.2
  clear q h;generalize td L c=M at B hL m0 m1
  have s0:=B.sub (.inl rfl);have s1:=B.sub (.inr rfl);refine(PK (d:=d) B J hp ((Wy s0 m0).2 hL) (Wy s1 m1).1).elim λr sd=> ?_;have q1:=sd.1;have q2:=sd.2.1;have q3:=sd.2.2;have k0:(M 0).length<=1000:=aw (sub_len s0) (by decide)
  have k1:(M 1).length<=1000:=aw (sub_len s1) (by decide)
  have U:=λ{l:Loc} {e:ME} {x:ae} (hx:x=0\/x=1) (hl:l.get 3=some (.ref σ.length)) (he:Is (rZ (sC prog (d+8)) e l) σ2 (.int x))=>ym (f:=36) (a:= .var 3) (es:=[e]) (show Is (sM (l.get 3)) σ2 _ by rw[hl];rfl) B.inst (es1 he) (Ax (d:=d+7) B hx)
  refine tO (vM (ue rfl (Vc hp)) rfl (tS (uJ (sE Jw (sX (Dh (ys:=[0,1]) (g:=V.int) (h:=λx=>dV (M x)) rfl rfl (λx hx=>U ((aW.mp hx).imp_right aR.mp) rfl rfl) rfl) (LC s0 s1 m0 m1))) (λy=>tP (xM rfl (vx J) rfl q1)) nofun) ?_))
  cases r with
  |true=>rw[q2 rfl];exact .of (a:= .ret _) rfl (.of (a:= .ret _) rfl ⟨rfl,f3⟩)
  |false=>
   have mul:=λ{l:Loc} {x:ae} {n:aa} (hx:x=0\/x=1) (hl:l.get 3=some (.ref σ.length)) (h6:l.get 6=some (.int x)) (h5:l.get 5=some (.int n)) (hn:n<=1000) (k:(M x).length<=1000)=>xy (op:= .Mult) (a:= .var 5) (show Is (sM (l.get 5)) σ2 (.int n) by rw[h5];rfl) (ue (es1 (U (e:= .var 6) hx hl (show Is (sM (l.get 6)) σ2 _ by rw[h6];rfl))) (U7 (d:=d+6) (B.sub hx))) (aao hn k)
   have le:decide ((((1*(M 0).length*(M 1).length:aa)):ae)<=64)=true:=aX (cB.mpr (aw (lF (lF (aU 1) (sub_len s0)) (sub_len s1)) (by decide)))
   refine tO (vM rfl rfl (xX (vs:=[.int 0, .int 1]) rfl (.bind (wO rfl (vM (mul (.inl rfl) rfl rfl (n:=1) rfl (by decide) k0) rfl (.of (a:= .next _) rfl (.bind (wO rfl (vM (mul (.inr rfl) rfl rfl rfl (by rw[kb];exact k0) k1) rfl (.of (a:= .next _) rfl (.of (a:= .next _) rfl ?_)))))))))))
   exact tS (c:=true) (sE rfl (sX (tL rfl (tr J rfl)) (show Is (uC .LtE (.int ((1*(M 0).length*(M 1).length:aa):ae)) (.int 64)) σ2 true from av (λc=>some (c,σ2)) le))) (tX (aa6 (ym rfl (vx J) rfl (q3 rfl))) (.of (a:= .ret _) rfl ⟨rfl,f3⟩)))
end
end
section
structure sD where
 B:O ae
 sW:O Told
 goal:aa
noncomputable def F9:O (O ae):=[[0,1],[1,2],[0,1,2],[1,2,3],[0,2],[1,3]]
structure sD.Ok(S:sD):Prop where
 b:S.B∈F9
 t:∀ t∈S.sW,t∈x1
 n:S.sW.length<=3
 g:S.goal<=2
noncomputable def sD.L(S:sD):ae->O ae:=λx=>if x==0 then[0,1] else S.B
noncomputable def vd:aa->V
 |0=> .tup [.str 51, .none]
 |1=> .tup [.str 39, .int 1]
 |_=> .tup [.str 37, .int 1]
abbrev sD.doms(S:sD):V:= .lst [dV (S.L 0),dV (S.L 1)]
abbrev sD.tV(S:sD):V:= .lst (S.sW.map tG)
structure Ck(S:sD)(ck j:aa)(ext:O (aa×V))(σ:Ob):Prop where
 ck:σ[ck]?=some (.inst 3 ((0,S.doms)::(3,S.tV)::(4,vd S.goal)::(5, .ref j)::ext))
 jd:σ[j]?=some (.inst 2 [(0,S.doms),(2, .int 64)])
theorem XS:(F9.all λM=>subs.contains M&&(!M.isEmpty&&M.all λv=>b4.contains v))=true:=by decide
theorem zf{P:aa->Prop}{n:aa}(h:n<=2)(h0:P 0)(h1:P 1)(h2:P 2):P n:=by
 cases n with
 |zero=>exact h0
 |succ n=>cases n with
  |zero=>exact h1
  |succ n=>cases n with
   |zero=>exact h2
   |succ n=>exact aC h (jr (cF 3 n))
def LF(S:sD):ze->Prop
 |none=>cu
 |some p=>match p.2 with
  |none=>cu
  |some b=>(p.1=0\/p.1=1)/\b∈S.B
noncomputable def Dj:ze->aj
 |none=>false
 |some p=>p.2.isNone
noncomputable def BE(S:sD)(i:ae):ax Told:=if 0<=i then S.sW[i.toNat]? else none
def wX(S:sD)(c:O sr)(i:ae):aa:=match BE S i with
 |some t=>if uB t (td S.L c 0) (td S.L c 1) then 54 else 0
 |none=>43
def wY(S:sD)(c:O sr):ze->aa
 |none=>43
 |some p=>match p.2 with
  |none=>wX S c p.1
  |some _=>43
def EW(S:sD):ze->aj
 |none=>false
 |some p=>match p.2 with
  |none=>false
  |some b=>S.sW.all λt=>tH t p.1 b
noncomputable def yb(goal:aa)(b:ae):sr:=if goal==1 then(1,2,b - 1) else(1,4,b+1)
noncomputable def yP(S:sD)(c:O sr)(b:ae):aj:= !(S.goal==0)&&decide (c=[yb S.goal b])
section
variable{d ck j:aa}{σ:Ob}{S:sD}{ext:O (aa×V)}{F:Fn}{l:Loc}{e e2:ME}{k n:ae}
theorem sD.Ok.sub(h:S.Ok):S.B∈subs/\S.B≠[]/\∀ v∈S.B,v∈b4:=
 have z:=rY (tU XS h.b)
 ⟨df.mp z.1,λe=>aC (rY z.2).1 (by rw[e];decide),λv hv=>df.mp (tU (rY z.2).2 hv)⟩
theorem zT(n:ze):Is (sC prog (d+1) 18 [ui n]) σ (.bool (Dj n)):=uU Gf rfl rfl rfl (W.of (by
 rcases n with _|⟨a,_|b⟩
 ·show _=some (XR.ret (.bool false),σ);kernel_rfl
 ·show _=some (XR.ret (.bool true),σ);kernel_rfl
 ·show _=some (XR.ret (.bool false),σ);kernel_rfl) ⟨rfl, .rfl⟩)
theorem Ay(n:ze):Is (sC prog (d+1) 25 [ui n]) σ (.bool (Dj n)):=uU yX rfl rfl rfl (W.of (by
 rcases n with _|⟨a,_|b⟩
 ·show _=some (XR.ret (.bool false),σ);kernel_rfl
 ·show _=some (XR.ret (.bool true),σ);kernel_rfl
 ·show _=some (XR.ret (.bool false),σ);kernel_rfl) ⟨rfl, .rfl⟩)
theorem EX{es:O ME}(h:Is (sN F e l) σ true):Is (sN F (.bool false (e::es)) l) σ true:=uJ (c1:=true) h nofun λz=>rfl
theorem BF{es:O ME}(h:Is (sN F e l) σ false):Is (sN F (.bool true (e::es)) l) σ false:=xZ (c1:=true) h nofun
theorem within(h:Is (rZ F e l) σ (.int k))(h2:Is (rZ F e2 l) σ (.int n)):Is (sN F (.not (.cmp (.c (.int 0)) [.LtE, .Lt] [e,e2])) l) σ (!(decide (0<=k)&&decide (k<n))):=uW (sE (x:= .int 0) rfl (ch2 h rfl h2 rfl))
theorem yC{xs:O V}{k:aa}{v:V}(h:xs[k]?=some v)(hk:k<=1000):Is (tZ (.lst xs) (.int k)) σ v:=by
 show M.guard (smallInt k) (sM (atIdx xs k)) σ=_;rw[zr (cQ k) (cB.mpr hk)];unfold atIdx DA;rw[aN (cQ k)];show sM xs[(k:ae).toNat]? σ=_;rw[b6,h];rfl
theorem aap{b h rest:O MS}{Q:XR->Ob->Prop}(q:W (r8 F b l) σ λx σ2=>W (XR.xt (r8 F rest) x) σ2 Q):W (r8 F (.DF b h::rest) l) σ Q:=A4 q
set_option tactic.hygienic true in
theorem G0(J:S.Ok)(K:Ck S ck j ext σ){c:O sr}(hc:∀ l∈c,yt l)(n:ze):Is (sC prog (d+10) 54 [.ref ck,ud c,ui n]) σ (.str (wY S c n)):=uU ut rfl rfl rfl (by
 have U:=uW (uu (F:=sC prog (d+9)) (l:=uZ ut [.ref ck,ud c,ui n]) (es:=[.var 2]) rfl (zT (d:=d+8) (σ:=σ) n))
 have out:Dj n=false->wY S c n=43->W (r8 (sC prog (d+9)) ut.body (uZ ut [.ref ck,ud c,ui n])) σ (Rt σ (.str (wY S c n))):=λh1 h2=>by
  rw[h1] at U
  exact tS (EX U) (.of (a:= .ret _) rfl (.of (a:= .ret _) rfl ⟨by rw[h2], .rfl⟩))
 rcases n with _|⟨i,_|b⟩
 ·exact out rfl rfl
 ·clear out
  have nn:S.sW.length<=1000:=aw J.n (by decide)
  refine tS (uJ U (λy=>tP (within (k:=i) rfl (uc (es1 (tL rfl (tr K.ck rfl))) (yO (by rw[aH];exact nn))))) nofun) ?_
  rw[aH];show W _ σ _
  by_cases hi:0<=i/\i<S.sW.length
  ·rw[aX hi.1,aX hi.2]
   obtain⟨k,rfl⟩:=ip hi.1;have hk:k<S.sW.length:=dz.mp hi.2;have ht:BE S (k:ae)=some S.sW[k]:=(aN hi.1).trans (br hk);have hf:=MM (d:=d) (σ:=σ) (L:=S.L) K.jd (show[0,1]∈subs by decide) J.sub.1 (lB _ _) J.sub.2.1 (show ∀ v∈[0,1],v=0\/v=1 by decide) (J.t _ (eR hk)) hc
   refine tO (aap (tX (vO (xM (tL rfl (tr K.ck rfl)) (vx K.jd) (tq (sG (tL rfl (tr K.ck rfl)) rfl (yC (v:=tG S.sW[k]) (by rw[ca,br hk];rfl) (aw (bB hk) nn))) rfl) hf) ?_) (.of (a:= .ret (.str (wY S c (some ((k:ae),none))))) rfl ⟨rfl, .rfl⟩)))
   show Is _ σ (V.str (wX S c k));unfold wX;rw[ht];show Is _ σ (V.str (if uB _ _ _ then 54 else 0))
   cases uB S.sW[k] (td S.L c 0) (td S.L c 1)<;>rfl
  ·have e:(decide (0<=i)&&decide (i<S.sW.length))=false:=by rw[<-jm,ef,fy,fy];exact hi
   rw[e]
   have ht:BE S i=none:=by
    unfold BE;split
    ·rename_i h
     exact d9 (ec λz=>hi ⟨h,(f6 h).mp z⟩)
    ·rfl
   exact .of (a:= .ret _) rfl (.of (a:= .ret _) rfl ⟨by show _=XR.ret (.str (wX S c i));unfold wX;rw[ht], .rfl⟩)
 ·exact out rfl rfl)
end
end
section
noncomputable def NT(a b:sr):aj:=if a.1==b.1 then(if a.2.1==b.2.1 then decide (a.2.2<b.2.2) else decide (a.2.1<b.2.1)) else decide (a.1<b.1)
noncomputable def Dk:O sr->O sr
 |[]=>[]
 |a::r=>match r with
  |[]=>[a]
  |b::r'=>match r' with
   |[]=>if a=b then[a] else if NT a b then[a,b] else[b,a]
   |_::_=>a::r
noncomputable def vD(c:O sr):aj:=decide (c=Dk c)
theorem XT(a b:sr):V.beq (sF a) (sF b)=decide (a=b):=Enc.lit.eq a b
section
variable{d ck j:aa}{σ:Ob}{S:sD}{ext:O (aa×V)}{F:Fn}{l:Loc}{c:O sr}
theorem XU(h:c.length<=2):w8 (dedup [] (c.map sF))=(Dk c).map sF:=by
 rcases c with _|⟨a,_|⟨b,_|⟨x,r⟩⟩⟩
 ·rfl
 ·rfl
 ·show w8 (if([sF a].any (V.beq (sF b))) then dedup [sF a] [] else dedup ([sF a]++[sF b]) [])=eJ sF (if a=b then[a] else if NT a b then[a,b] else[b,a])
  rw[dF,XT,pv,dI]
  by_cases e:a=b
  ·rw[aN e,aX e.symm];rfl
  ·rw[aI e,cn λz=>e z.symm]
   show(if NT a b then[sF a,sF b] else sF b::[sF a])=_
   cases NT a b<;>rfl
 ·exact aC h (jr (cF 3 r.length))
theorem IX(h:c.length<=2){σ:Ob}:Is (CI (c.map sF)) σ (.lst ((Dk c).map sF)):=by
 show M.guard _ _ σ=_;rw[XU h,aH,aX h,show(c.map sF).all isLit=true by rw[fz];exact bh.mpr λz z=>rfl];rfl
theorem NU{xs:O V}(h:xs.length<=1000):Is (tN .list [.tup xs]) σ (.lst xs):=by show M.guard _ _ σ=_;rw[uA h];rfl
theorem tup_is{xs:O V}(h:xs.length<=1000):Is (tN .tuple [.lst xs]) σ (.tup xs):=by show M.guard _ _ σ=_;rw[uA h];rfl
theorem LG{n:aa}(h:c.length<=n)(k:n<=1000):(c.map sF).length<=1000:=(aH _).symm▸aw h k
theorem Fs{i k:aa}{b:O MS}(mk:ax V->Loc)(h0:Is (rZ F (.var k) (mk none)) σ (ud c))(h1:∀ o,Is (rZ F (.var k) (mk o)) σ (ud c))(hn:c.length<=2)(U:∀ y∈c,∀ o,W (uS (sO F (.var i)) (r8 F b) (mk o) (sF y)) σ λx σ1=>σ1=σ/\∃ o,x= .next (mk o)):
  W (r8 F [.ua (.var i) (.e (.var k)) b, .ret (.cmp (.bt .list [.var k]) [.Eq] [.bt .u7 [.var k]])] (mk none)) σ (Rt σ (.bool (vD c))):=
 xX (x8 h0 rfl) (W.loop (g:=sF) (I:=λys l σ1=>(∃ o,l=mk o)/\σ1=σ/\∀ y∈ys,y∈c) (λy ys l σ1 ⟨⟨o,J⟩,hs,hy⟩=>by
   subst J hs;exact(U y (hy y (.head _)) o).mono λx σ2 ⟨e,o',e'⟩=>by subst e' e;exact⟨⟨o',rfl⟩,rfl,λz hz=>hy z (.tail _ hz)⟩)
  (λl σ1 ⟨⟨o,J⟩,hs,_⟩=>by
   subst J hs;exact tX (zc (uc (es1 (h1 o)) (NU (LG hn (by decide)))) (sX (uc (es1 (h1 o)) (IX hn)) (Enc.lit.lst.cmp (k:=6) rfl _ _))) ⟨rfl, .rfl⟩) c _ σ ⟨⟨none,rfl⟩,rfl,λy h=>h⟩)
theorem NV{s:aa}(h:s∈signs):Is (uC .NotIn (.str s) (.tup [.str 2, .str 4, .str 3, .str 1])) σ false:=x0 (P:=λs=>Is (uC .NotIn (.str s) (.tup [.str 2, .str 4, .str 3, .str 1])) σ false) h rfl rfl rfl rfl
theorem Jf(hc:∀ l∈c,uH l)(hn:c.length<=2):Is (sC prog (d+1) 26 [ud c]) σ (.bool (vD c)):=uU Bf rfl rfl rfl
 (Fs (i:=1) (k:=0) (λo=>[some (ud c),o]) rfl (λz=>rfl) hn λy hy o=>wO rfl (tS (uJ (sE (sG (x:=sF y) rfl rfl rfl) (sX rfl (tC (P:=λx=>Is (uC .NotIn (.int x) (.tup [.int 0, .int 1])) σ false) (hc y hy).x rfl rfl))) (λz=>tP (sE (sG (x:=sF y) rfl rfl rfl) (sX rfl (NV (hc y hy).s)))) nofun)
  (.of (a:= .next _) rfl (.of (a:= .next _) rfl ⟨rfl,_,rfl⟩))))
theorem LH(K:Ck S ck j ext σ)(hc:∀ l∈c,uH l)(hn:c.length<=2):Is (sC prog (d+2) 53 [.ref ck,ud c]) σ (.bool (vD c)):=uU ye rfl rfl rfl
 (tS (c:=false) rfl (tO (Fs (i:=2) (k:=1) (λo=>[some (.ref ck),some (ud c),o]) rfl (λz=>rfl) hn λy hy o=>wO rfl (by
  have w:=within (F:=sC prog (d+1)) (σ:=σ) (l:=[some (.ref ck),some (ud c),some (sF y)]) (e:= .item (.var 2) (.c (.int 0))) (e2:= .bt .len [.attr (.var 0) 0]) (k:=y.1) (n:=2) (sG (x:=sF y) rfl rfl rfl) (uc (es1 (tL rfl (tr K.ck rfl))) rfl);rw[tC (P:=λx=>(!(decide (0<=x)&&decide (x<2)))=false) (hc y hy).x rfl rfl] at w
  exact tS (uJ (c:=false) rfl (λz=>uJ (c:=false) rfl (λz=>uJ (uW (uu (es1 (sG (x:=sF y) rfl rfl rfl)) (zT (some (y.1,none))))) (λz=>tP (uW (uu (es1 (sG (x:=sF y) rfl rfl rfl)) (zT (some (y.2.2,none)))))) nofun) nofun) nofun)
   (tO (tS (uJ w (λz=>tP (sE (sG (x:=sF y) rfl rfl rfl) (sX rfl (NV (hc y hy).s)))) nofun) (.of (a:= .next _) rfl (.of (a:= .next _) rfl ⟨rfl,_,rfl⟩))))))))
end
end
section
noncomputable def uE(c:O sr):O ae:=c.map (·.1)
def xl:O (O sr)->V
 |[]=> .none
 |c::_=>tF (uE c)
noncomputable def pairAt(a b:ae)(x:ae):ae:=if x==0 then a else b
def xz(c:O sr)(a b:ae):O sr:=c.map λl=>(l.1,1,pairAt a b l.1)
noncomputable def xm(A:O (O sr))(c:O sr):aj:=match A with
 |[]=>true
 |c'::_=>decide (uE c=uE c')
def zC(S:sD)(A:O (O sr))(c:O sr)(a b:ae):aa×O (O sr):=
 if !(S.goal==0) then(24,A) else if !decide (c=xz c a b)|| !xm A c then(52,A) else if decide (c∈A) then(6,A) else(0,A++[c])
structure Cy(S:sD)(ck j an:aa)(A:O (O sr))(σ:Ob):Prop where
 K:Ck S ck j [(6,xl A),(7, .ref an)] σ
 at_:σ[an]?=some (.lst (A.map ud))
def wB(S:sD)(ck j an:aa)(σ:Ob)(w:aa×O (O sr))(v:V)(σ1:Ob):Prop:=v= .str w.1/\Cy S ck j an w.2 σ1/\Fr [ck,an] σ σ1
section
variable{d ck j an:aa}{σ:Ob}{S:sD}{ext:O (aa×V)}{F:Fn}{l:Loc}{c:O sr}{a b:ae}{A:O (O sr)}
theorem zU{x:ae}(h:x=0\/x=1):Is (tZ (ui (some (a,some b))) (.int x)) σ (.int (pairAt a b x)):=tC (P:=λx=>Is (tZ (ui (some (a,some b))) (.int x)) σ (.int (pairAt a b x))) h rfl rfl
theorem G1{ι:Type}{g:ι->V}{ys:O ι}(h:∀ y∈ys,V.plain 7 (g y)=true):Is (yD (.lst (ys.map g)) (.lst [])) σ ys.isEmpty:=by
 have p:V.plain 8 (.lst (ys.map g))=true:=by show(ys.map g).all (V.plain 7)=true;rw[fz];exact bh.mpr h
 show M.guard (V.plain 8 _&&true) _ σ=_;rw[p];cases ys<;>rfl
theorem IY(J:S.Ok)(p:Told->aj):Is (yD (.lst ((S.sW.filter λt=> !p t).map tG)) (.lst [])) σ (S.sW.all p):=by
 have z:=G1 (σ:=σ) (g:=tG) (ys:=S.sW.filter λt=> !p t) λt ht=>(H9 (J.t t (c9.mp ht).1)).2.1;rwa [yN,<-qd] at z
theorem LI(J:S.Ok)(K:Ck S ck j ext σ)(n:ze)(hn:LF S n):Is (sC prog (d+5) 56 [.ref ck,ui n]) σ (.bool (EW S n)):=uU yf rfl rfl rfl (by
 rcases n with _|⟨a,_|b⟩
 ·exact tS (c:=true) (EX rfl) (.of (a:= .ret _) rfl (.of (a:= .ret _) rfl ⟨rfl, .rfl⟩))
 ·exact tS (c:=true) (EX rfl) (.of (a:= .ret _) rfl (.of (a:= .ret _) rfl ⟨rfl, .rfl⟩))
 ·have turn:=λ{Q:XR->Ob->Prop} {o:ax V} {x v:ae} {M:O ae} (U:M∈subs) (hv:v∈M) (h1:Is (tZ S.doms (.int x)) σ (dV M)) (h2:Is (tZ (ui (some (a,some b))) (.int x)) σ (.int v)) (q:Q (.next [some (.ref ck),some (ui (some (a,some b))),some (.int x),none]) σ)=>
   wO (F:=sC prog (d+4)) (b:=[.if_ (.bool false [.not (.call 18 [.item (.var 1) (.var 2)]), .not (.call 10 [.item (.attr (.var 0) 0) (.var 2), .item (.var 1) (.var 2)])]) [.ret (.c (.bool false))] []]) (i:=2) (v:= .int x) (l:=[some (.ref ck),some (ui (some (a,some b))),o,none]) rfl
    (tS (uJ (uW (uu (es1 (sG rfl rfl h2)) (zT (some (v,none))))) (λz=>tP (uW (uu (tq (sG (tL rfl (tr K.ck rfl)) rfl h1) (es1 (sG rfl rfl h2))) (XK (d:=d+1) U hv)))) nofun) (.of (a:= .next _) rfl (.of (a:= .next _) rfl q)))
  refine tS (uJ (c:=false) rfl (λz=>tP (sE (x:= .int 2) (c:=false) rfl (sX (uc (es1 (tL rfl (tr K.ck rfl))) rfl) rfl))) nofun) (tO (xX (vs:=[.int 0, .int 1]) (by show _=some (_,_);kernel_rfl) ?_))
  refine W.bind (turn (M:=[0,1]) (v:=a) (by decide) (tC (P:=λx=>x∈[(0:ae),1]) hn.1 (.head _) (.tail _ (.head _))) rfl rfl ?_)
  refine W.bind (turn (M:=S.B) (v:=b) J.sub.1 hn.2 rfl rfl ?_);refine W.of (a:= .next _) rfl ?_;exact tX (zc (BB (g:=tG) (λt=> !tH t a b) (x8 (tL rfl (tr K.ck rfl)) rfl) rfl (λt ht=>uW (uu rfl (BD (J.t t ht) hn.1 (J.sub.2.2 b hn.2)).2)) (uA (aw J.n (by decide)))) (sX rfl (IY J _))) ⟨rfl, .rfl⟩)
theorem PL(hg:S.goal<=2)(K:Ck S ck j ext σ):Is (sC prog (d+1) 57 [.ref ck,ud c,ui (some (a,some b))]) σ (.str (if yP S c b then 0 else 13)):=uU uV rfl rfl rfl (by
 obtain⟨B,ts,g⟩:=S;have key:∀ g,Ck ⟨B,ts,g⟩ ck j ext σ->Is (wD (.ref ck) 4) σ (vd g):=λg K=>tr K.ck rfl;have cmp:=λq:sr=>Enc.lit.tup.cmp (σ:=σ) (k:=6) rfl c [q];have fin:∀ q:aj,Rt σ (.str (if q then 0 else 13)) (.ret (if q then .str 0 else .str 13)) σ:=λq=>⟨by cases q<;>rfl, .rfl⟩
 refine zf (P:=λg=>Ck ⟨B,ts,g⟩ ck j ext σ->W (r8 (sC prog d) uV.body (uZ uV [.ref ck,ud c,ui (some (a,some b))])) σ (Rt σ (.str (if yP ⟨B,ts,g⟩ c b then 0 else 13)))) hg (λK=> ?_) (λK=> ?_) (λK=> ?_) K
 ·exact wA (tL rfl (key _ K)) rfl (tS (c:=false) rfl (tO (tX (vO (c:=false) (BF rfl) rfl) ⟨rfl, .rfl⟩)))
 ·exact wA (tL rfl (key _ K)) rfl (tS (c:=true) rfl (tX (vO (sE rfl (sX rfl (cmp (1,2,b - 1)))) (v:=if decide (c=[(1,2,b - 1)]) then .str 0 else .str 13) (by cases decide (c=[(1,2,b - 1)])<;>rfl)) (.of (a:= .ret _) rfl (fin _))))
 ·exact wA (tL rfl (key _ K)) rfl (tS (c:=false) rfl (tO (tX (vO (xZ (c:=true) rfl λz=>tP (sE rfl (sX rfl (cmp (1,4,b+1))))) (v:=if decide (c=[(1,4,b+1)]) then .str 0 else .str 13) (by cases decide (c=[(1,4,b+1)])<;>rfl)) (fin _)))))
end
section
variable{d ck j an:aa}{σ:Ob}{S:sD}{ext:O (aa×V)}{F:Fn}{l:Loc}{c:O sr}{a b:ae}{A:O (O sr)}
theorem BG{i k:aa}{x y:sv}(h:σ[i]?=some x)(h2:σ[k]?=some y)(n:x≠y):i≠k:=λe=>n (aE (h.symm.trans (e▸h2)))
theorem G2{r:aa}{xs:O V}{v:V}(h:σ[r]?=some (.lst xs))(hn:xs.length<=1000):To (w9 .append (.ref r) [v]) σ .none (σ.set r (.lst (xs++[v]))):=sQ h (by
 show M.guard (decide (xs.length<lim)) _ σ=_;rw[aX (bH hn (by decide))];rfl)
theorem EY{F:Fn}{l:Loc}{own:aa}{e:ME}(hi:Is (rZ F e (l.set own none)) σ (ud c))(J:decide (own<l.length)=true)(hg:∀ y:sr,Loc.get (l.set own (some (sF y))) own=some (sF y))(hn:c.length<=2):Is (rZ F (.comp [own] (.item (.var own) (.c (.int 0))) [.g (.var own) (.e e) []]) l) σ (t9 (uE c)):=by
 have z:=Dh (F:=F) (σ:=σ) (l:=l) (e:= .item (.var own) (.c (.int 0))) (ys:=c) (g:=sF) (h:=λl=>V.int l.1) (x8 hi rfl) J (λy w=>sG (x:=sF y) (show sM _ σ=_ by rw[hg];rfl) rfl rfl) (uA (aw hn (by decide)))
 rwa [show c.map (λl=>V.int l.1)=(uE c).map V.int from(bR ..).symm] at z
theorem LJ{n:aa}(h:c.length<=n)(k:n<=1000):((uE c).map V.int).length<=1000:=by
 rw[aH];exact aw (eg (aH _) h) k
theorem Ve:Is (uC .NotIn (xl A) (.tup [.none,tF (uE c)])) σ (!xm A c):=by
 refine M.then (f:=λr=>M.pure (!r)) (a:=xm A c) (σ1:=σ) ?_ rfl;have p:∀ xs:O ae,V.plain 8 (tF xs)=true:=λxs=>Enc.int.tup.pl 7 xs;cases A with
 |nil=>
  show M.guard (true&&(true&&(V.plain 8 (tF (uE c))&&true))) _ σ=_;rw[p];rfl
 |cons J A=>
  show M.guard (V.plain 8 (tF (uE J))&&(true&&(V.plain 8 (tF (uE c))&&true))) (M.pure (false||(V.eqv (tF (uE c)) (tF (uE J))||false))) σ=_
  rw[p,p,Enc.int.tup.eq,dI];rfl
theorem XV(hc:∀ l∈c,uH l)(hn:c.length<=2):(uE c).map (λx=>sF (x,1,pairAt a b x))=(xz c a b).map sF:=by unfold uE xz;rw[bR,bR];rfl
theorem SO{r:aa}(h:σ[r]?=some (.lst (A.map ud))):Is (uC .In (ud c) (.ref r)) σ (decide (c∈A)):=sQ h (Enc.lit.tup.mem (k:=6) rfl c A)
theorem SP(h:xm A c=true):xl (A++[c])=tF (uE c):=by
 cases A with
 |nil=>rfl
 |cons J A=>exact av tF (aP h).symm
theorem Vf(hg:S.goal<=2)(H:Cy S ck j an A σ)(hA:A.length<=100)(hc:∀ l∈c,uH l)(hn:c.length<=2):W (sC prog (d+1) 58 [.ref ck,ud c,ui (some (a,some b))]) σ (wB S ck j an σ (zC S A c a b)):=vG x6 rfl rfl (by
 have K:=H.K;refine wm (P:=λw x σ1=>W (XR.val x) σ1 (wB S ck j an σ w)) (sE (sG (tL rfl (tr K.ck rfl)) rfl (y:= .int 0) (v:= .str (if S.goal==0 then 51 else if S.goal==1 then 39 else 37)) ?_) (sX rfl ?_)) (λz=> .of (a:= .str 24) rfl ⟨rfl,H, .rfl⟩) λhg=> ?_
 ·exact zf (P:=λg=>Is (tZ (vd g) (.int 0)) σ (.str (if g==0 then 51 else if g==1 then 39 else 37))) hg rfl rfl rfl
 ·exact zf (P:=λg=>Is (uC .NotEq (.str (if g==0 then 51 else if g==1 then 39 else 37)) (.str 51)) σ (!(g==0))) hg rfl rfl rfl
 refine vM (uc (es1 (EY (c:=c) rfl rfl (λz=>rfl) hn)) (tup_is (LJ hn (by decide)))) rfl ?_
 refine wm (P:=λw x σ1=>W (XR.val x) σ1 (wB S ck j an σ w)) (uJ (sE rfl (sX (uc (es1 (Dh (ys:=uE c) (g:=V.int) (h:=λx=>sF (x,1,pairAt a b x)) rfl rfl (λx hx=>vN (tq rfl (tq rfl (es1 (sG rfl rfl (zU ?_)))))) (uA ?_))) (tup_is ?_)) ?_)) (λz=>tP (sE (tL rfl (tr K.ck rfl)) (sX rfl Ve))) λz=>rfl) (λz=> .of (a:= .str 52) rfl ⟨rfl,H, .rfl⟩) λh1=> ?_
 ·obtain⟨y,hy,rfl⟩:=bG.mp hx
  exact(hc y hy).x
 ·exact aw (eg (aH _) hn) (by decide)
 ·rw[aH];exact aw (eg (aH _) hn) (by decide)
 ·rw[XV hc hn];exact Enc.lit.tup.ne (k:=6) rfl c (xz c a b)
 refine wm (P:=λw x σ1=>W (XR.val x) σ1 (wB S ck j an σ w)) (sE rfl (sX (tL rfl (tr K.ck rfl)) (SO H.at_))) (λz=> .of (a:= .str 6) rfl ⟨rfl,H, .rfl⟩) λz=> ?_;have hap:xm A c=true:=fO.mp (lE.mp h1).2;have J:=BG H.at_ K.ck nofun
 have naj:=BG H.at_ K.jd nofun
 have njc:=BG K.jd K.ck (λe=>nomatch sv.inst.inj e)
 have U:=λob=>(ew (l:=σ) (a:=ob) (bz J)).trans H.at_;refine zb (σ1:=σ) (v:=tF (uE c)) (u:= .ref ck) (B7:=σ.set ck (.inst 3 [(0,S.doms),(3,S.tV),(4,vd S.goal),(5, .ref j),(6,tF (uE c)),(7, .ref an)])) rfl rfl (sQ K.ck rfl) ?_;have SQ:=λob=>du (l:=σ) (a:=ob) (xx K.ck);refine zQ (wn (tL rfl (tr (SQ _) rfl)) (wp (U _) rfl) rfl (G2 (U _) ((aH _).symm▸aw hA (by decide)))) (.of (a:= .ret (.str 0)) rfl (.of (a:= .str 0) rfl ⟨rfl,⟨⟨?_, ?_⟩, ?_⟩, .set (.inl (.tail _ (.head _))) (.set (.inl (.head _)) .rfl)⟩))
 ·rw[SP hap];exact(ew J).trans (SQ _)
 ·exact(ew naj).trans ((ew (bz njc)).trans K.jd)
 ·rw[cW]
  exact du (by rw[eO];exact xx H.at_))
end
end
section
noncomputable def x2(n:aa)(ps:O ae):aj:=ps.all λk=>decide (0<=k)&&decide (k<n)
noncomputable def uq(ss:O Step)(k:ae):O sr:=match ss[k.toNat]? with
 |some s=>s.2.1
 |none=>[]
def Vg(S:sD)(A:O (O sr))(rule:aa)(c:O sr):ze->aa×O (O sr)
 |none=>(11,A)
 |some p=>match p.2 with
  |none=>(11,A)
  |some b=>if rule==13 then(if yP S c b then 0 else 13,A) else zC S A c p.1 b
def tR(S:sD)(ss:O Step)(n:aa)(A:O (O sr))(s:Step):aa×O (O sr):=
 if !vD s.2.1 then(16,A) else if !x2 n s.2.2.1 then(47,A) else if s.1==41 then(if u6 S.L s.2.1 (s.2.2.1.map (uq ss)) then 0 else 41,A) else if !decide (s.2.2.1=[]) then(47,A) else
  if s.1==54 then(wY S s.2.1 s.2.2.2,A) else if 13==s.1||(52==s.1||false) then(if !EW S s.2.2.2 then(11,A) else Vg S A s.1 s.2.1 s.2.2.2) else(50,A)
structure Ey(S:sD)(s:Step):Prop where
 c:∀ l∈s.2.1,yt l
 n:s.2.1.length<=2
 p:s.2.2.1.length<=50
 t:LF S s.2.2.2
structure x4(S:sD)(ss:O Step):Prop where
 ok:∀ s∈ss,Ey S s
 n:ss.length<=100
noncomputable def G3:O aa->O V->Loc->Loc
 |[],_,l=>l
 |k::ks,vs,l=>G3 ks vs.tail (l.put k (vs.headD .none))
theorem EZ{F:Fn}{σ:Ob}:∀ (ks:O aa) (vs:O V) (l:Loc),(ks.length==vs.length&&ks.all λk=>decide (k<l.length))=true->Is (tY F (ks.map MT.var) l vs) σ (G3 ks vs l)
 |[],[]=>λz z=>rfl
 |[],_::_=>λz h=>nomatch h
 |_::_,[]=>λz h=>nomatch h
 |k::ks,v::vs=>λl h=>M.then (f:=λl=>tY F (ks.map MT.var) l vs) (yl (rY (a:=decide (k<l.length)) (rY h).2).1) (EZ ks vs _ (tQ (show(ks.length==vs.length)=true from bl.mpr (dh (eq_of_beq (rY h).1))) (by
  rw[Loc.put,eO];exact(rY (a:=decide (k<l.length)) (rY h).2).2)))
theorem Jy{F:Fn}{rest:O MS}{l:Loc}{σ:Ob}{e:ME}{Q:XR->Ob->Prop}(ks:O aa){vs:O V}(h:Is (rZ F e l) σ (.tup vs))(hk:(ks.length==vs.length&&ks.all λk=>decide (k<l.length))=true)(q:W (r8 F rest (G3 ks vs l)) σ Q):W (r8 F (.asg (.tup (ks.map MT.var)) (.e e)::rest) l) σ Q:=
 wA h (show To (M.guard ((ks.map MT.var).length==vs.length) (tY F (ks.map MT.var) l vs)) σ _ σ by rw[aH,(rY hk).1];exact EZ ks vs l hk) q
section
variable{d ck j an n:aa}{σ:Ob}{S:sD}{F:Fn}{l:Loc}{A:O (O sr)}{ss:O Step}{s:Step}{ps:O ae}
theorem yQ(hn:ss.length<=100)(hs:ss[n]?=some s):Is (tZ (.lst (ss.map sL)) (.int n)) σ (sL s):=yC (by rw[ca,hs];rfl) (aw (bB (bD.mp hs).1) (aw hn (by decide)))
theorem LK{own:aa}{e t:ME}(hi:Is (rZ F e (l.set own none)) σ (tF ps))(J:decide (own<l.length)=true)(hp:ps.length<=50)(hc:∀ k,Is (sN F t (l.set own (some (.int k)))) σ (!(decide (0<=k)&&decide (k<(n:ae))))):Is (sN F (.cmp (.comp [own] (.var own) [.g (.var own) (.e e) [t]]) [.NotEq] [.list []]) l) σ (!x2 n ps):=by
 unfold x2;rw[<-SI];exact sE (BB _ (x8 hi rfl) J (λk z=>hc k) (uA (aw hp (by decide)))) (sX rfl (Enc.int.lst.ne (k:=7) rfl _ []))
theorem LL{own:aa}{e e2:ME}(hi:Is (rZ F e (l.set own none)) σ (tF ps))(U:decide (own<l.length)=true)(hp:ps.length<=50)(hq:x2 n ps=true)(hn:n<=ss.length)(J:ss.length<=100)(h1:∀ k:ae,Is (rZ F e2 (l.set own (some (.int k)))) σ (.lst (ss.map sL)))(h2:∀ k:ae,Is (rZ F (.var own) (l.set own (some (.int k)))) σ (.int k)):
  Is (rZ F (.comp [own] (.item (.item e2 (.var own)) (.c (.int 1))) [.g (.var own) (.e e) []]) l) σ (.lst ((ps.map (uq ss)).map ud)):=by
 have z:=Dh (F:=F) (σ:=σ) (l:=l) (e:= .item (.item e2 (.var own)) (.c (.int 1))) (ys:=ps) (g:=V.int) (h:=λk=>ud (uq ss k)) (x8 hi rfl) U (λk hk=>by
  have q:=rY (tU hq hk);obtain⟨m,rfl⟩:=ip (aP q.1);have hm:m<ss.length:=bw (dz.mp (aP q.2)) hn;have e:uq ss m=(ss[m]).2.1:=by unfold uq;rw[b6,br hm]
  rw[e];exact sG (sG (h1 _) (h2 _) (yQ J (br hm))) rfl rfl) (uA (aw hp (by decide)))
 rwa [show ps.map (λk=>ud (uq ss k))=(ps.map (uq ss)).map ud by rw[bR];rfl] at z
set_option tactic.hygienic true in
theorem LM(h:x4 S ss)(ps:O ae):Cw (ps.map (uq ss)):=λy hy=>by
 obtain⟨k,_,rfl⟩:=bG.mp hy;unfold uq;split
 ·rename_i s hs
  have z:=h.ok s (cv hs);exact⟨aw z.n (by decide),λl J=>(z.c l J).ok⟩
 ·exact⟨cg _,λl J=>nomatch J⟩
theorem SR(hS:S.Ok)(H:Cy S ck j an A σ)(hA:A.length<=100)(J:x4 S ss)(hs:ss[n]?=some s):W (sC prog (d+11) 52 [.ref ck, .lst (ss.map sL), .int n]) σ (wB S ck j an σ (tR S ss n A s)):=vG yF rfl rfl (by
 have K:=H.K;have U:=yQ (σ:=σ) J.n hs;have hn:=bB (bD.mp hs).1;obtain⟨kc,kn,kp,kt⟩:=J.ok s (cv hs);have kl:=λl hl=>(kc l hl).ok;have end_:=λ(w:aa)=>(show W (XR.val (.ret (.str w))) σ (wB S ck j an σ (w,A)) from .of (a:= .str w) rfl ⟨rfl,H, .rfl⟩)
 refine tS (c:=false) (uJ (c:=false) (uW (c:=true) (aa7 (sG rfl rfl U) rfl)) (λz=>tP (sE (uc (es1 (sG rfl rfl U)) rfl) (sX (y:= .int 4) rfl rfl))) nofun) (tO (Jy [3,4,5,6] (vs:=[.str s.1,ud s.2.1,tF s.2.2.1,ui s.2.2.2]) (sG rfl rfl U) rfl ?_))
 refine wm (P:=λw x σ1=>W (XR.val x) σ1 (wB S ck j an σ w)) (uW (xM rfl (vx K.ck) rfl (LH (d:=d+8) K kl kn))) (λz=>end_ 16) λz=> ?_;refine wm (P:=λw x σ1=>W (XR.val x) σ1 (wB S ck j an σ w)) (uJ (c:=false) rfl (λz=>tP (LK (n:=n) rfl rfl kp ?_)) nofun) (λz=>end_ 47) λhq=> ?_
 ·exact λk=>uJ (c:= !true) (c1:= !(decide (0<=k)&&decide (k<n))) (uW (uu rfl (zT (d:=d+9) (some (k,none))))) (λz=>tP (within rfl rfl)) nofun
 have hq:=fO.mp hq;refine za (P:=λw x σ1=>W (XR.val x) σ1 (wB S ck j an σ w)) (c:=s.1==41) (sE rfl (sX rfl rfl)) (λz=> ?_) λz=> ?_
 ·refine tX (vO (xM rfl (vx K.ck) (tq rfl (es1 (LL rfl rfl kp hq hn J.n (λz=>rfl) λz=>rfl))) (ML (L:=S.L) K.ck rfl (show[0,1]∈subs by decide) hS.sub.1 (lB _ _) hS.sub.2.1 kc (LM J _))) (v:= .str (if u6 S.L s.2.1 (s.2.2.1.map (uq ss)) then 0 else 41)) ?_) (.of (a:= .ret _) rfl (end_ _))
  cases u6 S.L s.2.1 (s.2.2.1.map (uq ss))<;>rfl
 refine tO (wm (P:=λw x σ1=>W (XR.val x) σ1 (wB S ck j an σ w)) (sE (x:=tF s.2.2.1) rfl (sX rfl (Enc.int.tup.ne (k:=7) rfl s.2.2.1 []))) (λz=>end_ 47) λz=> ?_);refine za (P:=λw x σ1=>W (XR.val x) σ1 (wB S ck j an σ w)) (c:=s.1==54) (sE rfl (sX rfl rfl)) (λz=> ?_) λz=> ?_
 ·exact tX (ym rfl (vx K.ck) rfl (G0 hS K kc s.2.2.2)) (.of (a:= .ret _) rfl (end_ _))
 refine tO (za (P:=λw x σ1=>W (XR.val x) σ1 (wB S ck j an σ w)) (c:=13==s.1||(52==s.1||false)) (sE rfl (sX rfl rfl)) (λz=> ?_) λz=>tO (tX rfl (end_ 50)))
 refine wm (P:=λw x σ1=>W (XR.xt (r8 _ [.ret (.c (.str 50))]) x) σ1 λx σ1=>W (XR.val x) σ1 (wB S ck j an σ w)) (uW (xM rfl (vx K.ck) rfl (LI (d:=d+5) hS K s.2.2.2 kt))) (λz=> .of (a:= .ret _) rfl (end_ 11)) λha=> ?_;have ha:=fO.mp ha;obtain⟨rule,c,ps,note⟩:=s;rcases note with _|⟨a,_|b⟩
 ·exact ff ha
 ·exact ff ha
 ·have cmp:Is (uC .Eq (.str rule) (.str 13)) σ (rule==13):=rfl
  show W _ σ λx σ1=>W _ σ1 λx σ1=>W (XR.val x) σ1 (wB S ck j an σ (if rule==13 then(if yP S c b then 0 else 13,A) else zC S A c a b))
  cases h13:rule==13 with
  |true=>
   rw[h13] at cmp
   exact tX (vO (sE (x:= .str rule) rfl (sX rfl cmp)) (ym rfl (vx K.ck) rfl (PL (d:=d+9) hS.g K))) (.of (a:= .ret _) rfl (end_ _))
  |false=>
   rw[h13] at cmp
   exact(Vf (d:=d+9) (a:=a) (b:=b) hS.g H hA kl kn).elim λv σ1 e q=>Cs (vO (sE (x:= .str rule) rfl (sX rfl cmp)) (ym rfl (vx K.ck) rfl e)) (.of (a:= .ret v) rfl (.of (a:=v) rfl q)))
end
section
variable{ι κ:Type}{turn:Loc->V->X}{g:ι->V}{mk:κ->Loc}{p:ι->aj}{v:V}{σ:Ob}
def Vh(mk:κ->Loc)(v:V)(σ:Ob)(c:aj)(x:XR)(σ1:Ob):Prop:=σ=σ1/\if c then x= .ret v else ∃ k,x= .next (mk k)
theorem Ga:∀ (ys:O ι) (k:κ),(∀ y∈ys,∀ k,W (turn (mk k) (g y)) σ (Vh mk v σ (p y)))->W (uR turn (ys.map g) (mk k)) σ (Vh mk v σ (ys.any p))
 |[]=>λk w=> .of (a:= .next _) rfl ⟨rfl,k,rfl⟩
 |y::ys=>λk h=> .bind ((h y (.head _) k).mono λx σ1 q=>by
  obtain⟨rfl,q⟩:=q;rw[dF];cases e:p y with
  |true=>rw[e] at q;cases q;exact .of (a:= .ret _) rfl ⟨rfl,rfl⟩
  |false=>
   rw[e] at q
   obtain⟨k',rfl⟩:=q;exact Ga ys k' λz hz=>h z (.tail _ hz))
end
def xO(a b:ae)(l:sr):aj:=says l (pairAt a b l.1)
theorem LN{c:O sr}(hc:∀ l∈c,uH l)(a b:ae):((!c.any λl=>l.1==0&&says l a)&& !c.any λl=>l.1==1&&says l b)=decide (c.filter (xO a b)=[]):=by
 rw[SJ,<-qb];refine av not ?_;induction c with
 |nil=>rfl
 |cons l c J=>
  rw[dF,dF,dF,<-J λz hz=>hc z (.tail _ hz)];have e:(l.1==0&&says l a||l.1==1&&says l b)=xO a b l:=(tC (P:=λx=>(x==0&&says l a||x==1&&says l b)=says l (pairAt a b x)) (hc l (.head _)).x (dI _) rfl)
  rw[<-e];cases l.1==0&&says l a<;>cases l.1==1&&says l b<;>cases c.any λl=>l.1==0&&says l a<;>rfl
theorem XW(t:Told){L:ae->O ae}{c:O sr}(hc:∀ l∈c,uH l):uB t (td L c 0) (td L c 1)=(L 0).any λa=>(L 1).any λb=>decide (c.filter (xO a b)=[])&&tH t a b:=by
 unfold uB td;rw[qe];refine av (O.any _) (funext λa=> ?_);rw[qe];cases q: !c.any λl=>l.1==0&&says l a with
 |true=>
  refine av (O.any _) (funext λb=> ?_);rw[<-LN hc,q,lD]
 |false=>
  refine(j4.mpr λb z=> ?_).symm;rw[<-LN hc,q];exact b0
def x5(S:sD):V:= .lst [t9 (S.L 0),t9 (S.L 1)]
def wZ(S:sD):V:= .tup [x5 S,S.tV,vd S.goal]
def lr(S:sD)(ss:O Step)(n ta:aa)(s:Step)(k:ax V×ax V):Loc:=
 [some (wZ S),some (.lst (ss.map sL)),some (.int n),some (.ref ta),some (x5 S),some S.tV,some (vd S.goal),some (.str s.1),some (ud s.2.1),some (tF s.2.2.1),some (ui s.2.2.2),k.1,k.2,none,none,none,none,none,none,none,none,none]
noncomputable def PM:O MS->O MS
 |_::_::_::_::_::s::_=>(match s with| .if_ _ b _=>b|_=>[])
 |_=>[]
def XX:O MS:=(PM vR.body).tail
section
variable{d n ta:aa}{σ:Ob}{S:sD}{ss:O Step}{s:Step}
theorem MN(J:S.Ok)(hc:∀ l∈s.2.1,uH l)(hn:s.2.1.length<=2){m:aa}(hm:m<S.sW.length)(e:s.2.2.2=some ((m:ae),none)):
  W (r8 (sC prog (d+2)) XX (lr S ss n ta s (none,none))) σ λx σ1=>σ=σ1/\x= .ret (.bool !uB S.sW[m] (td S.L s.2.1 0) (td S.L s.2.1 1)):=by
 rw[XW _ hc];refine xX (x8 (sG rfl rfl rfl) rfl) ((Ga (ι:=ae) (g:=V.int) (p:=λa=>S.B.any λb=>decide (s.2.1.filter (xO a b)=[])&&tH S.sW[m] a b) (mk:=lr S ss n ta s) (v:= .bool false) [0,1] (none,none) λa ha k=> ?_).mono λx σ1 q=> ?_)
 ·refine wO rfl (xX (x8 (sG rfl rfl rfl) rfl) ((Ga (ι:=ae) (g:=V.int) (p:=λb=>decide (s.2.1.filter (xO a b)=[])&&tH S.sW[m] a b) (mk:=λo=>lr S ss n ta s (some (.int a),o)) (v:= .bool false) S.B k.2 λb U o=> ?_).mono λx σ1 q=> ?_))
  ·have ha:a=0\/a=1:=(aW.mp ha).imp_right aR.mp
   refine wO rfl (tS (xZ (sE (EV (p:=xO a b) rfl rfl (λz hz=>uu (tq rfl (es1 (sG rfl (sG (x:=sF z) rfl rfl rfl) (zU (hc z hz).x)))) (A6 (hc z hz).s _)) (aw hn (by decide))) (sX rfl (Enc.lit.lst.cmp (k:=6) rfl _ []))) λy=>tP (uu (tq (sG rfl (show Is (sM (some (ui s.2.2.2))) σ (.int m) by rw[e];rfl) (yC (v:=tG S.sW[m]) (by rw[ca,br hm];rfl) (aw (bB hm) (aw J.n (by decide))))) rfl) (BD (J.t _ (eR hm)) ha (J.sub.2.2 b U)).1)) ?_)
   cases decide (s.2.1.filter (xO a b)=[])&&tH S.sW[m] a b
   ·exact .of (a:= .next _) rfl (.of (a:= .next _) rfl ⟨rfl,some (.int b),rfl⟩)
   ·exact .of (a:= .ret _) rfl (.of (a:= .ret _) rfl ⟨rfl,rfl⟩)
  ·obtain⟨rfl,q⟩:=q
   show W _ _ (Vh _ _ _ (S.B.any λb=>decide (s.2.1.filter (xO a b)=[])&&tH S.sW[m] a b));cases h:S.B.any λb=>decide (s.2.1.filter (xO a b)=[])&&tH S.sW[m] a b with
   |true=>rw[h] at q;cases q;exact .of (a:= .ret _) rfl ⟨rfl,rfl⟩
   |false=>rw[h] at q;obtain⟨o,rfl⟩:=q;exact .of (a:= .next _) rfl ⟨rfl,(some (.int a),o),rfl⟩
 ·obtain⟨rfl,q⟩:=q
  show W _ _ λ(x:XR) σ2=>σ=σ2/\x=XR.ret (.bool !(([0,1]:O ae).any λa=>S.B.any λb=>decide (s.2.1.filter (xO a b)=[])&&tH S.sW[m] a b));cases h:([0,1]:O ae).any λa=>S.B.any λb=>decide (s.2.1.filter (xO a b)=[])&&tH S.sW[m] a b with
  |true=>rw[h] at q;cases q;exact .of (a:= .ret _) rfl ⟨rfl,rfl⟩
  |false=>rw[h] at q;obtain⟨o,rfl⟩:=q;exact tX rfl ⟨rfl,rfl⟩
end
end
section
def A8(S:sD)(c:O sr)(n:ze):aj:=wY S c n==0
def Jz(S:sD)(A:O (O sr))(rule:aa)(c:O sr)(a b:ae):aj×O (O sr):=
 if !(S.sW.all λt=>tH t a b) then(false,A) else if rule==13 then(yP S c b,A) else if !decide (c=xz c a b)||decide (c∈A) then(false,A) else if !xm A c then(false,A) else(true,A++[c])
def Wz(S:sD)(A:O (O sr))(rule:aa)(c:O sr):ze->aj×O (O sr)
 |none=>(false,A)
 |some p=>match p.2 with
  |none=>(false,A)
  |some b=>Jz S A rule c p.1 b
def LO(S:sD)(ss:O Step)(n:aa)(A:O (O sr))(s:Step):aj×O (O sr):=
 if !vD s.2.1|| !x2 n s.2.2.1 then(false,A) else if s.1==41 then(u6 S.L s.2.1 (s.2.2.1.map (uq ss)),A) else
  if !decide (s.2.2.1=[])|| !(54==s.1||(13==s.1||(52==s.1||false))) then(false,A) else if s.1==54 then(A8 S s.2.1 s.2.2.2,A) else Wz S A s.1 s.2.1 s.2.2.2
def Dv(ta:aa)(σ:Ob)(r:aj×O (O sr))(v:V)(σ1:Ob):Prop:=v= .bool r.1/\σ1[ta]?=some (.lst (r.2.map ud))/\Fr [ta] σ σ1
section
variable{d n ta:aa}{σ:Ob}{S:sD}{ss:O Step}{s:Step}{A:O (O sr)}{F:Fn}{l:Loc}
set_option tactic.hygienic true in
theorem Vi(U:S.Ok)(hc:∀ l∈s.2.1,uH l)(hn:s.2.1.length<=2):W (r8 (sC prog (d+2)) (PM vR.body) (lr S ss n ta s (none,none))) σ λx σ1=>σ=σ1/\x= .ret (.bool (A8 S s.2.1 s.2.2.2)):=by
 have J:=uW (uu (F:=sC prog (d+2)) (l:=lr S ss n ta s (none,none)) (es:=[.var 10]) rfl (Ay (d:=d+1) (σ:=σ) s.2.2.2))
 have out:Dj s.2.2.2=false->wY S s.2.1 s.2.2.2=43->W (r8 (sC prog (d+2)) (PM vR.body) (lr S ss n ta s (none,none))) σ λx σ1=>σ=σ1/\x= .ret (.bool (A8 S s.2.1 s.2.2.2)):=λh1 h2=>by
  rw[h1] at J
  exact tS (EX J) (.of (a:= .ret _) rfl (.of (a:= .ret (.bool false)) rfl ⟨rfl,by unfold A8;rw[h2];rfl⟩))
 rcases e:s.2.2.2 with _|⟨i,_|b⟩
 ·rw[e] at out;exact out rfl rfl
 ·clear out
  rw[e] at J
  have nn:S.sW.length<=1000:=aw U.n (by decide)
  refine tS (uJ J (λy=>tP (within (k:=i) (n:=S.sW.length) (show sM (some (ui s.2.2.2)) σ=_ by rw[e];rfl) (uc rfl (by rw[<-aH (f:=tG)];exact yO (by rw[aH];exact nn))))) nofun) ?_
  show W _ σ _
  by_cases hi:0<=i/\i<S.sW.length
  ·rw[aX hi.1,aX hi.2]
   obtain⟨k,rfl⟩:=ip hi.1;have hk:k<S.sW.length:=dz.mp hi.2;refine tO ((MN U hc hn hk e).mono λx σ1 q=>⟨q.1,q.2.trans ?_⟩);have ht:BE S (k:ae)=some S.sW[k]:=(aN hi.1).trans (br hk);show _=XR.ret (.bool (wX S s.2.1 k==0));unfold wX;rw[ht];show _=XR.ret (.bool ((if uB _ _ _ then 54 else 0)==0))
   cases uB S.sW[k] (td S.L s.2.1 0) (td S.L s.2.1 1)<;>rfl
  ·have e2:(decide (0<=i)&&decide (i<S.sW.length))=false:=by rw[<-jm,ef,fy,fy];exact hi
   rw[e2]
   have ht:BE S i=none:=by
    unfold BE;split
    ·rename_i h
     exact d9 (ec λz=>hi ⟨h,(f6 h).mp z⟩)
    ·rfl
   exact .of (a:= .ret _) rfl (.of (a:= .ret (.bool false)) rfl ⟨rfl,by show _=XR.ret (.bool (wX S s.2.1 i==0));unfold wX;rw[ht];rfl⟩)
 ·rw[e] at out;exact out rfl rfl
theorem Vj(U:σ[ta]?=some (.lst (A.map ud)))(h3:Is (rZ F (.var 3) l) σ (.ref ta))(h8:Is (rZ F (.var 8) (l.set 21 none)) σ (ud s.2.1))(h20:Is (rZ F (.var 3) (l.set 20 none)) σ (.ref ta))(hl:decide (21<l.length)=true)(hA:∀ c∈A,c.length<=2)(hn:s.2.1.length<=2):
  Is (sN F (.bool true [.cmp (.var 3) [.NotEq] [.list []], .cmp (.comp [20] (.item (.var 20) (.c (.int 0))) [.g (.var 20) (.e (.item (.var 3) (.c (.int 0)))) []]) [.NotEq] [.comp [21] (.item (.var 21) (.c (.int 0))) [.g (.var 21) (.e (.var 8)) []]]]) l) σ (!xm A s.2.1):=by
 have g:∀ k,k<=21->∀ y:sr,Loc.get (l.set k (some (sF y))) k=some (sF y):=λk hk y=>by
  unfold Loc.get;rw[du (bH hk (aP hl))]
 have ne:=sE (ops:=[.NotEq]) (es:=[.list []]) h3 (sX rfl (M.then (f:=λr=>M.pure (!r)) (HY U (Enc.lit.tup.lst.cmp (k:=5) rfl A [])) rfl));cases A with
 |nil=>exact BF ne
 |cons J A=>
  have z:=xZ (c1:= !decide (uE J=uE s.2.1)) ne λx=>tP (sE (EY (c:=J) (sG (b:= .c (.int 0)) (y:= .int 0) h20 rfl (sQ U rfl)) (aX (i6 (eW 20) (aP hl))) (g 20 (cU _)) (hA J (.head _))) (sX (EY h8 hl (g 21 (aU _)) hn) (Enc.int.lst.ne (k:=7) rfl _ _)));rwa [show(!decide (J::A=[]))=true from rfl,lD,show decide (uE J=uE s.2.1)=xm (J::A) s.2.1 from d6.mpr iw] at z
theorem MO(hS:S.Ok)(J:σ[ta]?=some (.lst (A.map ud)))(hA:A.length<=100)(hAl:∀ c∈A,c.length<=2)(U:x4 S ss)(hs:ss[n]?=some s):W (sC prog (d+3) 28 [wZ S, .lst (ss.map sL), .int n, .ref ta]) σ (Dv ta σ (LO S ss n A s)):=vG vR rfl rfl (by
 have hit:=yQ (σ:=σ) U.n hs;have hn:=bB (bD.mp hs).1;obtain⟨kc,kn,kp,kt⟩:=U.ok s (cv hs);have kl:=λl hl=>(kc l hl).ok;have end_:=λ(w:aj)=>(show W (XR.val (.ret (.bool w))) σ (Dv ta σ (w,A)) from .of (a:= .bool w) rfl ⟨rfl,J, .rfl⟩)
 refine Jy [4,5,6] (vs:=[x5 S,S.tV,vd S.goal]) rfl rfl (Jy [7,8,9,10] (vs:=[.str s.1,ud s.2.1,tF s.2.2.1,ui s.2.2.2]) (sG rfl rfl hit) rfl ?_);show W (r8 (sC prog (d+2)) (vR.body.drop 2) (lr S ss n ta s (none,none))) σ _;refine wm (P:=λw x σ1=>W (XR.val x) σ1 (Dv ta σ w)) (uJ (uW (uu rfl (Jf (d:=d+1) kl kn))) (λu=>tP (LK (n:=n) rfl rfl kp λk=>within rfl rfl)) λu=>rfl) (λu=>end_ false) λhq=> ?_;have hq:=fO.mp (lE.mp hq).2;refine za (P:=λw x σ1=>W (XR.val x) σ1 (Dv ta σ w)) (c:=s.1==41) (sE rfl (sX rfl rfl)) (λu=> ?_) λu=>tO ?_
 ·exact tX (ue (tq rfl (tq rfl (es1 (LL rfl rfl kp hq hn U.n (λu=>rfl) λu=>rfl)))) (LD (λx hx=>tC (P:=λx=>(S.L x).length<=8) hx (show([0,1]:O ae).length<=8 by decide) (aw (sub_len hS.sub.1) (by decide))) kl (aw kn (by decide)) (LM U _))) (.of (a:= .ret _) rfl (end_ _))
 refine wm (P:=λw x σ1=>W (XR.val x) σ1 (Dv ta σ w)) (uJ (sE rfl (sX rfl (Enc.int.tup.ne (k:=7) rfl s.2.2.1 []))) (λu=>tP (sE rfl (sX rfl rfl))) λu=>rfl) (λu=>end_ false) λu=> ?_;refine za (P:=λw x σ1=>W (XR.val x) σ1 (Dv ta σ w)) (c:=s.1==54) (sE rfl (sX rfl rfl)) (λu=> ?_) λu=>tO ?_
 ·exact(Vi hS kl kn).mono λx σ1 q=>by obtain⟨rfl,rfl⟩:=q;exact .of (a:= .ret _) rfl (end_ _)
 obtain⟨rule,c,ps,note⟩:=s;have kl:∀ l∈c,uH l:=kl;have kn:c.length<=2:=kn;rcases note with _|⟨a,_|b⟩
 ·exact tS (c:=true) (EX rfl) (.of (a:= .ret _) rfl (.of (a:= .ret _) rfl (end_ false)))
 ·exact tS (c:=true) (EX rfl) (.of (a:= .ret _) rfl (.of (a:= .ret _) rfl (end_ false)))
 show W _ σ λx σ1=>W (XR.val x) σ1 (Dv ta σ (Jz S A rule c a b));have two:∀ k,(k=0\/k=1)->pairAt a b k∈S.L k:=λk hk=>tC (P:=λk=>pairAt a b k∈S.L k) hk (tC (P:=λa=>a∈[(0:ae),1]) kt.1 (.head _) (.tail _ (.head _))) kt.2;refine tS (c:=false) (uJ (c:=false) rfl (λu=>uJ (c:=false) rfl (λu=>tP (sE (BB (ys:=[0,1]) (g:=V.int) (λu=>false) rfl rfl (λk hk=> ?_) rfl) (sX rfl rfl))) nofun) nofun) (tO ?_)
 ·have hk:k=0\/k=1:=(aW.mp hk).imp_right aR.mp
  have lot:Is (tZ (x5 S) (.int k)) σ (t9 (S.L k)):=tC (P:=λk=>Is (tZ (x5 S) (.int k)) σ (t9 (S.L k))) hk rfl rfl
  have nin:Is (uC .NotIn (.int (pairAt a b k)) (t9 (S.L k))) σ false:=by
   have z:=Enc.int.mem (k:=8) (σ:=σ) rfl (pairAt a b k) (S.L k);rw[aX (two k hk)] at z
   exact M.then (f:=λr=>M.pure (!r)) z rfl
  show Is (sN _ (.bool false [_,_]) _) σ (false||false)
  exact uJ (uW (c:=true) (uu (es1 (sG rfl rfl (zU hk))) (Ay (d:=d+1) (some (pairAt a b k,none))))) (λu=>tP (sE (sG rfl rfl (zU hk)) (sX (sG rfl rfl lot) nin))) nofun
 refine wm (P:=λw x σ1=>W (XR.val x) σ1 (Dv ta σ w)) (sE (BB (g:=tG) (λt=> !tH t a b) rfl rfl (λt ht=>uW (uu rfl (BD (hS.t t ht) kt.1 (hS.sub.2.2 b kt.2)).1)) (uA (aw hS.n (by decide)))) (sX rfl (M.then (f:=λr=>M.pure (!r)) (IY hS _) rfl))) (λu=>end_ false) λu=> ?_
 refine za (P:=λw x σ1=>W (XR.val x) σ1 (Dv ta σ w)) (c:=rule==13) (sE rfl (sX rfl rfl)) (λu=> ?_) λu=>tO ?_
 ·have hd:Is (JK (ui (some (a,some b))) (vd S.goal)) σ (if S.goal==0 then V.none else sF (yb S.goal b)):=zf (P:=λg=>Is (JK (ui (some (a,some b))) (vd g)) σ (if g==0 then V.none else sF (yb g b))) hS.g rfl rfl rfl
  refine vM (v:=if S.goal==0 then V.none else sF (yb S.goal b)) hd rfl ?_
  show W _ σ λx σ1=>W _ σ1 λx σ1=>W (XR.val x) σ1 (Dv ta σ (!(S.goal==0)&&decide (c=[yb S.goal b]),A));cases S.goal==0 with
  |true=>exact tX (Wq (c:=false) (c1:=false) (zc (x:= .none) rfl (sX rfl rfl)) nofun) (.of (a:= .ret _) rfl (end_ false))
  |false=>exact tX (Wq (c:=true) (zc (x:=sF (yb S.goal b)) rfl (sX rfl rfl)) λu=>zc rfl (sX (y:=ud [yb S.goal b]) rfl (Enc.lit.tup.cmp (k:=6) rfl c [yb S.goal b]))) (.of (a:= .ret _) rfl (end_ _))
 refine wm (P:=λw x σ1=>W (XR.val x) σ1 (Dv ta σ w)) (uJ (sE rfl (sX (uc (es1 (Dh (ys:=c) (g:=sF) (h:=λl=>sF (l.1,1,pairAt a b l.1)) rfl rfl (λy hy=>vN (tq (sG (x:=sF y) rfl rfl rfl) (tq rfl (es1 (sG rfl (sG (x:=sF y) rfl rfl rfl) (zU (kl y hy).x)))))) (uA (aw kn (by decide))))) (tup_is ?_)) ?_)) (λu=>tP (sE rfl (sX rfl (SO J)))) λu=>rfl) (λu=>end_ false) λu=> ?_
 ·rw[aH];exact aw kn (by decide)
 ·rw[show c.map (λl=>sF (l.1,1,pairAt a b l.1))=(xz c a b).map sF by unfold xz;rw[bR];rfl]
  exact Enc.lit.tup.ne (k:=6) rfl c (xz c a b)
 refine wm (P:=λw x σ1=>W (XR.val x) σ1 (Dv ta σ w)) (Vj (s:=(rule,c,ps,some (a,some b))) J rfl rfl rfl rfl hAl kn) (λu=>end_ false) λu=> ?_;exact zQ (wn rfl (wp J rfl) rfl (G2 J ((aH _).symm▸aw hA (by decide)))) (tX rfl (.of (a:= .bool true) rfl ⟨rfl,by rw[cW];exact du (xx J), .set (.inl (.head _)) .rfl⟩)))
end
end
section
def A9(S:sD)(s:Step):Prop:=S.goal=0\/s.1≠52\/∀ a b,s.2.2.2=some (a,some b)->s.2.1≠xz s.2.1 a b
def vy(S:sD)(ss:O Step):O Step->aa->O (O sr)->ax (aa×aa)×O (O sr)
 |[],_,A=>(none,A)
 |s::r,n,A=>if(tR S ss n A s).1==0 then vy S ss r (n+1) (tR S ss n A s).2 else(some (n,(tR S ss n A s).1),(tR S ss n A s).2)
noncomputable def yu(ss:O Step):O sr:=uq ss ((ss.length:ae) - 1)
section
variable{S:sD}{ss:O Step}{s:Step}{A:O (O sr)}{n:aa}{σ:Ob}
theorem XY(hg:S.goal<=2){rule:aa}{c:O sr}{a b:ae}(hr:(13==rule||(52==rule||false))=true)(h:S.goal=0\/rule≠52\/c≠xz c a b):
  (Jz S A rule c a b)=((if !(S.sW.all λt=>tH t a b) then(11,A) else if rule==13 then(if yP S c b then 0 else 13,A) else zC S A c a b:aa×O (O sr)).1==0,(if !(S.sW.all λt=>tH t a b) then(11,A) else if rule==13 then(if yP S c b then 0 else 13,A) else zC S A c a b:aa×O (O sr)).2):=by
 unfold Jz;cases !(S.sW.all λt=>tH t a b)
 ·cases e:rule==13 with
  |true=>cases yP S c b<;>rfl
  |false=>
   unfold zC
   have J:rule=52:=by
    rw[fJ,e] at hr
    exact(eq_of_beq ((dI _).symm.trans hr)).symm
   cases q:decide (c=xz c a b) with
   |false=>cases S.goal==0<;>rfl
   |true=>
    have U:S.goal=0:=h.resolve_right λh=>h.elim (λh=>h J) λh=>h (aP q);rw[U];cases decide (c∈A)<;>cases xm A c<;>rfl
 ·rfl
theorem Vk(hg:S.goal<=2)(h:A9 S s):LO S ss n A s=((tR S ss n A s).1==0,(tR S ss n A s).2):=by
 obtain⟨rule,c,ps,note⟩:=s;unfold LO tR;cases vD c
 ·rfl
 cases x2 n ps
 ·rfl
 cases rule==41
 ·cases decide (ps=[])
  ·rfl
  show(if !(54==rule||(13==rule||(52==rule||false))) then(false,A) else if rule==54 then(A8 S c note,A) else Wz S A rule c note)=((if rule==54 then(wY S c note,A) else if 13==rule||(52==rule||false) then(if !EW S note then(11,A) else Vg S A rule c note) else(50,A):aa×O (O sr)).1==0,(if rule==54 then(wY S c note,A) else if 13==rule||(52==rule||false) then(if !EW S note then(11,A) else Vg S A rule c note) else(50,A):aa×O (O sr)).2)
  rw[fJ (a:=54)];cases rule==54
  ·cases hr:13==rule||(52==rule||false) with
   |false=>rfl
   |true=>
    rcases note with _|⟨a,_|b⟩
    ·rfl
    ·rfl
    ·exact XY hg hr (h.imp_right λh=>h.imp_right λh=>h a b rfl)
  ·rfl
 ·show(u6 S.L c _,A)=((if u6 S.L c _ then 0 else 41)==0,A)
  cases u6 S.L c (ps.map (uq ss))<;>rfl
theorem WA{α:Type}{P:α->Prop}{c:aj}{a b:α}(h:c=true->P a)(k:P b):P (if c then a else b):=by cases c;exact k;exact h rfl
theorem zh{α:Type}{P:α->Prop}{c:aj}{a b:α}(h:P a)(k:P b):P (if c then a else b):=WA (λz=>h) k
def FS(s:Step)(A:O (O sr))(w:aa×O (O sr)):Prop:=w.2=A\/w.2=A++[s.2.1]
theorem PN(s:Step):FS s A (tR S ss n A s):=by
 obtain⟨rule,c,ps,note⟩:=s;have z:∀ {k:aa},FS (rule,c,ps,note) A (k,A):= .inl rfl;refine zh z (zh z (zh z (zh z (zh z (zh (zh z ?_) z)))));rcases note with _|⟨a,_|b⟩
 ·exact z
 ·exact z
 ·exact zh z (zh z (zh z (zh z (.inr rfl))))
def JA(St:O (O sr)->Ob->Prop)(Lc:Loc->Prop)(rv:aa->aa->V)(n:aa)(w:aa×O (O sr))(x:XR)(σ1:Ob):Prop:=St w.2 σ1/\if w.1==0 then ∃ l,x= .next l/\Lc l else x= .ret (rv n w.1)
def aaq(St:O (O sr)->Ob->Prop)(Lc:Loc->Prop)(rv:aa->aa->V)(w:ax (aa×aa)×O (O sr))(x:XR)(σ1:Ob):Prop:=St w.2 σ1/\match w.1 with
 |some p=>x= .ret (rv p.1 p.2)
 |none=>∃ l,x= .next l/\Lc l
theorem Gb{St:O (O sr)->Ob->Prop}{Lc:Loc->Prop}{rv:aa->aa->V}{turn:Loc->V->X}(J:x4 S ss)(h:∀ n s A l σ,ss[n]?=some s->A.length<=100->(∀ c∈A,c.length<=2)->St A σ->Lc l->W (turn l (.int (n:aa))) σ (JA St Lc rv n (tR S ss n A s))):
  ∀ (r:O Step) (n:aa) (A:O (O sr)) (l:Loc) (σ:Ob),ss.drop n=r->A.length<=n->(∀ c∈A,c.length<=2)->St A σ->Lc l->W (uR turn (tw n r.length) l) σ (aaq St Lc rv (vy S ss r n A))
 |[]=>λn A l σ y y y H U=> .of (a:= .next l) rfl ⟨H,l,rfl,U⟩
 |s::r=>λn A l σ hr hA hc H U=>by
  have hs:ss[n]?=some s:=by
   have z:=jH (xs:=ss) (i:=n) (j:=0);rw[hr,aa.add_zero] at z
   exact z.symm
  have hn:=(bD.mp hs).1;refine W.bind ((h n s A l σ hs (aw hA (aw (bB hn) J.n)) hc H U).mono λx σ1 q=> ?_);have fs:=PN (S:=S) (ss:=ss) (n:=n) (A:=A) s;have hg:vy S ss (s::r) n A=if(tR S ss n A s).1==0 then vy S ss r (n+1) (tR S ss n A s).2 else(some (n,(tR S ss n A s).1),(tR S ss n A s).2):=rfl
  rw[hg];unfold JA at q
  cases e:(tR S ss n A s).1==0 with
  |true=>
   rw[e] at q
   obtain⟨q1,l1,rfl,q2⟩:=q;refine Gb J h r (n+1) _ l1 σ1 (by rw[<-nq,hr];rfl) ?_ ?_ q1 q2
   ·rcases fs with e|e<;>rw[e]
    ·exact eA hA
    ·rw[bv];exact bZ hA
   ·rcases fs with e|e<;>rw[e]
    ·exact hc
    ·exact λc h=>(aG.mp h).elim (hc c) λh=>aR.mp h▸(J.ok s (cv hs)).n
  |false=>
   rw[e] at q
   obtain⟨q1,rfl⟩:=q;exact .of (a:= .ret _) rfl ⟨q1,rfl⟩
end
end
section
def BU(S:sD)(ss:O Step):V:=match (vy S ss ss 0 []).1 with
 |some p=> .int p.1
 |none=>if decide (yu ss=[]) then .none else .str 23
def wC(S:sD)(ss:O Step):V:=match (vy S ss ss 0 []).1 with
 |some p=> .tup [.int p.1, .str p.2]
 |none=>if decide (yu ss=[]) then .none else .tup [.int ((ss.length:ae) - 1), .str 23]
section
variable{d n:aa}{σ:Ob}{S:sD}{ss:O Step}{F:Fn}{l:Loc}
theorem Ba(h:n<=1000):Is (tN .vE [.int n]) σ (.yc 0 n):=by
 show M.guard (smallInt n) _ σ=_;rw[zr (cQ n) (cB.mpr h)];rfl
theorem Bb:Is (zE (.yc 0 n)) σ (tw 0 n):=by
 show some (tw 0 ((n:ae) - 0).toNat,σ)=_;rw[ae.sub_zero,b6]
theorem yR(h:ss.length<=100):Is (tN .len [.lst (ss.map sL)]) σ (.int ss.length):=by
 have z:=yO (σ:=σ) (xs:=ss.map sL) (by rw[aH];exact aw h (by decide))
 rwa [aH] at z
theorem XZ(h:ss≠[])(hn:ss.length<=100):∃ s,Is (tZ (.lst (ss.map sL)) (.int (-1))) σ (sL s)/\s.2.1=yu ss:=by
 have h0:=jx.mpr h;have J:ss.length - 1<ss.length:=aa.sub_lt h0 aa.one_pos;have e:(-1+(ss.length:ae))=((ss.length - 1:aa):ae):=(iM ..).trans (qf h0).symm;refine⟨ss[ss.length - 1], ?_, ?_⟩
 ·show sM (atIdx (ss.map sL) (-1)) σ=_
  unfold atIdx DA;rw[aI (by decide),aH,e,aN (cQ _),b6]
  show sM (ss.map sL)[ss.length - 1]? σ=_;rw[ca,br J];rfl
 ·unfold yu uq
  rw[show((ss.length:ae) - 1)=((ss.length - 1:aa):ae) from(qf h0).symm,b6,br J]
theorem SS{e:ME}(h:ss≠[])(hn:ss.length<=100)(he:Is (rZ F e l) σ (.lst (ss.map sL))):Is (rZ F (.item (.item e (.neg (.c (.int 1)))) (.c (.int 1))) l) σ (ud (yu ss)):=by
 refine(XZ (σ:=σ) h hn).elim λs J=> ?_;have h1:=J.1;have h2:=J.2;rw[<-h2];exact sG (y:= .int 1) (sG (y:= .int (-1)) he rfl h1) rfl rfl
theorem NW(hS:S.Ok)(J:x4 S ss)(hG:∀ s∈ss,A9 S s)(h:ss≠[]):Is (sC prog (d+4) 29 [wZ S, .lst (ss.map sL)]) σ (BU S ss):=uU Ig rfl rfl (by
 unfold BU;split
 ·rfl
 ·split<;>rfl) (by
 refine wA (v:= .ref σ.length) (σ1:=σ++[sv.lst []]) rfl (yl rfl) (xX (x8 (uc (es1 (uc rfl (yR J.n))) (Ba (aw J.n (by decide)))) Bb) ?_)
 refine(Gb (St:=λA σ1=>σ1[σ.length]?=some (.lst (A.map ud))/\Fr [] σ σ1) (Lc:=λl=>∃ o,l=[some (wZ S),some (.lst (ss.map sL)),some (.ref σ.length),o]) (rv:=λn z=> .int n) J (λn s A l σ1 hs hA hc H hl=> ?_) ss 0 [] _ _ rfl (aU _) (λz h=>nomatch h) ⟨wW, .app⟩ ⟨none,rfl⟩).mono λx σ1 q=> ?_
 ·obtain⟨o,rfl⟩:=hl
  refine(MO (d:=d) hS H.1 hA hc J hs).elim λv σ2 e q=> ?_;obtain⟨rfl,U,q2⟩:=q;rw[Vk hS.g (hG s (cv hs))] at e U
  refine wO rfl (BA (uW (uu rfl e)) ?_);unfold JA;have U:σ2[σ.length]?=some (.lst ((tR S ss n A s).2.map ud)):=U;cases (tR S ss n A s).1==0 with
  |true=>exact .of (a:= .next _) rfl (.of (a:= .next _) rfl ⟨⟨U,H.2.own q2 (aU _)⟩,_,rfl,_,rfl⟩)
  |false=>exact .of (a:= .ret _) rfl (.of (a:= .ret _) rfl ⟨⟨U,H.2.own q2 (aU _)⟩,rfl⟩)
 ·obtain⟨⟨_,fr⟩,q⟩:=q
  unfold BU;cases e:(vy S ss ss 0 []).1 with
  |some p=>rw[e] at q;cases q;exact .of (a:= .ret _) rfl ⟨rfl,fr⟩
  |none=>
   rw[e] at q
   obtain⟨l,rfl,o,rfl⟩:=q;refine tX (vO (sE (SS h J.n rfl) (sX rfl (Enc.lit.tup.cmp (k:=6) rfl _ []))) ?_) ⟨rfl,fr⟩;cases decide (yu ss=[])<;>rfl)
end
section
variable{d ck j lg:aa}{σ:Ob}{S:sD}{ss:O Step}{q:V}{ext:O (aa×V)}
def Az(ext:O (aa×V)):Prop:=ext=[]\/∃ v w,ext=[(6,v),(7,w)]
theorem Vl{l:Loc}{F:Fn}{r:aa}(K:Ck S ck j ext σ)(he:Az ext)(U:∀ σ,Is (rZ F (.var 0) l) σ (.ref ck)):∃ σ2,To (sO F (.tup [.attr (.var 0) 6, .attr (.var 0) 7]) l (.tup [.none, .ref r])) σ l σ2/\Ck S ck j [(6, .none),(7, .ref r)] σ2/\Fr [ck] σ σ2:=by
 have J:=BG K.jd K.ck (λe=>nomatch sv.inst.inj e)
 have SQ:=λob=>du (l:=σ) (a:=ob) (xx K.ck)
 have mk:∀ e1 e2,To (uY (.ref ck) 6 .none) σ () (σ.set ck (.inst 3 e1))->To (uY (.ref ck) 7 (.ref r)) (σ.set ck (.inst 3 e1)) () ((σ.set ck (.inst 3 e1)).set ck (.inst 3 ((0,S.doms)::(3,S.tV)::(4,vd S.goal)::(5, .ref j)::e2)))->e2=[(6, .none),(7, .ref r)]->∃ σ2,To (sO F (.tup [.attr (.var 0) 6, .attr (.var 0) 7]) l (.tup [.none, .ref r])) σ l σ2/\Ck S ck j [(6, .none),(7, .ref r)] σ2/\Fr [ck] σ σ2:=λe1 e2 h1 h2 e=>by
  subst e;have f:Fr [ck] σ ((σ.set ck (.inst 3 e1)).set ck (.inst 3 [(0,S.doms),(3,S.tV),(4,vd S.goal),(5, .ref j),(6, .none),(7, .ref r)])):= .set (.inl (.head _)) (.set (.inl (.head _)) .rfl)
  exact⟨_,M.then (m:=sO F (.attr (.var 0) 6) l .none) (f:=λl=>tY F [.attr (.var 0) 7] l [.ref r]) (M.then (f:=λo=>M.bind (uY o 6 .none) λz=>M.pure l) (U σ) (M.then (f:=λz=>M.pure l) h1 rfl)) (M.then (m:=sO F (.attr (.var 0) 7) l (.ref r)) (f:=λl=>tY F [] l []) (M.then (f:=λo=>M.bind (uY o 7 (.ref r)) λz=>M.pure l) (U _) (M.then (f:=λz=>M.pure l) h2 rfl)) rfl),
   ⟨du (by rw[eO];exact xx K.ck),f.get K.jd λh=>J (aR.mp h)⟩,f⟩
 rcases he with rfl|⟨v,w,rfl⟩
 ·exact mk _ _ (sQ K.ck rfl) (sQ (SQ _) rfl) rfl
 ·exact mk _ _ (sQ K.ck rfl) (sQ (SQ _) rfl) rfl
end
section
variable{d ck j lg:aa}{σ:Ob}{S:sD}{ss:O Step}{q:V}{ext:O (aa×V)}
theorem Fr.cut{X Y:O aa}{σ σ1 σ2:Ob}(h:Fr X σ σ1)(k:Fr Y σ1 σ2)(n:∀ r∈Y,r<σ.length->r∈X):Fr X σ σ2:=⟨aw h.len k.len,λr a b=>(k.at_ r (bw a h.len) λe=>b (n r e a)).trans (h.at_ r a b)⟩
theorem Ck.keep{σ1:Ob}{X:O aa}(K:Ck S ck j ext σ)(f:Fr X σ σ1)(h1:ck∉X)(h2:j∉X):Ck S ck j ext σ1:=⟨f.get K.ck h1,f.get K.jd h2⟩
abbrev PO(lg:aa)(ss:O Step)(q:V)(σ:Ob):Prop:=σ[lg]?=some (.inst 0 [(8, .lst (ss.map sL)),(9,q)])
theorem LP(hS:S.Ok)(K:Ck S ck j ext σ)(he:Az ext)(J:x4 S ss)(h:ss≠[])(hl:PO lg ss q σ):W (sC prog (d+12) 50 [.ref ck, .ref lg]) σ λv σ1=>v=wC S ss/\Cy S ck j σ.length (vy S ss ss 0 []).2 σ1/\Fr [ck] σ σ1:=vG z6 rfl rfl (by
 have LQ:lg∉[ck]:=λh=>BG hl K.ck (λe=>nomatch sv.inst.inj e) (aR.mp h)
 have K1:=K.keep (Fr.app (X:=[]) (τ:=[.lst []])) ba ba;refine(Vl (F:=sC prog (d+11)) (l:=[some (.ref ck),some (.ref lg),none,none]) (r:=σ.length) K1 he (λy=>rfl)).elim λσ2 sd=> ?_;have e2:=sd.1;have K2:=sd.2.1;have f2:=sd.2.2;have ne:σ.length∉[ck]:=λh=>aC (xx K.ck) (aR.mp h▸bT _);have a2:σ2[σ.length]?=some (.lst []):=f2.get wW ne;have f2:Fr [ck] σ σ2:=Fr.cut .app f2 λr h y=>h;refine wA (v:= .tup [.none, .ref σ.length]) (σ1:=σ++[sv.lst []]) rfl e2 (xX (x8 (uc (es1 (uc (es1 (tL rfl (tr (f2.get hl LQ) rfl))) (yR J.n))) (Ba (aw J.n (by decide)))) Bb) ?_)
 refine(Gb (St:=λA σ1=>Cy S ck j σ.length A σ1/\Fr [ck] σ σ1) (Lc:=λl=>∃ o2 o3,l=[some (.ref ck),some (.ref lg),o2,o3]) (rv:=λn w=> .tup [.int n, .str w]) J (λn s A l σ1 hs hA hc H U=> ?_) ss 0 [] _ _ rfl (aU _) (λy h=>nomatch h) ⟨⟨K2,a2⟩,f2⟩ ⟨none,none,rfl⟩).mono λx σ1 z=> ?_
 ·obtain⟨o2,o3,rfl⟩:=U
  refine(SR (d:=d) hS H.1 hA J hs).elim λv σ3 e z=> ?_;obtain⟨rfl,z1,z2⟩:=z;have f3:Fr [ck] σ σ3:=H.2.cut z2 λr h k=>(aW.mp h).elim (λe=>e▸ .head _) λe=>aC k (aR.mp e▸bT _);refine wO rfl (vY (ym rfl (vx H.1.K.ck) (tq (tL rfl (tr (H.2.get hl LQ) rfl)) rfl) e) rfl (tS (c:= !((tR S ss n A s).1==0)) (sE rfl (sX rfl rfl)) ?_));unfold JA;cases (tR S ss n A s).1==0 with
  |true=>exact .of (a:= .next _) rfl (.of (a:= .next _) rfl ⟨⟨z1,f3⟩,_,rfl,_,_,rfl⟩)
  |false=>exact .of (a:= .ret _) rfl (.of (a:= .ret _) rfl ⟨⟨z1,f3⟩,rfl⟩)
 ·obtain⟨⟨H,f⟩,z⟩:=z
  have U:=f.get hl LQ;unfold wC;cases e:(vy S ss ss 0 []).1 with
  |some p=>rw[e] at z;cases z;exact .of (a:= .ret _) rfl (.of (a:= .tup [.int p.1, .str p.2]) rfl ⟨rfl,H,f⟩)
  |none=>
   rw[e] at z
   obtain⟨l,rfl,o2,o3,rfl⟩:=z
   have c0:Is (yD (.lst (ss.map sL)) (.lst [])) σ1 false:=by
    have p:∀ s:Step,V.plain 7 (sL s)=true:=λs=>by
     show(true&&(V.plain 6 (ud s.2.1)&&(V.plain 6 (tF s.2.2.1)&&(V.plain 6 (ui s.2.2.2)&&true))))=true;rw[Enc.lit.tup.pl 4,Enc.int.tup.pl 5,show V.plain 6 (ui s.2.2.2)=true by rcases s.2.2.2 with _|⟨a,_|b⟩<;>rfl];rfl
    have z:=G1 (σ:=σ1) (g:=sL) (ys:=ss) λs y=>p s;rwa [show ss.isEmpty=false from jw.mpr λe=>h (cR.mp e)] at z
   refine tS (uJ (sE (tL rfl (tr U rfl)) (sX rfl c0)) (λy=>tP (sE (SS h J.n (tL rfl (tr U rfl))) (sX rfl (Enc.lit.tup.ne (k:=6) rfl _ [])))) nofun) ?_
   cases decide (yu ss=[]) with
   |true=>exact tO (tX rfl (.of (a:= .none) rfl ⟨rfl,H,f⟩))
   |false=>exact tX (vN (tq (xy (uc (es1 (tL rfl (tr U rfl))) (yR J.n)) rfl rfl) rfl)) (.of (a:= .ret (.tup [.int ((ss.length:ae) - 1), .str 23])) rfl (.of (a:= .tup [.int ((ss.length:ae) - 1), .str 23]) rfl ⟨rfl,H,f⟩)))
end
end
section
noncomputable def w5(s:Step):aj:=s.1==52
noncomputable def BV(s:Step):aj:=s.1==13
noncomputable def ve(ss:O Step):O (O sr):=(ss.filter w5).map (·.2.1)
noncomputable def G4(ss:O Step):V:= .str (if ss.any BV then 12 else if ss.any w5 then 7 else 42)
def Ez(ss:O Step):V:= .tup [G4 ss, .int ((ss.filter BV).length+(ss.filter w5).length:aa),xl (ve ss)]
section
variable{S:sD}{ss:O Step}{s:Step}{A:O (O sr)}{n:aa}
def FZ(s:Step)(A:O (O sr))(w:aa×O (O sr)):Prop:=(w.1==0)=true->w.2=if w5 s then A++[s.2.1] else A
theorem ifb{α:Type}{P:α->Prop}{c:aj}{a b:α}(h:c=true->P a)(k:c=false->P b):P (if c then a else b):=by cases c;exact k rfl;exact h rfl
theorem FZ.no{B:O (O sr)}{k:aa}:FZ s A (k+1,B):=λe=>aC e b0
theorem FZ.same{k:aa}(h:w5 s=false):FZ s A (k,A):=λz=>by rw[h];rfl
theorem FZ.seen{c:O sr}{a b:ae}(h:w5 s=true)(hc:s.2.1=c):FZ s A (zC S A c a b):=
 zh .no (zh .no (zh .no λz=>by rw[h,hc];rfl))
theorem PP(s:Step):FZ s A (tR S ss n A s):=by
 obtain⟨rule,c,ps,note⟩:=s;have no:∀ k,k≠52->(rule==k)=true->w5 (rule,c,ps,note)=false:=λk h e=>bS.mpr λz=>h ((eq_of_beq e).symm.trans z);refine zh .no (zh .no (WA (λe=> .same (no 41 (by decide) e)) (zh .no (WA (λe=> .same (no 54 (by decide) e)) (WA (λhr=>zh .no ?_) .no)))))
 rcases note with _|⟨a,_|b⟩
 ·exact .no
 ·exact .no
 ·refine ifb (λe=> .same (no 13 (by decide) e)) λe=> .seen ?_ rfl
  have hr:(13==rule||(52==rule||false))=true:=hr
  rw[fJ (a:=13),e,fZ,dI] at hr
  exact(fJ ..).trans hr
theorem LR:∀ (r:O Step) (n:aa) (A:O (O sr)),(vy S ss r n A).1=none->(vy S ss r n A).2=A++ve r
 |[]=>λz A z=>(bY A).symm
 |s::r=>λn A h=>by
  have hg:vy S ss (s::r) n A=if(tR S ss n A s).1==0 then vy S ss r (n+1) (tR S ss n A s).2 else(some (n,(tR S ss n A s).1),(tR S ss n A s).2):=rfl
  rw[hg] at h⊢
  cases e:(tR S ss n A s).1==0 with
  |false=>rw[e] at h;cases h
  |true=>
   rw[e] at h
   refine(LR r (n+1) _ h).trans ?_;rw[PP s e];unfold ve;rw[il];cases w5 s
   ·rfl
   ·exact cf A [s.2.1] _
def Bad(S:sD)(ss:O Step)(v:V)(σ:Ob):Prop:=∃ x y i,wC S ss= .tup [x,y]/\v= .ref i/\σ[i]?=some (.inst 4 [(10,y),(11,x)])
def aar(S:sD)(ck j:aa)(ss:O Step)(σ:Ob)(v:V)(σ1:Ob):Prop:=(∃ ext,Az ext/\Ck S ck j ext σ1)/\Fr [ck] σ σ1/\((wC S ss= .none/\v= .lst [Ez ss])\/Bad S ss v σ1)
end
section
variable{d ck j lg:aa}{σ:Ob}{S:sD}{ss:O Step}{q:V}{ext:O (aa×V)}{args:O V}{Q:V->Ob->Prop}{F:Fn}{l:Loc}
theorem Vm{a b:V}(h:W (M.bind (M.bind (xu (sC prog d) (.asg (.var 2) (.e (.tt 50 (.var 0) [.var 1]))) (uZ sZ [a,b])) vz) λl=>M.bind (sN (sC prog d) (.cmp (.var 2) [.IsNot] [.c .none]) l) λc=>
  if c then M.bind (rZ (sC prog d) (.item (.var 2) (.c (.int 1))) l) λx=>M.bind (rZ (sC prog d) (.item (.var 2) (.c (.int 0))) l) λy=>un (.inst 4 [(10,x),(11,y)])
  else M.bind (M.bind (r8 (sC prog d) (sZ.body.drop 2) l) XR.val) λv=>M.pure (.lst [v])) σ Q):W (sC prog (d+1) 51 [a,b]) σ Q:=by
 unfold sC;rw[show prog[51]?=some sZ from rfl]
 exact h.elim λv σ1 e q=>W.of (show Jk (sC prog d) sZ [a,b] σ=_ from e) q
theorem ST(h:wC S ss= .none):(vy S ss ss 0 []).1=none:=by
 unfold wC at h
 cases e:(vy S ss ss 0 []).1 with
 |none=>rfl
 |some p=>rw[e] at h;cases h
theorem PQ:wC S ss= .none\/∃ x y,wC S ss= .tup [x,y]:=by
 unfold wC;cases (vy S ss ss 0 []).1 with
 |some p=>exact .inr ⟨_,_,rfl⟩
 |none=>cases decide (yu ss=[]) with
  |true=>exact .inl rfl
  |false=>exact .inr ⟨_,_,rfl⟩
theorem PR(s:Step):V.plain 7 (sL s)=true:=by
 show(true&&(V.plain 6 (ud s.2.1)&&(V.plain 6 (tF s.2.2.1)&&(V.plain 6 (ui s.2.2.2)&&true))))=true;rw[Enc.lit.tup.pl 4,Enc.int.tup.pl 5,show V.plain 6 (ui s.2.2.2)=true by rcases s.2.2.2 with _|⟨a,_|b⟩<;>rfl];rfl
theorem SU(hS:S.Ok)(K:Ck S ck j ext σ)(he:Az ext)(J:x4 S ss)(h:ss≠[])(hl:PO lg ss q σ):W (sC prog (d+13) 51 [.ref ck, .ref lg]) σ (aar S ck j ss σ):=Vm (by
 refine(LP (d:=d) hS K he J h hl).elim λv σ1 e z=> ?_;obtain⟨rfl,H,f⟩:=z;have LQ:lg∉[ck]:=λh=>BG hl K.ck (λe=>nomatch sv.inst.inj e) (aR.mp h)
 have hl1:=f.get hl LQ;refine W.bind (W.of (a:=[some (.ref ck),some (.ref lg),some (wC S ss),none,none,none]) (σ1:=σ1) (M.then (f:=vz) (a:= .next _) (show To (M.bind (rZ (sC prog (d+12)) (.tt 50 (.var 0) [.var 1]) (uZ sZ [.ref ck, .ref lg])) λv=>M.bind (sO (sC prog (d+12)) (.var 2) (uZ sZ [.ref ck, .ref lg]) v) λl=>M.pure (XR.next l)) σ _ σ1 from M.then (ym rfl (vx K.ck) rfl e) (M.then (yl rfl) rfl)) rfl) ?_)
 have ext2:∃ ext,Az ext/\Ck S ck j ext σ1:=⟨_, .inr ⟨_,_,rfl⟩,H.K⟩;rcases PQ (S:=S) (ss:=ss) with hv|⟨x,y,hv⟩
 ·rw[hv]
  have hA:=LR (S:=S) ss 0 [] (ST hv);rw[hA] at H
  have H:Cy S ck j σ.length (ve ss) σ1:=H;have U:((ve ss).map ud).length=(ss.filter w5).length:=by unfold ve;rw[aH,aH]
  have le:∀ p:Step->aj,(ss.filter p).length<=1000:=λp=>aw (fm _ _) (aw J.n (by decide))
  have e52:(!decide (ve ss=[]))=ss.any w5:=by
   unfold ve;have z:=yN w5 ss;cases q:ss.filter w5 with
   |nil=>rw[q] at z;exact(av not z).trans (dR _)
   |cons x t=>rw[q] at z;exact(av not z).trans (dR _)
  refine W.bind (W.of (a:=false) (σ1:=σ1) rfl ?_);show W (M.bind (M.bind (r8 (sC prog (d+12)) (sZ.body.drop 2) _) XR.val) λv=>M.pure (V.lst [v])) σ1 _;refine W.bind (W.bind ?_);refine vM (BB (ys:=ss) (g:=sL) BV (x8 (tL rfl (tr hl1 rfl)) rfl) rfl (λs w=>sE (x:= .str s.1) (sG (x:=sL s) rfl rfl rfl) (sX rfl rfl)) (uA (aw J.n (by decide)))) rfl ?_
  have k13:Is (uC .NotEq (.lst ((ss.filter BV).map sL)) (.lst [])) σ1 (ss.any BV):=M.then (f:=λr=>M.pure (!r)) (G1 λs w=>PR s) (by rw[yN,dR];rfl)
  have k52:Is (uC .NotEq (.ref σ.length) (.lst [])) σ1 (ss.any w5):=e52▸M.then (f:=λr=>M.pure (!r)) (HY H.at_ (Enc.lit.tup.lst.cmp (k:=5) rfl (ve ss) [])) rfl;refine vM (v:=G4 ss) (vO (sE rfl (sX rfl k13)) ?_) rfl ?_
  ·unfold G4
   cases ss.any BV with
   |true=>rfl
   |false=>
    refine vO (sE (tL rfl (tr H.K.ck rfl)) (sX rfl k52)) ?_;cases ss.any w5<;>rfl
  ·refine tX (vN (tq rfl (tq (xy (uc rfl (yO (by rw[aH];exact le _))) (uc (es1 (tL rfl (tr H.K.ck rfl))) (HX H.at_ (U.symm▸le _))) rfl) (es1 (tL rfl (tr H.K.ck rfl)))))) (.of (a:=_) rfl (.of (a:= .lst [_]) rfl ⟨ext2,f, .inl ⟨hv, ?_⟩⟩))
   rw[U,aH];unfold Ez;rw[ae.natCast_add]
 ·rw[hv]
  refine W.bind (W.of (a:=true) (σ1:=σ1) rfl (W.of (a:= .ref σ1.length) (σ1:=σ1++[sv.inst 4 [(10,y),(11,x)]]) rfl ⟨⟨_, .inr ⟨_,_,rfl⟩,H.K.keep (Fr.app (X:=[])) ba ba⟩,f.more, .inr ⟨x,y,σ1.length,hv,rfl,wW⟩⟩)))
end
section
variable{d ck j lg r i k:aa}{σ σ1 σ2:Ob}{S:sD}{ss:O Step}{F:Fn}{l:Loc}{a b:ME}{x y:V}{rest:O MS}{Q:XR->Ob->Prop}
theorem G5(h:To (rZ F a l) σ x σ1)(h2:To (rZ F b l) σ1 y σ2)(hi:decide (i<l.length)=true)(hk:decide (k<l.length)=true)(q:W (r8 F rest ((l.put i x).put k y)) σ2 Q):W (r8 F (.asg (.tup [.var i, .var k]) (.tup [.e a, .e b])::rest) l) σ Q:=
 wA (v:= .tup [x,y]) (σ1:=σ2) (M.then (m:=xr F [.e a, .e b] l) (f:=λvs=>M.pure (V.tup vs)) (M.then (m:=xD F (.e a) l) (f:=λv=>M.bind (xr F [.e b] l) λvs=>M.pure (v::vs)) h (M.then (m:=xr F [.e b] l) (f:=λvs=>M.pure (x::vs)) (M.then (m:=xD F (.e b) l) (f:=λv=>M.bind (xr F [] l) λvs=>M.pure (v::vs)) h2 rfl) rfl)) rfl)
  (EZ [i,k] [x,y] l (tQ rfl (tQ hi (tQ hk rfl)))) q
theorem Vn:To (sC prog (d+1) 34 [.ref σ.length]) (σ++[.inst 0 []]) .none (σ++[.inst 0 [(8, .ref (σ.length+1)),(9, .ref (σ.length+2))], .lst [], .dct [] []]):=
 (show W (sC prog (d+1) 34 [.ref σ.length]) (σ++[.inst 0 []]) λv σ1=>v= .none/\σ1=σ++[.inst 0 [(8, .ref (σ.length+1)),(9, .ref (σ.length+2))], .lst [], .dct [] []] from
  vG Bg rfl rfl (wA (v:= .ref (σ.length+1)) (l1:=[some (.ref σ.length)]) (σ1:=σ++[sv.inst 0 [],sv.lst []]) (by
    show some (V.ref (σ++[sv.inst 0 []]).length,_)=_;rw[len_one];exact av (λx=>some (_,x)) (cf σ [_] [_]))
   (M.then (m:=rZ (sC prog d) (.var 0) [some (.ref σ.length)]) (a:= .ref σ.length) (σ1:=σ++[sv.inst 0 [],sv.lst []]) (f:=λo=>M.bind (uY o 8 (.ref (σ.length+1))) λz=>M.pure [some (V.ref σ.length)]) rfl (M.then (v8 rfl) rfl))
   (wA (v:= .ref (σ.length+2)) (l1:=[some (.ref σ.length)]) (σ1:=σ++[sv.inst 0 [(8, .ref (σ.length+1))],sv.lst [],sv.dct [] []]) (by
    show some (V.ref (σ++[sv.inst 0 [(8, .ref (σ.length+1))],sv.lst []]).length,_)=_;rw[bv];exact av (λx=>some (_,x)) (cf σ [_,_] [_]))
   (M.then (m:=rZ (sC prog d) (.var 0) [some (.ref σ.length)]) (a:= .ref σ.length) (σ1:=σ++[sv.inst 0 [(8, .ref (σ.length+1))],sv.lst [],sv.dct [] []]) (f:=λo=>M.bind (uY o 9 (.ref (σ.length+2))) λz=>M.pure [some (V.ref σ.length)]) rfl (M.then (v8 rfl) rfl))
   (.of (a:= .next _) rfl (.of (a:= .none) rfl ⟨rfl,rfl⟩))))).elim λv σ1 e q=>by rw[q.1,q.2] at e;exact e
noncomputable abbrev vq(ss:O Step):O V:=ss.map λs=> .str s.1
noncomputable def Ft(k:aa)(s:Step):aj:=s.1==k
theorem LS(h:ss.length<=100):DD (vq ss)=true:=tQ (by rw[fz];exact bh.mpr λz z=>rfl) (by rw[aH];exact uA (aw h (by decide)))
theorem LT(k:aa):V.beq (.str k)∘(λs:Step=>V.str s.1)=Ft k:=funext λs=>fJ (a:=k)
theorem count_is(h:σ[r]?=some (.lst (vq ss)))(hn:ss.length<=100):Is (w9 .count (.ref r) [.str k]) σ (.int (ss.filter (Ft k)).length):=sQ h (by
 show M.guard (DD (vq ss)) (M.pure (V.int ((vq ss).countP (V.beq (.str k))))) σ=_;rw[LS hn,mw,LT,O.countP_eq_length_filter];rfl)
theorem Ia(h:σ[r]?=some (.lst (vq ss))):Is (uC .In (.str k) (.ref r)) σ (ss.any (Ft k)):=sQ h (by
 show M.guard (true&&(vq ss).all (V.plain 8)) (M.pure ((vq ss).any λy=>V.eqv y (.str k))) σ=_;rw[show(vq ss).all (V.plain 8)=true by rw[fz];exact bh.mpr λz z=>rfl,fS];rfl)
theorem SV:∀ ss:O Step,ss.any (Ft k)=true->∃ (i:aa) (s:Step),ss[i]?=some s/\ss.findIdx? (Ft k)=some i/\∃ t,ss.filter (Ft k)=s::t
 |[]=>λh=>nomatch h
 |x::ss=>λh=>by
  rw[O.findIdx?_cons,il];cases q:Ft k x with
  |true=>exact⟨0,x,rfl,rfl,_,rfl⟩
  |false=>
   rw[dF,q,fZ] at h
   refine(SV ss h).elim λi J=>J.elim λs J=>J.elim λh1 J=>J.elim λh2 J=>J.elim λt h3=> ?_;exact⟨i+1,s,h1,by rw[h2];rfl,t,h3⟩
theorem Vo(h:σ[r]?=some (.lst (vq ss)))(hn:ss.length<=100){i:aa}(hi:ss.findIdx? (Ft k)=some i):Is (w9 .index (.ref r) [.str k]) σ (.int i):=sQ h (by
 show M.guard (DD (vq ss)) (sM (((vq ss).findIdx? (V.beq (.str k))).map λ(i:aa)=>V.int i)) σ=_;rw[LS hn,my,LT,hi];rfl)
noncomputable def aas:ME:= .bool false [.bool true [.cmp (.var 4) [.Is] [.c .none], .cmp (.var 5) [.IsNot] [.c .none]], .bool true [.cmp (.var 4) [.Eq] [.c (.str 23)], .cmp (.var 5) [.NotEq] [.tup [.bin .Sub (.bt .len [.var 2]) (.c (.int 1)), .c (.str 23)]]]]
noncomputable def aat:ME:= .bool true [.call 25 [.var 4], .bool false [.cmp (.var 5) [.Is] [.c .none], .cmp (.item (.var 5) (.c (.int 0))) [.NotEq] [.var 4]]]
theorem E0{v:V}(h:V.plain 8 v=true)(e:V.eqv v v=true):Is (Dp v v) σ true:=by
 show M.guard (V.plain 8 v&&V.plain 8 v) _ σ=_;rw[h,e];rfl
theorem Gc(x:ae)(w:aa):V.eqv (.tup [.int x, .str w]) (.tup [.int x, .str w])=true:=tQ (bC x) (tQ (bC w) rfl)
theorem X0(w:aa):Is (sC prog (d+1) 25 [.str w]) σ (.bool false):=uU yX rfl rfl rfl (W.of (show _=some (XR.ret (.bool false),σ) by kernel_rfl) ⟨rfl, .rfl⟩)
theorem Vp(hn:ss.length<=100){v0 v1 v3:V}:Is (sN (sC prog (d+13)) aas [some v0,some v1,some (.lst (ss.map sL)),some v3,some (BU S ss),some (wC S ss),none,none,none,none,none,none,none]) σ false/\
  Is (sN (sC prog (d+13)) aat [some v0,some v1,some (.lst (ss.map sL)),some v3,some (BU S ss),some (wC S ss),none,none,none,none,none,none,none]) σ false:=by
 unfold BU wC aas aat;cases (vy S ss ss 0 []).1 with
 |some p=>
  have ne:Is (uC .NotEq (.int p.1) (.int p.1)) σ false:=M.then (f:=λr=>M.pure (!r)) (a:=true) (σ1:=σ) (E0 (v:= .int p.1) rfl (bC (p.1:ae))) rfl;exact⟨uJ (c:=false) (BF rfl) (λz=>tP (BF rfl)) nofun,xZ (c:=true) (c1:=false) (uu rfl (Ay (some ((p.1:ae),none)))) λz=>tP (uJ (c:=false) (c1:=false) rfl (λz=>tP (sE (x:= .int p.1) rfl (sX rfl ne))) nofun)⟩
 |none=>
  cases decide (yu ss=[]) with
  |true=>exact⟨uJ (c:=false) (xZ (c:=true) (c1:=false) rfl λz=>rfl) (λz=>tP (BF rfl)) nofun,BF (uu rfl (Ay none))⟩
  |false=>
   have ne:Is (uC .NotEq (.tup [.int ((ss.length:ae) - 1), .str 23]) (.tup [.int ((ss.length:ae) - 1), .str 23])) σ false:=M.then (f:=λr=>M.pure (!r)) (a:=true) (σ1:=σ) (E0 (v:= .tup [.int ((ss.length:ae) - 1), .str 23]) rfl (Gc _ _)) rfl;exact⟨uJ (c:=false) (BF rfl) (λz=>tP (xZ (c:=true) (c1:=false) rfl λz=>tP (sE rfl (sX (vN (tq (xy (uc rfl (yR hn)) rfl rfl) rfl)) ne)))) nofun,BF (uu rfl (X0 23))⟩
end
section
variable{d ck j:aa}{σ:Ob}{S:sD}{ss:O Step}{ext:O (aa×V)}
theorem LU:V.plain 8 (Ez ss)=true/\V.eqv (Ez ss) (Ez ss)=true:=by
 have J:V.plain 7 (xl (ve ss))=true/\V.eqv (xl (ve ss)) (xl (ve ss))=true:=by
  cases ve ss with
  |nil=>exact⟨rfl,rfl⟩
  |cons c A=>exact⟨Enc.int.tup.pl 6 _,(Enc.int.tup.eq _ _).trans (aX rfl)⟩
 constructor
 ·show(true&&(true&&(V.plain 7 (xl (ve ss))&&true)))=true
  rw[J.1];rfl
 ·show((_==_)&&((_==_)&&(V.eqv (xl (ve ss)) (xl (ve ss))&&true)))=true
  rw[J.2,bC,bC];rfl
section
variable{F:Fn}{l:Loc}{t e h:ME}{x i:aa}{r y w:V}{Q:XR->Ob->Prop}
def SW(F:Fn)(l:Loc)(t e:ME)(r:V):X:=M.bind (rZ F t l) λy=>M.bind (yD r y) λb=>if b then zj (rZ F e l) else M.pure (.ret (.bool false))
def SX(F:Fn)(l:Loc)(x:aa)(h:ME)(i:aa):X:=M.bind (yW l x (.ref i)) λl2=>zj (rZ F h l2)
theorem SY(h1:Is (rZ F t l) σ y)(h2:Is (yD r y) σ true)(h3:Is (rZ F e l) σ w)(q:Q (.ret w) σ):W (BY (SW F l t e) (SX F l x h) (.lst [r])) σ λx σ2=>W (XR.xt (r8 F []) x) σ2 Q:=
 W.of (show To (SW F l t e r) σ (.ret w) σ from M.then h1 (M.then h2 (M.then (f:=λv=>M.pure (XR.ret v)) h3 rfl))) (W.of (a:= .ret w) rfl q)
theorem SZ(h1:decide (x<l.length)=true)(h2:Is (rZ F h (l.put x (.ref i))) σ w)(q:Q (.ret w) σ):W (BY (SW F l t e) (SX F l x h) (.ref i)) σ λx σ2=>W (XR.xt (r8 F []) x) σ2 Q:=
 W.of (show To (SX F l x h i) σ (.ret w) σ from M.then (yl (F:=F) h1) (M.then (f:=λv=>M.pure (XR.ret v)) h2 rfl)) (W.of (a:= .ret w) rfl q)
end
theorem aa8{F:Fn}{l l1:Loc}{pre:O MS}{o t e h:ME}{args:O ME}{x:aa}{u:V}{vs:O V}{Q:XR->Ob->Prop}(hp:To (r8 F pre l) σ (.next l1) σ)(ho:Is (rZ F o l1) σ u)(hi:Is (uQ 3 u) σ ())(ha:Is (sR F args l1) σ vs)
  (J:W (F raiser (u::vs)) σ λv σ1=>W (BY (SW F l1 t e) (SX F l1 x h) v) σ1 λx σ2=>W (XR.xt (r8 F []) x) σ2 Q):W (r8 F [.DG pre o args t e x h] l) σ Q:=
 A4 (W.bind (m:=M.bind (r8 F pre l) vz) (f:=λl1=>M.bind (rZ F o l1) λv=>M.bind (uQ 3 v) λz=>M.bind (sR F args l1) λvs=>M.bind (F raiser (v::vs)) (BY (SW F l1 t e) (SX F l1 x h)))
  (W.of (M.then (f:=vz) hp rfl) (W.bind (W.of ho (W.bind (W.of hi (W.bind (W.of ha (W.bind J)))))))))
theorem S0{x y:V}(h:wC S ss= .tup [x,y]):V.plain 8 (.tup [x,y])=true/\V.eqv (.tup [x,y]) (.tup [x,y])=true:=by
 unfold wC at h
 cases e:(vy S ss ss 0 []).1 with
 |some p=>rw[e] at h;cases h;exact⟨rfl,Gc _ _⟩
 |none=>
  rw[e] at h
  cases q:decide (yu ss=[]) with
  |true=>rw[q] at h;cases h
  |false=>rw[q] at h;cases h;exact⟨rfl,Gc _ _⟩
theorem Dw(hS:S.Ok)(K:Ck S ck j ext σ)(he:Az ext)(J:x4 S ss)(hG:∀ s∈ss,A9 S s)(h:ss≠[]):W (sC prog (d+14) 32 [.ref ck,wZ S, .lst (ss.map sL)]) σ λv σ1=>v= .bool true/\(∃ ext,Az ext/\Ck S ck j ext σ1)/\Fr [ck] σ σ1:=vG t7 rfl rfl (by
 refine G5 (i:=3) (k:=4) (e_new (es:=[]) rfl Vn) (ue rfl (NW (d:=d+9) hS J hG h)) rfl rfl (zb (u:= .ref σ.length) rfl rfl (v8 rfl) ?_);have fb:=Fr.app (X:=[ck]) (σ:=σ) (τ:=[.inst 0 [(8, .lst (ss.map sL)),(9, .ref (σ.length+2))], .lst [], .dct [] []]);have hl:PO σ.length ss (.ref (σ.length+2)) (σ++[.inst 0 [(8, .lst (ss.map sL)),(9, .ref (σ.length+2))], .lst [], .dct [] []]):=wW;have Kb:=K.keep (Fr.app (X:=[]) (τ:=[.inst 0 [(8, .lst (ss.map sL)),(9, .ref (σ.length+2))], .lst [], .dct [] []])) ba ba;show W _ (σ++[.inst 0 [(8, .lst (ss.map sL)),(9, .ref (σ.length+2))], .lst [], .dct [] []]) _;generalize σ++[.inst 0 [(8, .lst (ss.map sL)),(9, .ref (σ.length+2))], .lst [], .dct [] []]=σb at fb hl Kb
 have LQ:σ.length∉[ck]:=λh=>aC (xx K.ck) (aR.mp h▸bT _);refine(LP (d:=d+1) hS Kb he J h hl).elim λv LV e z=> ?_;obtain⟨rfl,H,fc⟩:=z;refine vY (ym rfl (vx Kb.ck) rfl e) rfl ?_;have cs:=Vp (d:=d) (σ:=LV) (S:=S) (v0:= .ref ck) (v1:=wZ S) (v3:= .ref σ.length) J.n;refine tS cs.1 (tO (tS cs.2 (tO ?_)));refine Jv (Dh (ys:=ss) (g:=sL) (h:=λs=> .str s.1) (x8 rfl rfl) rfl (λs r=>sG (x:=sL s) rfl rfl rfl) (uA (aw J.n (by decide)))) rfl ?_
 have fd:Fr [ck] σ (LV++[.lst (vq ss)]):=(fb.trans fc).more;have U:(LV++[.lst (vq ss)])[LV.length]?=some (.lst (vq ss)):=wW;have hl2:=(Fr.app (X:=[]) (τ:=[.lst (vq ss)])).get (fc.get hl LQ) ba;have Kd:=H.K.keep (Fr.app (X:=[]) (τ:=[.lst (vq ss)])) ba ba;generalize LV++[.lst (vq ss)]=WB at fd U hl2 Kd
 refine G5 (i:=7) (k:=8) (xy (wn rfl (wp U rfl) rfl (count_is (k:=13) U J.n)) (wn rfl (wp U rfl) rfl (count_is (k:=52) U J.n)) rfl) rfl rfl rfl ?_
 have last:∀ l,l=[some (.ref ck),some (wZ S),some (.lst (ss.map sL)),some (.ref σ.length),some (BU S ss),some (wC S ss),some (.ref LV.length),some (.int ((ss.filter BV).length+(ss.filter w5).length)),some (xl (ve ss)),none,none,none,none]->W (r8 (sC prog (d+13)) (t7.body.drop 8) l) WB λx σ1=>W (XR.val x) σ1 λv σ1=>v= .bool true/\(∃ ext,Az ext/\Ck S ck j ext σ1)/\Fr [ck] σ σ1:=λl e=>by
  subst e
  have kind:Is (rZ (sC prog (d+13)) (.ite (.cmp (.c (.str 13)) [.In] [.var 6]) (.c (.str 12)) (.ite (.cmp (.c (.str 52)) [.In] [.var 6]) (.c (.str 7)) (.c (.str 42)))) [some (.ref ck),some (wZ S),some (.lst (ss.map sL)),some (.ref σ.length),some (BU S ss),some (wC S ss),some (.ref LV.length),some (.int ((ss.filter BV).length+(ss.filter w5).length)),some (xl (ve ss)),none,none,none,none]) WB (G4 ss):=by
   refine vO (sE rfl (sX rfl (Ia (k:=13) U))) ?_;unfold G4;show Is (rZ _ (if ss.any BV then _ else _) _) _ _
   cases ss.any BV with
   |true=>rfl
   |false=>
    refine vO (sE rfl (sX rfl (Ia (k:=52) U))) ?_;show Is (rZ _ (if ss.any w5 then _ else _) _) _ _
    cases ss.any w5<;>rfl
  refine aa8 (M.then (f:=XR.xt (r8 _ [])) (show To (M.bind (rZ (sC prog (d+13)) _ _) λv=>M.bind (sO (sC prog (d+13)) (.var 9) _ v) λl=>M.pure (XR.next l)) WB _ WB from M.then kind (M.then (yl rfl) rfl)) rfl) rfl (vx Kd.ck) rfl ((SU (d:=d) hS Kd (.inr ⟨_,_,rfl⟩) J h hl2).mono λv σe z=> ?_)
  have z1:=z.1;have z2:=z.2.1;have z3:=z.2.2;have fe:=fd.trans z2;rcases z3 with⟨hv,rfl⟩|⟨x,y,i,hv,rfl,hi⟩
  ·rw[hv]
   exact SY (w:= .bool true) rfl (E0 LU.1 LU.2) rfl (.of (a:= .bool true) rfl ⟨rfl,z1,fe⟩)
  ·rw[hv]
   have lp:=S0 hv;exact SZ rfl (zc rfl (sX (vN (tq (tL rfl (tr hi rfl)) (es1 (tL rfl (tr hi rfl))))) (E0 lp.1 lp.2))) (.of (a:= .bool true) rfl ⟨rfl,z1,fe⟩)
 refine tS (sE rfl (sX rfl (Ia (k:=52) U))) ?_;cases q:ss.any (Ft 52) with
 |false=>
  refine tO (last _ ?_);have z:=yN (Ft 52) ss;rw[q] at z
  have e:ve ss=[]:=by unfold ve;rw[show ss.filter w5=[] from cR.mp z];rfl
  rw[e];rfl
 |true=>
  refine(SV ss q).elim λi sd=>sd.elim λs sd=>sd.elim λhs sd=>sd.elim λhi sd=>sd.elim λt hf=> ?_;have hn:=(J.ok s (cv hs)).n;refine vM (uc (es1 (EY (c:=s.2.1) (sG (sG rfl (wn rfl (wp U rfl) rfl (Vo U J.n hi)) (yQ J.n hs)) rfl rfl) rfl (λr=>rfl) hn)) (tup_is (LJ hn (by decide)))) rfl (tO (last _ ?_))
  have e:ve ss=s.2.1::t.map (·.2.1):=by unfold ve;rw[show ss.filter w5=s::t from hf];rfl
  rw[e];rfl)
end
end
section
structure t4(fd n:aa)(σ:Ob):Prop where
 at_:∃ (ns:O ae) (sp:aa),σ[fd]?=some (.lst [.lst (ns.map .int), .int sp])/\ns.length<=100/\sp<=n
def abw(fd n m:aa)(σ:Ob)(v:V)(σ1:Ob):Prop:=(∃ k:aa,k<m/\v= .int k)/\t4 fd (n+1) σ1/\Fr [fd] σ σ1
section
variable{d fd n m:aa}{σ σ1:Ob}
theorem t4.more{k:aa}(H:t4 fd n σ)(h:n<=k):t4 fd k σ:=H.at_.elim λns z=>z.elim λsp z=>⟨ns,sp,z.1,z.2.1,aw z.2.2 h⟩
theorem t4.keep{X:O aa}(H:t4 fd n σ)(f:Fr X σ σ1)(h:fd∉X):t4 fd n σ1:=H.at_.elim λns z=>z.elim λsp z=>⟨ns,sp,f.get z.1 h,z.2⟩
theorem mod_is(x:ae)(hm:0<m):∃ k:aa,k<m/\Is (AP .Mod (.int x) (.int m)) σ (.int k):=by
 have h:(0:ae)<m:=dz.mpr hm;obtain⟨k,hk⟩:=ip (om x (lX h));refine⟨k,dz.mp (hk▸oq x h), ?_⟩;show M.guard (decide ((0:ae)<m)) _ σ=_;rw[aX h,hk];rfl
theorem mul_int{a b:ae}(ha:smallInt a=true)(J:smallInt b=true):Is (AP .Mult (.int a) (.int b)) σ (.int (a*b)):=by
 show M.guard (smallInt a&&smallInt b) _ σ=_;rw[ha,J];rfl
theorem vj(H:t4 fd n σ)(hn:n<=900)(hm:0<m):W (sC prog (d+1) 20 [.ref fd, .int m]) σ (abw fd n m σ):=vG Ie rfl rfl (by
 obtain⟨ns,sp,h,hl,hs⟩:=H;have J:=aw hs hn;have h1:=du (l:=σ) (a:= .lst [.lst (ns.map V.int), .int ((sp+1:aa):ae)]) (xx h);have fr:Fr [fd] σ (σ.set fd (.lst [.lst (ns.map V.int), .int ((sp+1:aa):ae)])):= .set (.inl (.head _)) .rfl;refine vM (sG rfl rfl (sQ h rfl)) rfl (Eo (v:= .int ((sp:ae)+1)) (u:= .ref fd) (w:= .int 1) rfl rfl rfl (sQ h rfl) ?_);show W _ (σ.set fd (.lst [.lst (ns.map V.int), .int ((sp+1:aa):ae)])) _;generalize σ.set fd (.lst [.lst (ns.map V.int), .int ((sp+1:aa):ae)])=σ1 at h1 fr
 have F1:t4 fd (n+1) σ1:=⟨ns,sp+1,h1,hl,bZ hs⟩;have U:Is (tZ (.ref fd) (.int 0)) σ1 (.lst (ns.map V.int)):=sQ h1 rfl
 have len:Is (tN .len [.lst (ns.map V.int)]) σ1 (.int ns.length):=by
  have z:=yO (σ:=σ1) (xs:=ns.map V.int) (by rw[aH];exact aw hl (by decide))
  rwa [aH] at z
 refine tS (c:=decide ((sp:ae)<ns.length)) (sE rfl (sX (uc (es1 (sG rfl rfl U)) len) rfl)) ?_;cases hlt:decide ((sp:ae)<ns.length) with
 |true=>
  have hk:=dz.mp (aP hlt);refine(mod_is (σ:=σ1) ns[sp] hm).elim λk sd=> ?_;have k1:=sd.1;have k2:=sd.2;exact tX (xy (sG (sG rfl rfl U) rfl (yC (v:= .int ns[sp]) (by rw[ca,br hk];rfl) (aw J (by decide)))) rfl k2) (.of (a:= .ret _) rfl (.of (a:= .int k) rfl ⟨⟨k,k1,rfl⟩,F1,fr⟩))
 |false=>
  have s1:smallInt (sp:ae)=true:=zr (cQ sp) (cB.mpr (aw J (by decide)))
  have s7:smallInt (7*(sp:ae))=true:=by
   unfold smallInt;rw[aX (bK (by decide) (ae.mul_nonneg (by decide) (cQ sp))),aX (bK (mK (cB.mpr J) (by decide)) (by decide))];rfl
  obtain⟨k,k1,k2⟩:=mod_is (σ:=σ1) ((7*(sp:ae)*sp+3*sp+ns.length)%103) hm;exact tO (tX (xy (xy (xy (xy (xy (xy rfl rfl (mul_int rfl s1)) rfl (mul_int s7 s1)) (xy rfl rfl (mul_int rfl s1)) rfl) (uc (es1 (sG rfl rfl U)) len) rfl) rfl rfl) rfl k2) (.of (a:= .int k) rfl ⟨⟨k,k1,rfl⟩,F1,fr⟩)))
noncomputable def toldOf(w c:aa):Told:=if w==3||w==5||w==6 then(w,0) else(w,c)
theorem X3:((bg 7).all λw=>(bg 5).all λc=>x1.contains (toldOf w c))=true:=by decide
theorem Vq{F:Fn}{v0:V}:∀ p∈(bg 7).flatMap (λw=>(bg 5).map λc=>(w,c)),r8 F (CK.body.drop 1) [some v0,some (.int (p.1:aa)),some (.int (p.2:aa)),none] σ=some (.ret (tG (toldOf p.1 p.2)),σ):=by
 show ∀ p∈[(0,0),(0,1),(0,2),(0,3),(0,4),(1,0),(1,1),(1,2),(1,3),(1,4),(2,0),(2,1),(2,2),(2,3),(2,4),(3,0),(3,1),(3,2),(3,3),(3,4),(4,0),(4,1),(4,2),(4,3),(4,4),(5,0),(5,1),(5,2),(5,3),(5,4),(6,0),(6,1),(6,2),(6,3),(6,4)],_
 repeat (refine bj.mpr ⟨by kernel_rfl, ?_⟩)
 exact λz h=>aC h ba
theorem Vr(H:t4 fd n σ)(hn:n<=800):W (sC prog (d+2) 21 [.ref fd]) σ λv σ1=>(∃ t∈x1,v=tG t)/\t4 fd (n+2) σ1/\Fr [fd] σ σ1:=vG CK rfl rfl (by
 refine(vj (d:=d) H (aw hn (by decide)) (m:=7) (by decide)).elim λv σ1 e q=> ?_
 obtain⟨⟨w,J,rfl⟩,H1,f1⟩:=q;refine(vj (d:=d) H1 (aw (bZ hn) (by decide)) (m:=5) (by decide)).elim λv σ2 e2 q=> ?_
 obtain⟨⟨c,c1,rfl⟩,U,f2⟩:=q;refine G5 (i:=1) (k:=2) (ue rfl e) (ue rfl e2) rfl rfl (W.of (Vq (w,c) (ir.mpr ⟨w,b5.mpr J,bG.mpr ⟨c,b5.mpr c1,rfl⟩⟩)) (.of (a:=tG (toldOf w c)) rfl ⟨⟨_,df.mp (tU (tU X3 (b5.mpr J)) (b5.mpr c1)),rfl⟩,U,f1.trans f2⟩)))
end
end
section
structure AN(l:sr):Prop where
 x:l.1=0\/l.1=1
 s:l.2.1∈signs
 k: -1<=l.2.2/\l.2.2<=4
theorem aau:((bg 10).all λn=>HT.contains ((n:aa) - 3:ae))=true:=by decide
theorem PS{k:ae}(h: -3<=k)(h':k<=6):k∈HT:=
 (ip (show 0<=k+3 from fo h 3)).elim λn e=>by
  rw[show k=n - 3 from(qg k 3).symm.trans (av (· - 3) e)]
  exact df.mp (tU aau (b5.mpr (lu (cB.mp (e▸fo h' 3:(n:ae)<=(9:aa))))))
theorem S5{x:ae}{s:aa}{k:ae}(hx:x=0\/x=1)(hs:s∈signs)(h: -2<=k)(h':k<=5):yt (x,s,k):=by
 have a:=PS (bK (by decide) h) (bK h' (by decide))
 have b:=PS (k:=k+1) (bK (by decide) (fo h 1)) (fo h' 1)
 have c:=PS (k:=k - 1) (gD h 1) (bK (gD h' 1) (by decide))
 exact⟨⟨hx,hs,a⟩,hx,x0 (P:=λs=>(neg (x,s,k)).2.1∈signs) hs (show 3∈signs by decide) (show 4∈signs by decide) (show 1∈signs by decide) (show 2∈signs by decide),x0 (P:=λs=>(neg (x,s,k)).2.2∈HT) hs a b a c⟩
theorem AN.in_{l:sr}(h:AN l):yt l:=S5 h.x h.s (bK (by decide) h.k.1) (bK h.k.2 (by decide))
section
variable{d fd n:aa}{σ σ1:Ob}{F:Fn}{l:Loc}{a b:ME}{x y v:V}
theorem Cz(h:Is (rZ F a l) σ x)(h2:To (rZ F b l) σ y σ1)(k:Is (tZ x y) σ1 v):To (rZ F (.item a b) l) σ v σ1:=M.then h (M.then h2 k)
theorem MP(H:t4 fd n σ)(hn:n<=800){l:sr}(hl:AN l):W (sC prog (d+2) 30 [.ref fd,sF l]) σ λv σ1=>(∃ l',yt l'/\v=sF l')/\t4 fd (n+2) σ1/\Fr [fd] σ σ1:=vG zG rfl rfl (by
 refine(vj (d:=d) H (aw hn (by decide)) (m:=4) (by decide)).elim λv σ1 e q=> ?_
 obtain⟨⟨w,w1,rfl⟩,H1,f1⟩:=q;obtain⟨x,s,k⟩:=l;obtain⟨hx,hs,hk⟩:=hl;have hk: -1<=k/\k<=4:=hk;refine vY (ue rfl e) rfl ?_;have fin:∀ {x:ae} {s:aa} {k:ae},(x=0\/x=1)->s∈signs-> -2<=k->k<=5->∀ {σ2:Ob},t4 fd (n+2) σ2->Fr [fd] σ σ2->W (XR.val (.ret (sF (x,s,k)))) σ2 λv σ1=>(∃ l',yt l'/\v=sF l')/\t4 fd (n+2) σ1/\Fr [fd] σ σ1:=λhx hs h h' z J f2=> .of (a:=sF _) rfl ⟨⟨_,S5 hx hs h h',rfl⟩,J,f2⟩;have J:=H1.more (cU _);have h1: -2<=k:=bK (by decide) hk.1
 have h2:k<=5:=bK hk.2 (by decide)
 rcases(by decide:∀ w<4,w=0\/w=1\/w=2\/w=3) w w1 with rfl|rfl|rfl|rfl
 ·exact tS (c:=true) rfl (tX (v:=sF (x,s,k+0 - 1)) rfl (.of (a:= .ret _) rfl (fin hx hs (gD (fo hk.1 0) 1) (bK (gD (fo hk.2 0) 1) (by decide)) J f1)))
 ·exact tS (c:=true) rfl (tX (v:=sF (x,s,k+2 - 1)) rfl (.of (a:= .ret _) rfl (fin hx hs (bK (by decide) (gD (fo hk.1 2) 1)) (gD (fo hk.2 2) 1) J f1)))
 ·exact tS (c:=false) rfl (tO (tX (vO (c:=true) (v:=sF (1 - x,s,k)) rfl rfl) (fin (x:=1 - x) (hx.elim (λe=> .inr (by show 1 - x=1;rw[show x=0 from e];rfl)) λe=> .inl (by show 1 - x=0;rw[show x=1 from e];rfl)) hs h1 h2 J f1)))
 ·refine(vj (d:=d) H1 (aw (bZ hn) (by decide)) (m:=3) (by decide)).elim λv σ2 e2 q=> ?_
  obtain⟨⟨u,u1,rfl⟩,H3,f2⟩:=q
  have U:∃ s'∈signs,Is (tZ (.tup [.str 2, .str 4, .str 3]) (.int u)) σ2 (.str s'):=by
   rcases(by decide:∀ u<3,u=0\/u=1\/u=2) u u1 with rfl|rfl|rfl
   ·exact⟨2,by decide,rfl⟩
   ·exact⟨4,by decide,rfl⟩
   ·exact⟨3,by decide,rfl⟩
  refine U.elim λs' sd=> ?_;have hs':=sd.1;have hi:=sd.2;exact tS (c:=false) rfl (tO (Cs (vO (c:=false) rfl (vN (tq (v:= .int x) rfl (tq (Cz rfl (ue rfl e2) hi) (es1 (v:= .int k) rfl))))) (fin hx hs' h1 h2 H3 (f1.trans f2)))))
end
end
section
structure xP(S:sD)(s:Step):Prop where
 c:∀ l∈s.2.1,AN l
 n:s.2.1.length<=2
 p:s.2.2.1.length<=40
 t:LF S s.2.2.2
 g:S.goal=0\/(s.1≠52/\∀ a b,s.2.2.2=some (a,some b)->s.2.1≠xz s.2.1 a b)
theorem xP.ok{S:sD}{s:Step}(h:xP S s):Ey S s:=⟨λl J=>(h.c l J).in_,h.n,aw h.p (by decide),h.t⟩
theorem xP.no{S:sD}{s:Step}(h:xP S s):A9 S s:=h.g.imp_right λh=> .inl h.1
section
variable{σ σ1 σ2:Ob}{xs ys:O V}{k:aa}{c:O sr}{F:Fn}{l:Loc}{a b:ME}{x y v:V}
theorem EA(h:k<=1000)(h':xs.length<=1000):wb (k:ae) xs.length=true:=tQ (aX (cQ k)) (tQ (zr (cQ k) (cB.mpr h)) (uA h'))
theorem LW(h:k<=1000)(h':xs.length<=1000):Is (uO (.lst xs) .none (.int k) .none) σ (.lst (xs.take k)):=by show M.guard (wb k xs.length) _ σ=_;rw[EA h h'];rfl
theorem Vt(h:k<=1000)(h':xs.length<=1000):Is (uO (.tup xs) .none (.int k) .none) σ (.tup (xs.take k)):=by show M.guard (wb k xs.length) _ σ=_;rw[EA h h'];rfl
theorem LX(h:k<=1000)(h':xs.length<=1000):Is (uO (.lst xs) (.int k) .none .none) σ (.lst (xs.drop k)):=by show M.guard (wb k xs.length) _ σ=_;rw[EA h h'];rfl
theorem LY(h:k<=1000)(h':xs.length<=1000):Is (uO (.tup xs) (.int k) .none .none) σ (.tup (xs.drop k)):=by show M.guard (wb k xs.length) _ σ=_;rw[EA h h'];rfl
theorem CA(h:xs.length+ys.length<=1000):Is (AP .Add (.lst xs) (.lst ys)) σ (.lst (xs++ys)):=by show M.guard (decide _) _ σ=_;rw[uA h];rfl
theorem NX(h:xs.length+ys.length<=1000):Is (AP .Add (.tup xs) (.tup ys)) σ (.tup (xs++ys)):=by show M.guard (decide _) _ σ=_;rw[uA h];rfl
theorem Bc{op:dT}(h:To (rZ F a l) σ x σ1)(h2:To (rZ F b l) σ1 y σ2)(k:Is (AP op x y) σ2 v):To (rZ F (.bin op a b) l) σ v σ2:=M.then h (M.then h2 k)
theorem S7{l:sr}(h:l∈Dk c):l∈c:=by
 rcases c with _|⟨a,_|⟨b,_|⟨x,r⟩⟩⟩
 ·exact h
 ·exact h
 ·have h:l∈(if a=b then[a] else if NT a b then[a,b] else[b,a]):=h
  split at h
  ·exact aW.mpr (.inl (aR.mp h))
  ·split at h
   ·exact h
   ·exact(aW.mp h).elim (λe=>e▸ .tail _ (.head _)) λh=>aR.mp h▸ .head _
 ·exact h
theorem IZ:(Dk c).length<=c.length:=by
 rcases c with _|⟨a,_|⟨b,_|⟨x,r⟩⟩⟩
 ·exact aU _
 ·exact aU _
 ·show(if a=b then[a] else if NT a b then[a,b] else[b,a]).length<=2
  split
  ·exact cU _
  ·split<;>exact aU _
 ·exact aU _
end
end
section
def WC(S:sD)(fd m:aa)(σ:Ob)(v:V)(σ1:Ob):Prop:=(∃ s,Ey S s/\A9 S s/\v=sL s)/\t4 fd (m+10) σ1/\Fr [fd] σ σ1
section
variable{d fd m n:aa}{σ:Ob}{S:sD}{ss:O Step}{s:Step}
theorem Gd{α:Type}{xs J:O α}{u:aa}(h:u<xs.length)(k:J.length<=1):(xs.take u++J++xs.drop (u+1)).length<=xs.length:=by
 rw[bv,bv,jL,fN,fW (bB h)];exact aw (cO (cw k u) _) (bF (oF h))
theorem X4{F:Fn}{l:Loc}{σ1:Ob}{a b:ME}{x y v:V}(h:To (rZ F a l) σ x σ1)(h2:Is (rZ F b l) σ1 y)(k:Is (tZ x y) σ1 v):To (rZ F (.item a b) l) σ v σ1:=M.then h (M.then h2 k)
set_option maxHeartbeats 4000000 in
theorem Vu(H:t4 fd m σ)(hm:m<=700)(hb:∀ s∈ss,xP S s)(hn:ss.length<=50)(hs:ss[n]?=some s):W (sC prog (d+3) 31 [.ref fd, .lst (ss.map sL), .int n]) σ (WC S fd m σ):=vG Ah rfl rfl (by
 have hsn:ss.length<=100:=aw hn (by decide)
 have B:=hb s (cv hs);have lt:=(bD.mp hs).1;have cl:(s.2.1.map sF).length<=1000:=LG B.n (by decide)
 have pl:(s.2.2.1.map V.int).length<=1000:=(aH _).symm▸aw B.p (by decide)
 refine(vj (d:=d+1) H (aw hm (by decide)) (m:=8) (by decide)).elim λv σ1 e q=> ?_
 obtain⟨⟨w,w1,rfl⟩,H1,f1⟩:=q;have end_:∀ (s':Step) {σ2:Ob},Ey S s'->A9 S s'->t4 fd (m+10) σ2->Fr [fd] σ σ2->W (XR.val (.ret (sL s'))) σ2 (WC S fd m σ):=λs' r h1 h2 h3 h4=> .of (a:=sL s') rfl ⟨⟨s',h1,h2,rfl⟩,h3,h4⟩;have m1:m+1<=900:=aw (cO hm 1) (by decide)
 have m2:m+2<=800:=aw (cO hm 2) (by decide)
 have more:∀ {k:aa} {σ2:Ob},t4 fd (m+k) σ2->k<=10->t4 fd (m+10) σ2:=λH h=>H.more (cw h m);refine Jy [3,4,5,6] (vs:=[.str s.1,ud s.2.1,tF s.2.2.1,ui s.2.2.2]) (sG rfl rfl (yQ hsn hs)) rfl (G5 (ue rfl e) (uc rfl (NU cl)) rfl rfl ?_);have c3:∀ k:ae,Is (uC .Eq (.int w) (.int k)) σ1 ((w:ae)==k):=λk=>rfl
 have aav:Is (tN .len [.lst (s.2.1.map sF)]) σ1 (.int s.2.1.length):=by
  have z:=yO (σ:=σ1) cl;rwa [aH] at z
 have abx:Is (tN .len [tF s.2.2.1]) σ1 (.int s.2.2.1.length):=by
  have z:Is (tN .len [tF s.2.2.1]) σ1 (.int (s.2.2.1.map V.int).length):=HW pl;rwa [aH] at z
 refine tS (xZ (sE rfl (sX rfl rfl)) λr=>tP (sE rfl (sX rfl (Enc.lit.lst.ne (k:=6) rfl s.2.1 [])))) ?_;cases h1:decide ((w:ae)<3)&& !decide (s.2.1=[]) with
 |true=>
  have hne:s.2.1≠[]:=jk (fO.mp (rY h1).2);refine(vj (d:=d+1) H1 m1 (jx.mpr hne)).elim λv σ2 e2 q=> ?_;obtain⟨⟨u,J,rfl⟩,H2,f2⟩:=q;have u9:u<=1000:=aw (bB J) (aw B.n (by decide))
  refine vY (ue (tq rfl (es1 (uc rfl aav))) e2) rfl ?_
  have mid:∃ (σ3:Ob) (U:O sr),To (rZ (sC prog (d+2)) (.ite (.cmp (.var 7) [.Eq] [.c (.int 0)]) (.list []) (.list [.call 30 [.var 0, .item (.var 8) (.var 9)]])) ((((G3 [3,4,5,6] [.str s.1,ud s.2.1,tF s.2.2.1,ui s.2.2.2] (uZ Ah [.ref fd, .lst (ss.map sL), .int n])).put 7 (.int w)).put 8 (.lst (s.2.1.map sF))).put 9 (.int u))) σ2 (.lst (U.map sF)) σ3/\U.length<=1/\(∀ l∈U,yt l)/\t4 fd (m+4) σ3/\Fr [fd] σ2 σ3:=by
   have c0:Is (uC .Eq (.int w) (.int 0)) σ2 ((w:ae)==0):=rfl;cases h0:(w:ae)==0 with
   |true=>rw[h0] at c0;exact⟨σ2,[],vO (sE (x:= .int w) rfl (sX rfl c0)) rfl,cg 1,(λl h=>nomatch h),H2.more (aV _ 2), .rfl⟩
   |false=>
    rw[h0] at c0
    refine(MP (d:=d) H2 m2 (B.c _ (eR J))).elim λv σ3 e3 q=> ?_;obtain⟨⟨l',hl',rfl⟩,H3,f3⟩:=q;exact⟨σ3,[l'],vO (sE (x:= .int w) rfl (sX rfl c0)) (GT (es1 (ue (tq (v:= .ref fd) rfl (es1 (sG (x:= .lst (s.2.1.map sF)) (y:= .int u) rfl rfl (yC (v:=sF s.2.1[u]) (by rw[ca,br J];rfl) u9)))) e3))),aU 1,(λl h=>aR.mp h▸hl'),H3,f3⟩
  refine mid.elim λσ3 sd=>sd.elim λU sd=>sd.elim λme sd=> ?_;have m3:=sd.1;have m4:=sd.2.1;have H3:=sd.2.2.1;have f3:=sd.2.2.2;have bn:=B.n;have ll:(s.2.1.take u++U++s.2.1.drop (u+1)).length<=2:=aw (Gd J m3) bn
  have em:(s.2.1.map sF).take u++U.map sF++(s.2.1.map sF).drop (u+1)=(s.2.1.take u++U++s.2.1.drop (u+1)).map sF:=by
   rw[cW,cW,gz,io]
  have hl:∀ l∈Dk (s.2.1.take u++U++s.2.1.drop (u+1)),yt l:=λl h=>by
   rcases aG.mp (S7 h) with h|h
   ·exact(aG.mp h).elim (λh=>(B.c l (ke h)).in_) (m4 l)
   ·exact(B.c l (qh h)).in_
  refine vY (Bc (Bc (xY rfl rfl rfl rfl (LW (k:=u) u9 cl)) me (CA ?_)) (xY (y:= .int ((u+1:aa):ae)) rfl rfl rfl rfl (LX (k:=u+1) (aw J (aw bn (by decide))) cl)) (CA ?_)) rfl ?_
  ·rw[fN,aH,aH];exact aw (jy (aw (gJ _ _) bn) m3) (by decide)
  ·rw[<-bv,em,aH];exact aw ll (by decide)
  rw[em];exact tX (vN (tq rfl (tq (uc (es1 (uc rfl (IX ll))) (tup_is (LG (aw IZ ll) (by decide)))) rfl))) (.of (a:= .ret (sL (s.1,Dk (s.2.1.take u++U++s.2.1.drop (u+1)),s.2.2.1,s.2.2.2))) rfl (end_ _ ⟨hl,aw IZ ll,B.ok.p,B.t⟩ (B.g.imp_right λh=> .inl h.1) (more H3 (by decide)) ((f1.trans f2).trans f3)))
 |false=>
  refine tO (tS (xZ (sE rfl (sX rfl (c3 3))) λr=>tP (sE rfl (sX rfl (Enc.int.tup.ne (k:=7) rfl s.2.2.1 [])))) ?_);cases (w:ae)==3&& !decide (s.2.2.1=[]) with
  |true=>
   refine tX (vN (tq rfl (tq rfl (tq (xY rfl rfl rfl rfl (LY (k:=1) (by decide) pl)) rfl)))) (.of (a:= .ret (sL (s.1,s.2.1,s.2.2.1.drop 1,s.2.2.2))) (by rw[<-io];rfl) (end_ _ ⟨B.ok.c,B.n,aw (by rw[jL];exact l8 _ _) B.ok.p,B.t⟩ B.no (more (k:=1) H1 (by decide)) f1))
  |false=>
   refine tO (tS (xZ (sE rfl (sX rfl (c3 4))) λr=>tP (sE rfl (sX rfl (Enc.int.tup.ne (k:=7) rfl s.2.2.1 [])))) ?_);cases h4:(w:ae)==4&& !decide (s.2.2.1=[]) with
   |true=>
    have hne:s.2.2.1≠[]:=jk (fO.mp (rY h4).2);refine(vj (d:=d+1) H1 m1 (jx.mpr hne)).elim λv σ2 e2 q=> ?_;obtain⟨⟨u,J,rfl⟩,H2,f2⟩:=q;have u9:u+1<=1000:=aw J (aw B.p (by decide))
    refine(vj (d:=d+1) H2 (aw m2 (by decide)) (m:=n+1) (eU n)).elim λv σ3 e3 q=> ?_
    obtain⟨⟨k,k1,rfl⟩,H3,f3⟩:=q
    have em:(s.2.2.1.map V.int).take u++[V.int k]++(s.2.2.1.map V.int).drop (u+1)=(s.2.2.1.take u++[(k:ae)]++s.2.2.1.drop (u+1)).map V.int:=by
     rw[cW,cW,gz,io];rfl
    have ll:(s.2.2.1.take u++[(k:ae)]++s.2.2.1.drop (u+1)).length<=50:=aw (Gd J (aU 1)) (aw B.p (by decide))
    refine vY (ue (tq rfl (es1 (uc rfl abx))) e2) rfl (Cs (vN (tq rfl (tq rfl (tq (Bc (Bc (xY rfl rfl rfl rfl (Vt (k:=u) (gd u9) pl)) (vN (es1 (ue (tq rfl (es1 (v:= .int ((n+1:aa):ae)) rfl)) e3))) (NX ?_)) (xY (y:= .int ((u+1:aa):ae)) rfl rfl rfl rfl (LY (k:=u+1) u9 pl)) (NX ?_)) rfl)))) (.of (a:= .ret (sL (s.1,s.2.1,s.2.2.1.take u++[(k:ae)]++s.2.2.1.drop (u+1),s.2.2.2))) (by rw[em];rfl) (end_ _ ⟨B.ok.c,B.n,ll,B.t⟩ B.no (more (k:=3) H3 (by decide)) ((f1.trans f2).trans f3))))
    ·rw[fN,aH];exact aw (cO (gJ _ _) 1) (aw (bZ B.p) (by decide))
    ·rw[<-bv,em,aH];exact aw ll (by decide)
   |false=>
    refine tO (tS (sE rfl (sX rfl (c3 5))) ?_);cases (w:ae)==5 with
    |true=>
     refine(vj (d:=d+1) H1 m1 (m:=5) (by decide)).elim λv σ2 e2 q=> ?_
     obtain⟨⟨u,J,rfl⟩,H2,f2⟩:=q
     have hit:∃ r',Is (tZ (.tup [.str 54, .str 41, .str 13, .str 52, .str 42]) (.int u)) σ2 (.str r'):=by
      rcases(by decide:∀ u<5,u=0\/u=1\/u=2\/u=3\/u=4) u J with rfl|rfl|rfl|rfl|rfl
      ·exact⟨54,rfl⟩
      ·exact⟨41,rfl⟩
      ·exact⟨13,rfl⟩
      ·exact⟨52,rfl⟩
      ·exact⟨42,rfl⟩
     refine hit.elim λr' hi=> ?_;exact Cs (vN (tq (Cz rfl (ue rfl e2) hi) rfl)) (.of (a:= .ret (sL (r',s.2.1,s.2.2.1,s.2.2.2))) rfl (end_ _ ⟨B.ok.c,B.n,B.ok.p,B.t⟩ (B.g.imp_right λh=> .inr h.2) (more (k:=2) H2 (by decide)) (f1.trans f2)))
    |false=>
     refine tO (tS (xZ (sE rfl (sX rfl (c3 6))) λr=>tP (sE (uc rfl aav) (sX rfl PH))) ?_);cases (w:ae)==6&&decide ((s.2.1.length:ae)>1) with
     |true=>
      have rv:Is (uO (ud s.2.1) .none .none (.int (-1))) σ1 (ud s.2.1.reverse):=by
       show M.guard (decide ((s.2.1.map sF).length<=lim)) (M.pure (V.tup (s.2.1.map sF).reverse)) σ1=_;rw[uA cl,<-eY];rfl
      exact tX (vN (tq rfl (tq (xY rfl rfl rfl rfl rv) rfl))) (.of (a:= .ret (sL (s.1,s.2.1.reverse,s.2.2.1,s.2.2.2))) rfl (end_ _ ⟨λl hl=>B.ok.c l (eX.mp hl),by show s.2.1.reverse.length<=2;rw[fv];exact B.n,B.ok.p,B.t⟩ (B.g.imp_right λh=> .inl h.1) (more (k:=1) H1 (by decide)) f1))
     |false=>
      refine(vj (d:=d+1) H1 m1 (m:=ss.length) (bH (cg n) lt)).elim λv σ2 e2 q=> ?_;obtain⟨⟨u,J,rfl⟩,H2,f2⟩:=q;have hu:=br J;have it:=X4 (F:=sC prog (d+2)) (l:=((G3 [3,4,5,6] [.str s.1,ud s.2.1,tF s.2.2.1,ui s.2.2.2] (uZ Ah [.ref fd, .lst (ss.map sL), .int n])).put 7 (.int w)).put 8 (.lst (s.2.1.map sF))) (b:= .c (.int 3)) (y:= .int 3) (v:=ui (ss[u]).2.2.2) (Cz (a:= .var 1) rfl (ue (es:=[.var 0, .bt .len [.var 1]]) (tq (v:= .ref fd) rfl (es1 (uc rfl (yR hsn)))) e2) (yQ hsn hu)) rfl rfl;exact tO (Cs (vN (tq rfl (tq rfl (tq rfl (es1 it))))) (end_ (s.1,s.2.1,s.2.2.1,(ss[u]).2.2.2) ⟨B.ok.c,B.n,B.ok.p,(hb _ (eR J)).t⟩ (B.g.imp_right λh=> .inl h.1) (more (k:=2) H2 (by decide)) (f1.trans f2))))
end
end
section
set_option genCtorIdx false in
inductive SK where
 |bar (a b:ae)
 |Fu (a b:ae)
 |Ac (a b:ae)
 |cut (c:O sr) (ps:O ae)
noncomputable def Ad(a b:ae):O sr:=[(0,1,a),(1,1,b)]
noncomputable def SK.c(goal:aa):SK->O sr
 | .bar a b=>Ad a b
 | .Fu a b=>Ad a b
 | .Ac _ b=>[yb goal b]
 | .cut c _=>c
noncomputable def SK.ps:SK->O ae
 | .cut _ ps=>ps
 |_=>[]
def LZ(S:sD)(a b:ae):aa:=((bg S.sW.length).filter λk=>match S.sW[k]? with|some t=> !tH t a b|none=>false).headD 0
def SK.step(S:sD):SK->Step
 | .bar a b=>(54,Ad a b,[],some ((LZ S a b:ae),none))
 | .Fu a b=>(52,Ad a b,[],some (a,some b))
 | .Ac a b=>(13,[yb S.goal b],[],some (a,some b))
 | .cut c ps=>(41,c,ps,none)
structure vk where
 ss:O SK
 ks:O V
 vs:O V
 best:ax (aa×ae)
noncomputable def uX(a b:ae):V:= .tup [.int a, .int b]
noncomputable def isBetter(goal:aa)(b:ae)(st:vk):aj:=match st.best with
 |none=>true
 |some i=>(decide (b<i.2)==decide (goal=1))&& !decide (b=i.2)
def we(goal:aa)(p:ae->ae->aj)(a:ae)(st:vk)(b:ae):vk:=
 if p a b then⟨st.ss++[.bar a b],(dictPut (uX a b) (.int st.ss.length) st.ks st.vs).1,(dictPut (uX a b) (.int st.ss.length) st.ks st.vs).2,st.best⟩ else if goal==0 then⟨st.ss++[.Fu a b],(dictPut (uX a b) (.int st.ss.length) st.ks st.vs).1,(dictPut (uX a b) (.int st.ss.length) st.ks st.vs).2,st.best⟩ else
  if isBetter goal b st then⟨st.ss++[.Ac a b],st.ks,st.vs,some (st.ss.length,b)⟩ else st
def BH(B:O ae)(goal:aa)(p:ae->ae->aj):vk:=([0,1]:O ae).foldl (λst a=>B.foldl (we goal p a) st) ⟨[],[],[],none⟩
noncomputable def posOf:ax V->ae
 |some (.int i)=>i
 |_=>0
def S8(B:O ae)(st:vk)(a:ae):O ae:=((B.filter λb=>st.ks.any (V.beq (uX a b))).map λb=>posOf (dictAt (uX a b) st.ks st.vs))++(match st.best with|none=>[]|some i=>[(i.1:ae)])
def Dl(B:O ae)(st:vk)(q:O SK×O ae)(a:ae):O SK×O ae:=(q.1++[.cut [(0,1,a)] (S8 B st a)],q.2++[(q.1.length:ae)])
def cuts(B:O ae)(st:vk):O SK×O ae:=([0,1]:O ae).foldl (Dl B st) (st.ss,[])
def EB(B:O ae)(goal:aa)(p:ae->ae->aj):O SK:=(cuts B (BH B goal p)).1++[.cut [] (cuts B (BH B goal p)).2]
noncomputable def LB(B:O ae):ae->O ae:=λx=>if x==0 then[0,1] else B
noncomputable def aaw(l:sr):aj:=[0,1].contains l.1&&[1,2,3,4].contains l.2.1&&(decide (-1<=l.2.2)&&decide (l.2.2<=4))
noncomputable def NY(goal:aa)(sk:O SK)(k:ae):O sr:=match sk[k.toNat]? with
 |some s=>s.c goal
 |none=>[]
noncomputable def SK.next(A:O (O sr)):SK->O (O sr)
 | .Fu a b=>A++[Ad a b]
 |_=>A
noncomputable def PT(B:O ae)(a b:ae):aj:=[0,1].contains a&&B.contains b
def SK.ok(B:O ae)(goal:aa)(p:ae->ae->aj)(sk:O SK)(A:O (O sr)):SK->aj
 | .bar a b=>PT B a b&&p a b
 | .Fu a b=>PT B a b&&(!p a b&&(goal==0&&(xm A (Ad a b)&& !decide (Ad a b∈A))))
 | .Ac a b=>PT B a b&&(!p a b&&(!(goal==0)&& !decide ([yb goal b]=xz [yb goal b] a b)))
 | .cut c ps=>u6 (LB B) c (ps.map (NY goal sk))
def Vv(goal n:aa)(s:SK):aj:=vD (s.c goal)&&(x2 n s.ps&&((s.c goal).all aaw&&(decide ((s.c goal).length<=2)&&decide (s.ps.length<=40))))
def G6(B:O ae)(goal:aa)(p:ae->ae->aj)(sk:O SK):O SK->aa->O (O sr)->aj
 |[],_,_=>true
 |s::r,n,A=>(Vv goal n s&&s.ok B goal p sk A)&&G6 B goal p sk r (n+1) (s.next A)
def PU(B:O ae)(goal:aa)(p:ae->ae->aj):aj:=G6 B goal p (EB B goal p) (EB B goal p) 0 []&&decide ((EB B goal p).length<=50)
noncomputable def G7{ι:Type}:O ι->O (O ι)
 |[]=>[[]]
 |x::xs=>G7 xs++(G7 xs).map (x:: ·)
noncomputable def Dm(B:O ae):O (ae×ae):=([0,1]:O ae).flatMap λa=>B.map λb=>(a,b)
def CB(B:O ae)(goal:aa):aj:=(G7 (Dm B)).all λq=>PU B goal λa b=>q.contains (a,b)
theorem aax:(F9.all λB=>CB B 0&&(CB B 1&&CB B 2))=true:=by decide+kernel
end
section
theorem zZ{ι:Type}(p:ι->aj):∀ xs:O ι,xs.filter p∈G7 xs
 |[]=> .head _
 |x::xs=>aG.mpr (by
  cases h:p x
  ·rw[m8 (by rw[h];decide)];exact .inl (zZ p xs)
  ·rw[m7 h];exact .inr (bG.mpr ⟨_,zZ p xs,rfl⟩))
section
variable{B:O ae}{goal:aa}{p p':ae->ae->aj}{S:sD}{sk:O SK}{A:O (O sr)}{n:aa}
theorem Dn{a:ae}:∀ (bs:O ae) (st:vk),(∀ b∈bs,p a b=p' a b)->bs.foldl (we goal p a) st=bs.foldl (we goal p' a) st
 |[]=>λy y=>rfl
 |b::bs=>λst h=>by
  show bs.foldl _ (we goal p a st b)=bs.foldl _ (we goal p' a st b);have e:we goal p a st b=we goal p' a st b:=by unfold we;rw[h b (.head _)]
  rw[e];exact Dn bs _ λz hz=>h z (.tail _ hz)
theorem PV(h:∀ a,(a=0\/a=1)->∀ b∈B,p a b=p' a b):BH B goal p=BH B goal p':=by
 show B.foldl (we goal p 1) (B.foldl (we goal p 0) _)=B.foldl (we goal p' 1) (B.foldl (we goal p' 0) _);rw[Dn B _ (h 0 (.inl rfl)),Dn B _ (h 1 (.inr rfl))]
theorem CC{a b:ae}(h:PT B a b=true):(a=0\/a=1)/\b∈B:=
 have z:=rY h
 ⟨by have z:=df.mp z.1;simpa using z,df.mp z.2⟩
theorem X5(h:∀ a,(a=0\/a=1)->∀ b∈B,p a b=p' a b)(s:SK)(e:s.ok B goal p sk A=true):s.ok B goal p' sk A=true:=by
 cases s with
 |cut c ps=>exact e
 |bar a b=>have z:=rY e;have y:=CC z.1;exact tQ z.1 (h a y.1 b y.2▸z.2)
 |Fu a b=>have z:=rY e;have y:=CC z.1;exact tQ z.1 (h a y.1 b y.2▸z.2)
 |Ac a b=>have z:=rY e;have y:=CC z.1;exact tQ z.1 (h a y.1 b y.2▸z.2)
theorem I1(h:∀ a,(a=0\/a=1)->∀ b∈B,p a b=p' a b):∀ (r:O SK) (n:aa) (A:O (O sr)),G6 B goal p sk r n A=true->G6 B goal p' sk r n A=true
 |[]=>λy y y=>rfl
 |s::r=>λn A e=>
  have z:=rY e
  tQ (tQ (rY z.1).1 (X5 h s (rY z.1).2)) (I1 h r (n+1) _ z.2)
theorem X6(U:B∈F9)(hg:goal<=2)(p:ae->ae->aj):PU B goal p=true:=by
 have J:CB B goal=true:=
  have z:=rY (tU aax U)
  zf (P:=λg=>CB B g=true) hg z.1 (rY z.2).1 (rY z.2).2
 have z:=tU J (zZ (λx:ae×ae=>p x.1 x.2) (Dm B))
 have h:∀ a,(a=0\/a=1)->∀ b∈B,((Dm B).filter λx=>p x.1 x.2).contains (a,b)=p a b:=λa ha b hb=>by
  have hm:(a,b)∈Dm B:=ir.mpr ⟨a,by rcases ha with rfl|rfl<;>simp,bG.mpr ⟨b,hb,rfl⟩⟩
  rw[ej,df,c9];exact⟨λe=>e.2,λe=>⟨hm,e⟩⟩
 unfold PU EB at z⊢
 rw[PV h] at z
 exact tQ (I1 h _ _ _ (rY z).1) (rY z).2
end
end
section
def pS(S:sD)(a b:ae):aj:= !S.sW.all λt=>tH t a b
section
variable{S:sD}{sk:O SK}{A:O (O sr)}{n:aa}{a b:ae}{s:SK}
theorem aay{l:sr}(h:aaw l=true):AN l:=
 have z:=rY (rY h).1;have y:=rY (rY h).2
 ⟨by have z:=df.mp z.1;simpa using z,df.mp z.2,aP y.1,aP y.2⟩
theorem Fv(k:ae):uq (sk.map (SK.step S)) k=NY S.goal sk k:=by
 unfold uq NY;rw[ca];cases sk[k.toNat]? with
 |none=>rfl
 |some s=>cases s<;>rfl
theorem NZ(h:pS S a b=true):∃ t,S.sW[LZ S a b]?=some t/\tH t a b=false:=by
 unfold LZ;generalize e:(bg S.sW.length).filter (λk=>match S.sW[k]? with|some t=> !tH t a b|none=>false)=ks
 have hk:∀ k∈ks,∃ t,S.sW[k]?=some t/\tH t a b=false:=λk h=>by
  rw[<-e] at h
  have z:=(c9.mp h).2;cases q:S.sW[k]? with
  |none=>rw[q] at z;cases z
  |some t=>rw[q] at z;exact⟨t,rfl,cH _▸z⟩
 cases ks with
 |cons k ks=>exact hk k (.head _)
 |nil=>
  have:S.sW.all (λt=>tH t a b)=true:=bh.mpr λt ht=>by
   refine(O.getElem_of_mem ht).elim λk sd=>sd.elim λJ U=> ?_;have z:=i5.mp e k (b5.mpr J);rw[br J,U] at z
   cases q:tH t a b with
   |true=>rfl
   |false=>exact aC (show(!tH t a b)=true by rw[q];rfl) z
  unfold pS at h
  rw[this] at h
  exact ff h
theorem S9(h:pS S a b=true):wY S (Ad a b) (some ((LZ S a b:ae),none))=0:=by
 refine(NZ h).elim λt sd=> ?_;have h2:=sd.1;have h3:=sd.2;show wX S _ _=0;unfold wX BE;rw[aN (cQ _),b6,h2];show(if uB t (td S.L (Ad a b) 0) (td S.L (Ad a b) 1) then 54 else 0)=0
 refine aI λhs=> ?_;obtain⟨a',J,hs⟩:=ik.mp hs;obtain⟨b',U,hs⟩:=ik.mp hs
 have key:∀ v c:ae,(!((v==c)==false))=true->v=c:=λv c h=>by
  cases e:v==c with
  |true=>exact eq_of_beq e
  |false=>rw[e] at h;cases h
 have e1:(!(((a'==a)==false)||false))=true:=(c9.mp J).2
 have e2:(!(false||(((b'==b)==false)||false)))=true:=(c9.mp U).2
 rw[dI] at e1
 rw[fZ,dI] at e2
 rw[key a' a e1,key b' b e2,h3] at hs
 exact ff hs
theorem aaz(h:Vv S.goal n s=true):vD (s.c S.goal)=true/\x2 n s.ps=true/\(∀ l∈s.c S.goal,AN l)/\(s.c S.goal).length<=2/\s.ps.length<=40:=
 have z:=rY h;have y:=rY z.2;have x:=rY y.2;have w:=rY x.2
 ⟨z.1,y.1,λl J=>aay (tU x.1 J),aP w.1,aP w.2⟩
theorem N7(h:(!pS S a b)=true):(S.sW.all λt=>tH t a b)=true:=(dR _).symm.trans h
theorem X7(h:(Vv S.goal n s&&s.ok S.B S.goal (pS S) sk A)=true):tR S (sk.map (SK.step S)) n A (s.step S)=(0,s.next A)/\xP S (s.step S):=by
 obtain⟨k1,k2,k3,J,k5⟩:=aaz (rY h).1;have h:=(rY h).2;cases s with
 |bar a b=>
  have z:=rY h;refine⟨?_,⟨k3,J,k5,trivial, .inr ⟨nofun,λv v e=>nomatch e⟩⟩⟩
  unfold tR;rw[show vD (SK.step S (.bar a b)).2.1=true from k1]
  show(wY S (Ad a b) (some ((LZ S a b:ae),none)),A)=(0,A);rw[S9 z.2]
 |Fu a b=>
  have z:=rY h;have y:=rY z.2;have x:=rY y.2;have w:=rY x.2;have U:S.goal=0:=eq_of_beq x.1;refine⟨?_,⟨k3,J,k5,CC z.1, .inl U⟩⟩;unfold tR;rw[show vD (SK.step S (.Fu a b)).2.1=true from k1]
  show(if !(S.sW.all λt=>tH t a b) then(11,A) else zC S A (Ad a b) a b:aa×O (O sr))=(0,A++[Ad a b])
  rw[N7 y.1];show zC S A (Ad a b) a b=_;unfold zC;rw[U,show decide (Ad a b=xz (Ad a b) a b)=true from aX rfl,w.1,(cH _).mp w.2]
  rfl
 |Ac a b=>
  have z:=rY h;have y:=rY z.2;have x:=rY y.2;refine⟨?_,⟨k3,J,k5,CC z.1, .inr ⟨(show(13:aa)≠52 by decide),λa' b' e=> ?_⟩⟩⟩
  ·unfold tR
   rw[show vD (SK.step S (.Ac a b)).2.1=true from k1]
   show(if !(S.sW.all λt=>tH t a b) then(11,A) else(if !(S.goal==0)&&decide ([yb S.goal b]=[yb S.goal b]) then 0 else 13,A):aa×O (O sr))=(0,A)
   rw[N7 y.1,x.1,aX rfl];rfl
  ·cases e
   exact jk ((cH _).mp x.2)
 |cut c ps=>
  refine⟨?_,⟨k3,J,k5,trivial, .inr ⟨(show(41:aa)≠52 by decide),λv v e=>nomatch e⟩⟩⟩
  unfold tR;rw[show vD (SK.step S (.cut c ps)).2.1=true from k1,show x2 n (SK.step S (.cut c ps)).2.2.1=true from k2]
  show(if u6 S.L c (ps.map (uq (sk.map (SK.step S)))) then 0 else 41,A)=(0,A)
  rw[iF λk v=>Fv (S:=S) (sk:=sk) k,show u6 S.L c (ps.map (NY S.goal sk))=true from h]
  rfl
theorem N8:∀ (r:O SK) (n:aa) (A:O (O sr)),G6 S.B S.goal (pS S) sk r n A=true->(vy S (sk.map (SK.step S)) (r.map (SK.step S)) n A).1=none/\∀ s∈r,xP S (s.step S)
 |[]=>λy y y=>⟨rfl,nofun⟩
 |s::r=>λn A h=>by
  obtain⟨J,U⟩:=X7 (rY h).1;obtain⟨w1,w2⟩:=N8 r (n+1) _ (rY h).2;refine⟨?_,λz hz=>(aW.mp hz).elim (λe=>e▸U) (w2 z)⟩;show(if(tR S _ n A (s.step S)).1==0 then _ else _:ax (aa×aa)×O (O sr)).1=none
  rw[J];exact w1
def wL(S:sD):O Step:=(EB S.B S.goal (pS S)).map (SK.step S)
structure Ib(S:sD)(ss:O Step):Prop where
 look:(vy S ss ss 0 []).1=none
 last:yu ss=[]
 base:∀ s∈ss,xP S s
 n:ss.length<=50
 ne:ss≠[]
theorem Vx(J:S.Ok):Ib S (wL S):=by
 have h:=rY (X6 J.b J.g (pS S));obtain⟨U,w2⟩:=N8 _ 0 [] h.1;refine⟨U, ?_,λs hs=> ?_,by unfold wL;rw[aH];exact aP h.2,λz=> ?_⟩
 ·unfold yu wL EB
  rw[aH,Fv,bv];show NY S.goal _ (((cuts _ _).1.length+1:aa) - 1:ae)=[];unfold NY;rw[show(((cuts S.B (BH S.B S.goal (pS S))).1.length+1:aa) - 1:ae).toNat=(cuts S.B (BH S.B S.goal (pS S))).1.length from(av fX (qg _ 1)).trans (b6 _),di (aU _),dG]
  rfl
 ·obtain⟨x,hx,rfl⟩:=bG.mp hs
  exact w2 x hx
 ·unfold wL EB at z
  exact aC (O.map_eq_nil_iff.mp z) (λe=>nomatch (lG.mp e).2)
end
end
section
structure xh(st:vk)(n:aa):Prop where
 pk:st.ks.all wi=true
 le:st.ks.length=st.vs.length
 vi:∀ v∈st.vs,∃ i,v= .int i
 kl:st.ks.length<=n
 sl:st.ss.length<=n
 be:∀ i,st.best=some i->∃ a,st.ss[i.1]?=some (.Ac a i.2)
theorem G8{x w:V}{n:aa}(hx:wi x=true)(J:∃ i,w= .int i):∀ (ks vs:O V),ks.all wi=true->ks.length=vs.length->(∀ v∈vs,∃ i,v=V.int i)->ks.length<=n->
  (dictPut x w ks vs).1.all wi=true/\(dictPut x w ks vs).1.length=(dictPut x w ks vs).2.length/\(∀ v∈(dictPut x w ks vs).2,∃ i,v=V.int i)/\(dictPut x w ks vs).1.length<=n+1
 |[],[]=>λy y y y=>⟨tQ hx rfl,rfl,λv h=>aR.mp h▸J,cF 1 n⟩
 |[],_::_=>λy h y y=>nomatch h
 |_::_,[]=>λy h y y=>nomatch h
 |k::ks,v::vs=>λh hl hv hn=>by
  show((if V.beq k x then(k::ks,w::vs) else((k::(dictPut x w ks vs).1),(v::(dictPut x w ks vs).2))):O V×O V).1.all wi=true/\((if V.beq k x then(k::ks,w::vs) else((k::(dictPut x w ks vs).1),(v::(dictPut x w ks vs).2))):O V×O V).1.length=((if V.beq k x then(k::ks,w::vs) else((k::(dictPut x w ks vs).1),(v::(dictPut x w ks vs).2))):O V×O V).2.length/\(∀ z∈((if V.beq k x then(k::ks,w::vs) else((k::(dictPut x w ks vs).1),(v::(dictPut x w ks vs).2))):O V×O V).2,∃ i,z=V.int i)/\((if V.beq k x then(k::ks,w::vs) else((k::(dictPut x w ks vs).1),(v::(dictPut x w ks vs).2))):O V×O V).1.length<=n+1
  cases V.beq k x
  ·cases n with
   |zero=>exact aC hn (jh _)
   |succ n=>
    refine(G8 hx J ks vs (rY h).2 (dh hl) (λz hz=>hv z (.tail _ hz)) (ji hn)).elim λa U=> ?_;have b:=U.1;have c:=U.2.1;have e:=U.2.2;exact⟨tQ (rY h).1 a,av (·+1) b,λz hz=>(aW.mp hz).elim (λe=>e▸hv v (.head _)) (c z),bZ e⟩
  ·exact⟨h,hl,λz hz=>(aW.mp hz).elim (λe=>e▸J) λhz=>hv z (.tail _ hz),eA hn⟩
theorem aaA{ι:Type}{xs:O ι}{x y:ι}{i:aa}(h:xs[i]?=some y):(xs++[x])[i]?=some y:=(dq (bD.mp h).1).trans h
theorem xh.put{st:vk}{n:aa}(h:xh st n)(a b:ae)(s:SK):xh ⟨st.ss++[s],(dictPut (uX a b) (.int st.ss.length) st.ks st.vs).1,(dictPut (uX a b) (.int st.ss.length) st.ks st.vs).2,st.best⟩ (n+1):=
 have z:=G8 (x:=uX a b) (w:= .int st.ss.length) rfl ⟨_,rfl⟩ st.ks st.vs h.pk h.le h.vi h.kl
 ⟨z.1,z.2.1,z.2.2.1,z.2.2.2,by show(st.ss++[s]).length<=_;rw[bv];exact bZ h.sl,λi hi=>(h.be i hi).imp λy e=>aaA e⟩
theorem xh.more{st:vk}{n m:aa}(h:xh st n)(hm:n<=m):xh st m:=⟨h.pk,h.le,h.vi,aw h.kl hm,aw h.sl hm,h.be⟩
theorem xh.Ac{st:vk}{n:aa}(h:xh st n)(a b:ae):xh ⟨st.ss++[.Ac a b],st.ks,st.vs,some (st.ss.length,b)⟩ (n+1):=
 ⟨h.pk,h.le,h.vi,eA h.kl,by show(st.ss++[_]).length<=_;rw[bv];exact bZ h.sl,λi hi=>⟨a,by
  cases aE (show some (st.ss.length,b)=some i from hi)
  exact O.getElem?_concat_length (l:=st.ss) (a:=SK.Ac a b)⟩⟩
end
section
def Ta(S:sD)(ss:O SK):O V:=ss.map λs=>sL (s.step S)
noncomputable def aa9:ax (aa×ae)->V
 |none=> .none
 |some i=> .int i.1
def v9(σ:Ob)(S:sD)(st:vk)(τ:Ob):Ob:=σ++ .lst (Ta S st.ss):: .dct st.ks st.vs::τ
section
variable{σ τ:Ob}{S:sD}{st:vk}{n:aa}{a b:ae}
theorem AA:(v9 σ S st τ)[σ.length]?=some (.lst (Ta S st.ss)):=wW
theorem PW:(v9 σ S st τ)[σ.length+1]?=some (.dct st.ks st.vs):=by
 unfold v9;rw[di (aV _ _),cE];rfl
theorem Do(h:st.ss.length<=1000)(s:SK):To (w9 .append (.ref σ.length) [sL (s.step S)]) (v9 σ S st τ) .none (v9 σ S ⟨st.ss++[s],st.ks,st.vs,st.best⟩ τ):=by
 refine(G2 AA (eg (aH _) h)).trans ?_;unfold v9 Ta;rw[gy _ _ (aU _),dG,cW];rfl
theorem N9(h:xh st n)(hn:n<=1000){k:ae}:To (uL (.ref (σ.length+1)) (uX a b) (.int k)) (v9 σ S st τ) () (v9 σ S ⟨st.ss,(dictPut (uX a b) (.int k) st.ks st.vs).1,(dictPut (uX a b) (.int k) st.ks st.vs).2,st.best⟩ τ):=sQ PW (by
 show M.guard (keyOk (uX a b) st.ks&&decide (st.ks.length<lim)) _ _=_;rw[show keyOk (uX a b) st.ks=true from h.pk,aX (bH (aw h.kl hn) (by decide))]
 show some ((),(v9 σ S st τ).set (σ.length+1) _)=_;unfold v9;rw[gy _ _ (aV _ _),cE];rfl)
end
end
section
noncomputable def Vy:O MS:=match xv.body with
 |[_, .ua _ _ [.ua _ _ b],_,_,_,_]=>b
 |_=>[]
def I3(S:sD)(a b:ae):O aa:=(bg S.sW.length).filter λk=>match S.sW[k]? with|some t=> !tH t a b|none=>false
def EC(N:aa)(S:sD)(best:ax (aa×ae))(o6 o7 o8 o9 J xA:ax V):Loc:=[some (x5 S),some S.tV,some (vd S.goal),some (.ref N),some (.ref (N+1)),some (aa9 best),o6,o7,o8,o9,J,xA,none,none]
structure JB(σ:Ob)(S:sD)(o6:ax V)(st:vk)(x:XR)(σ1:Ob):Prop where
 x:∃ o7 o8 o9,x= .next (EC σ.length S st.best o6 o7 o8 o9 none none)
 s:σ1=v9 σ S st []
section
variable{d n:aa}{σ τ:Ob}{S:sD}{st:vk}{a b:ae}
theorem Tb:(!(I3 S a b).isEmpty)=pS S a b:=by
 cases h:pS S a b with
 |true=>
  cases e:I3 S a b with
  |cons k ks=>rfl
  |nil=>
   refine(NZ h).elim λt J=>J.elim λh2 h3=> ?_;have z:=i5.mp e _ (b5.mpr (bD.mp h2).1);rw[h2] at z
   exact aC (av (!·) h3) z
 |false=>
  have all:=(dR _).symm.trans (av (!·) h)
  rw[show I3 S a b=[] from i5.mpr λk hk=>by
   rw[br (b5.mp hk)];show ¬(!tH _ a b)=true;rw[tU all (eR (b5.mp hk))];decide]
  rfl
theorem nats:∀ (n k:aa),tw (k:ae) n=(O.range' k n).map λi=>V.int (i:aa)
 |0=>λz=>rfl
 |n+1=>λk=>av (V.int k:: ·) (nats n (k+1))
end
end
section
noncomputable def PX:aa->V
 |0=> .str 51
 |1=> .str 39
 |_=> .str 37
section
variable{d n g:aa}{σ τ:Ob}{S:sD}{st:vk}{a b:ae}{F:Fn}{l:Loc}{o6 o8 o9:ax V}
theorem G9(h:st.ss.length<=1000):Is (tN .len [.ref σ.length]) (v9 σ S st τ) (.int st.ss.length):=by
 have z:=HX (AA (σ:=σ) (S:=S) (st:=st) (τ:=τ)) (eg (aH _) h);rwa [Ta,aH] at z
theorem Oa(h:st.ss.length<=1000)(s:SK){ks vs:O V}:To (w9 .append (.ref σ.length) [sL (s.step S)]) (v9 σ S ⟨st.ss,ks,vs,st.best⟩ τ) .none (v9 σ S ⟨st.ss++[s],ks,vs,st.best⟩ τ):=Do (st:=⟨st.ss,ks,vs,st.best⟩) h s
theorem aby(h:pS S a b=true):Is (tZ (.lst ((I3 S a b).map λi=>V.int (i:aa))) (.int 0)) τ (.int (LZ S a b)):=by
 rw[<-Tb] at h
 rw[show LZ S a b=(I3 S a b).headD 0 from rfl]
 cases e:I3 S a b with
 |nil=>rw[e] at h;cases h
 |cons k ks=>rfl
theorem L3(h:Is (rZ F (.var 2) l) σ (vd g)):Is (rZ F (.item (.var 2) (.c (.int 0))) l) σ (PX g):=sG h rfl (match g with|0=>rfl|1=>rfl|_+2=>rfl)
theorem X8:Is (uC .Eq (PX g) (.str 51)) σ (g==0):=match g with|0=>rfl|1=>rfl|_+2=>rfl
theorem Oc:Is (uC .Eq (PX g) (.str 39)) σ (g==1):=match g with|0=>rfl|1=>rfl|_+2=>rfl
theorem Vz(be:ax (aa×ae))(U:∀ i,be=some i->∃ a,st.ss[i.1]?=some (.Ac a i.2))(h:st.ss.length<=1000):Is (sN F (.bool false [.cmp (.var 5) [.Is] [.c .none], .bool true [.cmp (.cmp (.var 7) [.Lt] [.item (.item (.item (.var 3) (.var 5)) (.c (.int 3))) (.c (.int 1))]) [.Eq] [.cmp (.item (.var 2) (.c (.int 0))) [.Eq] [.c (.str 39)]], .cmp (.var 7) [.NotEq] [.item (.item (.item (.var 3) (.var 5)) (.c (.int 3))) (.c (.int 1))]]]) (EC σ.length S be o6 (some (.int b)) o8 o9 none none)) (v9 σ S st τ) (isBetter S.goal b ⟨st.ss,st.ks,st.vs,be⟩):=by
 cases be with
 |none=>exact uJ (c:=true) (c1:=false) (sE (x:= .none) rfl (sX rfl rfl)) nofun λz=>rfl
 |some i=>
  refine(U i rfl).elim λa' hi=> ?_;have it:Is (tZ (.ref σ.length) (.int i.1)) (v9 σ S st τ) (sL ((SK.Ac a' i.2).step S)):=sQ AA (yC (by unfold Ta;rw[ca,hi];rfl) (aw (bB (bD.mp hi).1) h))
  have J:Is (rZ F (.item (.item (.item (.var 3) (.var 5)) (.c (.int 3))) (.c (.int 1))) (EC σ.length S (some i) o6 (some (.int b)) o8 o9 none none)) (v9 σ S st τ) (.int i.2):=sG (sG (sG (x:= .ref σ.length) (y:= .int i.1) rfl rfl it) rfl rfl) rfl rfl;exact uJ (c:=false) (c1:=(decide (b<i.2)==decide (S.goal=1))&& !decide (b=i.2)) (sE (x:= .int i.1) rfl (sX rfl rfl)) (λz=>tP (xZ (sE (zc (x:= .int b) rfl (sX J rfl)) (sX (zc (L3 rfl) (sX rfl Oc)) rfl)) λz=>tP (sE (x:= .int b) rfl (sX J rfl)))) nofun
theorem X9(U:S.Ok)(h:xh st n)(hn:n<=900)(ha:a=0\/a=1)(hb:b∈S.B)(o8 o9:ax V):W (r8 (sC prog (d+2)) Vy (EC σ.length S st.best (some (.int a)) (some (.int b)) o8 o9 none none)) (v9 σ S st []) (JB σ S (some (.int a)) (we S.goal (pS S) a st b)):=by
 have nn:S.sW.length<=1000:=aw U.n (by decide)
 have hn:=aw hn (show 900<=1000 by decide)
 have J:=aw h.sl hn;have nt:(S.sW.map tG).length<=1000:=eg (aH _) nn;refine vM (BB (ys:=bg S.sW.length) (g:=λi=>V.int (i:aa)) (λk=>match S.sW[k]? with|some t=> !tH t a b|none=>false) (x8 (uc (es1 (uc (vs:=[S.tV]) rfl (yO nt))) (Ba nt)) (Bb.trans ?_)) rfl (λk hk=> ?_) (uA (by rw[o0];exact nn))) rfl ?_
 ·rw[aH,O.range_eq_range',<-nats];rfl
 ·have hk:=b5.mp hk
  rw[br hk];exact uW (uu (vs:=[tG S.sW[k],tF [a,b]]) (tq (sG (x:=S.tV) (y:= .int k) rfl rfl (yC (by rw[ca,br hk];rfl) (aw (bB hk) nn))) (es1 rfl)) (BD (U.t _ (eR hk)) ha (U.sub.2.2 b hb)).1)
 have c8:Is (uC .NotEq (.lst ((I3 S a b).map λi=>V.int (i:aa))) (.lst [])) (v9 σ S st []) (pS S a b):=Tb▸M.then (f:=λr=>M.pure (!r)) (G1 λz z=>rfl) rfl;refine za (P:=λst x σ1=>JB σ S (some (.int a)) st x σ1) (sE rfl (sX rfl c8)) (λhp=> ?_) λhp=> ?_
 ·exact Eo (v:= .int st.ss.length) (u:= .ref (σ.length+1)) (w:=uX a b) (uc (es1 (v:= .ref σ.length) rfl) (G9 J)) rfl rfl (N9 h hn) (zQ (wn (u:= .ref σ.length) (vs:=[sL ((SK.bar a b).step S)]) rfl (wp AA rfl) (es1 (vN (tq rfl (tq rfl (tq rfl (es1 (sG (x:= .lst ((I3 S a b).map λi=>V.int (i:aa))) rfl rfl (aby hp)))))))) (Oa J (.bar a b))) (.of (a:= .next _) rfl (.of (a:= .next _) rfl ⟨⟨_,_,_,rfl⟩,rfl⟩)))
 ·refine za (P:=λst x σ1=>W (XR.xt (r8 _ []) x) σ1 (JB σ S (some (.int a)) st)) (sE (L3 rfl) (sX rfl X8)) (λz=> ?_) λz=> ?_
  ·exact Eo (v:= .int st.ss.length) (u:= .ref (σ.length+1)) (w:=uX a b) (uc (es1 (v:= .ref σ.length) rfl) (G9 J)) rfl rfl (N9 h hn) (zQ (wn (u:= .ref σ.length) rfl (wp AA rfl) (es1 (v:=sL ((SK.Fu a b).step S)) (vN (tq rfl (tq rfl (tq rfl (es1 rfl)))))) (Oa J (.Fu a b))) (.of (a:= .next _) rfl (.of (a:= .next _) rfl (.of (a:= .next _) rfl ⟨⟨_,_,_,rfl⟩,rfl⟩))))
  ·refine za (P:=λst x σ1=>W (XR.xt (r8 _ []) x) σ1 λx σ1=>W (XR.xt (r8 _ []) x) σ1 (JB σ S (some (.int a)) st)) (Vz st.best h.be J) (λz=> ?_) λz=> .of (a:= .next _) rfl (.of (a:= .next _) rfl (.of (a:= .next _) rfl (.of (a:= .next _) rfl ⟨⟨_,_,_,rfl⟩,rfl⟩)))
   refine vM (v:= .int st.ss.length) (uc (es1 (v:= .ref σ.length) rfl) (G9 J)) rfl (vM (v:=sF (yb S.goal b)) (vO (c:=S.goal==1) (sE (L3 rfl) (sX rfl Oc)) ?_) rfl (zQ (wn (u:= .ref σ.length) rfl (wp AA rfl) (es1 (v:=sL ((SK.Ac a b).step S)) (vN (tq rfl (tq rfl (tq rfl (es1 rfl)))))) (Do J (.Ac a b))) (.of (a:= .next _) rfl (.of (a:= .next _) rfl (.of (a:= .next _) rfl (.of (a:= .next _) rfl ⟨⟨_,_,_,rfl⟩,rfl⟩))))));unfold yb;cases S.goal==1<;>rfl
end
section
variable{d n m k:aa}{σ σ1:Ob}{S:sD}{st:vk}{a b:ae}{F:Fn}{l:Loc}{o6 o7 o8 o9:ax V}
theorem VA{goal:aa}{p:ae->ae->aj}(h:xh st n):xh (we goal p a st b) (n+1):=by
 unfold we;cases p a b
 ·cases goal==0
  ·cases isBetter goal b st
   ·exact h.more (cU n)
   ·exact h.Ac a b
  ·exact h.put a b _
 ·exact h.put a b _
inductive PY(K:ax V->Prop)(σ:Ob)(S:sD)(m:aa)(st:vk)(x:XR)(σ1:Ob):Prop
 |mk (o6 o7 o8 o9:ax V) (k:K o6) (hx:x= .next (EC σ.length S st.best o6 o7 o8 o9 none none)) (hs:σ1=v9 σ S st []) (h:xh st m)
theorem Ic(B:aa){K:ax V->Prop}{turn:Loc->V->X}{f:vk->ae->vk}{P:ae->Prop}(ht:∀ st n y o6 o7 o8 o9,K o6->xh st n->n<=B->P y->W (turn (EC σ.length S st.best o6 o7 o8 o9 none none) (.int y)) (v9 σ S st []) (PY K σ S (n+k) (f st y))):
  ∀ (ys:O ae) (st:vk) (n:aa) (o6 o7 o8 o9:ax V),K o6->xh st n->n+k*ys.length<=B->(∀ y∈ys,P y)->W (uR turn (ys.map V.int) (EC σ.length S st.best o6 o7 o8 o9 none none)) (v9 σ S st []) (PY K σ S (n+k*ys.length) (ys.foldl f st))
 |[]=>λst n o6 o7 o8 o9 hk h w w=> .of (a:= .next _) rfl ⟨_,_,_,_,hk,rfl,rfl,h⟩
 |y::ys=>λst n o6 o7 o8 o9 hk h hn hy=>by
  have e:n+k*(y::ys).length=n+k+k*ys.length:=by rw[ij,lH,dZ,gw k]
  rw[e] at hn⊢
  refine .bind ((ht st n y o6 o7 o8 o9 hk h (aw (aV n k) (aw (aV _ _) hn)) (hy y (.head _))).mono λx σ1 q=> ?_);obtain⟨J,U,p8,p9,q0,rfl,rfl,q1⟩:=q;exact Ic B ht ys (f st y) (n+k) J U p8 p9 q0 q1 hn λz hz=>hy z (.tail _ hz)
theorem aaB(J:S.Ok)(h:xh st n)(hn:n<=700)(ha:a=0\/a=1):W (r8 (sC prog (d+2)) [.ua (.var 7) (.e (.item (.var 0) (.c (.int 1)))) Vy] (EC σ.length S st.best (some (.int a)) o7 o8 o9 none none)) (v9 σ S st []) (PY (λz=>cu) σ S (n+3) (S.B.foldl (we S.goal (pS S) a) st)):=by
 have len:=sub_len J.sub.1;refine xX (vs:=S.B.map V.int) (x8 (sG (x:=x5 S) (y:= .int 1) rfl rfl rfl) rfl) ((Ic 800 (k:=1) (K:=λo=>o=some (.int a)) (P:=(·∈S.B)) (f:=we S.goal (pS S) a) (λst n y o6 o7 o8 o9 hk h hn hy=> ?_) S.B st n _ _ _ _ rfl h (aw (jy hn (lF (aU 1) len)) (by decide)) λz h=>h).mono λx σ1 q=> ?_)
 ·subst hk
  refine wO rfl ((X9 J h (aw hn (by decide)) ha hy o8 o9).mono λx σ1 q=> ?_)
  obtain⟨⟨U,p8,p9,rfl⟩,rfl⟩:=q;exact⟨_,_,_,_,rfl,rfl,rfl,VA h⟩
 ·obtain⟨p6,U,p8,p9,q0,rfl,rfl,q1⟩:=q
  exact .of (a:= .next _) rfl ⟨_,_,_,_,trivial,rfl,rfl,q1.more (cw (aw (bF (kb _)) len) n)⟩
theorem Yb(J:S.Ok):W (uR (uS (sO (sC prog (d+2)) (.var 6)) (r8 (sC prog (d+2)) [.ua (.var 7) (.e (.item (.var 0) (.c (.int 1)))) Vy])) [.int 0, .int 1] (EC σ.length S none none none none none none none)) (v9 σ S ⟨[],[],[],none⟩ []) (PY (λz=>cu) σ S 6 (BH S.B S.goal (pS S))):=
 Ic 700 (k:=3) (P:=λa=>a=0\/a=1) (f:=λst a=>S.B.foldl (we S.goal (pS S) a) st) (K:=λz=>cu) (λst n y o6 o7 o8 o9 z h hn hy=>wO rfl (aaB J h hn hy)) [0,1] ⟨[],[],[],none⟩ 0 none none none none trivial ⟨rfl,rfl,nofun,aU _,aU _,nofun⟩ (by decide) λy hy=>aW.mp hy|>.imp_right aR.mp
end
end
section
noncomputable def rl2:O MS:=match xv.body with
 |[_,_,_, .ua _ _ b,_,_]=>b
 |_=>[]
abbrev RQ:=O SK×O ae
def Tc(N:aa)(S:sD)(best:ax (aa×ae))(o6 o7 o8 o9 xA:ax V):Loc:=EC N S best o6 o7 o8 o9 (some (.ref (N+2))) xA
def Fw(σ:Ob)(S:sD)(st:vk)(q:RQ):Ob:=v9 σ S ⟨q.1,st.ks,st.vs,st.best⟩ [.lst (q.2.map .int)]
def Ha(B:O ae)(st:vk)(a:ae):O ae:=(B.filter λb=>st.ks.any (V.beq (uX a b))).map λb=>posOf (dictAt (uX a b) st.ks st.vs)
section
variable{d n m k:aa}{σ σ1 τ:Ob}{S:sD}{st:vk}{q:RQ}{a b:ae}{F:Fn}{l:Loc}{o6 o7 o8 o9 xA:ax V}
theorem PZ:(Fw σ S st q)[σ.length+2]?=some (.lst (q.2.map .int)):=by
 unfold Fw v9;rw[di (aV _ _),cE];rfl
theorem Td(h:q.2.length<=1000){i:ae}:To (w9 .append (.ref (σ.length+2)) [.int i]) (Fw σ S st q) .none (Fw σ S st (q.1,q.2++[i])):=by
 refine(G2 PZ (eg (aH _) h)).trans ?_;unfold Fw v9;rw[gy _ _ (aV _ _),cE,cW];rfl
theorem L4{x:V}:∀ {ks vs:O V},ks.length=vs.length->(∀ v∈vs,∃ i,v=V.int i)->ks.any (V.beq x)=true->dictAt x ks vs=some (.int (posOf (dictAt x ks vs)))
 |[],_,_,_,h=>nomatch h
 |_::_,[],J,_,_=>nomatch J
 |k::ks,v::vs,J,hv,h=>by
  show(if V.beq k x then some v else dictAt x ks vs)=some (.int (posOf (if V.beq k x then some v else dictAt x ks vs)))
  cases hk:V.beq k x with
  |true=>
   obtain⟨i,rfl⟩:=hv v (.head _);rfl
  |false=>
   refine L4 (dh J) (λz hz=>hv z (.tail _ hz)) ?_;have h:(V.beq x k||ks.any (V.beq x))=true:=h
   rwa [show V.beq x k=false from jw.mpr λe=>jw.mp hk (by rw[V.beq_eq k e];exact V.yL _)] at h
set_option tactic.hygienic true in
theorem VB(best:ax (aa×ae))(L:O ae)(J:L.length<=900):Is (rZ F (.bt .tuple [.bin .Add (.var 11) (.ite (.cmp (.var 5) [.Is] [.c .none]) (.list []) (.list [.var 5]))]) (Tc σ.length S best o6 o7 o8 o9 (some (.lst (L.map .int))))) τ (tF (L++match best with|none=>[]|some i=>[(i.1:ae)])):=by
 have e:∀ M:O ae,tF (L++M)= .tup (L.map .int++M.map .int):=λM=>av V.tup cW
 have b:∀ M:O ae,M.length<=1->(L.map V.int).length+(M.map V.int).length<=1000:=λM h=>by
  rw[aH,aH];exact aw (jy J h) (by decide)
 rw[e];refine uc (vs:=[.lst (L.map .int++_)]) (es1 (xy (x:= .lst (L.map .int)) rfl ?_ (CA (b _ ?_)))) (tup_is (bv▸b _ ?_))
 all_goals cases best
 ·exact vO (c:=true) (sE (x:= .none) rfl (sX rfl rfl)) rfl
 ·rename_i i
  exact vO (c:=false) (sE (x:= .int i.1) rfl (sX rfl rfl)) rfl
 all_goals first|exact cg 1|exact aU 1
inductive aaC(σ:Ob)(S:sD)(st:vk)(q:RQ)(x:XR)(σ1:Ob):Prop
 |mk (o6 o7 o8 o9 xA:ax V) (hx:x= .next (Tc σ.length S st.best o6 o7 o8 o9 xA)) (hs:σ1=Fw σ S st q)
theorem VC(hS:S.Ok)(h:xh st n)(h1:q.1.length<=900)(h2:q.2.length<=900):W (r8 F rl2 (Tc σ.length S st.best (some (.int a)) o7 o8 o9 xA)) (Fw σ S st q) (aaC σ S st (Dl S.B st q a)):=by
 have hk:∀ b,keyOk (uX a b) st.ks=true:=λb=>h.pk;have J:=sub_len hS.sub.1;have U:=aw h1 (show 900<=1000 by decide)
 refine vM (v:= .lst ((Ha S.B st a).map .int)) ?_ rfl ?_
 ·unfold Ha
  rw[bR];refine UY (g:=V.int) (λb=>st.ks.any (V.beq (uX a b))) (x8 (sG (x:=x5 S) (y:= .int 1) rfl rfl rfl) rfl) rfl (λb z=>tP (sE (x:=uX a b) rfl (sX (y:= .ref (σ.length+1)) rfl ?_))) (λb z hb=>sG (x:= .ref (σ.length+1)) (y:=uX a b) rfl rfl ?_) (uA (aw J (by decide)))
  ·exact sQ (f:=Ge (uX a b)) PW (by show M.guard _ _ _=_;rw[hk b];rfl)
  ·exact sQ (f:=yE (uX a b)) PW (by show M.guard _ _ _=_;rw[hk b,L4 h.le h.vi hb];rfl)
 ·refine zQ (wn (u:= .ref (σ.length+2)) rfl (wp PZ rfl) (es1 (uc (es1 (v:= .ref σ.length) rfl) (G9 U))) (Td (aw h2 (by decide)))) (zQ (wn (u:= .ref σ.length) rfl (wp AA rfl) (es1 (vN (tq rfl (tq rfl (tq (VB st.best (Ha S.B st a) ?_) (es1 rfl)))))) (Do U (.cut [(0,1,a)] (S8 S.B st a)))) (.of (a:= .next _) rfl ⟨_,_,_,_,_,rfl,rfl⟩))
  unfold Ha;rw[aH];exact aw (fm _ _) (aw J (by decide))
end
section
variable{d n:aa}{σ τ:Ob}{S:sD}{st:vk}
theorem L5(U:S.Ok)(h:xh st n):∀ (ys:O ae) (q:RQ) (o6 o7 o8 o9 xA:ax V),q.1.length+ys.length<=900->q.2.length+ys.length<=900->W (uR (uS (sO (sC prog (d+2)) (.var 6)) (r8 (sC prog (d+2)) rl2)) (ys.map V.int) (Tc σ.length S st.best o6 o7 o8 o9 xA)) (Fw σ S st q) (aaC σ S st (ys.foldl (Dl S.B st) q))
 |[]=>λq o6 o7 o8 o9 xA z z=> .of (a:= .next _) rfl ⟨_,_,_,_,_,rfl,rfl⟩
 |y::ys=>λq o6 o7 o8 o9 xA h1 h2=> .bind ((wO rfl (VC U h (aw (aV _ _) h1) (aw (aV _ _) h2))).mono λx σ1 p=>by
  obtain⟨p6,p7,p8,p9,J,rfl,rfl⟩:=p;have e:∀ {ι:Type} {xs:O ι} {x:ι},xs.length+(y::ys).length<=900->(xs++[x]).length+ys.length<=900:=λh=>by rwa [bv,dZ,gw [_].length]
  exact L5 U h ys (Dl S.B st q y) p6 p7 p8 p9 J (e h1) (e h2))
theorem Yc(p:ze):V.closed 0 (ui p)=true:=by rcases p with _|⟨a,_|b⟩<;>rfl
theorem Yd(s:Step):V.closed 0 (sL s)=true:=tQ (a:=V.closed 0 (ud s.2.1)) (A7 (λz=>rfl) _) (tQ (a:=V.closed 0 (tF s.2.2.1)) (A7 (λz=>rfl) _) (tQ (Yc _) rfl))
theorem L6(J:S.Ok):Is (sC prog (d+3) 24 [x5 S,S.tV,vd S.goal]) σ (.lst ((wL S).map sL)):=Sr xv rfl rfl (by
 refine wA (v:= .tup [.ref σ.length, .ref (σ.length+1), .none]) (l1:=EC σ.length S none none none none none none none) (σ1:=v9 σ S ⟨[],[],[],none⟩ []) ?_ rfl (xX (x8 (sG (x:=x5 S) (y:= .int 0) rfl rfl rfl) rfl) ((Yb J).mono λx σ1 q=> ?_))
 ·show some (V.tup [.ref σ.length, .ref (σ++[sv.lst []]).length, .none],σ++[sv.lst []]++[sv.dct [] []])=_
  rw[bv,cf];rfl
 unfold wL EB cuts;generalize BH S.B S.goal (pS S)=st at q
 obtain⟨o6,o7,o8,o9,_,rfl,rfl,h⟩:=q;refine wA (v:= .ref (σ.length+2)) (l1:=Tc σ.length S st.best o6 o7 o8 o9 none) (σ1:=Fw σ S st (st.ss,[])) ?_ rfl (xX (x8 (sG (x:=x5 S) (y:= .int 0) rfl rfl rfl) rfl) ((L5 J h [0,1] (st.ss,[]) _ _ _ _ _ (aw (cO h.sl 2) (by decide)) (show 0+2<=900 by decide)).mono λx σ1 p=> ?_))
 ·show some (V.ref (v9 σ S st []).length,v9 σ S st []++[sv.lst []])=_
  unfold Fw v9;rw[bv,cf];rfl
 have l1:(lI (Dl S.B st) (st.ss,[]) [0,1]).1.length<=1000:=by
  show((st.ss++[_])++[_]).length<=1000;rw[bv,bv];exact aw (cO (cO h.sl 1) 1) (by decide)
 have l2:(lI (Dl S.B st) (st.ss,[]) [0,1]).2.length<=1000:=(by decide:2<=1000)
 generalize lI (Dl S.B st) (st.ss,[]) [0,1]=q at p l1 l2
 obtain⟨o6,o7,o8,o9,xA,rfl,rfl⟩:=p;refine zQ (wn (u:= .ref σ.length) rfl (wp AA rfl) (es1 (vN (tq rfl (tq rfl (tq (uc (es1 (v:= .ref (σ.length+2)) rfl) (sQ (f:=λo=>M.bind (wq o) Fz) PZ (tup_is (eg (aH _) l2)))) (es1 rfl)))))) (Do l1 (.cut [] q.2))) (tX rfl ⟨_,rfl, .app, ?_⟩);show(if σ.length<σ.length then V.ref σ.length else listOf _ _)=_
 rw[aI (bT _),AA,bR];rfl) (A7 Yd _)
end
section
variable{α:Type}{d fd:aa}{σ σ2:Ob}{F:Fn}{l:Loc}{a:α}{m:M α}
theorem W.to(h:W m σ λv σ1=>v=a/\σ1=σ2):To m σ a σ2:=h.elim λv σ1 e q=>by rw[q.1,q.2] at e;exact e
theorem P0(D:V):To (sC prog (d+1) 41 [.ref σ.length,D, .int 64]) (σ++[.inst 2 []]) .none (σ++[.inst 2 [(0,D),(2, .int 64)]]):=W.to (vG AS rfl rfl (zb (v:=D) (u:= .ref σ.length) rfl rfl (v8 rfl) (zb (v:= .int 64) (u:= .ref σ.length) rfl rfl (v8 rfl) (.of (a:= .next _) rfl (.of (a:= .none) rfl ⟨rfl,rfl⟩)))))
theorem L7(D T G:V):To (sC prog (d+2) 49 [.ref σ.length,D,T,G, .int 64]) (σ++[.inst 3 []]) .none (σ++[.inst 3 [(0,D),(3,T),(4,G),(5, .ref (σ.length+1))], .inst 2 [(0,D),(2, .int 64)]]):=by
 have hn:=e_new (F:=sC prog (d+1)) (l:=[some (.ref σ.length),some D,some T,some G,some (.int 64)]) (es:=[.var 1, .var 4]) (vs:=[D, .int 64]) (σ1:=σ++[sv.inst 3 [(0,D),(3,T),(4,G)]]) (c:=2) rfl (P0 D);rw[len_one,cf] at hn
 exact W.to (vG z0 rfl rfl (zb (v:=D) (u:= .ref σ.length) rfl rfl (v8 rfl) (zb (v:=T) (u:= .ref σ.length) rfl rfl (v8 rfl) (zb (v:=G) (u:= .ref σ.length) rfl rfl (v8 rfl) (zb (u:= .ref σ.length) hn rfl (v8 rfl) (.of (a:= .next _) rfl (.of (a:= .none) rfl ⟨rfl,rfl⟩)))))))
def L8(fd k n:aa)(σ:Ob)(vs:O V)(σ1:Ob):Prop:=(∃ ts:O Told,ts.length=k/\(∀ t∈ts,t∈x1)/\vs=ts.map tG)/\t4 fd n σ1/\Fr [fd] σ σ1
theorem L9{turn:V->M (O V)}(ht:∀ v n σ,t4 fd n σ->n<=800->W (turn v) σ (L8 fd 1 (n+2) σ)):∀ (items:O V) (n:aa) (σ:Ob),t4 fd n σ->n+2*items.length<=800->W (wt turn items) σ (L8 fd items.length (n+2*items.length) σ)
 |[]=>λn σ H z=> .of (a:=[]) rfl ⟨⟨[],rfl,nofun,rfl⟩,H, .rfl⟩
 |v::r=>λn σ H hn=>by
  have e:n+2*(v::r).length=n+2+2*r.length:=by rw[ij,lH,dZ,gw 2]
  rw[e] at hn⊢
  refine .bind ((ht v n σ H (aw (aV n 2) (aw (aV _ _) hn))).mono λa σ1 q=> .bind ((L9 ht r (n+2) σ1 q.2.1 hn).mono λb σ2 p=> ?_));obtain⟨⟨ts,J,U,rfl⟩,H1,f1⟩:=q;obtain⟨⟨us,u1,u2,rfl⟩,H2,f2⟩:=p;exact .of (a:=_) rfl ⟨⟨ts++us,by rw[bv,J,u1,gw];rfl,λt h=>(aG.mp h).elim (U t) (u2 t),cW.symm⟩,H2,f1.trans f2⟩
theorem Ye{it:MI}{k n:aa}{σ1:Ob}(hl:∀ v,Loc.get (l.set 17 v) 1=some (.ref fd))(U:decide (17<l.length)=true)(hi:To (wc (sC prog (d+2)) it (l.set 17 none)) σ (tw 0 k) σ1)(H:t4 fd n σ1)(hk:n+2*k<=800):W (rZ (sC prog (d+2)) (.comp [17] (.call 21 [.var 1]) [.g (.var 17) it []]) l) σ λv σ2=>∃ vs,v= .lst vs/\L8 fd k (n+2*k) σ1 vs σ2:=by
 have hr:∀ (k:aa) (i:ae),(tw i k).length=k:=λk=>by
  induction k with
  |zero=>exact λy=>rfl
  |succ k ih=>exact λi=>av (·+1) (ih _)
 have z:=L9 (fd:=fd) (turn:=xQ (sC prog (d+2)) (.g (.var 17) it []) (single (rZ (sC prog (d+2)) (.call 21 [.var 1]))) (l.set 17 none)) (λv n σ H hn=> ?_) (tw 0 k) n σ1 H (by rwa [hr])
 ·rw[hr] at z
  refine .bind (m:=wu _ _ _ _) (.bind (m:=wc _ _ _) (.of hi (z.mono λvs σ2 q=> ?_)));obtain⟨⟨ts,J,t2,rfl⟩,H2,f2⟩:=q;exact .of (a:= .lst (ts.map tG)) (by show M.guard _ _ _=_;rw[uA (by rw[aH,J];exact aw (aa.le_mul_of_pos_left k (by decide:0<2)) (aw (aw (cF _ n) hk) (by decide)))];rfl) ⟨_,rfl,⟨ts,J,t2,rfl⟩,H2,f2⟩
 ·refine W.bind (m:=sO (sC prog (d+2)) (.var 17) (l.set 17 none) v) (f:=λl1=>M.bind (xo (sC prog (d+2)) true [] l1) λc=>if c then single (rZ (sC prog (d+2)) (.call 21 [.var 1])) l1 else M.pure []) (.of (yl (by rw[eO];exact U)) ?_)
  show W (M.bind (rZ (sC prog (d+2)) (.call 21 [.var 1]) _) λv=>M.pure [v]) σ _;refine .bind ((Vr (d:=d) H hn).elim λv1 σ1 e q=> ?_);obtain⟨⟨t,J,rfl⟩,H1,f1⟩:=q;exact .of (ue (es1 (v:= .ref fd) (by show sM _ _=_;rw[Loc.put,pR,hl];rfl)) e) (.of (a:=[tG t]) rfl ⟨⟨[t],rfl,λz h=>aR.mp h▸J,rfl⟩,H1,f1⟩)
end
end
section
def mkL(v0 v2:V)(S:sD)(ss:O Step)(fd ck:aa)(xA Fx Fy:ax V):Loc:=[some v0,some (.ref fd),some v2,some (dV S.B),some S.doms,some (x5 S),some (vd S.goal),some S.tV,some (wZ S),some (.ref ck),some (.lst (ss.map sL)),xA,Fx,Fy,none,none,none,none]
noncomputable def aaD:O MS:=match Of.body with
 |[_,_,_,_,_,_,_,_,_,_, .ua _ _ b,_]=>b
 |_=>[]
structure Go(S:sD)(fd ck j n:aa)(σ:Ob):Prop where
 f:t4 fd n σ
 c:∃ ext,Az ext/\Ck S ck j ext σ
inductive abz(v0 v2:V)(S:sD)(ss:O Step)(fd ck j n:aa)(x:XR)(σ1:Ob):Prop
 |mk (xA Fx Fy:ax V) (hx:x= .next (mkL v0 v2 S ss fd ck xA Fx Fy)) (H:Go S fd ck j n σ1)
section
variable{d n fd ck j:aa}{σ:Ob}{S:sD}{ss:O Step}{v0 v2:V}{xA Fx Fy:ax V}
theorem Yg(hS:S.Ok)(R:Ib S ss)(H:Go S fd ck j n σ)(hn:n<=600):W (r8 (sC prog (d+14)) aaD (mkL v0 v2 S ss fd ck xA Fx Fy)) σ (abz v0 v2 S ss fd ck j (n+11)):=by
 obtain⟨hf,ext,he,K⟩:=H;obtain⟨_,_,r3,r4,r5⟩:=R;have nf:∀ {r c:aa} {a:O (aa×V)},σ[r]?=some (.inst c a)->r∉[fd]:=λh e=>hf.at_.elim λns z=>z.elim λsp z=>BG h z.1 (λe=>nomatch e) (aR.mp e)
 have J:=nf K.ck;have nj:=nf K.jd;have r9:=aw r4 (show 50<=100 by decide)
 have sl:(ss.map sL).length<=100:=eg (aH _) r9;have U:=aw sl (show 100<=1000 by decide)
 refine(vj (d:=d+13) hf (aw hn (by decide)) (jx.mpr r5)).elim λv σ1 e q=> ?_
 obtain⟨⟨k,k1,rfl⟩,H1,f1⟩:=q;have k9:k+1<=1000:=aw k1 (aw r9 (by decide))
 refine(Vu (d:=d+11) H1 (aw (bZ hn) (by decide)) r3 r4 (br k1)).elim λv σ2 e2 q=> ?_
 obtain⟨⟨s',b1,b2,rfl⟩,H2,f2⟩:=q;have f2:=f1.trans f2
 have em:(ss.map sL).take k++[sL s']++(ss.map sL).drop (k+1)=(ss.take k++[s']++ss.drop (k+1)).map sL:=by
  rw[cW,cW,gz,io];rfl
 have ll:(ss.take k++[s']++ss.drop (k+1)).length<=100:=aw (Gd k1 (aU 1)) r9
 have all:∀ x∈ss.take k++[s']++ss.drop (k+1),Ey S x/\A9 S x:=λx hx=>
  (aG.mp hx).elim (λhx=>(aG.mp hx).elim (λh=>have z:=r3 x (ke h);⟨z.ok,z.no⟩) λh=>aR.mp h▸⟨b1,b2⟩) λh=>have z:=r3 x (qh h);⟨z.ok,z.no⟩
 have ne:ss.take k++[s']++ss.drop (k+1)≠[]:=λe=>nomatch (lG.mp (lG.mp e).1).2
 refine vY (ue (tq (v:= .ref fd) rfl (es1 (uc (es1 (v:= .lst (ss.map sL)) rfl) (yR r9)))) e) rfl (vY (v:= .lst ((ss.take k++[s']++ss.drop (k+1)).map sL)) (Bc (Bc (xY (x:= .lst (ss.map sL)) rfl rfl rfl rfl (LW (k:=k) (gd k9) U)) (GT (es1 (ue (vs:=[.ref fd, .lst (ss.map sL), .int k]) rfl e2))) (CA ?_)) (xY (x:= .lst (ss.map sL)) (y:= .int ((k+1:aa):ae)) rfl rfl rfl rfl (LX (k:=k+1) k9 U)) (em▸CA ?_)) rfl ?_)
 ·rw[fN];exact aw (jy (gJ _ _) (aU 1)) (aw (bZ sl) (by decide))
 ·rw[<-bv,em,aH];exact aw ll (by decide)
 generalize ss.take k++[s']++ss.drop (k+1)=late at all ne ll
 refine(Dw (d:=d) hS (K.keep f2 J nj) he ⟨λx h=>(all x h).1,ll⟩ (λx h=>(all x h).2) ne).elim λv σ3 e3 q=> ?_;obtain⟨rfl,K3,f3⟩:=q;exact BA (c:=false) (uW (c:=true) (uu (vs:=[.ref ck,wZ S, .lst (late.map sL)]) rfl e3)) (.of (a:= .next _) rfl (.of (a:= .next _) rfl ⟨_,_,_,rfl,H2.keep f3 λh=>J (aR.mpr (aR.mp h).symm),K3⟩))
theorem Ma(hS:S.Ok)(R:Ib S ss):∀ (vs:O V) (n:aa) (σ:Ob) (xA Fx Fy:ax V),Go S fd ck j n σ->n+11*vs.length<=600->W (uR (uS (sO (sC prog (d+14)) (.var 11)) (r8 (sC prog (d+14)) aaD)) vs (mkL v0 v2 S ss fd ck xA Fx Fy)) σ λx z=>∃ l,x= .next l
 |[]=>λn σ xA Fx Fy H hn=> .of (a:= .next _) rfl ⟨_,rfl⟩
 |v::vs=>λn σ xA Fx Fy H hn=>by
  rw[ij,lH,gw _ 11,<-dZ] at hn
  refine .bind ((wO rfl (Yg (d:=d) (xA:=some v) hS R H (aw (aV n 11) (aw (aV _ _) hn)))).mono λx σ1 q=> ?_);obtain⟨J,U,p13,rfl,H1⟩:=q;exact Ma hS R vs (n+11) σ1 J U p13 H1 hn
end
section
variable{d fd k n i:aa}{F:Fn}{l:Loc}{σ σ1:Ob}{it:MI}{rest:O MS}{Q:XR->Ob->Prop}
theorem Yh(U:∀ v,Loc.get (l.set 17 v) 1=some (.ref fd))(J:decide (17<l.length)=true)(hi:To (wc (sC prog (d+2)) it (l.set 17 none)) σ (tw 0 k) σ1)(H:t4 fd n σ1)(hk:n+2*k<=800)(h7:decide (i<l.length)=true)
  (q:∀ (ts:O Told) σ2,ts.length=k->(∀ t∈ts,t∈x1)->t4 fd (n+2*k) σ2->W (r8 (sC prog (d+2)) rest (l.put i (.lst (ts.map tG)))) σ2 Q):W (r8 (sC prog (d+2)) (.asg (.var i) (.e (.comp [17] (.call 21 [.var 1]) [.g (.var 17) it []]))::rest) l) σ Q:=
 (Ye U J hi H hk).elim λv σ2 e z=>by
  obtain⟨_,rfl,⟨ts,t1,t2,rfl⟩,H2,_⟩:=z;exact vY e h7 (q ts σ2 t1 t2 H2)
theorem Yi{U J:MR}{x y:V}{σ2:Ob}(h:To (xD F U l) σ x σ1)(h2:To (xD F J l) σ1 y σ2)(hi:decide (i<l.length)=true)(hk:decide (k<l.length)=true)(q:W (r8 F rest ((l.put i x).put k y)) σ2 Q):W (r8 F (.asg (.tup [.var i, .var k]) (.tup [U,J])::rest) l) σ Q:=
 wA (v:= .tup [x,y]) (σ1:=σ2) (M.then (m:=xr F [U,J] l) (f:=λvs=>M.pure (V.tup vs)) (M.then (m:=xD F U l) (f:=λv=>M.bind (xr F [J] l) λvs=>M.pure (v::vs)) h (M.then (m:=xr F [J] l) (f:=λvs=>M.pure (x::vs)) (M.then (m:=xD F J l) (f:=λv=>M.bind (xr F [] l) λvs=>M.pure (v::vs)) h2 rfl) rfl)) rfl)
  (EZ [i,k] [x,y] l (tQ rfl (tQ hi (tQ hk rfl)))) q
theorem Te:∀ low u:aa,low<2->u<3->∃ B,B∈F9/\∀ σ,Is (tZ (.tup [.tup [.tup [.int low, .int ((low:ae)+1)]], .tup [.tup [.int low, .int ((low:ae)+2)]], .tup [.tup [.int low, .int low], .tup [.int ((low:ae)+2), .int ((low:ae)+2)]]]) (.int u)) σ (dV B)
 |0,0,_,_=>⟨[0,1],by decide,λz=>rfl⟩
 |0,1,_,_=>⟨[0,1,2],by decide,λz=>rfl⟩
 |0,2,_,_=>⟨[0,2],by decide,λz=>rfl⟩
 |1,0,_,_=>⟨[1,2],by decide,λz=>rfl⟩
 |1,1,_,_=>⟨[1,2,3],by decide,λz=>rfl⟩
 |1,2,_,_=>⟨[1,3],by decide,λz=>rfl⟩
 |n+2,_,h,_=>aC h (jl (cF 2 n))
 |_,n+3,_,h=>aC h (jl (cF 3 n))
theorem Yj:∀ u:aa,u<3->∃ g,g<=2/\∀ σ,Is (tZ (.tup [.tup [.str 51, .none], .tup [.str 39, .int 1], .tup [.str 37, .int 1]]) (.int u)) σ (vd g)
 |0,_=>⟨0,by decide,λz=>rfl⟩
 |1,_=>⟨1,by decide,λz=>rfl⟩
 |2,_=>⟨2,by decide,λz=>rfl⟩
 |n+3,h=>aC h (jl (cF 3 n))
theorem Tf{v0 v1 v2 J:ax V}:∀ B∈F9,Is (rZ F (.comp [14,15,16] (.var 16) [.g (.tup [.var 14, .var 15]) (.e (.var 3)) [], .g (.var 16) (.e (.bt .AQ [.var 14, .bin .Add (.var 15) (.c (.int 1))])) []]) [v0,v1,v2,some (dV B),J,none,none,none,none,none,none,none,none,none,none,none,none,none]) σ (t9 B):=by
 unfold F9
 repeat (refine bj.mpr ⟨by show _=some (_,_);kernel_rfl, ?_⟩)
 exact λz h=>aC h ba
end
theorem law_run(ns:O ae)(hns:ns.length<=63):∃ σ',sC prog 30 33 [.old (ns.map V.int)] []=some (.bool true,σ'):=(show W (sC prog 30 33 [.old (ns.map V.int)]) [] λv w=>v= .bool true from vG Of rfl rfl (by
 have hn:(ns.map V.int).length<=1000:=by rw[aH];exact aw hns (by decide)
 have cut:Is (uO (.old (ns.map V.int)) .none (.int 40) .none) [] (.lst ((ns.map V.int).take 40)):=by
  show M.guard (wb 40 _) _ _=_;rw[show wb 40 (ns.map V.int).length=true from EA (k:=40) (by decide) hn];rfl
 have hl:Is (tN .list [.lst ((ns.map V.int).take 40)]) [] (.lst ((ns.take 40).map V.int)):=by
  show M.guard _ _ _=_;rw[uA (by rw[fN];exact aw (gJ _ _) hn),gz];rfl
 refine Jv (xs:=[.lst ((ns.take 40).map V.int), .int 0]) (GT (tq (uc (es1 (xY (x:= .old (ns.map V.int)) rfl rfl rfl rfl cut)) hl) (es1 rfl))) rfl ?_;have H0:t4 0 0 ([]++[.lst [.lst ((ns.take 40).map V.int), .int 0]]):=⟨ns.take 40,0,rfl,by rw[fN];exact aw (iE _ _) (by decide),aU 0⟩
 generalize []++[sv.lst [.lst ((ns.take 40).map V.int), .int 0]]=vZ at H0
 refine(vj (d:=28) H0 (by decide) (m:=2) (by decide)).elim λv σ1 e1 q=> ?_
 obtain⟨⟨low,l1,rfl⟩,H1,_⟩:=q;refine vY (ue (vs:=[.ref 0, .int 2]) rfl e1) rfl ?_;refine(vj (d:=28) H1 (by decide) (m:=3) (by decide)).elim λv σ2 e2 q=> ?_
 obtain⟨⟨u,u1,rfl⟩,H2,_⟩:=q;refine(Te low u l1 u1).elim λB U=> ?_;have hB:=U.1;have abA:=U.2;refine vY (v:=dV B) (Cz (y:= .int u) (by show _=some (_,_);kernel_rfl) (ue (vs:=[.ref 0, .int 3]) rfl e2) (abA σ2)) rfl (vM (v:= .lst [dV [0,1],dV B]) rfl rfl (vM (v:= .lst [t9 [0,1],t9 B]) (GT (tq (v:=t9 [0,1]) rfl (es1 (Tf B hB)))) rfl ?_))
 refine(vj (d:=28) H2 (by decide) (m:=3) (by decide)).elim λv σ3 e3 q=> ?_
 obtain⟨⟨u',u2,rfl⟩,H3,_⟩:=q;refine(Yj u' u2).elim λgoal U=> ?_;have hg:=U.1;have hgo:=U.2;refine vY (v:=vd goal) (Cz (y:= .int u') (by show _=some (_,_);kernel_rfl) (ue (vs:=[.ref 0, .int 3]) rfl e3) (hgo σ3)) rfl ?_
 refine(vj (d:=28) H3 (by decide) (m:=2) (by decide)).elim λv B7 e4 q=> ?_
 obtain⟨⟨many,m1,rfl⟩,H4,_⟩:=q;refine Yh (d:=27) (k:=2+many) (λw=>rfl) rfl (x8 (u:= .yc 0 ((2+many:aa):ae)) (M.then (f:=tN .vE) (es1 (Bc (x:= .int 2) (y:= .int many) (v:= .int ((2+many:aa):ae)) rfl (ue (vs:=[.ref 0, .int 2]) rfl e4) rfl)) (Ba (aw (cw (bB m1) 2) (by decide)))) Bb) H4 (aw (cw (qi 2 (cw (bB m1) 2)) _) (by decide)) rfl λts J t1 t2 H5=> ?_
 have hS:(sD.mk B ts goal).Ok:=⟨hB,t2,t1▸cw (iV m1) 2,hg⟩;have R:=Vx hS;have so:x4 _ (wL ⟨B,ts,goal⟩):=⟨λs h=>(R.base s h).ok,aw R.n (by decide)⟩
 have hd:BU ⟨B,ts,goal⟩ (wL ⟨B,ts,goal⟩)= .none:=by
  unfold BU;rw[R.look];exact aN (aX R.last)
 refine Yi (x:=wZ ⟨B,ts,goal⟩) (y:= .ref J.length) rfl (e_new (vs:=[.lst [dV [0,1],dV B], .lst (ts.map tG),vd goal, .int 64]) rfl (L7 (d:=27) _ _ _)) rfl rfl ?_;have K:Ck ⟨B,ts,goal⟩ J.length (J.length+1) [] (J++[.inst 3 [(0, .lst [dV [0,1],dV B]),(3, .lst (ts.map tG)),(4,vd goal),(5, .ref (J.length+1))], .inst 2 [(0, .lst [dV [0,1],dV B]),(2, .int 64)]]):=⟨wW,by rw[di (aV _ _),cE];rfl⟩
 have H6:=H5.keep (Fr.app (X:=[]) (τ:=[.inst 3 [(0, .lst [dV [0,1],dV B]),(3, .lst (ts.map tG)),(4,vd goal),(5, .ref (J.length+1))], .inst 2 [(0, .lst [dV [0,1],dV B]),(2, .int 64)]])) ba;generalize J++[sv.inst 3 [(0, .lst [dV [0,1],dV B]),(3, .lst (ts.map tG)),(4,vd goal),(5, .ref (J.length+1))], .inst 2 [(0, .lst [dV [0,1],dV B]),(2, .int 64)]]=YO at K H6
 refine vM (ue (vs:=[x5 ⟨B,ts,goal⟩, .lst (ts.map tG),vd goal]) rfl (L6 (d:=26) hS)) rfl ?_;refine(Dw (d:=15) hS K (.inl rfl) so (λs h=>(R.base s h).no) R.ne).elim λv σ7 e7 q=> ?_;obtain⟨rfl,K7,f7⟩:=q;have H7:=H6.keep f7 λh=>H6.at_.elim λns z=>z.elim λsp z=>BG z.1 K.ck (λe=>nomatch e) (aR.mp h)
 refine BA (c:=false) (uJ (c:=false) (c1:=false) (sE (x:= .none) (ue (vs:=[wZ ⟨B,ts,goal⟩, .lst ((wL ⟨B,ts,goal⟩).map sL)]) rfl (hd▸NW (d:=25) hS so (λs h=>(R.base s h).no) R.ne)) (sX rfl rfl)) (λw=>tP (uW (c:=true) (uu (vs:=[.ref J.length,wZ ⟨B,ts,goal⟩, .lst ((wL ⟨B,ts,goal⟩).map sL)]) rfl e7))) nofun) (tO (xX (vs:=tw 0 5) (x8 (uc (es1 rfl) (Ba (n:=5) (by decide))) Bb) ((Ma (d:=15) (v0:= .old (ns.map V.int)) (v2:= .int low) (xA:=none) (Fx:=none) (Fy:=none) hS R (tw 0 5) _ _ ⟨H7,K7⟩ (aw (cO (cw (qi 2 (cw (bB m1) 2)) _) _) (by decide:0+1+1+1+1+2*(2+2)+11*5<=600))).mono λx σ8 q=> ?_)))
 obtain⟨l,rfl⟩:=q;exact tX rfl (.of (a:= .bool true) rfl rfl))).elim λv σ1 e q=>⟨σ1,q▸e⟩
end
end
end
end Mine.Internal
theorem PySem.Challenge.cw_no0337_01_holds : PySem.Challenge.rw_no0337_01.Holds :=
Mine.Internal.law_of Mine.Internal.law_run
