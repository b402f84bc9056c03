import PyProof.Rows.All
import Wide.All
import OpenK.AllK
import Wide.FinOn
import PySem.Challenge.RW_pq1141_01
open And renaming imp_right->xJ,intro->Wy
open Array renaming any_toList->UB,append_empty->Ik,empty_append->Vf,ext'->Il,getD_eq_getD_getElem?->U8,getElem?_eq_getElem->UH,getElem?_eq_some_iff->BK,getElem?_mapIdx->VB,length_toList->x7,mk->xR,toList->U7
open Bool renaming and_eq_true_iff->og,and_false->UC,eq_false_iff->Bl,false_eq_true->xM,false_ne_true->qX,noConfusion->VE,not_eq_true'->ow,or_eq_true_iff->BE,or_true->VU
open Char renaming ofNat->Hg,toNat->Uk
open Classical renaming propDecidable->YL
open Decidable renaming em->Yv
open Eq renaming symm->bF
open Exists renaming choose_spec->WV
open ForInStep renaming yield->qW
open Int renaming add_assoc->oh,add_comm->ps,add_emod_right->Hc,add_le_add_left->Jc,add_le_add_right->Hd,add_left_comm->TK,add_left_neg->fy,add_lt_add_left->gY,add_lt_add_of_lt_of_le->TN,add_lt_add_right->A9,add_mul->TJ,add_mul_emod_self_left->WG,add_nonneg->fM,add_one_le_of_lt->Hb,add_sub_cancel->uv,add_zero->sq,ediv_ediv_of_nonneg->WS,ediv_nonneg->IW,ediv_one->WL,emod_add_mul_ediv->W0,emod_def->yF,emod_emod->Ja,emod_eq_of_lt->jE,emod_lt_of_pos->fw,emod_nonneg->fJ,eq_ofNat_of_zero_le->iy,fmod_lt_of_pos->WD,fmod_nonneg_of_pos->WC,le_antisymm->kY,le_natAbs->TQ,le_of_eq->aP,le_of_lt->fG,le_of_lt_add_one->ut,le_refl->qL,le_trans->bG,lt_irrefl->TM,lt_of_le_of_lt->eZ,lt_of_lt_of_le->dk,lt_trans->kP,mul_add->xF,mul_assoc->xG,mul_comm->lY,mul_ediv_add_emod->mj,mul_fmod_right->sQ,mul_le_mul_of_nonneg_left->TL,mul_neg->BW,mul_nonneg->I7,mul_one->Br,mul_sub->WF,natAbs_of_nonneg->Ie,natCast_nonneg->cD,natCast_pow->ra,ne_of_gt->Wz,ne_of_lt->WZ,negSucc_lt_zero->G9,neg_le_of_neg_le->TP,neg_mul->WI,not_le->eR,not_lt->a6,ofNat->lX,ofNat_inj->na,ofNat_le->aX,ofNat_lt->dR,ofNat_sub->HL,one_mul->xH,pow_add->WK,pow_pos->BX,pow_succ->u9,sub_add_cancel->dB,sub_le_self->BY,sub_neg->TS,sub_nonneg_of_le->WH,sub_self->VN,sub_zero->IH,toNat->WJ,toNat_le->Ha,toNat_lt->Wx,toNat_natCast->fc,toNat_of_nonneg->gD,zero_add->qK,zero_mul->G7,zero_sub->WN
open List renaming all_eq_true->l5,any_cons->Bv,any_eq_false->Ve,append_assoc->cG,append_cons->VK,append_ne_nil_of_right_ne_nil->WM,append_nil->dK,append_toArray->xU,concat_eq_append->I5,contains_iff_mem->Bz,drop->IV,dropLast_eq_take->Ir,drop_drop->I6,drop_eq_getElem_cons->oH,drop_eq_nil_iff->WP,drop_left->Xb,drop_left'->Jb,drop_of_length_le->BB,drop_take->WO,eq_nil_or_concat->I4,filterMap_cons->IP,find?_cons->Bn,find?_cons_of_neg->qT,find?_cons_of_pos->sy,find?_some->WY,flatMap_def->I0,flatten_append->vb,flatten_cons->yk,foldl_append->IZ,foldl_cons->Ij,foldr_cons->Vu,forIn_cons->oG,forall_mem_append->om,forall_mem_cons->c1,forall_mem_map->xT,getElem?_append_left->TV,getElem?_append_right->pt,getElem?_eq_getElem->jL,getElem?_eq_none->VL,getElem?_eq_some_iff->jF,getElem?_map->sP,getElem?_toArray->mX,getElem_map->B2,getElem_mem->rc,getElem_range->IG,isEmpty_iff->Wt,length->qM,length_append->bR,length_cons->mi,length_drop->oy,length_eq_one_iff->Wn,length_eq_zero_iff->x9,length_map->cF,length_nil->HU,length_pos_iff->Vh,length_range->nd,length_replicate->IY,length_reverse->sC,length_take->l7,length_take_le->yG,length_zip->By,length_zipWith->II,lookup_cons->BN,lookup_cons_self->IB,map->yd,map_append->cN,map_congr_left->uP,map_cons->l9,map_drop->Uz,map_eq_nil_iff->ml,map_fst_zip->oA,map_inj_left->IU,map_inj_right->Ul,map_map->oF,map_snd_zip->HV,map_take->Uy,mem_append->lZ,mem_append_left->mc,mem_append_right->fK,mem_cons->gA,mem_filter->VY,mem_filterMap->xS,mem_iff_getElem->vc,mem_iff_getElem?->Hi,mem_map->iS,mem_map_of_mem->uI,mem_of_find?_eq_some->WX,mem_of_getElem?->oi,mem_of_mem_drop->V0,mem_of_mem_take->V3,mem_range->yC,mem_singleton->bW,mem_toArray->Uo,nil_append->yc,nodup_append->x5,nodup_cons->sH,nodup_nil->uQ,not_mem_nil->el,of_mem_zip->HS,pairwise_append->uB,pairwise_cons->VR,pairwise_iff_getElem->uD,pairwise_singleton->xK,prefix_append->Hj,prefix_refl->mS,push_toArray->Ip,range->cE,range'->qR,range'_succ->BC,range_succ->WQ,replicate->gy,reverse_cons->uU,size_toArray->fa,take_left'->Xa,take_length->Bu,take_of_length_le->Ic,take_succ_eq_append_getElem->ye,toArray->sL
open List.Pairwise renaming nil->YJ
open List.cons renaming inj->jM
open Nat renaming add_assoc->lU,add_comm->uR,add_le_add->eY,add_le_add_left->fH,add_left_comm->G6,add_lt_add_left->jN,add_right_comm->oJ,add_sub_cancel_left->UZ,add_zero->A7,and_two_pow_sub_one_eq_mod->WE,beq->dQ,ble->df,ble_eq->j9,blt->lT,div_add_mod->Uc,div_eq_of_lt_le->B1,div_lt_self->TR,div_one->Va,eq_of_beq_eq_true->mW,le_add_left->va,le_add_right->c8,le_antisymm->qO,le_of_ble_eq_true->xE,le_of_eq->bb,le_of_lt->dA,le_of_lt_succ->lW,le_of_not_lt->bE,le_of_succ_le->u8,le_refl->bI,le_succ->gh,le_succ_of_le->l8,le_trans->aB,lt_add_of_pos_right->jp,lt_add_right->BZ,lt_irrefl->lV,lt_min->Wc,lt_of_le_of_lt->cM,lt_of_le_of_ne->WT,lt_of_lt_of_le->bU,lt_of_not_le->dP,lt_of_succ_lt->Wm,lt_of_succ_lt_succ->pq,lt_or_eq_of_le->A8,lt_or_ge->Ww,lt_or_gt_of_ne->TW,lt_succ_of_le->uw,lt_succ_of_lt->bX,lt_succ_self->b9,lt_trans->gB,lt_trichotomy->B0,min_eq_left->qZ,min_le_left->HJ,min_le_right->HI,min_self->sI,mul_add->TG,mul_le_mul_left->ur,mul_le_mul_right->TH,ne_of_beq_eq_false->Uq,ne_of_gt->cn,ne_of_lt->bq,not_le_of_gt->yD,not_lt->uJ,not_lt_zero->pB,pos_of_ne_zero->UP,pow_le_pow_right->IX,pow_mul->WR,sub_add_cancel->dU,sub_le->Uv,sub_lt_sub_left->WW,sub_pos_of_lt->I9,sub_self->oo,succ_le_succ->jn,succ_lt_succ->G8,succ_ne_self->IJ,succ_ne_zero->fL,succ_pos->mY,zero_add->jl,zero_le->du,zero_lt_succ->uY,zero_mul->G5
open Nat.succ renaming inj->fx
open Ne renaming symm->sN
open Option renaming bind->nj,bind_assoc->WU,bind_eq_some_iff->HD,bind_some->Ig,isSome_iff_exists->BV,map->a7,map_eq_some_iff->su,map_map->yH,map_some->yo,some->Hf
open Option.some renaming inj->cW
open PUnit renaming unit->qV
open Prod renaming ext->HM,fst->kX,snd->IT
open Prod.mk renaming inj->oQ
open PyProof.Rows renaming Constant_none->Uf,IntsAre->xI,IsTup->gW,markedEach_of_false->T3,reads_tuple_at->Uj,slicePart_none->Ux,slot_tuple_getitem->Bp,subscriptTail->qU
open PySem renaming Addr->ay,Args->xN,Arguments->sr,Around->bA,ClassData->q9,CmpOp->pv,Code->l0,DictEntry->hG,Expr->aL,Flow->kh,FuncData->j8,GenState->yn,Heap->aK,IntMulOk->gV,IsPair->nh,IsPart->uL,IsZip->ng,Model->iQ,NameKind->gg,OsState->xQ,Program->ef,Result->jG,Scope->j7,Shared->ag,Slot->py,Stmt->dI,argsOk->iT,arm_assign_Name->IC,arm_assign_Tuple->VG,arm_eval_Call->Vl,arm_exec_Assign->ID,arm_exec_Return->BM,arm_execs_cons->yq,assignEach->mh,assignInOrder->sO,assignStores->VH,backTo->iw,backToKw->Hp,behindInMarks->Bb,binaryOp->Ba,bindArgs->yw,bindName->BO,bindSpecial->Vv,bm_if_false->gi,bm_if_true->pA,bootBuiltins->xV,builtinLookup_eq_fast->UM,builtinsNs->pw,cLine->kU,callAny->H7,callFunction->V5,callMarked->T4,callSpecial?->UV,callWith->uF,call_meets->Iq,callerA->yB,cellOf->IL,cellsFrom->uX,checkBuiltinCall->qY,classAt->BU,clipAt->jm,clipAt_nat->I8,closureFor->VS,codeAny->qP,codeAny_call_builtin->Wh,codeAny_mono->UU,codeAny_of_tree->H6,compEnvC->pE,compTurn->IM,compareChain->T0,compareOp->mT,comprehension->BR,dictDisplay->BA,dictEntries->HX,dictEpoch->HY,dictPut->x6,entryFor->mZ,entryFor_of_tree->sK,entry_typeCall->Vy,eval->bY,evalArgs->Bd,evalEach->Hn,evalPart->HN,evalPart_none->HO,excClassObj->oq,exec->kW,execs->ki,fastBuiltinMro->UR,fastLookup->UQ,field->oP,foldedSetIterable->BQ,forTurn->yt,getAttr->Hu,getItem->Bo,getMethod->oM,getMethod_builtin->uT,handleWith->V7,holding->hJ,inplaceOp->Bi,instanceDict->Wj,intKind->mR,interactive->VI,isInstance->BJ,isSubtype_type->UN,isTrue->l1,keeperOf->xO,keywordEach->Hq,leaving->IN,leftWithCleanup->uZ,leftWithCleanup_false_of_bare->Ws,letOwnedTupleGo->BP,letTemporaryGo->T5,list_getitem_lookup->Uu,mainGlobals->ix,markedBehindIn_of_false->TZ,markedEach->T2,mem_of_lookup->jJ,mergeMapping->BD,methodCall->Vn,methodCallForm->Vm,methodCallPos->Vo,mkStr->BH,mkText->HE,mkTextBytes->HF,model->aD,name_of_addr->VF,newList->Bc,newTuple->Ho,noteFrame->mf,nsFind->xP,opaqueClassAbove->Vq,outcomeOf->BS,pairTrees->oB,pairTrees_length->HT,pastItsLine_dict->UF,plainId_quiet->H0,pyIter->pD,pyNext->uV,raiseStmt->yx,rawInt->mU,recursionLimit->l2,refuseLoop->We,refuseLoop_ref->Wv,runOwn->yr,runValue->Hk,setAttr->HP,setField->yy,setFlight->yp,setItem->Bx,sizeLine->d0,slot_list_setitem->UG,specialOf->yb,spliced->kS,standAt->kR,starEach->gf,stored->uO,strIterType->yv,strKind->qN,strKind_is->sA,subDict->sJ,swappedStores->uG,swapsWith->Be,swapsWithSole->Bf,sysModules->sv,table->kV,theTreesLotGoes->oO,truthy->Hm,typeIs_int->Ib,typeIs_str->Vd,typeLookup->kf,typeLookup_type->UL,typeOf->oL,unsupported->x8,valueAt->mV,wants->uS,whileTurn->IF,withoutEnding?->HZ,wpAny->aN,wpAny_Constant_int->Ug,wpAny_Name->xX,wpAny_alloc->UJ,wpAny_askSetting->UA,wpAny_attempt->UY,wpAny_bind->aE,wpAny_call->yh,wpAny_callSpecial?_slot->Bt,wpAny_call_entry->px,wpAny_comp_letGo->VZ,wpAny_field->kg,wpAny_fresh->Uh,wpAny_holding->oz,wpAny_isInstance->ya,wpAny_isSubtype_exc->IQ,wpAny_letGo->BI,wpAny_letTemporaryGo->T6,wpAny_load->oK,wpAny_loadName_local->xW,wpAny_loadPart->uM,wpAny_loadPart_at->q8,wpAny_lookBehind->HR,wpAny_mkBytes->yi,wpAny_mkInt->BG,wpAny_mkStr->yj,wpAny_mkText->Bk,wpAny_mono->sE,wpAny_newFunctionEnv->VW,wpAny_newObj_type->sG,wpAny_newTuple->Wa,wpAny_of_eq->dj,wpAny_onRaise->IR,wpAny_point->Io,wpAny_pure->bw,wpAny_pyIter_enum->VQ,wpAny_pyIter_strU->VP,wpAny_pyIter_tuple->VO,wpAny_pyIter_zip->Wd,wpAny_raiseNew_none->V6,wpAny_rule->jK,wpAny_seqItems->q6,wpAny_sequenceKey->Uw,wpAny_setField->Iz,wpAny_setField_rec->yz,wpAny_specialOf->l6,wpAny_standAt->IA,wpAny_truthy_bool->TY,wpAny_typeOf->sF,wpAny_updateSeq_pair->V9,wpCode_mono->Hl
open PySem.Around renaming under_of_weight->q7,under_plainId->H1
open PySem.Builtin renaming iter->iU
open PySem.Calls renaming loadGlobal_builtin->Ue,loadGlobal_global->Ud
open PySem.Code renaming envs->VA,quiet_builtin->BF
open PySem.DictEntry renaming refKey->Yo
open PySem.Env renaming kindOf->uK
open PySem.ExcName renaming means->IS
open PySem.F renaming bm_bind->Ia,bm_called->H8,bm_plain->UW,bm_sub->H9,excBase_Exception->yA,plainAttrs_list->Iu,slot_list_append->Vg,slot_list_index->Vk,slot_list_pop->Vi,slot_tuple_iterator_next->V8,slot_zip_next->Wb
open PySem.Fin renaming done->VJ
open PySem.FuncBody renaming stmts->YI
open PySem.Heap renaming ExtBut->yu,MadeExcOf->Wf,SameBut->hO,get?->Ix,get?_none_of_le->qS,get?_push_at->Wg,get?_push_of_some->oj,get?_push_size->gX,get?_update_ne->Wk,get?_update_other->x1,get?_update_self->uN,lt_size->uW,size_push->VX
open PySem.Heap.DictOf renaming new->Yp
open PySem.Heap.IsSliceOf renaming new->Yn
open PySem.Heap.IsTuple renaming push->YB
open PySem.Heap.Ns1 renaming of_empty->YD
open PySem.Heap.SameBut renaming extBut->Yz,update->HW
open PySem.Heap.UpToSlots renaming ns->Yw
open PySem.IntMulOk renaming of_left->ni,of_right->yE
open PySem.Keeper renaming boundFrame->Ht,frame->Hr,machine->Hs
open PySem.Manifest renaming find?->UT,isStub->Vr
open PySem.MeetsSeq renaming list_index->Yu,list_pop_last->Yt
open PySem.NameKind renaming cell->VT,free->IK
open PySem.Obj renaming data_mapDictKeys->UK,data_mapFields->BL,isFreed_of_fields->VD,mapBytearray->pz,mapFields->VC,putName->UD
open PySem.PyData renaming depthAll->Up,eqv->Un,strOk->uy
open PySem.ReadsAll renaming cons->Yh,nil->Yg
open PySem.Sem renaming wp->TX,wp_mono->uE,wp_run->IE
open PySem.SeqAt renaming shaped->Um
open PySem.Str renaming ofString->aI,ofString_eq_toList->ou
open PySem.Value renaming builtin->UO,int->Ub,none->Iy,ref->kT,str->VM,type->nc
open PySem.Value.ref renaming inj->oE
open PySem.Value.type renaming inj->Bm
open PySem.W renaming Frag->gz,InstAt->xZ,Looks->iR,boot_drawn->Bg,boot_heap->jI,boot_toks->Bh,check_slot->Vx,clsIn->uH,dictOf->uz,emptyDict->pC,findCls->qQ,findIn->eG,gensDone->Hz,instObj->oN,keepIn->jH,kqdP->sx,kqdPs->xY,laidKept->HB,layAllW_rest->Wr,looks_clsIn->Bw,looks_findIn->ym,looks_hook->Vs,looks_mroIn->Wi,makesIn->Hv,mroIn->ot,namesBound->Hy,namesKept_of->Wu,openGood->HC,plainGet_of->HK,putName_dict->UE,readsIn->Hw,set_plain->HQ,staticsOk->Hx,typeIn->Bj,typeIs_bytes->jo
open PySem.W.Dat renaming list->HG,str->Ui,tuple->I3
open PySem.W.Dat.int renaming inj->Yk
open PySem.W.Dat.str renaming inj->Yl
open PySem.W.FB renaming args_bytes_getitem_2->Ut,entry_bytes_getitem->Us,slot_bytes_decode->Vc,slot_bytes_getitem->Bq
open PySem.W.KBd renaming method_of->Iv,noRef->Iw
open PySem.W.KBw renaming bInts->Vj
open PySem.W.KBy renaming look_buffer->yg,own_buffer->H5,special_eq->yf
open PySem.W.KFB renaming bound->sM,value->Vt
open PySem.W.Looks renaming ld->Vz,of_pure->sD
open PySem.W.WData renaming layableAll->Wq
open PySem.callAny renaming viaDunder->Vw
open Std.Legacy.Range renaming forIn_eq_forIn_range'->Ii,size->U9
open String renaming ofList->TU,singleton->Hh,toList_ofList->Vb
open UInt8 renaming toNat_inj->It
open PySem PySem.W
set_option Elab.async false
set_option maxRecDepth 1000000
set_option linter.all false
set_option genSizeOf false
set_option bootstrap.genMatcherCode false
set_option genInjectivity false
set_option genCtorIdx false
set_option tactic.hygienic false
set_option compiler.extract_closed false
set_option maxHeartbeats 4000000
namespace Mine.Tactic
@[elab_as_elim]theorem Jd{α:Sort _}{a b:α}{motive:α->Prop}(h:a=b)(t:motive b):motive a:=h▸t
@[elab_as_elim]theorem Je{α:Sort _}{a b:α}{motive:α->Prop}(h:a=b)(t:motive a):motive b:=h▸t
theorem Xd{α:Sort _}{p:α->Prop}{G:Prop}(f:∀a,p a->G):(∃a,p a)->G:=λh=>h.elim f
theorem Xe{a b G:Prop}(f:a->b->G):a/\b->G:=λh=>f h.1 h.2
theorem Xf{a b G:Prop}(h:a/\b)(f:a->b->G):G:=f h.1 h.2
section
set_option hygiene false
local macro_rules
  | `(tactic|rewrite [$rs,*])=>do
    let ts<-rs.getElems.mapM λr=>do
      let f:=Lean.mkIdent (if r.raw[0].isNone then `Jd else `Je)
      `(tactic|first|with_reducible_and_instances refine $f ($(⟨r.raw[1]⟩) ..) ?_|rewrite [$r]at ⊢)
    `(tactic|($[$ts]*))
local macro_rules
  | `(tactic|show $t)=> `(tactic|refine(?_: $t)<|>change $t)
section
noncomputable section
namespace bj
inductive T where
 |v (i:Nat)
 |n (k:Nat)
 |a (x y:T)
 |m (k:Nat) (x:T)
inductive At where
 |o
 |c (x:Nat) (t:At)
inductive gE where
 |o
 |c (k:Nat) (l r:T) (t:gE)
noncomputable def At.get:At->Nat->Nat
 |.o,_=>0
 |.c x t,i=>match i with|0=>x|i+1=>t.get i
noncomputable def ev(c:At):T->Nat
 |.v i=>c.get i
 |.n k=>k
 |.a x y=>ev c x+ev c y
 |.m k x=>k*ev c x
noncomputable def co(j:Nat):T->Nat
 |.v i=>bif dQ i j then 1 else 0
 |.n _=>0
 |.a x y=>co j x+co j y
 |.m k x=>k*co j x
noncomputable def fN:T->Nat
 |.v _=>0
 |.n k=>k
 |.a x y=>fN x+fN y
 |.m k x=>k*fN x
noncomputable def imp(c:At):gE->Prop
 |.o=>False
 |.c _ l r t=>ev c l<=ev c r->imp c t
noncomputable def gE.l:gE->T
 |.o=>.n 0
 |.c k l _ t=>.a (.m k l) t.l
noncomputable def gE.r:gE->T
 |.o=>.n 0
 |.c k _ r t=>.a (.m k r) t.r
noncomputable def dot:At->(Nat->Nat)->Nat
 |.o,_=>0
 |.c x t,f=>f 0*x+dot t λi=>f (i+1)
noncomputable def al:At->(Nat->Nat)->(Nat->Nat)->Bool
 |.o,_,_=>true
 |.c _ t,f,g=>df (f 0) (g 0)&&al t (λi=>f (i+1)) λi=>g (i+1)
noncomputable def yI(c:At)(h:gE):Bool:=lT (fN h.r) (fN h.l)&&al c (λj=>co j h.r) λj=>co j h.l
theorem sR:∀{c:At},dot c (λ_w=>0)=0:=by
 intro c
 induction c with
 |o=>rfl
 |c x t ih=>exact(congr (congrArg (· +·) (G5 x)) ih).trans (A7 0)
theorem yJ:∀{c:At}{f g:Nat->Nat},dot c (λi=>f i+g i)=dot c f+dot c g:=by
 intro c
 induction c with
 |o=>intro f g;exact(A7 0).symm
 |c x t ih=>
  intro f g;show(f 0+g 0)*x+dot t (λi=>f (i+1)+g (i+1))=(f 0*x+_)+(g 0*x+_);rw[ih,Nat.add_mul,lU,lU,G6 (g 0*x)]
theorem yK{k:Nat}:∀{c:At}{f:Nat->Nat},dot c (λi=>k*f i)=k*dot c f:=by
 intro c
 induction c with
 |o=>intro f;exact(Nat.mul_zero k).symm
 |c x t ih=>
  intro f;show k*f 0*x+dot t (λi=>k*f (i+1))=k*(f 0*x+_);rw[ih,TG,Nat.mul_assoc]
theorem yL:∀{c:At}{i:Nat},dot c (λj=>co j (.v i))=c.get i:=by
 intro c
 induction c with
 |o=>intro i;rfl
 |c x t ih=>
  intro i;cases i with
  |zero=>exact(congr (congrArg (· +·) (Nat.one_mul x)) (sR (c:=t))).trans (A7 x)
  |succ i=>exact(congr (congrArg (· +·) (G5 x)) (ih (i:=i))).trans (jl _)
theorem sS{c:At}:∀{t:T},ev c t=fN t+dot c (λj=>co j t):=by
 intro t
 induction t with
 |v i=>exact yL.symm.trans (jl _).symm
 |n k=>exact((A7 k).symm.trans (congrArg (k+·) sR.symm))
 |a x y ak hy=>
  show ev c x+ev c y=fN x+fN y+dot c (λj=>co j x+co j y);rw[yJ,ak,hy,lU,lU,G6 (fN y)]
 |m k x ak=>
  show k*ev c x=k*fN x+dot c (λj=>k*co j x);rw[yK,ak,TG]
theorem yM:∀{c:At}{f g:Nat->Nat},al c f g=true->dot c f<=dot c g:=by
 intro c
 induction c with
 |o=>intro _ _ _;exact bI 0
 |c x t ih=>
  intro f g h;obtain⟨aa,h2⟩:=og.mp h;exact eY (TH x (xE aa)) (ih h2)
theorem yN{c:At}:∀{h:gE},(ev c h.l<=ev c h.r->False)->imp c h:=by
 intro h
 induction h with
 |o=>exact λH=>H (bI 0)
 |c k l r t ih=>exact λH h=>ih λs=>H (eY (ur k h) s)
theorem go(c:At)(h:gE)(hc:yI c h=true):imp c h:=yN λs=>by
 obtain⟨aa,h2⟩:=og.mp hc;rw[sS,sS]at s;exact lV _ (cM s (Nat.add_lt_add_of_lt_of_le (xE aa) (yM h2)))
end bj
namespace bp
inductive T where
 |v (i:Nat)
 |n (k:Int)
 |a (x y:T)
 |m (k:Int) (x:T)
inductive At where
 |o
 |c (x:Int) (t:At)
inductive gE where
 |o
 |c (k:Nat) (l r:T) (t:gE)
noncomputable def At.get:At->Nat->Int
 |.o,_=>0
 |.c x t,i=>match i with|0=>x|i+1=>t.get i
noncomputable def ev(c:At):T->Int
 |.v i=>c.get i
 |.n k=>k
 |.a x y=>ev c x+ev c y
 |.m k x=>k*ev c x
noncomputable def co(j:Nat):T->Int
 |.v i=>bif dQ i j then 1 else 0
 |.n _=>0
 |.a x y=>co j x+co j y
 |.m k x=>k*co j x
noncomputable def fN:T->Int
 |.v _=>0
 |.n k=>k
 |.a x y=>fN x+fN y
 |.m k x=>k*fN x
noncomputable def imp(c:At):gE->Prop
 |.o=>False
 |.c _ l r t=>ev c l<=ev c r->imp c t
noncomputable def gE.l:gE->T
 |.o=>.n 0
 |.c k l _ t=>.a (.m k l) t.l
noncomputable def gE.r:gE->T
 |.o=>.n 0
 |.c k _ r t=>.a (.m k r) t.r
noncomputable def dot:At->(Nat->Int)->Int
 |.o,_=>0
 |.c x t,f=>f 0*x+dot t λi=>f (i+1)
noncomputable def al:At->(Nat->Int)->(Nat->Int)->Bool
 |.o,_,_=>true
 |.c _ t,f,g=>decide (f 0=g 0)&&al t (λi=>f (i+1)) λi=>g (i+1)
noncomputable def yI(c:At)(h:gE):Bool:=decide (fN h.r<fN h.l)&&al c (λj=>co j h.r) λj=>co j h.l
theorem sR:∀{c:At},dot c (λ_w=>0)=0:=by
 intro c
 induction c with
 |o=>rfl
 |c x t ih=>exact(congr (congrArg (· +·) (G7 x)) ih).trans (sq 0)
theorem yJ:∀{c:At}{f g:Nat->Int},dot c (λi=>f i+g i)=dot c f+dot c g:=by
 intro c
 induction c with
 |o=>intro f g;exact(sq 0).symm
 |c x t ih=>
  intro f g;show(f 0+g 0)*x+dot t (λi=>f (i+1)+g (i+1))=(f 0*x+_)+(g 0*x+_);rw[ih,TJ,oh,oh,TK (g 0*x)]
theorem yK{k:Int}:∀{c:At}{f:Nat->Int},dot c (λi=>k*f i)=k*dot c f:=by
 intro c
 induction c with
 |o=>intro f;exact(Int.mul_zero k).symm
 |c x t ih=>
  intro f;show k*f 0*x+dot t (λi=>k*f (i+1))=k*(f 0*x+_);rw[ih,xF,xG]
theorem yL:∀{c:At}{i:Nat},dot c (λj=>co j (.v i))=c.get i:=by
 intro c
 induction c with
 |o=>intro i;rfl
 |c x t ih=>
  intro i;cases i with
  |zero=>exact(congr (congrArg (· +·) (xH x)) (sR (c:=t))).trans (sq x)
  |succ i=>exact(congr (congrArg (· +·) (G7 x)) (ih (i:=i))).trans (qK _)
theorem sS{c:At}:∀{t:T},ev c t=fN t+dot c (λj=>co j t):=by
 intro t
 induction t with
 |v i=>exact yL.symm.trans (qK _).symm
 |n k=>exact((sq k).symm.trans (congrArg (k+·) sR.symm))
 |a x y ak hy=>
  show ev c x+ev c y=fN x+fN y+dot c (λj=>co j x+co j y);rw[yJ,ak,hy,oh,oh,TK (fN y)]
 |m k x ak=>
  show k*ev c x=k*fN x+dot c (λj=>k*co j x);rw[yK,ak,xF]
theorem yM:∀{c:At}{f g:Nat->Int},al c f g=true->dot c f=dot c g:=by
 intro c
 induction c with
 |o=>intro _ _ _;rfl
 |c x t ih=>
  intro f g h;obtain⟨aa,h2⟩:=og.mp h;show f 0*x+_=g 0*x+_;rw[of_decide_eq_true aa,ih h2]
theorem yN{c:At}:∀{h:gE},(ev c h.l<=ev c h.r->False)->imp c h:=by
 intro h
 induction h with
 |o=>exact λH=>H (qL 0)
 |c k l r t ih=>exact λH h=>ih λs=>H (Int.add_le_add (TL h (cD k)) s)
theorem go(c:At)(h:gE)(hc:yI c h=true):imp c h:=yN λs=>by
 obtain⟨aa,h2⟩:=og.mp hc;rw[sS,sS]at s;exact TM _ (eZ s (TN (of_decide_eq_true aa) (aP (yM h2))))
end bp
end
theorem vd{x:Int}{n:Nat}(h:x.natAbs<=n): -(n:Int)<=x/\ x<=n:=
 ⟨TP (bG TQ (aX.mpr (Int.natAbs_neg x▸h))),bG TQ (aX.mpr h)⟩
theorem rd{x:Int}(n:Nat)(h0: -(n:Int)<=x)(aa:x<=n):x.natAbs<=n:=by
 cases x with
 |ofNat m=>exact aX.mp aa
 |negSucc m=>exact aX.mp (Int.le_of_neg_le_neg h0:((m+1:Nat):Int)<=n)
theorem Jf{v:Int}(h:0<v \/v< -1):(v/128).natAbs<v.natAbs:=by
 cases v with
 |ofNat m=>exact TR (h.elim dR.mp λh=>absurd (cD m) (eR.mpr (kP h (by decide)))) (by decide)
 |negSucc m=>exact G8 (TR (h.elim (λh=>absurd h (a6.mpr (fG (G9 m)))) λh=>pq (dR.mp (Int.lt_of_neg_lt_neg h:((1:Nat):Int)<((m+1:Nat):Int)))) (by decide))
theorem ve(n:Nat):((-(n:Int))%4).toNat<=3:=Ha.mpr (ut (fw _ (by decide)))
theorem B3(a:Nat):(-(-(a:Int)-1)-1).toNat=a:=by rw[Int.neg_sub,TS,ps,uv];rfl
theorem Jg{a:Nat}{k:Int}(h:((a/64:Nat):Int)=k):(a:Int)/64=k:=h
theorem B4{b:Int}(h: -18446744073709551616<b/\ b<18446744073709551616):b.natAbs<2^64:=uw (rd 18446744073709551615 (Hb h.1) (ut h.2))
theorem Jh{b:Int}(h:b.natAbs<2^64): -18446744073709551616<b/\ b<18446744073709551616:=have h:=vd (lW h:b.natAbs<=18446744073709551615);⟨dk (by decide) h.1,eZ h.2 (by decide)⟩
theorem four{n:Nat}(h:n<=4)(aq:(n:Int)≠0)(z1:(n:Int)≠1)(z2:(n:Int)≠2)(z3:(n:Int)≠3)(z4:(n:Int)≠4):False:=
 (A8 h).elim (λh=>(A8 (lW h)).elim (λh=>(A8 (lW h)).elim (λh=>(A8 (lW h)).elim (λh=>aq (congrArg lX (Nat.le_zero.mp (lW h)))) λe=>z1 (congrArg lX e)) λe=>z2 (congrArg lX e)) λe=>z3 (congrArg lX e)) λe=>z4 (congrArg lX e)
theorem Ji(x:Int):x+127*x=x*128:=by
 rw[lY x 128];exact(congrArg (· +127*x) (xH x)).symm.trans (TJ 1 127 x).symm
theorem Jj(a b m:Int): -(a+b)-1= -a-m+(m-1-b):=by
 show -(a+b)+ -1= -a+ -m+(m+ -1+ -b);rw[Int.neg_add,oh,oh,oh m,Int.neg_add_cancel_left,ps (-b)]
theorem mod_eq{v:Int}(h0: -128<=v)(aa:v<0):v%128=v+128:=
 (Hc v 128).symm.trans (jE (Hd h0 128) (A9 aa 128))
end
section
open PyProof.Rows
noncomputable section
inductive af where
 |none
 |bool (b:Bool)
 |int (i:Int)
 |str (s:String)
 |bytes (b:List UInt8)
 |tup (xs:List af)
 |loc (l:Nat)
 |np (xs:List Int)
 |nums
inductive cv where
 |dead
 |list (xs:List af)
 |bZ (es:List (Int×af))
 |fg (es:List (String×af))
 |dW (b:List UInt8)
 |inst (c:Nat) (fs:List (Nat×af))
 |box
theorem ao{P:Prop}(h:∀G:Prop,(P->G)->G):P:=h P id
theorem cU{α:Type}{e:α}{p:Prop}(h:none=some e):p:=nomatch h
theorem vf{p:Prop}(h:true=false):p:=nomatch h
theorem ci{p:Prop}(h:false=true):p:=nomatch h
theorem B5{α:Type}{e:α}{p:Prop}(h:some e=none):p:=nomatch h
theorem yO{α:Type}{a:α}{l:List α}{p:Prop}(h:a::l=[]):p:=nomatch h
theorem Xg{α:Type}{a:α}{l:List α}{p:Prop}(h:[]=a::l):p:=nomatch h
theorem yP{n:Nat}{p:Prop}(h:0=n+1):p:=nomatch h
theorem B6{n:Nat}{p:Prop}(h:n+1=0):p:=nomatch h
theorem Xh{α:Type}{p:α->Prop}(x:α)(h:x∈[]):p x:=nomatch h
noncomputable def yQ(o:cv):Nat:=@cv.rec (λ_w=>Nat) 0 (λ_w=>1) (λ_w=>2) (λ_w=>3) (λ_w=>4) (λc _w=>c+7) 5 o
theorem aA{o p:cv}{C:Prop}(h:dQ (yQ o) (yQ p)=false)(e:o=p):C:=ci (h.symm.trans (e▸Nat.beq_refl (yQ o)))
structure ah where
 next:Nat
 get:Nat->cv
noncomputable def ah.set(σ:ah)(l:Nat)(o:cv):ah:=⟨σ.next,λj=>if j=l then o else σ.get j⟩
noncomputable def ah.push(σ:ah)(o:cv):ah:=⟨σ.next+1,λj=>if j=σ.next then o else σ.get j⟩
noncomputable abbrev aQ:=Nat->Option af
noncomputable abbrev aQ.set(ρ:aQ)(i:Nat)(v:af):aQ:=λj=>match dQ j i with|true=>some v|false=>ρ j
noncomputable abbrev aQ.low(ρ:aQ):aQ:=λj=>match df 100 j with|true=>none|false=>ρ j
set_option genCtorIdx true in
inductive gZ where|add|sub|mul|fdiv|mod|pow|band|bor|shl|shr
set_option genCtorIdx true in
inductive jO where|lt|le|gt|ge|eq|ne|is|isin|iV
inductive gF where
 |var (i:Nat)
 |tup (is:List Nat)
set_option genCtorIdx true in
inductive mm where|len|bytes|bytearray|sum|abs|list|tuple|int|ord
mutual
inductive X where
 |lit (v:af)
 |var (i:Nat)
 |fz (k:Nat)
 |bin (op:gZ) (a b:X)
 |neg (a:X)
 |not (a:X)
 |and (a b:X)
 |or (a b:X)
 |cmp (op:jO) (a b:X)
 |oR (o1 o2:jO) (a b c:X)
 |vg (o1 o2 o3:jO) (a b c d:X)
 |ite (c a b:X)
 |call (f:Nat) (as:List X)
 |new (c:Nat) (as:List X)
 |aS (o:X) (m:Nat) (as:List X)
 |fromBytes (a:X)
 |bi (b:mm) (as:List X)
 |attr (o:X) (n:Nat)
 |idx (o i:X)
 |sliceTo (o ao:X)
 |sliceFrom (o lo:X)
 |slice (o lo ao:X)
 |tup (xs:List X)
 |list (xs:List X)
 |bZ (be:List Int) (vs:List X)
 |fg (be:List String) (vs:List X)
 |comp (elt:X) (t:gF) (it:iW) (ifs:List X)
inductive iW where
 |seq (a:X)
 |range (a:X)
 |enum (a:X)
 |zip (a b:X)
end
inductive fO where
 |var (i:Nat)
 |attr (o:X) (n:Nat)
 |sub (o i:X)
 |tup (ls:List fO)
inductive C where
 |expr (a:X)
 |assign (l:fO) (a:X)
 |pF (i:Nat) (op:gZ) (a:X)
 |sT (o:X) (n:Nat) (op:gZ) (a:X)
 |ret (a:X)
 |ite (c:X) (t e:List C)
 |while (c:X) (b:List C)
 |for (t:gF) (it:iW) (b:List C)
 |raise (c:Nat) (as:List X)
 |try (b:List C) (c:Nat) (h:List C)
 |cont
 |pass
inductive Ask:Type 1 where
 |fin (p:Prop)
 |some {α:Type} (o:Option α) (k:α->Ask)
 |obj (o:cv) (k:cv->Ask)
 |cond (c:Prop) (k:Ask)
 |g4 (b:Bool) (t e:Ask)
noncomputable abbrev Ask.no:Ask:=.fin False
noncomputable abbrev Ask.P:Ask->Prop
 |.fin p=>p
 |.some o k=>∃v,o=Hf v/\ (k v).P
 |.obj o k=>(k o).P
 |.cond c k=>c/\ k.P
 |.g4 b t e=>match b with|true=>t.P|false=>e.P
noncomputable abbrev Ask.D:Ask->Prop->Prop
 |.fin p,G=>p->G
 |.some o k,G=>∀ ⦃v⦄,o=Hf v->(k v).D G
 |.obj o k,G=>∀ ⦃v⦄,o=v->(k v).D G
 |.cond c k,G=>c->k.D G
 |.g4 b t e,G=>∀ ⦃v⦄,b=v->match v with|true=>t.D G|false=>e.D G
theorem Ask.ok:∀(a:Ask){G:Prop},(a.P->G)->a.D G
 |.fin _,_,h=>h
 |.some _ k,_,h=>λ_w e=>(k _).ok λp=>h ⟨_,e,p⟩
 |.obj _ k,_,h=>λ_w e=>(k _).ok λp=>h (e▸p)
 |.cond _ k,_,h=>λc=>k.ok λp=>h ⟨c,p⟩
 |.g4 true t e,G,h=>λ_w q=>q▸t.ok h
 |.g4 false t e,G,h=>λ_w q=>q▸e.ok h
theorem Ask.back:∀{a:Ask}{G:Prop},a.D G->a.P->G
 |.fin _,_,d,p=>d p
 |.some _ _,_,d,⟨_,e,p⟩=>back (d e) p
 |.obj _ _,_,d,p=>back (d rfl) p
 |.cond _ _,_,d,p=>back (d p.1) p.2
 |.g4 true _ _,_,d,p=>back (d rfl) p
 |.g4 false _ _,_,d,p=>back (d rfl) p
theorem Ask.run{a:Ask}(h:a.D a.P->a.P):a.P:=h (a.ok id)
noncomputable abbrev bt:=List af->aQ->ah->Ask
noncomputable abbrev cX:=aQ->ah->Ask
noncomputable abbrev eS:=af->Ask
noncomputable abbrev eH:=af->ah->Ask
noncomputable abbrev cR:=af->ah->Prop
noncomputable abbrev kZ:=Nat->ah->Prop
structure cq where
 N:cX
 C:cX
 V:eH
 E:Nat->cX
structure Tab where
 yR:Nat->List af->ah->cR->kZ->Prop
 bk:Nat->Nat->Option Nat
 bl:Nat->Option Nat
noncomputable abbrev pu(K:bt)(st:List af)(ρ:aQ)(σ:ah):eS:=λv=>K (v::st) ρ σ
noncomputable abbrev jq(K:bt)(st:List af)(ρ:aQ):eH:=λv σ=>K (v::st) ρ σ
noncomputable abbrev B7(K:bt)(st:List af)(ρ:aQ):cR:=λv σ=>(K (v::st) ρ σ).P
noncomputable abbrev Jk(K:bt)(st:List af)(ρ:aQ)(σ:ah):Bool->Ask:=λb=>K (.bool b::st) ρ σ
noncomputable abbrev bJ(K:bt)(st:List af)(ρ:aQ):ah->Ask:=λσ=>K st ρ σ
noncomputable abbrev hU(P:cq)(ρ:aQ):kZ:=λc σ=>(P.E c ρ σ).P
noncomputable abbrev vh(v:af)(A B:Ask):Ask:=match v with|.bool b=>Ask.g4 b A B|_=>.no
noncomputable abbrev dS(v:af)(F:Int->Ask):Ask:=match v with|.int i=>F i|_=>.no
noncomputable abbrev onStr(v:af)(F:String->Ask):Ask:=match v with|.str i=>F i|_=>.no
noncomputable abbrev fP(v:af)(F:Nat->Ask):Ask:=match v with|.loc i=>F i|_=>.no
noncomputable abbrev isList(F:List af->Ask)(o:cv):Ask:=match o with|.list xs=>F xs|_=>.no
noncomputable abbrev sU(F:List UInt8->Ask)(o:cv):Ask:=match o with|.dW xs=>F xs|_=>.no
noncomputable abbrev yS(F:Nat->List (Nat×af)->Ask)(o:cv):Ask:=match o with|.inst c fs=>F c fs|_=>.no
noncomputable def mq:List (String×String):=
 [("advance_loc","n"),("set_loc","n"),("def_cfa_offset","n"),("nop",""),("remember_state",""),("restore_state",""),("def_cfa_register","r"),
 ("restore","r"),("undefined","r"),("same_value","r"),("register","rr"),("def_cfa","rn"),("offset","rn"),("offset_extended","rn"),("val_offset","rn")]
noncomputable def pG:Nat->String
 |0=>"CIE_MARK"|1=>"VERSION"|2=>"LEAST_VERSIONS"|3=>"NUMBERS"|4=>"_law_edges"|5=>"_law_registers"|6=>"_law_wide"|_=>""
noncomputable def vi:List Int:=[0,1,63,64,127,128,255,256,65535,65536,4294967295,4294967366,18446744073709551616]
noncomputable def gG:List Int:=[0,8,63,64,127,128,70000]
noncomputable def sV:List Int:=[4096,0,4294967295,4294967301,-4,1099511627780]
noncomputable abbrev sel{α:Type}(d:α):List α->Nat->α
 |[],_=>d
 |x::r,k=>match dQ k 0 with|true=>x|false=>sel d r (Nat.sub k 1)
noncomputable abbrev B8(k:Nat):af:=sel .none [.int 4294967295,.int 4,.tup [.int 1,.int 3,.int 4],.nums,.tup (vi.map .int),.tup (gG.map .int),.tup (sV.map .int)] k
noncomputable abbrev vj(op:gZ)(a b:Int)(F:eS):Ask:=match op with
 |.add=>F (.int (a+b))
 |.sub=>F (.int (a-b))
 |.mul=>.cond (gV a b)<|F (.int (a*b))
 |.fdiv=>.cond ((b≠0/\ -18446744073709551616<b/\ b<18446744073709551616))<|F (.int (a.fdiv b))
 |.mod=>.cond ((b≠0/\ -18446744073709551616<b/\ b<18446744073709551616))<|F (.int (a.fmod b))
 |.pow=>.cond ((0<=b/\ b<=1000/\ -18446744073709551616<a/\ a<18446744073709551616))<|F (.int (a^b.toNat))
 |.band=>F (.int (Builtin.bitAnd a b))
 |.bor=>F (.int (Builtin.bitOr a b))
 |.shl=>.cond ((0<=b/\ b<=1000000/\ -18446744073709551616<a/\ a<18446744073709551616))<|F (.int (a*2^b.toNat))
 |.shr=>.cond (0<=b)<|F (.int (a.fdiv (2^b.toNat)))
noncomputable abbrev Jl(x y:af)(σ:ah)(F:eH):Ask:=match x with
 |.str a=>onStr y λb=>.cond (a.length+b.length<=1000000)<|F (.str (a++b)) σ
 |.bytes a=>(match y with|.bytes b=>.cond (a.length+b.length<=1000000)<|F (.bytes (a++b)) σ|_=>.no)
 |.loc a=>fP y λb=>Ask.obj (σ.get a) (isList λxs=>Ask.obj (σ.get b) (isList λys=>.cond (xs.length+ys.length<=1000000)<|F (.loc σ.next) (σ.push (.list (xs++ys)))))
 |_=>.no
noncomputable abbrev B9(op:gZ)(x y:af)(σ:ah)(F:eH):Ask:=match x with
 |.int a=>dS y λb=>vj op a b λv=>F v σ
 |_=>(match op with|.add=>Jl x y σ F|_=>.no)
noncomputable abbrev yT(op:gZ)(x y:af)(F:eS):Ask:=dS x λa=>dS y λb=>vj op a b F
noncomputable def d5{α β:Type}(f:α->Option β):List α->Option (List β)
 |[]=>some []
 |x::xs=>match f x with|none=>none|some y=>(d5 f xs).map (y::·)
theorem Jm{α β:Type}{f:α->Option β}{x:α}{xs:List α}:d5 f (x::xs)=(match f x with|none=>none|some y=>(d5 f xs).map (y::·)):=rfl
noncomputable def deep(σ:ah):Nat->af->Option Dat
 |0,_=>none
 |n+1,v=>match v with
  |.none=>some .none
  |.int i=>some (.int i)
  |.str s=>if uy (aI s)then some (.str (aI s))else none
  |.tup xs=>(d5 (deep σ n) xs).map .tuple
  |.loc l=>(match σ.get l with|.list xs=>(d5 (deep σ n) xs).map .list|_=>none)
  |_=>none
open Classical in
noncomputable def g5(x y:af)(σ:ah):Option Bool:=(deep σ 8 x).bind λd=>(deep σ 8 y).map λe=>decide (d=e)
noncomputable abbrev yU(x y:af)(σ:ah)(F:Bool->Ask):Ask:=match x with
 |.int a=>dS y λb=>F (decide (a=b))
 |.str a=>onStr y λb=>F (decide (a=b))
 |.bytes a=>(match y with|.bytes b=>F (decide (a=b))|_=>.no)
 |.none=>(match y with|.none=>F true|_=>.no)
 |.loc _=>fP y λ_w=>Ask.some (g5 x y σ) F
 |.tup _=>(match y with|.tup _=>Ask.some (g5 x y σ) F|_=>.no)
 |_=>.no
noncomputable def dX(k:Int):List (Int×af)->Option af
 |[]=>none
 |(j,v)::r=>if j=k then some v else dX k r
noncomputable def hY(k:Int)(v:af):List (Int×af)->List (Int×af)
 |[]=>[(k,v)]
 |(j,u)::r=>if j=k then(j,v)::r else(j,u)::hY k v r
noncomputable def g6{α:Type}(k:String):List (String×α)->Option α
 |[]=>none
 |(j,v)::r=>if j=k then some v else g6 k r
noncomputable abbrev rf(k:Nat):List (Nat×af)->Option af
 |[]=>none
 |(j,v)::r=>match dQ j k with|true=>some v|false=>rf k r
noncomputable abbrev putN(k:Nat)(v:af):List (Nat×af)->List (Nat×af)
 |[]=>[(k,v)]
 |(j,u)::r=>match dQ j k with|true=>(j,v)::r|false=>(j,u)::putN k v r
noncomputable def kj(k:Int):List af->Option Bool
 |[]=>some false
 |.int j::r=>if j=k then(kj k r).map λ_w=>true else kj k r
 |_::_=>none
noncomputable def rg(k:String):List af->Option Bool
 |[]=>some false
 |.str j::r=>if j=k then(rg k r).map λ_w=>true else rg k r
 |_::_=>none
noncomputable abbrev vk(x y:af)(σ:ah)(F:Bool->Ask):Ask:=match y with
 |.tup xs=>(match x with|.int k=>Ask.some (kj k xs) F|.str k=>Ask.some (rg k xs) F|_=>.no)
 |.loc l=>(match x with
  |.int k=>Ask.obj (σ.get l) λo=>match o with|.bZ es=>F (dX k es).isSome|_=>.no
  |.str k=>Ask.obj (σ.get l) λo=>match o with|.fg es=>F (g6 k es).isSome|_=>.no
  |_=>.no)
 |.nums=>onStr x λk=>F (g6 k mq).isSome
 |_=>.no
noncomputable abbrev vl:cv->Prop
 |.box=>False
 |_=>True
noncomputable abbrev vm(op:jO)(x y:af)(σ:ah)(F:Bool->Ask):Ask:=match op with
 |.lt=>dS x λa=>dS y λb=>F (decide (a<b))
 |.le=>dS x λa=>dS y λb=>F (decide (a<=b))
 |.gt=>dS x λa=>dS y λb=>F (decide (b<a))
 |.ge=>dS x λa=>dS y λb=>F (decide (b<=a))
 |.eq=>yU x y σ F
 |.ne=>yU x y σ λb=>F (!b)
 |.is=>fP x λa=>fP y λb=>Ask.obj (σ.get a) λo=>.cond (vl o)<|F (decide (a=b))
 |.isin=>vk x y σ F
 |.iV=>vk x y σ λb=>F (!b)
noncomputable def eI{α:Type}(xs:List α)(k:Int):Option α:=match k with
 |.ofNat n=>(match df n 1000000 with|true=>xs[n]?|false=>none)
 |.negSucc n=>(match df n 999999&&df (n+1) xs.length with|true=>xs[xs.length-(n+1)]?|false=>none)
noncomputable def cut{α:Type}(lo ao:Option Int)(xs:List α):List α:=
 (xs.drop (lo.elim 0 (jm xs.length))).take (ao.elim xs.length (jm xs.length)-lo.elim 0 (jm xs.length))
noncomputable abbrev Ca(k:Int)(F:eS)(o:cv):Ask:=match o with
 |.list xs=>Ask.some (eI xs k) F
 |.bZ es=>Ask.some (dX k es) F
 |_=>.no
noncomputable abbrev Cb(k:String)(F:eS)(o:cv):Ask:=match o with
 |.fg es=>Ask.some (g6 k es) F
 |_=>.no
noncomputable abbrev index(o i:af)(σ:ah)(F:eS):Ask:=match o with
 |.tup xs=>dS i λk=>Ask.some (eI xs k) F
 |.bytes xs=>dS i λk=>Ask.some (eI xs k) λc=>F (.int c.toNat)
 |.loc l=>(match i with|.int k=>Ask.obj (σ.get l) (Ca k F)|.str k=>Ask.obj (σ.get l) (Cb k F)|_=>.no)
 |.nums=>onStr i λk=>Ask.some (g6 k mq) λc=>F (.str c)
 |_=>.no
noncomputable abbrev sW(o:af)(lo ao:Option Int)(σ:ah)(F:eH):Ask:=match o with
 |.tup xs=>(match lo,ao with|none,some _=>.cond (xs.length<=1000000)<|F (.tup (cut lo ao xs)) σ|_,_=>.no)
 |.bytes xs=>.cond (xs.length<=1000000)<|F (.bytes (cut lo ao xs)) σ
 |.np xs=>.cond (xs.length<=1000000)<|F (.loc σ.next) (σ.push (.list ((cut lo ao xs).map .int)))
 |.loc l=>Ask.obj (σ.get l) (isList λxs=>.cond (xs.length<=1000000)<|F (.loc σ.next) (σ.push (.list (cut lo ao xs))))
 |_=>.no
noncomputable abbrev Cc(l:Nat)(k:Int)(v:af)(σ:ah)(F:ah->Ask)(o:cv):Ask:=match o with
 |.list xs=>.cond ((0<=k/\ k<xs.length/\ k<=1000000))<|F (σ.set l (.list (xs.set k.toNat v)))
 |.bZ es=>.cond (es.length<1000000)<|F (σ.set l (.bZ (hY k v es)))
 |_=>.no
noncomputable abbrev setIndex(o i v:af)(σ:ah)(F:ah->Ask):Ask:=fP o λl=>dS i λk=>Ask.obj (σ.get l) (Cc l k v σ F)
noncomputable abbrev yV(o:af)(n:Nat)(σ:ah)(F:eS):Ask:=fP o λl=>Ask.obj (σ.get l) (yS λ_w fs=>Ask.some (rf n fs) F)
noncomputable abbrev fld(c n:Nat):Bool:=sel (λ_w=>false) [λn=>df n 2,λn=>dQ n 3,λn=>match df 4 n with|true=>df n 7|false=>false,λn=>match df 7 n with|true=>df n 10|false=>false] c n
noncomputable abbrev setAt(l n:Nat)(v:af)(σ:ah)(F:ah->Ask)(c:Nat)(fs:List (Nat×af)):Ask:=match fld c n with
 |true=>.cond (fs.length<20)<|F (σ.set l (.inst c (putN n v fs)))
 |false=>.no
noncomputable abbrev yW(o:af)(n:Nat)(v:af)(σ:ah)(F:ah->Ask):Ask:=fP o λl=>Ask.obj (σ.get l) (yS (setAt l n v σ F))
noncomputable def intsOf:List af->Option (List Int)
 |[]=>some []
 |.int i::r=>(intsOf r).map (i::·)
 |_::_=>none
noncomputable def bytesOf:List af->Option (List (List UInt8))
 |[]=>some []
 |.bytes i::r=>(bytesOf r).map (i::·)
 |_::_=>none
noncomputable def iz(ns:List Int):List UInt8:=ns.map λn=>n.toNat.toUInt8
noncomputable def digit:String->Option Int
 |"1"=>some 1|"2"=>some 2|"4"=>some 4|_=>none
noncomputable abbrev yX(F:eS)(o:cv):Ask:=match o with
 |.list xs=>.cond (xs.length<=1000000)<|F (.int xs.length)
 |.dW xs=>.cond (xs.length<=1000000)<|F (.int xs.length)
 |_=>.no
noncomputable abbrev yY(F:eS)(o:cv):Ask:=match o with
 |.dW xs=>.cond (xs.length<=1000000)<|F (.bytes xs)
 |.list xs=>Ask.some (intsOf xs) λns=>.cond (((∀n∈ns,0<=n/\ n<256)/\ xs.length<=1000000))<|F (.bytes (iz ns))
 |_=>.no
noncomputable abbrev vn(b:mm)(v:af)(σ:ah)(F:eH):Ask:=match b with
 |.len=>(match v with
  |.bytes xs=>.cond (xs.length<=1000000)<|F (.int xs.length) σ
  |.str xs=>.cond (xs.length<=1000000)<|F (.int xs.length) σ
  |.tup xs=>.cond (xs.length<=1000000)<|F (.int xs.length) σ
  |.loc l=>Ask.obj (σ.get l) (yX λv=>F v σ)
  |_=>.no)
 |.bytes=>(match v with
  |.bytes xs=>F (.bytes xs) σ
  |.int n=>.cond ((0<=n/\ n<=1000000))<|F (.bytes (gy n.toNat 0)) σ
  |.loc l=>Ask.obj (σ.get l) (yY λv=>F v σ)
  |_=>.no)
 |.sum=>fP v λl=>Ask.obj (σ.get l) (isList λxs=>Ask.some (intsOf xs) λns=>.cond (xs.length<=1000000)<|F (.int ns.sum) σ)
 |.abs=>dS v λi=>F (.int i.natAbs) σ
 |.list=>fP v λl=>Ask.obj (σ.get l) (isList λxs=>.cond (xs.length<=1000000)<|F (.loc σ.next) (σ.push (.list xs)))
 |.tuple=>fP v λl=>Ask.obj (σ.get l) (isList λxs=>.cond (xs.length<=1000000)<|F (.tup xs) σ)
 |.int=>onStr v λs=>Ask.some (digit s) λd=>F (.int d) σ
 |_=>.no
noncomputable abbrev builtin(b:mm)(vs:List af)(σ:ah)(F:eH):Ask:=match vs with
 |[]=>(match b with|.bytearray=>F (.loc σ.next) (σ.push (.dW []))|_=>.no)
 |[v]=>vn b v σ F
 |_=>.no
noncomputable def bO(v:Int)(n:Nat):List UInt8:=(cE n).map λi=>(v/256^i%256).toNat.toUInt8
noncomputable def findAt(xs:List UInt8):Nat->Nat->Int
 |0,_=> -1
 |n+1,i=>match xs[i]? with|some c=>if c=0 then i else findAt xs n (i+1)|none=> -1
theorem vo{xs:List UInt8}{n i:Nat}:findAt xs (n+1) i=(match xs[i]? with|some c=>if c=0 then(i:Int)else findAt xs n (i+1)|none=> -1):=rfl
noncomputable def pI(xs:List UInt8):String:=TU (xs.map λc=>Hg c.toNat)
noncomputable def indexOf(k:Int):List Int->Option Nat
 |[]=>none
 |j::r=>if j=k then some 0 else(indexOf k r).map (· +1)
inductive oS where
 |own (f:Nat)|append|pop|index|sX|sY|find|decode|join|toBytes|encode
noncomputable abbrev k1(m k:Nat)(A B:Ask):Ask:=match dQ m k with|true=>A|false=>B
noncomputable abbrev Cd(bk:Nat->Nat->Option Nat)(m:Nat)(F:oS->Ask)(o:cv):Ask:=match o with
 |.inst c _=>Ask.some (bk c m) λf=>F (.own f)
 |.list _=>k1 m 9 (F .append) (k1 m 10 (F .pop) (k1 m 11 (F .index) .no))
 |.dW _=>k1 m 9 (F .sX) (k1 m 12 (F .sY) .no)
 |_=>.no
noncomputable abbrev Ce(bk:Nat->Nat->Option Nat)(o:af)(m:Nat)(σ:ah)(F:oS->Ask):Ask:=match o with
 |.loc l=>Ask.obj (σ.get l) (Cd bk m F)
 |.bytes _=>k1 m 13 (F .find) (k1 m 14 (F .decode) (k1 m 15 (F .join) .no))
 |.int _=>k1 m 16 (F .toBytes) .no
 |.str _=>k1 m 17 (F .encode) .no
 |_=>.no
noncomputable abbrev Jn(vs:List af)(P:Ask):Ask:=match vs with|[]=>P|_=>.no
noncomputable abbrev oU(vs:List af)(F:eS):Ask:=match vs with|[v]=>F v|_=>.no
noncomputable abbrev Cf(vs:List af)(F:af->eS):Ask:=match vs with|[v,w]=>F v w|_=>.no
noncomputable abbrev Cg(vs:List af)(F:af->af->eS):Ask:=match vs with|[v,w,u]=>F v w u|_=>.no
noncomputable abbrev onBytes(v:af)(F:List UInt8->Ask):Ask:=match v with|.bytes i=>F i|_=>.no
noncomputable abbrev sZ(k:oS)(o:af)(vs:List af)(σ:ah)(F:eH):Ask:=match k with
 |.append=>fP o λl=>oU vs λv=>Ask.obj (σ.get l) (isList λxs=>.cond (xs.length<1000000)<|F .none (σ.set l (.list (xs++[v]))))
 |.pop=>fP o λl=>Jn vs (Ask.obj (σ.get l) (isList λxs=>Ask.some xs.getLast? λv=>.cond (xs.length<=1000000)<|F v (σ.set l (.list xs.dropLast))))
 |.index=>fP o λl=>oU vs λv=>dS v λk=>Ask.obj (σ.get l) (isList λxs=>Ask.some (intsOf xs) λns=>Ask.some (indexOf k ns) λj=>.cond (xs.length<=1000000)<|F (.int j) σ)
 |.sX=>fP o λl=>oU vs λv=>dS v λk=>Ask.obj (σ.get l) (sU λxs=>.cond ((0<=k/\ k<256/\ xs.length<1000000))<|F .none (σ.set l (.dW (xs++[k.toNat.toUInt8]))))
 |.sY=>fP o λl=>oU vs λv=>onBytes v λys=>Ask.obj (σ.get l) (sU λxs=>.cond (xs.length+ys.length<=1000000)<|F .none (σ.set l (.dW (xs++ys))))
 |.find=>onBytes o λxs=>Cg vs λu v w=>onBytes u λy=>dS v λa=>dS w λb=>.cond ((y=[0]/\ 0<=a/\ a<=b/\ b<=xs.length/\ xs.length<=1000000))<|F (.int (findAt xs (b-a).toNat a.toNat)) σ
 |.decode=>onBytes o λxs=>oU vs λv=>onStr v λe=>.cond ((e="latin-1"/\ xs.length<=1000000))<|F (.str (pI xs)) σ
 |.join=>onBytes o λxs=>oU vs λv=>fP v λl=>Ask.obj (σ.get l) (isList λys=>Ask.some (bytesOf ys) λbs=>.cond ((xs=[]/\ bs.flatten.length<=1000000/\ ys.length<=1000000))<|F (.bytes bs.flatten) σ)
 |.toBytes=>dS o λv=>Cf vs λu w=>dS u λn=>onStr w λe=>.cond ((e="little"/\ 0<=n/\ n<=8/\ 0<=v/\ v<256^n.toNat))<|F (.bytes (bO v n.toNat)) σ
 |.encode=>onStr o λs=>oU vs λv=>onStr v λe=>.cond ((e="latin-1"/\ s=""))<|F (.bytes []) σ
 |.own _=>.no
noncomputable abbrev Ch(T:Tab)(k:oS)(o:af)(vs:List af)(σ:ah)(F:eH)(P:cq)(ρ:aQ):Ask:=match k with
 |.own f=>.fin (T.yR f (o::vs) σ (λv σ=>(F v σ).P) (hU P ρ))
 |k=>sZ k o vs σ F
noncomputable abbrev Jo(v:af)(F:eS):Ask:=onBytes v λxs=>.cond (xs.length<=8)<|F (.int (xs.foldr (λc a=>(c.toNat:Int)+256*a) 0))
noncomputable abbrev fh:List Nat->List af->aQ->aQ
 |i::is,v::vs,ρ=>fh is vs (ρ.set i v)
 |_,_,ρ=>ρ
noncomputable abbrev g8{α β:Type}:List α->List β->Bool
 |[],[]=>true
 |_::a,_::b=>g8 a b
 |_,_=>false
noncomputable abbrev iX(t:gF)(v:af)(ρ:aQ)(F:aQ->Ask):Ask:=match t with
 |.var i=>F (ρ.set i v)
 |.tup is=>(match v with|.tup xs=>Ask.g4 (g8 is xs) (F (fh is xs ρ)) .no|_=>.no)
structure d6 where
 vs:List af
 keep:Option (Nat×cv)
noncomputable abbrev d6.gI(t:d6)(σ:ah):Prop:=match t.keep with
 |none=>True
 |some (l,o)=>σ.get l=o
noncomputable def jr(s:String):List af:=s.toList.map λc=>.str (Hh c)
noncomputable abbrev Ci(v:af)(σ:ah)(F:d6->Ask):Ask:=match v with
 |.tup xs=>F ⟨xs,none⟩
 |.str s=>F ⟨jr s,none⟩
 |.loc l=>Ask.obj (σ.get l) (isList λxs=>F ⟨xs,some (l,.list xs)⟩)
 |_=>.no
noncomputable abbrev Jp(v:af)(F:d6->Ask):Ask:=dS v λn=>.cond ((0<=n/\ n<=1000000))<|F ⟨(cE n.toNat).map λ(k:Nat)=>af.int (k:Int),none⟩
noncomputable abbrev Jq(v:af)(σ:ah)(F:d6->Ask):Ask:=fP v λl=>Ask.obj (σ.get l) (isList λxs=>F ⟨(cE xs.length).zipWith (λ(k:Nat) v=>af.tup [.int (k:Int),v]) xs,some (l,.list xs)⟩)
noncomputable abbrev Cj(v w:af)(σ:ah)(F:d6->ah->Ask):Ask:=onStr v λs=>match w with
 |.tup ys=>F ⟨(jr s).zipWith (λv w=>.tup [v,w]) ys,some (σ.next,.box)⟩ (σ.push .box)
 |_=>.no
noncomputable def rh(t:d6)(f:af->ah->(Option af->ah->Prop)->Ask)(F:List af->ah->Ask)(σ:ah):Prop:=
 ∃I:List af->List af->ah->Prop,I t.vs [] σ/\ (∀v r acc σ,I (v::r) acc σ->t.gI σ/\ (f v σ λo σ=>match o with|some u=>acc.length<1000000/\ I r (acc++[u]) σ|none=>I r acc σ).P)/\ ∀acc σ,I [] acc σ->t.gI σ/\ (F acc σ).P
noncomputable abbrev dY(I:aQ->ah->Prop):cX:=λρ σ=>.fin (I ρ σ)
noncomputable def vp(t:d6)(f:af->cq->cX)(K:cX)(P:cq)(ρ:aQ)(σ:ah):Prop:=
 ∃I:List af->aQ->ah->Prop,I t.vs ρ σ/\ (∀v r ρ σ,I (v::r) ρ σ->t.gI σ/\ (f v ⟨dY (I r),dY (I r),P.V,P.E⟩ ρ σ).P)/\ ∀ρ σ,I [] ρ σ->t.gI σ/\ (K ρ σ).P
noncomputable abbrev yZ(b:cX)(K:cX):bt:=λst ρ σ=>match st with|[v]=>vh v (b ρ σ) (K ρ σ)|_=>.no
noncomputable def y3(c:bt->cX)(b:cq->cX)(K:cX)(P:cq)(ρ:aQ)(σ:ah):Prop:=
 ∃(α:Type) (I:α->aQ->ah->Prop) (m:α->Nat) (a:α),I a ρ σ/\ ∀a ρ σ,I a ρ σ->(c (yZ (b ⟨dY λρ σ=>∃a',m a'<m a/\ I a' ρ σ,dY λρ σ=>∃a',m a'<m a/\ I a' ρ σ,P.V,P.E⟩) K) ρ σ).P
noncomputable abbrev gJ:List X->List af->List af->(List af->List af->Ask)->Ask
 |[],st,acc,F=>F acc st
 |_::xs,v::st,acc,F=>gJ xs st (v::acc) F
 |_::_,[],_,_=>.no
noncomputable abbrev iA(st:List af)(F:af->List af->Ask):Ask:=match st with|v::st=>F v st|_=>.no
noncomputable abbrev oV(st:List af)(F:af->af->List af->Ask):Ask:=match st with|y::x::st=>F x y st|_=>.no
noncomputable abbrev y4(st:List af)(F:af->af->af->List af->Ask):Ask:=match st with|z::y::x::st=>F x y z st|_=>.no
noncomputable abbrev Jr(op:gZ)(K:bt):bt:=λst ρ σ=>oV st λx y st=>B9 op x y σ (jq K st ρ)
noncomputable abbrev Js(K:bt):bt:=λst ρ σ=>iA st λx st=>dS x λi=>K (.int (-i)::st) ρ σ
noncomputable abbrev pJ(A B:bt):bt:=λst ρ σ=>iA st λx st=>vh x (A st ρ σ) (B st ρ σ)
noncomputable abbrev vq(v:af)(K:bt):bt:=λst ρ σ=>K (v::st) ρ σ
noncomputable abbrev vr(op:jO)(K:bt):bt:=λst ρ σ=>oV st λx y st=>vm op x y σ (Jk K st ρ σ)
noncomputable abbrev vt(op:jO)(A K:bt):bt:=λst ρ σ=>oV st λx y st=>vm op x y σ λr=>Ask.g4 r (A (y::st) ρ σ) (K (.bool false::st) ρ σ)
noncomputable abbrev Jt(T:Tab)(f:Nat)(as:List X)(K:bt)(P:cq):bt:=λst ρ σ=>gJ as st [] λvs st=>.fin (T.yR f vs σ (B7 K st ρ) (hU P ρ))
noncomputable abbrev Ju(l:Nat)(K:bt)(st:List af)(ρ:aQ):cR:=λr σ=>match r with|.none=>(K (.loc l::st) ρ σ).P|_=>False
noncomputable abbrev Jv(T:Tab)(c:Nat)(as:List X)(K:bt)(P:cq):bt:=λst ρ σ=>gJ as st [] λvs st=>Ask.some (T.bl c) λf=>.fin (T.yR f (.loc σ.next::vs) (σ.push (.inst c [])) (Ju σ.next K st ρ) (hU P ρ))
noncomputable abbrev Jw(T:Tab)(as:List X)(K:bt)(P:cq)(m:oS):bt:=λst ρ σ=>gJ as st [] λvs st=>iA st λov st=>Ch T m ov vs σ (jq K st ρ) P ρ
noncomputable abbrev Jx(K:bt):bt:=λst ρ σ=>iA st λx st=>Jo x (pu K st ρ σ)
noncomputable abbrev Jy(b:mm)(as:List X)(K:bt):bt:=λst ρ σ=>gJ as st [] λvs st=>builtin b vs σ (jq K st ρ)
noncomputable abbrev Jz(n:Nat)(K:bt):bt:=λst ρ σ=>iA st λx st=>yV x n σ (pu K st ρ σ)
noncomputable abbrev Ck(K:bt):bt:=λst ρ σ=>oV st λx y st=>index x y σ (pu K st ρ σ)
noncomputable abbrev JA(K:bt):bt:=λst ρ σ=>oV st λx y st=>dS y λb=>sW x none (some b) σ (jq K st ρ)
noncomputable abbrev JB(K:bt):bt:=λst ρ σ=>oV st λx y st=>dS y λb=>sW x (some b) none σ (jq K st ρ)
noncomputable abbrev JC(K:bt):bt:=λst ρ σ=>y4 st λx y z st=>dS y λa=>dS z λb=>sW x (some a) (some b) σ (jq K st ρ)
noncomputable abbrev Cm(as:List X)(K:bt):bt:=λst ρ σ=>gJ as st [] λvs st=>K (.tup vs::st) ρ σ
noncomputable abbrev JD(as:List X)(K:bt):bt:=λst ρ σ=>gJ as st [] λvs st=>K (.loc σ.next::st) ρ (σ.push (.list vs))
noncomputable abbrev y5(be:List Int)(as:List X)(K:bt):bt:=λst ρ σ=>gJ as st [] λvs st=>K (.loc σ.next::st) ρ (σ.push (.bZ (be.zip vs)))
noncomputable abbrev y6(be:List String)(as:List X)(K:bt):bt:=λst ρ σ=>gJ as st [] λvs st=>K (.loc σ.next::st) ρ (σ.push (.fg (be.zip vs)))
noncomputable abbrev iB:cq:=⟨λ_w _w=>.no,λ_w _w=>.no,λ_w _w=>.no,λ_w _w _w=>.no⟩
noncomputable abbrev ri(Q:Option af->ah->Prop):bt:=λst _w σ=>iA st λu _w=>.fin (Q (some u) σ)
noncomputable abbrev rj(Q:Option af->ah->Prop):bt:=λ_w _w σ=>.fin (Q none σ)
noncomputable abbrev JE(F:d6->ah->Ask):bt:=λst _w σ=>iA st λv _w=>Ci v σ λt=>F t σ
noncomputable abbrev JF(F:d6->ah->Ask):bt:=λst _w σ=>iA st λv _w=>Jp v λt=>F t σ
noncomputable abbrev JG(F:d6->ah->Ask):bt:=λst _w σ=>iA st λv _w=>Jq v σ λt=>F t σ
noncomputable abbrev JH(F:d6->ah->Ask):bt:=λst _w σ=>oV st λv w _w=>Cj v w σ F
noncomputable abbrev JI(K:bt)(st:List af)(ρ:aQ):List af->ah->Ask:=λvs σ=>K (.loc σ.next::st) ρ (σ.push (.list vs))
mutual
noncomputable abbrev cc(T:Tab):X->bt->cq->bt
 |.lit v,K,_,st,ρ,σ=>K (v::st) ρ σ
 |.fz k,K,_,st,ρ,σ=>K (B8 k::st) ρ σ
 |.var i,K,_,st,ρ,σ=>Ask.some (ρ i) (pu K st ρ σ)
 |.bin op a b,K,P,st,ρ,σ=>cc T a (cc T b (Jr op K) P) P st ρ σ
 |.neg a,K,P,st,ρ,σ=>cc T a (Js K) P st ρ σ
 |.not a,K,P,st,ρ,σ=>cc T a (pJ (vq (.bool false) K) (vq (.bool true) K)) P st ρ σ
 |.and a b,K,P,st,ρ,σ=>cc T a (pJ (cc T b K P) (vq (.bool false) K)) P st ρ σ
 |.or a b,K,P,st,ρ,σ=>cc T a (pJ (vq (.bool true) K) (cc T b K P)) P st ρ σ
 |.cmp op a b,K,P,st,ρ,σ=>cc T a (cc T b (vr op K) P) P st ρ σ
 |.oR o1 o2 a b c,K,P,st,ρ,σ=>cc T a (cc T b (vt o1 (cc T c (vr o2 K) P) K) P) P st ρ σ
 |.vg o1 o2 o3 a b c d,K,P,st,ρ,σ=>cc T a (cc T b (vt o1 (cc T c (vt o2 (cc T d (vr o3 K) P) K) P) K) P) P st ρ σ
 |.ite c a b,K,P,st,ρ,σ=>cc T c (pJ (cc T a K P) (cc T b K P)) P st ρ σ
 |.call f as,K,P,st,ρ,σ=>xL T as (Jt T f as K P) P st ρ σ
 |.new c as,K,P,st,ρ,σ=>xL T as (Jv T c as K P) P st ρ σ
 |.aS o m as,K,P,st,ρ,σ=>cc T o (λst ρ σ=>iA st λov st=>Ce T.bk ov m σ λmk=>xL T as (Jw T as K P mk) P (ov::st) ρ σ) P st ρ σ
 |.fromBytes a,K,P,st,ρ,σ=>cc T a (Jx K) P st ρ σ
 |.bi b as,K,P,st,ρ,σ=>xL T as (Jy b as K) P st ρ σ
 |.attr o n,K,P,st,ρ,σ=>cc T o (Jz n K) P st ρ σ
 |.idx o i,K,P,st,ρ,σ=>cc T o (cc T i (Ck K) P) P st ρ σ
 |.sliceTo o h,K,P,st,ρ,σ=>cc T o (cc T h (JA K) P) P st ρ σ
 |.sliceFrom o h,K,P,st,ρ,σ=>cc T o (cc T h (JB K) P) P st ρ σ
 |.slice o l h,K,P,st,ρ,σ=>cc T o (cc T l (cc T h (JC K) P) P) P st ρ σ
 |.tup as,K,P,st,ρ,σ=>xL T as (Cm as K) P st ρ σ
 |.list as,K,P,st,ρ,σ=>xL T as (JD as K) P st ρ σ
 |.bZ be as,K,P,st,ρ,σ=>xL T as (y5 be as K) P st ρ σ
 |.fg be as,K,P,st,ρ,σ=>xL T as (y6 be as K) P st ρ σ
 |.comp elt t it ifs,K,P,st,ρ,σ=>vw T it (λits σ=>.fin (rh its (λv σ Q=>iX t v ρ.low λρ'=>oW T ifs (cc T elt (ri Q) iB) (rj Q) iB [] ρ' σ) (JI K st ρ) σ)) P ρ σ
noncomputable abbrev xL(T:Tab):List X->bt->cq->bt
 |[],K,_,st,ρ,σ=>K st ρ σ
 |x::xs,K,P,st,ρ,σ=>cc T x (xL T xs K P) P st ρ σ
noncomputable abbrev oW(T:Tab):List X->bt->bt->cq->bt
 |[],A,_,_,st,ρ,σ=>A st ρ σ
 |x::xs,A,B,P,st,ρ,σ=>cc T x (pJ (oW T xs A B P) B) P st ρ σ
noncomputable abbrev vw(T:Tab):iW->(d6->ah->Ask)->cq->cX
 |.seq a,F,P,ρ,σ=>cc T a (JE F) P [] ρ σ
 |.range a,F,P,ρ,σ=>cc T a (JF F) P [] ρ σ
 |.enum a,F,P,ρ,σ=>cc T a (JG F) P [] ρ σ
 |.zip a b,F,P,ρ,σ=>cc T a (cc T b (JH F) P) P [] ρ σ
end
noncomputable abbrev cat:List af->List af->List af
 |[],ys=>ys
 |x::xs,ys=>x::cat xs ys
noncomputable abbrev JJ(n:Nat)(K:bt):bt:=λst ρ σ=>oV st λv ov st=>yW ov n v σ (bJ K st ρ)
noncomputable abbrev JK(K:bt):bt:=λst ρ σ=>y4 st λv ov iv st=>setIndex ov iv v σ (bJ K st ρ)
noncomputable abbrev spread(ls:List fO)(K:bt):bt:=λst ρ σ=>iA st λv st=>match v with|.tup vs=>Ask.g4 (g8 ls vs) (K (cat vs st) ρ σ) .no|_=>.no
mutual
noncomputable abbrev s8(T:Tab):fO->bt->cq->bt
 |.var i,K,_,st,ρ,σ=>iA st λv st=>K st (ρ.set i v) σ
 |.attr o n,K,P,st,ρ,σ=>cc T o (JJ n K) P st ρ σ
 |.sub o i,K,P,st,ρ,σ=>cc T o (cc T i (JK K) P) P st ρ σ
 |.tup ls,K,P,st,ρ,σ=>spread ls (nr T ls K P) st ρ σ
noncomputable abbrev nr(T:Tab):List fO->bt->cq->bt
 |[],K,_,st,ρ,σ=>K st ρ σ
 |l::ls,K,P,st,ρ,σ=>s8 T l (nr T ls K P) P st ρ σ
end
noncomputable abbrev cq.to(P:cq)(N:cX):cq:=⟨N,P.C,P.V,P.E⟩
noncomputable abbrev rk(K:cX):bt:=λ_w ρ σ=>K ρ σ
noncomputable abbrev JL(x:af)(i:Nat)(op:gZ)(K:cX):bt:=λst ρ σ=>iA st λy _w=>yT op x y λv=>K (ρ.set i v) σ
noncomputable abbrev JM(n:Nat)(K:bt):bt:=λst ρ σ=>iA st λov _w=>yV ov n σ (pu K st ρ σ)
noncomputable abbrev JN(n:Nat)(op:gZ)(K:cX):bt:=λst ρ σ=>y4 st λov x y _w=>yT op x y λv=>yW ov n v σ (K ρ)
noncomputable abbrev Cn(P:cq):bt:=λst _w σ=>iA st λv _w=>P.V v σ
noncomputable abbrev JO(c:Nat)(P:cq):bt:=λ_w ρ σ=>P.E c ρ σ
noncomputable abbrev vx(A B:cX):bt:=λst ρ σ=>iA st λx _w=>vh x (A ρ σ) (B ρ σ)
mutual
noncomputable abbrev Co(T:Tab):C->cX->cq->cX
 |.expr a,K,P,ρ,σ=>cc T a (rk K) P [] ρ σ
 |.assign l a,K,P,ρ,σ=>cc T a (s8 T l (rk K) P) P [] ρ σ
 |.pF i op a,K,P,ρ,σ=>Ask.some (ρ i) λx=>cc T a (JL x i op K) P [] ρ σ
 |.sT o n op a,K,P,ρ,σ=>cc T o (JM n (cc T a (JN n op K) P)) P [] ρ σ
 |.ret a,_,P,ρ,σ=>cc T a (Cn P) P [] ρ σ
 |.ite c t e,K,P,ρ,σ=>cc T c (vx (sB T t (P.to K)) (sB T e (P.to K))) P [] ρ σ
 |.while c b,K,P,ρ,σ=>.fin (y3 (λk ρ σ=>cc T c k P [] ρ σ) (λP' ρ σ=>sB T b P' ρ σ) K P ρ σ)
 |.for t it b,K,P,ρ,σ=>vw T it (λits σ=>.fin (vp its (λv P' ρ σ=>iX t v ρ λρ=>sB T b P' ρ σ) K P ρ σ)) P ρ σ
 |.raise c as,_,P,ρ,σ=>xL T as (JO c P) P [] ρ σ
 |.try b c h,K,P,ρ,σ=>sB T b ⟨K,P.C,P.V,λdL ρ σ=>.cond (dL=c) (sB T h (P.to K) ρ σ)⟩ ρ σ
 |.cont,_,P,ρ,σ=>P.C ρ σ
 |.pass,K,_,ρ,σ=>K ρ σ
noncomputable abbrev sB(T:Tab):List C->cq->cX
 |[],P,ρ,σ=>P.N ρ σ
 |c::cs,P,ρ,σ=>Co T c (sB T cs P) P ρ σ
end
structure bB where
 params:List Nat
 body:List C
noncomputable abbrev g9(Q:cR)(E:kZ):cq:=⟨λ_w σ=>.fin (Q .none σ),λ_w _w=>.no,λv σ=>.fin (Q v σ),λc _w σ=>.fin (E c σ)⟩
noncomputable abbrev y7(T:Tab)(f:bB)(vs:List af)(σ:ah)(Q:cR)(E:kZ):Ask:=.g4 (g8 f.params vs) (sB T f.body (g9 Q E) (fh f.params vs λ_w=>none) σ) .no
noncomputable def bH(fns:Nat->Option bB)(bk:Nat->Nat->Option Nat)(bl:Nat->Option Nat):Nat->Nat->List af->ah->cR->kZ->Prop
 |0,_,_,_,_,_=>False
 |n+1,f,vs,σ,Q,E=>∃b,fns f=some b/\ (y7 ⟨bH fns bk bl n,bk,bl⟩ b vs σ Q E).P
end
end
section
noncomputable section
noncomputable abbrev JP:bB:=⟨[0,1,2,3],
 [.ite (.not (.vg .le .le .le (.lit (.int 0)) (.var 2) (.var 3) (.bi .len [(.var 1)])))
  [.raise 0 [(.lit (.str "a table beyond its octets")),(.var 2)]]
  [],
 .assign (.attr (.var 0) 0) (.var 1),
 .assign (.attr (.var 0) 1) (.var 2),
 .assign (.attr (.var 0) 2) (.var 3)]⟩
noncomputable abbrev JQ:bB:=⟨[0],
 [.ret (.cmp .eq (.attr (.var 0) 1) (.attr (.var 0) 2))]⟩
noncomputable abbrev JR:bB:=⟨[0,1],
 [.ite (.not (.oR .le .le (.lit (.int 0)) (.var 1) (.bin .sub (.attr (.var 0) 2) (.attr (.var 0) 1))))
  [.raise 0 [(.lit (.str "octets that lack")),(.attr (.var 0) 1)]]
  [],
 .sT (.var 0) 1 .add (.var 1),
 .ret (.bi .bytes [(.slice (.attr (.var 0) 0) (.bin .sub (.attr (.var 0) 1) (.var 1)) (.attr (.var 0) 1))])]⟩
noncomputable abbrev JS:bB:=⟨[0],
 [.ret (.idx (.aS (.var 0) 1 [(.lit (.int 1))]) (.lit (.int 0)))]⟩
noncomputable abbrev JT:bB:=⟨[0],
 [.ret (.fromBytes (.aS (.var 0) 1 [(.lit (.int 2))]))]⟩
noncomputable abbrev JU:bB:=⟨[0],
 [.ret (.fromBytes (.aS (.var 0) 1 [(.lit (.int 4))]))]⟩
noncomputable abbrev JV:bB:=⟨[0],
 [.assign (.tup [(.var 1),(.var 2)]) (.tup [(.lit (.int 0)),(.lit (.int 0))]),
 .while (.lit (.bool true))
  [.assign (.var 3) (.aS (.var 0) 2 []),
   .pF 1 .bor (.bin .shl (.bin .band (.var 3) (.lit (.int 127))) (.var 2)),
   .pF 2 .add (.lit (.int 7)),
   .ite (.cmp .lt (.var 3) (.lit (.int 128)))
    [.ret (.var 1)]
    []]]⟩
noncomputable abbrev JW:bB:=⟨[0],
 [.assign (.var 1) (.attr (.var 0) 1),
 .assign (.var 2) (.aS (.var 0) 5 []),
 .assign (.var 3) (.bin .mul (.lit (.int 7)) (.bin .sub (.attr (.var 0) 1) (.var 1))),
 .ret (.ite (.cmp .eq (.bin .shr (.var 2) (.bin .sub (.var 3) (.lit (.int 1)))) (.lit (.int 1))) (.bin .sub (.var 2) (.bin .shl (.lit (.int 1)) (.var 3))) (.var 2))]⟩
noncomputable abbrev JX:bB:=⟨[0],
 [.assign (.var 1) (.aS (.attr (.var 0) 0) 13 [(.lit (.bytes [0])),(.attr (.var 0) 1),(.attr (.var 0) 2)]),
 .ite (.cmp .lt (.var 1) (.lit (.int 0)))
  [.raise 0 [(.lit (.str "a text without an end")),(.attr (.var 0) 1)]]
  [],
 .assign (.var 2) (.aS (.var 0) 1 [(.bin .sub (.var 1) (.attr (.var 0) 1))]),
 .sT (.var 0) 1 .add (.lit (.int 1)),
 .ret (.aS (.var 2) 14 [(.lit (.str "latin-1"))])]⟩
noncomputable abbrev JY:bB:=⟨[0],
 [.ite (.cmp .lt (.var 0) (.lit (.int 0)))
  [.raise 0 [(.lit (.str "a number below 0")),(.neg (.lit (.int 1)))]]
  [],
 .assign (.var 1) (.bi .bytearray []),
 .while (.cmp .gt (.var 0) (.lit (.int 127)))
  [.expr (.aS (.var 1) 9 [(.bin .bor (.bin .band (.var 0) (.lit (.int 127))) (.lit (.int 128)))]),
   .pF 0 .shr (.lit (.int 7))],
 .expr (.aS (.var 1) 9 [(.var 0)]),
 .ret (.bi .bytes [(.var 1)])]⟩
noncomputable abbrev JZ:bB:=⟨[0],
 [.assign (.var 1) (.bi .bytearray []),
 .while (.not (.oR .le .lt (.neg (.lit (.int 64))) (.var 0) (.lit (.int 64))))
  [.expr (.aS (.var 1) 9 [(.bin .bor (.bin .band (.var 0) (.lit (.int 127))) (.lit (.int 128)))]),
   .pF 0 .shr (.lit (.int 7))],
 .expr (.aS (.var 1) 9 [(.bin .band (.var 0) (.lit (.int 127)))]),
 .ret (.bi .bytes [(.var 1)])]⟩
noncomputable abbrev J0:bB:=⟨[0],
 [.assign (.attr (.var 0) 3) (.bi .bytearray [])]⟩
noncomputable abbrev J1:bB:=⟨[0],
 [.ret (.bi .bytes [(.attr (.var 0) 3)])]⟩
noncomputable abbrev J2:bB:=⟨[0,1],
 [.expr (.aS (.attr (.var 0) 3) 12 [(.var 1)])]⟩
noncomputable abbrev J3:bB:=⟨[0,1],
 [.expr (.aS (.attr (.var 0) 3) 9 [(.bin .band (.var 1) (.lit (.int 255)))])]⟩
noncomputable abbrev J4:bB:=⟨[0,1],
 [.expr (.aS (.attr (.var 0) 3) 12 [(.aS (.bin .band (.var 1) (.lit (.int 65535))) 16 [(.lit (.int 2)),(.lit (.str "little"))])])]⟩
noncomputable abbrev J5:bB:=⟨[0,1],
 [.expr (.aS (.attr (.var 0) 3) 12 [(.aS (.bin .band (.var 1) (.lit (.int 4294967295))) 16 [(.lit (.int 4)),(.lit (.str "little"))])])]⟩
noncomputable abbrev J6:bB:=⟨[0,1],
 [.expr (.aS (.attr (.var 0) 3) 12 [(.call 9 [(.var 1)])])]⟩
noncomputable abbrev J7:bB:=⟨[0,1],
 [.expr (.aS (.attr (.var 0) 3) 12 [(.call 10 [(.var 1)])])]⟩
noncomputable abbrev J8:bB:=⟨[0,1],
 [.for (.var 2) (.seq (.var 1))
  [.ite (.not (.oR .lt .lt (.lit (.int 0)) (.bi .ord [(.var 2)]) (.lit (.int 256))))
    [.raise 0 [(.lit (.str "a sign that is no octet")),(.bi .len [(.attr (.var 0) 3)])]]
    []],
 .expr (.aS (.attr (.var 0) 3) 12 [(.aS (.var 1) 17 [(.lit (.str "latin-1"))])]),
 .expr (.aS (.attr (.var 0) 3) 9 [(.lit (.int 0))])]⟩
noncomputable abbrev J9:bB:=⟨[0,1,2,3,4],
 [.assign (.attr (.var 0) 4) (.var 1),
 .assign (.attr (.var 0) 5) (.var 2),
 .assign (.attr (.var 0) 6) (.var 3),
 .assign (.attr (.var 0) 7) (.var 4)]⟩
noncomputable abbrev Ka:bB:=⟨[0,1,2,3,4],
 [.assign (.attr (.var 0) 8) (.var 1),
 .assign (.attr (.var 0) 9) (.var 2),
 .assign (.attr (.var 0) 10) (.var 3),
 .assign (.attr (.var 0) 7) (.var 4)]⟩
noncomputable abbrev Kb:bB:=⟨[0,1],
 [.ite (.or (.cmp .eq (.var 1) (.lit (.int 0))) (.cmp .ne (.bin .mod (.var 0) (.var 1)) (.lit (.int 0))))
  [.raise 1 [(.lit (.str "a number of octets that the steps don't divide"))]]
  [],
 .ret (.bin .fdiv (.var 0) (.var 1))]⟩
noncomputable abbrev Kc:bB:=⟨[0,1],
 [.ite (.cmp .iV (.var 0) (.fz 3))
  [.raise 1 [(.bin .add (.lit (.str "no such operation: ")) (.var 0))]]
  [],
 .ite (.cmp .ne (.bi .len [(.var 1)]) (.bi .len [(.idx (.fz 3) (.var 0))]))
  [.raise 1 [(.bin .add (.lit (.str "too many numbers, or too few: ")) (.var 0))]]
  [],
 .for (.tup [2,3]) (.zip (.idx (.fz 3) (.var 0)) (.var 1))
  [.ite (.and (.cmp .eq (.var 2) (.lit (.str "r"))) (.cmp .lt (.var 3) (.lit (.int 0))))
    [.raise 1 [(.lit (.str "no register"))]]
    []]]⟩
noncomputable abbrev Kd:bB:=⟨[0,1],
 [.ite (.cmp .lt (.var 1) (.lit (.int 0)))
  [.raise 1 [(.lit (.str "a row that lies ahead of the one before"))]]
  [],
 .ite (.cmp .lt (.var 1) (.lit (.int 64)))
  [.expr (.aS (.var 0) 2 [(.bin .add (.lit (.int 64)) (.var 1))])]
  [.ite (.cmp .lt (.var 1) (.lit (.int 256)))
    [.expr (.aS (.var 0) 2 [(.lit (.int 2))]),
    .expr (.aS (.var 0) 2 [(.var 1)])]
    [.ite (.cmp .lt (.var 1) (.lit (.int 65536)))
     [.expr (.aS (.var 0) 2 [(.lit (.int 3))]),
      .expr (.aS (.var 0) 3 [(.var 1)])]
     [.expr (.aS (.var 0) 2 [(.lit (.int 4))]),
      .expr (.aS (.var 0) 4 [(.var 1)])]]]]⟩
noncomputable abbrev Ke:bB:=⟨[0,1,2,3,4],
 [.expr (.aS (.var 0) 2 [(.ite (.cmp .ge (.var 4) (.lit (.int 0))) (.var 1) (.var 2))]),
 .expr (.aS (.var 0) 5 [(.var 3)]),
 .ite (.cmp .ge (.var 4) (.lit (.int 0)))
  [.expr (.aS (.var 0) 5 [(.var 4)])]
  [.expr (.aS (.var 0) 6 [(.var 4)])]]⟩
noncomputable abbrev Kf:bB:=⟨[0,1,2,3],
 [.ite (.cmp .eq (.var 2) (.lit (.str "def_cfa_register")))
  [.expr (.aS (.var 0) 2 [(.lit (.int 13))]),
   .expr (.aS (.var 0) 5 [(.idx (.var 3) (.lit (.int 0)))]),
   .ret (.lit .none)]
  [],
 .assign (.var 4) (.idx (.var 3) (.neg (.lit (.int 1)))),
 .assign (.var 5) (.cmp .ge (.var 4) (.lit (.int 0))),
 .ite (.cmp .eq (.var 2) (.lit (.str "def_cfa")))
  [.expr (.aS (.var 0) 2 [(.ite (.var 5) (.lit (.int 12)) (.lit (.int 18)))]),
   .expr (.aS (.var 0) 5 [(.idx (.var 3) (.lit (.int 0)))])]
  [.expr (.aS (.var 0) 2 [(.ite (.var 5) (.lit (.int 14)) (.lit (.int 19)))])],
 .ite (.var 5)
  [.expr (.aS (.var 0) 5 [(.var 4)])]
  [.expr (.aS (.var 0) 6 [(.call 22 [(.var 4),(.attr (.var 1) 5)])])]]⟩
noncomputable abbrev Kg:bB:=⟨[0,1,2,3],
 [.assign (.var 4) (.idx (.var 3) (.lit (.int 0))),
 .ite (.cmp .eq (.var 2) (.lit (.str "offset")))
  [.assign (.var 5) (.call 22 [(.idx (.var 3) (.lit (.int 1))),(.attr (.var 1) 5)]),
   .ite (.or (.cmp .ge (.var 4) (.lit (.int 64))) (.cmp .lt (.var 5) (.lit (.int 0))))
    [.raise 1 [(.lit (.str "an offset that is none of the short ones"))]]
    [],
   .expr (.aS (.var 0) 2 [(.bin .add (.lit (.int 128)) (.var 4))]),
   .expr (.aS (.var 0) 5 [(.var 5)])]
  [.ite (.cmp .eq (.var 2) (.lit (.str "offset_extended")))
    [.expr (.call 25 [(.var 0),(.lit (.int 5)),(.lit (.int 17)),(.var 4),(.call 22 [(.idx (.var 3) (.lit (.int 1))),(.attr (.var 1) 5)])])]
    [.ite (.cmp .eq (.var 2) (.lit (.str "val_offset")))
     [.expr (.call 25 [(.var 0),(.lit (.int 20)),(.lit (.int 21)),(.var 4),(.call 22 [(.idx (.var 3) (.lit (.int 1))),(.attr (.var 1) 5)])])]
     [.ite (.cmp .eq (.var 2) (.lit (.str "restore")))
       [.ite (.cmp .lt (.var 4) (.lit (.int 64)))
        [.expr (.aS (.var 0) 2 [(.bin .add (.lit (.int 192)) (.var 4))])]
        [.expr (.aS (.var 0) 2 [(.lit (.int 6))]),
         .expr (.aS (.var 0) 5 [(.var 4)])]]
       [.expr (.aS (.var 0) 2 [(.idx (.fg ["undefined","same_value","register"] [(.lit (.int 7)),(.lit (.int 8)),(.lit (.int 9))]) (.var 2))]),
       .for (.var 6) (.seq (.var 3))
        [.expr (.aS (.var 0) 5 [(.var 6)])]]]]]]⟩
noncomputable abbrev Kh:bB:=⟨[0,1,2,3],
 [.expr (.call 23 [(.var 2),(.var 3)]),
 .ite (.cmp .eq (.var 2) (.lit (.str "advance_loc")))
  [.expr (.call 24 [(.var 0),(.call 22 [(.idx (.var 3) (.lit (.int 0))),(.attr (.var 1) 4)])])]
  [.ite (.cmp .eq (.var 2) (.lit (.str "set_loc")))
    [.expr (.aS (.var 0) 2 [(.lit (.int 1))]),
    .expr (.aS (.var 0) 4 [(.idx (.var 3) (.lit (.int 0)))])]
    [.ite (.cmp .isin (.var 2) (.tup [(.lit (.str "nop")),(.lit (.str "remember_state")),(.lit (.str "restore_state"))]))
     [.expr (.aS (.var 0) 2 [(.idx (.fg ["nop","remember_state","restore_state"] [(.lit (.int 0)),(.lit (.int 10)),(.lit (.int 11))]) (.var 2))])]
     [.ite (.cmp .isin (.var 2) (.tup [(.lit (.str "def_cfa")),(.lit (.str "def_cfa_register")),(.lit (.str "def_cfa_offset"))]))
       [.expr (.call 26 [(.var 0),(.var 1),(.var 2),(.var 3)])]
       [.expr (.call 27 [(.var 0),(.var 1),(.var 2),(.var 3)])]]]]]⟩
noncomputable abbrev Ki:bB:=⟨[0,1],
 [.assign (.var 2) (.new 1 []),
 .for (.tup [3,4]) (.seq (.var 1))
  [.expr (.call 28 [(.var 2),(.var 0),(.var 3),(.var 4)])],
 .ret (.aS (.var 2) 8 [])]⟩
noncomputable abbrev Kj:bB:=⟨[0],
 [.assign (.var 0) (.bin .add (.var 0) (.bi .bytes [(.bin .mod (.neg (.bi .len [(.var 0)])) (.lit (.int 4)))])),
 .assign (.var 1) (.new 1 []),
 .expr (.aS (.var 1) 4 [(.bi .len [(.var 0)])]),
 .expr (.aS (.var 1) 1 [(.var 0)]),
 .ret (.aS (.var 1) 8 [])]⟩
noncomputable abbrev Kk:bB:=⟨[0],
 [.ite (.or (.cmp .lt (.attr (.var 0) 4) (.lit (.int 0))) (.cmp .lt (.attr (.var 0) 6) (.lit (.int 0))))
  [.raise 1 [(.lit (.str "a head that can't be told"))]]
  [],
 .assign (.var 1) (.new 1 []),
 .expr (.aS (.var 1) 4 [(.fz 0)]),
 .expr (.aS (.var 1) 2 [(.fz 1)]),
 .expr (.aS (.var 1) 7 [(.lit (.str ""))]),
 .expr (.aS (.var 1) 2 [(.lit (.int 4))]),
 .expr (.aS (.var 1) 2 [(.lit (.int 0))]),
 .expr (.aS (.var 1) 5 [(.attr (.var 0) 4)]),
 .expr (.aS (.var 1) 6 [(.attr (.var 0) 5)]),
 .expr (.aS (.var 1) 5 [(.attr (.var 0) 6)]),
 .expr (.aS (.var 1) 1 [(.call 29 [(.var 0),(.attr (.var 0) 7)])]),
 .ret (.call 30 [(.aS (.var 1) 8 [])])]⟩
noncomputable abbrev Kl:bB:=⟨[0,1],
 [.assign (.var 2) (.new 1 []),
 .expr (.aS (.var 2) 4 [(.var 1)]),
 .expr (.aS (.var 2) 4 [(.attr (.var 0) 9)]),
 .expr (.aS (.var 2) 4 [(.attr (.var 0) 10)]),
 .expr (.aS (.var 2) 1 [(.call 29 [(.attr (.var 0) 8),(.attr (.var 0) 7)])]),
 .ret (.call 30 [(.aS (.var 2) 8 [])])]⟩
noncomputable abbrev Km:bB:=⟨[0],
 [.assign (.tup [(.var 1),(.var 2)]) (.tup [(.lit (.bytes [])),(.list [])]),
 .for (.var 3) (.seq (.var 0))
  [.assign (.var 4) (.comp (.var 102) (.tup [101,102]) (.seq (.var 2)) [(.cmp .is (.var 101) (.attr (.var 3) 8))]),
   .ite (.cmp .eq (.var 4) (.list []))
    [.assign (.var 4) (.list [(.bi .len [(.var 1)])]),
    .expr (.aS (.var 2) 9 [(.tup [(.attr (.var 3) 8),(.bi .len [(.var 1)])])]),
    .assign (.var 1) (.bin .add (.var 1) (.call 31 [(.attr (.var 3) 8)]))]
    [],
   .assign (.var 1) (.bin .add (.var 1) (.call 32 [(.var 3),(.idx (.var 4) (.lit (.int 0)))]))],
 .ret (.var 1)]⟩
noncomputable abbrev Kn:bB:=⟨[0,1,2],
 [.assign (.var 3) (.bin .band (.var 2) (.lit (.int 63))),
 .ite (.cmp .eq (.bin .shr (.var 2) (.lit (.int 6))) (.lit (.int 1)))
  [.ret (.tup [(.lit (.str "advance_loc")),(.tup [(.bin .mul (.var 3) (.attr (.var 1) 4))])])]
  [],
 .ite (.cmp .eq (.bin .shr (.var 2) (.lit (.int 6))) (.lit (.int 2)))
  [.ret (.tup [(.lit (.str "offset")),(.tup [(.var 3),(.bin .mul (.aS (.var 0) 5 []) (.attr (.var 1) 5))])])]
  [],
 .ret (.tup [(.lit (.str "restore")),(.tup [(.var 3)])])]⟩
noncomputable abbrev Ko:bB:=⟨[0,1,2],
 [.ite (.cmp .eq (.var 2) (.lit (.int 1)))
  [.ret (.tup [(.lit (.str "set_loc")),(.tup [(.aS (.var 0) 4 [])])])]
  [],
 .assign (.var 3) (.ite (.cmp .eq (.var 2) (.lit (.int 2))) (.aS (.var 0) 2 []) (.ite (.cmp .eq (.var 2) (.lit (.int 3))) (.aS (.var 0) 3 []) (.aS (.var 0) 4 []))),
 .ret (.tup [(.lit (.str "advance_loc")),(.tup [(.bin .mul (.var 3) (.attr (.var 1) 4))])])]⟩
noncomputable abbrev Kp:bB:=⟨[0,1,2],
 [.assign (.var 3) (.aS (.var 0) 5 []),
 .ite (.or (.cmp .eq (.var 2) (.lit (.int 5))) (.cmp .eq (.var 2) (.lit (.int 17))))
  [.assign (.var 4) (.ite (.cmp .eq (.var 2) (.lit (.int 5))) (.aS (.var 0) 5 []) (.aS (.var 0) 6 [])),
   .ret (.tup [(.lit (.str "offset_extended")),(.tup [(.var 3),(.bin .mul (.var 4) (.attr (.var 1) 5))])])]
  [],
 .ite (.or (.cmp .eq (.var 2) (.lit (.int 20))) (.cmp .eq (.var 2) (.lit (.int 21))))
  [.assign (.var 4) (.ite (.cmp .eq (.var 2) (.lit (.int 20))) (.aS (.var 0) 5 []) (.aS (.var 0) 6 [])),
   .ret (.tup [(.lit (.str "val_offset")),(.tup [(.var 3),(.bin .mul (.var 4) (.attr (.var 1) 5))])])]
  [],
 .ite (.cmp .eq (.var 2) (.lit (.int 9)))
  [.ret (.tup [(.lit (.str "register")),(.tup [(.var 3),(.aS (.var 0) 5 [])])])]
  [],
 .ret (.tup [(.idx (.bZ [6,7,8] [(.lit (.str "restore")),(.lit (.str "undefined")),(.lit (.str "same_value"))]) (.var 2)),(.tup [(.var 3)])])]⟩
noncomputable abbrev Kq:bB:=⟨[0,1,2],
 [.ite (.cmp .eq (.var 2) (.lit (.int 12)))
  [.assign (.var 3) (.aS (.var 0) 5 []),
   .ret (.tup [(.lit (.str "def_cfa")),(.tup [(.var 3),(.aS (.var 0) 5 [])])])]
  [],
 .ite (.cmp .eq (.var 2) (.lit (.int 18)))
  [.assign (.var 3) (.aS (.var 0) 5 []),
   .ret (.tup [(.lit (.str "def_cfa")),(.tup [(.var 3),(.bin .mul (.aS (.var 0) 6 []) (.attr (.var 1) 5))])])]
  [],
 .ite (.cmp .eq (.var 2) (.lit (.int 13)))
  [.ret (.tup [(.lit (.str "def_cfa_register")),(.tup [(.aS (.var 0) 5 [])])])]
  [],
 .ite (.cmp .eq (.var 2) (.lit (.int 14)))
  [.ret (.tup [(.lit (.str "def_cfa_offset")),(.tup [(.aS (.var 0) 5 [])])])]
  [],
 .ret (.tup [(.lit (.str "def_cfa_offset")),(.tup [(.bin .mul (.aS (.var 0) 6 []) (.attr (.var 1) 5))])])]⟩
noncomputable abbrev Kr:bB:=⟨[0,1,2],
 [.assign (.var 3) (.aS (.var 0) 2 []),
 .ite (.cmp .ge (.var 3) (.lit (.int 64)))
  [.ret (.call 34 [(.var 0),(.var 1),(.var 3)])]
  [],
 .ite (.oR .le .le (.lit (.int 1)) (.var 3) (.lit (.int 4)))
  [.ret (.call 35 [(.var 0),(.var 1),(.var 3)])]
  [],
 .ite (.cmp .isin (.var 3) (.tup [(.lit (.int 5)),(.lit (.int 6)),(.lit (.int 7)),(.lit (.int 8)),(.lit (.int 9)),(.lit (.int 17)),(.lit (.int 20)),(.lit (.int 21))]))
  [.ret (.call 36 [(.var 0),(.var 1),(.var 3)])]
  [],
 .ite (.cmp .isin (.var 3) (.tup [(.lit (.int 12)),(.lit (.int 13)),(.lit (.int 14)),(.lit (.int 18)),(.lit (.int 19))]))
  [.ret (.call 37 [(.var 0),(.var 1),(.var 3)])]
  [],
 .assign (.var 4) (.bZ [0,10,11] [(.lit (.str "nop")),(.lit (.str "remember_state")),(.lit (.str "restore_state"))]),
 .ite (.cmp .iV (.var 3) (.var 4))
  [.raise 0 [(.lit (.str "no such operation of a frame")),(.var 2)]]
  [],
 .ret (.tup [(.idx (.var 4) (.var 3)),(.tup [])])]⟩
noncomputable abbrev Ks:bB:=⟨[0,1,2],
 [.assign (.var 3) (.list []),
 .while (.not (.aS (.var 0) 0 []))
  [.expr (.aS (.var 3) 9 [(.call 38 [(.var 0),(.var 1),(.var 2)])])],
 .while (.and (.cmp .ne (.var 3) (.list [])) (.cmp .eq (.idx (.idx (.var 3) (.neg (.lit (.int 1)))) (.lit (.int 0))) (.lit (.str "nop"))))
  [.expr (.aS (.var 3) 10 [])],
 .ret (.var 3)]⟩
noncomputable abbrev pK:bB:=⟨[0,1],
 [.assign (.var 2) (.aS (.var 0) 2 []),
 .ite (.or (.cmp .iV (.var 2) (.fz 2)) (.cmp .ne (.aS (.var 0) 7 []) (.lit (.str ""))))
  [.raise 0 [(.lit (.str "a frame table of another kind")),(.var 1)]]
  [],
 .ite (.and (.cmp .eq (.var 2) (.lit (.int 4))) (.cmp .ne (.tup [(.aS (.var 0) 2 []),(.aS (.var 0) 2 [])]) (.tup [(.lit (.int 4)),(.lit (.int 0))])))
  [.raise 0 [(.lit (.str "addresses of another size")),(.var 1)]]
  [],
 .assign (.tup [(.var 3),(.var 4)]) (.tup [(.aS (.var 0) 5 []),(.aS (.var 0) 6 [])]),
 .assign (.var 5) (.new 2 [(.var 3),(.var 4),(.ite (.cmp .eq (.var 2) (.lit (.int 1))) (.aS (.var 0) 2 []) (.aS (.var 0) 5 [])),(.list [])]),
 .assign (.attr (.var 5) 7) (.call 39 [(.var 0),(.var 5),(.var 1)]),
 .ret (.var 5)]⟩
noncomputable abbrev Kt:bB:=⟨[0],
 [.assign (.tup [(.var 1),(.var 2)]) (.tup [(.list []),(.lit (.int 0))]),
 .while (.cmp .lt (.var 2) (.bi .len [(.var 0)]))
  [.assign (.var 3) (.aS (.new 0 [(.var 0),(.var 2),(.bi .len [(.var 0)])]) 4 []),
   .assign (.var 4) (.bin .add (.bin .add (.var 2) (.lit (.int 4))) (.var 3)),
   .ite (.or (.cmp .lt (.var 3) (.lit (.int 4))) (.cmp .gt (.var 4) (.bi .len [(.var 0)])))
    [.raise 0 [(.lit (.str "a frame's entry without its octets")),(.var 2)]]
    [],
   .assign (.var 5) (.new 0 [(.var 0),(.bin .add (.var 2) (.lit (.int 4))),(.var 4)]),
   .expr (.aS (.var 1) 9 [(.tup [(.var 2),(.aS (.var 5) 4 []),(.var 5)])]),
   .assign (.var 2) (.var 4)],
 .ret (.var 1)]⟩
noncomputable abbrev Ku:bB:=⟨[0],
 [.assign (.tup [(.var 1),(.var 2),(.var 3)]) (.tup [(.call 41 [(.var 0)]),(.bZ [] []),(.list [])]),
 .for (.tup [4,5,6]) (.seq (.var 1))
  [.ite (.cmp .eq (.var 5) (.fz 0))
    [.assign (.sub (.var 2) (.var 4)) (.call 40 [(.var 6),(.var 4)])]
    []],
 .for (.tup [4,5,6]) (.seq (.var 1))
  [.ite (.cmp .eq (.var 5) (.fz 0))
    [.cont]
    [],
   .ite (.cmp .iV (.var 5) (.var 2))
    [.raise 0 [(.lit (.str "a frame's entry without its head")),(.var 4)]]
    [],
   .assign (.tup [(.var 7),(.var 8)]) (.tup [(.aS (.var 6) 4 []),(.aS (.var 6) 4 [])]),
   .expr (.aS (.var 3) 9 [(.new 3 [(.idx (.var 2) (.var 5)),(.var 7),(.var 8),(.call 39 [(.var 6),(.idx (.var 2) (.var 5)),(.var 4)])])])],
 .ret (.var 3)]⟩
noncomputable abbrev Kv:bB:=⟨[],
 [.ret (.fg ["nop","undefined","same_value","register","remember_state","restore_state","def_cfa_register"] [(.lit (.int 0)),(.lit (.int 7)),(.lit (.int 8)),(.lit (.int 9)),(.lit (.int 10)),(.lit (.int 11)),(.lit (.int 13))])]⟩
noncomputable abbrev Kw:bB:=⟨[],
 [.ret (.bZ [0,1,2,3,4,5,6,7,8,9,10,11,12,13,14,17,18,19,20,21] [(.tup [(.lit (.str "nop")),(.lit (.str ""))]),(.tup [(.lit (.str "set_loc")),(.lit (.str "w"))]),(.tup [(.lit (.str "advance_loc")),(.lit (.str "1"))]),(.tup [(.lit (.str "advance_loc")),(.lit (.str "2"))]),(.tup [(.lit (.str "advance_loc")),(.lit (.str "4"))]),(.tup [(.lit (.str "offset_extended")),(.lit (.str "ud"))]),(.tup [(.lit (.str "restore")),(.lit (.str "u"))]),(.tup [(.lit (.str "undefined")),(.lit (.str "u"))]),(.tup [(.lit (.str "same_value")),(.lit (.str "u"))]),(.tup [(.lit (.str "register")),(.lit (.str "uu"))]),(.tup [(.lit (.str "remember_state")),(.lit (.str ""))]),(.tup [(.lit (.str "restore_state")),(.lit (.str ""))]),(.tup [(.lit (.str "def_cfa")),(.lit (.str "uu"))]),(.tup [(.lit (.str "def_cfa_register")),(.lit (.str "u"))]),(.tup [(.lit (.str "def_cfa_offset")),(.lit (.str "u"))]),(.tup [(.lit (.str "offset_extended")),(.lit (.str "us"))]),(.tup [(.lit (.str "def_cfa")),(.lit (.str "us"))]),(.tup [(.lit (.str "def_cfa_offset")),(.lit (.str "s"))]),(.tup [(.lit (.str "val_offset")),(.lit (.str "ud"))]),(.tup [(.lit (.str "val_offset")),(.lit (.str "us"))])])]⟩
noncomputable abbrev Kx:bB:=⟨[0,1],
 [.assign (.var 2) (.idx (.var 0) (.lit (.int 1))),
 .assign (.var 3) (.ite (.cmp .lt (.var 2) (.bi .len [(.idx (.var 0) (.lit (.int 0)))])) (.idx (.idx (.var 0) (.lit (.int 0))) (.var 2)) (.var 2)),
 .assign (.tup [(.sub (.var 0) (.lit (.int 1))),(.sub (.var 0) (.lit (.int 2)))]) (.tup [(.bin .add (.var 2) (.lit (.int 1))),(.bin .mod (.bin .add (.bin .add (.bin .mul (.idx (.var 0) (.lit (.int 2))) (.lit (.int 75))) (.bin .mod (.var 3) (.lit (.int 65537)))) (.lit (.int 74))) (.lit (.int 65537)))]),
 .ret (.ite (.cmp .lt (.var 2) (.bi .len [(.idx (.var 0) (.lit (.int 0)))])) (.bin .mod (.var 3) (.var 1)) (.bin .mod (.idx (.var 0) (.lit (.int 2))) (.var 1)))]⟩
noncomputable abbrev Ky:bB:=⟨[0,1],
 [.ret (.bi .bytes [(.comp (.bin .mod (.bin .fdiv (.var 0) (.bin .pow (.lit (.int 256)) (.var 101))) (.lit (.int 256))) (.var 101) (.range (.var 1)) [])])]⟩
noncomputable abbrev Kz:bB:=⟨[0,1],
 [.assign (.var 2) (.list []),
 .while (.or (.cmp .ge (.var 0) (.ite (.var 1) (.lit (.int 64)) (.lit (.int 128)))) (.cmp .lt (.var 0) (.neg (.lit (.int 64)))))
  [.expr (.aS (.var 2) 9 [(.bin .add (.bin .mod (.var 0) (.lit (.int 128))) (.lit (.int 128)))]),
   .assign (.var 0) (.bin .fdiv (.var 0) (.lit (.int 128)))],
 .ret (.bi .bytes [(.bin .add (.var 2) (.list [(.bin .mod (.var 0) (.lit (.int 128)))]))])]⟩
noncomputable abbrev KA:bB:=⟨[0],
 [.ret (.aS (.lit (.bytes [])) 15 [(.comp (.call 47 [(.var 101),(.lit (.bool false))]) (.var 101) (.seq (.var 0)) [])])]⟩
noncomputable abbrev KB:bB:=⟨[0,1,2],
 [.assign (.tup [(.var 3),(.var 4)]) (.var 0),
 .ite (.cmp .eq (.var 3) (.lit (.str "advance_loc")))
  [.assign (.var 5) (.bin .fdiv (.idx (.var 4) (.lit (.int 0))) (.var 1)),
   .assign (.var 6) (.ite (.cmp .lt (.var 5) (.lit (.int 256))) (.lit (.int 1)) (.ite (.cmp .lt (.var 5) (.lit (.int 65536))) (.lit (.int 2)) (.lit (.int 4)))),
   .ret (.ite (.cmp .lt (.var 5) (.lit (.int 64))) (.bi .bytes [(.list [(.bin .add (.lit (.int 64)) (.var 5))])]) (.bin .add (.bi .bytes [(.list [(.bin .add (.lit (.int 2)) (.bin .fdiv (.var 6) (.lit (.int 2))))])]) (.call 46 [(.var 5),(.var 6)])))]
  [],
 .ite (.cmp .eq (.var 3) (.lit (.str "set_loc")))
  [.ret (.bin .add (.bi .bytes [(.list [(.lit (.int 1))])]) (.call 46 [(.idx (.var 4) (.lit (.int 0))),(.lit (.int 4))]))]
  [],
 .ite (.cmp .eq (.var 3) (.lit (.str "restore")))
  [.ret (.ite (.cmp .lt (.idx (.var 4) (.lit (.int 0))) (.lit (.int 64))) (.bi .bytes [(.list [(.bin .add (.lit (.int 192)) (.idx (.var 4) (.lit (.int 0))))])]) (.bin .add (.bi .bytes [(.list [(.lit (.int 6))])]) (.call 48 [(.var 4)])))]
  [],
 .ite (.cmp .isin (.var 3) (.call 43 []))
  [.ret (.bin .add (.bi .bytes [(.list [(.idx (.call 43 []) (.var 3))])]) (.call 48 [(.var 4)]))]
  [],
 .ite (.or (.cmp .eq (.var 3) (.lit (.str "def_cfa"))) (.cmp .eq (.var 3) (.lit (.str "def_cfa_offset"))))
  [.assign (.var 7) (.ite (.cmp .eq (.var 3) (.lit (.str "def_cfa"))) (.lit (.int 12)) (.lit (.int 14))),
   .ite (.cmp .ge (.idx (.var 4) (.neg (.lit (.int 1)))) (.lit (.int 0)))
    [.ret (.bin .add (.bi .bytes [(.list [(.var 7)])]) (.call 48 [(.var 4)]))]
    [],
   .assign (.var 7) (.ite (.cmp .eq (.var 3) (.lit (.str "def_cfa"))) (.lit (.int 18)) (.lit (.int 19))),
   .ret (.bin .add (.bin .add (.bi .bytes [(.list [(.var 7)])]) (.call 48 [(.sliceTo (.var 4) (.neg (.lit (.int 1))))])) (.call 47 [(.bin .fdiv (.idx (.var 4) (.neg (.lit (.int 1)))) (.var 2)),(.lit (.bool true))]))]
  [],
 .assign (.var 5) (.bin .fdiv (.idx (.var 4) (.lit (.int 1))) (.var 2)),
 .ite (.cmp .eq (.var 3) (.lit (.str "offset")))
  [.ret (.bin .add (.bi .bytes [(.list [(.bin .add (.lit (.int 128)) (.idx (.var 4) (.lit (.int 0))))])]) (.call 47 [(.var 5),(.lit (.bool false))]))]
  [],
 .assign (.var 7) (.ite (.cmp .eq (.var 3) (.lit (.str "offset_extended"))) (.lit (.int 5)) (.lit (.int 20))),
 .ite (.cmp .lt (.var 5) (.lit (.int 0)))
  [.assign (.var 7) (.ite (.cmp .eq (.var 3) (.lit (.str "offset_extended"))) (.lit (.int 17)) (.lit (.int 21)))]
  [],
 .ret (.bin .add (.bin .add (.bi .bytes [(.list [(.var 7)])]) (.call 48 [(.sliceTo (.var 4) (.lit (.int 1)))])) (.call 47 [(.var 5),(.cmp .lt (.var 5) (.lit (.int 0)))]))]⟩
noncomputable abbrev KC:bB:=⟨[0,1,2,3],
 [.assign (.var 0) (.bin .add (.var 0) (.aS (.lit (.bytes [])) 15 [(.comp (.call 49 [(.var 101),(.var 2),(.var 3)]) (.var 101) (.seq (.var 1)) [])])),
 .assign (.var 0) (.bin .add (.var 0) (.bi .bytes [(.bin .mod (.neg (.bi .len [(.var 0)])) (.lit (.int 4)))])),
 .ret (.bin .add (.call 46 [(.bi .len [(.var 0)]),(.lit (.int 4))]) (.var 0))]⟩
noncomputable abbrev y8:bB:=⟨[0,1,2],
 [.assign (.var 3) (.list [(.lit (.str "def_cfa")),(.lit (.str "def_cfa_offset")),(.lit (.str "set_loc")),(.lit (.str "restore")),(.lit (.str "nop")),(.lit (.str "undefined")),(.lit (.str "same_value")),(.lit (.str "register")),(.lit (.str "remember_state")),(.lit (.str "restore_state")),(.lit (.str "def_cfa_register"))]),
 .assign (.var 3) (.bin .add (.var 3) (.ite (.cmp .ne (.var 1) (.lit (.int 0))) (.list [(.lit (.str "advance_loc"))]) (.list []))),
 .assign (.var 3) (.bin .add (.var 3) (.ite (.cmp .ne (.var 2) (.lit (.int 0))) (.list [(.lit (.str "offset")),(.lit (.str "offset_extended")),(.lit (.str "val_offset"))]) (.list []))),
 .assign (.var 4) (.idx (.var 3) (.call 45 [(.var 0),(.bi .len [(.var 3)])])),
 .ite (.cmp .isin (.var 4) (.tup [(.lit (.str "nop")),(.lit (.str "remember_state")),(.lit (.str "restore_state"))]))
  [.ret (.tup [(.var 4),(.tup [])])]
  [],
 .ite (.cmp .eq (.var 4) (.lit (.str "set_loc")))
  [.ret (.tup [(.var 4),(.tup [(.idx (.fz 6) (.call 45 [(.var 0),(.lit (.int 6))]))])])]
  [],
 .ite (.cmp .eq (.var 4) (.lit (.str "advance_loc")))
  [.ret (.tup [(.var 4),(.tup [(.bin .mul (.idx (.fz 4) (.call 45 [(.var 0),(.lit (.int 13))])) (.var 1))])])]
  [],
 .assign (.var 5) (.idx (.fz 5) (.call 45 [(.var 0),(.lit (.int 7))])),
 .ite (.cmp .isin (.var 4) (.tup [(.lit (.str "restore")),(.lit (.str "undefined")),(.lit (.str "same_value")),(.lit (.str "def_cfa_register"))]))
  [.ret (.tup [(.var 4),(.tup [(.var 5)])])]
  [],
 .ite (.cmp .eq (.var 4) (.lit (.str "register")))
  [.ret (.tup [(.var 4),(.tup [(.var 5),(.idx (.fz 5) (.call 45 [(.var 0),(.lit (.int 7))]))])])]
  [],
 .assign (.tup [(.var 6),(.var 7)]) (.tup [(.idx (.fz 4) (.call 45 [(.var 0),(.lit (.int 13))])),(.cmp .eq (.call 45 [(.var 0),(.lit (.int 3))]) (.lit (.int 2)))]),
 .ite (.or (.cmp .eq (.var 4) (.lit (.str "def_cfa"))) (.cmp .eq (.var 4) (.lit (.str "def_cfa_offset"))))
  [.assign (.var 8) (.ite (.var 7) (.bin .sub (.lit (.int 0)) (.bin .mul (.bi .abs [(.var 2)]) (.var 6))) (.var 6)),
   .ret (.tup [(.var 4),(.ite (.cmp .eq (.var 4) (.lit (.str "def_cfa"))) (.tup [(.var 5),(.var 8)]) (.tup [(.var 8)]))])]
  [],
 .ite (.cmp .eq (.var 4) (.lit (.str "offset")))
  [.ret (.tup [(.var 4),(.tup [(.bin .mod (.var 5) (.lit (.int 64))),(.bin .mul (.var 2) (.var 6))])])]
  [],
 .ret (.tup [(.var 4),(.tup [(.var 5),(.bin .mul (.var 2) (.ite (.var 7) (.bin .sub (.lit (.int 0)) (.var 6)) (.var 6)))])])]⟩
noncomputable abbrev s9:bB:=⟨[0,1],
 [.ite (.and (.cmp .ne (.var 1) (.list [])) (.cmp .eq (.call 45 [(.var 0),(.lit (.int 2))]) (.lit (.int 1))))
  [.ret (.idx (.var 1) (.neg (.lit (.int 1))))]
  [],
 .assign (.tup [(.var 2),(.var 3)]) (.tup [(.idx (.tup [(.lit (.int 4)),(.lit (.int 1)),(.lit (.int 0)),(.lit (.int 3)),(.lit (.int 200))]) (.call 45 [(.var 0),(.lit (.int 5))])),(.idx (.tup [(.neg (.lit (.int 4))),(.lit (.int 8)),(.lit (.int 0)),(.lit (.int 1)),(.neg (.lit (.int 65))),(.lit (.int 64))]) (.call 45 [(.var 0),(.lit (.int 6))]))]),
 .assign (.var 4) (.idx (.fz 5) (.call 45 [(.var 0),(.lit (.int 7))])),
 .ret (.tup [(.var 2),(.var 3),(.var 4),(.comp (.call 51 [(.var 0),(.var 2),(.var 3)]) (.var 101) (.range (.call 45 [(.var 0),(.lit (.int 3))])) [])])]⟩
noncomputable abbrev KD:bB:=⟨[0,1],
 [.assign (.var 2) (.list []),
 .for (.tup [3,4]) (.seq (.var 0))
  [.ite (.cmp .eq (.var 3) (.lit (.str "advance_loc")))
    [.expr (.aS (.var 2) 9 [(.tup [(.var 3),(.tup [(.bin .mul (.bin .mod (.bin .fdiv (.idx (.var 4) (.lit (.int 0))) (.var 1)) (.bin .pow (.lit (.int 2)) (.lit (.int 32)))) (.var 1))])])])]
    [.expr (.aS (.var 2) 9 [(.tup [(.var 3),(.ite (.cmp .eq (.var 3) (.lit (.str "set_loc"))) (.tup [(.bin .mod (.idx (.var 4) (.lit (.int 0))) (.bin .pow (.lit (.int 2)) (.lit (.int 32))))]) (.var 4))])])]],
 .while (.and (.cmp .ne (.var 2) (.list [])) (.cmp .eq (.idx (.idx (.var 2) (.neg (.lit (.int 1)))) (.lit (.int 0))) (.lit (.str "nop"))))
  [.expr (.aS (.var 2) 10 [])],
 .ret (.var 2)]⟩
noncomputable abbrev Cp:bB:=⟨[0],
 [.assign (.var 1) (.list []),
 .for (.var 2) (.range (.bin .add (.lit (.int 1)) (.call 45 [(.var 0),(.lit (.int 2))])))
  [.expr (.aS (.var 1) 9 [(.call 52 [(.var 0),(.var 1)])])],
 .assign (.var 3) (.comp (.new 2 [(.idx (.var 101) (.lit (.int 0))),(.idx (.var 101) (.lit (.int 1))),(.idx (.var 101) (.lit (.int 2))),(.bi .list [(.idx (.var 101) (.lit (.int 3)))])]) (.var 101) (.seq (.var 1)) []),
 .assign (.tup [(.var 4),(.var 5),(.var 6),(.var 7)]) (.tup [(.list []),(.list []),(.list []),(.bZ [] [])]),
 .for (.var 2) (.range (.bin .add (.lit (.int 1)) (.call 45 [(.var 0),(.lit (.int 3))])))
  [.assign (.var 8) (.call 45 [(.var 0),(.bi .len [(.var 1)])]),
   .assign (.tup [(.var 9),(.var 10),(.var 11),(.var 12)]) (.idx (.var 1) (.var 8)),
   .assign (.tup [(.var 13),(.var 14)]) (.tup [(.idx (.fz 6) (.call 45 [(.var 0),(.lit (.int 6))])),(.idx (.fz 6) (.call 45 [(.var 0),(.lit (.int 6))]))]),
   .assign (.var 15) (.comp (.call 51 [(.var 0),(.var 9),(.var 10)]) (.var 101) (.range (.call 45 [(.var 0),(.lit (.int 4))])) []),
   .expr (.aS (.var 4) 9 [(.new 3 [(.idx (.var 3) (.var 8)),(.var 13),(.var 14),(.var 15)])]),
   .ite (.cmp .iV (.var 8) (.var 7))
    [.assign (.sub (.var 7) (.var 8)) (.tup [(.var 2),(.bi .sum [(.comp (.bi .len [(.var 101)]) (.var 101) (.seq (.var 6)) [])])]),
    .assign (.var 16) (.bin .add (.bin .add (.bi .bytes [(.list [(.lit (.int 255)),(.lit (.int 255)),(.lit (.int 255)),(.lit (.int 255)),(.lit (.int 4)),(.lit (.int 0)),(.lit (.int 4)),(.lit (.int 0))])]) (.call 47 [(.var 9),(.lit (.bool false))])) (.call 47 [(.var 10),(.lit (.bool true))])),
    .expr (.aS (.var 6) 9 [(.call 50 [(.bin .add (.var 16) (.call 47 [(.var 11),(.lit (.bool false))])),(.var 12),(.var 9),(.var 10)])])]
    [],
   .assign (.tup [(.var 17),(.var 18)]) (.idx (.var 7) (.var 8)),
   .assign (.var 16) (.bin .add (.bin .add (.call 46 [(.var 18),(.lit (.int 4))]) (.call 46 [(.var 13),(.lit (.int 4))])) (.call 46 [(.var 14),(.lit (.int 4))])),
   .expr (.aS (.var 6) 9 [(.call 50 [(.var 16),(.var 15),(.var 9),(.var 10)])]),
   .assign (.var 19) (.tup [(.var 9),(.var 10),(.var 11),(.call 53 [(.var 12),(.var 9)])]),
   .expr (.aS (.var 5) 9 [(.tup [(.var 17),(.var 19),(.bin .mod (.var 13) (.bin .pow (.lit (.int 2)) (.lit (.int 32)))),(.bin .mod (.var 14) (.bin .pow (.lit (.int 2)) (.lit (.int 32)))),(.call 53 [(.var 15),(.var 9)])])])],
 .ret (.tup [(.var 4),(.var 5),(.var 6)])]⟩
noncomputable abbrev KE:bB:=⟨[0,1,2],
 [.ite (.or (.cmp .lt (.idx (.var 1) (.lit (.int 0))) (.lit (.int 0))) (.cmp .gt (.bin .add (.idx (.var 1) (.lit (.int 0))) (.var 2)) (.idx (.var 1) (.lit (.int 1)))))
  [.assign (.sub (.var 1) (.lit (.int 0))) (.neg (.lit (.int 1))),
   .ret (.lit (.int 0))]
  [],
 .assign (.sub (.var 1) (.lit (.int 0))) (.bin .add (.idx (.var 1) (.lit (.int 0))) (.var 2)),
 .ret (.bi .sum [(.comp (.bin .mul (.idx (.var 0) (.bin .add (.bin .sub (.idx (.var 1) (.lit (.int 0))) (.var 2)) (.var 101))) (.bin .pow (.lit (.int 256)) (.var 101))) (.var 101) (.range (.var 2)) [])])]⟩
noncomputable abbrev KF:bB:=⟨[0,1,2],
 [.assign (.tup [(.var 3),(.var 4)]) (.tup [(.lit (.int 0)),(.lit (.int 1))]),
 .while (.cmp .ge (.idx (.var 1) (.lit (.int 0))) (.lit (.int 0)))
  [.assign (.var 5) (.call 55 [(.var 0),(.var 1),(.lit (.int 1))]),
   .assign (.tup [(.var 3),(.var 4)]) (.tup [(.bin .add (.var 3) (.bin .mul (.bin .mod (.var 5) (.lit (.int 128))) (.var 4))),(.bin .mul (.var 4) (.lit (.int 128)))]),
   .ite (.cmp .lt (.var 5) (.lit (.int 128)))
    [.ret (.ite (.and (.var 2) (.cmp .gt (.var 5) (.lit (.int 63)))) (.bin .sub (.var 3) (.var 4)) (.var 3))]
    []],
 .ret (.lit (.int 0))]⟩
noncomputable abbrev Cq:bB:=⟨[0,1,2,3],
 [.assign (.var 4) (.call 55 [(.var 0),(.var 1),(.lit (.int 1))]),
 .ite (.cmp .gt (.var 4) (.lit (.int 191)))
  [.ret (.tup [(.lit (.str "restore")),(.tup [(.bin .sub (.var 4) (.lit (.int 192)))])])]
  [],
 .ite (.cmp .gt (.var 4) (.lit (.int 127)))
  [.ret (.tup [(.lit (.str "offset")),(.tup [(.bin .sub (.var 4) (.lit (.int 128))),(.bin .mul (.call 56 [(.var 0),(.var 1),(.lit (.bool false))]) (.var 3))])])]
  [],
 .ite (.cmp .gt (.var 4) (.lit (.int 63)))
  [.ret (.tup [(.lit (.str "advance_loc")),(.tup [(.bin .mul (.bin .sub (.var 4) (.lit (.int 64))) (.var 2))])])]
  [],
 .ite (.cmp .iV (.var 4) (.call 44 []))
  [.assign (.sub (.var 1) (.lit (.int 0))) (.neg (.lit (.int 1))),
   .ret (.tup [(.lit (.str "nop")),(.tup [])])]
  [],
 .assign (.tup [(.var 5),(.var 6)]) (.idx (.call 44 []) (.var 4)),
 .assign (.var 7) (.list []),
 .for (.var 8) (.seq (.var 6))
  [.ite (.cmp .eq (.var 8) (.lit (.str "u")))
    [.expr (.aS (.var 7) 9 [(.call 56 [(.var 0),(.var 1),(.lit (.bool false))])])]
    [.ite (.or (.cmp .eq (.var 8) (.lit (.str "d"))) (.cmp .eq (.var 8) (.lit (.str "s"))))
     [.expr (.aS (.var 7) 9 [(.bin .mul (.call 56 [(.var 0),(.var 1),(.cmp .eq (.var 8) (.lit (.str "s")))]) (.var 3))])]
     [.expr (.aS (.var 7) 9 [(.bin .mul (.call 55 [(.var 0),(.var 1),(.ite (.cmp .eq (.var 8) (.lit (.str "w"))) (.lit (.int 4)) (.bi .int [(.var 8)]))]) (.ite (.cmp .eq (.var 8) (.lit (.str "w"))) (.lit (.int 1)) (.var 2)))])]]],
 .ret (.tup [(.var 5),(.bi .tuple [(.var 7)])])]⟩
noncomputable abbrev KG:bB:=⟨[0,1,2,3],
 [.assign (.var 4) (.list []),
 .while (.oR .le .lt (.lit (.int 0)) (.idx (.var 1) (.lit (.int 0))) (.idx (.var 1) (.lit (.int 1))))
  [.expr (.aS (.var 4) 9 [(.call 57 [(.var 0),(.var 1),(.var 2),(.var 3)])])],
 .while (.and (.cmp .ne (.var 4) (.list [])) (.cmp .eq (.idx (.idx (.var 4) (.neg (.lit (.int 1)))) (.lit (.int 0))) (.lit (.str "nop"))))
  [.expr (.aS (.var 4) 10 [])],
 .ret (.var 4)]⟩
noncomputable abbrev k2:bB:=⟨[0,1],
 [.assign (.tup [(.var 2),(.var 3)]) (.tup [(.call 55 [(.var 0),(.var 1),(.lit (.int 1))]),(.call 55 [(.var 0),(.var 1),(.lit (.int 1))])]),
 .ite (.or (.cmp .iV (.var 2) (.tup [(.lit (.int 1)),(.lit (.int 3)),(.lit (.int 4))])) (.cmp .ne (.var 3) (.lit (.int 0))))
  [.assign (.sub (.var 1) (.lit (.int 0))) (.neg (.lit (.int 1)))]
  [],
 .ite (.and (.cmp .eq (.var 2) (.lit (.int 4))) (.cmp .ne (.tup [(.call 55 [(.var 0),(.var 1),(.lit (.int 1))]),(.call 55 [(.var 0),(.var 1),(.lit (.int 1))])]) (.tup [(.lit (.int 4)),(.lit (.int 0))])))
  [.assign (.sub (.var 1) (.lit (.int 0))) (.neg (.lit (.int 1)))]
  [],
 .assign (.tup [(.var 4),(.var 5)]) (.tup [(.call 56 [(.var 0),(.var 1),(.lit (.bool false))]),(.call 56 [(.var 0),(.var 1),(.lit (.bool true))])]),
 .assign (.var 6) (.ite (.cmp .eq (.var 2) (.lit (.int 1))) (.call 55 [(.var 0),(.var 1),(.lit (.int 1))]) (.call 56 [(.var 0),(.var 1),(.lit (.bool false))])),
 .ret (.tup [(.var 4),(.var 5),(.var 6),(.call 58 [(.var 0),(.var 1),(.var 4),(.var 5)])])]⟩
noncomputable abbrev ta:bB:=⟨[0],
 [.assign (.tup [(.var 1),(.var 2)]) (.tup [(.list []),(.lit (.int 0))]),
 .while (.cmp .lt (.var 2) (.bi .len [(.var 0)]))
  [.assign (.var 3) (.bin .add (.bin .add (.var 2) (.lit (.int 4))) (.call 55 [(.var 0),(.list [(.var 2),(.bi .len [(.var 0)])]),(.lit (.int 4))])),
   .ite (.or (.cmp .gt (.bin .add (.var 2) (.lit (.int 4))) (.bi .len [(.var 0)])) (.or (.cmp .lt (.var 3) (.bin .add (.var 2) (.lit (.int 8)))) (.cmp .gt (.var 3) (.bi .len [(.var 0)]))))
    [.ret (.lit .none)]
    [],
   .expr (.aS (.var 1) 9 [(.tup [(.var 2),(.list [(.bin .add (.var 2) (.lit (.int 4))),(.var 3)])])]),
   .assign (.var 2) (.var 3)],
 .assign (.tup [(.var 4),(.var 5),(.var 6)]) (.tup [(.bZ [] []),(.list []),(.list [])]),
 .for (.tup [2,7]) (.seq (.var 1))
  [.ite (.cmp .eq (.call 55 [(.var 0),(.var 7),(.lit (.int 4))]) (.lit (.int 4294967295)))
    [.assign (.sub (.var 4) (.var 2)) (.call 59 [(.var 0),(.var 7)])]
    []],
 .for (.tup [2,7]) (.seq (.var 1))
  [.assign (.var 8) (.call 55 [(.var 0),(.list [(.bin .add (.var 2) (.lit (.int 4))),(.bin .add (.var 2) (.lit (.int 8)))]),(.lit (.int 4))]),
   .ite (.and (.cmp .iV (.var 2) (.var 4)) (.cmp .iV (.var 8) (.var 4)))
    [.ret (.lit .none)]
    [],
   .ite (.cmp .iV (.var 2) (.var 4))
    [.expr (.aS (.var 5) 9 [(.var 8)]),
    .assign (.tup [(.var 9),(.var 10)]) (.tup [(.call 55 [(.var 0),(.var 7),(.lit (.int 4))]),(.call 55 [(.var 0),(.var 7),(.lit (.int 4))])]),
    .assign (.var 11) (.call 58 [(.var 0),(.var 7),(.idx (.idx (.var 4) (.var 8)) (.lit (.int 0))),(.idx (.idx (.var 4) (.var 8)) (.lit (.int 1)))]),
    .expr (.aS (.var 6) 9 [(.tup [(.aS (.var 5) 11 [(.var 8)]),(.idx (.var 4) (.var 8)),(.var 9),(.var 10),(.var 11)])])]
    [],
   .ite (.cmp .lt (.idx (.var 7) (.lit (.int 0))) (.lit (.int 0)))
    [.ret (.lit .none)]
    []],
 .ret (.var 6)]⟩
noncomputable abbrev KH:bB:=⟨[0],
 [.try [.assign (.var 1) (.call 42 [(.var 0)])] 0
  [.ret (.lit .none)],
 .assign (.var 2) (.list []),
 .for (.var 3) (.seq (.var 1))
  [.assign (.var 4) (.idx (.comp (.var 101) (.tup [101,102]) (.enum (.var 1)) [(.cmp .is (.attr (.var 102) 8) (.attr (.var 3) 8))]) (.lit (.int 0))),
   .assign (.var 5) (.tup [(.attr (.attr (.var 3) 8) 4),(.attr (.attr (.var 3) 8) 5),(.attr (.attr (.var 3) 8) 6),(.attr (.attr (.var 3) 8) 7)]),
   .expr (.aS (.var 2) 9 [(.tup [(.var 4),(.var 5),(.attr (.var 3) 9),(.attr (.var 3) 10),(.attr (.var 3) 7)])])],
 .ret (.var 2)]⟩
noncomputable abbrev rl:bB:=⟨[0,1],
 [.assign (.var 2) (.call 45 [(.var 0),(.bi .len [(.var 1)])]),
 .assign (.var 3) (.sliceFrom (.idx (.var 1) (.var 2)) (.lit (.int 4))),
 .assign (.tup [(.var 4),(.var 5),(.var 6)]) (.tup [(.call 45 [(.var 0),(.bi .len [(.var 3)])]),(.call 45 [(.var 0),(.lit (.int 3))]),(.bi .bytes [(.list [(.call 45 [(.var 0),(.lit (.int 256))])])])]),
 .assign (.var 3) (.bin .add (.bin .add (.sliceTo (.var 3) (.var 4)) (.ite (.cmp .eq (.var 5) (.lit (.int 2))) (.lit (.bytes [])) (.var 6))) (.sliceFrom (.var 3) (.ite (.cmp .eq (.var 5) (.lit (.int 1))) (.var 4) (.bin .add (.var 4) (.lit (.int 1)))))),
 .assign (.var 7) (.bin .add (.bin .add (.bin .add (.aS (.lit (.bytes [])) 15 [(.sliceTo (.var 1) (.var 2))]) (.call 46 [(.bi .len [(.var 3)]),(.lit (.int 4))])) (.var 3)) (.aS (.lit (.bytes [])) 15 [(.sliceFrom (.var 1) (.bin .add (.var 2) (.lit (.int 1))))])),
 .ret (.cmp .eq (.call 61 [(.var 7)]) (.call 60 [(.var 7)]))]⟩
noncomputable abbrev KI:bB:=⟨[0,1,2],
 [.assign (.tup [(.var 3),(.var 4)]) (.tup [(.idx (.var 0) (.lit (.int 0))),(.idx (.idx (.var 0) (.lit (.int 1))) (.neg (.lit (.int 1))))]),
 .assign (.var 5) (.ite (.cmp .eq (.var 3) (.lit (.str "advance_loc"))) (.var 1) (.var 2)),
 .ite (.and (.cmp .isin (.var 3) (.tup [(.lit (.str "def_cfa")),(.lit (.str "def_cfa_offset"))])) (.cmp .ge (.var 4) (.lit (.int 0))))
  [.ret (.lit (.bool true))]
  [],
 .ite (.or (.cmp .eq (.var 3) (.lit (.str "advance"))) (.or (.cmp .eq (.var 5) (.lit (.int 0))) (.cmp .ne (.bin .mod (.var 4) (.var 5)) (.lit (.int 0)))))
  [.ret (.lit (.bool false))]
  [],
 .ite (.and (.cmp .eq (.var 3) (.lit (.str "offset"))) (.cmp .gt (.idx (.idx (.var 0) (.lit (.int 1))) (.lit (.int 0))) (.lit (.int 63))))
  [.ret (.lit (.bool false))]
  [],
 .ret (.or (.cmp .ge (.bin .fdiv (.var 4) (.var 5)) (.lit (.int 0))) (.cmp .iV (.var 3) (.tup [(.lit (.str "advance_loc")),(.lit (.str "offset"))])))]⟩
noncomputable abbrev jP:bB:=⟨[0],
 [.assign (.tup [(.var 1),(.var 2)]) (.tup [(.idx (.tup [(.lit (.int 4)),(.lit (.int 0)),(.lit (.int 1)),(.lit (.int 3))]) (.call 45 [(.var 0),(.lit (.int 4))])),(.idx (.tup [(.neg (.lit (.int 4))),(.lit (.int 0)),(.lit (.int 8)),(.lit (.int 1)),(.neg (.lit (.int 3)))]) (.call 45 [(.var 0),(.lit (.int 5))]))]),
 .assign (.var 3) (.tup [(.lit (.str "advance_loc")),(.lit (.str "offset")),(.lit (.str "offset_extended")),(.lit (.str "val_offset")),(.lit (.str "def_cfa")),(.lit (.str "def_cfa_offset")),(.lit (.str "advance"))]),
 .assign (.tup [(.var 4),(.var 5)]) (.tup [(.idx (.var 3) (.call 45 [(.var 0),(.lit (.int 7))])),(.idx (.fz 5) (.call 45 [(.var 0),(.lit (.int 7))]))]),
 .assign (.var 6) (.idx (.tup [(.lit (.int 0)),(.lit (.int 4)),(.neg (.lit (.int 4))),(.lit (.int 8)),(.neg (.lit (.int 8))),(.lit (.int 6)),(.neg (.lit (.int 3))),(.lit (.int 24)),(.lit (.int 252)),(.lit (.int 1024)),(.lit (.int 25769803776)),(.neg (.lit (.int 25769803776)))]) (.call 45 [(.var 0),(.lit (.int 12))])),
 .assign (.var 7) (.tup [(.var 4),(.ite (.cmp .isin (.var 4) (.tup [(.lit (.str "advance_loc")),(.lit (.str "def_cfa_offset")),(.lit (.str "advance"))])) (.tup [(.var 6)]) (.tup [(.var 5),(.var 6)]))]),
 .for (.tup [8,9]) (.seq (.tup [(.tup [(.list [(.var 7)]),(.list [])]),(.tup [(.list []),(.list [(.var 7)])])]))
  [.try [.assign (.var 10) (.call 33 [(.list [(.new 3 [(.new 2 [(.var 1),(.var 2),(.lit (.int 1)),(.var 8)]),(.lit (.int 4096)),(.lit (.int 16)),(.var 9)])])])] 1
    [.assign (.var 10) (.lit (.bytes []))],
   .assign (.var 11) (.list []),
   .ite (.call 63 [(.var 7),(.var 1),(.var 2)])
    [.assign (.var 12) (.tup [(.var 1),(.var 2),(.lit (.int 1)),(.call 53 [(.var 8),(.var 1)])]),
    .assign (.var 11) (.list [(.tup [(.lit (.int 0)),(.var 12),(.lit (.int 4096)),(.lit (.int 16)),(.call 53 [(.var 9),(.var 1)])])])]
    [],
   .ite (.cmp .ne (.call 61 [(.var 10)]) (.var 11))
    [.ret (.lit (.bool false))]
    []],
 .ret (.lit (.bool true))]⟩
noncomputable abbrev y9:bB:=⟨[0],
 [.assign (.var 1) (.list [(.comp (.bin .mod (.var 101) (.lit (.int 2147483647))) (.var 101) (.seq (.sliceTo (.var 0) (.lit (.int 63)))) []),(.lit (.int 0)),(.lit (.int 11))]),
 .assign (.tup [(.var 2),(.var 3),(.var 4)]) (.call 54 [(.var 1)]),
 .assign (.var 5) (.call 33 [(.var 2)]),
 .ite (.or (.cmp .ne (.var 5) (.aS (.lit (.bytes [])) 15 [(.var 4)])) (.or (.cmp .ne (.call 61 [(.var 5)]) (.var 3)) (.cmp .ne (.call 60 [(.var 5)]) (.var 3))))
  [.ret (.lit (.bool false))]
  [],
 .ret (.and (.call 62 [(.var 1),(.var 4)]) (.and (.call 62 [(.var 1),(.var 4)]) (.call 64 [(.var 1)])))]⟩
noncomputable def fns:List bB:=[JP,JQ,JR,JS,JT,JU,JV,JW,JX,JY,JZ,J0,J1,J2,J3,J4,J5,J6,J7,J8,J9,Ka,Kb,Kc,Kd,Ke,Kf,Kg,Kh,Ki,Kj,Kk,Kl,Km,Kn,Ko,Kp,Kq,Kr,Ks,pK,Kt,Ku,Kv,Kw,Kx,Ky,Kz,KA,KB,KC,y8,s9,KD,Cp,KE,KF,Cq,KG,k2,ta,KH,rl,KI,jP,y9]
noncomputable def fn(k:Nat):Option bB:=fns[k]?
noncomputable abbrev bk(c m:Nat):Option Nat:=sel (λ_w=>none) [sel none [some 1,some 2,some 3,some 4,some 5,some 6,some 7,some 8],sel none [none,some 13,some 14,some 15,some 16,some 17,some 18,some 19,some 12]] c m
noncomputable abbrev bl(c:Nat):Option Nat:=sel none [some 0,some 11,some 20,some 21] c
noncomputable abbrev TT(n:Nat):Tab:=⟨bH fn bk bl n,bk,bl⟩
end
end
section
open PyProof.Rows PySem.Calls
noncomputable abbrev aO:=List (ay×ay)
noncomputable def cj(μ:aO)(b:ay):Prop:=∃p∈μ,b=p.1 \/b=p.2
theorem cj.of{μ:aO}{l:Nat}{p:ay×ay}(e:μ[l]?=some p):cj μ p.1:=⟨p,oi e,.inl rfl⟩
theorem cj.of2{μ:aO}{l:Nat}{p:ay×ay}(e:μ[l]?=some p):cj μ p.2:=⟨p,oi e,.inr rfl⟩
noncomputable def cZ(n:Nat):String:=sel "" ["octets","at","end","written","code_align","data_align","return_register","ops","cie","begin","size"] n
structure G where
 prog:ef
 w:World
 base:aK
 d1:Nat->ay
 ca:Nat->ay
 iY:Nat->ay
 nm:ay
 mg:Str->Option Value
 mb:Str->Option Value
 K:gz
variable(g:G)(μ:aO)(h:aK)
mutual
noncomputable def bf:af->Value->Prop
 |.none,v=>v=.none
 |.bool b,v=>v=.bool b
 |.int i,v=>∃t,v=.int i t
 |.str s,v=>∃t,v=.str (aI s) t
 |.bytes b,v=>∃t,v=.bytes b.toArray t
 |.tup xs,v=>∃a vs,v=.ref a/\ (gW h a vs.toArray/\ ¬cj μ a)/\ bC xs vs
 |.loc l,v=>∃p,μ[l]?=some p/\ v=.ref p.1
 |.np ns,v=>∃a vs,v=.ref a/\ g.base.IsList a vs.toArray/\ xI vs ns
 |.nums,v=>v=.ref g.nm
noncomputable def bC:List af->List Value->Prop
 |[],vs=>vs=[]
 |x::xs,vs=>∃w ws,vs=w::ws/\ bf x w/\ bC xs ws
end
inductive Ext (aF:aO) (h':aK):Prop
 |mk (pre:μ<+:aF) (tup:∀{a vs},gW h a vs/\ ¬cj μ a->gW h' a vs/\ ¬cj aF a)
variable{g μ h}
theorem vy{α:Type}{l l':List α}(p:l<+:l'){i:Nat}{x:α}(e:l[i]?=some x):l'[i]?=some x:=by
 obtain⟨t,rfl⟩:=p;rw[TV (jF.mp e).1];exact e
variable{aF:aO}{h':aK}
theorem bf.ext(x:Ext μ h aF h'){p:af}:∀{v:Value},bf g μ h p v->bf g aF h' p v:=by
 refine af.rec (motive_1:=λp=>∀{v:Value},bf g μ h p v->bf g aF h' p v) (motive_2:=λbJ=>∀{vs:List Value},bC g μ h bJ vs->bC g aF h' bJ vs) id (λ_w=>id) (λ_w=>id) (λ_w=>id) (λ_w=>id) ?_ ?_ (λ_w=>id) id id ?_ p
 ·intro _ ih _ q;obtain⟨a,vs,e,t,r⟩:=q;exact⟨a,vs,e,x.2 t,ih r⟩
 ·intro _ _ q;obtain⟨p,e,q⟩:=q;exact⟨p,vy x.1 e,q⟩
 ·intro _ _ aa h2 _ q;obtain⟨w,ws,e,a,b⟩:=q;exact⟨w,ws,e,aa a,h2 b⟩
theorem bC.ext(x:Ext μ h aF h'){bJ:List af}:∀{vs:List Value},bC g μ h bJ vs->bC g aF h' bJ vs:=by
 induction bJ with
 |nil=>exact id
 |cons _ _ ih=>intro _ q;obtain⟨w,ws,e,a,b⟩:=q;exact⟨w,ws,e,a.ext x,ih b⟩
theorem bC.length{xs:List af}:∀{vs:List Value},bC g μ h xs vs->vs.length=xs.length:=by
 induction xs with
 |nil=>exact λq=>congrArg qM q
 |cons _ _ ih=>intro _ q;obtain⟨w,ws,rfl,a,b⟩:=q;exact congrArg (· +1) (ih b)
theorem bC.append{ys:List af}{ws:List Value}(K:bC g μ h ys ws){xs:List af}:∀{vs:List Value},bC g μ h xs vs->bC g μ h (xs++ys) (vs++ws):=by
 induction xs with
 |nil=>exact λq=>by cases q;exact K
 |cons _ _ ih=>intro _ q;obtain⟨w,ws,rfl,a,b⟩:=q;exact⟨_,_,rfl,a,ih b⟩
theorem bC.get{xs:List af}:∀{vs:List Value},bC g μ h xs vs-> ∀{i:Nat}{x:af},xs[i]?=some x-> ∃v,vs[i]?=some v/\ bf g μ h x v:=by
 induction xs with
 |nil=>exact λ_w _w _w e=>nomatch e
 |cons _ _ ih=>
  intro _ q i;obtain⟨w,ws,rfl,a,b⟩:=q;cases i with
  |zero=>exact λe=>⟨_,rfl,cW e▸a⟩
  |succ i=>exact λe=>ih b e
theorem bC.take{n:Nat}:∀{xs:List af}{vs:List Value},bC g μ h xs vs->bC g μ h (xs.take n) (vs.take n):=by
 induction n with
 |zero=>exact λ_w=>rfl
 |succ n ih=>
  intro xs vs q;cases xs with
  |nil=>cases q;rfl
  |cons=>obtain⟨w,ws,rfl,a,b⟩:=q;exact⟨_,_,rfl,a,ih b⟩
theorem bC.drop{n:Nat}:∀{xs:List af}{vs:List Value},bC g μ h xs vs->bC g μ h (xs.drop n) (vs.drop n):=by
 induction n with
 |zero=>exact id
 |succ n ih=>
  intro xs vs q;cases xs with
  |nil=>cases q;rfl
  |cons=>obtain⟨w,ws,rfl,a,b⟩:=q;exact ih b
theorem bC.set{v:Value}{x:af}(ai:bf g μ h x v){n:Nat}:∀{xs:List af}{vs:List Value},bC g μ h xs vs->bC g μ h (xs.set n x) (vs.set n v):=by
 induction n with
 |zero=>
  intro xs vs q;cases xs with
  |nil=>cases q;rfl
  |cons=>obtain⟨w,ws,rfl,a,b⟩:=q;exact⟨_,_,rfl,ai,b⟩
 |succ n ih=>
  intro xs vs q;cases xs with
  |nil=>cases q;rfl
  |cons=>obtain⟨w,ws,rfl,a,b⟩:=q;exact⟨_,_,rfl,a,ih b⟩
theorem bC.KJ{vs:List Value}{ns:List Int}(H:xI vs ns):bC g μ h (ns.map .int) vs:=by
 induction H with
 |nil=>rfl
 |cons _ _ _ ih=>exact⟨_,_,rfl,⟨_,rfl⟩,ih⟩
variable(g μ h)in
noncomputable def fQ:List (Nat×af)->List hG->Prop
 |[],es=>es=[]
 |f::fs,es=>∃e r t,es=e::r/\ e.key=.str (aI (cZ f.1)) t/\ bf g μ h f.2 e.val/\ fQ fs r
variable(g μ h)in
noncomputable def eT(p:ay×ay):cv->Prop
 |.dead=>False
 |.list xs=>p.2=p.1/\ ∃(vs:List Value) (n:Nat),IsL h p.1 vs.toArray n/\ bC g μ h xs vs
 |.bZ es=>p.2=p.1/\ ∃vs:List Value,h.DictOf (mR g.prog g.w) p.1 ((es.map (·.1)).zip vs)/\ bC g μ h (es.map (·.2)) vs
 |.fg es=>p.2=p.1/\ ∃vs:List Value,h.DictOf (qN g.prog g.w) p.1 ((es.map λe=>aI e.1).zip vs)/\ bC g μ h (es.map (·.2)) vs
 |.dW b=>p.2=p.1/\ h.get? p.1=some {cls:=.type "bytearray",data:=.bytearray b.toArray 0}
 |.inst c fs=>((bl c).isSome=true/\ ∀f∈fs,fld c f.1=true)/\ ∃cO es n,h.get? p.1=some ⟨.ref (g.ca c),some p.2,.plain,cO⟩/\ h.get? p.2=some (uz es n)/\ fQ g μ h fs es
 |.box=>p.2=p.1/\ ∃a b,h.get? p.1=some {cls:=.type "tuple",data:=.seq #[a,b]}
variable(g)in
inductive br(μ:aO)(σ:ah)(h:aK):Prop
 |mk (len:μ.length=σ.next) (base:∀b o,g.base.get? b=some o->h.get? b=some o) (off:∀p∈μ,g.base.get? p.1=none/\ g.base.get? p.2=none) (apart:μ.Pairwise λp q=>(p.1≠q.1/\ p.1≠q.2)/\ p.2≠q.1/\ p.2≠q.2) (obj:∀l p,μ[l]?=some p->eT g μ h p (σ.get l))
theorem fQ.ext(x:Ext μ h aF h'){fs:List (Nat×af)}:∀{es:List hG},fQ g μ h fs es->fQ g aF h' fs es:=by
 induction fs with
 |nil=>exact id
 |cons _ _ ih=>intro _ q;obtain⟨e,r,t,q,k,a,b⟩:=q;exact⟨e,r,t,q,k,a.ext x,ih b⟩
theorem DictOf.keep{P:ef}{w:World}{α:Type}[DecidableEq α]{K:PySem.KeyKind P w α}{a:ay}{es:List (α×Value)}(k:∀ob,h.get? a=some ob->h'.get? a=some ob)(H:h.DictOf K a es):h'.DictOf K a es:=by
 obtain⟨o,e,n,ho,r⟩:=H;exact⟨o,e,n,k _ ho,r⟩
theorem eT.ext(x:Ext μ h aF h'){p:ay×ay}{o:cv}(cw:∀ob,h.get? p.1=some ob->h'.get? p.1=some ob)(cJ:∀ob,h.get? p.2=some ob->h'.get? p.2=some ob):eT g μ h p o->eT g aF h' p o:=by
 cases o with
 |dead=>exact id
 |list _=>exact xJ λH=>H.imp λvs H=>H.imp λn H=>⟨cw _ H.1,H.2.ext x⟩
 |bZ _|fg _=>exact xJ λH=>H.imp λvs H=>⟨DictOf.keep cw H.1,H.2.ext x⟩
 |dW _=>exact xJ (cw _)
 |inst _ _=>exact xJ λH=>H.imp λcO H=>H.imp λes H=>H.imp λn H=>⟨cw _ H.1,cJ _ H.2.1,H.2.2.ext x⟩
 |box=>exact xJ λH=>H.imp λa H=>H.imp λb=>cw _
theorem eT.live{p:ay×ay}{o:cv}:eT g μ h p o->(∃ob,h.get? p.1=some ob)/\ ∃ob,h.get? p.2=some ob:=by
 have one:p.2=p.1->(∃ob,h.get? p.1=some ob)->(∃ob,h.get? p.1=some ob)/\ ∃ob,h.get? p.2=some ob:=λe H=>⟨H,e▸H⟩;cases o with
 |dead=>exact False.elim
 |list _=>exact λH=>one H.1 (H.2.elim λ_w H=>H.elim λ_w H=>⟨_,H.1⟩)
 |bZ _|fg _=>exact λH=>one H.1 (H.2.elim λ_w H=>by obtain⟨o,e,n,ho,_⟩:=H.1;exact⟨_,ho⟩)
 |dW _=>exact λH=>one H.1 ⟨_,H.2⟩
 |inst _ _=>exact λH=>H.2.elim λ_w H=>H.elim λ_w H=>H.elim λ_w H=>⟨⟨_,H.1⟩,⟨_,H.2.1⟩⟩
 |box=>exact λH=>one H.1 (H.2.elim λ_w H=>H.elim λ_w H=>⟨_,H⟩)
theorem br.live{σ:ah}(S:br g μ σ h){b:ay}(ae:cj μ b):∃o,h.get? b=some o:=by
 obtain⟨p,hp,e⟩:=ae;obtain⟨l,hl⟩:=Hi.mp hp;exact e.elim (λe=>e▸(S.5 l p hl).live.1) λe=>e▸(S.5 l p hl).live.2
end
section
open PyProof.Rows PySem.Calls
variable{g:G}{μ aF eJ kl:aO}{h h' aY cA:aK}{σ:ah}{Z Z' W W':List ay}
noncomputable def Kept(Z:List ay)(h':aK)(b:ay)(o:Obj):Prop:=h'.get? b=some o \/(b∈Z/\ ∃cO,h'.get? b=some {o with slots:=cO})
theorem Kept.as{b:ay}{o:Obj}(k:Kept Z h' b o):∃cO,h'.get? b=some {o with slots:=cO}:=k.elim (λe=>⟨o.slots,e⟩) λq=>q.2
inductive cH (Z W:List ay) (μ:aO) (h:aK) (aF:aO) (h':aK):Prop
 |mk (pre:μ<+:aF) (keep:∀b o,h.get? b=some o->b∉W-> ¬cj μ b->Kept Z h' b o) (live:∀b o,h.get? b=some o-> ∃o',h'.get? b=some o') (fresh:∀b,cj aF b-> ¬cj μ b->h.get? b=none)
theorem none_of{b:ay}{o:Obj}{p:Prop}(e:h.get? b=some o)(n:h.get? b=none):p:=nomatch e.symm.trans n
theorem cH.refl:cH Z W μ h μ h:=⟨mS _,λ_w _w e _w _w=>.inl e,λ_w o e=>⟨o,e⟩,λ_w a b=>absurd a b⟩
theorem cH.mono(x:cH Z W μ h aF h')(k:∀b∈W,b∈W'):cH Z W' μ h aF h':=
 ⟨x.1,λb o e ae hd=>x.2 b o e (λq=>ae (k b q)) hd,x.3,x.4⟩
theorem cH.Cr(x:cH Z W μ h aF h')(k:∀b o,h.get? b=some o->b∈Z->b∈Z'):cH Z' W μ h aF h':=
 ⟨x.1,λb o e ae hd=>(x.2 b o e ae hd).imp id λq=>⟨k b o e q.1,q.2⟩,x.3,x.4⟩
theorem cH.aq(x:cH [] W μ h aF h'):cH Z W μ h aF h':=x.Cr λ_w _w _w q=>nomatch q
theorem cH.old(x:cH Z W μ h aF h'){b:ay}(n:h'.get? b=none):h.get? b=none:=by
 cases e:h.get? b with
 |none=>rfl
 |some o=>exact(x.3 b o e).elim λo' e'=>none_of e' n
theorem cH.trans(x:cH Z W μ h eJ aY)(y:cH Z W eJ aY kl cA):cH Z W μ h kl cA:=by
 have er:∀b o,h.get? b=some o-> ¬cj μ b-> ¬cj eJ b:=λb o e hd q=>none_of e (x.4 b q hd);refine⟨x.1.trans y.1,λb o e ae hd=>?_,λb o e=>(x.3 b o e).elim λo'=>y.3 b o',λb a q=>?_⟩
 ·rcases x.2 b o e ae hd with e'|⟨hz,cO,e'⟩
  ·exact y.2 b o e' ae (er b o e hd)
  ·exact .inr ⟨hz,(y.2 b _ e' ae (er b o e hd)).as⟩
 ·by_cases q1:cj eJ b
  ·exact x.4 b q1 q
  ·exact x.old (y.4 b a q1)
theorem cH.as(x:cH Z W μ h aF h'){b:ay}{o:Obj}(e:h.get? b=some o)(hW:b∉W)(hd:¬cj μ b):∃cO,h'.get? b=some {o with slots:=cO}:=(x.2 b o e hW hd).as
theorem cH.ns(x:cH Z W μ h aF h'){L:ay}{m:Str->Option Value}(hm:h.Ns L m)(hW:L∉W)(hd:¬cj μ L):h'.Ns L m:=by
 obtain⟨o,es,ep,ho,r⟩:=hm;obtain⟨cO,e⟩:=x.as ho hW hd;exact⟨_,es,ep,e,r⟩
theorem cH.cell(x:cH Z W μ h aF h'){c:ay}{u:Option Value}(hu:h.IsCell c u)(hW:c∉W)(hd:¬cj μ c):h'.IsCell c u:=by
 obtain⟨o,ho,r⟩:=hu;obtain⟨cO,e⟩:=x.as ho hW hd;exact⟨_,e,r⟩
noncomputable def iC(h:aK)(W:List ay):Prop:=∀b∈W,∀vs,¬gW h b vs
theorem iC.nil:iC h []:=λ_w ae=>nomatch ae
theorem cH.ext(x:cH Z W μ h aF h')(n:iC h W):Ext μ h aF h':=by
 refine⟨x.1,λ{a vs} H=>?_⟩;obtain⟨⟨o,ho,r⟩,hd⟩:=H;obtain⟨cO,e⟩:=x.as ho (λq=>n a q vs ⟨o,ho,r⟩) hd;exact⟨⟨_,e,r⟩,λq=>none_of ho (x.4 a q hd)⟩
noncomputable def pL(W:List ay)(h h':aK):Prop:=∀b o,h.get? b=some o->b∉W->h'.get? b=some o
theorem pL.iD(k:pL W h h')(lv:∀b∈W,∀o,h.get? b=some o-> ∃o',h'.get? b=some o'):cH Z W μ h μ h':=
 ⟨mS _,λb o e ae _w=>.inl (k b o e ae),λb o e=>by
  by_cases ae:b∈W
  ·exact lv b ae o e
  ·exact⟨o,k b o e ae⟩,λ_w a b=>absurd a b⟩
theorem br.keep(S:br g μ σ h)(k:pL W h h')(n:iC h W)(hd:∀b∈W,¬cj μ b)(ae:∀b∈W,g.base.get? b=none):br g μ σ h':=by
 have x:Ext μ h μ h':=⟨mS _,λ{a vs} H=>⟨H.1.imp λo z=>⟨k a o z.1 λq=>n a q vs ⟨o,z⟩,z.2⟩,H.2⟩⟩;exact⟨S.1,λb o e=>k b o (S.2 b o e) λq=>none_of e (ae b q),S.3,S.4,λl p e=>(S.5 l p e).ext x (λob ho=>k _ _ ho λq=>hd _ q (.of e)) λob ho=>k _ _ ho λq=>hd _ q (.of2 e)⟩
theorem tb{P:ay->Prop}:∀b∈([]:List ay),P b:=λ_w ae=>nomatch ae
theorem br.gK(S:br g μ σ h)(k:∀b o,h.get? b=some o->h'.get? b=some o):br g μ σ h':=S.keep (W:=[]) (λb o e _w=>k b o e) .nil tb tb
theorem cH.gK(k:∀b o,h.get? b=some o->h'.get? b=some o):cH Z [] μ h μ h':=pL.iD (λb o e _w=>k b o e) tb
theorem d7(o:Obj):∀b ob,h.get? b=some ob->(h.push o).get? b=some ob:=λb ob e=>oj o e
theorem br.push(S:br g μ σ h)(o:Obj):br g μ σ (h.push o):=S.gK (d7 o)
theorem cH.push(o:Obj):cH Z [] μ h μ (h.push o):=.gK (d7 o)
theorem cH.alloc{p:ay×ay}(k:∀b ob,h.get? b=some ob->h'.get? b=some ob)(aa:h.get? p.1=none)(h2:h.get? p.2=none):cH Z [] μ h (μ++[p]) h':=by
 refine⟨Hj _ _,λb ob e _w _w=>.inl (k b ob e),λb ob e=>⟨ob,k b ob e⟩,λb a q=>?_⟩;obtain⟨r,hr,e⟩:=a;rcases lZ.mp hr with hr|hr
 ·exact absurd ⟨r,hr,e⟩ q
 ·rw[bW.mp hr]at e;exact e.elim (λe=>e▸aa) λe=>e▸h2
theorem br.old(S:br g μ σ h){a:ay}(e:h.get? a=none):g.base.get? a=none:=by
 cases q:g.base.get? a with
 |none=>rfl
 |some ob=>exact none_of (S.2 a ob q) e
theorem br.adopt(S:br g μ σ h){p:ay×ay}{o:cv}(x:Ext μ h (μ++[p]) h')(k:∀b ob,h.get? b=some ob->h'.get? b=some ob)(aa:¬cj μ p.1)(h2:¬cj μ p.2)(b1:g.base.get? p.1=none)(b2:g.base.get? p.2=none)(ho:eT g (μ++[p]) h' p o):br g (μ++[p]) (σ.push o) h':=by
 refine⟨by rw[bR,S.1];rfl,λb ob e=>k _ _ (S.2 b ob e),om.mpr ⟨S.3,λq hq=>?_⟩,uB.mpr ⟨S.4,xK _ _,λq hq r hr=>?_⟩,λl q e=>?_⟩
 ·rw[bW.mp hq];exact⟨b1,b2⟩
 ·rw[bW.mp hr];exact⟨⟨λz=>aa ⟨q,hq,.inl z.symm⟩,λz=>h2 ⟨q,hq,.inl z.symm⟩⟩,λz=>aa ⟨q,hq,.inr z.symm⟩,λz=>h2 ⟨q,hq,.inr z.symm⟩⟩
 ·by_cases hl:l<μ.length
  ·rw[TV hl]at e;rw[show(σ.push o).get l=σ.get l from if_neg (S.1▸bq hl)];exact(S.5 l q e).ext x (λob=>k _ ob) λob=>k _ ob
  ·have hlt:=(jF.mp e).1;rw[bR]at hlt;obtain rfl:=qO (lW hlt) (bE hl);rw[pt (bI _),oo]at e;obtain rfl:=cW e;rw[show(σ.push o).get μ.length=o from if_pos S.1];exact ho
theorem k7(S:br g μ σ h){b:ay}(e:h.get? b=none):¬cj μ b:=λq=>(S.live q).elim λo ho=>none_of ho e
theorem br.alloc(S:br g μ σ h){p:ay×ay}{o:cv}(k:∀b ob,h.get? b=some ob->h'.get? b=some ob)(aa:h.get? p.1=none)(h2:h.get? p.2=none)(ho:eT g (μ++[p]) h' p o):br g (μ++[p]) (σ.push o) h':=
 S.adopt ((cH.alloc (Z:=[]) k aa h2).ext .nil) k (k7 S aa) (k7 S h2) (S.old aa) (S.old h2) ho
theorem cH.update{l:Nat}{p:ay×ay}{o:cv}(e:μ[l]?=some p)(k:∀b ob,h.get? b=some ob->b≠p.1->b≠p.2->h'.get? b=some ob)(ho:eT g μ h' p o):cH Z [] μ h μ h':=
 ⟨mS _,λb ob eb _w hd=>.inl (k b ob eb (λq=>hd (q▸.of e)) λq=>hd (q▸.of2 e)),λb ob eb=>by
  by_cases aa:b=p.1
  ·subst aa;exact ho.live.1
  ·by_cases h2:b=p.2
   ·subst h2;exact ho.live.2
   ·exact⟨ob,k b ob eb aa h2⟩,λ_w a b=>absurd a b⟩
theorem br.ap(S:br g μ σ h){l j:Nat}{p q:ay×ay}(e:μ[l]?=some p)(ej:μ[j]?=some q)(a8:j≠l):(q.1≠p.1/\ q.1≠p.2)/\ q.2≠p.1/\ q.2≠p.2:=by
 obtain⟨hjl,rfl⟩:=jF.mp ej;obtain⟨hll,rfl⟩:=jF.mp e;have P:=uD.mp S.4;exact(TW a8).elim (λhlt=>P j l hjl hll hlt) λhlt=>have t:=P l j hll hjl hlt;⟨⟨t.1.1.symm,t.2.1.symm⟩,t.1.2.symm,t.2.2.symm⟩
theorem br.turn(S:br g μ σ h){l:Nat}{p:ay×ay}{o:cv}(e:μ[l]?=some p)(k:∀b ob,h.get? b=some ob->b∉W->b≠p.1->b≠p.2->h'.get? b=some ob)(n:iC h W)(hd:∀b∈W,¬cj μ b)(ae:∀b∈W,g.base.get? b=none)(ho:eT g μ h' p o):br g μ (σ.set l o) h':=by
 have x:Ext μ h μ h':=⟨mS _,λ{a vs} H=>⟨H.1.imp λo z=>⟨k a o z.1 (λq=>n a q vs ⟨o,z⟩) (λq=>H.2 (q▸.of e)) λq=>H.2 (q▸.of2 e),z.2⟩,H.2⟩⟩;have offp:=S.3 p (oi e);refine⟨S.1,λb ob eb=>k b ob (S.2 b ob eb) (λq=>none_of eb (ae b q)) (λq=>none_of eb (q▸offp.1)) λq=>none_of eb (q▸offp.2),S.3,S.4,λj q ej=>?_⟩;by_cases a8:j=l
 ·subst a8;obtain rfl:=cW (e.symm.trans ej);rw[show(σ.set j o).get j=o from if_pos rfl];exact ho
 ·rw[show(σ.set l o).get j=σ.get j from if_neg a8];have ap:=S.ap e ej a8;exact(S.5 j q ej).ext x (λob eo=>k _ ob eo (λz=>hd _ z (.of ej)) ap.1.1 ap.1.2) λob eo=>k _ ob eo (λz=>hd _ z (.of2 ej)) ap.2.1 ap.2.2
theorem br.update(S:br g μ σ h){l:Nat}{p:ay×ay}{o:cv}(e:μ[l]?=some p)(k:∀b ob,h.get? b=some ob->b≠p.1->b≠p.2->h'.get? b=some ob)(ho:eT g μ h' p o):br g μ (σ.set l o) h':=
 S.turn (W:=[]) e (λb ob eb _w=>k b ob eb) .nil tb tb ho
theorem ah.KL{l:Nat}{o:cv}(e:σ.get l=o):σ.set l o=σ:=congrArg (ah.mk σ.next) (funext λj=>by by_cases h:j=l;exact(if_pos h).trans (h▸e.symm);exact if_neg h)
end
section
open PyProof.Rows PySem.Calls
noncomputable def za:List String:=Builtin.Bytes.decodersThatHold++["bytearray.__contains__","bytearray.__mod__","bytearray.__rmod__","_struct.pack_into.held","bytearray.find.held"]
noncomputable def km:l0->Bool
 |.builtin id _=>!za.contains id
 |_=>true
noncomputable def Clean(cB:Ctx):Prop:=km cB.code=true/\ ∀x∈cB.below,km x.1=true
noncomputable def au{α:Type}(M:iQ)(A:bA)(t:Sem α)(Q:α->ag->Prop)(E:Value->ag->Prop)(s:ag):Prop:=
 ∀cB p,cB.In A->Clean cB->TX M cB t (λa _w s'=>Q a s') (λe _w s'=>E e s') p s
noncomputable def d2(M:iQ)(A:bA)(c:l0)(R:jG->ag->Prop)(s:ag):Prop:=
 ∀cB p,cB.code=c->cB.Below A->Clean cB->wpCode M cB R p s
section
variable{α β:Type}{M:iQ}{A:bA}{E:Value->ag->Prop}{s:ag}
theorem aT{t:Sem α}{Q:α->ag->Prop}(h:aN M A t Q E s):au M A t Q E s:=λcB p dm _w=>h cB p dm
theorem ofCode{c:l0}{R:jG->ag->Prop}(h:qP M A c R s):d2 M A c R s:=λcB p hc dm _w=>h cB p hc dm
theorem mono{t:Sem α}{Q Q':α->ag->Prop}{E':Value->ag->Prop}(h:au M A t Q E s)(hQ:∀a s,Q a s->Q' a s)(hE:∀e s,E e s->E' e s):au M A t Q' E' s:=
 λcB p dm hc=>uE M cB t (λa _w s=>hQ a s) (λe _w s=>hE e s) p s (h cB p dm hc)
theorem cC{t:Sem α}{Q Q':α->ag->Prop}(h:au M A t Q E s)(hQ:∀a s,Q a s->Q' a s):au M A t Q' E s:=mono h hQ λ_w _w x=>x
theorem seq{m:Sem α}{f:α->Sem β}{Q:β->ag->Prop}(h:au M A m (λa s'=>au M A (f a) Q E s') E s):au M A (m>>=f) Q E s:=λcB p dm hc=>by
 rw[Sem.wp_bind'];exact uE M cB m (λa p' s' h'=>h' cB p' dm hc) (λ_w _w _w h'=>h') p s (h cB p dm hc)
theorem done{a:α}{Q:α->ag->Prop}(h:Q a s):au M A (pure a) Q E s:=λ_w _w _w _w=>h
theorem hold{vs:List Value}{m:Sem α}{Q:α->ag->Prop}(h:au M A m Q E s):au M A (hJ vs m) Q E s:=λcB p dm hc=>by rw[Sem.wp_holding];exact h cB p dm hc
theorem kept{vs:List Value}{m:Sem α}{Q:α->ag->Prop}(h:au M A m Q E s):au M A (m.keep vs) Q E s:=λcB p dm hc=>by rw[Sem.wp_keep];exact h cB p dm hc
theorem pM{vs:List Value}{m:Sem Value}{Q:Value->ag->Prop}(h:au M A m Q E s):au M A (operate vs m) Q E s:=λcB p dm hc=>by rw[Sem.wp_operate];exact h cB p dm hc
theorem KM{pos:Pos}{Q:Unit->ag->Prop}(h:Q () s):au M A (kR pos) Q E s:=λ_w _w _w _w=>h
theorem Cs{Q:Unit->ag->Prop}(h:Q () s):au M A point Q E s:=λ_w _w _w _w=>h
theorem rel{vs keep:List Value}{Q:Unit->ag->Prop}(h:Q () s):au M A (release vs keep) Q E s:=aT (wpAny_release' h)
theorem cx{pos:Pos}{f:Unit->Sem β}{Q:β->ag->Prop}(h:au M A (f ()) Q E s):au M A (kR pos>>=f) Q E s:=seq (KM h)
theorem dD{vs:List Value}{m:Sem α}{f:α->Sem β}{Q:β->ag->Prop}(h:au M A m (λa s'=>au M A (f a) Q E s') E s):au M A (hJ vs m>>=f) Q E s:=seq (hold h)
theorem jt{m:Sem α}{k:Value->Sem Unit}{Q:α->ag->Prop}(h:au M A m Q (λe s'=>au M A (k e) (λ_w s''=>E e s'') E s') s):au M A (m.onRaise k) Q E s:=λcB p dm hc=>by
 rw[Sem.wp_onRaise];exact uE M cB m (λ_w _w _w h'=>h') (λe p' s' h'=>h' cB p' dm hc) p s (h cB p dm hc)
theorem Xi{m:Sem α}{k:Value->Sem α}{Q:α->ag->Prop}(h:au M A m Q (λe s'=>au M A (k e) Q E s') s):au M A (tryCatch m k) Q E s:=λcB p dm hc=>by
 rw[Sem.wp_tryCatch'];exact uE M cB m (λ_w _w _w h'=>h') (λe p' s' h'=>h' cB p' dm hc) p s (h cB p dm hc)
theorem Ct{m:Sem α}{Q:Except Value α->ag->Prop}(h:au M A m (λa=>Q (.ok a)) (λe=>Q (.error e)) s):au M A m.attempt Q E s:=λcB p dm hc=>by rw[Sem.wp_attempt];exact h cB p dm hc
theorem Clean.enter{cB:Ctx}{c:l0}{h:Option Value}{p:Pos}(x:Clean cB)(hc:km c=true):Clean (cB.enter c h p):=⟨hc,λy hy=>by
 rcases gA.mp hy with rfl|hy
 ·exact x.1
 ·exact x.2 y hy⟩
theorem KN{c:l0}{Q:Value->ag->Prop}(hcl:km c=true)(hc:d2 M A c (λr s'=>match r with|.ok (.ret v)=>Q v s'|.ok _=>False|.error e=>E e s') s):au M A (Hk c) Q E s:=λcB p dm ak=>by
 rw[Sem.wp_runValue];exact hc _ p rfl (dm.enter c none p (by intro x;cases x)) (ak.enter hcl)
theorem pN{f:Value}{pos:List Value}{kw:List (Str×Value)}{Q:Value->ag->Prop}(hc:d2 M A (.call f ⟨pos,kw⟩) (λr s'=>match r with|.ok (.ret v)=>Q v s'|.ok _=>False|.error e=>E e s') s):au M A (call f pos kw) Q E s:=KN rfl hc
theorem zb{c:l0}{R R':jG->ag->Prop}(h:d2 M A c R s)(hR:∀r s,R r s->R' r s):d2 M A c R' s:=λcB p hc dm ak=>Hl hR (h cB p hc dm ak)
theorem iZ{c:l0}{R:jG->ag->Prop}
  (h:au M (A.under c) (M.den c) (λfin s'=>match fin with|.done f=>R (.ok f) s'|.again dL=>dL.quiet=true/\ km dL=true/\ d2 M A dL R s') (λe s'=>R (.error e) s') s):d2 M A c R s:=λcB p hc dm ak=>by
 rw[wpCode_iff_wp,hc];refine uE M cB _ (λfin p' s' h'=>?_) (λ_w _w _w h'=>h') p s (h cB p (hc▸dm.in) ak);cases fin with
 |done f=>exact h'
 |again dL=>exact⟨h'.1,h'.2.2 (cB.goto dL) p' rfl (dm.goto dL) ⟨h'.2.1,ak.2⟩⟩
end
noncomputable abbrev Res:Bool->Type
 |false=>Value
 |true=>Bool
noncomputable abbrev pO:(m:Bool)->Bool->Res m
 |false,b=>.bool b
 |true,b=>b
noncomputable abbrev run:(m:Bool)->aL->Env->Sem (Res m)
 |false,e,env=>bY e env
 |true,e,env=>l1 e env (bY e env)
section
variable{M:iQ}{A:bA}{E:Value->ag->Prop}{s:ag}{env:Env}
theorem KO{l op r pos}{Q:Value->ag->Prop}(h:au M A (bY l env) (λa aH=>au M A (bY r env) (λb bL=>au M A (Ba op a b) Q E bL) E aH) E s):au M A (bY (.BinOp l op r pos) env) Q E s:=by
 rw[eval_BinOp];exact seq (cC h λa aH aY=>dD (cC aY λb bL cA=>cx (pM cA)))
theorem UnaryOp_{op x pos}{Q:Value->ag->Prop}(h:au M A (bY x env) (λv aH=>au M A (unaryOp op v) Q E aH) E s):au M A (bY (.UnaryOp op x pos) env) Q E s:=by
 rw[eval_UnaryOp];exact seq (cC h λv aH aY=>cx (hold aY))
theorem truth{b:Bool}{Q:Bool->ag->Prop}(h:Q b s):au M A (Hm (.bool b)) Q E s:=aT (TY h)
theorem KP{e:aL}{Q:Bool->ag->Prop}(he:∀whole,l1 e env whole=(do let v<-whole;kR e.pos;hJ [v] (Hm v)))(h:au M A (bY e env) (λv aH=>∃b,v=.bool b/\ Q b aH) E s):au M A (l1 e env (bY e env)) Q E s:=by
 rw[he];exact seq (cC h λv aH aY=>cx (hold (aY.elim λb h=>h.1▸truth h.2)))
theorem KQ{x pos}:∀{m:Bool}{Q:Res m->ag->Prop}(h:au M A (run m x env) (λr aH=>∃b,r=pO m b/\ Q (pO m (!b)) aH) E s),au M A (run m (.UnaryOp .Not x pos) env) Q E s:=by
 intro m;cases m with
 |false=>
  intro Q h;exact UnaryOp_ (cC h λv aH h=>h.elim λb h=>h.1▸aT (not_of (TY h.2)))
 |true=>
  intro Q h;exact seq (m:=l1 x env (bY x env)) (cC h λc s' h=>h.elim λb h=>done (h.1▸h.2))
theorem KR{o:BoolOp}{e pos}:∀{m:Bool}{Q:Res m->ag->Prop}(h:au M A (run m e env) Q E s),au M A (run m (.BoolOp o [e] pos) env) Q E s:=by
 intro m;cases m with
 |false=>
  intro Q h;exact h
 |true=>
  intro Q h;cases o
  ·exact seq (m:=l1 e env (bY e env)) (cC h λc s' h'=>by cases c<;>exact done h')
  ·exact seq (m:=l1 e env (bY e env)) (cC h λc s' h'=>by cases c<;>exact done h')
noncomputable abbrev Cu(o:BoolOp)(b:Bool)(p q:Prop):Prop:=match o,b with|.And,true=>p|.And,false=>q|.Or,true=>q|.Or,false=>p
theorem Cv{o:BoolOp}{tc Cw rest pos}:∀{m:Bool}{Q:Res m->ag->Prop}(h:au M A (run m tc env) (λr aH=>∃b,r=pO m b/\ Cu o b (au M A (run m (.BoolOp o (Cw::rest) pos) env) Q E aH) (Q (pO m b) aH)) E s),au M A (run m (.BoolOp o (tc::Cw::rest) pos) env) Q E s:=by
 intro m;cases m with
 |false=>
  intro Q h;cases o<;>exact seq (m:=bY tc env) (cC h λv aH aY=>aY.elim λb aY=>cx (dD (aY.1▸truth (by cases b<;>first|exact aY.2|exact done aY.2))))
 |true=>
  intro Q h;cases o<;>exact seq (m:=l1 tc env (bY tc env)) (cC h λv aH aY=>aY.elim λb aY=>by cases b<;>(cases aY.1;first|exact aY.2|exact done aY.2))
theorem KS{test body orelse pos}:∀{m:Bool}{Q:Res m->ag->Prop}(h:au M A (l1 test env (bY test env)) (λc bL=>bif c then au M A (run m body env) Q E bL else au M A (run m orelse env) Q E bL) E s),au M A (run m (.IfExp test body orelse pos) env) Q E s:=by
 intro m;cases m with
 |false=>
  intro Q h;show au M A (bY _ env) Q E s;rw[eval_IfExp];exact seq (cC h λc bL cA=>by cases c<;>exact cA)
 |true=>
  intro Q h;exact seq (m:=l1 test env (bY test env)) (cC h λc bL cA=>by cases c<;>exact cA)
noncomputable abbrev zc:(m:Bool)->(Res m->ag->Prop)->Value->ag->Prop
 |false,Q=>Q
 |true,Q=>λv s=>∃b,v=.bool b/\ Q b s
theorem KT{l op r pos}(hm:Bb op r=false):∀{m:Bool}{Q:Res m->ag->Prop}(h:au M A (bY l env) (λa aH=>au M A (bY r env) (λb bL=>au M A (mT op a b) (zc m Q) E bL) E aH) E s),au M A (run m (.Compare l [op] [r] pos) env) Q E s:=by
 intro m;cases m with
 |false=>
  intro Q h;show au M A (bY _ env) Q E s;rw[eval_Compare1,TZ hm];exact seq (cC h λa aH aY=>dD (cC aY λb bL cA=>cx (pM cA)))
 |true=>
  intro Q h;show au M A (l1 _ env _) Q E s;rw[isTrue_Compare1,TZ hm];exact seq (cC h λa aH aY=>dD (cC aY λb bL cA=>cx (seq (pM (cC cA λc oX eK=>eK.elim λb h=>hold (h.1▸truth h.2))))))
noncomputable abbrev rm:(m:Bool)->Pos->Value->List pv->List (Sem Value)->Sem (Res m)
 |false=>T0
 |true=>testChain
theorem Cy{l pP pQ ops pR pS rs pos}(hm:lastMarks (pP::pQ::ops) (pR::pS::rs)=false):∀{m:Bool}{Q:Res m->ag->Prop}(h:au M A (bY l env) (λa aH=>au M A (rm m pos a (pP::pQ::ops) (bY pR env::bY pS env::Hn rs env)) Q E aH) E s),au M A (run m (.Compare l (pP::pQ::ops) (pR::pS::rs) pos) env) Q E s:=by
 intro m;cases m with
 |false=>
  intro Q h;show au M A (bY l env>>=λa=>T0 pos a (pP::pQ::ops) (T2 (pP::pQ::ops) (pR::pS::rs) (Hn (pR::pS::rs) env))) Q E s;rw[T3 _ _ _ hm];exact seq h
 |true=>
  intro Q h;show au M A (bY l env>>=λa=>testChain pos a (pP::pQ::ops) (T2 (pP::pQ::ops) (pR::pS::rs) (Hn (pR::pS::rs) env))) Q E s;rw[T3 _ _ _ hm];exact seq h
theorem KU{pos:Pos}{a:Value}{op op':pv}{ops:List pv}{r b7:Sem Value}{rs:List (Sem Value)}:∀{m:Bool}{Q:Res m->ag->Prop}
  (h:au M A r (λb aH=>au M A (mT op a b) (λc bL=>∃t,c=.bool t/\ bif t then au M A (rm m pos b (op'::ops) (b7::rs)) Q E bL else Q (pO m false) bL) E aH) E s),au M A (rm m pos a (op::op'::ops) (r::b7::rs)) Q E s:=by
 intro m;cases m with
 |false=>
  intro Q h;exact dD (m:=r) (cC h λb aH aY=>cx (dD (cC aY λc bL cA=>seq (rel (dD (cA.elim λt h=>by cases h.1;exact truth (by cases t;exact done h.2;exact h.2)))))))
 |true=>
  intro Q h;exact dD (m:=r) (cC h λb aH aY=>cx (dD (cC aY λc bL cA=>seq (rel (dD (cA.elim λt h=>by cases h.1;exact truth (by cases t;exact done h.2;exact h.2)))))))
theorem Cz{pos:Pos}{a:Value}{op:pv}{r:Sem Value}:∀{m:Bool}{Q:Res m->ag->Prop}(h:au M A r (λb aH=>au M A (mT op a b) (zc m Q) E aH) E s),au M A (rm m pos a [op] [r]) Q E s:=by
 intro m;cases m with
 |false=>
  intro Q h;exact dD (m:=r) (cC h λb aH aY=>cx (pM aY))
 |true=>
  intro Q h;exact dD (m:=r) (cC h λb aH aY=>cx (seq (pM (cC aY λc bL cA=>cA.elim λb h=>hold (h.1▸truth h.2)))))
theorem spliced_none{pos:Pos}{Q:List Value->ag->Prop}(h:Q [] s):au M A (kS (iw pos (gf [] env))) Q E s:=aT (PyProof.Rows.spliced_none h)
theorem spliced_more{e:aL}{rest:List aL}{pos:Pos}{Q:List Value->ag->Prop}(h:au M A (bY e env) (λv aH=>au M A (kS (iw pos (gf rest env))) (λvs bL=>Q (v::vs) bL) E aH) E s)
  (he:gf (e::rest) env=(false,bY e env)::gf rest env):au M A (kS (iw pos (gf (e::rest) env))) Q E s:=by
 rw[he];show au M A (kS ((false,bY e env)::iw pos (gf rest env))) Q E s;rw[kS];refine seq (cC h λv aH aY=>?_);simp only[xM,if_false];exact seq (done (seq (hold (cC aY λvs bL cA=>done cA))))
theorem Tuple_{elts:List aL}{k:Nat}{pos:Pos}{Q:Value->ag->Prop}(h:au M A (kS (iw pos (gf elts env))) (λvs aH=>au M A (Ho vs) Q E aH) E s):au M A (bY (.Tuple elts k pos) env) Q E s:=
 cx (f:=λ_w=>kS (iw pos (gf elts env))>>=Ho) (seq h)
theorem List_{elts:List aL}{pos:Pos}{Q:Value->ag->Prop}(h:au M A (kS (iw pos (gf elts env))) (λvs aH=>au M A (Bc vs) Q E aH) E s):au M A (bY (.List elts pos) env) Q E s:=
 cx (f:=λ_w=>kS (iw pos (gf elts env))>>=Bc) (seq h)
theorem evalArgs_plain{f:Value}{x:Sem Value}{rest:List (Bool×Sem Value)}{Q:xN->ag->Prop}(h:au M A (kS ((false,x)::rest)) (λvs s'=>Q ⟨vs,[]⟩ s') E s):au M A (Bd f true ((false,x)::rest) []) Q E s:=by
 unfold Bd;refine seq (m:=kS ((false,x)::rest)) (cC h λvs s' h'=>?_);exact hold (seq (done (seq (done (done h')))))
theorem Call_{func:aL}{args:List aL}{pos:Pos}{Q:Value->ag->Prop}(h:au M A (bY func env) (λf aH=>au M A (uF pos f [] (iw pos (gf args env)) []) Q E aH) E s)
  (he:bY (.Call func args [] pos) env=(do uF pos (<-bY func env) [] (iw pos (gf args env)) (Hp pos (Hq [] env))):=by rfl):au M A (bY (.Call func args [] pos) env) Q E s:=by
 rw[he];exact seq h
theorem callWith_of{P:aK->Prop}{f:Value}{pos:Pos}{first:List Value}{args:List (Bool×Sem Value)}{keywords:List (Option Str×Sem Value)}{Q:Value->ag->Prop}(hplain:(args.any (·.1)||keywords.any (·.1.isNone))=false)
  (az:∀h,P h-> ∃k,(k=Hr \/k=Hs \/k=Ht)/\ iR M h (xO f) k)
  (h:au M A (Bd f true args keywords) (λa aH=>P aH.heap/\ au M A (call f (first++a.pos) a.kw) Q E aH) E s):au M A (uF pos f first args keywords) Q E s:=by
 unfold uF;refine seq (hold (cC h λa aH aY=>cx ?_));obtain⟨k,hk',look⟩:=az _ aY.1;rw[hplain];refine seq (aT (look.here ?_));have go:∀{t:Sem Value},au M A t Q E aH->au M A (t>>=λr=>hJ [r] point>>=λ_w=>pure r) Q E aH:=λht=>seq (cC ht λr bL hr=>seq (hold (Cs (done hr))));have mk:∀m:Value,au M A (T4 m f (first++a.pos) a.kw) Q E aH:=λm=>by unfold T4;exact kept aY.2
 rcases hk' with rfl|rfl|rfl
 ·show au M A (if _ then _ else _) Q E aH;split
  ·exact go aY.2
  ·exact go (mk _)
 ·exact go aY.2
 ·show au M A (if _ then _ else _) Q E aH;split
  ·exact go aY.2
  ·exact go (mk _)
end
section
variable{prog:ef}{w:World}{A:bA}{E:Value->ag->Prop}{s:ag}{env:Env}
theorem Attribute_any_{value:aL}{attr:Str}{pos:Pos}{Q:Value->ag->Prop}(h:au (aD prog w) A (bY value env) (λo aH=>au (aD prog w) A (Hu o attr true) Q E aH) E s)
  (he:bY (.Attribute value attr pos) env=(do
   let o<-bY value env
   kR pos.atName
   let r<-hJ [o] (Hu o attr true)
   T5 value o r
   pure r)):au (aD prog w) A (bY (.Attribute value attr pos) env) Q E s:=by
 rw[he];exact seq (cC h λo aH aY=>cx (dD (cC aY λr bL cA=>seq (aT (T6 (done cA))))))
end
end
section
open PyProof.Rows PySem.Calls
noncomputable section
noncomputable def oY:List String:=["","","","","","","","","","uleb_octets","sleb_octets","","","","","","","","","","","","led","check_op","write_advance","write_place","write_cfa","write_rule","write_op","ops_octets","entry_octets","cie_octets","fde_octets","write_frames","read_low","read_advance","read_rule","read_cfa","read_op","read_ops","read_cie","entries_of","read_frames","_law_plain","_law_shapes","_law_draw","_law_word","_law_leb","_law_lebs","_law_written","_law_entry","_law_drawn","_law_head","_law_due","_law_table","_law_taken","_law_seven","_law_told","_law_all_told","_law_read_head","_law_read","_law_heard","_law_bent_so","_law_fits","_law_single_so","law"]
noncomputable def cnames:List String:=["Octets","Writer","Cie","Fde"]
noncomputable def rn:List String:=["FormFault","TableFault"]
structure cg where
 names:List (Str×gg)
 inner:Option (List (Str×gg))
noncomputable def mr(x:Str):Bool:=x !=("__debug__":Str)&&x !=("__classdict__":Str)
noncomputable def cg.slot(c:cg)(i:Nat):Option Str:=match c.inner with
 |none=>(c.names[i]?).bind λp=>bif (p.2== .local||p.2== .cell)&&mr p.1 then some p.1 else none
 |some ns=>bif df 100 i then(ns[i-100]?).bind λp=>bif p.2== .local&&mr p.1 then some p.1 else none
  else(c.names[i]?).bind λp=>bif p.2== .cell&&ns.lookup p.1==some .cell&&mr p.1 then some p.1 else none
noncomputable def cg.glob(c:cg)(x:String)(p:Pos):Option aL:=bif (c.inner.getD c.names).lookup (aI x)==some .globalImplicit&&mr (aI x)then some (.Name (aI x) p)else none
noncomputable def cg.td(c:cg)(l:List String)(k:Nat)(p:Pos):Option aL:=(l[k]?).bind λx=>bif x=="" then none else c.glob x p
structure KV where
 es:List aL
 n:Nat
 sc:j7
 be:List (Option aL)
noncomputable def te:aL->KV
 |.BoolOp _ es _=>⟨es,0,default,[]⟩
 |.BinOp l _ r _=>⟨[l,r],0,default,[]⟩
 |.UnaryOp _ e _=>⟨[e],0,default,[]⟩
 |.IfExp a b c _=>⟨[a,b,c],0,default,[]⟩
 |.Dict be es _=>⟨es,0,default,be⟩
 |.ListComp e gs sc _=>⟨e::gs.flatMap λg=>g.target::g.iter::g.ifs,0,sc,[]⟩
 |.Compare l _ rs _=>⟨l::rs,0,default,[]⟩
 |.Call f es _ _=>⟨f::es,0,default,[]⟩
 |.Constant _ k _=>⟨[],k,default,[]⟩
 |.Attribute e _ _=>⟨[e],0,default,[]⟩
 |.Subscript a b _=>⟨[a,b],0,default,[]⟩
 |.List es _=>⟨es,0,default,[]⟩
 |.Tuple es k _=>⟨es,k,default,[]⟩
 |.Slice a b _ _=>⟨[a.getD default,b.getD default],0,default,[]⟩
 |_=>⟨[],0,default,[]⟩
noncomputable abbrev kids(e:aL):List aL:=(te e).es
noncomputable def cr(i:Nat)(e:aL):aL:=((te e).es[i]?).getD default
noncomputable abbrev numOf(e:aL):Nat:=(te e).n
noncomputable abbrev kn(e:aL):j7:=(te e).sc
noncomputable abbrev keysOf(e:aL):List (Option aL):=(te e).be
noncomputable def KW:af->Option Const
 |.none=>some .none
 |.bool b=>some (.bool b)
 |.int i=>some (.int i)
 |.str s=>some (.str (aI s))
 |.bytes b=>some (.bytes b)
 |_=>none
noncomputable def pT:gZ->Operator
 |.add=>.Add|.sub=>.Sub|.mul=>.Mult|.fdiv=>.FloorDiv|.mod=>.Mod|.pow=>.Pow|.band=>.BitAnd|.bor=>.BitOr|.shl=>.LShift|.shr=>.RShift
noncomputable def ko:jO->pv
 |.lt=>.Lt|.le=>.LtE|.gt=>.Gt|.ge=>.GtE|.eq=>.Eq|.ne=>.NotEq|.is=>.Is|.isin=>.In|.iV=>.NotIn
noncomputable def vz:mm->String
 |.len=>"len"|.bytes=>"bytes"|.bytearray=>"bytearray"|.sum=>"sum"|.abs=>"abs"|.list=>"list"|.tuple=>"tuple"|.int=>"int"|.ord=>"ord"
noncomputable def KX:List String:=["is_done","take","u8","u16","u32","uleb","sleb","text","octets","append","pop","index","extend","find","decode","join","to_bytes","encode"]
noncomputable def ro(m:Nat):Str:=aI (KX[m]?.getD "")
noncomputable def cst(c:Const)(e:Option aL):Option aL:=some (.Constant c (numOf (e.getD default)) (e.getD default).pos)
noncomputable def CA(l:aL):aL->Option aL
 |.BoolOp o (z::zs) p=>some (.BoolOp o (l::z::zs) p)
 |_=>none
noncomputable def CB:aL->Option BoolOp
 |.BoolOp o _ _=>some o
 |_=>none
noncomputable def vA:BoolOp->Bool
 |.And=>true
 |.Or=>false
noncomputable def rows(f:aL->Option aL)(l:aL)(o:BoolOp)(p:Pos):List aL->Option aL
 |[]=>none
 |[y]=>(f y).map λr=>.BoolOp o [l,r] p
 |zs=>(f (.BoolOp o zs p)).bind λr=>(CB r).bind λo'=>bif vA o==vA o' then CA l r else none
noncomputable def zd(sc:List (Str×gg)):List (Str×gg):=sc.map λp=>bif p.2== .free then(p.1,.cell)else p
noncomputable def ju:List (Str×gg)->Bool
 |[]=>true
 |p::r=>(r.all λq=>!(q.1==p.1))&&ju r
noncomputable def CC(c:cg)(sc:j7):Bool:=
 ju sc.names&&sc.names.all λp=>(p.2== .local&&sc.names.lookup p.1==some .local)||(p.2== .free&&c.names.lookup p.1==some .cell)||p.2== .globalImplicit
noncomputable def high:gF->Bool
 |.var i=>df 100 i
 |.tup is=>is.all λi=>df 100 i
noncomputable def fits:gF->iW->Bool
 |.var _,.enum _=>false
 |.var _,.zip _ _=>false
 |_,_=>true
noncomputable def distinct{α:Type}[BEq α]:List α->Bool
 |[]=>true
 |k::be=>!be.contains k&&distinct be
noncomputable def cg.row(c:cg):List Nat->List aL->Option (List aL)
 |[],_=>some []
 |i::is,es=>(c.slot i).bind λx=>(c.row is es.tail).map (.Name x (es.headD default).pos::·)
noncomputable def cg.rp(c:cg)(e:aL):gF->Option aL
 |.var i=>(c.slot i).map λx=>.Name x e.pos
 |.tup is=>(c.row is (kids e)).map λes=>.Tuple es (numOf e) e.pos
noncomputable def cg.into(c:cg)(e:aL):cg:={c with inner:=some (zd (kn e).names)}
noncomputable def odd:aL->Bool
 |.Set .. =>true
 |.Starred .. =>true
 |.Slice .. =>true
 |.Call (.Name x _) [] [] _=>x==("super":Str)
 |_=>false
noncomputable def lits:List X->Option (List af)
 |[]=>some []
 |.lit v::xs=>(lits xs).map (v::·)
 |_::_=>none
noncomputable def rq:X->Option af
 |.lit v=>some v
 |.tup xs=>(lits xs).map .tup
 |_=>none
noncomputable def oZ:List X->Option (List af)
 |[]=>some []
 |x::xs=>(rq x).bind λc=>(oZ xs).map (c::·)
noncomputable def k8{α:Type}(l:List α)(k:Nat):Bool:=df l.length k
mutual
noncomputable def re(c:cg):X->aL->Option aL
 |.lit v,e=>(KW v).map λk=>.Constant k (numOf e) e.pos
 |.var i,e=>(c.slot i).map λx=>.Name x e.pos
 |.fz k,e=>bif lT k 7 then c.glob (pG k) e.pos else none
 |.bin op a b,e=>(re c a (cr 0 e)).bind λl=>(re c b (cr 1 e)).map λr=>.BinOp l (pT op) r e.pos
 |.neg a,e=>(re c a (cr 0 e)).map λl=>.UnaryOp .USub l e.pos
 |.not a,e=>(re c a (cr 0 e)).map λl=>.UnaryOp .Not l e.pos
 |.and a b,e=>(re c a (cr 0 e)).bind λl=>rows (re c b) l .And e.pos (kids e).tail
 |.or a b,e=>(re c a (cr 0 e)).bind λl=>rows (re c b) l .Or e.pos (kids e).tail
 |.cmp o a b,e=>(re c a (cr 0 e)).bind λl=>(re c b (cr 1 e)).bind λr=>bif !Bb (ko o) r then some (.Compare l [ko o] [r] e.pos)else none
 |.oR o p a b d,e=>(re c a (cr 0 e)).bind λl=>(re c b (cr 1 e)).bind λr=>(re c d (cr 2 e)).bind λs=>bif !Bb (ko p) s then some (.Compare l [ko o,ko p] [r,s] e.pos)else none
 |.vg o p q a b d f,e=>(re c a (cr 0 e)).bind λl=>(re c b (cr 1 e)).bind λr=>(re c d (cr 2 e)).bind λs=>(re c f (cr 3 e)).bind λt=>bif !Bb (ko q) t then some (.Compare l [ko o,ko p,ko q] [r,s,t] e.pos)else none
 |.ite x y z,e=>(re c x (cr 0 e)).bind λl=>(re c y (cr 1 e)).bind λr=>(re c z (cr 2 e)).map λs=>.IfExp l r s e.pos
 |.call f as,e=>(c.td oY f (cr 0 e).pos).bind λg=>(eM c as (kids e).tail).bind λes=>bif k8 as 10 then some (.Call g es [] e.pos)else none
 |.new k as,e=>(c.td cnames k (cr 0 e).pos).bind λg=>(eM c as (kids e).tail).bind λes=>bif k8 as 10 then some (.Call g es [] e.pos)else none
 |.bi b as,e=>(c.glob (vz b) (cr 0 e).pos).bind λg=>(eM c as (kids e).tail).bind λes=>bif k8 as 10 then some (.Call g es [] e.pos)else none
 |.aS o m as,e=>(re c o (cr 0 (cr 0 e))).bind λl=>(eM c as (kids e).tail).bind λes=>bif (!odd l&&k8 as 10)&&(cr 0 e).pos.endLine==e.pos.line then some (.Call (.Attribute l (ro m) (cr 0 e).pos) es [] e.pos)else none
 |.fromBytes a,e=>(c.glob "int" (cr 0 (cr 0 e)).pos).bind λg=>(re c a (cr 1 e)).bind λl=>(cst (.str (aI "little")) (some (cr 2 e))).bind λk=>bif !odd l&&(cr 0 e).pos.endLine==e.pos.line then some (.Call (.Attribute g (aI "from_bytes") (cr 0 e).pos) [l,k] [] e.pos)else none
 |.attr o n,e=>(re c o (cr 0 e)).bind λl=>bif !odd l then some (.Attribute l (aI (cZ n)) e.pos)else none
 |.idx o i,e=>(re c o (cr 0 e)).bind λl=>(re c i (cr 1 e)).bind λr=>bif !odd r then some (.Subscript l r e.pos)else none
 |.sliceTo o h,e=>(re c o (cr 0 e)).bind λl=>(re c h (cr 1 (cr 1 e))).map λr=>.Subscript l (.Slice none (some r) none (cr 1 e).pos) e.pos
 |.sliceFrom o h,e=>(re c o (cr 0 e)).bind λl=>(re c h (cr 0 (cr 1 e))).map λr=>.Subscript l (.Slice (some r) none none (cr 1 e).pos) e.pos
 |.slice o i h,e=>(re c o (cr 0 e)).bind λl=>(re c i (cr 0 (cr 1 e))).bind λr=>(re c h (cr 1 (cr 1 e))).map λs=>.Subscript l (.Slice (some r) (some s) none (cr 1 e).pos) e.pos
 |.tup as,e=>(eM c as (kids e)).bind λes=>bif k8 as 20 then some (.Tuple es (numOf e) e.pos)else none
 |.list as,e=>(eM c as (kids e)).bind λes=>bif k8 as 20 then some (.List es e.pos)else none
 |.bZ be as,e=>(eM c as (kids e)).bind λes=>(oZ as).bind λ_w=>bif ((k8 be 15||be.length==20)&&be.length==as.length)&&((keysOf e).length==be.length&&distinct be)then some (.Dict (be.zipWith (λk q=>cst (.int k) q) (keysOf e)) es e.pos)else none
 |.fg be as,e=>(eM c as (kids e)).bind λes=>(oZ as).bind λ_w=>bif ((k8 be 15&&lT 0 be.length)&&be.length==as.length)&&((keysOf e).length==be.length&&distinct be)then some (.Dict (be.zipWith (λk q=>cst (.str (aI k)) q) (keysOf e)) es e.pos)else none
 |.comp a t j fs,e=>(re (c.into e) a (cr 0 e)).bind λl=>((c.into e).rp (cr 1 e) t).bind λu=>(ze c j (cr 2 e)).bind λi=>(eM (c.into e) fs ((kids e).drop 3)).bind λgs=>
   bif c.inner.isNone&&CC c (kn e)&&high t&&fits t j then some (.ListComp l [⟨u,i,gs,0⟩] ⟨.function,(kn e).names,false,false,(kn e).more⟩ e.pos)else none
noncomputable def eM(c:cg):List X->List aL->Option (List aL)
 |[],_=>some []
 |x::xs,es=>(re c x (es.headD default)).bind λl=>(eM c xs es.tail).bind λr=>bif !odd l then some (l::r)else none
noncomputable def ze(c:cg):iW->aL->Option aL
 |.seq a,e=>(re c a e).bind λl=>bif !odd l then some l else none
 |.range a,e=>(c.glob "range" (cr 0 e).pos).bind λg=>(re c a (cr 1 e)).bind λl=>bif !odd l then some (.Call g [l] [] e.pos)else none
 |.enum a,e=>(c.glob "enumerate" (cr 0 e).pos).bind λg=>(re c a (cr 1 e)).bind λl=>bif !odd l then some (.Call g [l] [] e.pos)else none
 |.zip a b,e=>(c.glob "zip" (cr 0 e).pos).bind λg=>(re c a (cr 1 e)).bind λl=>(re c b (cr 2 e)).bind λr=>bif !odd l&&!odd r then some (.Call g [l,r] [] e.pos)else none
end
mutual
noncomputable def pU(c:cg):fO->aL->Option aL
 |.var i,e=>(c.slot i).map λx=>.Name x e.pos
 |.attr o n,e=>(re c o (cr 0 e)).map λl=>.Attribute l (aI (cZ n)) e.pos
 |.sub o i,e=>(re c o (cr 0 e)).bind λl=>(re c i (cr 1 e)).bind λr=>bif !odd r then some (.Subscript l r e.pos)else none
 |.tup ls,e=>(pV c ls (kids e)).map λes=>.Tuple es (numOf e) e.pos
noncomputable def pV(c:cg):List fO->List aL->Option (List aL)
 |[],_=>some []
 |x::xs,es=>(pU c x (es.headD default)).bind λl=>(pV c xs es.tail).bind λr=>bif !odd l then some (l::r)else none
end
structure KY where
 es:List aL
 bs:List (List dI)
 q:Pos
noncomputable def mu:dI->KY
 |.Return (some e) _=>⟨[e],[],default⟩
 |.Assign ts e _=>⟨e::ts,[],default⟩
 |.AugAssign t _ e _=>⟨[e,t],[],default⟩
 |.For t i b _ _=>⟨[i,t],[b],default⟩
 |.While t b _ _=>⟨[t],[b],default⟩
 |.If t b d _=>⟨[t],[b,d],default⟩
 |.Raise (some e) _ _=>⟨[e],[],default⟩
 |.Try b [.ExceptHandler (some e) _ h q] _ _ _=>⟨[e],[b,h],q⟩
 |.Expr e _=>⟨[e],[],default⟩
 |_=>⟨[],[],default⟩
noncomputable def gM(i:Nat)(s:dI):aL:=((mu s).es[i]?).getD default
noncomputable def h1(i:Nat)(s:dI):List dI:=((mu s).bs[i]?).getD []
noncomputable def zf:X->Bool
 |.comp .. =>true
 |_=>false
noncomputable def pureOf{α:Type}:Sem α->Option α
 |.pure a=>some a
 |_=>none
noncomputable def cg.env(c:cg):Env:={scope:=⟨.function,c.inner.getD c.names,false,false,[]⟩,locals:=0,globals:=0,cells:=[]}
noncomputable def vB:List fO->Option (List Nat)
 |[]=>some []
 |.var i::r=>(vB r).map (i::·)
 |_::_=>none
noncomputable def KZ:fO->Option (List Nat)
 |.tup ls=>vB ls
 |_=>none
noncomputable def cg.i6(c:cg):List Nat->Option (List Str)
 |[]=>some []
 |i::is=>(c.slot i).bind λx=>(c.i6 is).map (x::·)
noncomputable def CD(c:cg)(l:fO)(t v:aL):Option (Option (List Nat)):=(pureOf (uG [t] v c.env)).bind λr=>r.elim (some none) λns=>(KZ l).bind λis=>bif c.i6 is==some ns&&distinct is then some (some is)else none
noncomputable def K0:C->Option (Option (Nat×List UInt8))
 |.ret (.lit .none)=>some none
 |.assign (.var i) (.lit (.bytes b))=>some (some (i,b))
 |_=>none
noncomputable def hand:List C->Bool
 |[c]=>(K0 c).isSome
 |_=>false
noncomputable def tf:dI->Bool
 |.Return none _=>true
 |_=>false
noncomputable def vC:af->Option Unit
 |.none=>some ()
 |_=>none
mutual
noncomputable def CE(c:cg):C->dI->Option dI
 |.expr a,s=>(re c a (gM 0 s)).bind λl=>bif pureOf (Be l none s.pos.line c.env)==some false then some (.Expr l s.pos)else none
 |.assign l a,s=>(pU c l (gM 1 s)).bind λt=>(re c a (gM 0 s)).bind λv=>(CD c l t v).bind λ_w=>bif pureOf (Bf [t] v s.pos.line c.env)==some (zf a)&&!odd t then some (.Assign [t] v s.pos)else none
 |.pF i op a,s=>(c.slot i).bind λx=>(re c a (gM 0 s)).map λv=>.AugAssign (.Name x (gM 1 s).pos) (pT op) v s.pos
 |.sT o n op a,s=>(re c o (cr 0 (gM 1 s))).bind λl=>(re c a (gM 0 s)).map λv=>.AugAssign (.Attribute l (aI (cZ n)) (gM 1 s).pos) (pT op) v s.pos
 |.ret a,s=>bif tf s then(rq a).bind λv=>(vC v).map λ_w=>.Return none s.pos else(re c a (gM 0 s)).map λv=>.Return (some v) s.pos
 |.ite x y z,s=>(re c x (gM 0 s)).bind λt=>(jv c y (h1 0 s)).bind λb=>(jv c z (h1 1 s)).map λd=>.If t b d s.pos
 |.while x y,s=>(re c x (gM 0 s)).bind λt=>(jv c y (h1 0 s)).map λb=>.While t b [] s.pos
 |.for u j y,s=>(c.rp (gM 1 s) u).bind λt=>(ze c j (gM 0 s)).bind λi=>(jv c y (h1 0 s)).bind λb=>bif fits u j then some (.For t i b [] s.pos)else none
 |.raise k as,s=>(c.td rn k (cr 0 (gM 0 s)).pos).bind λg=>(eM c as (kids (gM 0 s)).tail).bind λes=>bif as.length==(bif k==0 then 2 else 1)then some (.Raise (some (.Call g es [] (gM 0 s).pos)) none s.pos)else none
 |.try y k z,s=>(c.td rn k (gM 0 s).pos).bind λg=>(jv c y (h1 0 s)).bind λb=>(jv c z (h1 1 s)).bind λh=>bif hand z then some (.Try b [.ExceptHandler (some g) none h (mu s).q] [] [] s.pos)else none
 |.cont,s=>some (.Continue s.pos)
 |.pass,s=>some (.Pass s.pos)
noncomputable def jv(c:cg):List C->List dI->Option (List dI)
 |[],_=>some []
 |x::xs,ss=>(CE c x (ss.headD default)).bind λs=>(jv c xs ss.tail).map (s::·)
end
end
end
section
open PyProof.Rows PySem.Calls
noncomputable section
noncomputable abbrev PP:ef:=PySem.Challenge.pw_pq1141_01
noncomputable def vD(i:Nat):dI:=(PP.main.body[i]?).getD (.Pass default)
noncomputable def zg:sr:=⟨[],[],none,[],[],none,[]⟩
noncomputable def vE:dI->Option (Str×List dI×j7×sr)
 |.FunctionDef n a b _ _ _ sc _ _ _=>some (n,b,sc,a)
 |.ClassDef n _ _ b _ _ _ _ _ _ _=>some (n,b,default,zg)
 |.Assign [.Name x _] _ _=>some (x,[],default,zg)
 |_=>none
noncomputable def jw(s:dI):List dI:=(vE s).elim [] (·.2.1)
noncomputable def jQ(i j:Nat):dI:=((jw (vD i))[j]?).getD (.Pass default)
noncomputable def aV(l:List Nat)(k:Nat):Nat:=(l[k]?).getD 0
noncomputable def eU(f:Nat):dI:=bif lT f 9 then jQ 6 (aV [0,1,2,3,5,6,7,8,9] f)else bif lT f 11 then vD (f-2)else bif lT f 20 then jQ 9 (aV [0,2,3,4,5,6,7,8,9] (f-11))else bif lT f 22 then jQ (f-5) 0 else bif lT f 43 then vD (f-5)else vD (f-1)
noncomputable def i7:Nat->ay:=aV [86,93,100,107,121,128,135,142,149,163,170,184,198,205,212,219,226,233,240,247,277,298,312,319,326,333,340,347,354,361,368,375,382,387,394,401,408,415,422,429,436,443,450,460,467,474,479,486,491,498,503,510,515,522,527,532,539,546,553,560,567,572,579,586,593,598]
noncomputable def k9:Nat->ay:=aV [152,257,280,301]
noncomputable def CF:Nat->ay:=aV [58,70]
noncomputable def addrs:List ay:=[2,152,151,257,256,280,279,301,300,58,57,70,69,38,37,3,262,263,451,452,453,34,35,54,55]++(cE 66).flatMap λf=>[i7 f,i7 f-1]
noncomputable def fragOf(h:aK):gz:=addrs.filterMap λa=>(h.get? a).map λo=>(a,o)
noncomputable def fdOf(K:gz)(a:ay):Option (Value×j8):=(K.lookup a).bind λo=>match o.data with|.func fd=>some (o.cls,fd)|_=>none
noncomputable def fieldOf(K:gz)(v:Value)(i:Nat):Option Value:=match v with
 |.ref a=>(K.lookup a).bind λo=>match o.data with|.fields vs=>vs[i]?|_=>none
 |_=>none
noncomputable def isStr(v:Option Value)(q:Str):Bool:=match v with|some (.str x _)=>x==q|_=>false
noncomputable def isFun:ScopeKind->Bool|.function=>true|_=>false
noncomputable def isNone:Value->Bool|.none=>true|_=>false
noncomputable def vF:List Str->Bool
 |[]=>true
 |a::r=>!r.contains a&&vF r
noncomputable def ru(p:sr):sr:=⟨[],p.args,none,[],[],none,[]⟩
noncomputable def iE(s:dI):j7:=(vE s).elim default (·.2.2.1)
noncomputable def gj(s:dI):sr:=(vE s).elim zg (·.2.2.2)
noncomputable def zh(K:gz)(fd:j8):Bool:=fd.closure.isEmpty&&(dQ fd.globals ix&&(dQ fd.builtins pw&&(isStr (fieldOf K fd.code 1) fd.qualname&&isNone fd.defaults)))
noncomputable def CG(sc:j7)(p:sr):Bool:=!sc.isCoroutine&&(!sc.isGenerator&&(isFun sc.kind&&vF (p.args.map (·.arg))))
noncomputable def nu(K:gz)(a:ay):=(fdOf K a).map λp=>(p.1,zh K p.2,p.2.body,p.2.scope,p.2.params)
noncomputable def nx(st:dI):Option (Value×Bool×FuncBody×j7×sr):=some (.type "function",true,.stmts (jw st),iE st,gj st)
noncomputable def CH(st:dI)(b:bB):Bool:=CG (iE st) (gj st)&&(df (iE st).names.length 100&&(ju (iE st).names&&(cg.i6 ⟨(iE st).names,none⟩ b.params==some ((gj st).args.map (·.arg)))))
theorem K1:((cE 66).map λf=>(fn f).map λb=>(CH (eU f) b,jv ⟨(iE (eU f)).names,none⟩ b.body (jw (eU f)),gj (eU f)))=((cE 66).map λf=>(fn f).map λ_w=>(true,some (jw (eU f)),ru (gj (eU f)))):=by kernel_rfl
noncomputable def zi(st:dI)(c:Str)(bJ:List Str):Bool:=CG (iE st) (gj st)&&(((gj st).args.map (·.arg)==bJ)&&(((iE st).names.all λx=>x.2 !=.cell)&&((bJ.all λn=>(iE st).names.lookup n==some .local)&&(iE st).names.lookup c==some .globalImplicit)))
theorem CI:(gj (jQ 2 0),gj (jQ 3 0))=(ru (gj (jQ 2 0)),ru (gj (jQ 3 0))):=by kernel_rfl
theorem K2:(zi (jQ 2 0) "Exception" ["self","word"]&&zi (jQ 3 0) "DebugFault" ["self","word","at"])=true:=by kernel_rfl
noncomputable def rv(K:gz):Array hG:=match K.lookup ix with
 |some o=>(match o.data with|.dict es _=>es|_=> #[])
 |none=> #[]
noncomputable def K3:List (String×Nat):=[("__name__",0),("__doc__",0),("__package__",0),("__loader__",0),("__spec__",0),("__annotations__",6),("__builtins__",4),("__file__",0),("__cached__",0),("_wall",21),("DebugFault",38),("FormFault",58),("TableFault",70),("Octets",152),("uleb_octets",163),("sleb_octets",170),("Writer",257),("CIE_MARK",0),("VERSION",0),("LEAST_VERSIONS",262),("NUMBERS",263),("Cie",280),("Fde",301),("led",312),("check_op",319),("write_advance",326),("write_place",333),("write_cfa",340),("write_rule",347),("write_op",354),("ops_octets",361),("entry_octets",368),("cie_octets",375),("fde_octets",382),("write_frames",387),("read_low",394),("read_advance",401),("read_rule",408),("read_cfa",415),("read_op",422),("read_ops",429),("read_cie",436),("entries_of",443),("read_frames",450),("_law_edges",451),("_law_registers",452),("_law_wide",453),("_law_plain",460),("_law_shapes",467),("_law_draw",474),("_law_word",479),("_law_leb",486),("_law_lebs",491),("_law_written",498),("_law_entry",503),("_law_drawn",510),("_law_head",515),("_law_due",522),("_law_table",527),("_law_taken",532),("_law_seven",539),("_law_told",546),("_law_all_told",553),("_law_read_head",560),("_law_read",567),("_law_heard",572),("_law_bent_so",579),("_law_fits",586),("_law_single_so",593),("law",598)]
noncomputable def vG:Value->Option Str|.str x _=>some x|_=>none
noncomputable def pW:Value->Option Nat|.ref a=>some a|_=>none
noncomputable def names(K:gz):List (Option Str×Option Nat):=(rv K).toList.map λe=>(vG e.key,pW e.val)
noncomputable def ha:List (Option Str×Option Nat):=K3.map λp=>(some (aI p.1),bif dQ p.2 0 then none else some p.2)
noncomputable def look(l:List (Option Str×Option Nat))(x:String):Option (Option Nat):=(l.find? λp=>p.1==some (aI x)).map (·.2)
noncomputable def lg(l:List String)(F:String->Option (Option Nat))(k:Nat):Option (Option Nat):=(l[k]?).bind λx=>bif x=="" then none else F x
noncomputable def vH:List String:=["len","bytes","bytearray","sum","abs","list","tuple","int","ord","range","enumerate","zip"]++["Exception"]
theorem vI:((cE 66).map (lg oY (look ha)),(cE 4).map (lg cnames (look ha)),(cE 2).map (lg rn (look ha)),vH.map (look ha),(cE 7).map λk=>look ha (pG k),look ha "DebugFault")=
 ((cE 66).map (λf=>lg oY (λ_w=>some (some (i7 f))) f),(cE 4).map (λf=>lg cnames (λ_w=>some (some (k9 f))) f),(cE 2).map (λf=>lg rn (λ_w=>some (some (CF f))) f),vH.map (λ_w=>(none:Option (Option Nat))),[some none,some none,some (some 262),some (some 263),some (some 451),some (some 452),some (some 453)],some (some 38)):=by kernel_rfl
noncomputable def vJ:List Int->List Nat->List Value
 |n::ns,t::ts=>.int n t::vJ ns ts
 |_,_=>[]
noncomputable def rx(ns:List Int)(ts:List Nat):Option Obj:=some {cls:=.type "tuple",data:=.seq (vJ ns ts).toArray}
noncomputable def vK(P:Params):Tok->List (String×String)->List hG
 |_,[]=>[]
 |t,(a,b)::r=>⟨PyData.keyHash P (aI a),.str (aI a) t,.str (aI b) (t+1)⟩::vK P (t+2) r
noncomputable abbrev tg:List Value:=[.ref 38,.type "Exception",.type "BaseException",.type "object"]
noncomputable def excAt(nm:String)(c n t:ay)(k:ay)(u:Nat):Option Obj:=some (oq (aI nm) (aI nm) c n [.ref 38] tg true [] [] false none none (some (.ref t)) none (some (.str (aI nm) k)) (some (.str (aI nm) u)) (some (.bool true)) "Exception.__new__")
noncomputable abbrev vL:Option (Option Value):=some (some (.builtin "object.__setattr__"))
noncomputable def CJ(K:gz)(c:Nat):Bool:=plainGet K (k9 c) ""&&(hasDictIn K (k9 c)&&(Hv K (k9 c)&&(plainOver K (k9 c)&&jH K (.ref (k9 c)))))
noncomputable def zj(K:gz)(c n:Nat):Option (Option Value):=bif fld c n then eG K (.ref (k9 c)) (aI (cZ n))else some none
noncomputable def zk(K:gz)(c m:Nat):Option (Option Value):=(bk c m).bind λ_w=>eG K (.ref (k9 c)) (ro m)
noncomputable def CL(K:gz)(c:Nat):=(eG K (.ref (k9 c)) "__init__",eG K (.ref (k9 c)) "__setattr__",(cE 11).map (zj K c),(cE 18).map (zk K c))
noncomputable def CM(_:Nat):Option (Option Value):=some none
noncomputable def zl(c m:Nat):Option (Option Value):=(bk c m).map λf=>some (.ref (i7 f))
noncomputable def CN(c:Nat):=(some ((bl c).map λf=>kT (i7 f)),vL,(cE 11).map CM,(cE 18).map (zl c))
noncomputable def ny(K:gz):=
 (names K,xP (rv K) (aI "CIE_MARK"),xP (rv K) (aI "VERSION"),
 [K.lookup 262,K.lookup 451,K.lookup 452,K.lookup 453,K.lookup 263,K.lookup 58,K.lookup 70],
 [qQ K (.type "int") (.type "type") (aI "from_bytes"),qQ K (.type "Exception") (.type "type") (aI "__init__"),qQ K (.ref 38) (.type "type") (aI "__init__")],
 ((cE 4).all (CJ K)&&(Hw K 38 (.type "type")&&(jH K (.ref 58)&&(jH K (.ref 70)&&(K.lookup ix).isSome)))),
 (cE 4).map (CL K),
 [specialIn K (.ref 38) "__getattribute__",eG K (.ref 58) "__setattr__",eG K (.ref 70) "__setattr__",eG K (.ref 58) "word",eG K (.ref 70) "word",eG K (.ref 58) "at",eG K (.ref 58) "__init__",eG K (.ref 70) "__init__"],
 [ot K 58 (.type "object"),ot K 70 (.type "object"),ot K 58 (.type "Exception"),ot K 70 (.type "Exception")],[(uH K 58).map λc=>(c.hasDict,c.mro),(uH K 70).map λc=>(c.hasDict,c.mro)])
noncomputable def lj(w:World):=
 (ha,some (Ub 4294967295 500),some (Ub 4 502),
 [rx [1,3,4] [504,505,506],rx vi (qR 841 13),rx gG (qR 855 7),rx sV [863,864,865,866,868,869],some {cls:=.type "dict",data:=.dict (vK w.params 508 mq).toArray 15},excAt "FormFault" 58 57 42 225 233,excAt "TableFault" 70 69 61 251 259],
 ([some (.get (.builtin "classmethod_descriptor.__get__") (.builtin "int.from_bytes") .none (.type "int")),some (.val (.builtin "Exception.__init__")),some (.val (.ref 35))]:List (Option CFound)),
 true,
 (cE 4).map CN,
 [some (some (.builtin "type.__getattribute__")),vL,vL,some none,some none,some none,some (some (.ref 55)),some (some (.ref 35))],
 [some true,some true,some true,some true],[some (true,.ref 58::tg),some (true,.ref 70::tg)])
noncomputable def ry(K:gz):=((cE 66).map (λf=>nu K (i7 f)),nu K 35,nu K 55)
noncomputable def rz:=((cE 66).map (λf=>nx (eU f)),nx (jQ 2 0),nx (jQ 3 0))
noncomputable def jR:ef:=view PP [64]
noncomputable def K4(s:dI):Option Str:=(vE s).map (·.1)
noncomputable def loose:List Str:=(PP.main.body.filterMap K4).dropLast
noncomputable def go(b:Bool)(w:World)(os:xQ):Option ag:=Fast.tw14082659384304107361 Fast.tw14364793385576792824 PP (w.withFollow "special-get-raises" b) (jI w.params).objs.size ((jI w.params).nsMap ix "__annotations__") 4200 ⟨jI w.params,xR [],Bg,Bh,os⟩ (topStub PP)
noncomputable def zm(w:World)(s:ag):=((Hx [] (jI w.params) s.heap&&Hy PP s.heap&&Hz s&&HB (jI w.params) s.heap),Fast.tw4187177175401517315 jR loose [] (λ_w=>true) true s,ny (fragOf s.heap))
end
end
section
open PyProof.Rows PySem.Calls
theorem runA_false:∀w os,(go false w os).map (zm w)=some (true,HC jR loose,lj w):=λw os=>by kernel_rfl
theorem runB_false:∀w os,(go false w os).map (λs=>ry (fragOf s.heap))=some rz:=λw os=>by kernel_rfl
theorem runA_true:∀w os,(go true w os).map (zm w)=some (true,HC jR loose,lj w):=λw os=>by kernel_rfl
theorem runB_true:∀w os,(go true w os).map (λs=>ry (fragOf s.heap))=some rz:=λw os=>by kernel_rfl
end
section
open PyProof.Rows PySem.Calls
theorem lookq:Fast.tw12908688711261696721 PySem.Challenge.rw_pq1141_01.row.prog=true:=by kernel_rfl
theorem said_p:Fast.tw2436336058641802641 PySem.Challenge.rw_pq1141_01.row=true:=by
 unfold Fast.tw2436336058641802641;rw[lookq];kernel_rfl
theorem said_r:Fast.tw17960256430627541270 PySem.Challenge.rw_pq1141_01.row=true:=by
 unfold Fast.tw17960256430627541270;rw[said_p];kernel_rfl
theorem said_l:Fast.tw9446332074065402090 PySem.Challenge.rw_pq1141_01=true:=by
 unfold Fast.tw9446332074065402090;rw[show Fast.tw17960256430627541270 (Fast.tw2368527892694137696 PySem.Challenge.rw_pq1141_01)=true from said_r];kernel_rfl
end
section
open PyProof.Rows PySem.Calls
variable{g:G}
noncomputable def frames(l:List Env):List ay:=l.filterMap (·.frame)
inductive CP (g:G) (μ:aO) (h:aK) (e:Env) (L:ay) (m:Str->Option Value):Prop
 |mk (fr:e.frame=some L) (ns:h.Ns L m) (er:¬cj μ L) (nb:g.base.get? L=none)
noncomputable def fA(g:G)(l:List Env)(μ:aO)(h:aK):Prop:=∀e∈l,e.scope.kind≠.module/\ ∃L m,CP g μ h e L m
inductive CQ (g:G) (h:aK) (c:Nat) (a:ay) (cY:Value):Prop
 |mk (ob:∃oe vs a0,h.get? a=some oe/\ oe.cls=.ref (g.iY c)/\ oe.data=.fields vs/\ vs[0]?=some a0/\ vs[1]?=some cY)
inductive K5 (h₀ h:aK) (L a T:ay):Prop
 |mk (ne:T≠a) (new:h₀.get? T=none) (ob:∃oT ts fl,h.get? T=some oT/\ oT.data=.fields ts/\ ts[3]?=some fl/\ (fl=.none \/fl=mU L))
inductive pX (g:G) (h₀ h:aK) (L:ay) (c:Nat) (a:ay):Prop
 |mk (new:h₀.get? a=none) (ob:∃cY,CQ g h c a cY/\ (cY=.none \/ ∃T,cY=.ref T/\ K5 h₀ h L a T))
theorem pX.back{h₀ aY h:aK}{L c a}(x:pX g aY h L c a)(up:∀{b},aY.get? b=none->h₀.get? b=none):pX g h₀ h L c a:=
 ⟨up x.1,x.2.imp λ_w y=>⟨y.1,y.2.imp_right λz=>z.imp λ_w z=>⟨z.1,z.2.1,up z.2.2,z.2.3⟩⟩⟩
theorem zn{h:aK}{L:ay}{m:Str->Option Value}(x:h.Ns L m)(vs:Array Value):¬gW h L vs:=λy=>by
 obtain⟨o,es,ep,ho,hd,_⟩:=x;obtain⟨o',ho',_,n,hd'⟩:=y;cases ho.symm.trans ho';exact nomatch hd.symm.trans hd'
theorem K6{h:aK}{L:ay}{u:Option Value}(x:h.IsCell L u)(vs:Array Value):¬gW h L vs:=λy=>by
 obtain⟨o,ho,hd⟩:=x;obtain⟨o',ho',_,n,hd'⟩:=y;cases ho.symm.trans ho';exact nomatch hd.symm.trans hd'
theorem vM{h:aK}{L:ay}{u:Option Value}(x:h.IsCell L u){m:Str->Option Value}(y:h.Ns L m):False:=by
 obtain⟨o,ho,hd⟩:=x;obtain⟨o',es,ep,ho',hd',_⟩:=y;cases ho.symm.trans ho';exact nomatch hd.symm.trans hd'
section
variable{l:List Env}{μ aF:aO}{h h':aK}{Z:List ay}
theorem fA.jS(F:fA g l μ h){L:ay}(hL:L∈frames l):∃e m,CP g μ h e L m:=by
 obtain⟨e,he,hf⟩:=xS.mp hL;obtain⟨_,L',m,x⟩:=F e he;cases hf.symm.trans x.1;exact⟨e,m,x⟩
theorem fA.rA(F:fA g l μ h):iC h (frames l):=λL hL vs=>(F.jS hL).elim λ_w x=>x.elim λ_w x=>zn x.2 vs
theorem fA.not(F:fA g l μ h){b:ay}(e:h.get? b=none):b∉frames l:=λq=>by
 obtain⟨_,_,x⟩:=F.jS q;obtain⟨o,_,_,ho,_⟩:=x.2;exact none_of ho e
theorem fA.move(F:fA g l μ h)(k:∀L∈frames l,∀m,h.Ns L m->h'.Ns L m)(fr:∀b,cj aF b-> ¬cj μ b->h.get? b=none):fA g l aF h':=λe he=>by
 obtain⟨a,L,m,x⟩:=F e he;exact⟨a,L,m,x.1,k L (xS.mpr ⟨e,he,x.1⟩) m x.2,λq=>by obtain⟨o,_,_,ho,_⟩:=x.2;exact none_of ho (fr L q x.3),x.4⟩
theorem fA.iD(F:fA g l μ h)(x:cH Z [] μ h aF h'):fA g l aF h':=
 F.move (λL hL m hm=>(F.jS hL).elim λ_w y=>y.elim λ_w y=>x.ns hm el y.3) x.4
end
inductive zo (n:Nat) (A:bA):Prop
 |mk (depth:A.depth+4*n+8<l2) (units:A.units+60*n+300<kU)
noncomputable def CR(env:Env)(h:aK)(x:Str)(u:Value):Prop:=
 (env.kindOf x=some .local/\ ∃m,h.Ns env.locals m/\ m x=some u) \/
 ((env.kindOf x=some .cell \/env.kindOf x=some .free)/\ ∃c,env.cells.lookup x=some c/\ h.IsCell c (some u))
noncomputable def own(env:Env):List ay:=env.locals::env.cells.map (·.2)
structure Cfg where
 n:Nat
 A:bA
 bQ:cg
 env:Env
 l:List Env
 L:ay
 ρ:aQ
inductive jT (bQ:cg) (env:Env) (L:ay):Prop
 |mk (kind:env.scope.kind=.function) (glob:env.globals=ix) (CS:env.builtins=pw) (frame:env.frame=some L) (names:env.scope.names=bQ.inner.getD bQ.names) (k8:bQ.names.length<=100) (Xj:ju bQ.names=true/\ ∀ns,bQ.inner=some ns->ju ns=true) (has:∀x,env.kindOf x=some .cell-> ∃c,env.cells.lookup x=some c) (apart:env.cells.Pairwise λx y=>x.2≠y.2)
inductive iF (g:G) (bQ:cg) (env:Env) (L:ay) (ρ:aQ) (μ:aO) (h:aK):Prop
 |mk (k:jT bQ env L) (ns:∃m,h.Ns env.locals m) (cells:∀c∈env.cells,∃u,h.IsCell c.2 u) (off:∀b∈own env,¬cj μ b/\ g.base.get? b=none) (slots:∀{x i v},bQ.slot i=some x->ρ i=some v-> ∃u,CR env h x u/\ bf g μ h v u)
section
variable{bQ:cg}{env:Env}{L:ay}{ρ:aQ}{μ aF:aO}{h h':aK}{Z:List ay}
theorem iF.live(V:iF g bQ env L ρ μ h):∀b∈own env,∃o,h.get? b=some o:=by
 refine c1.mpr ⟨?_,xT.mpr λc hc=>?_⟩
 ·obtain⟨m,o,_,_,ho,_⟩:=V.2;exact⟨o,ho⟩
 ·obtain⟨u,o,ho,_⟩:=V.3 c hc;exact⟨o,ho⟩
theorem iF.rA(V:iF g bQ env L ρ μ h):iC h (own env):=by
 refine c1.mpr ⟨λvs=>?_,xT.mpr λc hc vs=>?_⟩
 ·obtain⟨m,hm⟩:=V.2;exact zn hm vs
 ·obtain⟨u,hu⟩:=V.3 c hc;exact K6 hu vs
theorem iF.move(V:iF g bQ env L ρ μ h)(x:Ext μ h aF h')(pY:∀m,h.Ns env.locals m->h'.Ns env.locals m)
  (kc:∀c∈env.cells,∀u,h.IsCell c.2 u->h'.IsCell c.2 u)(fr:∀b,cj aF b-> ¬cj μ b->h.get? b=none):iF g bQ env L ρ aF h':=.mk
 (V.1)
 (V.2.imp pY)
 (λc hc=>(V.3 c hc).imp (kc c hc))
 (λb ae=>⟨λq=>(V.live b ae).elim λo ho=>none_of ho (fr b q (V.4 b ae).1),(V.4 b ae).2⟩)
 (λe1 e2=>by
  obtain⟨u,hu,ai⟩:=V.5 e1 e2
  exact⟨u,hu.imp (λq=>⟨q.1,q.2.imp λm z=>⟨pY m z.1,z.2⟩⟩) λq=>⟨q.1,q.2.imp λc z=>⟨z.1,kc _ (jJ z.1) _ z.2⟩⟩,ai.ext x⟩)
theorem iF.iD(V:iF g bQ env L ρ μ h)(x:cH Z [] μ h aF h'):iF g bQ env L ρ aF h':=
 V.move (x.ext .nil) (λm hm=>x.ns hm el (V.4 _ (.head _)).1) (λc hc u hu=>x.cell hu el (V.4 _ (.tail _ (uI hc))).1) x.4
end
inductive bo (g:G) (l:List Env) (μ:aO) (s:ag) (aF:aO) (s':ag) (σ':ah):Prop
 |mk (iD:cH (frames l) [] μ s.heap aF s'.heap) (sim:br g aF σ' s'.heap) (eq:s'={s with heap:=s'.heap,toks:=s'.toks})
theorem bo.trans{l:List Env}{μ eJ kl:aO}{s aH bL:ag}{gk i8:ah}(x:bo g l μ s eJ aH gk)(y:bo g l eJ aH kl bL i8):bo g l μ s kl bL i8:=
 ⟨x.1.trans y.1,y.2,by rw[y.3,x.3]⟩
noncomputable abbrev nz(g:G)(μ:aO)(h:aK)(x:af):{m:Bool}->Res m->Prop
 |false,v=>bf g μ h x v
 |true,b=>x=.bool b
inductive fi (g:G) (l:List Env) (μ:aO) (s:ag) {m:Bool} (k:eH) (Q:Res m->ag->Prop):Prop
 |mk (ok:∀{v x aF s' σ'},bo g l μ s aF s' σ'->nz g aF s'.heap x v->(k x σ').P->Q v s')
inductive vN (g:G) (l:List Env) (μ:aO) (s:ag) (k:List af->ah->Ask) (Q:List Value->ag->Prop):Prop
 |mk (ok:∀{vs xs aF s' σ'},bo g l μ s aF s' σ'->bC g aF s'.heap xs vs->(k xs σ').P->Q vs s')
inductive iG (g:G) (l:List Env) (L:ay) (μ:aO) (s:ag) (e:kZ) (E:Value->ag->Prop):Prop
 |mk (ok:∀{a c aF s' σ'},bo g l μ s aF s' σ'->pX g s.heap s'.heap L c a->e c σ'->E (.ref a) s')
section
variable{l:List Env}{L:ay}{μ aF:aO}{s s':ag}{σ':ah}(x:bo g l μ s aF s' σ')
include x
theorem fi.at_{m:Bool}{k:eH}{Q:Res m->ag->Prop}(q:fi g l μ s k Q):fi g l aF s' k Q:=⟨λy=>q.1 (x.trans y)⟩
theorem vN.at_{k:List af->ah->Ask}{Q:List Value->ag->Prop}(q:vN g l μ s k Q):vN g l aF s' k Q:=⟨λy=>q.1 (x.trans y)⟩
theorem iG.at_{e:kZ}{E:Value->ag->Prop}(q:iG g l L μ s e E):iG g l L aF s' e E:=⟨λy z=>q.1 (x.trans y) (z.back x.1.old)⟩
end
structure Bs(g:G)(A:bA)(l:List Env)(μ:aO)(σ:ah)(h:aK):Prop where
 sim:br g μ σ h
 iH:fA g l μ h
 dE:A.frames=some l
 aZ:A.handled=none
noncomputable def vO(g:G)(n:Nat):Prop:=∀{f xs vs σ A l L μ s Q E}{k:cR}{e:kZ},Bs g A l μ σ s.heap->A.depth+4*n+6<l2->A.units+60*n+250<kU->bC g μ s.heap xs vs->bH fn bk bl n f xs σ k e->fi (m:=false) g l μ s (λv σ=>.fin (k v σ)) Q->iG g l L μ s e E->
 d2 (aD g.prog g.w) A (.call (.ref (g.d1 f)) ⟨vs,[]⟩) (λr s'=>match r with|.ok (.ret v)=>Q v s'|.ok _=>False|.error e=>E e s') s
structure Cx(g:G)(W:Cfg)(μ:aO)(σ:ah)(h:aK):Prop extends Bs g W.A W.l μ σ h where
 env:iF g W.bQ W.env W.L W.ρ μ h
 lv:zo W.n W.A
 calls:vO g W.n
theorem Cx.at_{W:Cfg}{μ aF:aO}{σ σ':ah}{s s':ag}(C:Cx g W μ σ s.heap)(x:bo g W.l μ s aF s' σ'):Cx g W aF σ' s'.heap:=
 ⟨⟨x.2,C.iH.iD x.1,C.dE,C.aZ⟩,C.env.iD x.1,C.lv,C.calls⟩
noncomputable def vP(m:Bool)(k:eH):Prop:=m=true-> ∀{x σ'},(k x σ').P-> ∃b,x=.bool b
noncomputable def bn(g:G)(x:X):Prop:=∀{W:Cfg}{ck e:aL},re W.bQ x ck=some e-> ∀{m:Bool}{μ σ s K P st}{Q:Res m->ag->Prop}{E},Cx g W μ σ s.heap->(cc (TT W.n) x K P st W.ρ σ).P->fi g W.l μ s (jq K st W.ρ) Q->vP m (jq K st W.ρ)->iG g W.l W.L μ s (hU P W.ρ) E->
 au (aD g.prog g.w) W.A (run m e W.env) Q E s
end
section
open PyProof.Rows PySem.Calls
variable{g:G}
theorem th{b:Int}(h: -18446744073709551616<b/\ b<18446744073709551616):b.natAbs<2^64:=B4 h
theorem CT{a b:Int}(ae:b.natAbs<2^64):Builtin.divisionGoesByPylong a b=false:=by
 unfold Builtin.divisionGoesByPylong;have:(if(b==0)=true then 0 else b.natAbs.log2/30+1)<=300:=by
  split
  ·exact(bE λaq=>bj.go .o (.c 1 (.a (.n 300) (.n 1)) (.n 0) .o) rfl aq)
  ·rename_i h;have:=(Nat.log2_lt (by simpa using h)).mpr ae;exact(bE λaq=>bj.go (.c _ (.c _ (.c _ .o))) (.c 1 (.a (.v 0) (.n 1)) (.n 64) (.c 30 (.a (.n 300) (.n 1)) (.a (.v 1) (.n 1)) (.c 1 (.a (.m 30 (.v 1)) (.v 2)) (.v 0) .o))) rfl this aq (bb (Uc _ _)))
 simp only[Bool.and_eq_false_imp,decide_eq_true_eq];exact λh=>absurd h (uJ.mpr this)
theorem CU{a b:Int}(h:0<=b/\ b<=1000/\ -18446744073709551616<a/\ a<18446744073709551616):(Builtin.Int.intBits a:Int)*b<=64*1000:=
 Int.mul_le_mul (aX.mpr (PySem.intBits_le_iff.mpr (th h.2.2))) h.2.1 h.1 (by decide)
section
variable{A:bA}{E:Value->ag->Prop}{s:ag}{a b:Int}{t u:Tok}{Q:Value->ag->Prop}{F:eS}
theorem K7:∀{op:gZ},(vj op a b F).P->(∀c tk t',(F (.int c)).P->Q (.int c t') {s with toks:=tk})->aN (aD g.prog g.w) A (Ba (pT op) (.int a t) (.int b u)) Q E s:=by
 intro op;cases op with
 |add=>
  intro p h;exact PyProof.Rows.add_int (h _ _ _ p)
 |sub=>
  intro p h;exact sub_int' (h _ _ _ p)
 |mul=>
  intro p h;exact PyProof.Rows.mul_int (h _ _ _ p.2) p.1
 |fdiv=>
  intro p h;exact PyProof.Rows.floordiv_int p.1.1 (h _ _ _ p.2) (.inl (CT (th p.1.2)))
 |mod=>
  intro p h;exact mod_int' p.1.1 (h _ _ _ p.2)
 |pow=>
  intro p h;exact PyProof.Rows.pow_int p.1.1 (bG (CU p.1) (by decide)) (h _ _ _ p.2)
 |band=>
  intro p h;exact PyProof.Rows.and_int (h _ _ _ p)
 |bor=>
  intro p h;exact PyProof.Rows.or_int (h _ _ _ p)
 |shl=>
  intro p h;exact PyProof.Rows.lshift_int_small p.1.1 p.1.2.1 (th p.1.2.2) (h _ _ _ p.2)
 |shr=>
  intro p h;exact PyProof.Rows.rshift_int p.1 (h _ _ _ p.2)
theorem K8:∀{op:gZ},(vj op a b F).P->(∀c tk t',(F (.int c)).P->Q (.int c t') {s with toks:=tk})->aN (aD g.prog g.w) A (Bi (pT op) (.int a t) (.int b u)) Q E s:=by
 intro op;cases op with
 |add=>
  intro p h;exact PyProof.Rows.iadd_int (h _ _ _ p)
 |sub=>
  intro p h;exact PyProof.Rows.isub_int (h _ _ _ p)
 |mul=>
  intro p h;exact PyProof.Rows.imul_int (h _ _ _ p.2) p.1
 |fdiv=>
  intro p h;exact PyProof.Rows.ifloordiv_int p.1.1 (h _ _ _ p.2) (.inl (CT (th p.1.2)))
 |mod=>
  intro p h;exact PyProof.Rows.imod_int p.1.1 (h _ _ _ p.2)
 |pow=>
  intro p h;exact PyProof.Rows.ipow_int p.1.1 (bG (CU p.1) (by decide)) (h _ _ _ p.2)
 |band=>
  intro p h;exact PyProof.Rows.iand_int (h _ _ _ p)
 |bor=>
  intro p h;exact PyProof.Rows.ior_int (h _ _ _ p)
 |shl=>
  intro p h;exact PyProof.Rows.ilshift_int_small p.1.1 p.1.2.1 (th p.1.2.2) (h _ _ _ p.2)
 |shr=>
  intro p h;exact PyProof.Rows.irshift_int p.1 (h _ _ _ p.2)
end
theorem d3(h:aK):h.get? h.objs.size=none:=qS (bI _)
section
variable{l:List Env}{μ:aO}{s:ag}{σ:ah}
theorem bo.tok(S:br g μ σ s.heap)(tk:Nat):bo g l μ s μ {s with toks:=tk} σ:=⟨.refl,S,rfl⟩
theorem bo.new(S:br g μ σ s.heap){o:cv}{ob:Obj}(tk:Nat)(H:∀{aF},Ext μ s.heap aF (s.heap.push ob)->eT g aF (s.heap.push ob) (s.heap.objs.size,s.heap.objs.size) o):
  ∃aF,bo g l μ s aF {s with heap:=s.heap.push ob,toks:=tk} (σ.push o)/\ bf g aF (s.heap.push ob) (.loc σ.next) (.ref s.heap.objs.size):=by
 have F:cH (frames l) [] μ s.heap (μ++[(s.heap.objs.size,s.heap.objs.size)]) (s.heap.push ob):=.alloc (d7 ob) (d3 _) (d3 _);exact⟨_,⟨F,S.alloc (d7 ob) (d3 _) (d3 _) (H (F.ext .nil)),rfl⟩,(_,_),by rw[<-S.1,pt (bI _),oo];rfl,rfl⟩
theorem bo.list(S:br g μ σ s.heap){vs:List Value}{xs:List af}(ai:bC g μ s.heap xs vs)(n tk:Nat):
  ∃aF,bo g l μ s aF {s with heap:=s.heap.push {cls:=.type "list",data:=.seq vs.toArray n},toks:=tk} (σ.push (.list xs))/\ bf g aF (s.heap.push {cls:=.type "list",data:=.seq vs.toArray n}) (.loc σ.next) (.ref s.heap.objs.size):=
 bo.new S tk λx=>⟨rfl,vs,n,gX _ rfl,ai.ext x⟩
theorem br.at_{h:aK}(S:br g μ σ h){i:Nat}{v:Value}(ai:bf g μ h (.loc i) v):∃p,μ[i]?=some p/\ v=.ref p.1/\ eT g μ h p (σ.get i):=ai.imp λp q=>⟨q.1,q.2,S.5 i p q.1⟩
theorem br.listAt{h:aK}(S:br g μ σ h){i:Nat}{v:Value}{xs:List af}(ai:bf g μ h (.loc i) v)(e:σ.get i=.list xs):∃p vs n,μ[i]?=some p/\ v=.ref p.1/\ p.2=p.1/\ IsL h p.1 vs.toArray n/\ bC g μ h xs vs:=by
 refine ao λG z=>?_;obtain⟨p,aa,h2,h3⟩:=S.at_ ai
 refine z ?_;clear z G;rw[e]at h3;obtain⟨q,vs,n,a,b⟩:=h3;exact⟨p,vs,n,aa,h2,q,a,b⟩
end
theorem K9{A:bA}{E:Value->ag->Prop}{s:ag}{l b:ay}{vs ws:List Value}{n cS:Nat}{Q:Value->ag->Prop}(ho:IsL s.heap l vs.toArray n)(ho2:IsL s.heap b ws.toArray cS)
  (h:Q (.ref s.heap.objs.size) {s with heap:=s.heap.push {cls:=.type "list",data:=.seq (vs++ws).toArray}})(hsz:vs.length+ws.length<=d0):
  aN (aD g.prog g.w) A (Ba .Add (.ref l) (.ref b)) Q E s:=by
 refine concat_meets ⟨_,ho,rfl⟩ ⟨_,ho2,rfl⟩ noFill_list_add seq_list_add PySem.F.slot_list_add PySem.F.entry_list_add (PySem.F.args_list_add_2 _ _) (list_addW l b vs.toArray ws.toArray n cS none none #[] #[] hsz) ⟨ho,ho2,?_⟩;rw[show vs.toArray++ws.toArray=(vs++ws).toArray from xU ..];exact h
theorem La(a b:String):aI a++aI b=aI (a++b):=by
 rw[ou,ou,ou];apply Str.ext';simp[Str.cps_append]
theorem jU{v:af}{F:Nat->Ask}:(fP v F).P-> ∃i,v=.loc i/\ (F i).P:=by
 cases v with
 |loc i=>exact λp=>⟨i,rfl,p⟩
 |_=>exact False.elim
theorem pZ{o:cv}{F:List af->Ask}:(isList F o).P-> ∃xs,o=.list xs/\ (F xs).P:=by
 cases o with
 |list xs=>exact λp=>⟨xs,rfl,p⟩
 |_=>exact False.elim
end
section
open PyProof.Rows PySem.Calls
variable{g:G}
theorem jx{v:af}{F:Int->Ask}:(dS v F).P-> ∃i,v=.int i/\ (F i).P:=by
 cases v with
 |int i=>exact λp=>⟨i,rfl,p⟩
 |_=>exact False.elim
theorem rB{v:af}{F:String->Ask}:(onStr v F).P-> ∃i,v=.str i/\ (F i).P:=by
 cases v with
 |str i=>exact λp=>⟨i,rfl,p⟩
 |_=>exact False.elim
theorem zp{v:af}{F:List UInt8->Ask}:(onBytes v F).P-> ∃i,v=.bytes i/\ (F i).P:=by
 cases v with
 |bytes i=>exact λp=>⟨i,rfl,p⟩
 |_=>exact False.elim
theorem mv{v:af}{A B:Ask}:(vh v A B).P-> ∃b,v=.bool b/\ (match b with|true=>A.P|false=>B.P):=by
 cases v with
 |bool b=>exact λp=>⟨b,rfl,p⟩
 |_=>exact False.elim
theorem fj:1000000<=d0:=by rw[sizeLine_eq];decide
theorem vQ{op:gZ}{B:Ask}:Ask.P (match op with|.add=>B|_=>.no)->op=.add/\ B.P:=by
 cases op with
 |add=>exact λp=>⟨rfl,p⟩
 |_=>exact False.elim
section
variable{A:bA}{E:Value->ag->Prop}{l:List Env}{μ:aO}{s:ag}{σ:ah}{v w:Value}{x y:af}{Q:Value->ag->Prop}{F:eH}
theorem Lb(S:br g μ σ s.heap){op:gZ}(ai:bf g μ s.heap x v)(hw:bf g μ s.heap y w)(p:(B9 op x y σ F).P)(q:fi (m:=false) g l μ s F Q):aN (aD g.prog g.w) A (Ba (pT op) v w) Q E s:=by
 cases x with
 |int a=>
  obtain⟨b,rfl,p⟩:=jx p;obtain⟨t,rfl⟩:=ai;obtain⟨u,rfl⟩:=hw;exact K7 (F:=λv=>F v σ) p λc tk t'=>q.1 (x:=.int c) (.tok S tk) ⟨t',rfl⟩
 |str a=>
  obtain⟨rfl,p⟩:=vQ p;obtain⟨b,rfl,h,p⟩:=rB p;obtain⟨t,rfl⟩:=ai;obtain⟨u,rfl⟩:=hw;refine PyProof.Rows.add_str (λt' tk=>q.1 (x:=.str (a++b)) (.tok S tk) ⟨t',by rw[La]⟩ p) ?_;rw[PySem.ofString_length,PySem.ofString_length];exact aB h fj
 |bytes a=>
  obtain⟨rfl,p⟩:=vQ p;obtain⟨b,rfl,h,p⟩:=zp (v:=y) p;obtain⟨t,rfl⟩:=ai;obtain⟨u,rfl⟩:=hw;exact KBy.add_bytes (aB h (by decide)) λt' tk=>q.1 (x:=.bytes (a++b)) (.tok S tk) ⟨t',by rw[xU]⟩ p
 |loc a=>
  obtain⟨rfl,p⟩:=vQ p;obtain⟨b,rfl,p⟩:=jU p;obtain⟨xs,e1,p⟩:=pZ p;obtain⟨ys,e2,h,p⟩:=pZ p;obtain⟨_,vs,_,_,rfl,_,aa,v1⟩:=S.listAt ai e1;obtain⟨_,ws,_,_,rfl,_,h2,v2⟩:=S.listAt hw e2;obtain⟨aF,st,r⟩:=bo.list (l:=l) S (v2.append v1) 0 s.toks;refine K9 aa h2 (q.1 st r p) ?_;rw[v1.length,v2.length];exact aB h fj
 |_=>exact(vQ p).2.elim
end
theorem b8{α β:Type}{o:Option α}{f:α->Option β}{y:β}(h:o.bind f=some y):∃x,o=some x/\ f x=some y:=HD.mp h
theorem dZ{α β:Type}{o:Option α}{f:α->β}{y:β}(h:o.map f=some y):∃x,o=some x/\ f x=y:=su.mp h
theorem gN{α:Type}{b:Bool}{x y:α}(h:(bif b then some x else none)=some y):b=true/\ x=y:=by
 cases b with
 |true=>exact⟨rfl,cW h⟩
 |false=>exact cU h
theorem gm{e:aL}{W:Cfg}{m:Bool}{μ:aO}{s:ag}{k:eH}{Q:Res m->ag->Prop}{E:Value->ag->Prop}(he:∀whole,l1 e W.env whole=(do let v<-whole;kR e.pos;hJ [v] (Hm v)))(hq:fi g W.l μ s k Q)(ae:vP m k)
  (H:∀{Q':Value->ag->Prop},fi (m:=false) g W.l μ s k Q'->au (aD g.prog g.w) W.A (bY e W.env) Q' E s):au (aD g.prog g.w) W.A (run m e W.env) Q E s:=by
 cases m with
 |false=>exact H hq
 |true=>exact KP he (H ⟨λ{v x aF s' σ'} st ai p=>(ae rfl p).elim λb e=>⟨b,(e▸ai:bf g aF s'.heap (.bool b) v),hq.1 st e p⟩⟩)
end
section
open PyProof.Rows PySem.Calls
variable{g:G}
inductive CV(g:G)(c:Nat):Prop
 |mk (get:plainGet g.K (g.ca c) ""=true) (hd:hasDictIn g.K (g.ca c)=true) (makes:Hv g.K (g.ca c)=true) (bl:∀f,Mine.Tactic.bl c=some f->eG g.K (.ref (g.ca c)) "__init__"=some (some (.ref (g.d1 f)))/\ Bj g.K (.ref (g.d1 f))=some (.type "function")) (zq:eG g.K (.ref (g.ca c)) "__setattr__"=some (some (.builtin "object.__setattr__"))) (po:plainOver g.K (g.ca c)=true) (fld:∀n,Mine.Tactic.fld c n=true->eG g.K (.ref (g.ca c)) (aI (cZ n))=some none) (bk:∀m f,Mine.Tactic.bk c m=some f->eG g.K (.ref (g.ca c)) (ro m)=some (some (.ref (g.d1 f)))/\ Bj g.K (.ref (g.d1 f))=some (.type "function")/\ (∀n,Mine.Tactic.fld c n=true->ro m≠aI (cZ n))/\ jH g.K (.ref (g.d1 f))=true) (call:jH g.K (.ref (g.ca c))=true)
inductive c0 (g:G):Prop
 |mk (cK:g.base.Ns ix g.mg) (ae:g.base.Ns pw g.mb) (lim:g.base.NoLimit) (boot:∀x:Str,x≠"__name__"->g.mb x=xV x) (Xk:∀k,lT k 7=true-> ∃v,g.mg (aI (pG k))=some v/\ bf g [] g.base (B8 k) v) (fns:∀f x,oY[f]?=some x->x≠""->g.mg (aI x)=some (.ref (g.d1 f))) (cls:∀f x,cnames[f]?=some x->g.mg (aI x)=some (.ref (g.ca f))) (Xl:∀f x,cnames[f]?=some x->(Mine.Tactic.bl f).isSome=true) (exc:∀f x,rn[f]?=some x->g.mg (aI x)=some (.ref (g.iY f))) (bare:∀x:String,x∈["len","bytes","bytearray","sum","abs","list","tuple","int","ord","range","enumerate","zip"]->g.mg (aI x)=none) (mods:∃o,g.base.get? sv=some o) (nums:∃vs:List Value,g.base.DictOf (qN g.prog g.w) g.nm ((mq.map λe=>aI e.1).zip vs)/\ bC g [] g.base (mq.map λe=>.str e.2) vs) (Xm:g.nm≠sv) (Xn:qQ g.K (.type "int") (.type "type") (aI "from_bytes")=some (.get (.builtin "classmethod_descriptor.__get__") (.builtin "int.from_bytes") .none (.type "int"))) (vk:g.K.In g.base) (classes:∀c,(Mine.Tactic.bl c).isSome=true->CV g c) (defs:∀f x,oY[f]?=some x->jH g.K (.ref (g.d1 f))=true)
theorem br.CW{μ:aO}{σ:ah}{h:aK}(S:br g μ σ h):Ext [] g.base μ h:=
 ⟨List.nil_prefix,λ{a vs} H=>⟨H.1.imp λo z=>⟨S.2 _ _ z.1,z.2⟩,λq=>by
  obtain⟨p,hp,e⟩:=q
  obtain⟨o,ho,_⟩:=H.1
  exact e.elim (λe=>none_of ho (e▸(S.3 p hp).1)) λe=>none_of ho (e▸(S.3 p hp).2)⟩⟩
theorem bV{a b:Bool}(h:(a&&b)=true):a=true/\ b=true:=by cases a<;>cases b<;>first|exact⟨rfl,rfl⟩|exact ci h
section
variable{W:Cfg}{μ:aO}{σ:ah}{s:ag}{E:Value->ag->Prop}{x:Str}{p:Pos}{v:Value}{Q:Value->ag->Prop}{e:aL}
theorem vR{x:Str}(h:mr x=true):(x==("__debug__":Str))=false/\ (x==("__classdict__":Str))=false:=by
 obtain⟨a,b⟩:=bV h;exact⟨ow _▸a,ow _▸b⟩
theorem ti{A:bA}(K:c0 g)(C:Cx g W μ σ s.heap){y:String}(h:W.bQ.glob y p=some e)(ai:g.mg (aI y)=some v)(hq:Q v s):au (aD g.prog g.w) A (bY e W.env) Q E s:=by
 obtain⟨aa,rfl⟩:=gN h;obtain⟨a,b⟩:=bV aa;have k:W.env.kindOf (aI y)=some .globalImplicit:=by unfold uK;rw[C.env.1.5];exact beq_iff_eq.mp a
 exact aT<|Name_function_global C.env.1.1 k (Ud (mg:=g.mg) (by rw[C.env.1.2];exact K.1.keeps C.sim.2) ai hq) (vR b).1
theorem zt(K:c0 g)(C:Cx g W μ σ s.heap){y:String}(h:W.bQ.glob y p=some e)(hn:g.mg (aI y)=none)(hy:aI y≠"__name__")(ai:xV (aI y)=some v)(hq:Q v s):au (aD g.prog g.w) W.A (bY e W.env) Q E s:=by
 obtain⟨aa,rfl⟩:=gN h;obtain⟨a,b⟩:=bV aa;have k:W.env.kindOf (aI y)=some .globalImplicit:=by unfold uK;rw[C.env.1.5];exact beq_iff_eq.mp a
 exact aT<|Name_function_global C.env.1.1 k (Ue (mg:=g.mg) (mb:=g.mb) (by rw[C.env.1.2];exact K.1.keeps C.sim.2) hn (by rw[C.env.1.3];exact K.2.keeps C.sim.2) ((K.4 _ hy).trans ai) hq) (vR b).1
end
end
section
open PyProof.Rows PySem.Calls
variable{g:G}
theorem Lc(v:af):bn g (.lit v):=by
 intro W ck e h m μ σ s K P st Q E C p q ae aW;obtain⟨c,hc,rfl⟩:=dZ h;refine gm (λ_w=>rfl) q ae λ{Q'} q=>?_;have q:=λ{v' tk}(r:bf g μ s.heap v v')=>q.1 (x:=v) (.tok C.sim tk) r p;cases v with
 |none=>cases hc;exact aT (Uf (q rfl))
 |bool b=>cases hc;exact aT (Constant_bool (q rfl))
 |int i=>cases hc;exact aT (Ug (q ⟨_,rfl⟩))
 |str s=>cases hc;exact aT (show aN _ _ (HE _) _ _ _ from Bk (q ⟨_,rfl⟩))
 |bytes b=>cases hc;exact aT (show aN _ _ (HF _) _ _ _ from aE (Uh (bw (q ⟨_,rfl⟩))))
 |_=>exact cU hc
theorem CX{c:cg}{i:Nat}{x:Str}(h:c.slot i=some x):mr x=true:=by
 unfold cg.slot at h;have one:∀{a:Bool}{y:Str},(bif a&&mr y then some y else none)=some x->mr x=true:=λ{a y} h=>by
  obtain⟨aa,rfl⟩:=gN h;exact(bV aa).2
 cases ao:c.inner with
 |none=>rw[ao]at h;obtain⟨_,_,h⟩:=b8 h;exact one h
 |some ns=>
  rw[ao]at h;cases ae:df 100 i with
  |true=>simp only[ae,cond_true]at h;obtain⟨_,_,h⟩:=b8 h;exact one h
  |false=>simp only[ae,cond_false]at h;obtain⟨_,_,h⟩:=b8 h;exact one h
theorem CY{W:Cfg}{μ:aO}{σ:ah}{s:ag}{E:Value->ag->Prop}{Q:Value->ag->Prop}(C:Cx g W μ σ s.heap){x:Str}{i:Nat}{v:af}(ak:W.bQ.slot i=some x)(hw:W.ρ i=some v)(H:∀{u},bf g μ s.heap v u->Q u s):aN (aD g.prog g.w) W.A (loadName W.env x) Q E s:=by
 obtain⟨u,hu,ai⟩:=C.env.5 ak hw;have q:=H ai;have k:=C.env.1.1;rcases hu with⟨a,m,hm,e⟩|⟨a|a,c,hc,e⟩
 ·exact xW k a hm e q
 ·exact wpAny_loadName_cell k a hc e q
 ·exact wpAny_loadName_free k a hc e q (vR (CX ak)).2
theorem Ld(i:Nat):bn g (.var i):=by
 intro W ck e h m μ σ s K P st Q E C p q ae aW;obtain⟨x,ak,rfl⟩:=dZ h;obtain⟨w,hw,p⟩:=p;exact gm (λ_w=>rfl) q ae λ{Q'} q=>aT (xX (CY C ak hw λai=>q.1 (.tok C.sim s.toks) ai p) (vR (CX ak)).1)
theorem Le{op:gZ}{a b:X}(aM:bn g a)(ae:bn g b):bn g (.bin op a b):=by
 intro W ck e h m μ σ s K P st Q E C p q hb' aW;obtain⟨l,aa,h⟩:=b8 h;obtain⟨r,h2,rfl⟩:=dZ h;refine gm (λ_w=>rfl) q hb' λ{Q'} q=>KO ?_;exact aM (m:=false) aa C p ⟨λs1 v1 p=>ae (m:=false) h2 (C.at_ s1) p ⟨λs2 v2 p=>aT (Lb s2.2 (v1.ext (s2.1.ext .nil)) v2 p (q.at_ (s1.trans s2)))⟩ ci (aW.at_ s1)⟩ ci aW
end
section
open PyProof.Rows PySem.Calls
variable{g:G}
theorem Lf(KK:c0 g)(k:Nat):bn g (.fz k):=by
 intro W ck e h m μ σ s K P st Q E C p q ae aW;have h:(bif lT k 7 then W.bQ.glob (pG k) ck.pos else none)=some e:=h;cases az:lT k 7 with
 |false=>rw[az]at h;exact cU h
 |true=>
  rw[az]at h;obtain⟨v,aa,h2⟩:=KK.5 k az;have he:∃y,e=.Name y ck.pos:=(gN h).2▸⟨_,rfl⟩;obtain⟨y,rfl⟩:=he;exact gm (λ_w=>rfl) q ae λ{Q'} q=>ti KK C h aa (q.1 (.tok C.sim s.toks) (h2.ext C.sim.CW) p)
theorem Lg{a:X}(aM:bn g a):bn g (.neg a):=by
 intro W ck e h m μ σ s K P st Q E C p q ae aW;obtain⟨l,aa,rfl⟩:=dZ h;refine gm (λ_w=>rfl) q ae λ{Q'} q=>UnaryOp_ (aM (m:=false) aa C p ⟨λs1 v1 p=>?_⟩ ci aW);obtain⟨i,rfl,p⟩:=jx p;obtain⟨t,rfl⟩:=v1;exact aT (PyProof.Rows.neg_int (q.1 (x:=.int (-i)) (s1.trans (.tok s1.2 _)) ⟨_,rfl⟩ p))
theorem nz.b{μ:aO}{h:aK}{b:Bool}:∀{m:Bool},nz g μ h (.bool b) (pO m b):=by
 intro m;cases m with
 |false=>
  exact rfl
 |true=>
  exact rfl
theorem nz.bool{μ:aO}{h:aK}{b:Bool}:∀{m:Bool}{r:Res m},nz g μ h (.bool b) r->r=pO m b:=by
 intro m;cases m with
 |false=>
  intro _ e;exact e
 |true=>
  intro _ e;cases e;rfl
theorem tj{qa qb:bt}{st:List af}{ρ:aQ}{m:Bool}:vP m (jq (pJ qa qb) st ρ):=λ_w{x σ'} p=>(mv p).elim λb e=>⟨b,e.1⟩
theorem Lh{a:X}(aM:bn g a):bn g (.not a):=by
 intro W ck e h m μ σ s K P st Q E C p q ae aW;obtain⟨l,aa,rfl⟩:=dZ h;refine KQ (aM (m:=m) aa C p ⟨λ{v x aF s' σ'} s1 v1 p=>?_⟩ tj aW);obtain⟨b,rfl,p⟩:=mv p;exact⟨b,v1.bool,q.1 s1 .b (by cases b<;>exact p)⟩
theorem Li{c a b:X}(hc:bn g c)(aM:bn g a)(hb':bn g b):bn g (.ite c a b):=by
 intro W ck e h m μ σ s K P st Q E C p q ae aW;obtain⟨t,h0,h⟩:=b8 h;obtain⟨l,aa,h⟩:=b8 h;obtain⟨r,h2,rfl⟩:=dZ h;refine KS (hc (m:=true) h0 C p ⟨λ{v x aF s' σ'} s1 v1 p=>?_⟩ tj aW);obtain⟨b,rfl,p⟩:=mv p;obtain rfl:=nz.bool v1;have C:=C.at_ s1
 have aW:=aW.at_ s1
 have q:=q.at_ s1
 cases v with
 |true=>exact aM (m:=m) aa C p q ae aW
 |false=>exact hb' (m:=m) h2 C p q ae aW
end
section
open PyProof.Rows PySem.Calls
variable{g:G}
noncomputable def CZ(f:aL->Option aL)(l:aL)(o:BoolOp)(e:aL):Prop:=
 (∃y r p,f y=some r/\ e=.BoolOp o [l,r] p) \/ ∃y z zs q,f y=some (.BoolOp o (z::zs) q)/\ e=.BoolOp o (l::z::zs) q
theorem Lj{o:BoolOp}{l r e:aL}(h:((CB r).bind λo'=>bif vA o==vA o' then CA l r else none)=some e):∃z zs q,r=.BoolOp o (z::zs) q/\ e=.BoolOp o (l::z::zs) q:=by
 cases r with
 |BoolOp o' zs q=>
  cases zs with
  |nil=>cases o<;>cases o'<;>exact cU h
  |cons z zs=>cases o<;>cases o'<;>first|exact⟨z,zs,q,rfl,(cW h).symm⟩|exact cU h
 |_=>exact cU h
theorem C0{f:aL->Option aL}{l:aL}{o:BoolOp}{p:Pos}{zs:List aL}{e:aL}(h:rows f l o p zs=some e):CZ f l o e:=by
 cases zs with
 |nil=>exact cU h
 |cons y ys=>
  cases ys with
  |nil=>obtain⟨r,aa,rfl⟩:=dZ h;exact .inl ⟨y,r,p,aa,rfl⟩
  |cons y' ys=>
   obtain⟨r,aa,h⟩:=b8 h;obtain⟨z,zs,q,rfl,rfl⟩:=Lj h;exact .inr ⟨_,z,zs,q,aa,rfl⟩
theorem C4{a b:X}{o:BoolOp}(aM:bn g a)(hb':bn g b){W:Cfg}{ck e l:aL}(aa:re W.bQ a ck=some l)(h:CZ (re W.bQ b) l o e){m:Bool}{μ σ s K P st}{Q:Res m->ag->Prop}{E}(C:Cx g W μ σ s.heap){qa qb:bt}
  (p:(cc (TT W.n) a (pJ qa qb) P st W.ρ σ).P)(az:∀v ρ σ,(match v with|true=>(qa st ρ σ).P|false=>(qb st ρ σ).P)->Cu o v (cc (TT W.n) b K P st ρ σ).P (K (.bool v::st) ρ σ).P)(q:fi g W.l μ s (jq K st W.ρ) Q)(ae:vP m (jq K st W.ρ))(aW:iG g W.l W.L μ s (hU P W.ρ) E):
  au (aD g.prog g.w) W.A (run m e W.env) Q E s:=by
 rcases h with⟨y,r,_,h2,rfl⟩|⟨y,z,zs,_,h2,rfl⟩
 ·refine Cv (aM (m:=m) aa C p ⟨λ{v x aF s' σ'} s1 v1 p=>?_⟩ tj aW);obtain⟨b,rfl,p⟩:=mv p;have p:=az _ _ _ p;refine⟨b,v1.bool,?_⟩;have t:=λp=>KR (o:=o) (pos:= ‹Pos›) (hb' (m:=m) h2 (C.at_ s1) p (q.at_ s1) ae (aW.at_ s1));have f:=λp=>q.1 (x:=.bool b) s1 .b p;cases o<;>cases b<;>first|exact t p|exact f p
 ·refine Cv (aM (m:=m) aa C p ⟨λ{v x aF s' σ'} s1 v1 p=>?_⟩ tj aW);obtain⟨b,rfl,p⟩:=mv p;have p:=az _ _ _ p;refine⟨b,v1.bool,?_⟩;have t:=λp=>hb' (m:=m) h2 (C.at_ s1) p (q.at_ s1) ae (aW.at_ s1);have f:=λp=>q.1 (x:=.bool b) s1 .b p;cases o<;>cases b<;>first|exact t p|exact f p
theorem Lk{a b:X}(aM:bn g a)(hb':bn g b):bn g (.and a b):=by
 intro W ck e h m μ σ s K P st Q E C p q ae aW;obtain⟨l,aa,h⟩:=b8 h;exact C4 aM hb' aa (C0 h) C p (λv _w _w p=>by cases v<;>exact p) q ae aW
theorem Ll{a b:X}(aM:bn g a)(hb':bn g b):bn g (.or a b):=by
 intro W ck e h m μ σ s K P st Q E C p q ae aW;obtain⟨l,aa,h⟩:=b8 h;exact C4 aM hb' aa (C0 h) C p (λv _w _w p=>by cases v<;>exact p) q ae aW
end
section
open PyProof.Rows PySem.Calls
variable{g:G}
inductive vS(h:aK)(n:Nat)(d:Dat)(v:Value):Prop
 |mk (Lm:∃as,Reads h v (sx d) as) (ok:kqdOk n d=true)
inductive Ln (h:aK) (n:Nat) (ds:List Dat) (vs:List Value):Prop
 |mk (Lm:∃as,ReadsAll h vs (xY ds) as) (ok:∀d∈ds,kqdOk n d=true)
section
variable{μ:aO}{σ:ah}{h:aK}
theorem zu{n:Nat}(ih:∀{x v d},bf g μ h x v->deep σ n x=some d->vS h n d v):∀{xs:List af}{vs:List Value}{ds:List Dat},bC g μ h xs vs->d5 (deep σ n) xs=some ds->Ln h n ds vs:=by
 intro xs
 induction xs with
 |nil=>intro vs ds q e;cases q;cases e;exact⟨⟨_,Yg⟩,λ_w hd=>nomatch hd⟩
 |cons x xs ih2=>
  intro vs ds q e;obtain⟨w,ws,rfl,a,b⟩:=q;rw[Jm]at e;cases e1:deep σ n x with
  |none=>rw[e1]at e;exact cU e
  |some d=>
   rw[e1]at e;obtain⟨ds,e2,rfl⟩:=dZ e;obtain⟨⟨as,eO⟩,o1⟩:=ih a e1;obtain⟨⟨bs,rb⟩,o2⟩:=ih2 b e2;exact⟨⟨_,Yh eO rb⟩,c1.mpr ⟨o1,o2⟩⟩
theorem vT(S:br g μ σ h):∀{n:Nat}{x v d},bf g μ h x v->deep σ n x=some d->vS h n d v:=by
 intro n
 induction n with
 |zero=>intro x v d _ e;exact cU e
 |succ n ih=>
  intro x v d q e;cases x with
  |none=>cases q;cases e;exact⟨⟨_,Reads.none⟩,rfl⟩
  |int i=>obtain⟨t,rfl⟩:=q;cases e;exact⟨⟨_,Reads.int i t⟩,rfl⟩
  |str x=>
   obtain⟨t,rfl⟩:=q;have e:(if uy (aI x)then some (Ui (aI x))else none)=some d:=e;by_cases ar:uy (aI x)=true
   ·rw[if_pos ar]at e;cases e;exact⟨⟨_,Reads.str _ t⟩,ar⟩
   ·rw[if_neg ar]at e;exact cU e
  |tup xs=>
   obtain⟨ds,e1,rfl⟩:=dZ e;obtain⟨a,vs,rfl,⟨⟨o,ho,hc,k,hd⟩,_⟩,ai⟩:=q;obtain⟨⟨as,eO⟩,o2⟩:=zu ih ai e1;exact⟨⟨as,Uj ho hc hd eO⟩,l5.mpr o2⟩
  |loc l=>
   obtain⟨p,aa,rfl,ob⟩:=S.at_ q
   cases hl:σ.get l with
   |list xs=>
    have e:(match σ.get l with|.list xs=>(d5 (deep σ n) xs).map HG|_=>none)=some d:=e;rw[hl]at e ob;obtain⟨ds,e1,rfl⟩:=dZ e;obtain⟨_,vs,k,ho,ai⟩:=ob;obtain⟨⟨as,eO⟩,o2⟩:=zu ih ai e1;exact⟨⟨_,reads_list_at ho rfl rfl eO⟩,l5.mpr o2⟩
   |_=>have e:(match σ.get l with|.list xs=>(d5 (deep σ n) xs).map HG|_=>none)=some d:=e;rw[hl]at e;exact cU e
  |_=>exact cU e
end
end
section
open PyProof.Rows PySem.Calls
variable{g:G}
theorem tl{a b:String}(h:aI a=aI b):a=b:=by
 rw[ou,ou]at h;have aa:a.toList.map Uk=b.toList.map Uk:=by simpa using h
 have:=Ul (λc d=>Char.toNat_inj.mp)|>.mp aa
 simpa using congrArg TU this
theorem C5(a b:String):(aI a==aI b)=decide (a=b):=by
 by_cases h:a=b
 ·subst h;rw[beq_self_eq_true,decide_eq_true rfl]
 ·rw[decide_eq_false h];exact beq_eq_false_iff_ne.mpr λe=>h (tl e)
theorem vS.ia{h:aK}{d:Dat}{v:Value}(r:vS h 8 d v):Um (sx d)=true:=by
 have l:=kqd_lay 8 d r.2;unfold Um;rw[l.1,Bool.true_and];exact decide_eq_true (aB l.2 (by decide))
noncomputable abbrev C6(b:Bool):pv:=match b with|true=>.Eq|false=>.NotEq
noncomputable abbrev eqB(b c:Bool):Bool:=match b with|true=>c|false=>!c
section
variable{A:bA}{E:Value->ag->Prop}{s:ag}{μ:aO}{σ:ah}{v w:Value}{x y:af}{Q:Value->ag->Prop}
open Classical in
theorem C7(S:br g μ σ s.heap)(hu:A.units+64<kU)(ai:bf g μ s.heap x v)(hw:bf g μ s.heap y w){b c:Bool}(e:g5 x y σ=some b)(h:Q (.bool (eqB c b)) s):aN (aD g.prog g.w) A (mT (C6 c) v w) Q E s:=by
 obtain⟨d,e1,e⟩:=b8 e;obtain⟨lk,e2,rfl⟩:=dZ e;have R:=vT S ai e1;have R':=vT S hw e2;obtain⟨as,eO⟩:=R.1;obtain⟨bs,rb⟩:=R'.1;have q:=kqd_eqv 8 d lk 8 R.2 R'.2;have ev:Un (sx d) (sx lk)=decide (d=lk):=by
  by_cases hq:d=lk
  ·rw[decide_eq_true hq];exact q.mpr hq
  ·rw[decide_eq_false hq];exact Bl.mpr λz=>hq (q.mp z)
 rw[<-ev]at h;cases c with
 |true=>exact eq_dataH eO rb R.ia R'.ia hu h
 |false=>exact ne_dataH eO rb R.ia R'.ia hu h
end
end
section
open PyProof.Rows PySem.Calls
variable{g:G}
theorem Lo{a c:List UInt8}:(a.toArray.toList==c.toArray.toList)=decide (a=c):=by
 by_cases h:a=c<;>simp[h]
section
variable{A:bA}{E:Value->ag->Prop}{s:ag}{μ:aO}{σ:ah}{v w:Value}{x y:af}{Q:Value->ag->Prop}
theorem C8(S:br g μ σ s.heap)(hu:A.units+64<kU)(ai:bf g μ s.heap x v)(hw:bf g μ s.heap y w){c:Bool}{F:Bool->Ask}(p:(yU x y σ F).P)(h:∀b,(F b).P->Q (.bool (eqB c b)) s):aN (aD g.prog g.w) A (mT (C6 c) v w) Q E s:=by
 cases x with
 |int a=>
  obtain⟨b,rfl,p⟩:=jx p;obtain⟨t,rfl⟩:=ai;obtain⟨u,rfl⟩:=hw;have h:=h _ p;cases c with
  |true=>exact PyProof.Rows.eq_int h
  |false=>exact PyProof.Rows.ne_int h
 |str a=>
  obtain⟨b,rfl,p⟩:=rB p;obtain⟨t,rfl⟩:=ai;obtain⟨u,rfl⟩:=hw;have h:=h _ p;rw[<-C5]at h;cases c with
  |true=>exact PyProof.Rows.eq_str h
  |false=>exact PyProof.Rows.ne_str h
 |bytes a=>
  obtain⟨b,rfl,p⟩:=zp (v:=y) p;obtain⟨t,rfl⟩:=ai;obtain⟨u,rfl⟩:=hw;have h:=h _ p;rw[<-Lo]at h;cases c with
  |true=>exact eq_bytes h
  |false=>exact ne_bytes h
 |none=>
  cases y with
  |none=>
   cases ai;cases hw;have h:=h _ p;cases c with
   |true=>exact EqNone.eq_none_none h
   |false=>exact EqNone.ne_none_none h
  |_=>exact p.elim
 |loc a=>
  obtain⟨b,rfl,r,e,p⟩:=jU p;exact C7 S hu ai hw e (h _ p)
 |tup a=>
  cases y with
  |tup b=>obtain⟨r,e,p⟩:=p;exact C7 S hu ai hw e (h _ p)
  |_=>exact p.elim
 |_=>exact p.elim
end
end
section
open PyProof.Rows PySem.Calls
variable{g:G}
theorem C9(s:String):uy (aI s)=true:=by
 unfold uy;rw[ou];simp only[Array.all_eq_true',Uo,iS,decide_eq_true_eq]
 rintro x ⟨c,_,rfl⟩
 exact c.valid.elim (λh=>gB h (by decide)) λh=>h.2
theorem vU{α β:Type}{f:α->Option β}{x:α}{y:β}{xs:List α}{ys:List β}(h:f x=some y)(h':d5 f xs=some ys):d5 f (x::xs)=some (y::ys):=by
 show(match f x with|none=>none|some y=>(d5 f xs).map (y::·))=_;rw[h,h'];rfl
theorem Lp{σ:ah}{k:Int}:∀{xs:List af}{b:Bool},kj k xs=some b-> ∃ds,d5 (deep σ 8) xs=some ds/\ (b=true↔Dat.int k∈ds):=by
 intro xs
 induction xs with
 |nil=>intro b e;cases e;exact⟨[],rfl,(λh=>nomatch h),(λh=>nomatch h)⟩
 |cons x r ih=>
  intro b e;cases x with
  |int j=>
   have e:(if j=k then(kj k r).map λ_w=>true else kj k r)=some b:=e;by_cases h:j=k
   ·rw[if_pos h]at e;obtain⟨c,e1,rfl⟩:=dZ e;obtain⟨ds,e2,_⟩:=ih e1;exact⟨.int j::ds,vU rfl e2,λ_w=>h▸.head _,λ_w=>rfl⟩
   ·rw[if_neg h]at e;obtain⟨ds,e2,e3⟩:=ih e;exact⟨.int j::ds,vU rfl e2,λq=>.tail _ (e3.mp q),λq=>e3.mpr ((gA.mp q).resolve_left λz=>h (Yk z).symm)⟩
  |_=>exact cU e
theorem Lq{σ:ah}{k:String}:∀{xs:List af}{b:Bool},rg k xs=some b-> ∃ds,d5 (deep σ 8) xs=some ds/\ (b=true↔Ui (aI k)∈ds):=by
 intro xs
 induction xs with
 |nil=>intro b e;cases e;exact⟨[],rfl,(λh=>nomatch h),(λh=>nomatch h)⟩
 |cons x r ih=>
  intro b e;cases x with
  |str j=>
   have e:(if j=k then(rg k r).map λ_w=>true else rg k r)=some b:=e;have d:deep σ 8 (.str j)=some (.str (aI j)):=if_pos (C9 j);by_cases h:j=k
   ·rw[if_pos h]at e;obtain⟨c,e1,rfl⟩:=dZ e;obtain⟨ds,e2,_⟩:=ih e1;exact⟨_::ds,vU d e2,λ_w=>h▸.head _,λ_w=>rfl⟩
   ·rw[if_neg h]at e;obtain⟨ds,e2,e3⟩:=ih e;exact⟨_::ds,vU d e2,λq=>.tail _ (e3.mp q),λq=>e3.mpr ((gA.mp q).resolve_left λz=>h (tl (Yl z)).symm)⟩
  |_=>exact cU e
end
section
open PyProof.Rows PySem.Calls
variable{g:G}
noncomputable abbrev zv(b:Bool):pv:=match b with|true=>.In|false=>.NotIn
section
variable{K:Type}[DecidableEq K]{j k:K}{v:Value}{r:List (K×Value)}
theorem zw(h:j=k):mV ((j,v)::r) k=some v:=congrArg (a7 _) (sy (p:=λe:K×Value=>decide (e.1=k)) (decide_eq_true h))
theorem zx(h:¬j=k):mV ((j,v)::r) k=mV r k:=congrArg (a7 _) (qT (p:=λe:K×Value=>decide (e.1=k)) λq=>h (of_decide_eq_true q))
end
noncomputable def rC(g:G)(μ:aO)(h:aK)(x:Option af)(v:Option Value):Prop:=(x=none/\ v=none) \/ ∃y u,x=some y/\ v=some u/\ bf g μ h y u
theorem Da{μ:aO}{h:aK}{k:Int}:∀{es:List (Int×af)}{vs:List Value},bC g μ h (es.map (·.2)) vs->rC g μ h (dX k es) (mV ((es.map (·.1)).zip vs) k):=by
 intro es
 induction es with
 |nil=>intro vs q;exact .inl ⟨rfl,rfl⟩
 |cons e r ih=>
  intro vs q;obtain⟨w,ws,rfl,a,b⟩:=q;by_cases a8:e.1=k
  ·exact .inr ⟨e.2,w,if_pos a8,zw a8,a⟩
  ·rw[show dX k (e::r)=dX k r from if_neg a8,show mV (((e::r).map (·.1)).zip (w::ws)) k=_ from zx a8];exact ih b
theorem Db{μ:aO}{h:aK}{k:String}:∀{es:List (String×af)}{vs:List Value},bC g μ h (es.map (·.2)) vs->rC g μ h (g6 k es) (mV ((es.map λe=>aI e.1).zip vs) (aI k)):=by
 intro es
 induction es with
 |nil=>intro vs q;exact .inl ⟨rfl,rfl⟩
 |cons e r ih=>
  intro vs q;obtain⟨w,ws,rfl,a,b⟩:=q;by_cases a8:e.1=k
  ·exact .inr ⟨e.2,w,if_pos a8,zw (congrArg _ a8),a⟩
  ·rw[show g6 k (e::r)=g6 k r from if_neg a8,show mV (((e::r).map λe=>aI e.1).zip (w::ws)) (aI k)=_ from zx λq=>a8 (tl q)];exact ih b
theorem rC.some{μ:aO}{h:aK}{x:Option af}{v:Option Value}(b:rC g μ h x v):v.isSome=x.isSome:=by
 rcases b with⟨rfl,rfl⟩|⟨y,u,rfl,rfl,_⟩<;>rfl
end
section
open PyProof.Rows PySem.Calls
variable{g:G}
theorem br.Dc{μ:aO}{σ:ah}{h:aK}(K:c0 g)(S:br g μ σ h){l:Nat}{p:ay×ay}(e:μ[l]?=some p):(p.1==sv)=false:=
 beq_eq_false_iff_ne.mpr λq=>K.11.elim λo ho=>none_of ho (q▸(S.3 p (oi e)).1)
theorem intKind_is(k:Int)(t:Tok):(mR g.prog g.w).is k (.int k t)=true:=by simp[mR,Value.isInt]
section
variable{A:bA}{E:Value->ag->Prop}{s:ag}{μ:aO}{σ:ah}{v w:Value}{x y:af}{Q:Value->ag->Prop}
theorem zy{nE:Type}[DecidableEq nE]{K:PySem.KeyKind g.prog g.w nE}{k:nE}{a:ay}{es:List (nE×Value)}{key:Value}{b:Bool}(az:K.is k key=true)(aM:(a==sv)=false)(hd:s.heap.DictOf K a es)(e:(mV es k).isSome=b){c:Bool}(h:∀tk,Q (.bool (eqB c b)) {s with toks:=tk}):aN (aD g.prog g.w) A (mT (zv c) key (.ref a)) Q E s:=by
 subst e;cases c with
 |true=>exact wpAny_in_of az aM hd.mapOf (h _)
 |false=>exact wpAny_notIn_of az aM hd.mapOf (h _)
theorem Dd(S:br g μ σ s.heap)(hu:A.units+70<kU){a:ay}{vs:List Value}{xs:List af}{ds:List Dat}{d:Dat}(ht:gW s.heap a vs.toArray)(hvs:bC g μ s.heap xs vs)(e1:d5 (deep σ 8) xs=some ds)(ak:bf g μ s.heap x v)(e2:deep σ 8 x=some d){b:Bool}(ae:b=true↔d∈ds){c:Bool}(h:Q (.bool (eqB c b)) s):aN (aD g.prog g.w) A (mT (zv c) v (.ref a)) Q E s:=by
 obtain⟨o,ho,hc,n,hd⟩:=ht;have R:=zu (vT S) hvs e1;have D:=vT S ak e2;obtain⟨as,eO⟩:=R.1;obtain⟨bs,rb⟩:=D.1;have l:=kqd_layL R.2;have ld:=kqd_lay 8 d D.2;have rt:Reads s.heap (.ref a) (.tuple (xY ds)) as:=Uj ho hc hd eO;have ev:((xY ds).any λy=>Un y (sx d))=b:=by
  have q:=kqd_any ds d R.2 D.2;cases b with
  |true=>exact q.mpr (ae.mp rfl)
  |false=>exact Bl.mpr λz=>nomatch ae.mpr (q.mp z)
 have room:A.units+1+min (Up (xY ds)) (sx d).depth<kU:=by
  have:=HI (Up (xY ds)) (sx d).depth;have:=ld.2;exact(dP λaq=>bj.go (.c _ (.c _ (.c _ (.c _ .o)))) (.c 1 (.a (.a (.v 2) (.n 70)) (.n 1)) (.v 3) (.c 1 (.v 0) (.n 9) (.c 1 (.v 3) (.a (.a (.v 2) (.n 1)) (.v 1)) (.c 1 (.v 1) (.v 0) .o)))) rfl hu l.2 aq (HJ _ _))
 subst ev;cases c with
 |true=>exact SeqAt.in_tuple_reads rt rb l.1 ld.1 room h
 |false=>exact SeqAt.notIn_tuple_reads rt rb l.1 ld.1 room h
end
end
section
open PyProof.Rows PySem.Calls
variable{g:G}
theorem De{k:String}:∀{l:List (String×String)}{μ:aO}{h:aK}{vs:List Value},bC g μ h (l.map λe=>.str e.2) vs->rC g μ h ((g6 k l).map .str) (mV ((l.map λe=>aI e.1).zip vs) (aI k)):=by
 intro l
 induction l with
 |nil=>intro _ _ vs q;exact .inl ⟨rfl,rfl⟩
 |cons e r ih=>
  intro _ _ vs q;obtain⟨w,ws,rfl,a,b⟩:=q;by_cases a8:e.1=k
  ·exact .inr ⟨.str e.2,w,by rw[show g6 k (e::r)=some e.2 from if_pos a8];rfl,zw (congrArg _ a8),a⟩
  ·rw[show g6 k (e::r)=g6 k r from if_neg a8,show mV (((e::r).map λe=>aI e.1).zip (w::ws)) (aI k)=_ from zx λq=>a8 (tl q)];exact ih b
section
variable{A:bA}{E:Value->ag->Prop}{s:ag}{μ:aO}{σ:ah}{v w:Value}{x y:af}{Q:Value->ag->Prop}
theorem Df(K:c0 g)(S:br g μ σ s.heap)(hu:A.units+70<kU)(ai:bf g μ s.heap x v)(hw:bf g μ s.heap y w){c:Bool}{F:Bool->Ask}(p:(vk x y σ F).P)(h:∀b tk,(F b).P->Q (.bool (eqB c b)) {s with toks:=tk}):aN (aD g.prog g.w) A (mT (zv c) v w) Q E s:=by
 cases y with
 |tup xs=>
  obtain⟨a,vs,rfl,⟨ht,_⟩,hvs⟩:=hw;cases x with
  |int k=>
   obtain⟨b,e,p⟩:=p;obtain⟨ds,e1,e2⟩:=Lp (σ:=σ) e;exact Dd S hu ht hvs e1 ai rfl e2 (h b s.toks p)
  |str k=>
   obtain⟨b,e,p⟩:=p;obtain⟨ds,e1,e2⟩:=Lq (σ:=σ) e;exact Dd S hu ht hvs e1 ai (if_pos (C9 k)) e2 (h b s.toks p)
  |_=>exact p.elim
 |loc l=>
  obtain⟨q,aa,rfl,ob⟩:=S.at_ hw
  cases x with
  |int k=>
   cases hl:σ.get l with
   |bZ es=>
    have p:(match σ.get l with|.bZ es=>F (dX k es).isSome|_=>.no:Ask).P:=p;rw[hl]at p ob;obtain⟨_,vs,hd,hvs⟩:=ob;obtain⟨t,rfl⟩:=ai;exact zy (intKind_is _ _) (S.Dc K aa) hd (Da hvs).some λtk=>h _ tk p
   |_=>
    have p:(match σ.get l with|.bZ es=>F (dX k es).isSome|_=>.no:Ask).P:=p;rw[hl]at p;exact p.elim
  |str k=>
   cases hl:σ.get l with
   |fg es=>
    have p:(match σ.get l with|.fg es=>F (g6 k es).isSome|_=>.no:Ask).P:=p;rw[hl]at p ob;obtain⟨_,vs,hd,hvs⟩:=ob;obtain⟨t,rfl⟩:=ai;exact zy (sA _ _ _ _) (S.Dc K aa) hd (Db hvs).some λtk=>h _ tk p
   |_=>
    have p:(match σ.get l with|.fg es=>F (g6 k es).isSome|_=>.no:Ask).P:=p;rw[hl]at p;exact p.elim
  |_=>exact p.elim
 |nums=>
  obtain⟨k,rfl,p⟩:=rB p;obtain⟨t,rfl⟩:=ai;cases hw;obtain⟨vs,hd,hvs⟩:=K.12;have n:=(De (k:=k) hvs).some;rw[Option.isSome_map]at n;exact zy (sA _ _ _ _) (beq_eq_false_iff_ne.mpr K.13) (DictOf.keep (S.2 _) hd) n λtk=>h _ tk p
 |_=>exact p.elim
end
end
section
open PyProof.Rows PySem.Calls
variable{g:G}
section
variable{μ:aO}{σ:ah}{h:aK}
theorem Lr{o:cv}{p:ay×ay}{ob:Obj}(n:vl o)(H:eT g μ h p o)(e:h.get? p.1=some ob):ob.cls≠.type "tuple":=by
 have one:∀{c:String}{ob':Obj},h.get? p.1=some ob'->ob'.cls=.type c->c≠"tuple"->ob.cls≠.type "tuple":=λe' hc hn q=>by
  cases e.symm.trans e';exact hn (Bm (hc.symm.trans q))
 cases o with
 |dead=>exact H.elim
 |list _=>obtain⟨_,_,_,e',_⟩:=H;exact one e' rfl (by decide)
 |bZ _|fg _=>obtain⟨_,_,⟨_,_,_,e',hc,_⟩,_⟩:=H;exact one e' hc.1 (by decide)
 |dW _=>exact one H.2 rfl (by decide)
 |inst _ _=>obtain⟨_,_,_,_,e',_⟩:=H;cases e.symm.trans e';exact nofun
 |box=>exact n.elim
theorem br.Ls(S:br g μ σ h){i j:Nat}{p q:ay×ay}(hn:i≠j)(aa:μ[i]?=some p)(h2:μ[j]?=some q):p.1≠q.1:=by
 obtain⟨fk,rfl⟩:=jF.mp aa;obtain⟨bS,rfl⟩:=jF.mp h2;have P:=uD.mp S.4;exact(TW hn).elim (λt=>(P i j fk bS t).1.1) λt=>(P j i bS fk t).1.1.symm
end
section
variable{A:bA}{E:Value->ag->Prop}{s:ag}{μ:aO}{σ:ah}{v w:Value}{x y:af}{Q:Value->ag->Prop}
theorem vV(ai:bf g μ s.heap x v)(hw:bf g μ s.heap y w){F:Int->Int->Ask}(p:(dS x λa=>dS y λb=>F a b).P):∃a b t u,v=.int a t/\ w=.int b u/\ (F a b).P:=by
 obtain⟨a,rfl,p⟩:=jx (v:=x) p;obtain⟨b,rfl,p⟩:=jx (v:=y) p;obtain⟨t,rfl⟩:=ai;obtain⟨u,rfl⟩:=hw;exact⟨a,b,t,u,rfl,rfl,p⟩
theorem Lu(S:br g μ σ s.heap)(ai:bf g μ s.heap x v)(hw:bf g μ s.heap y w){F:Bool->Ask}(p:(vm .is x y σ F).P)(h:∀b,(F b).P->Q (.bool b) s):aN (aD g.prog g.w) A (mT .Is v w) Q E s:=by
 obtain⟨a,rfl,p⟩:=jU p;obtain⟨b,rfl,n,p⟩:=jU p;obtain⟨p1,aa,rfl,o1⟩:=S.at_ ai
 obtain⟨p2,h2,rfl,o2⟩:=S.at_ hw
 have h:=h _ p;by_cases e:a=b
 ·subst e;cases aa.symm.trans h2;rw[decide_eq_true rfl]at h;exact wpAny_is_ref_self h
 ·rw[decide_eq_false e]at h;obtain⟨ob1,fk⟩:=o1.live.1;obtain⟨ob2,bS⟩:=o2.live.1;exact wpAny_is_ref_other (S.Ls e aa h2) fk bS (Lr n o1 fk) h
theorem zA(K:c0 g)(S:br g μ σ s.heap)(hu:A.units+70<kU)(ai:bf g μ s.heap x v)(hw:bf g μ s.heap y w){F:Bool->Ask}(h:∀b tk,(F b).P->Q (.bool b) {s with toks:=tk}):∀{o:jO},(vm o x y σ F).P->aN (aD g.prog g.w) A (mT (ko o) v w) Q E s:=by
 intro o;cases o with
 |lt=>
  intro p;obtain⟨_,_,_,_,rfl,rfl,p⟩:=vV ai hw p;exact PyProof.Rows.lt_int (h _ _ p)
 |le=>
  intro p;obtain⟨_,_,_,_,rfl,rfl,p⟩:=vV ai hw p;exact PyProof.Rows.le_int (h _ _ p)
 |gt=>
  intro p;obtain⟨_,_,_,_,rfl,rfl,p⟩:=vV ai hw p;exact PyProof.Rows.gt_int (h _ _ p)
 |ge=>
  intro p;obtain⟨_,_,_,_,rfl,rfl,p⟩:=vV ai hw p;exact PyProof.Rows.ge_int (h _ _ p)
 |eq=>
  intro p;exact C8 S (cM (fH (by decide) _) hu) ai hw (c:=true) p λb p=>h _ s.toks p
 |ne=>
  intro p;exact C8 S (cM (fH (by decide) _) hu) ai hw (c:=false) p λb p=>h _ s.toks p
 |is=>
  intro p;exact Lu S ai hw p λb p=>h b s.toks p
 |isin=>
  intro p;exact Df K S hu ai hw (c:=true) p λb tk p=>h _ tk p
 |iV=>
  intro p;exact Df K S hu ai hw (c:=false) p λb tk p=>h _ tk p
end
theorem Cx.room{W:Cfg}{μ:aO}{σ:ah}{h:aK}(C:Cx g W μ σ h):W.A.units+70<kU:=
 cM (eY (c8 _ _) (by decide)) C.lv.2
section
variable{W:Cfg}{μ:aO}{σ:ah}{s:ag}{E:Value->ag->Prop}{v:Value}{x:af}{b:X}{Dg r:aL}{K A':bt}{P:cq}{st:List af}
theorem zB(KK:c0 g)(ae:bn g b)(hr:re W.bQ b Dg=some r)(C:Cx g W μ σ s.heap)(ai:bf g μ s.heap x v)(aW:iG g W.l W.L μ s (hU P W.ρ) E){o:jO}:∀{m:Bool}{Q:Res m->ag->Prop},(cc (TT W.n) b (vr o K) P (x::st) W.ρ σ).P->fi g W.l μ s (jq K st W.ρ) Q->
  au (aD g.prog g.w) W.A (bY r W.env) (λw aH=>au (aD g.prog g.w) W.A (mT (ko o) v w) (zc m Q) E aH) E s:=by
 intro m;cases m with
 |false=>
  intro Q p q;exact ae (m:=false) hr C p ⟨λs1 v1 p=>aT (zA KK s1.2 C.room (ai.ext (s1.1.ext .nil)) v1 (λb tk p=>q.1 (x:=.bool b) (s1.trans (.tok s1.2 tk)) rfl p) p)⟩ ci aW
 |true=>
  intro Q p q;exact ae (m:=false) hr C p ⟨λs1 v1 p=>aT (zA KK s1.2 C.room (ai.ext (s1.1.ext .nil)) v1 (λb tk p=>⟨b,rfl,q.1 (x:=.bool b) (s1.trans (.tok s1.2 tk)) rfl p⟩) p)⟩ ci aW
theorem zC(KK:c0 g)(ae:bn g b)(hr:re W.bQ b Dg=some r)(C:Cx g W μ σ s.heap)(ai:bf g μ s.heap x v)(aW:iG g W.l W.L μ s (hU P W.ρ) E){o:jO}{m:Bool}{Q:Res m->ag->Prop}(p:(cc (TT W.n) b (vt o A' K) P (x::st) W.ρ σ).P)(q:fi g W.l μ s (jq K st W.ρ) Q)
  {pos:Pos}{op':pv}{ops:List pv}{b7:Sem Value}{rs:List (Sem Value)}
  (H:∀{w y aF s' σ'},bo g W.l μ s aF s' σ'->bf g aF s'.heap y w->(A' (y::st) W.ρ σ').P->au (aD g.prog g.w) W.A (rm m pos w (op'::ops) (b7::rs)) Q E s'):
  au (aD g.prog g.w) W.A (rm m pos v (ko o::op'::ops) (bY r W.env::b7::rs)) Q E s:=
 KU (ae (m:=false) hr C p ⟨λ{w y aF s' σ'} s1 v1 p=>aT (zA KK s1.2 C.room (ai.ext (s1.1.ext .nil)) v1 (F:=λr=>Ask.g4 r (A' (y::st) W.ρ σ') (K (.bool false::st) W.ρ σ')) (λb tk p=>⟨b,rfl,by
  have t:=s1.trans (.tok s1.2 tk)
  cases b with
  |true=>exact H t v1 p
  |false=>exact q.1 (x:=.bool false) t .b p⟩) p)⟩ ci aW)
end
theorem jV{b:Bool}{α:Type}{x y:α}(h:(bif !b then some x else none)=some y):b=false/\ x=y:=by
 cases b with
 |false=>exact⟨rfl,cW h⟩
 |true=>exact cU h
theorem Lv(KK:c0 g){o:jO}{a b:X}(aM:bn g a)(ae:bn g b):bn g (.cmp o a b):=by
 intro W ck e h m μ σ s K P st Q E C p q hb' aW;obtain⟨l,aa,h⟩:=b8 h;obtain⟨r,h2,h⟩:=b8 h;obtain⟨n,rfl⟩:=jV h;exact KT n (aM (m:=false) aa C p ⟨λs1 v1 p=>zB KK ae h2 (C.at_ s1) v1 (aW.at_ s1) p (q.at_ s1)⟩ ci aW)
theorem Lw(KK:c0 g){o o':jO}{a b d:X}(aM:bn g a)(ae:bn g b)(hd:bn g d):bn g (.oR o o' a b d):=by
 intro W ck e h m μ σ s K P st Q E C p q hb' aW;obtain⟨l,aa,h⟩:=b8 h;obtain⟨r,h2,h⟩:=b8 h;obtain⟨t,h3,h⟩:=b8 h;obtain⟨n,rfl⟩:=jV h;exact Cy (ops:=[]) (rs:=[]) n (aM (m:=false) aa C p ⟨λs1 v1 p=>zC KK ae h2 (C.at_ s1) v1 (aW.at_ s1) p (q.at_ s1) λs2 v2 p=>
  have s2:=s1.trans s2
  Cz (zB KK hd h3 (C.at_ s2) v2 (aW.at_ s2) p (q.at_ s2))⟩ ci aW)
theorem Lx(KK:c0 g){o o' o'':jO}{a b d f:X}(aM:bn g a)(ae:bn g b)(hd:bn g d)(hf:bn g f):bn g (.vg o o' o'' a b d f):=by
 intro W ck e h m μ σ s K P st Q E C p q hb' aW;obtain⟨l,aa,h⟩:=b8 h;obtain⟨r,h2,h⟩:=b8 h;obtain⟨t,h3,h⟩:=b8 h;obtain⟨u,h4,h⟩:=b8 h;obtain⟨n,rfl⟩:=jV h;exact Cy (ops:=[_]) (rs:=[_]) n (aM (m:=false) aa C p ⟨λs1 v1 p=>zC KK ae h2 (C.at_ s1) v1 (aW.at_ s1) p (q.at_ s1) λs2 v2 p=>
  have s2:=s1.trans s2
  zC KK hd h3 (C.at_ s2) v2 (aW.at_ s2) p (q.at_ s2) λs3 v3 p=>
  have s3:=s2.trans s3
  Cz (zB KK hf h4 (C.at_ s3) v3 (aW.at_ s3) p (q.at_ s3))⟩ ci aW)
end
section
open PyProof.Rows PySem.Calls
variable{g:G}
theorem rD{e:aL}{es:List aL}{env:Env}(h:odd e=false):gf (e::es) env=(false,bY e env)::gf es env:=by
 cases e<;>first|rfl|exact vf h
noncomputable abbrev Ly(K:bt)(st:List af)(ρ:aQ)(n:Nat):List af->ah->Ask:=λxs σ=>.cond (xs.length=n) (K (xs.reverseAux st) ρ σ)
noncomputable def jW(g:G)(as:List X):Prop:=∀{W:Cfg}{dg es:List aL},eM W.bQ as dg=some es-> ∀{pos:Pos}{μ σ s K P st}{Q:List Value->ag->Prop}{E},Cx g W μ σ s.heap->(xL (TT W.n) as K P st W.ρ σ).P->vN g W.l μ s (Ly K st W.ρ as.length) Q->iG g W.l W.L μ s (hU P W.ρ) E->
 au (aD g.prog g.w) W.A (kS (iw pos (gf es W.env))) Q E s
theorem vW:jW g []:=by
 intro W dg es h pos μ σ s K P st Q E C p q aW;cases h;exact spliced_none (q.1 (xs:=[]) (.tok C.sim s.toks) rfl ⟨rfl,p⟩)
theorem tm{a:X}{as:List X}(aM:bn g a)(hl:jW g as):jW g (a::as):=by
 intro W dg es h pos μ σ s K P st Q E C p q aW;obtain⟨l,aa,h⟩:=b8 h;obtain⟨r,h2,h⟩:=b8 h;obtain⟨n,rfl⟩:=jV h;exact spliced_more (aM (m:=false) aa C p ⟨λ{v x aF s' σ'} s1 v1 p=>hl h2 (C.at_ s1) p ⟨λ{vs xs Xo s'' Xp} s2 v2 p=>q.1 (xs:=x::xs) (s1.trans s2) ⟨v,vs,rfl,v1.ext (s2.1.ext .nil),v2⟩ ⟨congrArg (· +1) p.1,p.2⟩⟩ (aW.at_ s1)⟩ ci aW) (rD n)
theorem Dh:∀{as:List X}{ws st acc:List af}{F:List af->List af->Ask},ws.length=as.length->gJ as (ws++st) acc F=F (ws.reverseAux acc) st
 |[],[],_,_,_,_=>rfl
 |_::as,w::ws,_,_,_,h=>Dh (as:=as) (fx h)
 |[],_::_,_,_,_,h=>nomatch h
 |_::_,[],_,_,_,h=>nomatch h
theorem nF{as:List X}{xs st:List af}{F:List af->List af->Ask}(h:xs.length=as.length):gJ as (xs.reverseAux st) [] F=F xs st:=by
 rw[List.reverseAux_eq,Dh (by rw[sC,h])];exact congrArg (F · st) (xs.reverse_reverse)
theorem noStar{c:cg}{env:Env}{pos:Pos}:∀{as:List X}{dg es:List aL},eM c as dg=some es->(iw pos (gf es env)).any (·.1)=false:=by
 intro as
 induction as with
 |nil=>intro _ _ h;cases h;rfl
 |cons a as ih=>
  intro _ _ h;obtain⟨l,_,h⟩:=b8 h;obtain⟨r,h2,h⟩:=b8 h;obtain⟨n,rfl⟩:=jV h;rw[rD n];exact ih h2
theorem Di{M:iQ}{A:bA}{f:Value}{E:Value->ag->Prop}{s:ag}{Q:xN->ag->Prop}:∀{args:List (Bool×Sem Value)},args.any (·.1)=false->au M A (kS args) (λvs s'=>Q ⟨vs,[]⟩ s') E s->au M A (Bd f true args []) Q E s
 |[],_,h=>λcB p dm hc=>aT (evalArgs_nil3 (h cB p dm hc)) cB p dm hc
 |(false,_)::_,_,h=>evalArgs_plain h
 |(true,_)::_,hn,_=>nomatch hn
inductive kp (g:G) (f:Value):Prop
 |mk (ok:∀h,(∀b o,g.base.get? b=some o->h.get? b=some o)-> ∃k,(k=Hr \/k=Hs \/k=Ht)/\ iR (aD g.prog g.w) h (xO f) k)
theorem kp.K(K:c0 g){f:ay}(az:jH g.K (.ref f)=true):kp g (.ref f):=⟨λh ae=>keeps_K az h (K.15.keeps ae)⟩
theorem kp.bi{id:String}:kp g (.builtin id):=⟨λh _w=>⟨.machine,.inr (.inl rfl),sD rfl⟩⟩
theorem kp.type{id:String}:kp g (.type id):=⟨λh _w=>⟨.machine,.inr (.inl rfl),sD rfl⟩⟩
theorem rE{W:Cfg}{as:List X}{dg es:List aL}(hl:jW g as)(hr:eM W.bQ as dg=some es){f:Value}(az:kp g f){μ σ s K P st}{Q E:Value->ag->Prop}(C:Cx g W μ σ s.heap)(p:(xL (TT W.n) as K P st W.ρ σ).P)(aW:iG g W.l W.L μ s (hU P W.ρ) E){pos:Pos}{first:List Value}
  (H:∀{vs xs aF s' σ'},bo g W.l μ s aF s' σ'->bC g aF s'.heap xs vs->xs.length=as.length->(K (xs.reverseAux st) W.ρ σ').P->au (aD g.prog g.w) W.A (call f (first++vs)) Q E s'):
  au (aD g.prog g.w) W.A (uF pos f first (iw pos (gf es W.env)) []) Q E s:=
 callWith_of (P:=λh=>∀b o,g.base.get? b=some o->h.get? b=some o) (by rw[noStar hr];rfl) az.1 (Di (noStar hr) (hl hr C p ⟨λs1 v1 p=>⟨s1.2.2,H s1 v1 p.1 p.2⟩⟩ aW))
theorem vX{c:cg}{l:List String}{k:Nat}{p:Pos}{e:aL}(h:c.td l k p=some e):∃x,l[k]?=some x/\ x≠""/\ c.glob x p=some e:=by
 obtain⟨x,aa,h⟩:=b8 h;cases ak:x=="" with
 |true=>rw[ak]at h;exact cU h
 |false=>rw[ak]at h;exact⟨x,aa,beq_eq_false_iff_ne.mp ak,h⟩
theorem rF{c:cg}{x:String}{p:Pos}{e:aL}(h:c.glob x p=some e):∃y,e=.Name y p:=(gN h).2▸⟨_,rfl⟩
theorem zo.call{n:Nat}{A:bA}(v:zo n A):A.depth+4*n+6<l2/\ A.units+60*n+250<kU:=⟨cM (fH (by decide) _) v.1,cM (fH (by decide) _) v.2⟩
theorem Lz(KK:c0 g){f:Nat}{as:List X}(hl:jW g as):bn g (.call f as):=by
 intro W ck e h m μ σ s K P st Q E C p q ae aW;obtain⟨gx,aa,h⟩:=b8 h;obtain⟨es,h2,h⟩:=b8 h;obtain⟨_,rfl⟩:=gN h;obtain⟨x,ak,hne,aa⟩:=vX aa;refine gm (λ_w=>rfl) q ae λ{Q'} q=>Call_ (ti KK C aa (KK.6 f x ak hne) (rE hl h2 (.K KK (KK.17 f x ak)) C p aW λs1 v1 hn p=>?_)) (by obtain⟨y,rfl⟩:=rF aa;rfl);have C:=C.at_ s1
 have p:Ask.P (gJ as _ _ _):=p;rw[nF hn]at p;exact pN (C.calls C.toBs C.lv.call.1 C.lv.call.2 v1 p ⟨λa b c=>q.1 (s1.trans a) b c⟩ (aW.at_ s1))
end
section
open PyProof.Rows PySem.Calls
variable{g:G}
theorem LA:∀i<11,∀j<11,cZ i=cZ j->i=j:=by decide+kernel
theorem rG{n:Nat}:∀{c:Nat},fld c n=true->n<11
 |0,h=>cM (j9.mp h) (by decide)
 |1,h=>cM (bb (mW h)) (by decide)
 |2,h=>by
  have h:(match df 4 n with|true=>df n 7|false=>false)=true:=h;cases e:df 4 n with
  |true=>rw[e]at h;exact cM (j9.mp h) (by decide)
  |false=>rw[e]at h;exact ci h
 |3,h=>by
  have h:(match df 7 n with|true=>df n 10|false=>false)=true:=h;cases e:df 7 n with
  |true=>rw[e]at h;exact cM (j9.mp h) (by decide)
  |false=>rw[e]at h;exact ci h
 |_+4,h=>nomatch h
section
variable{μ:aO}{h:aK}
theorem Dj{e:hG}{i n:Nat}{t:Tok}(ao:i<11)(hn:n<11)(k:e.key=.str (aI (cZ i)) t):e.key.isStr (aI (cZ n))=dQ i n:=by
 rw[k];refine(C5 _ _).trans ?_;cases q:dQ i n with
 |true=>exact decide_eq_true (congrArg cZ (mW q))
 |false=>exact decide_eq_false λz=>Uq q (LA i ao n hn z)
theorem fQ.get{n:Nat}(hn:n<11){v:af}:∀{fs:List (Nat×af)}{es:List hG},fQ g μ h fs es->(∀f∈fs,f.1<11)->rf n fs=some v->(∃f∈fs,f.1=n)/\ ∃e,es.find? (·.key.isStr (aI (cZ n)))=some e/\ bf g μ h v e.val:=by
 intro fs
 induction fs with
 |nil=>intro _ _ _ e;exact cU e
 |cons f fs ih=>
  intro es H hf e;obtain⟨d,r,t,rfl,k,a,b⟩:=H;have k:=Dj (hf f (.head _)) hn k;have e:(match dQ f.1 n with|true=>some f.2|false=>rf n fs)=some v:=e;rw[Bn,k];cases q:dQ f.1 n with
  |true=>rw[q]at e;exact⟨⟨f,.head _,mW q⟩,d,rfl,cW e▸a⟩
  |false=>rw[q]at e;exact(ih b (λx ak=>hf x (.tail _ ak)) e).imp_left λz=>z.imp λx y=>⟨.tail _ y.1,y.2⟩
theorem fQ.put{n:Nat}(hn:n<11){v:af}{u:Value}(ai:bf g μ h v u){hsh:Int}{t:Tok}:∀{fs:List (Nat×af)}{es:List hG},fQ g μ h fs es->(∀f∈fs,f.1<11)->fQ g μ h (putN n v fs) (putL (aI (cZ n)) hsh (.str (aI (cZ n)) t) u es):=by
 intro fs
 induction fs with
 |nil=>intro _ H _;cases H;exact⟨_,_,t,rfl,rfl,ai,rfl⟩
 |cons f fs ih=>
  intro es H hf;obtain⟨d,r,t',rfl,k',a,b⟩:=H;have k:=Dj (hf f (.head _)) hn k';show fQ g μ h (match dQ f.1 n with|true=>(f.1,v)::fs|false=>f::putN n v fs) (if d.key.isStr _=true then _ else _);rw[k];cases dQ f.1 n with
  |true=>exact⟨_,_,t',rfl,k',ai,b⟩
  |false=>exact⟨_,_,t',rfl,k',a,ih b λx ak=>hf x (.tail _ ak)⟩
theorem bf.handed{x:af}{v:Value}(H:bf g μ h x v):handedIn v=true:=by
 cases x with
 |none|bool _|nums=>cases H;rfl
 |int _|str _|bytes _=>obtain⟨_,rfl⟩:=H;rfl
 |loc _=>obtain⟨_,_,rfl⟩:=H;rfl
 |tup _|np _=>obtain⟨_,_,rfl,_⟩:=H;rfl
theorem Dk{o:cv}{F:Nat->List (Nat×af)->Ask}:(yS F o).P-> ∃c fs,o=.inst c fs/\ (F c fs).P:=by
 cases o with
 |inst c fs=>exact λp=>⟨c,fs,rfl,p⟩
 |_=>exact False.elim
end
inductive LB (g:G) (μ:aO) (h:aK) (i c:Nat) (fs:List (Nat×af)) (p:ay×ay) (cO:_) (es:List hG) (n:Nat):Prop
 |mk (loc:μ[i]?=some p) (cls:(bl c).isSome=true) (fld:∀f∈fs,Mine.Tactic.fld c f.1=true) (at_:xZ h p.1 ⟨.ref (g.ca c),some p.2,.plain,cO⟩ (g.ca c) (some (uz es n))) (fr:fQ g μ h fs es)
theorem br.zD{μ:aO}{σ:ah}{h:aK}(S:br g μ σ h){i c:Nat}{v:Value}{fs:List (Nat×af)}(ai:bf g μ h (.loc i) v)(e:σ.get i=.inst c fs):∃p cO es n,v=.ref p.1/\ LB g μ h i c fs p cO es n:=by
 obtain⟨p,aa,rfl,o⟩:=S.at_ ai
 rw[e]at o;refine ao λG z=>?_;obtain⟨⟨a,b⟩,cO,es,n,h2,h3,h4⟩:=o;refine z ?_;clear z G;exact⟨p,cO,es,n,rfl,aa,a,b,⟨h2,rfl,rfl,h3⟩,h4⟩
section
variable{A:bA}{E:Value->ag->Prop}{s:ag}{μ:aO}{σ:ah}{v:Value}{x:af}{Q:Value->ag->Prop}
theorem Dl(K:c0 g)(S:br g μ σ s.heap)(ai:bf g μ s.heap x v){n:Nat}{F:eS}(p:(yV x n σ F).P){ex:Bool}(h:∀{y u tk},bf g μ s.heap y u->(F y).P->Q u {s with toks:=tk}):aN (aD g.prog g.w) A (Hu v (aI (cZ n)) ex) Q E s:=by
 obtain⟨i,rfl,p⟩:=jU p;obtain⟨c,fs,e,y,az,p⟩:=Dk p;obtain⟨a,cO,es,k,rfl,I⟩:=S.zD ai e;have CK:=K.16 c I.2;have hn:n<11:=by
  have:∀{fs:List (Nat×af)},(∀f∈fs,Mine.Tactic.fld c f.1=true)->rf n fs=some y->n<11:=by
   intro fs
   induction fs with
   |nil=>exact λ_w e=>cU e
   |cons f fs ih=>
    intro hf e;have e:(match dQ f.1 n with|true=>some f.2|false=>rf n fs)=some y:=e;cases q:dQ f.1 n with
    |true=>exact mW q▸rG (hf f (.head _))
    |false=>rw[q]at e;exact ih (λx ak=>hf x (.tail _ ak)) e
  exact this I.3 az
 obtain⟨⟨f,hf,e1⟩,d,hd,hu⟩:=I.5.get hn (λf hf=>rG (I.3 f hf)) az;have hl:lookIn (aI (cZ n)) (uz es k)=some (some d.val):=by
  rw[lookIn_dict];unfold getL;rw[hd]
 exact get_value (K.15.keeps S.2) I.4 (HK CK.1).1 (findObj_own CK.2 (CK.7 n (e1▸I.3 f hf)) rfl hl) hu.handed (h hu p)
end
theorem Dm{o:aL}{n:Str}{env:Env}{w:Sem Value}(h:odd o=false):attributeBase o n env w=w:=by
 cases o with
 |Call f as be p=>
  cases f with
  |Name x q=>
   cases as with
   |nil=>
    cases be with
    |nil=>exact if_pos (by rw[show(x !=("super":Str))=true from congrArg not h];rfl)
    |cons=>rfl
   |cons=>rfl
  |_=>rfl
 |_=>rfl
theorem LC(KK:c0 g){n:Nat}{a:X}(aM:bn g a):bn g (.attr a n):=by
 intro W ck e h m μ σ s K P st Q E C p q ae aW;obtain⟨l,aa,h⟩:=b8 h;obtain⟨o,rfl⟩:=jV h;exact gm (λ_w=>rfl) q ae λ{Q'} q=>Attribute_any_ (aM (m:=false) aa C p ⟨λs1 v1 p=>aT (Dl KK s1.2 v1 p λhu p=>q.1 (s1.trans (.tok s1.2 _)) hu p)⟩ ci aW) (by rw[arm_eval_Attribute,Dm o])
end
section
open PyProof.Rows PySem.Calls
variable{g:G}
inductive At{α:Type}(xs:List α)(k:Int)(v:α)(j:Nat):Prop
 |mk (lo: -(2^63)<=k) (ao:k<2^63) (iI:seqIndex? k xs.length=some j) (val:xs[j]?=some v)
theorem Dn{k j n:Nat}{i:Int}(e:(if i<0 then i+n else i)=(j:Int))(h:j<n):seqIndex? i n=some j:=by
 show(if 0<=(if i<0 then i+(n:Int)else i)&&(if i<0 then i+(n:Int)else i)<(n:Int)then some (if i<0 then i+(n:Int)else i).toNat else none)=_;rw[e,decide_eq_true (cD j),decide_eq_true (dR.mpr h)];rfl
theorem zE{α:Type}{xs:List α}{k:Int}{v:α}(h:eI xs k=some v):∃j,At xs k v j:=by
 have lt:∀{j:Nat},xs[j]?=some v->j<xs.length:=λe=>(jF.mp e).1;cases k with
 |ofNat n=>
  have h:(match df n 1000000 with|true=>xs[n]?|false=>none)=some v:=h;cases e:df n 1000000 with
  |true=>
   rw[e]at h;have e:=j9.mp e;exact⟨n,bG (by decide) (cD n),eZ (aX.mpr e) (by decide),Dn (k:=0) (if_neg (a6.mpr (cD n))) (lt h),h⟩
  |false=>rw[e]at h;exact cU h
 |negSucc n=>
  have h:(match df n 999999&&df (n+1) xs.length with|true=>xs[xs.length-(n+1)]?|false=>none)=some v:=h;cases e:df n 999999&&df (n+1) xs.length with
  |true=>
   rw[e]at h;have e1:=j9.mp (bV e).1;have e2:=j9.mp (bV e).2;exact⟨_,(Int.neg_le_neg (aX.mpr (aB (jn e1) (by decide):n+1<=9223372036854775808)): -((9223372036854775808:Nat):Int)<= -((n+1:Nat):Int)),kP (G9 n) (by decide),Dn (k:=0) (by rw[if_pos (G9 n)];exact(ps _ _).trans (HL e2).symm) (lt h),h⟩
  |false=>rw[e]at h;exact cU h
theorem At.vs{μ:aO}{h:aK}{xs:List af}{k:Int}{x:af}{j:Nat}(a:At xs k x j){vs:List Value}(H:bC g μ h xs vs):∃v,At vs k v j/\ bf g μ h x v:=(H.get a.4).imp λv q=>⟨⟨a.1,a.2,H.length▸a.3,q.1⟩,q.2⟩
section
variable{prog:ef}{w:World}{A:bA}{E:Value->ag->Prop}{s:ag}{Q:Value->ag->Prop}{k:Int}{j:Nat}{u:Value}{vs:List Value}
theorem At.arr{α:Type}{xs:List α}{x:α}(a:At xs k x j):xs.toArray[j]?=some x:=(mX ..).trans a.4
theorem At.list(a:At vs k u j){l:ay}{t:Tok}(hl:s.heap.IsList l vs.toArray)(q:Q u s):aN (aD prog w) A (Bo (.ref l) (.int k t)) Q E s:=by
 have h:(if 0<=(if k<0 then k+(vs.length:Int)else k)&&(if k<0 then k+(vs.length:Int)else k)<(vs.length:Int)then some (if k<0 then k+(vs.length:Int)else k).toNat else none)=some j:=a.3;by_cases h0:k<0
 ·rw[if_pos h0]at h;by_cases ae:(0<=k+(vs.length:Int)&&k+(vs.length:Int)<(vs.length:Int))=true
  ·rw[if_pos ae]at h;exact wpAny_getItem_list_neg hl h0 (TP (Int.le_of_sub_nonneg (by rw[TS,ps];exact of_decide_eq_true (bV ae).1)|>λz=>by rw[fa];exact(a6.mp λaq=>bp.go (.c _ (.c _ .o)) (.c 1 (.v 0) (.v 1) (.c 1 (.a (.v 1) (.n 1)) (.v 0) .o)) rfl z aq))) a.1 (cW h▸a.arr) q
  ·rw[if_neg ae]at h;exact cU h
 ·rw[if_neg h0]at h;by_cases ae:(0<=k&&k<(vs.length:Int))=true
  ·rw[if_pos ae]at h;exact wpAny_getItem_list hl (a6.mp h0) a.2 (cW h▸a.arr) q
  ·rw[if_neg ae]at h;exact cU h
theorem qc{value slice:aL}{o i:Value}{T id:String}(hT:s.TypeIs o T)(hl:kf (.type T) "__getitem__"=pure (some (.builtin id)))(h:aN (aD prog w) A (Bo o i) Q E s):aN (aD prog w) A (qU value slice o i) Q E s:=by
 unfold qU;refine aE ?_;rw[getitemInPython_of_ne hT.not_modules];refine aE (l6 hT hl (bw (aE ?_)));have t:=λvs=>wpAny_operating (vs:=vs) (sE h (λr oX eK=>(aE (T6 (bw eK)):aN (aD prog w) A (T5 value o r>>=λ_w=>pure r) Q E oX)) λ_w _w x=>x);cases slice with
 |Slice a b c p=>cases c<;>exact t _
 |_=>exact t _
end
end
section
open PyProof.Rows PySem.Calls
variable{g:G}
theorem LF{v:af}{F:Int->Ask}{G':String->Ask}:Ask.P (match v with|.int k=>F k|.str k=>G' k|_=>.no)->(∃k,v=.int k/\ (F k).P) \/ ∃k,v=.str k/\ (G' k).P:=by
 cases v with
 |int k=>exact λp=>.inl ⟨k,rfl,p⟩
 |str k=>exact λp=>.inr ⟨k,rfl,p⟩
 |_=>exact False.elim
theorem LG{k:Int}{F:eS}{o:cv}:(Ca k F o).P->(∃xs v,o=.list xs/\ eI xs k=some v/\ (F v).P) \/ ∃es v,o=.bZ es/\ dX k es=some v/\ (F v).P:=by
 cases o with
 |list xs=>exact λp=>.inl (p.elim λv p=>⟨xs,v,rfl,p⟩)
 |bZ es=>exact λp=>.inr (p.elim λv p=>⟨es,v,rfl,p⟩)
 |_=>exact False.elim
theorem LH{k:String}{F:eS}{o:cv}:(Cb k F o).P-> ∃es v,o=.fg es/\ g6 k es=some v/\ (F v).P:=by
 cases o with
 |fg es=>exact λp=>p.elim λv p=>⟨es,v,rfl,p⟩
 |_=>exact False.elim
section
variable{A:bA}{E:Value->ag->Prop}{s:ag}{μ:aO}{σ:ah}{v w:Value}{x y:af}{Q:Value->ag->Prop}{value slice:aL}
theorem zF{h:aK}{a:Option af}{b:Option Value}(B:rC g μ h a b){y:af}(e:a=some y):∃u,b=some u/\ bf g μ h y u:=by
 rcases B with⟨rfl,_⟩|⟨z,u,rfl,rfl,r⟩
 ·exact cU e
 ·exact⟨u,rfl,cW e▸r⟩
theorem zG{nE:Type}[DecidableEq nE]{K:PySem.KeyKind g.prog g.w nE}{k:nE}{a:ay}{es:List (nE×Value)}{key u:Value}(az:K.is k key=true)(hd:s.heap.DictOf K a es)(e:mV es k=some u)(h:∀tk,Q u {s with toks:=tk}):aN (aD g.prog g.w) A (qU value slice (.ref a) key) Q E s:=
 qc hd.typeIs slot_dict_getitem.lookup (wpAny_getItem_of az hd.mapOf e (h _))
theorem LI(K:c0 g)(S:br g μ σ s.heap)(ai:bf g μ s.heap x v)(hw:bf g μ s.heap y w){F:eS}(p:(index x y σ F).P)(h:∀{z u tk},bf g μ s.heap z u->(F z).P->Q u {s with toks:=tk}):aN (aD g.prog g.w) A (qU value slice v w) Q E s:=by
 cases x with
 |tup xs=>
  obtain⟨k,rfl,z,e,p⟩:=jx p;obtain⟨a,vs,rfl,⟨ht,_⟩,hvs⟩:=ai;obtain⟨t,rfl⟩:=hw;obtain⟨j,e⟩:=zE e;obtain⟨u,e,r⟩:=e.vs hvs;exact qc ht.typeIs Bp.lookup (PyProof.Rows.getItem_tuple ht e.1 e.2 ((fa ..).symm▸e.3) e.arr (h (tk:=s.toks) r p))
 |bytes xs=>
  obtain⟨k,rfl,z,e,p⟩:=jx p;obtain⟨t,rfl⟩:=ai;obtain⟨t',rfl⟩:=hw;obtain⟨j,e⟩:=zE e;refine qc (jo _ _ _) Bq.lookup (getItem_gives (jo s _ _) (by decide) Bq Us (Ut _ _) (gives_bytes_getitem _ k _ _ z ?_ ?_) (h (z:=.int z.toNat) ⟨_,rfl⟩ p))
  ·exact og.mpr ⟨decide_eq_true e.1,decide_eq_true e.2⟩
  ·rw[fa,e.3];exact e.arr
 |loc i=>
  obtain⟨a,aa,rfl,ob⟩:=S.at_ ai
  rcases LF p with⟨k,rfl,p⟩|⟨k,rfl,p⟩
  ·obtain⟨t,rfl⟩:=hw;rcases LG p with⟨xs,z,e,hz,p⟩|⟨es,z,e,hz,p⟩
   ·rw[e]at ob;obtain⟨_,vs,n,hl,hvs⟩:=ob;obtain⟨j,hz⟩:=zE hz;obtain⟨u,e,r⟩:=hz.vs hvs;have hl:s.heap.IsList a.1 vs.toArray:=⟨_,hl,rfl,n,rfl⟩;exact qc hl.typeIs Uu (e.list hl (h (tk:=s.toks) r p))
   ·rw[e]at ob;obtain⟨_,vs,hd,hvs⟩:=ob;obtain⟨u,e,r⟩:=zF (Da hvs) hz;exact zG (intKind_is _ _) hd e λtk=>h r p
  ·obtain⟨t,rfl⟩:=hw;obtain⟨es,z,e,hz,p⟩:=LH p;rw[e]at ob;refine ao λG z=>?_;obtain⟨_,vs,hd,hvs⟩:=ob;obtain⟨u,e,r⟩:=zF (Db hvs) hz;refine z ?_;clear z G;exact zG (sA _ _ _ _) hd e λtk=>h r p
 |nums=>
  obtain⟨k,rfl,z,e,p⟩:=rB p;obtain⟨t,rfl⟩:=hw;cases ai;obtain⟨vs,hd,hvs⟩:=K.12;obtain⟨u,e,r⟩:=zF (De (k:=k) hvs) (congrArg _ e);exact zG (sA _ _ _ _) (DictOf.keep (S.2 _) hd) e λtk=>h (r.ext S.CW) p
 |_=>exact p.elim
end
section
variable{M:iQ}{A:bA}{E:Value->ag->Prop}{s:ag}{env:Env}
theorem Subscript_{value slice pos}{Q:Value->ag->Prop}(h:au M A (bY value env) (λo aH=>au M A (bY slice env) (λi bL=>au M A (qU value slice o i) Q E bL) E aH) E s):au M A (bY (.Subscript value slice pos) env) Q E s:=by
 rw[eval_Subscript];exact seq (cC h λo aH aY=>dD (cC aY λi bL cA=>cx cA))
end
theorem LJ(KK:c0 g){a b:X}(aM:bn g a)(ae:bn g b):bn g (.idx a b):=by
 intro W ck e h m μ σ s K P st Q E C p q hb' aW;obtain⟨l,aa,h⟩:=b8 h;obtain⟨r,h2,h⟩:=b8 h;obtain⟨_,rfl⟩:=jV h;refine gm (λ_w=>rfl) q hb' λ{Q'} q=>Subscript_ ?_;exact aM (m:=false) aa C p ⟨λs1 v1 p=>ae (m:=false) h2 (C.at_ s1) p ⟨λs2 v2 p=>aT (LI KK s2.2 (v1.ext (s2.1.ext .nil)) v2 p λr p=>q.1 ((s1.trans s2).trans (.tok s2.2 _)) r p)⟩ ci (aW.at_ s1)⟩ ci aW
end
section
open PyProof.Rows PySem.Calls
variable{g:G}
theorem Do{α:Type}(lo ao:Option Int)(xs:List α):(cut lo ao xs).length<=xs.length:=by
 unfold cut;rw[l7,oy];exact aB (HI _ _) (Uv _ _)
theorem bC.cut{μ:aO}{h:aK}{vs:List Value}{xs:List af}(H:bC g μ h xs vs)(lo ao:Option Int):bC g μ h (cut lo ao xs) (cut lo ao vs):=by
 unfold Mine.Tactic.cut;rw[H.length];exact H.drop.take
theorem LK(vs:List Value)(lo ao:Option Int):slicePick vs.toArray lo ao none=(cut lo ao vs).toArray:=slicePick_plain ..
theorem LL(b:Int)(n:Nat):Builtin.Slice.sliceAdjust none (some b) 1 (n:Int)=(0,((jm n b:Nat):Int)):=by
 have dv:¬(1:Int)<0:=by decide
 unfold Builtin.Slice.sliceAdjust;simp only[dv,if_false];refine HM rfl ?_;rw[clipAt_cast];show(if b<0 then max (b+(n:Int)) 0 else min b n)=_;by_cases h:b<0
 ·rw[if_pos h,if_pos h,Int.min_eq_left (bG (Hd (fG h) n) (aP (qK _))),Int.max_comm]
 ·rw[if_neg h,if_neg h];exact(Int.max_eq_right (Int.le_min.mpr ⟨a6.mp h,cD n⟩)).symm
theorem LM(vs:List Value)(k:Nat):(cE k).filterMap (λ(i:Nat)=>vs.toArray[((0:Int)+(i:Int)*1).toNat]?)=vs.take k:=by
 have:=pick_run vs.toArray 0 k;rw[List.filterMap_map]at this;exact(congrArg (λf=>(cE k).filterMap f) (funext λi=>congrArg (vs.toArray[·]?) (by rw[qK,Br];exact(jl i).symm))).trans this
section
variable{prog:ef}{w:World}{A:bA}{E:Value->ag->Prop}{s:ag}
theorem LN{Q:Value->ag->Prop}{t cO:ay}{vs:List Value}{b:Int}{u:Tok}(ht:gW s.heap t vs.toArray)(ar:s.heap.IsSliceOf cO .none (.int b u) .none)
  (hz:vs.length<=d0)(aa:cut none (some b) vs=vs->Q (.ref t) s)(h2:Q (.ref s.heap.objs.size) {s with heap:=s.heap.push {cls:=.type "tuple",data:=.seq (cut none (some b) vs).toArray}}):
  aN (aD prog w) A (Bo (.ref t) (.ref cO)) Q E s:=by
 obtain⟨os,hos,hcs,dM⟩:=id ar;have hTs:s.TypeIs (.ref cO) "slice":=⟨os,hos,hcs⟩;unfold Bo
 with_reducible refine oz ?_
 refine aE (Uw ht.typeIs (by decide) ?_);refine aE (Bt (name:=aI "__getitem__") ht.typeIs Bp (px Bp ht.typeIs entry_tuple_getitem ?_ (args_tuple_getitem _ _)));show aN _ _ (Builtin.Tuple.tupleItemsOf (.ref t)>>=_) _ _ s;refine aE (tupleItemsOf_ ht (aE (sF hTs ?_)));rw[if_pos (by decide)];have ap:∀{R:Int×Int×Nat->ag->Prop}{E':Value->ag->Prop},R (0,1,jm vs.length b) s->aN (aD prog w) A.in1 (Builtin.Slice.sliceApplied (.ref cO) (pure (vs.toArray.size:Int))) R E' s:=λ{R E'} h=>by
  unfold Builtin.Slice.sliceApplied Builtin.Slice.sliceFields;refine aE (aE (kg hos dM (x:=.none) rfl (aE (kg hos dM (x:=.int b u) rfl (aE (kg hos dM (x:=.none) rfl (bw ?_)))))));refine aE (Ux ?_);show aN _ _ (if((1:Int)==0)=true then _ else _) _ _ s;rw[if_neg (by decide)];refine aE (Ux (aE (slicePart_int (aE (bw ?_)))));show aN _ _ (match Builtin.Slice.sliceAdjust none (some b) 1 (vs.toArray.size:Int)with|(lo,ao)=>pure (lo,(1:Int),Builtin.Slice.slicePlaces lo ao 1)) _ _ s;rw[fa,LL];refine bw ?_;rw[show Builtin.Slice.slicePlaces 0 ((jm vs.length b:Nat):Int) 1=jm vs.length b from places_from 0 _ (du _)];exact h
 refine aE (ap ?_);show aN _ _ (if((0:Int)==0&&(1:Int)==1&&jm vs.length b==vs.toArray.size)=true then _ else _) _ _ s;rw[LM];by_cases hw:((0:Int)==0&&(1:Int)==1&&jm vs.length b==vs.toArray.size)=true
 ·rw[if_pos hw];refine aE (m:=Builtin.Tuple.tupleIsExact _) (aE (sF ht.typeIs (bw ?_)));rw[if_pos (by decide)];refine aE (jK (bw ⟨_,rfl,bw (aa ?_)⟩));show vs.take (jm vs.length b)=vs;rw[beq_iff_eq.mp (bV hw).2];exact Bu
 ·rw[if_neg hw];have t:aN (aD prog w) A.in1 (Builtin.Tuple.tupleExact (cut none (some b) vs).toArray) (λr s'=>∃v,r=v/\ Q v s') (λ_w _w=>False) s:=sG ⟨_,rfl,h2⟩ (by show(cut none (some b) vs).toArray.size<=d0;rw[fa];exact aB (Do _ _ _) hz);exact aE (sE t (λr s' hr=>hr.elim λv hr=>hr.1▸bw ⟨_,rfl,bw hr.2⟩) λ_w _w e=>e.elim)
end
end
section
open PyProof.Rows PySem.Calls
variable{g:G}
section
variable{l:List Env}{μ:aO}{s:ag}{σ:ah}
theorem bo.push(S:br g μ σ s.heap)(o:Obj):bo g l μ s μ {s with heap:=s.heap.push o} σ:=⟨.push o,S.push o,rfl⟩
theorem bo.tup(S:br g μ σ s.heap){vs:List Value}{xs:List af}(ai:bC g μ s.heap xs vs):
  bo g l μ s μ {s with heap:=s.heap.push {cls:=.type "tuple",data:=.seq vs.toArray}} σ/\ bf g μ (s.heap.push {cls:=.type "tuple",data:=.seq vs.toArray}) (.tup xs) (.ref s.heap.objs.size):=
 have t:=bo.push (l:=l) S _
 ⟨t,_,vs,rfl,⟨⟨_,gX _ rfl,rfl,0,rfl⟩,λq=>(S.live q).elim λo ho=>none_of ho (d3 _)⟩,ai.ext (t.1.ext .nil)⟩
end
section
variable{A:bA}{E:Value->ag->Prop}{s:ag}{μ:aO}{σ:ah}{l:List Env}{v ll vu:Value}{x:af}{Q:Value->ag->Prop}{value slice:aL}{cO:ay}{lo ao:Option Int}{F:eH}
theorem Dp(S:br g μ σ s.heap){a:ay}{vs:List Value}{xs:List af}(hl:s.heap.IsList a vs.toArray)(hvs:bC g μ s.heap xs vs)(ar:s.heap.IsSliceOf cO ll vu .none)(di:uL ll lo)(pu:uL vu ao)(n:xs.length<=1000000)(p:(F (.loc σ.next) (σ.push (.list (cut lo ao xs)))).P)(q:fi (m:=false) g l μ s F Q):
  aN (aD g.prog g.w) A (qU value slice (.ref a) (.ref cO)) Q E s:=by
 refine qc hl.typeIs Uu (wpAny_getItem_list_slice hl ar di pu .none cU ?_ (by rw[fa,hvs.length];exact aB n fj));rw[LK];obtain⟨aF,st,r⟩:=bo.list (l:=l) S (hvs.cut lo ao) 0 s.toks;exact q.1 st r p
theorem LO(S:br g μ σ s.heap)(ai:bf g μ s.heap x v)(ar:s.heap.IsSliceOf cO ll vu .none)(di:uL ll lo)(pu:uL vu ao)(p:(sW x lo ao σ F).P)(q:fi (m:=false) g l μ s F Q):
  aN (aD g.prog g.w) A (qU value slice v (.ref cO)) Q E s:=by
 cases x with
 |tup xs=>
  obtain⟨a,vs,rfl,⟨ht,hd⟩,hvs⟩:=ai;cases di with
  |none=>
   cases pu with
   |int b t=>
    have c:=hvs.cut none (some b);refine qc ht.typeIs Bp.lookup (LN ht ar (by rw[hvs.length];exact aB p.1 fj) (λe=>?_) ?_)
    ·exact q.1 (x:=.tup (cut none (some b) xs)) (.tok S s.toks) ⟨a,vs,rfl,⟨ht,hd⟩,e▸c⟩ p.2
    ·exact q.1 (bo.tup S c).1 (bo.tup (l:=l) S c).2 p.2
   |none=>exact p.elim
  |int=>exact p.elim
 |bytes xs=>
  obtain⟨t,rfl⟩:=ai;have e:KBy.picked xs.toArray lo ao=(cut lo ao xs).toArray:=KBc.picked_eq ..;refine qc (jo _ _ _) Bq.lookup (getItem_meets (jo _ _ _) (by decide) Bq Us (Ut _ _) (KBc.meets_slice2 xs.toArray t _ di pu) ⟨ar,?_,λt' k=>?_⟩)
  ·rw[e,fa];exact aB (Do _ _ _) (aB p.1 fj)
  ·rw[e];exact q.1 (x:=.bytes (cut lo ao xs)) (.tok S k) ⟨t',rfl⟩ p.2
 |np xs=>
  obtain⟨a,vs,rfl,⟨o,ho,r⟩,hi'⟩:=ai;have p:(F (.loc σ.next) (σ.push (.list ((cut lo ao xs).map .int)))).P:=p.2;have hvs:bC g μ s.heap (xs.map .int) vs:=bC.KJ hi';rw[show(cut lo ao xs).map af.int=cut lo ao (xs.map .int) by unfold cut;rw[Uy,Uz,cF]]at p;exact Dp S ⟨o,S.2 _ _ ho,r⟩ hvs ar di pu (by rw[cF];exact ‹_/\ _›.1) p q
 |loc i=>
  obtain⟨xs,e,n,p⟩:=pZ p;obtain⟨a,vs,k,_,rfl,_,hl,hvs⟩:=S.listAt ai e;exact Dp S ⟨_,hl,rfl,k,rfl⟩ hvs ar di pu n p q
 |_=>exact p.elim
end
section
variable{M:iQ}{A:bA}{E:Value->ag->Prop}{s:ag}{env:Env}
theorem zH{lower upper step:Option aL}{p:Pos}{Q:Value->ag->Prop}
  (h:au M A (HN lower env) (λl aH=>au M A (HN upper env) (λu bL=>au M A (HN step env) (λst oX=>Q (.ref oX.heap.objs.size) {oX with heap:=oX.heap.push {cls:=.type "slice",data:=.fields #[l,u,st]}}) E bL) E aH) E s):au M A (bY (.Slice lower upper step p) env) Q E s:=by
 rw[arm_eval_Slice];exact seq (cC h λl aH aY=>dD (cC aY λu bL cA=>dD (cC cA λst oX eK=>aT (sG eK))))
end
section
variable{A:bA}{E:Value->ag->Prop}{s:ag}{μ:aO}{σ:ah}{l:List Env}{v ll vu:Value}{x:af}{Q:Value->ag->Prop}{value slice:aL}{lo ao:Option Int}{F:eH}
theorem sliced(S:br g μ σ s.heap)(ai:bf g μ s.heap x v)(di:uL ll lo)(pu:uL vu ao)(p:(sW x lo ao σ F).P)(q:fi (m:=false) g l μ s F Q):
  au (aD g.prog g.w) A (qU value slice v (.ref s.heap.objs.size)) Q E {s with heap:=s.heap.push {cls:=.type "slice",data:=.fields #[ll,vu,.none]}}:=
 have st:=bo.push (l:=l) S {cls:=.type "slice",data:=.fields #[ll,vu,.none]}
 aT (LO (s:={s with heap:=s.heap.push {cls:=.type "slice",data:=.fields #[ll,vu,.none]}}) st.2 (ai.ext (st.1.ext .nil)) (Yn s.heap ll vu .none) di pu p (q.at_ st))
end
theorem LP{a b:X}(aM:bn g a)(ae:bn g b):bn g (.sliceTo a b):=by
 intro W ck e h m μ σ s K P st Q E C p q hb' aW;obtain⟨l,aa,h⟩:=b8 h;obtain⟨r,h2,rfl⟩:=dZ h;refine gm (λ_w=>rfl) q hb' λ{Q'} q=>Subscript_ (aM (m:=false) aa C p ⟨λ{v x aF s' σ'} s1 v1 p=>zH ?_⟩ ci aW);rw[HO];refine done (ae (m:=false) h2 (C.at_ s1) p ⟨λ{v2 x2 ib s2 aC} t v2 p=>?_⟩ ci (aW.at_ s1));obtain⟨i,rfl,p⟩:=jx p;obtain⟨u,rfl⟩:=v2;exact done (sliced t.2 (v1.ext (t.1.ext .nil)) .none (.int _ _) p (q.at_ (s1.trans t)))
theorem LQ{a b:X}(aM:bn g a)(ae:bn g b):bn g (.sliceFrom a b):=by
 intro W ck e h m μ σ s K P st Q E C p q hb' aW;obtain⟨l,aa,h⟩:=b8 h;obtain⟨r,h2,rfl⟩:=dZ h;refine gm (λ_w=>rfl) q hb' λ{Q'} q=>Subscript_ (aM (m:=false) aa C p ⟨λ{v x aF s' σ'} s1 v1 p=>zH ?_⟩ ci aW);refine ae (m:=false) h2 (C.at_ s1) p ⟨λ{v2 x2 ib s2 aC} t v2 p=>?_⟩ ci (aW.at_ s1);obtain⟨i,rfl,p⟩:=jx p;obtain⟨u,rfl⟩:=v2;rw[HO];exact done (done (sliced t.2 (v1.ext (t.1.ext .nil)) (.int _ _) .none p (q.at_ (s1.trans t))))
theorem LR{a b d:X}(aM:bn g a)(ae:bn g b)(hd:bn g d):bn g (.slice a b d):=by
 intro W ck e h m μ σ s K P st Q E C p q hb' aW;obtain⟨l,aa,h⟩:=b8 h;obtain⟨r,h2,h⟩:=b8 h;obtain⟨t,h3,rfl⟩:=dZ h;refine gm (λ_w=>rfl) q hb' λ{Q'} q=>Subscript_ (aM (m:=false) aa C p ⟨λ{v x aF s' σ'} s1 v1 p=>zH ?_⟩ ci aW);refine ae (m:=false) h2 (C.at_ s1) p ⟨λ{v2 x2 ib s2 aC} s2 v2 p=>?_⟩ ci (aW.at_ s1);have s2:=s1.trans s2;refine hd (m:=false) h3 (C.at_ s2) p ⟨λ{v3 x3 Dq s3 aU} s3 v3 p=>?_⟩ ci (aW.at_ s2);obtain⟨i,rfl,p⟩:=jx p;obtain⟨j,rfl,p⟩:=jx p;obtain⟨_,rfl⟩:=v2;obtain⟨_,rfl⟩:=v3;rw[HO];exact done (sliced s3.2 (v1.ext (((‹bo g W.l _ s' _ _ _›).trans s3).1.ext .nil)) (.int _ _) (.int _ _) p (q.at_ (s2.trans s3)))
theorem tn{α:Type}{l:List α}{k:Nat}(h:k8 l k=true):l.length<=k:=j9.mp h
theorem LS{as:List X}(hl:jW g as):bn g (.tup as):=by
 intro W ck e h m μ σ s K P st Q E C p q ae aW;obtain⟨es,aa,h⟩:=b8 h;obtain⟨n,rfl⟩:=gN h;refine gm (λ_w=>rfl) q ae λ{Q'} q=>Tuple_ (hl aa C p ⟨λ{vs xs aF s' σ'} s1 v1 p=>?_⟩ aW);have p:_/\ Ask.P (gJ as _ _ _):=p;rw[nF p.1]at p;exact aT (sG (q.1 (s1.trans (bo.tup s1.2 v1).1) (bo.tup (l:=W.l) s1.2 v1).2 p.2) (by show vs.toArray.size<=d0;rw[fa,v1.length,p.1];exact aB (tn n) (aB (by decide) fj)))
theorem LU{as:List X}(hl:jW g as):bn g (.list as):=by
 intro W ck e h m μ σ s K P st Q E C p q ae aW;obtain⟨es,aa,h⟩:=b8 h;obtain⟨n,rfl⟩:=gN h;refine gm (λ_w=>rfl) q ae λ{Q'} q=>List_ (hl aa C p ⟨λ{vs xs aF s' σ'} s1 v1 p=>?_⟩ aW);have p:_/\ Ask.P (gJ as _ _ _):=p;rw[nF p.1]at p;obtain⟨_,st,r⟩:=bo.list (l:=W.l) s1.2 v1 0 s'.toks;exact aT (sG (q.1 (s1.trans st) r p.2) (by show vs.toArray.size<=d0;rw[fa,v1.length,p.1];exact aB (tn n) (aB (by decide) fj)))
end
section
open PyProof.Rows PySem.Calls
variable{g:G}
section
variable{μ:aO}{h h':aK}{σ:ah}
theorem Ext.upd{i:Nat}{p:ay×ay}(e:μ[i]?=some p)(k:∀b ob,h.get? b=some ob->b≠p.1->b≠p.2->h'.get? b=some ob):Ext μ h μ h':=
 ⟨mS _,λ{a vs} H=>⟨H.1.imp λo z=>⟨k a o z.1 (λq=>H.2 (q▸.of e)) λq=>H.2 (q▸.of2 e),z.2⟩,H.2⟩⟩
theorem bo.upd{l:List Env}{s:ag}(S:br g μ σ s.heap){i:Nat}{p:ay×ay}{o:cv}{tk:Nat}(e:μ[i]?=some p)(k:∀b ob,s.heap.get? b=some ob->b≠p.1->b≠p.2->h'.get? b=some ob)(ho:Ext μ s.heap μ h'->eT g μ h' p o):
  bo g l μ s μ {s with heap:=h',toks:=tk} (σ.set i o):=⟨.update e k (ho (.upd e k)),S.update e k (ho (.upd e k)),rfl⟩
theorem fQ.Dr:∀{fs:List (Nat×af)}{es:List hG},fQ g μ h fs es->es.any (·.refKey)=false:=by
 intro fs
 induction fs with
 |nil=>intro _ H;cases H;rfl
 |cons f fs ih=>
  intro _ H;obtain⟨d,r,t,rfl,k,_,b⟩:=H;rw[Bv,ih b,Bool.or_false];unfold Yo;rw[k]
theorem fQ.length:∀{fs:List (Nat×af)}{es:List hG},fQ g μ h fs es->es.length=fs.length:=by
 intro fs
 induction fs with
 |nil=>intro _ H;cases H;rfl
 |cons f fs ih=>
  intro _ H;obtain⟨d,r,t,rfl,_,_,b⟩:=H;exact congrArg (· +1) (ih b)
end
theorem LV{c n:Nat}{v:af}(hn:fld c n=true):∀{fs:List (Nat×af)},(∀f∈fs,fld c f.1=true)->(∀f∈putN n v fs,fld c f.1=true)/\ (putN n v fs).length<=fs.length+1:=by
 intro fs
 induction fs with
 |nil=>
  intro _;exact⟨λf hf=>by rw[bW.mp hf];exact hn,bI _⟩
 |cons iI fs ih=>
  obtain⟨j,u⟩:=iI;intro hf;have ih:=ih λx ak=>hf x (.tail _ ak);show(∀f∈(match dQ j n with|true=>(j,v)::fs|false=>(j,u)::putN n v fs),_)/\ (match dQ j n with|true=>(j,v)::fs|false=>(j,u)::putN n v fs).length<=_;cases dQ j n with
  |true=>exact⟨c1.mpr ⟨hf (j,u) (.head _),λx ak=>hf x (.tail _ ak)⟩,gh _⟩
  |false=>exact⟨c1.mpr ⟨hf _ (.head _),ih.1⟩,jn ih.2⟩
section
variable{A:bA}{E:Value->ag->Prop}{s:ag}{μ:aO}{σ:ah}{l:List Env}{v u:Value}{x y:af}{Q:Unit->ag->Prop}
theorem Ds(K:c0 g)(S:br g μ σ s.heap){n:Nat}(ai:bf g μ s.heap x v)(hu:bf g μ s.heap y u){F:ah->Ask}(p:(yW x n y σ F).P)(H:∀{s' σ'},bo g l μ s μ s' σ'->(F σ').P->Q () s'):aN (aD g.prog g.w) A (HP v (aI (cZ n)) u) Q E s:=by
 obtain⟨i,rfl,p⟩:=jU p;obtain⟨c,fs,e,p⟩:=Dk p;obtain⟨a,cO,es,k,rfl,I⟩:=S.zD ai e;have CK:=K.16 c I.2;have hc:fld c n=true:=by
  cases q:fld c n with
  |true=>rfl
  |false=>
   have p:Ask.P (match fld c n with|true=>.cond (fs.length<20)<|F (σ.set i (.inst c (Mine.Tactic.putN n y fs)))|false=>.no):=p;rw[q]at p;exact p.elim
 have p:fs.length<20/\ (F (σ.set i (.inst c (Mine.Tactic.putN n y fs)))).P:=by
  have p:Ask.P (match fld c n with|true=>.cond (fs.length<20)<|F (σ.set i (.inst c (Mine.Tactic.putN n y fs)))|false=>.no):=p;rw[hc]at p;exact p
 have hn:=rG hc;obtain⟨aa,_,_,h2⟩:=I.4;have hne:a.1≠a.2:=λz=>by
  rw[z,h2]at aa;exact nomatch congrArg Obj.data (cW aa)
 obtain⟨aZ,eu,dr,tk0,os⟩:=s;have X:g.K.In aZ:=K.15.keeps S.2;refine HQ X I.4 CK.5 (osa_open (s:=⟨aZ,eu,dr,tk0+1,os⟩) X I.4 CK.6 (by unfold takerIn;rw[CK.7 n hc];rfl) λb=>?_);obtain⟨cd,hcd,hd'⟩:=any_some CK.2;refine aE (bw (aE (aE (uM aa (aE ((Bw X hcd).here ?_))))));rw[hd'];refine bw (a:=some a.2) (aE (bw (aE ?_)));unfold nsSet;refine aE (aE (UA (bw (aE (Bk (aE (uM h2 ?_)))))));have bQ:(!es.toArray.any (·.key.isStr (aI (cZ n)))&&es.toArray.any (·.refKey))=false:=by
  rw[<-UB,<-UB,I.5.Dr,UC]
 dsimp only[uz];rw[aRefKeyMayBeTheName_at,bQ];refine wpAny_updatePart h2 ?_;generalize (if(aI (cZ n)).cps.isEmpty=true then(0:Int)else reduceHash ((aD g.prog g.w).w.params.strHash (aI (cZ n)).cps))=hsh;have fr:∀{h'},Ext μ aZ μ h'->fQ g μ h' (Mine.Tactic.putN n y fs) (putL (aI (cZ n)) hsh (.str (aI (cZ n)) (tk0+1)) u es):=λx0=>fQ.put hn (hu.ext x0) (I.5.ext x0) λf hf=>rG (I.3 f hf);have P:=LV (v:=y) hc I.3;have D:(aZ.update a.2 (UD (aI (cZ n)) hsh (.str (aI (cZ n)) (tk0+1)) u)).get? a.2=some (uz (putL (aI (cZ n)) hsh (.str (aI (cZ n)) (tk0+1)) u es) (PySem.W.putN (aI (cZ n)) es k)):=by
  rw[uN _ h2 (by rw[UE];rfl),UE]
 have oth:∀b,b≠a.2->(aZ.update a.2 (UD (aI (cZ n)) hsh (.str (aI (cZ n)) (tk0+1)) u)).get? b=aZ.get? b:=λb ae=>x1 _ _ λz=>ae z.symm;refine aE (HR D (UF ?_) (bw (H (bo.upd (s:=⟨aZ,eu,dr,tk0,os⟩) (o:=.inst c (Mine.Tactic.putN n y fs)) S I.1 (λb ob e _w ae=>(oth b ae).trans e) λx0=>⟨⟨I.2,P.1⟩,cO,_,_,(oth _ hne).trans aa,D,fr x0⟩) p.2)));rw[fa,(fr ⟨mS _,id⟩).length];exact aB P.2 (aB (Nat.succ_le_of_lt p.1) (aB (show 20<=1000000 by decide) (l8 fj)))
end
end
section
open PyProof.Rows PySem.Calls
variable{g:G}
section
variable{μ:aO}{h:aK}{k:Int}{v:Value}{x:af}
theorem LW{j:Int}{u:Value}{r:List (Int×Value)}(a8:¬j=k):uO ((j,u)::r) k v=(j,u)::uO r k v:=by
 unfold uO;rw[Bv,decide_eq_false a8,Bool.false_or,l9,if_neg a8];cases r.any λkv=>decide (kv.1=k)<;>rfl
theorem LX{u:Value}:∀{r:List (Int×Value)},(∀q∈r,q.1≠k)->uO ((k,u)::r) k v=(k,v)::r:=by
 intro r hr;unfold uO;rw[Bv,decide_eq_true rfl,Bool.true_or,l9,if_pos rfl,if_pos rfl];exact congrArg _ ((uP λq hq=>if_neg (hr q hq)).trans (List.map_id _))
theorem Dt(ai:bf g μ h x v):∀{es:List (Int×af)}{vs:List Value},(es.map (·.1)).Nodup->bC g μ h (es.map (·.2)) vs->
  ∃ws,uO ((es.map (·.1)).zip vs) k v=((hY k x es).map (·.1)).zip ws/\ bC g μ h ((hY k x es).map (·.2)) ws:=by
 intro es
 induction es with
 |nil=>intro vs _ H;cases H;exact⟨[v],rfl,v,[],rfl,ai,rfl⟩
 |cons a r ih=>
  intro vs hn H;obtain⟨u,us,rfl,a1,b⟩:=H;have hn:=sH.mp hn;by_cases a8:a.1=k
  ·rw[show hY k x (a::r)=(a.1,x)::r from if_pos a8];subst a8;exact⟨v::us,LX λq hq e=>hn.1 (e▸(HS hq).1),v,us,rfl,ai,b⟩
  ·obtain⟨ws,e1,e2⟩:=ih hn.2 b;rw[show hY k x (a::r)=a::hY k x r from if_neg a8];exact⟨u::ws,(LW a8).trans (congrArg _ e1),u,ws,rfl,a1,e2⟩
end
section
variable{A:bA}{E:Value->ag->Prop}{s:ag}{Q:Unit->ag->Prop}
theorem LY{l:ay}{items:Array Value}{n j:Nat}{k:Int}{t:Tok}{v:Value}(hl:IsL s.heap l items n)(h0:0<=k)(hfit:k<2^63)(e:k=(j:Int))(a8:j<items.size)
  (hQ:Q () {s with heap:=s.heap.update l (Obj.mapSeq (·.setIfInBounds j v))}):aN (aD g.prog g.w) A (Bx (.ref l) (.int k t) v) Q E s:=by
 have hl':=hl.isList;obtain⟨o,ho,hc,ne,hd⟩:=id hl';unfold Bx
 with_reducible refine oz ?_
 refine aE (Uw hl'.typeIs (by decide) ?_);refine aE (Bt (name:=aI "__setitem__") hl'.typeIs UG (px UG hl'.typeIs entry_list_setitem ?_ (args_list_setitem _ _ _)));show aN _ _ (Builtin.List.listSubscript? (.int k t)>>=_) _ _ s;refine aE (wpAny_listSubscript_int (fitsIndex_of h0 hfit) ?_);subst e;show aN _ _ ((seqItemAt l j>>=λr=>pure (r.map (j,·)))>>=_) _ _ s;refine aE (aE (wpAny_seqItemAt ho hd (bw ?_)));rw[UH a8];show aN _ _ (setSeqItemAt l j v>>=_) _ _ s;exact aE (wpAny_setSeqItemAt ho hd (bw ⟨.none,rfl,bw hQ⟩))
end
section
variable{A:bA}{E:Value->ag->Prop}{s:ag}{μ:aO}{σ:ah}{l:List Env}{v u w:Value}{x y z:af}{Q:Unit->ag->Prop}
theorem LZ{i:Nat}{k:Int}{v:af}{F:ah->Ask}{o:cv}:(Cc i k v σ F o).P->(∃xs,o=.list xs/\ (0<=k/\ k<xs.length/\ k<=1000000)/\ (F (σ.set i (.list (xs.set k.toNat v)))).P) \/ ∃es,o=.bZ es/\ es.length<1000000/\ (F (σ.set i (.bZ (hY k v es)))).P:=by
 cases o with
 |list xs=>exact λp=>.inl ⟨xs,rfl,p⟩
 |bZ es=>exact λp=>.inr ⟨es,rfl,p⟩
 |_=>exact False.elim
theorem L1(S:br g μ σ s.heap)(ai:bf g μ s.heap x v)(ao:bf g μ s.heap z w)(hu:bf g μ s.heap y u){F:ah->Ask}(p:(setIndex x z y σ F).P)(H:∀{s' σ'},bo g l μ s μ s' σ'->(F σ').P->Q () s'):aN (aD g.prog g.w) A (Bx v w u) Q E s:=by
 obtain⟨i,rfl,p⟩:=jU p;obtain⟨k,rfl,p⟩:=jx p;obtain⟨t,rfl⟩:=ao;obtain⟨a,aa,rfl,ob⟩:=S.at_ ai
 rcases LZ p with⟨xs,e,az,p⟩|⟨es,e,az,p⟩
 ·rw[e]at ob;obtain⟨j,rfl⟩:=iy az.1;obtain⟨hp,vs,n,hl,hvs⟩:=ob;have hl2:=hl.update λxs=>xs.setIfInBounds j u;rw[List.setIfInBounds_toArray]at hl2;refine LY hl az.1 (eZ az.2.2 (by decide)) rfl (by rw[fa,hvs.length];exact dR.mp az.2.1) (H (bo.upd (tk:=s.toks) (o:=.list (xs.set j y)) S aa (λb ob e ae _w=>(x1 _ _ λz=>ae z.symm).trans e) λx0=>⟨hp,vs.set j u,_,hl2,(hvs.ext x0).set (hu.ext x0)⟩) p)
 ·rw[e]at ob;obtain⟨hp,vs,hd,hvs⟩:=ob;have hlen:=hvs.length;rw[cF]at hlen;refine wpAny_setItem_pairs (intKind_is _ _) hd (λh' hd' hs'=>H (bo.upd S aa (λb ob e ae _w=>(hs'.2 b ae).trans e) λx0=>?_) p) (by
   rw[By,cF,hlen,sI];exact aB (dA az) fj)
  have hnd:(es.map (·.1)).Nodup:=by
   obtain⟨_,_,_,_,_,_,_,_,hnd⟩:=hd
   rwa [oA (by rw[hlen,cF];exact bI _)]at hnd
  obtain⟨ws,e1,e2⟩:=Dt (k:=k) (hu.ext x0) hnd (hvs.ext x0);exact⟨hp,ws,e1▸hd',e2⟩
end
end
section
open PyProof.Rows PySem.Calls
variable{g:G}
theorem L2{T:Tab}{K:bt}{P:cq}{ρ:aQ}{σ:ah}:∀{as:List X}{cs:List af},lits as=some cs->cs.length=as.length/\ ∀{st},xL T as K P st ρ σ=K (cs.reverseAux st) ρ σ:=by
 intro as
 induction as with
 |nil=>intro _ h;cases h;exact⟨rfl,rfl⟩
 |cons a as ih=>
  intro _ h;cases a with
  |lit v=>
   obtain⟨r,h2,rfl⟩:=dZ h;exact⟨congrArg (· +1) (ih h2).1,λ{st}=>(ih h2).2⟩
  |_=>exact cU h
theorem zI{T:Tab}{K:bt}{P:cq}{st:List af}{ρ:aQ}{σ:ah}{x:X}{c:af}(h:rq x=some c):cc T x K P st ρ σ=K (c::st) ρ σ:=by
 cases x with
 |lit v=>cases h;rfl
 |tup xs=>
  obtain⟨cs,h2,rfl⟩:=dZ h;have L:=L2 (T:=T) (K:=Cm xs K) (P:=P) (ρ:=ρ) (σ:=σ) h2;exact L.2.trans (nF L.1)
 |_=>exact cU h
theorem tr{T:Tab}{K:bt}{P:cq}{ρ:aQ}{σ:ah}:∀{as:List X}{cs:List af},oZ as=some cs->cs.length=as.length/\ ∀{st},xL T as K P st ρ σ=K (cs.reverseAux st) ρ σ:=by
 intro as
 induction as with
 |nil=>intro _ h;cases h;exact⟨rfl,rfl⟩
 |cons a as ih=>
  intro _ h;obtain⟨c,aa,h⟩:=b8 h;obtain⟨r,h2,rfl⟩:=dZ h;exact⟨congrArg (· +1) (ih h2).1,λ{st}=>(zI aa).trans (ih h2).2⟩
theorem Du{x:X}(ak:bn g x){c:af}(hc:rq x=some c){W:Cfg}{ck e:aL}(h:re W.bQ x ck=some e){μ:aO}{σ:ah}{s:ag}{Q E:Value->ag->Prop}(C:Cx g W μ σ s.heap)(q:∀{v s'},bo g W.l μ s μ s' σ->bf g μ s'.heap c v->Q v s'):
  au (aD g.prog g.w) W.A (bY e W.env) Q E s:=
 ak (m:=false) h (K:=λst _w σ'=>.fin (st=[c]/\ σ'=σ)) (P:=iB) (st:=[]) C (by rw[zI hc];exact⟨rfl,rfl⟩) ⟨λ{v x' aF s' σ'} st r p=>by
  obtain⟨e1,rfl⟩:[x']=[c]/\ σ'=σ:=p
  cases e1
  obtain rfl:=st.1.1.eq_of_length (C.sim.1.trans st.2.1.symm)
  exact q st r⟩ ci ⟨λ_w _w p=>p.elim⟩
section
variable{K:Type}[DecidableEq K]
noncomputable def vY(knd:PySem.KeyKind g.prog g.w K)(e:Option aL)(k:K):Prop:=∃e',e=some e'/\ ∀{A env s Q E},(∀{v tk},knd.is k v=true->Q v {s with toks:=tk})->aN (aD g.prog g.w) A (bY e' env) Q E s
noncomputable def o0(knd:PySem.KeyKind g.prog g.w K):List (Option aL)->List K->Prop
 |[],js=>js=[]
 |e::es,js=>∃k r,js=k::r/\ vY knd e k/\ o0 knd es r
theorem zJ{α:Type}{knd:PySem.KeyKind g.prog g.w K}{f:α->Option aL->Option aL}{u:α->K}(hf:∀a q,vY knd (f a q) (u a)):∀{be:List α}{qs:List (Option aL)},qs.length=be.length->o0 knd (be.zipWith f qs) (be.map u)
 |[],_,_=>rfl
 |k::be,[],h=>nomatch h
 |k::be,q::qs,h=>⟨_,_,rfl,hf k q,zJ hf (fx h)⟩
variable{knd:PySem.KeyKind g.prog g.w K}
theorem o0.ok:∀{be:List (Option aL)}{js:List K},o0 knd be js->be.length=js.length/\ be.all (·.isSome)=true:=by
 intro be
 induction be with
 |nil=>intro _ h;cases h;exact⟨rfl,rfl⟩
 |cons e es ih=>
  intro _ h;obtain⟨k,r,rfl,⟨e',rfl,_⟩,h⟩:=h;exact⟨congrArg (· +1) (ih h).1,(ih h).2⟩
theorem L3{W:Cfg}{pos:Pos}{E:Value->ag->Prop}:∀{be:List (Option aL)}{js:List K},o0 knd be js-> ∀{as:List X}{cs:List af}{dg es:List aL},(∀a∈as,bn g a)->oZ as=some cs->eM W.bQ as dg=some es->js.length=as.length-> ∀{μ σ s}{Q:List (Value×Value)->ag->Prop},Cx g W μ σ s.heap->
  (∀{us vs s'},bo g W.l μ s μ s' σ->bC g μ s'.heap cs us->Carries knd vs (js.zip us)->Q vs s')->au (aD g.prog g.w) W.A (evalPairs (oB be es W.env pos)) Q E s:=by
 intro be
 induction be with
 |nil=>
  intro _ az as cs dg es aM hc hr hl μ σ s Q C q;cases az;cases as with
  |nil=>cases hc;cases hr;exact aT (evalPairs_nil (q (us:=[]) (.tok C.sim s.toks) rfl trivial))
  |cons _ _=>exact nomatch hl
 |cons e be ih=>
  intro _ az as cs dg es aM hc hr hl μ σ s Q C q;obtain⟨k,r,rfl,⟨e',rfl,hev⟩,az⟩:=az;cases as with
  |nil=>exact nomatch hl
  |cons a as=>
   obtain⟨c,aa,hc⟩:=b8 hc;obtain⟨cs,h2,rfl⟩:=dZ hc;obtain⟨x,bN,hr⟩:=b8 hr;obtain⟨xs,cu,hr⟩:=b8 hr;obtain⟨_,rfl⟩:=jV hr;rw[oB,evalPairs];refine seq (aT (hev λ{kv tk} hkv=>dD ?_));have s0:=bo.tok (l:=W.l) C.sim tk;refine seq (Du (aM a (.head _)) aa bN (C.at_ s0) λ{v s1} s1 v1=>cx (done (dD (ih az (λb ae=>aM b (.tail _ ae)) h2 cu (fx hl) (C.at_ (s0.trans s1)) λ{us vs s2} s2 v2 hcs=>done ?_))));exact q (us:=v::us) ((s0.trans s1).trans s2) ⟨v,us,rfl,v1.ext (s2.1.ext .nil),v2⟩ ⟨hkv,rfl,hcs⟩
end
end
section
open PyProof.Rows PySem.Calls
variable{g:G}
theorem set_push{σ:ah}{o o':cv}:(σ.push o).set σ.next o'=σ.push o':=congrArg (ah.mk _) (funext λj=>by
 by_cases h:j=σ.next
 ·exact(if_pos h).trans (if_pos h).symm
 ·exact(if_neg h).trans ((if_neg h).trans (if_neg h).symm))
theorem set_set{σ:ah}{i:Nat}{o o':cv}:(σ.set i o).set i o'=σ.set i o':=congrArg (ah.mk _) (funext λj=>by
 by_cases h:j=i
 ·exact(if_pos h).trans (if_pos h).symm
 ·exact(if_neg h).trans ((if_neg h).trans (if_neg h).symm))
theorem vZ{α:Type}[BEq α][LawfulBEq α]:∀{be:List α},distinct be=true->be.Nodup:=by
 intro be
 induction be with
 |nil=>
  intro _;exact uQ
 |cons k be ih=>
  intro h;have h:=bV h;refine sH.mpr ⟨λq=>?_,ih h.2⟩;rw[Bz.mpr q]at h;exact nomatch h.1
theorem zK{P:ef}{w:World}{K:Type}[DecidableEq K]{knd:PySem.KeyKind P w K}(h:aK):(h.push {cls:=.type "dict",data:=.dict #[]}).DictOf knd h.objs.size []:=Yp _
section
variable{M:iQ}{A:bA}{E:Value->ag->Prop}{s:ag}{env:Env}
theorem Dv{keys:List (Option aL)}{values:List aL}{pos:Pos}{Q:Value->ag->Prop}(hall:keys.all (·.isSome)=true)(hl:keys.length=values.length)(h:au M A (BA ((oB keys values env pos).map λp=>(some p.1,p.2))) Q E s):au M A (bY (.Dict keys values pos) env) Q E s:=by
 rw[arm_eval_Dict,zip_pairTrees keys values env pos hall hl];exact cx h
theorem L4{pairs:List (Sem Value×Sem Value)}{Q:Value->ag->Prop}(h0:pairs≠[])(hlen:pairs.length<17)(h:au M A (sJ pairs) (λd s'=>Q (.ref d) s') E s):au M A (BA (pairs.map λp=>(some p.1,p.2))) Q E s:=by
 rw[dictDisplay_pairs _ h0 hlen];exact seq (cC h λd s' h'=>done h')
end
section
variable{W:Cfg}{as:List X}{cs:List af}{dg es:List aL}{μ:aO}{σ:ah}{s:ag}{E:Value->ag->Prop}{pos:Pos}{K:Type}[DecidableEq K]{knd:PySem.KeyKind g.prog g.w K}{be:List (Option aL)}{js:List K}
theorem Dw{Q:ay->ag->Prop}(az:o0 knd be js)(aM:∀a∈as,bn g a)(hc:oZ as=some cs)(hr:eM W.bQ as dg=some es)(hl:js.length=as.length)(n:js.length<=15)(er:js.Nodup)(hp:be.length=es.length)(C:Cx g W μ σ (s.heap.push {cls:=.type "dict",data:=.dict #[]}))
  (hd:∀{s'},bo g W.l μ {s with heap:=s.heap.push {cls:=.type "dict",data:=.dict #[]}} μ s' σ->s'.heap.DictOf knd s.heap.objs.size [])
  (q:∀{us s' h' tk},bo g W.l μ {s with heap:=s.heap.push {cls:=.type "dict",data:=.dict #[]}} μ s' σ->bC g μ s'.heap cs us->h'.DictOf knd s.heap.objs.size (js.zip us)->hO s.heap.objs.size s'.heap h'->Q s.heap.objs.size {s' with heap:=h',toks:=tk}):
  au (aD g.prog g.w) W.A (sJ (oB be es W.env pos)) Q E s:=by
 have hkl:=az.ok;unfold sJ;refine seq (aT (UJ ?_));refine seq (hold ?_);rw[if_pos (by rw[HT _ _ _ _ hkl.2 hp,hkl.1];exact n)];refine seq (L3 az aM hc hr hl (s:={s with heap:=s.heap.push {cls:=.type "dict",data:=.dict #[]}}) C λ{us vs s'} s1 v1 hcs=>hold ?_);have hul:js.length=us.length:=hl.trans ((tr (T:=TT 0) (K:=λ_w _w _w=>.no) (P:=iB) (ρ:=W.ρ) (σ:=σ) hc).1.symm.trans v1.length.symm);have hz:(js.zip us).length=js.length:=by rw[By,<-hul,sI]
 refine aT (aE (wpAny_storeAll (knd:=knd) vs (js.zip us) [] _ _ hcs (hd s1) ?_ λh' hd' hs'=>bw (done (q s1 v1 ?_ hs'))))
 ·rw[hz,HU,jl];exact aB n (aB (by decide) fj)
 ·rwa [merged_nil_of_nodup _ (by rw[oA (bb hul)];exact er)]at hd'
end
end
section
open PyProof.Rows PySem.Calls
variable{g:G}
theorem tt{c:cg}:∀{as:List X}{dg es:List aL},eM c as dg=some es->es.length=as.length:=by
 intro as
 induction as with
 |nil=>intro _ _ h;cases h;rfl
 |cons a as ih=>
  intro _ _ h;obtain⟨l,_,h⟩:=b8 h;obtain⟨r,h2,h⟩:=b8 h;obtain⟨_,rfl⟩:=jV h;exact congrArg (· +1) (ih h2)
section
variable{W:Cfg}{as:List X}{cs:List af}{dg es:List aL}{μ:aO}{σ:ah}{s:ag}{E:Value->ag->Prop}{pos:Pos}{K:Type}[DecidableEq K]{knd:PySem.KeyKind g.prog g.w K}{be:List (Option aL)}{js:List K}{tu o:cv}
theorem Dx{Q:Value->ag->Prop}(az:o0 knd be js)(aM:∀a∈as,bn g a)(hc:oZ as=some cs)(hr:eM W.bQ as dg=some es)(hl:js.length=as.length)(n:js.length<=15)(n0:0<js.length)(er:js.Nodup)(C:Cx g W μ σ s.heap)
  (hin:∀{μ h p},eT g μ h p tu↔p.2=p.1/\ h.DictOf knd p.1 [])(hout:∀{μ h p us},p.2=p.1->h.DictOf knd p.1 (js.zip us)->bC g μ h cs us->eT g μ h p o)
  (q:∀{v aF s'},bo g W.l μ s aF s' (σ.push o)->bf g aF s'.heap (.loc σ.next) v->Q v s'):au (aD g.prog g.w) W.A (bY (.Dict be es pos) W.env) Q E s:=by
 have hkl:=az.ok;have hp:be.length=es.length:=hkl.1.trans (hl.trans (tt hr).symm);have hpt:=(HT be es W.env pos hkl.2 hp).trans hkl.1;obtain⟨aF,st,a,aa,e⟩:=bo.new (l:=W.l) C.sim (o:=tu) (ob:={cls:=.type "dict",data:=.dict #[]}) s.toks λ_w=>hin.mpr ⟨rfl,zK _⟩;have at_:∀{s'},bo g W.l aF {s with heap:=s.heap.push {cls:=.type "dict",data:=.dict #[]}} aF s' (σ.push tu)->a.2=a.1/\ s'.heap.DictOf knd s.heap.objs.size []:=λ{s'} s1=>by
  have t:=s1.2.5 _ _ aa;rw[show(σ.push tu).get σ.next=tu from if_pos rfl]at t;rw[oE e];exact hin.mp t
 refine Dv hkl.2 hp (L4 (λz=>by rw[z]at hpt;exact bq n0 hpt) (by rw[hpt];exact cM n (by decide)) (Dw az aM hc hr hl n er hp (C.at_ st) (λs1=>(at_ s1).2) λ{us s' h' tk} s1 v1 hd ar=>?_));have u:=bo.upd (l:=W.l) (tk:=tk) (o:=o) s1.2 aa (λb ob eb ae _w=>(ar.2 b (λz=>ae (z.trans (oE e)))).trans eb) λx0=>hout (at_ s1).1 (oE e▸hd) (v1.ext x0);rw[set_push]at u;exact q (st.trans (s1.trans u)) ⟨a,aa,e⟩
end
theorem L5(k:Int)(q:Option aL):vY (mR g.prog g.w) (cst (.int k) q) k:=⟨_,rfl,λhq=>Ug (hq (intKind_is _ _))⟩
theorem L6(k:String)(q:Option aL):vY (qN g.prog g.w) (cst (.str (aI k)) q) (aI k):=⟨_,rfl,λhq=>show aN _ _ (HE _) _ _ _ from Bk (hq (sA _ _ _ _))⟩
theorem zL{μ:aO}{h:aK}{p:ay×ay}:eT g μ h p (.bZ [])↔p.2=p.1/\ h.DictOf (mR g.prog g.w) p.1 []:=⟨λt=>⟨t.1,t.2.elim λ_w t=>t.1⟩,λt=>⟨t.1,[],t.2,rfl⟩⟩
theorem L7{μ:aO}{h:aK}{p:ay×ay}:eT g μ h p (.fg [])↔p.2=p.1/\ h.DictOf (qN g.prog g.w) p.1 []:=⟨λt=>⟨t.1,t.2.elim λ_w t=>t.1⟩,λt=>⟨t.1,[],t.2,rfl⟩⟩
theorem L8{μ:aO}{h:aK}{p:ay×ay}{be:List Int}{cs:List af}{us:List Value}(hl:cs.length=be.length)(e:p.2=p.1)(d:h.DictOf (mR g.prog g.w) p.1 (be.zip us))(v:bC g μ h cs us):eT g μ h p (.bZ (be.zip cs)):=
 ⟨e,us,by rw[oA (bb hl.symm)];exact d,by rw[HV (bb hl)];exact v⟩
theorem L9{μ:aO}{h:aK}{p:ay×ay}{be:List String}{cs:List af}{us:List Value}(hl:cs.length=be.length)(e:p.2=p.1)(d:h.DictOf (qN g.prog g.w) p.1 ((be.map aI).zip us))(v:bC g μ h cs us):eT g μ h p (.fg (be.zip cs)):=
 ⟨e,us,by rw[show(be.zip cs).map (λe=>aI e.1)=((be.zip cs).map (·.1)).map aI by rw[oF];rfl,oA (bb hl.symm)];exact d,by rw[HV (bb hl)];exact v⟩
theorem Ma{be:List String}{as:List X}(aM:∀a∈as,bn g a):bn g (.fg be as):=by
 intro W ck e h m μ σ s K P st Q E C p q ae aW;obtain⟨es,aa,h⟩:=b8 h;obtain⟨cs,hc,h⟩:=b8 h;obtain⟨n,rfl⟩:=gN h;obtain⟨n,n'⟩:=bV n;obtain⟨n,cS⟩:=bV n;obtain⟨n,n0⟩:=bV n;obtain⟨n3,fR⟩:=bV n';have hl:be.length=as.length:=eq_of_beq cS;have cl:=tr (T:=TT W.n) (K:=y6 be as K) (P:=P) (ρ:=W.ρ) (σ:=σ) hc;have p:Ask.P (xL (TT W.n) as (y6 be as K) P st W.ρ σ):=p;rw[cl.2]at p;have p:Ask.P (gJ as _ _ _):=p;rw[nF cl.1]at p;refine gm (λ_w=>rfl) q ae λ{Q'} q=>Dx (zJ L6 (eq_of_beq n3)) aM hc aa (by rw[cF,hl]) (by rw[cF];exact tn n) (by rw[cF];exact Nat.blt_eq.mp n0) ?_ C L7 (L9 (cl.1.trans hl.symm)) λst r=>q.1 st r p;exact List.pairwise_map.mpr ((vZ fR).imp λz e=>z (tl e))
end
section
open PyProof.Rows PySem.Calls
variable{g:G}
theorem set_same{σ:ah}{i:Nat}{o:cv}(h:σ.get i=o):σ.set i o=σ:=congrArg (ah.mk σ.next) (funext λj=>by
 by_cases a8:j=i
 ·exact(if_pos a8).trans (a8▸h.symm)
 ·exact if_neg a8)
theorem Mb{k:Int}{v:af}:∀{es:List (Int×af)},k∉es.map (·.1)->hY k v es=es++[(k,v)]:=by
 intro es
 induction es with
 |nil=>
  intro _;exact rfl
 |cons e es ih=>
  intro h;exact(if_neg λ(z:e.1=k)=>h (z▸.head _)).trans (congrArg (e::·) (ih λq=>h (.tail _ q)))
inductive Row {K:Type} [DecidableEq K] (g:G) (bQ:cg) (knd:PySem.KeyKind g.prog g.w K) (be:List (Option aL)) (js:List K) (as:List X) (cs:List af) (es:List aL):Prop
 |mk (k:o0 knd be js) (a:∀a∈as,bn g a) (c:oZ as=some cs) (r:∃dg,eM bQ as dg=some es) (l:js.length=as.length)
section
variable{W:Cfg}{E:Value->ag->Prop}{pos:Pos}{d:ay}{i:Nat}
theorem Mc:∀{n:Nat}{be:List (Option aL)}{js:List Int}{as:List X}{cs:List af}{es:List aL},Row g W.bQ (mR g.prog g.w) be js as cs es->n<=js.length-> ∀{μ σ s pre}{Q:PUnit->ag->Prop},Cx g W μ σ s.heap->σ.get i=.bZ pre->bf g μ s.heap (.loc i) (.ref d)->(pre.map (·.1)++js).Nodup->pre.length+js.length<=20->
  (∀{ks' js' as' cs' es' pre' s'},bo g W.l μ s μ s' (σ.set i (.bZ pre'))->Row g W.bQ (mR g.prog g.w) ks' js' as' cs' es'->pre'++js'.zip cs'=pre++js.zip cs->(oB be es W.env pos).drop n=oB ks' es' W.env pos->js'.length+n=js.length->Q ⟨⟩ s')->
  au (aD g.prog g.w) W.A (forIn ((oB be es W.env pos).take n) qV (λx r=>(do let kv<-x.1;let vv<-hJ [kv] x.2;hJ [kv,vv] (dictSet d kv vv);pure (qW qV)))) Q E s:=by
 intro n
 induction n with
 |zero=>
  intro be js as cs es R _ μ σ s pre Q C e _ _ _ q;exact done (q (by rw[set_same e];exact .tok C.sim s.toks) R rfl rfl rfl)
 |succ n ih=>
  intro be js as cs es R hn μ σ s pre Q C e ao hnd sz q;obtain⟨az,aM,hc,⟨dg,hr⟩,hl⟩:=R;cases be with
  |nil=>cases az;exact nomatch hn
  |cons ek be=>
   obtain⟨k,r,rfl,⟨e',rfl,hev⟩,az⟩:=az;cases as with
   |nil=>exact nomatch hl
   |cons a as=>
    obtain⟨c,aa,hc⟩:=b8 hc;obtain⟨cs,h2,rfl⟩:=dZ hc;obtain⟨x,bN,hr⟩:=b8 hr;obtain⟨xs,cu,hr⟩:=b8 hr;obtain⟨_,rfl⟩:=jV hr;rw[oB,List.take_succ_cons,oG];refine seq (seq (aT (hev λ{kv tk} hkv=>seq (hold (seq ?_)))));have s0:=bo.tok (l:=W.l) C.sim tk;refine Du (aM a (.head _)) aa bN (C.at_ s0) λ{v zq} s1 v1=>cx (done (seq (hold ?_)));have s1:=s0.trans s1;obtain⟨p,hp,ep⟩:=ao;have o:=s1.2.5 _ _ hp;rw[e]at o;obtain⟨e2,vs,hd,hvs⟩:=o;rw[<-oE ep]at hd;obtain⟨dv,_,n3⟩:=x5.mp hnd;have hlen:=hvs.length;rw[cF]at hlen;refine aT (wpAny_dictSet_pairs hkv hd (λhp2 hd2 hs2=>?_) (by
     rw[By,cF,hlen,sI];exact aB (c8 _ _) (aB sz (aB (by decide) fj))))
    have hni:k∉pre.map (·.1):=λz=>n3 _ z _ (.head _) rfl;have u:=bo.upd (l:=W.l) (tk:=zq.toks+1) (o:=.bZ (hY k c pre)) s1.2 hp (λb ob eb ae _w=>(hs2.2 b (λz=>ae (z.trans (oE ep)))).trans eb) λx0=>by
     obtain⟨ws,q1,q2⟩:=Dt (k:=k) (v1.ext x0) dv (hvs.ext x0);rw[q1,oE ep]at hd2;exact⟨e2,ws,hd2,q2⟩
    rw[Mb hni]at u;have u:=s1.trans u;refine done (ih ⟨az,λb ae=>aM b (.tail _ ae),h2,⟨_,cu⟩,fx hl⟩ (Nat.le_of_succ_le_succ hn) (C.at_ u) (if_pos rfl) ⟨p,hp,ep⟩ ?_ ?_ λ{ks' js' as' cs' es' pre' s'} t R' t1 t2 t3=>q (set_set▸u.trans t) R' (t1.trans (cG ..)) t2 (congrArg (· +1) t3))
    ·rw[cN,cG];exact hnd
    ·rw[bR,lU,uR [(k,c)].length];exact sz
end
end
section
open PyProof.Rows PySem.Calls
section
variable{prog:ef}{w:World}{K:Type}[DecidableEq K]{knd:PySem.KeyKind prog w K}{A:bA}{E:Value->ag->Prop}{s:ag}
theorem Md{d:ay}{kvs:List (K×Value)}{k:K}{key v:Value}{Q:Unit->ag->Prop}(hkey:knd.is k key=true)(hm:s.heap.DictOf knd d kvs)(hnot:k∉kvs.map (·.1))(hsz:kvs.length<=d0)
  (hQ:∀h',h'.DictOf knd d (kvs++[(k,v)])->hO d s.heap h'->Q () {s with heap:=h'}):aN (aD prog w) A (x6 d (knd.hash k) key v) Q E s:=by
 refine ao λG z=>?_;obtain⟨o,es,ep,ho,hc,hd,az,hp,hn⟩:=hm;refine z ?_;clear z G;have hes:es.size<=d0:=by rw[<-x7,hp.length];exact hsz
 unfold x6;refine aE (wpAny_dictFind_of hkey ho hd az ?_);have ao:(es.findIdx? λe=>knd.is k e.key)=none:=by
  have hidx:(es.findIdx? λe=>knd.is k e.key)=kvs.findIdx? λkv=>decide (kv.1=k):=by
   rw[<-hp.findIdx k];obtain⟨l⟩:=es;simp
  rw[hidx,List.findIdx?_eq_none_iff];exact λkv hkv=>decide_eq_false λe=>hnot (iS.mpr ⟨kv,hkv,e⟩)
 rw[ao];refine wpAny_updateDictKeys (hz:=hes) ho hd (hQ _ ⟨_,_,ep+1,uN _ ho (Obj.isFreed_of_dict (UK hd _)),hc.mapDictKeys _,UK hd _,az.push hkey _,?_,?_⟩ (HW ..))
 ·rw[Array.toList_push];exact hp.append hkey (knd.hash k) v
 ·rw[cN,x5];exact⟨hn,sH.mpr ⟨el,uQ⟩,λa aM b ae e=>hnot ((e.trans (bW.mp ae):a=k)▸aM)⟩
theorem zM{a:ay}{oa:Obj}{ea:Array hG}{pa:Nat}(aM:s.heap.get? a=some oa)(hd:oa.data=.dict ea pa){Q:Array hG->ag->Prop}(h:Q ea s):aN (aD prog w) A (HX a) Q E s:=by
 unfold HX;refine aE (uM aM ?_);rw[hd];exact bw h
theorem Dy{a:ay}{oa:Obj}{ea:Array hG}{pa:Nat}(aM:s.heap.get? a=some oa)(hd:oa.data=.dict ea pa){Q:Nat->ag->Prop}(h:Q pa s):aN (aD prog w) A (HY a) Q E s:=by
 unfold HY;refine aE (uM aM ?_);rw[hd];exact bw h
theorem Me{d a:ay}{oa:Obj}{ea:Array hG}{pa:Nat}(hda:a≠d)(hda':oa.data=.dict ea pa)(hka:KeysOf knd ea)
  {f:Nat->PUnit->Sem (ForInStep PUnit)}(hf:∀i u,f i u=(HX a>>=λes=>match es[i]? with
   |some e=>(do
    hJ [e.key,e.val] (if false=true then(dictFind d e.key e.hash>>=λr=>if r.isSome=true then(do rule "dict.merge.duplicate-key";let x<-newExc (.type "KeyError") [e.key];raiseNew x;x6 d e.hash e.key e.val)else x6 d e.hash e.key e.val)else x6 d e.hash e.key e.val)
    HY a>>=λq=>if(q !=pa)=true then(do x8 "dict.changed-during-merge";pure (qW qV))else pure (qW qV))
   |_=>(do x8 "dict.changed-during-merge";pure (qW qV)))):
  ∀{m i:Nat}{kvs kvs2:List (K×Value)}{s:ag}{Q:PUnit->ag->Prop},i+m=ea.size->Pairs knd (ea.toList.drop i) kvs2->s.heap.get? a=some oa->s.heap.DictOf knd d kvs->((kvs++kvs2).map (·.1)).Nodup->(kvs++kvs2).length<=d0->
   (∀h',h'.DictOf knd d (kvs++kvs2)->hO d s.heap h'->Q ⟨⟩ {s with heap:=h'})->aN (aD prog w) A (forIn (qR i m) qV f) Q E s:=by
 intro m
 induction m with
 |zero=>
  intro i kvs kvs2 s Q ao hp hoa hd _ _ hQ;rw[BB (by rw[x7];exact bb ao.symm)]at hp;cases hp;rw[dK]at hQ;exact bw (hQ s.heap hd (.refl ..))
 |succ m ih=>
  intro i kvs kvs2 s Q ao hp hoa hd hnd hsz hQ;have hlt:i<ea.size:=ao▸jp (mY m);rw[oH (by rw[x7];exact hlt),Array.getElem_toList]at hp;cases hp with
  |@cons _ kv _ rest aa h2 hp=>
   rw[BC,oG,hf];obtain⟨k',hk',aZ⟩:=hka ea[i] (Array.getElem_mem hlt);obtain rfl:=knd.inj _ _ _ hk' aa;have ea:=cG kvs [kv] rest;refine aE (aE (zM hoa hda' ?_));rw[UH hlt];dsimp only;rw[if_neg qX,aZ,h2];refine aE (oz (Md aa hd ?_ (aB (by rw[bR];exact c8 _ _) hsz) λh' hd' hs'=>?_))
   ·intro hm;rw[cN,x5]at hnd;exact hnd.2.2 _ hm _ (.head _) rfl
   have hoa':h'.get? a=some oa:=(hs'.2 a hda).trans hoa;refine aE (Dy (s:={s with heap:=h'}) hoa' hda' ?_);rw[if_neg (by rw[bne_self_eq_false];exact qX)];refine bw (ih (s:={s with heap:=h'}) (by rw[<-ao,oJ];rfl) hp hoa' hd' (ea▸hnd) (ea▸hsz) λh'' x y=>hQ h'' (ea▸x) (hs'.trans y))
theorem Mf{d a:ay}{kvs kvs2:List (K×Value)}(hda:a≠d)(ar:(a==sv)=false)(hd:s.heap.DictOf knd d kvs)(aM:s.heap.DictOf knd a kvs2)(h0:kvs≠[])(hnd:((kvs++kvs2).map (·.1)).Nodup)(hsz:(kvs++kvs2).length<=d0)
  {Q:Unit->ag->Prop}(hQ:∀h',h'.DictOf knd d (kvs++kvs2)->hO d s.heap h'->Q () {s with heap:=h'}):aN (aD prog w) A (BD d (.ref a) false) Q E s:=by
 have hT:=aM.typeIs;refine ao λG z=>?_;obtain⟨oa,ea,pa,hoa,hca,hda',hka,hpa,hna⟩:=id aM;obtain⟨od,ed,pd,hod,hcd,hdd,hkd,hpd,hnd'⟩:=id hd;refine z ?_;clear z G;have hed:ed.isEmpty=false:=by
  cases q:ed.isEmpty with
  |false=>rfl
  |true=>
   have e1:=hpd.length;rw[x7,Array.isEmpty_iff_size_eq_zero.mp q]at e1;exact absurd (x9.mp e1.symm) h0
 unfold BD;have hl:kf (.type "dict") "__iter__"=pure (some (.builtin "dict.__iter__")):=by rw[UL,UM];kernel_rfl
 refine aE (ya (T:="dict") (b:=true) hT (by rw[UN];kernel_rfl) ?_);rw[if_pos rfl];unfold yb;refine aE (aE (sF hT ?_));rw[hl];refine bw (aE (bw ?_));rw[show(some (UO "dict.__iter__")==some (UO "dict.__iter__"))=true from beq_self_eq_true _];dsimp only;rw[if_neg (by rw[ar];exact qX)];refine aE (zM hod hdd ?_);rw[if_neg (by rw[hed];exact qX)];refine aE (zM hoa hda' (aE (Dy hoa hda' ?_)));rw[List.range_eq_range'];refine aE (Me hda hda' hka (λi u=>?_) (jl _) hpa hoa hd hnd hsz λh' x y=>bw (hQ h' x y));rfl
theorem gather{main:Option ay}{f:(Option (Sem Value)×Sem Value)->(Option ay×List (Sem Value×Sem Value))->Sem (ForInStep (Option ay×List (Sem Value×Sem Value)))}
  (hf:∀(p:Sem Value×Sem Value) (run:List (Sem Value×Sem Value)),run.length+1<17->f (some p.1,p.2) (main,run)=pure (.yield (main,run++[p]))){tail:List (Option (Sem Value)×Sem Value)}:
  ∀{items run:List (Sem Value×Sem Value)},run.length+items.length<17->forIn (items.map (λp=>(some p.1,p.2))++tail) (main,run) f=forIn tail (main,run++items) f:=by
 intro items
 induction items with
 |nil=>
  intro run _;rw[dK];rfl
 |cons p rest ih=>
  intro run h;rw[l9,List.cons_append,oG,hf p run (cM (fH (jn (du _)) _) h),pure_bind];exact(ih (by rw[bR,lU,uR [p].length];exact h)).trans (by rw[cG];rfl)
theorem Mg{n:Nat}(h:n+1<17):((n+1)==17)=false:=beq_eq_false_iff_ne.mpr (bq h)
theorem Mh(as:List (Sem Value×Sem Value))(p:Sem Value×Sem Value)(bs:List (Sem Value×Sem Value))(aM:as.length=16)(ae:bs.length<17)(h0:bs.isEmpty=false):
  BA ((as++p::bs).map λp=>(some p.1,p.2))=(do
   let d<-sJ (as++[p])
   let sub<-hJ [.ref d] (sJ bs)
   (hJ [.ref d,.ref sub] (BD d (.ref sub) false)).onRaise λx=>do let _<-hJ [.ref d,x] (Hk (.builtin "proto.let_go" {}))
   pure (.ref d)):=by
 unfold BA;dsimp only;have hf:∀{main:Option ay}(p:Sem Value×Sem Value)(run:List (Sem Value×Sem Value)),run.length+1<17->((run++[(p.1,p.2)]).length==17)=false:=λp run h=>by rw[bR];exact Mg h
 rw[cN,gather (main:=none) (λp run h=>by simp only[hf (main:=none) p run h,xM,if_false]) (by rw[aM];decide)];rw[l9,oG];dsimp only;rw[if_pos (by rw[bR,yc,aM];rfl),yc];rw[show(as++[(p.1,p.2)]).isEmpty=false by cases as<;>rfl]at ⊢;simp only[xM,if_false,bind_assoc,pure_bind]
 congr 1
 funext d
 rw[<-dK (yd _ bs),gather (main:=some d) (λp run h=>by simp only[hf (main:=none) p run h,xM,if_false]) (by rw[HU,jl];exact ae)];simp only[List.forIn_nil,pure_bind,yc,h0,xM,if_false,bind_assoc]
end
end
section
open PyProof.Rows PySem.Calls
variable{g:G}
theorem bo.fresh{l:List Env}{μ aF:aO}{s aH:ag}{gk:ah}{h':aK}{tk:Nat}{a:ay}(x:bo g l μ s aF aH gk)(aM:s.heap.get? a=none)(er:¬cj aF a)(nt:∀vs,¬gW aH.heap a vs)(nb:g.base.get? a=none)(k:∀b ob,aH.heap.get? b=some ob->b≠a->h'.get? b=some ob):
  bo g l μ s aF {aH with heap:=h',toks:=tk} gk/\ Ext aF aH.heap aF h':=by
 have ne:∀{b:ay}{o:Obj},s.heap.get? b=some o->b≠a:=λe z=>none_of e (z▸aM);have one:∀{P:ay->Prop},P a-> ∀b∈[a],P b:=λh b ae=>bW.mp ae▸h;refine⟨⟨⟨x.1.1,λb o e ae hd=>(x.1.2 b o e ae hd).imp (λe'=>k b o e' (ne e)) λq=>⟨q.1,q.2.imp λcO e'=>k b _ e' (ne e)⟩,λb o e=>(x.1.3 b o e).imp λo' e'=>k b o' e' (ne e),x.1.4⟩,?_,by rw[x.3]⟩,mS _,λ{c vs} H=>⟨H.1.imp λo z=>⟨k c o z.1 (λq=>nt vs (q▸⟨o,z⟩)),z.2⟩,H.2⟩⟩;exact x.2.keep (W:=[a]) (λb o e ae=>k b o e λq=>ae (q▸.head _)) (one nt) (one er) (one nb)
theorem Mi{P:ef}{w:World}{K:Type}[DecidableEq K]{knd:PySem.KeyKind P w K}{h:aK}{a:ay}{kvs:List (K×Value)}(d:h.DictOf knd a kvs)(vs:Array Value):¬gW h a vs:=λy=>by
 obtain⟨o,es,ep,ho,_,hd,_⟩:=d;obtain⟨o',ho',_,n,hd'⟩:=y;cases ho.symm.trans ho';exact nomatch hd.symm.trans hd'
section
variable{W:Cfg}{as:List X}{cs:List af}{es:List aL}{μ:aO}{σ:ah}{s:ag}{E:Value->ag->Prop}{pos:Pos}{be:List (Option aL)}{js:List Int}
theorem Mj{Q:Value->ag->Prop}(KK:c0 g)(R:Row g W.bQ (mR g.prog g.w) be js as cs es)(n:js.length=20)(er:js.Nodup)(C:Cx g W μ σ s.heap)
  (q:∀{v aF s'},bo g W.l μ s aF s' (σ.push (.bZ (js.zip cs)))->bf g aF s'.heap (.loc σ.next) v->Q v s'):au (aD g.prog g.w) W.A (bY (.Dict be es pos) W.env) Q E s:=by
 have hkl:=R.1.ok;obtain⟨dg,hr⟩:=R.4;have hp:be.length=es.length:=hkl.1.trans (R.5.trans (tt hr).symm);have hpt:=((HT be es W.env pos hkl.2 hp).trans hkl.1).trans n;refine ao λG z=>?_;obtain⟨aF,st,a,aa,e⟩:=bo.new (l:=W.l) C.sim (o:=.bZ []) (ob:={cls:=.type "dict",data:=.dict #[]}) s.toks λ_w=>zL.mpr ⟨rfl,zK _⟩;refine z ?_;clear z G;have ea:s.heap.objs.size=a.1:=oE e;refine Dv hkl.2 hp ?_;have L:=Mc (E:=E) (pos:=pos) (Q:=λ_w s'=>au (aD g.prog g.w) W.A (do
   let sub<-hJ [.ref s.heap.objs.size] (sJ ((oB be es W.env pos).drop 17))
   (hJ [.ref s.heap.objs.size,.ref sub] (BD s.heap.objs.size (.ref sub) false)).onRaise λx=>do let _<-hJ [.ref s.heap.objs.size,x] (Hk (.builtin "proto.let_go" {}))
   pure (.ref s.heap.objs.size)) Q E s') (n:=17) (s:={s with heap:=s.heap.push {cls:=.type "dict",data:=.dict #[]}}) R (by rw[n];decide) (C.at_ st) (pre:=[]) (i:=σ.next) (if_pos rfl) ⟨a,aa,e⟩ er (by rw[n];decide) ?_
 ·generalize oB be es W.env pos=bJ at*;have hd:bJ.drop 16=bJ[16]::bJ.drop 17:=oH (by rw[hpt];decide);have ht:bJ.take 17=bJ.take 16++[bJ[16]]:=ye (by rw[hpt];decide);have ar:=List.take_append_drop 16 bJ;rw[hd]at ar;rw[<-ar,Mh _ _ _ (by rw[l7,hpt];rfl) (by rw[oy,hpt];decide) (by rw[List.isEmpty_eq_false_iff];intro z;have:=congrArg qM z;rw[oy,hpt]at this;exact nomatch this),<-ht];unfold sJ;refine seq (seq (aT (UJ (seq (hold ?_)))));rw[if_neg (by rw[l7,hpt];decide)];exact seq (aT (jK (seq (cC L λ_w s' h=>done (done h)))))
 ·intro ks' js' as' cs' es' pre' s' s1 R' t1 t2 t3;have js3:js'.length=3:=Nat.add_right_cancel (t3.trans n);obtain⟨Xq,hr'⟩:=R'.4;have cl:=(tr (T:=TT 0) (K:=λ_w _w _w=>.no) (P:=iB) (ρ:=W.ρ) (σ:=σ) R'.3).1.trans R'.5.symm;have cl0:=(tr (T:=TT 0) (K:=λ_w _w _w=>.no) (P:=iB) (ρ:=W.ρ) (σ:=σ) R.3).1.trans R.5.symm;have ej:pre'.map (·.1)++js'=js:=by
   have:=congrArg (yd (·.1)) t1
   rwa [cN,oA (bb cl.symm),yc,oA (bb cl0.symm)]at this
  have nd2:=ej.symm▸er;rw[set_push]at s1;have S1:=st.trans s1;have C1:=C.at_ S1
  have fb:=d3 s'.heap;have ndb:¬cj aF s'.heap.objs.size:=λq=>(C1.sim.live q).elim λo ho=>none_of ho fb;have hZ:s'.heap.objs.size∉frames W.l:=C1.iH.not fb;have nb:=C1.sim.old fb;have sp:=bo.push (l:=W.l) C1.sim {cls:=.type "dict",data:=.dict #[]};have hd:∀{s2},bo g W.l aF {s' with heap:=s'.heap.push {cls:=.type "dict",data:=.dict #[]}} aF s2 (σ.push (.bZ pre'))->s2.heap.DictOf (mR g.prog g.w) s'.heap.objs.size []:=λ{s2} t=>
   ⟨_,#[],0,(t.1.2 _ _ (gX _ rfl) el ndb).resolve_right λq=>hZ q.1,⟨rfl,rfl,rfl⟩,rfl,λ_w he=>(Array.not_mem_empty _ he).elim,Pairs.nil,uQ⟩
  rw[t2];refine dD (Dw R'.1 R'.2 R'.3 hr' R'.5 (by rw[js3];decide) (x5.mp nd2).2.1 (R'.1.ok.1.trans (R'.5.trans (tt hr').symm)) (C1.at_ sp) hd λ{us s2 h' tk} s2' v1 hd' hs'=>?_);have F:=bo.fresh (h':=h') (tk:=tk) (sp.trans s2') fb ndb (Mi (hd s2')) nb λb' ob eb ae=>(hs'.2 b' ae).trans eb;have o:=F.1.2.5 _ _ aa;rw[show(σ.push (.bZ pre')).get σ.next=.bZ pre' from if_pos rfl]at o;obtain⟨e2,vs,hda,hvs⟩:=o;have hvl:=hvs.length;rw[cF]at hvl;have hul:js'.length=us.length:=cl.symm.trans v1.length.symm;have z1:((pre'.map (·.1)).zip vs).map (·.1)=pre'.map (·.1):=oA (by rw[hvl,cF];exact bI _);have zz:(((pre'.map (·.1)).zip vs)++js'.zip us).map (·.1)=js:=by rw[cN,z1,oA (bb hul),ej]
  have l20:=(congrArg qM zz).trans n;rw[cF]at l20;refine seq (jt (hold (aT (Mf (knd:=mR g.prog g.w) (λz=>?_) (beq_eq_false_iff_ne.mpr λz=>KK.11.elim λo ho=>none_of ho (z▸nb)) (ea▸hda) hd' (λz=>?_) (zz▸er) (by rw[l20];exact aB (by decide) fj) λh4 hd4 hs4=>done ?_))))
  ·exact(C1.sim.live (.of aa)).elim λo ho=>none_of ho (ea▸z▸fb)
  ·rw[z,yc,By,<-hul,sI,js3]at l20;exact nomatch l20
  ·have u:=bo.upd (l:=W.l) (h':=h4) (tk:=tk) (o:=.bZ (pre'++js'.zip cs')) F.1.2 aa (λb ob eb ae _w=>(hs4.2 b (λz=>ae (z.trans ea))).trans eb) λx0=>⟨e2,vs++us,?_,?_⟩
   ·rw[set_push,t1]at u;exact q (S1.trans (F.1.trans u)) ⟨a,aa,e⟩
   ·rw[cN,oA (bb cl.symm),List.zip_append (by rw[cF,hvl]),<-ea];exact hd4
   ·rw[cN,HV (bb cl)];exact((v1.ext F.2).ext x0).append (hvs.ext x0)
end
theorem Mk(KK:c0 g){be:List Int}{as:List X}(aM:∀a∈as,bn g a):bn g (.bZ be as):=by
 intro W ck e h m μ σ s K P st Q E C p q ae aW;obtain⟨es,aa,h⟩:=b8 h;obtain⟨cs,hc,h⟩:=b8 h;obtain⟨n,rfl⟩:=gN h;obtain⟨n,n'⟩:=bV n;obtain⟨n,cS⟩:=bV n;obtain⟨n3,fR⟩:=bV n';have hl:be.length=as.length:=eq_of_beq cS;have cl:=tr (T:=TT W.n) (K:=y5 be as K) (P:=P) (ρ:=W.ρ) (σ:=σ) hc;have p:Ask.P (xL (TT W.n) as (y5 be as K) P st W.ρ σ):=p;rw[cl.2]at p;have p:Ask.P (gJ as _ _ _):=p;rw[nF cl.1]at p;have az:=zJ (g:=g) L5 (eq_of_beq n3);rw[List.map_id']at az;refine gm (λ_w=>rfl) q ae λ{Q'} q=>?_;have q:=λ{v aF s'}(st':bo g W.l μ s aF s' (σ.push (.bZ (be.zip cs))))(r:bf g aF s'.heap (.loc σ.next) v)=>q.1 st' r p;by_cases h20:be.length=20
 ·exact Mj KK ⟨az,aM,hc,⟨_,aa⟩,hl⟩ h20 (vZ fR) C q
 ·have n:be.length<=15:=(BE.mp n).elim tn λz=>absurd (eq_of_beq z) h20;by_cases h0:be.length=0
  ·obtain rfl:=x9.mp h0;obtain rfl:=x9.mp (hl.symm.trans h0);cases hc;cases aa;obtain⟨aF,st',r⟩:=bo.new (l:=W.l) C.sim (o:=.bZ []) (ob:={cls:=.type "dict",data:=.dict #[]}) s.toks λ_w=>zL.mpr ⟨rfl,zK _⟩;exact aT (wpAny_Dict_empty (q st' r))
  ·exact Dx az aM hc aa hl n (UP h0) (vZ fR) C zL (L8 (cl.1.trans hl.symm)) q
end
section
open PyProof.Rows PySem.Calls
theorem i9{T:String}{n:Str}{r:Option Value}(h:UQ T n=some r):kf (.type T) n=pure r:=by rw[UL,UM,h]
theorem zN{T:String}{b:Value}(h:(UR T).map (·.contains b)=some true):isSubtype (.type T) b=pure true:=by
 obtain⟨m,aa,h2⟩:=su.mp h;rw[UN,aa];exact congrArg pure h2
theorem cO{T n id:String}(aa:UQ T (aI n)=some (some (.builtin id)))(h2:splitId id=some (T,n))(h3:HZ id "#opaque"=none)(h4:HZ id "#data"=none)(h5:(UT T).bind (·.attrs.lookup n)=some .slot \/(UT T).bind (·.attrs.lookup n)=some .method)
  (h6:(UR T).map (·.contains (.type T))=some true)(h7:plainId id=true):py T (aI n) id:=.of (i9 aa) h2 h3 h4 h5 (zN h6) h7
namespace Fa
open Builtin
theorem Ml:py "bytearray" "__len__" "bytearray.__len__":=cO (by kernel_rfl) (by kernel_rfl) (by kernel_rfl) (by kernel_rfl) (.inl (by kernel_rfl)) (by kernel_rfl) (by kernel_rfl)
theorem entry_len:mZ kV "bytearray.__len__"=some Builtin.«bytearray.__len__» :=sK (by kernel_rfl)
theorem Mm(a:Value):iT "bytearray.__len__" ⟨[a],[]⟩:=by unfold iT;kernel_rfl
theorem Dz:py "bytearray" "append" "bytearray.append":=cO (by kernel_rfl) (by kernel_rfl) (by kernel_rfl) (by kernel_rfl) (.inr (by kernel_rfl)) (by kernel_rfl) (by kernel_rfl)
theorem Mn:mZ kV "bytearray.append"=some Builtin.«bytearray.append» :=sK (by kernel_rfl)
theorem Mo(a b:Value):iT "bytearray.append" ⟨[a,b],[]⟩:=by unfold iT;kernel_rfl
theorem DA:py "bytearray" "extend" "bytearray.extend":=cO (by kernel_rfl) (by kernel_rfl) (by kernel_rfl) (by kernel_rfl) (.inr (by kernel_rfl)) (by kernel_rfl) (by kernel_rfl)
theorem Mp:mZ kV "bytearray.extend"=some Builtin.«bytearray.extend» :=sK (by kernel_rfl)
theorem Mq(a b:Value):iT "bytearray.extend" ⟨[a,b],[]⟩:=by unfold iT;kernel_rfl
theorem none_index:kf (.type "bytearray") "__index__"=pure none:=i9 (by kernel_rfl)
theorem Mr:kf (.type "bytearray") "__bytes__"=pure none:=i9 (by kernel_rfl)
theorem buffer:kf (.type "bytearray") "__buffer__"=pure (some (.builtin "bytearray.__buffer__")):=i9 (by kernel_rfl)
theorem Ms:kf (.type "bytearray") "__release_buffer__"=pure (some (.builtin "bytearray.__release_buffer__")):=i9 (by kernel_rfl)
theorem Mt:kf (.type "bytes") "__bytes__"=pure (some (.builtin "bytes.__bytes__")):=i9 (by kernel_rfl)
end Fa
section
variable{α:Type}{M:iQ}{A:bA}{E:Value->ag->Prop}{s:ag}{c:Bool}{t e:Sem α}{Q:α->ag->Prop}
theorem gn(hc:c=false)(h:au M A e Q E s):au M A (if c=true then t else e) Q E s:=by subst hc;exact h
theorem tv(hc:c=true)(h:au M A t Q E s):au M A (if c=true then t else e) Q E s:=by subst hc;exact h
end
section
variable{prog:ef}{w:World}{A:bA}{E:Value->ag->Prop}{s:ag}{R:jG->ag->Prop}
noncomputable abbrev Mu(M:iQ)(A:bA)(R:jG->ag->Prop):PySem.Fin->ag->Prop:=λfin s'=>match fin with|.done f=>R (.ok f) s'|.again dL=>dL.quiet=true/\ km dL=true/\ d2 M A dL R s'
theorem zO{id:String}{args:xN}{b:Builtin}(ae:mZ kV id=some b)
  (h:au (aD prog w) (A.under (.builtin id args)) (b args) (Mu (aD prog w) A R) (λe s'=>R (.error e) s') s):d2 (aD prog w) A (.builtin id args) R s:=by
 refine iZ ?_;show au _ _ (match mZ kV id with|some b=>b args|none=>x8 ((HZ id "#data").getD id)) _ _ s;rw[ae];exact h
theorem zP{T:String}{name:Str}{id:String}{b:Builtin}{self:Value}{rest:List Value}{Q:Value->ag->Prop}(h:py T name id)(hT:s.TypeIs self T)(ae:mZ kV id=some b)(hcl:km (.builtin id ⟨self::rest,[]⟩)=true)
  (hc:au (aD prog w) A.in1 (b ⟨self::rest,[]⟩) (λfin s'=>∃v,fin=.done (.ret v)/\ Q v s') E s)(aM:iT id ⟨self::rest,[]⟩):au (aD prog w) A (call (.builtin id) (self::rest)) Q E s:=by
 refine pN (iZ ?_);show au _ A.in1 (do qY id ⟨self::rest,[]⟩;again (.builtin id ⟨self::rest,[]⟩)) _ _ s;refine seq (aT (h.check _ _ _ _ _ _ _ _ hT aM (done ⟨H0 h.plain _,hcl,zO ae ?_⟩)));rw[H1 h.plain _];exact mono hc (λfin s' h'=>by obtain⟨v,rfl,ai⟩:=h';exact ai) λ_w _w h'=>h'
end
noncomputable def eV(b:Array UInt8):Obj:={cls:=.type "bytearray",data:=.bytearray b 0}
theorem Mv{f:l0×Pos->Bool}(hf:∀x,km x.1=true->f x=false):∀{l:List (l0×Pos)},(∀x∈l,km x.1=true)->l.any f=false:=by
 intro l
 induction l with
 |nil=>
  intro _;exact rfl
 |cons x l ih=>
  intro h;rw[Bv,hf x (h x (.head _)),ih λy hy=>h y (.tail _ hy)];rfl
section
variable{prog:ef}{w:World}{A:bA}{E:Value->ag->Prop}{s:ag}{a:ay}{b:Array UInt8}
theorem nG(h:s.heap.get? a=some (eV b)):s.TypeIs (.ref a) "bytearray":=⟨_,h,rfl⟩
theorem DB{v:Value}{Q:Bool->ag->Prop}(h:Q false s):au (aD prog w) A (Builtin.Bytes.exported v) Q E s:=by
 intro cB p dm hc;unfold Builtin.Bytes.exported;show Q _ s;rw[Mv (λx ak=>?_) (λx ak=>(gA.mp ak).elim (λe=>e▸hc.1) (hc.2 x))]
 ·exact h
 ·obtain⟨c,p⟩:=x;cases c with
  |builtin id args=>
   have ak:(!za.contains id)=true:=ak;have n:∀{i:String},za.contains i=true->id≠i:=λao e=>by rw[e,ao]at ak;exact nomatch ak
   delta Builtin.Bytes.exported.match_1
   refine(dif_neg (n (i:="bytearray.__contains__") (by decide+kernel))).trans ?_;refine(dif_neg (n (i:="bytearray.__mod__") (by decide+kernel))).trans ?_;refine(dif_neg (n (i:="bytearray.__rmod__") (by decide+kernel))).trans ?_;refine(dif_neg (n (i:="_struct.pack_into.held") (by decide+kernel))).trans ?_;refine(dif_neg (n (i:="bytearray.find.held") (by decide+kernel))).trans ?_;obtain⟨pos,kw⟩:=args;cases pos with
   |nil=>rfl
   |cons u r=>
    refine(congrArg (Builtin.Bytes.sameRef u v&&·) ?_).trans (UC _);exact Bl.mpr λq=>n (Bz.mpr (mc _ (Bz.mp q))) rfl
  |_=>rfl
theorem DC{Q:Nat->ag->Prop}(ho:s.heap.get? a=some (eV b))(h:Q 0 s):au (aD prog w) A (Builtin.Bytes.exportsOf (.ref a)) Q E s:=by
 unfold Builtin.Bytes.exportsOf;exact seq (aT (oK ho (done h)))
theorem DD{Q:Unit->ag->Prop}(ho:s.heap.get? a=some (eV b))(h:Q () s):au (aD prog w) A (Builtin.Bytes.checkResize (.ref a)) Q E s:=by
 unfold Builtin.Bytes.checkResize;refine seq ?_;show au _ _ (Builtin.Bytes.exported (.ref a)>>=λx=>_) _ _ _;exact seq (DB (seq (DC ho (done (done h)))))
theorem zQ{f:Array UInt8->Array UInt8}{Q:Unit->ag->Prop}(ho:s.heap.get? a=some (eV b))(hz:(f b).size<=d0)(h:(s.heap.update a (pz f)).get? a=some (eV (f b))->Q () {s with heap:=s.heap.update a (pz f)}):
  aN (aD prog w) A (Builtin.Bytes.write (.ref a) f) Q E s:=by
 unfold Builtin.Bytes.write updateBytearray;have hn:(s.heap.update a (pz f)).get? a=some (eV (f b)):=uN _ ho rfl;exact aE (oK ho (aE (wpAny_update ho (HR hn (by show(if(f b).size>d0 then some "bytearray:memory" else none)=none;exact if_neg (uJ.mpr hz)) (h hn)))))
theorem zR{i:Int}{t:Tok}{Q:Int->ag->Prop}(h:Q i s):aN (aD prog w) A (asIndex (.int i t)) Q E s:=dj (a:=i) rfl h
theorem Mw{i:Int}{t:Tok}{Q:UInt8->ag->Prop}(h0:0<=i)(aa:i<256)(h:Q i.toNat.toUInt8 s):aN (aD prog w) A (Builtin.Bytes.byteValue (.int i t)) Q E s:=by
 unfold Builtin.Bytes.byteValue;refine aE (zR ?_);rw[show(decide (i<0)||decide (i>=256))=false by rw[decide_eq_false (a6.mpr h0),decide_eq_false (eR.mpr aa)];rfl];exact bw h
theorem Mx{i:Int}{t:Tok}{Q:Value->ag->Prop}(ho:s.heap.get? a=some (eV b))(h0:0<=i)(aa:i<256)(hz:b.size+1<=d0)
  (h:(s.heap.update a (pz (·.push i.toNat.toUInt8))).get? a=some (eV (b.push i.toNat.toUInt8))->Q .none {s with heap:=s.heap.update a (pz (·.push i.toNat.toUInt8))}):
  au (aD prog w) A (call (.builtin "bytearray.append") [.ref a,.int i t]) Q E s:=by
 refine zP Fa.Dz (nG ho) Fa.Mn (by kernel_rfl) ?_ (Fa.Mo _ _);show au _ _ (Builtin.Bytes.byteValue (.int i t)>>=λc=>_) _ _ s;exact seq (aT (Mw h0 aa (seq (DD ho (seq (aT (zQ ho (by rw[Array.size_push];exact hz) λhn=>done ⟨_,rfl,h hn⟩)))))))
theorem DE{id:String}{u:Array UInt8}{t:Tok}{full:Bool}:Builtin.Bytes.buffer? id (.bytes u t) full=pure (some u):=by
 unfold Builtin.Bytes.buffer?;rw[yf yg,H5,KBy.own_release];kernel_rfl
theorem My{id:String}{u:Array UInt8}{t:Tok}{Q:Option (Array UInt8×Option Value)->ag->Prop}(h:Q (some (u,none)) s):aN (aD prog w) A (Builtin.Bytes.takeBufferQuiet? id (.bytes u t) 0) Q E s:=by
 unfold Builtin.Bytes.takeBufferQuiet? Builtin.Bytes.takeBuffer?;rw[yf yg,H5,DE];exact dj (a:=some (u,none)) (by kernel_rfl) h
theorem Mz{u:Array UInt8}{t:Tok}{Q:Value->ag->Prop}(ho:s.heap.get? a=some (eV b))(hz:b.size+u.size<=d0)
  (h:(s.heap.update a (pz (· ++u))).get? a=some (eV (b++u))->Q .none {s with heap:=s.heap.update a (pz (· ++u))}):
  au (aD prog w) A (call (.builtin "bytearray.extend") [.ref a,.bytes u t]) Q E s:=by
 refine zP Fa.DA (nG ho) Fa.Mp (by kernel_rfl) ?_ (Fa.Mq _ _);show au _ _ (yb (.bytes u t) "__buffer__">>=λc=>_) _ _ s;refine seq (aT (dj (yf yg) ?_));refine seq (aT (dj (yf yg) ?_));refine tv rfl ?_;refine seq (aT (jK ?_));refine seq (m:=Builtin.Bytes.payload (.ref a)) (aT ?_);unfold Builtin.Bytes.payload Builtin.Bytes.payload?;refine aE (aE (oK ho (bw (bw (seq (aT (My ?_)))))));have tail:au (aD prog w) A.in1 (Builtin.Bytes.write (.ref a) (· ++u)>>=λ_w=>ret .none) (λfin s'=>∃v,fin=.done (.ret v)/\ Q v s') E s:=
  seq (aT (zQ ho (by rw[Array.size_append];exact hz) λhn=>done ⟨_,rfl,h hn⟩))
 show au _ _ (if(!u.isEmpty)=true then _ else _) _ _ _;cases q:!u.isEmpty with
 |true=>exact tv rfl (seq (DD ho tail))
 |false=>exact gn rfl tail
end
end
section
open PyProof.Rows PySem.Calls
namespace Fa
theorem mro:mroOf (.type "bytearray")=pure [.type "bytearray",.type "object"]:=by rw[mroOf_type];kernel_rfl
theorem MA:kf (.type "bytearray") "__new__"=pure (some (.builtin "bytearray.__new__")):=i9 (by kernel_rfl)
theorem v5:py "bytearray" "__init__" "bytearray.__init__":=cO (by kernel_rfl) (by kernel_rfl) (by kernel_rfl) (by kernel_rfl) (.inl (by kernel_rfl)) (by kernel_rfl) (by kernel_rfl)
theorem sub_self:isSubtype (.type "bytearray") (.type "bytearray")=pure true:=zN (by kernel_rfl)
theorem called:TypeCalled "bytearray" "bytearray.__new__" "bytearray.__init__":=
 ⟨by decide+kernel,by decide+kernel,⟨_,_,mro⟩,madeBy_type mro MA (by decide+kernel),by decide+kernel,zN (by kernel_rfl),v5⟩
theorem typeCall:checkTypeCall "bytearray" ⟨[],[]⟩=pure ():=by kernel_rfl
theorem MB:qY "bytearray.__new__" ⟨[.type "bytearray"],[]⟩=pure ():=by kernel_rfl
theorem MC:mZ kV "bytearray.__new__"=some Builtin.«list.__new__» :=entryFor_alias (id':="list.__new__") (by kernel_rfl) rfl (by decide+kernel) (by kernel_rfl)
theorem DF:plainId "bytearray.__new__"=true:=by kernel_rfl
theorem MD:mZ kV "bytearray.__init__"=some Builtin.«bytearray.__init__» :=sK (by kernel_rfl)
theorem ME(a:Value):iT "bytearray.__init__" ⟨[a],[]⟩:=by unfold iT;kernel_rfl
set_option maxRecDepth 1000000 in
set_option maxHeartbeats 4000000 in
theorem MF:("bytearray.__new__".splitOn ".__new__").headD ""="bytearray":=by simp+decide [String.splitOn,String.splitOnAux]
end Fa
section
variable{prog:ef}{w:World}{A:bA}{E:Value->ag->Prop}{s:ag}{a:ay}{b:Array UInt8}
theorem MG{Q₁:Value->ag->Prop}(h:Q₁ (.ref s.heap.objs.size) {s with heap:=s.heap.push (eV #[])}):
  qP (aD prog w) A (.call (.builtin "bytearray.__new__") ⟨[.type "bytearray"],[]⟩) (uS Q₁ E) s:=by
 refine H6 ?_;show aN _ A.in1 (do qY "bytearray.__new__" ⟨[.type "bytearray"],[]⟩;again (.builtin "bytearray.__new__" ⟨[.type "bytearray"],[]⟩)) _ _ s;refine aE (dj Fa.MB (bw ⟨H0 Fa.DF _,codeAny_builtin_stack Fa.MC rfl λp st=>?_⟩));rw[H1 Fa.DF _];have hsub:=Fa.sub_self;have hown:=Fa.MF;obtain⟨hp,g,d,tk,os⟩:=s;simp only[hown];wp_walk;exact h
theorem DG{Q:Bool->ag->Prop}(ho:s.heap.get? a=some (eV b))(h:Q false s):aN (aD prog w) A (Builtin.Bytes.ownRelease (.ref a)) Q E s:=by
 unfold Builtin.Bytes.ownRelease Builtin.Bytes.slotIsOwn;refine aE (aE (l6 (nG ho) Fa.Ms ?_));dsimp only;rw[if_neg (by decide+kernel)];refine ya (T:="bytearray") (b:=true) (nG ho) ?_ (bw h);rw[show "bytearray.__release_buffer__".dropRight ("__release_buffer__".length+1)="bytearray" by decide+kernel];exact Fa.sub_self
theorem MH:Builtin.Bytes.bindOptional "bytearray.__init__" "bytearray" ["source","encoding","errors"] [] []=pure [none,none,none]:=by kernel_rfl
theorem MI{Q:Value->ag->Prop}(ho:s.heap.get? a=some (eV b))(h:(s.heap.update a (pz λ_w=> #[])).get? a=some (eV #[])->Q .none {s with heap:=s.heap.update a (pz λ_w=> #[])}):
  au (aD prog w) A (call (.builtin "bytearray.__init__") [.ref a]) Q E s:=by
 refine zP Fa.v5 (nG ho) Fa.MD (by kernel_rfl) ?_ (Fa.ME _);show au _ _ (Builtin.Bytes.ownRelease (.ref a)>>=λx=>_) _ _ _;refine seq (aT (DG ho ?_));refine gn rfl ?_;refine seq (aT (dj MH ?_));refine seq (m:=Builtin.Bytes.checkCodecArg _ _ _ none) (aT (dj (a:=()) rfl ?_));refine seq (m:=Builtin.Bytes.checkCodecArg _ _ _ none) (aT (dj (a:=()) rfl ?_));show au _ _ ((Builtin.Bytes.exported (.ref a)>>=λx=>_)>>=λy=>_) _ _ _;refine seq (seq (DB (seq (DC ho (done ?_)))));refine gn (by decide) ?_;exact seq (aT (zQ ho (du _) λhn=>done ⟨_,rfl,h hn⟩))
theorem MJ{A:bA}{args:List Value}{T:String}:A.under (.builtin "type.__call__" ⟨.type T::args,[]⟩)=A.in1:=bA.under_plain (weight_type_call_type T args []) rfl
theorem MK{Q:Value->ag->Prop}(h:∀h':aK,h'.get? s.heap.objs.size=some (eV #[])->(∀b ob,s.heap.get? b=some ob->h'.get? b=some ob)->Q (.ref s.heap.objs.size) {s with heap:=h'}):
  au (aD prog w) A (call (.type "bytearray") []) Q E s:=by
 refine pN (iZ ?_);show au _ _ (H7 (.type "bytearray") _) _ _ _;refine done ⟨BF _ (by decide+kernel),by kernel_rfl,zO F.entry_type_call ?_⟩;rw[MJ];unfold Builtin.«type.__call__»;have hn:(s.heap.push (eV #[])).get? s.heap.objs.size=some (eV #[]):=gX _ rfl;have hT:=nG (s:={s with heap:=s.heap.push (eV #[])}) hn;refine gn (by decide+kernel) ?_;refine gn Fa.called.canCreate ?_;refine seq (aT (dj Fa.typeCall ?_));refine seq (aT (dj Fa.mro ?_));refine gn rfl ?_;refine seq (aT (dj Fa.called.made ?_));refine seq (done ?_);refine dD (aT (yh (UU (MG (Q₁:=λobj aH=>obj=.ref s.heap.objs.size/\ aH={s with heap:=s.heap.push (eV #[])}) (E:=λ_w _w=>False) ⟨rfl,rfl⟩) λr aH hr=>?_)));rcases r with e|(v|_|_|_)<;>try exact hr.elim
 obtain⟨rfl,rfl⟩:=hr;refine seq (aT (ya (T:="bytearray") (b:=true) hT Fa.sub_self ?_));refine gn rfl ?_;refine dD ?_;unfold UV;refine seq (aT (l6 hT Fa.v5.lookup (hold ?_)));refine seq (aT (dj (Fa.v5.bind _) ?_));refine seq (MI (s:={s with heap:=s.heap.push (eV #[])}) hn λh2=>done ?_);refine gn (by decide) ?_;exact done (h _ h2 λb ob e=>by
  exact(x1 _ _ λ(z:s.heap.objs.size=b)=>none_of e (z▸d3 _)).trans (oj _ e))
end
end
section
open PyProof.Rows PySem.Calls
section
variable{prog:ef}{w:World}{A:bA}{E:Value->ag->Prop}{s:ag}{a:ay}{b:Array UInt8}
theorem zS{x:Value}{Q:Value->ag->Prop}{tail:Sem PySem.Fin}
  (ht:Builtin.«bytes.__new__» ⟨[.type "bytes",x],[]⟩=tail)(h:aN (aD prog w) A.in1 tail (λfin s'=>match fin with|.done f=>uS Q E (.ok f) s'|.again dL=>dL.quiet=true/\ qP (aD prog w) A dL (uS Q E) s') (λe s'=>uS Q E (.error e) s') s):
  qP (aD prog w) A (.call (.builtin "bytes.__new__") ⟨[.type "bytes",x],[]⟩) (uS Q E) s:=by
 refine H6 ?_;show aN _ A.in1 (do qY "bytes.__new__" ⟨[.type "bytes",x],[]⟩;again (.builtin "bytes.__new__" ⟨[.type "bytes",x],[]⟩)) _ _ s;refine aE (dj (F.bm_newCall _) (bw ⟨H0 UW _,codeAny_builtin F.bm_entry ?_⟩));rw[H1 UW _,ht];exact h
theorem zT{x:Value}{Q:Value->ag->Prop}(h:qP (aD prog w) A.in1 (.call (.builtin "bytes.__new__") ⟨[.type "bytes",x],[]⟩) (uS (λobj aH=>aH.TypeIs obj "bytes"/\ Q obj aH) E) s):
  aN (aD prog w) A (call (.type "bytes") [x]) Q E s:=by
 refine callType_codes (Q₁:=λobj aH=>aH.TypeIs obj "bytes"/\ Q obj aH) H8 (F.bm_typeCall _) F.entry_object_init h λobj aH aY=>?_;exact⟨aY.1,F.args_object_init_2 obj _,object_init_meets H8.init.lookup H8.made (by decide) prog w A.in1 _ aH ⟨aY.1,rfl,aY.2⟩⟩
theorem ML{u:Array UInt8}{t:Tok}{Q:Value->ag->Prop}(h:Q (.bytes u t) s):aN (aD prog w) A (call (.type "bytes") [.bytes u t]) Q E s:=by
 refine zT (zS rfl ?_);unfold Builtin.«bytes.__new__»;refine aE (dj (a:=true) rfl ?_);refine gi rfl ?_;refine aE (dj H9 ?_);refine gi rfl ?_;refine aE (dj (Ia _) ?_);refine aE (dj (a:=()) rfl ?_);refine aE (dj (a:=()) rfl ?_);refine gi rfl ?_;refine aE (l6 (jo _ _ _) Fa.Mt ?_);dsimp only;refine aE (jK ?_);refine aE (sF (jo _ _ _) ?_);refine pA (by rfl) ?_;wp_walk;exact⟨jo _ _ _,h⟩
theorem MM:kf (.type "int") "__bytes__"=pure none:=i9 (by kernel_rfl)
theorem MN{i:Int}{t:Tok}{Q:Value->ag->Prop}(h0:0<=i)(aa:i<=1000000)(h:∀t' tk,Q (.bytes (Array.replicate i.toNat 0) t') {s with toks:=tk}):aN (aD prog w) A (call (.type "bytes") [.int i t]) Q E s:=by
 have hz:i.toNat<=d0:=aB (Ha.mpr aa) fj;refine zT (zS rfl ?_);unfold Builtin.«bytes.__new__»;refine aE (dj (a:=true) rfl ?_);refine gi rfl ?_;refine aE (dj H9 ?_);refine gi rfl ?_;refine aE (dj (Ia _) ?_);refine aE (dj (a:=()) rfl ?_);refine aE (dj (a:=()) rfl ?_);refine gi rfl ?_;refine aE (l6 (Ib _ _ _) MM ?_);dsimp only;refine aE (dj (a:=false) rfl ?_);refine gi rfl ?_;refine aE (l6 (T:="int") (Ib s i t) int_index ?_);refine gi (by rfl) ?_;refine aE (UY (zR ?_));dsimp only;refine gi (congrArg not (og.mpr ⟨decide_eq_true (bG (by decide) h0),decide_eq_true (eZ aa (by decide))⟩)) ?_;rw[if_neg (a6.mpr h0),if_neg λq=>absurd (dk q aa) (by decide)];refine gi (c:=Builtin.Bytes.tooLong _) (decide_eq_false (uJ.mpr hz)) ?_;refine aE (jK ?_);refine aE (yi ?_ (by rw[Array.size_replicate];exact hz));wp_walk;exact⟨jo _ _ _,h _ _⟩
theorem MO{Q:Value->ag->Prop}(ho:s.heap.get? a=some (eV b))(hz:b.size<=d0)(h:∀t' tk,Q (.bytes b t') {s with toks:=tk}):aN (aD prog w) A (call (.type "bytes") [.ref a]) Q E s:=by
 refine zT (zS rfl ?_);unfold Builtin.«bytes.__new__»;have hT:=nG ho;refine aE (dj (a:=true) rfl ?_);refine gi rfl ?_;refine aE (dj H9 ?_);refine gi rfl ?_;refine aE (dj (Ia _) ?_);refine aE (dj (a:=()) rfl ?_);refine aE (dj (a:=()) rfl ?_);refine gi rfl ?_;refine aE (l6 hT Fa.Mr ?_);dsimp only;refine aE (aE ?_);show aN _ _ (load a>>=_) _ _ _;refine aE (oK ho (bw (bw ?_)));refine gi rfl ?_;refine aE (l6 hT Fa.none_index ?_);refine pA (by rfl) ?_;refine aE (m:=PySem.Builtin.Bytes.buffer? "bytes.__new__" (.ref a) true) ?_;unfold Builtin.Bytes.buffer?;refine aE (l6 hT Fa.buffer ?_);dsimp only;refine aE (m:=Builtin.Bytes.slotIsOwn (.ref a) "__buffer__") ?_;unfold Builtin.Bytes.slotIsOwn;refine aE (l6 hT Fa.buffer ?_);dsimp only;rw[if_neg (by decide+kernel)];refine ya (T:="bytearray") (b:=true) hT ?_ ?_
 ·rw[show "bytearray.__buffer__".dropRight ("__buffer__".length+1)="bytearray" by decide+kernel];exact Fa.sub_self
 refine gi (by rfl) ?_;refine aE (l6 hT Fa.buffer ?_);refine aE (DG ho ?_);refine gi (by rfl) ?_;refine aE (m:=Builtin.Bytes.payload (.ref a)) ?_;unfold Builtin.Bytes.payload Builtin.Bytes.payload?;refine aE (aE (oK ho (bw (bw (bw ?_)))));dsimp only;refine aE (jK (aE (yi ?_ hz)));wp_walk;exact⟨jo _ _ _,h _ _⟩
end
end
section
open PyProof.Rows PySem.Calls
variable{g:G}
section
variable{prog:ef}{w:World}{A:bA}{E:Value->ag->Prop}{s:ag}
theorem MP{a:ay}{b:Array UInt8}{Q:Value->ag->Prop}(ho:s.heap.get? a=some (eV b))(hfit:(b.size:Int)<2^63)(h:Q (.int b.size (s.toks+1)) {s with toks:=s.toks+1+1}):
  aN (aD prog w) A (call (.builtin "len") [.ref a]) Q E s:=by
 refine call_len_meets (S:=λ_w R s=>s.heap.get? a=some (eV b)/\ R (.ok (.ret (.int b.size s.toks))) {s with toks:=s.toks+1}) (n:=b.size) (nG ho) Fa.Ml Fa.entry_len (Fa.Mm _) (.of_wp λprog w A R s h=>?_) (a6.mpr (cD _)) (eR.mpr hfit) (λQ' hq=>⟨ho,hq⟩) h;obtain⟨ho,h⟩:=h;show aN _ _ (Builtin.Bytes.payload (.ref a)>>=λx=>_) _ _ _;unfold Builtin.Bytes.payload Builtin.Bytes.payload?;exact aE (aE (aE (oK ho (bw (bw (aE (BG (bw ⟨_,rfl,h⟩))))))))
theorem MQ{l:ay}{vs:List Value}{ns:List Int}{Q:Value->ag->Prop}(aZ:A.handled=none)(hl:s.heap.IsList l vs.toArray)(ao:xI vs ns)
  (h:∀h' tk t',(∀b o,s.heap.get? b=some o->h'.get? b=some o)->Q (.int ns.sum t') {s with heap:=h',toks:=tk}):aN (aD prog w) A (call (.builtin "sum") [.ref l]) Q E s:=by
 obtain⟨xs,ak⟩:=ao.allInts.items;refine sum_intListG aZ (ak▸hl) λh' tk t' az=>?_;have e1:ns=xs.toList.map (·.1):=by
  rw[<-nums_intItems,<-ak];exact(show numsOf vs.toArray.toList=ns from ao.numsOf).symm
 rw[preSum_eq,Ic (by rw[cF,x7];exact bI _),<-e1];exact h h' tk t' az
end
noncomputable def zU:mm->Value
 |.len=>.builtin "len"|.bytes=>.type "bytes"|.bytearray=>.type "bytearray"|.sum=>.builtin "sum"|.abs=>.builtin "abs"|.list=>.type "list"|.tuple=>.type "tuple"|.int=>.type "int"|.ord=>.builtin "ord"
theorem bC.one{vs:List Value}{x:af}{μ:aO}{h:aK}(H:bC g μ h [x] vs):∃v,vs=[v]/\ bf g μ h x v:=by
 obtain⟨v,_,rfl,a,b⟩:=H;cases b;exact⟨v,rfl,a⟩
theorem zV{μ:aO}{h:aK}:∀{xs:List af}{vs:List Value}{ns:List Int},bC g μ h xs vs->intsOf xs=some ns->xI vs ns:=by
 intro xs
 induction xs with
 |nil=>intro _ _ q e;cases q;cases e;exact .nil
 |cons x xs ih=>
  intro _ _ q e;obtain⟨v,vs,rfl,a,b⟩:=q;cases x with
  |int i=>
   obtain⟨ns,e1,rfl⟩:=dZ e;obtain⟨t,rfl⟩:=a;exact .cons _ _ (ih b e1)
  |_=>exact cU e
section
variable{A:bA}{E:Value->ag->Prop}{s:ag}{μ:aO}{σ:ah}{l:List Env}{v:Value}{x:af}{Q:Value->ag->Prop}{F:eH}
theorem v6{n:Nat}(h:n<=1000000):(n:Int)<2^63:=eZ (aX.mpr h) (by decide)
theorem br.rH{h:aK}(S:br g μ σ h){i:Nat}{xs:List af}(ai:bf g μ h (.loc i) v)(e:σ.get i=.list xs):∃a vs,v=.ref a/\ h.IsList a vs.toArray/\ bC g μ h xs vs/\ ∃n,IsL h a vs.toArray n:=by
 obtain⟨p,vs,n,_,rfl,_,hl,hvs⟩:=S.listAt ai e;exact⟨p.1,vs,rfl,⟨_,hl,rfl,n,rfl⟩,hvs,n,hl⟩
theorem MR{o:cv}{F:eS}:(yX F o).P->(∃xs,o=.list xs/\ xs.length<=1000000/\ (F (.int xs.length)).P) \/ ∃xs,o=.dW xs/\ xs.length<=1000000/\ (F (.int xs.length)).P:=by
 cases o with
 |list xs=>exact λp=>.inl ⟨xs,rfl,p⟩
 |dW xs=>exact λp=>.inr ⟨xs,rfl,p⟩
 |_=>exact False.elim
theorem MS{o:cv}{F:eS}:(yY F o).P->(∃xs,o=.dW xs/\ xs.length<=1000000/\ (F (.bytes xs)).P) \/ ∃xs ns,o=.list xs/\ intsOf xs=some ns/\ ((∀n∈ns,0<=n/\ n<256)/\ xs.length<=1000000)/\ (F (.bytes (iz ns))).P:=by
 cases o with
 |list xs=>exact λp=>.inr (p.elim λns p=>⟨xs,ns,rfl,p⟩)
 |dW xs=>exact λp=>.inl ⟨xs,rfl,p⟩
 |_=>exact False.elim
theorem MT(S:br g μ σ s.heap)(ai:bf g μ s.heap x v)(p:(vn .len x σ F).P)(q:fi (m:=false) g l μ s F Q):aN (aD g.prog g.w) A (call (.builtin "len") [v]) Q E s:=by
 cases x with
 |bytes xs=>
  obtain⟨t,rfl⟩:=ai;exact len_bytes (by rw[fa];exact aB p.1 (by decide)) (q.1 (x:=.int xs.length) (.tok S _) ⟨_,rfl⟩ p.2)
 |str xs=>
  obtain⟨t,rfl⟩:=ai;have e:=PySem.ofString_length xs;exact PyProof.Rows.len_str (by rw[e];exact eR.mpr (v6 p.1)) (e▸q.1 (x:=.int xs.length) (.tok S _) ⟨_,rfl⟩ p.2)
 |tup xs=>
  obtain⟨a,vs,rfl,⟨ht,_⟩,hvs⟩:=ai;have e:vs.toArray.size=xs.length:=hvs.length;exact call_function_entry kind_len plain_len entry_len (args_len1 _) (len_body_tuple ht (by rw[e];exact v6 p.1) (e▸q.1 (x:=.int xs.length) (.tok S _) ⟨_,rfl⟩ p.2))
 |loc i=>
  have p:(yX (λv=>F v σ) (σ.get i)).P:=p;rcases MR p with⟨xs,e,n,p⟩|⟨xs,e,n,p⟩
  ·obtain⟨a,vs,rfl,hl,hvs,_⟩:=S.rH ai e;have e:vs.toArray.size=xs.length:=hvs.length;exact call_len_list hl (by rw[e];exact v6 n) (e▸q.1 (x:=.int xs.length) (.tok S _) ⟨_,rfl⟩ p)
  ·obtain⟨a,aa,rfl,o⟩:=S.at_ ai
   rw[e]at o;exact MP (b:=xs.toArray) o.2 (by rw[fa];exact v6 n) (q.1 (x:=.int xs.length) (.tok S _) ⟨_,rfl⟩ p)
 |_=>exact p.elim
theorem bo.gK(S:br g μ σ s.heap){h':aK}(k:∀b o,s.heap.get? b=some o->h'.get? b=some o)(tk:Nat):bo g l μ s μ {s with heap:=h',toks:=tk} σ:=⟨.gK k,S.gK k,rfl⟩
theorem MU(S:br g μ σ s.heap)(dE:A.handled=none)(ai:bf g μ s.heap x v)(p:(vn .bytes x σ F).P)(q:fi (m:=false) g l μ s F Q):aN (aD g.prog g.w) A (call (.type "bytes") [v]) Q E s:=by
 cases x with
 |bytes xs=>
  obtain⟨t,rfl⟩:=ai;exact ML (q.1 (x:=.bytes xs) (.tok S s.toks) ⟨_,rfl⟩ p)
 |int n=>
  obtain⟨t,rfl⟩:=ai;exact MN p.1.1 p.1.2 λt' tk=>q.1 (x:=.bytes (gy n.toNat 0)) (.tok S tk) ⟨t',by rw[List.toArray_replicate]⟩ p.2
 |loc i=>
  have p:(yY (λv=>F v σ) (σ.get i)).P:=p;rcases MS p with⟨xs,e,n,p⟩|⟨xs,ns,e,hn,n,p⟩
  ·obtain⟨a,aa,rfl,o⟩:=S.at_ ai
   rw[e]at o;exact MO (b:=xs.toArray) o.2 (by rw[fa];exact aB n fj) λt' tk=>q.1 (x:=.bytes xs) (.tok S tk) ⟨t',rfl⟩ p
  ·obtain⟨a,vs,rfl,hl,hvs,_⟩:=S.rH ai e;exact call_bytes_ints hl (zV hvs hn) n.1 (by rw[hvs.length];exact aB n.2 fj) dE λh' t k az=>q.1 (x:=.bytes (iz ns)) (.gK S az k) ⟨t,rfl⟩ p
 |_=>exact p.elim
end
end
section
open PyProof.Rows PySem.Calls
variable{g:G}
section
variable{A:bA}{E:Value->ag->Prop}{s:ag}{μ:aO}{σ:ah}{l:List Env}{v:Value}{x:af}{Q:Value->ag->Prop}{F:eH}
theorem bo.alloc(S:br g μ σ s.heap){o:cv}{h':aK}{a:ay}(k:∀b ob,s.heap.get? b=some ob->h'.get? b=some ob)(aM:s.heap.get? a=none)(tk:Nat)(H:∀{aF},Ext μ s.heap aF h'->eT g aF h' (a,a) o):
  ∃aF,bo g l μ s aF {s with heap:=h',toks:=tk} (σ.push o)/\ bf g aF h' (.loc σ.next) (.ref a):=by
 have F:cH (frames l) [] μ s.heap (μ++[(a,a)]) h':=.alloc k aM aM;exact⟨_,⟨F,S.alloc k aM aM (H (F.ext .nil)),rfl⟩,(_,_),by rw[<-S.1,pt (bI _),oo];rfl,rfl⟩
theorem DH{y:String}{d:Int}(h:digit y=some d):PySem.intText? (aI y)=some d/\ (aI y).length<=640:=by
 unfold digit at h;split at h<;>cases h<;>exact⟨by kernel_rfl,by decide+kernel⟩
theorem MV(S:br g μ σ s.heap)(dE:A.handled=none)(ai:bf g μ s.heap x v)(q:fi (m:=false) g l μ s F Q):∀{b:mm},(vn b x σ F).P->aN (aD g.prog g.w) A (call (zU b) [v]) Q E s:=by
 intro b;cases b with
 |len=>
  intro p;exact MT S ai p q
 |bytes=>
  intro p;exact MU S dE ai p q
 |sum=>
  intro p;obtain⟨i,rfl,p⟩:=jU (v:=x) p;obtain⟨xs,e,ns,hn,n,p⟩:=pZ p;obtain⟨a,vs,rfl,hl,hvs,_⟩:=S.rH ai e;exact MQ dE hl (zV hvs hn) λh' tk t' az=>q.1 (x:=.int ns.sum) (.gK S az tk) ⟨t',rfl⟩ p
 |abs=>
  intro p;obtain⟨i,rfl,p⟩:=jx (v:=x) p;obtain⟨t,rfl⟩:=ai;refine PyProof.Rows.call_abs_int λu tk=>?_;rw[show(if i<0 then -i else i)=(i.natAbs:Int)from(Int.lt_or_le i 0).elim (λh=>(if_pos h).trans (Int.ofNat_natAbs_of_nonpos (fG h)).symm) λh=>(if_neg (a6.mpr h)).trans (Ie h).symm];exact q.1 (x:=.int i.natAbs) (.tok S tk) ⟨u,rfl⟩ p
 |list=>
  intro p;obtain⟨i,rfl,p⟩:=jU (v:=x) p;obtain⟨xs,e,n,p⟩:=pZ p;obtain⟨a,vs,rfl,_,hvs,k,hl⟩:=S.rH ai e;refine call_list_seq a (.inl rfl) hl rfl rfl (λh' dL az hn=>?_) (by rw[fa,hvs.length];exact aB n fj);obtain⟨aF,st,r⟩:=bo.alloc (l:=l) (o:=.list xs) S az (d3 _) s.toks λx0=>⟨rfl,vs,dL,hn,hvs.ext x0⟩;exact q.1 st r p
 |tuple=>
  intro p;obtain⟨i,rfl,p⟩:=jU (v:=x) p;obtain⟨xs,e,n,p⟩:=pZ p;obtain⟨a,vs,rfl,hl,hvs,_⟩:=S.rH ai e;refine call_tuple_list hl (λh' az=>?_) (by rw[fa,hvs.length];exact aB n fj);have s1:=bo.gK (l:=l) S az s.toks;have t:=bo.tup (s:={s with heap:=h',toks:=s.toks}) (l:=l) s1.2 (hvs.ext (s1.1.ext .nil));exact q.1 (s1.trans t.1) t.2 p
 |int=>
  intro p;obtain⟨y,rfl,d,hd,p⟩:=rB (v:=x) p;obtain⟨t,rfl⟩:=ai;exact KIN.call_text (DH hd).1 (DH hd).2 (q.1 (x:=.int d) (.tok S _) ⟨_,rfl⟩ p)
 |bytearray=>
  intro p;exact p.elim
 |ord=>
  intro p;exact p.elim
theorem MW(S:br g μ σ s.heap)(dE:A.handled=none){b:mm}{vs:List Value}{xs:List af}(ai:bC g μ s.heap xs vs)(p:(builtin b xs σ F).P)(q:fi (m:=false) g l μ s F Q):au (aD g.prog g.w) A (call (zU b) vs) Q E s:=by
 cases xs with
 |nil=>
  cases ai;cases b with
  |bytearray=>
   refine MK λh' hn az=>?_;obtain⟨aF,st,r⟩:=bo.alloc (l:=l) (o:=.dW []) S az (d3 _) s.toks λ_w=>⟨rfl,hn⟩;exact q.1 st r p
  |_=>exact p.elim
 |cons x r=>
  cases r with
  |nil=>
   obtain⟨v,rfl,hv1⟩:=ai.one;exact aT (MV S dE hv1 q p)
  |cons _ _=>exact p.elim
end
theorem MX(b:mm):(vz b∈["len","bytes","bytearray","sum","abs","list","tuple","int","ord","range","enumerate","zip"]/\ aI (vz b)≠"__name__")/\ xV (aI (vz b))=some (zU b):=by
 cases b<;>exact⟨⟨by decide+kernel,by decide+kernel⟩,by kernel_rfl⟩
theorem kp.of{f:Value}(h:∀a,f≠.ref a):kp g f:=⟨λ_w _w=>⟨.machine,.inr (.inl rfl),sD (by cases f<;>first|rfl|exact absurd rfl (h _))⟩⟩
theorem MY(KK:c0 g){b:mm}{as:List X}(hl:jW g as):bn g (.bi b as):=by
 intro W ck e h m μ σ s K P st Q E C p q ae aW;obtain⟨gx,aa,h⟩:=b8 h;obtain⟨es,h2,h⟩:=b8 h;obtain⟨_,rfl⟩:=gN h;have B:=MX b;refine gm (λ_w=>rfl) q ae λ{Q'} q=>Call_ (zt KK C aa (KK.10 _ B.1.1) B.1.2 B.2 (rE hl h2 (.of (by cases b<;>exact nofun)) C p aW λs1 v1 hn p=>?_)) (by obtain⟨y,rfl⟩:=rF aa;rfl);have p:Ask.P (gJ as _ _ _):=p;rw[nF hn]at p;exact MW s1.2 C.aZ v1 p (q.at_ s1)
end
section
open PyProof.Rows PySem.Calls
namespace Fa
theorem DI:py "bytes" "find" "bytes.find":=cO (by kernel_rfl) (by kernel_rfl) (by kernel_rfl) (by kernel_rfl) (.inr (by kernel_rfl)) (by kernel_rfl) (by kernel_rfl)
theorem MZ:mZ kV "bytes.find"=some Builtin.«bytes.find» :=sK (by kernel_rfl)
theorem M0(a b c d:Value):iT "bytes.find" ⟨[a,b,c,d],[]⟩:=by unfold iT;kernel_rfl
theorem M4(a b:Value):iT "bytes.decode" ⟨[a,b],[]⟩:=by unfold iT;kernel_rfl
theorem DJ:py "str" "encode" "str.encode":=cO (by kernel_rfl) (by kernel_rfl) (by kernel_rfl) (by kernel_rfl) (.inr (by kernel_rfl)) (by kernel_rfl) (by kernel_rfl)
theorem M5:mZ kV "str.encode"=some Builtin.«str.encode» :=sK (by kernel_rfl)
theorem M6(a b:Value):iT "str.encode" ⟨[a,b],[]⟩:=by unfold iT;kernel_rfl
end Fa
theorem M7{xs:List UInt8}{i:Nat}(h:i<xs.length):xs.toArray.extract i (i+1)= #[xs[i]]:=by
 rw[List.extract_toArray,List.extract_eq_take_drop,UZ,oH h];rfl
theorem M8{xs:List UInt8}:∀{n i:Nat},i+n<=xs.length->(((qR i n).find? λk=>xs.toArray.extract k (k+1)== #[0]).elim (-1) λk=>(k:Int))=findAt xs n i:=by
 intro n
 induction n with
 |zero=>intro i _;rfl
 |succ n ih=>
  intro i h;have ao:i<xs.length:=bU (jp (mY n)) h;rw[BC,Bn,M7 ao];rw[vo,jL ao];by_cases hc:xs[i]=0
  ·rw[hc];rfl
  ·rw[show(#[xs[i]]== #[(0:UInt8)])=false from beq_eq_false_iff_ne.mpr λq=>hc (jM (congrArg U7 q)).1];exact(ih (by rw[oJ];exact h)).trans (if_neg hc).symm
section
variable{prog:ef}{w:World}{A:bA}{E:Value->ag->Prop}{s:ag}
theorem DK{i:Int}{t:Tok}{Q:Option Int->ag->Prop}(h:Q (some i) s):aN (aD prog w) A (Builtin.Bytes.bound? (some (.int i t))) Q E s:=by
 unfold Builtin.Bytes.bound?;exact aE (l6 (T:="int") (Ib s i t) int_index (gi (by rfl) (aE (zR (bw h)))))
theorem M9{n a b:Nat}(h:b<=n):Builtin.Bytes.window n (some (a:Int)) (some (b:Int))=((a:Int),(b:Int)):=by
 unfold Builtin.Bytes.window;show((if(a:Int)<0 then max 0 ((a:Int)+n)else(a:Int)),min (n:Int) (if(b:Int)<0 then max 0 ((b:Int)+n)else(b:Int)))=_;rw[if_neg (a6.mpr (cD a)),if_neg (a6.mpr (cD b)),Int.min_eq_right (aX.mpr h)]
theorem Na{xs:List UInt8}{a b:Nat}{t t1 t2 t3:Tok}{Q:Value->ag->Prop}(aa:a<=b)(h2:b<=xs.length)(h:∀t' tk,Q (.int (findAt xs (b-a) a) t') {s with toks:=tk}):
  aN (aD prog w) A (call (.builtin "bytes.find") [.bytes xs.toArray t,.bytes #[0] t1,.int (a:Int) t2,.int (b:Int) t3]) Q E s:=by
 refine px Fa.DI (jo _ _ _) Fa.MZ ?_ (Fa.M0 _ _ _ _);have sp:=M8 (xs:=xs) (n:=b-a) (i:=a) (by rw[Nat.add_sub_of_le aa];exact h2);rw[<-sp]at h;unfold Builtin.«bytes.find» Builtin.Bytes.searchM;refine aE ?_;unfold Builtin.Bytes.searchArgs;refine aE (m:=selfAndSome _ _ 1 3 _) (dj (a:=(.bytes xs.toArray t,[.bytes #[0] t1,.int a t2,.int b t3])) (by kernel_rfl) ?_);refine aE (DK (aE (DK (aE (m:=Builtin.Bytes.buffer? _ (.bytes #[0] t1)) (dj KBy.buffer_eq ?_)))));refine aE (bw ?_);refine aE (m:=Builtin.Bytes.payload (.bytes xs.toArray t)) (dj (a:=xs.toArray) rfl ?_);rw[fa,M9 h2];refine bw ?_;by_cases hc:(b:Int)-(a:Int)<((#[(0:UInt8)].size:Nat):Int)
 ·have e:b-a=0:=Nat.sub_eq_zero_of_le (aX.mp (Int.le_of_sub_nonpos (ut hc)));rw[e]at h;dsimp only;rw[if_pos hc];exact aE (jK (aE (BG (bw ⟨_,rfl,h _ _⟩))))
 ·dsimp only;rw[if_neg hc];have e3:Builtin.Bytes.find? xs.toArray #[0] a b=(qR a (b-a)).find? λk=>xs.toArray.extract k (k+1)== #[0]:=by
   unfold Builtin.Bytes.find?;rw[show b+1-(a+ #[(0:UInt8)].size)=b-a from Nat.add_sub_add_right b 1 a,List.range'_eq_map_range,show(λx=>x+a)=λx=>a+x from funext λx=>uR x a];rfl
  rw[Ig];dsimp only;rw[if_neg qX,fc,fc,e3];cases q:(qR a (b-a)).find? λk=>xs.toArray.extract k (k+1)== #[0]with
  |some k=>rw[q]at h;exact aE (BG (bw ⟨_,rfl,h _ _⟩))
  |none=>rw[q]at h;exact aE (jK (aE (BG (bw ⟨_,rfl,h _ _⟩))))
end
end
section
open PyProof.Rows PySem.Calls
section
variable{prog:ef}{w:World}{A:bA}{E:Value->ag->Prop}{s:ag}
noncomputable def codes(b:List UInt8)(k:Nat):Array Nat:=((b.take k).map (·.toNat)).toArray
theorem DL{b:List UInt8}{k:Nat}(h:k<=b.length):(codes b k).size=k:=by unfold codes;rw[fa,cF,l7,qZ h]
theorem Nc{b:List UInt8}{k:Nat}(h:k<b.length):codes b k++[(b.toArray.getD k 0).toNat].toArray=codes b (k+1):=by
 unfold codes;rw[ye h,cN,xU,U8,mX,jL h];rfl
theorem Nd{β:Type}{b:List UInt8}{st:β}{f:Nat->Nat×Array Nat×β->Sem (ForInStep (Nat×Array Nat×β))}(hf:∀i p,p<b.length->f i (p,codes b p,st)=pure (.yield (p+1,codes b (p+1),st))):
  ∀{n k:Nat},k+n=b.length->forIn (qR k n) ((k,codes b k,st):Nat×Array Nat×β) f=pure (b.length,codes b b.length,st):=by
 intro n
 induction n with
 |zero=>intro k h;subst h;rfl
 |succ n ih=>
  intro k h;rw[BC,oG,hf k k (h▸jp (mY n)),pure_bind];exact ih (by rw[oJ];exact h)
theorem Nf(id:String)(b:List UInt8)(hz:b.length<=d0):Builtin._codecs.runDecoder id Builtin._codecs.latin1Decoder none true b.toArray 0 []=pure (codes b b.length,b.length):=by
 unfold Builtin._codecs.runDecoder;simp only[Ii,U9,Builtin._codecs.latin1Decoder];rw[show(b.toArray.size-0+1-1)/1=b.length by rw[Va];rfl];refine(congrArg (· >>=_) (Nd (b:=b) (k:=0) (λi p hp=>?_) (jl _))).trans ?_
 ·dsimp only;rw[if_neg (by rw[DL (dA hp)];exact uJ.mpr (aB (dA hp) hz)),if_neg (by rw[fa];exact Nat.not_le.mpr hp)];show pure (qW (p+1,codes b p++[(b.toArray.getD p 0).toNat].toArray,_))=_;rw[Nc hp]
 ·rfl
theorem Ng(b:List UInt8):aI (pI b)=⟨codes b b.length⟩:=by
 unfold pI codes;rw[Bu,ou,Vb,oF];exact congrArg (λl=>Str.mk (sL l)) (uP λc _w=>by
  show(Hg c.toNat).toNat=c.toNat
  rw[Hg,dif_pos (.inl (gB c.toNat_lt (by decide)))];rfl)
theorem Nh(c:UInt8)(cs:List UInt8)(t u:Tok):Builtin.«bytes.decode» ⟨[.bytes (c::cs).toArray t,.str (aI "latin-1") u],[]⟩=
  (BH (aI "utf-8")>>=λ_w=>BH (aI "latin-1")>>=λe=>BH (aI "bytes.decode")>>=λd=>call (.builtin "_codecs.decode.text") [.bytes (c::cs).toArray t,e,.none,d]>>=λv=>ret v):=by kernel_rfl
theorem Ni(t u:Tok):Builtin.«bytes.decode» ⟨[.bytes #[] t,.str (aI "latin-1") u],[]⟩=(rule "bytes.decode.empty">>=λ_w=>retStr Str.empty):=by kernel_rfl
theorem Nj(id:String)(b:Array UInt8):Builtin._codecs.decodeRoad id b (aI "latin-1") none []=(Builtin._codecs.runDecoder id Builtin._codecs.latin1Decoder none true b 0 []>>=λr=>BH ⟨r.1⟩):=by kernel_rfl
theorem Nk{xs:List UInt8}{t t1 t2:Tok}{d:Str}(ar:xs.length<=d0):
  Meets (Builtin.«_codecs.decode.text» ⟨[.bytes xs.toArray t,.str (aI "latin-1") t1,.none,.str d t2],[]⟩) (λ_w R s=>R (.ok (.ret (.str ⟨codes xs xs.length⟩ s.toks))) {s with toks:=s.toks+1}):=by
 refine .of_wp λprog w A R s h=>?_;show aN _ _ (Builtin.Bytes.bytesLike _ (.bytes xs.toArray t)>>=λr=>_) _ _ s;refine aE (dj KBd.like_eq (aE (dj KBd.held_eq ?_)));show aN _ _ (Builtin._codecs.decodeRoad _ xs.toArray (aI "latin-1") none []>>=λv=>_) _ _ s;rw[Nj,Nf _ _ ar];exact aE (aE (bw (yj (bw ⟨_,rfl,h⟩) (by show(codes xs xs.length).size<=d0;rw[DL (bI _)];exact ar))))
theorem Nl{xs:List UInt8}{t u:Tok}{Q:Value->ag->Prop}(hz:xs.length<=d0)(h:∀t' tk,Q (.str (aI (pI xs)) t') {s with toks:=tk}):
  aN (aD prog w) A (call (.builtin "bytes.decode") [.bytes xs.toArray t,.str (aI "latin-1") u]) Q E s:=by
 refine px Vc (jo _ _ _) FB.entry_bytes_decode ?_ (Fa.M4 _ _);rw[Ng]at h;cases xs with
 |nil=>
  rw[Ni];exact aE (jK (aE (yj (bw ⟨_,rfl,h _ _⟩) (by decide))))
 |cons c cs=>
  rw[Nh];exact aE (yj (aE (yj (aE (yj (aE (call_function_meets KBd.kind_text KBd.plain_text KBd.entry_text (KBd.args_text _ _ _ _) (Nk hz) (bw ⟨_,rfl,h _ _⟩))) (by decide))) (by decide))) (by decide))
theorem Nm(t u:Tok):Builtin.«str.encode» ⟨[.str (aI "") t,.str (aI "latin-1") u],[]⟩=(mkBytes #[]>>=λv=>ret v):=by kernel_rfl
theorem Nn{t u:Tok}{Q:Value->ag->Prop}(h:∀t' tk,Q (.bytes #[] t') {s with toks:=tk}):aN (aD prog w) A (call (.builtin "str.encode") [.str (aI "") t,.str (aI "latin-1") u]) Q E s:=by
 refine px Fa.DJ (Vd _ _ _) Fa.M5 ?_ (Fa.M6 _ _);rw[Nm];exact aE (yi (bw ⟨_,rfl,h _ _⟩) (du _))
end
end
section
open PyProof.Rows PySem.Calls
namespace Fa
theorem DM:py "bytes" "join" "bytes.join":=cO (by kernel_rfl) (by kernel_rfl) (by kernel_rfl) (by kernel_rfl) (.inr (by kernel_rfl)) (by kernel_rfl) (by kernel_rfl)
theorem No:mZ kV "bytes.join"=some Builtin.«bytes.join» :=sK (by kernel_rfl)
theorem Np(a b:Value):iT "bytes.join" ⟨[a,b],[]⟩:=by unfold iT;kernel_rfl
end Fa
noncomputable def qd:List Value->List (List UInt8)->Prop
 |[],bs=>bs=[]
 |v::vs,bs=>∃b t r,bs=b::r/\ v=.bytes b.toArray t/\ qd vs r
theorem qd.length:∀{vs:List Value}{bs:List (List UInt8)},qd vs bs->vs.length=bs.length:=by
 intro vs
 induction vs with
 |nil=>intro _ h;cases h;rfl
 |cons v vs ih=>intro _ h;obtain⟨_,_,_,rfl,_,h⟩:=h;exact congrArg (· +1) (ih h)
theorem qd.get:∀{vs:List Value}{bs:List (List UInt8)},qd vs bs-> ∀{i:Nat}(ao:i<bs.length),∃t,vs[i]?=some (.bytes bs[i].toArray t):=by
 intro vs
 induction vs with
 |nil=>intro _ h i ao;cases h;exact absurd ao (pB _)
 |cons v vs ih=>
  intro _ h i ao;obtain⟨_,t,_,rfl,rfl,h⟩:=h;cases i with
  |zero=>exact⟨t,rfl⟩
  |succ i=>exact ih h (pq ao)
noncomputable abbrev Tk(l:List (Value×Option Value)):Prop:=∀x∈l,x.2=none/\ x.1.onHeap=false
theorem Tk.snoc{l:List (Value×Option Value)}{x:Value}(h:Tk l)(ak:x.onHeap=false):Tk (l++[(x,none)]):=om.mpr ⟨h,λy hy=>by rw[bW.mp hy];exact⟨rfl,ak⟩⟩
theorem Nq:∀{l:List (List UInt8)}{k:Nat},(l.map sL).foldl (λ(x:Nat) (y:Array UInt8)=>x+y.size) k=k+l.flatten.length:=by
 intro l
 induction l with
 |nil=>
  intro k;exact rfl
 |cons a l ih=>
  intro k;rw[l9,Ij,ih,yk,bR,fa,lU]
theorem Nr{l:List (List UInt8)}:∀{k:Nat}{acc:Array UInt8},((l.map sL).zipIdx k).foldl (λout (x:Array UInt8×Nat)=>(if x.2>0 then out++ #[]else out)++x.1) acc=acc++l.flatten.toArray:=by
 induction l with
 |nil=>intro k acc;exact(Ik).symm
 |cons a l ih=>
  intro k acc;rw[l9,List.zipIdx_cons,Ij,ih,yk,<-xU,<-Array.append_assoc];dsimp only;rw[Ik,ite_self]
section
variable{prog:ef}{w:World}{A:bA}{E:Value->ag->Prop}{s:ag}
theorem DN{result:Value}{Q:Unit->ag->Prop}(h:Q () s):∀{taken:List (Value×Option Value)},Tk taken->aN (aD prog w) A (Builtin.Bytes.joinLetGo taken [result]) Q E s:=by
 intro taken
 induction taken with
 |nil=>
  intro _;exact bw h
 |cons iI rest ih=>
  obtain⟨x,u⟩:=iI;intro ak;obtain rfl:u=none:=(ak (x,u) (.head _)).1;show aN _ _ (_>>=λ_w=>Builtin.Bytes.joinLetGo rest [result]) _ _ _;exact aE (BI (ih λy hy=>ak y (.tail _ hy)))
theorem join_loop{bs:List (List UInt8)}{f:Nat->Array (Array UInt8)×List (Value×Option Value)->Sem (ForInStep (Array (Array UInt8)×List (Value×Option Value)))}
  (hf:∀{i parts taken} {R:ForInStep (Array (Array UInt8)×List (Value×Option Value))->ag->Prop} (ao:i<bs.length),Tk taken->(∀{x:Value},x.onHeap=false->R (.yield (parts.push bs[i].toArray,taken++[(x,none)])) s)->aN (aD prog w) A (f i (parts,taken)) R E s):
  ∀{n i:Nat}{parts taken}{R:Array (Array UInt8)×List (Value×Option Value)->ag->Prop},i+n=bs.length->Tk taken->(∀{taken'},Tk taken'->R (parts++((bs.drop i).map sL).toArray,taken') s)->aN (aD prog w) A (forIn (qR i n) (parts,taken) f) R E s:=by
 intro n
 induction n with
 |zero=>
  intro i parts taken R h ht hR;have hR:=hR ht;have h:i=bs.length:=h;rw[BB (bb h.symm)]at hR;exact bw (Ik (xs:=parts)▸hR)
 |succ n ih=>
  intro i parts taken R h ht hR;have ao:i<bs.length:=h▸jp (mY n);rw[BC,oG];refine aE (hf ao ht λ{x} ak=>ih (by rw[oJ];exact h) (ht.snoc ak) λ{t'} ht'=>?_);have hR:=hR ht';rw[oH ao,l9]at hR;rw[show parts.push bs[i].toArray++((bs.drop (i+1)).map sL).toArray=parts++(bs[i].toArray::(bs.drop (i+1)).map sL).toArray from Il (by simp)];exact hR
theorem Nt{a:ay}{vs:List Value}{bs:List (List UInt8)}{t:Tok}{Q:Value->ag->Prop}(hl:s.heap.IsList a vs.toArray)(ae:qd vs bs)(hz:bs.flatten.length<=d0)(h:∀t' tk,Q (.bytes bs.flatten.toArray t') {s with toks:=tk}):
  aN (aD prog w) A (call (.builtin "bytes.join") [.bytes #[] t,.ref a]) Q E s:=by
 refine px Fa.DM (jo _ _ _) Fa.No ?_ (Fa.Np _ _);unfold Builtin.«bytes.join» Builtin.Bytes.joinM;refine aE (m:=selfAndOne _ _) (dj (a:=(.bytes #[] t,.ref a)) (by kernel_rfl) ?_);refine pA (by rfl) ?_;refine aE ?_;unfold Builtin.Bytes.joinItems;refine aE (sF hl.typeIs (pA (by rfl) (bw ?_)));refine ao λG z=>?_;obtain⟨o,ho,hc,n,hd⟩:=id hl;refine z ?_;clear z G;refine aE (q6 ho hd ?_);refine pA (by rfl) ?_;have hsz:vs.toArray.size=bs.length:=ae.length;have hget:∀{i}(ao:i<bs.length),∃t,vs.toArray.getD i .none=.bytes bs[i].toArray t:=λ{i} ao=>by
  obtain⟨t,ht⟩:=ae.get ao;exact⟨t,by rw[U8,mX,ht];rfl⟩
 have hone:∀{x},vs.toArray= #[x]-> ∃u,x=.bytes bs.flatten.toArray u:=λ{x} ak=>by
  obtain rfl:vs=[x]:=congrArg U7 ak;obtain⟨b,u,r,rfl,rfl,hr⟩:=ae;cases hr;exact⟨u,by rw[yk,List.flatten_nil,dK]⟩
 clear hl ae;generalize vs.toArray=arr at*;rcases arr with⟨l⟩;rcases l with _|⟨x,_|⟨y,r⟩⟩
 ·obtain rfl:bs=[]:=x9.mp hsz.symm;refine aE (m:=forIn [:0] (#[],[]) _) (dj (a:=(#[],[])) (by rw[Ii];rfl) ?_);refine aE (m:=Builtin.Bytes.payload (.bytes #[] t)) (dj (a:= #[]) rfl ?_);refine gi (c:=Builtin.Bytes.tooLong _) (decide_eq_false (uJ.mpr (du _))) ?_;refine aE (m:=Builtin.Bytes.Kind.new .bytes _) ?_;unfold Builtin.Bytes.Kind.new;exact yi (aE (oz (Io (aE (DN (taken:=[]) (bw ⟨_,rfl,h _ _⟩) λ_w ak=>(el ak).elim))))) (du _)
 ·obtain⟨u,rfl⟩:=hone rfl;refine aE (m:=oL (.bytes bs.flatten.toArray u)) (sF (jo _ _ _) ?_);refine pA (by rfl) ?_;exact aE (jK (bw ⟨_,rfl,h u s.toks⟩))
 ·refine aE (m:=forIn [:(⟨x::y::r⟩:Array Value).size] (#[],[]) _) ?_;rw[Ii];unfold U9;rw[show((⟨x::y::r⟩:Array Value).size-0+1-1)/1=bs.length by rw[Va];exact hsz];refine join_loop (bs:=bs) (λ{i parts taken R} ao ht hR=>?_) (jl _) (λ_w ak=>(el ak).elim) λ{taken} ht=>?_
  ·refine aE (q6 ho hd ?_);refine gi (by rw[Ve.mpr λx ak=>by rw[(ht x ak).2];exact qX];rfl) ?_;obtain⟨u,hu⟩:=hget ao;dsimp only;rw[hu];refine aE (oz (dj (a:=some (bs[i].toArray,none)) ?_ ?_))
   ·unfold Builtin.Bytes.takeBufferQuiet? Builtin.Bytes.takeBuffer?;rw[yf yg,H5,DE];kernel_rfl
   refine aE (q6 ho hd ?_);exact gi (bne_self_eq_false _) (bw (hR rfl))
  ·refine aE (m:=Builtin.Bytes.payload (.bytes #[] t)) (dj (a:= #[]) rfl ?_);dsimp only;rw[Vf,List.drop_zero];refine gi (c:=Builtin.Bytes.tooLong _) (decide_eq_false ?_) ?_
   ·rw[List.foldl_toArray,Nq];exact uJ.mpr (by show(0*_+_)<=_;rw[G5,jl];exact hz)
   refine aE (m:=Builtin.Bytes.Kind.new .bytes _) ?_;unfold Builtin.Bytes.Kind.new;have e:Builtin.Bytes.joined #[] (bs.map sL).toArray.toList=bs.flatten.toArray:=Nr.trans (Vf ..);rw[e];exact yi (aE (oz (Io (aE (DN (bw ⟨_,rfl,h _ _⟩) ht))))) (by rw[fa];exact hz)
end
end
section
open PyProof.Rows PySem.Calls
variable{g:G}
noncomputable def v7(g:G):oS->Value
 |.own f=>.ref (g.d1 f)
 |.append=>.builtin "list.append"|.pop=>.builtin "list.pop"|.index=>.builtin "list.index"|.sX=>.builtin "bytearray.append"|.sY=>.builtin "bytearray.extend"
 |.find=>.builtin "bytes.find"|.decode=>.builtin "bytes.decode"|.join=>.builtin "bytes.join"|.toBytes=>.builtin "int.to_bytes"|.encode=>.builtin "str.encode"
inductive tw (g:G) (μ:aO) (h:aK) (i:Nat) (a:ay×ay) (xs:List af) (vs:List Value) (n:Nat):Prop
 |mk (loc:μ[i]?=some a) (two:a.2=a.1) (Xr:IsL h a.1 vs.toArray n) (Xs:bC g μ h xs vs)
section
variable{μ:aO}{h:aK}{σ:ah}{x:af}{v:Value}
theorem tw.list{i:Nat}{a:ay×ay}{xs:List af}{vs:List Value}{n:Nat}(L:tw g μ h i a xs vs n):h.IsList a.1 vs.toArray:=⟨_,L.3,rfl,n,rfl⟩
theorem tw.size{i:Nat}{a:ay×ay}{xs:List af}{vs:List Value}{n:Nat}(L:tw g μ h i a xs vs n)(k:xs.length<=1000000):vs.toArray.size<=d0:=by rw[fa,L.4.length];exact aB k fj
variable{C:Value->Prop}
theorem rI(S:br g μ σ h)(ai:bf g μ h x v){F:Nat->List af->Ask}(p:(fP x λi=>Ask.obj (σ.get i) (isList (F i))).P)(K:∀i a xs vs n,tw g μ h i a xs vs n->(F i xs).P->C (.ref a.1)):C v:=by
 obtain⟨i,rfl,p⟩:=jU p;obtain⟨xs,e,p⟩:=pZ p;obtain⟨a,vs,n,aa,rfl,h3,h4,h5⟩:=S.listAt ai e;exact K i a xs vs n ⟨aa,h3,h4,h5⟩ p
theorem DO(S:br g μ σ h)(ai:bf g μ h x v){F:Nat->List UInt8->Ask}(p:(fP x λi=>Ask.obj (σ.get i) (sU (F i))).P)(K:∀i a xs,(μ[i]?=some a/\ a.2=a.1/\ h.get? a.1=some (eV xs.toArray))->(F i xs).P->C (.ref a.1)):C v:=by
 obtain⟨i,rfl,p⟩:=jU p;obtain⟨a,aa,rfl,o⟩:=S.at_ ai
 cases e:σ.get i with
 |dW xs=>
  have p:(sU (F i) (σ.get i)).P:=p;rw[e]at p o;exact K i a xs ⟨aa,o⟩ p
 |_=>
  have p:(sU (F i) (σ.get i)).P:=p;rw[e]at p;exact p.elim
theorem nH(ai:bf g μ h x v){F:Int->Ask}(p:(dS x F).P)(K:∀i t,(F i).P->C (.int i t)):C v:=by
 obtain⟨i,rfl,p⟩:=jx p;obtain⟨t,rfl⟩:=ai;exact K i t p
theorem tx(ai:bf g μ h x v){F:String->Ask}(p:(onStr x F).P)(K:∀i t,(F i).P->C (.str (aI i) t)):C v:=by
 obtain⟨i,rfl,p⟩:=rB p;obtain⟨t,rfl⟩:=ai;exact K i t p
theorem rJ(ai:bf g μ h x v){F:List UInt8->Ask}(p:(onBytes x F).P)(K:∀i t,(F i).P->C (.bytes i.toArray t)):C v:=by
 obtain⟨i,rfl,p⟩:=zp p;obtain⟨t,rfl⟩:=ai;exact K i t p
theorem tA{C:Prop}{F:Nat->Ask}(p:(fP x F).P)(K:∀i,x=.loc i->(F i).P->C):C:=(jU p).elim λi p=>K i p.1 p.2
end
section
variable{μ:aO}{h:aK}{C:List Value->Prop}{xs:List af}{vs:List Value}
theorem o5{F:eS}(H:bC g μ h xs vs)(p:(oU xs F).P)(K:∀x v,bf g μ h x v->(F x).P->C [v]):C vs:=by
 cases xs with
 |nil=>exact p.elim
 |cons x r=>cases r with
  |nil=>obtain⟨v,rfl,a⟩:=H.one;exact K x v a p
  |cons _ _=>exact p.elim
theorem DP{F:af->eS}(H:bC g μ h xs vs)(p:(Cf xs F).P)(K:∀x y v w,bf g μ h x v->bf g μ h y w->(F x y).P->C [v,w]):C vs:=by
 cases xs with
 |nil=>exact p.elim
 |cons x r=>
  obtain⟨v,vs,rfl,a,H⟩:=H;exact o5 (C:=λvs=>C (v::vs)) (F:=F x) H (by cases r with|nil=>exact p|cons _ r=>cases r<;>exact p) λy w b p=>K x y v w a b p
theorem Nu{F:af->af->eS}(H:bC g μ h xs vs)(p:(Cg xs F).P)(K:∀x y z v w u,bf g μ h x v->bf g μ h y w->bf g μ h z u->(F x y z).P->C [v,w,u]):C vs:=by
 cases xs with
 |nil=>exact p.elim
 |cons x r=>
  obtain⟨v,vs,rfl,a,H⟩:=H;exact DP (C:=λvs=>C (v::vs)) (F:=F x) H (by cases r with|nil=>exact p|cons _ r=>cases r with|nil=>exact p|cons _ r=>cases r<;>exact p) λy z w u b c p=>K x y z v w u a b c p
end
section
variable{μ:aO}{h:aK}
theorem Nv:∀{xs:List af}{vs:List Value}{bs:List (List UInt8)},bC g μ h xs vs->bytesOf xs=some bs->qd vs bs:=by
 intro xs
 induction xs with
 |nil=>intro _ _ q e;cases q;cases e;rfl
 |cons x xs ih=>
  intro _ _ q e;obtain⟨v,vs,rfl,a,b⟩:=q;cases x with
  |bytes i=>
   obtain⟨ns,e1,rfl⟩:=dZ e;obtain⟨t,rfl⟩:=a;exact⟨i,t,ns,rfl,rfl,ih b e1⟩
  |_=>exact cU e
theorem Nw{k:Int}:∀{ns:List Int}{j:Nat},indexOf k ns=some j->ns[j]?=some k/\ ∀{m z},m<j->ns[m]?=some z->z≠k:=by
 intro ns
 induction ns with
 |nil=>intro j e;exact cU e
 |cons n ns ih=>
  intro j e;have e:(if n=k then some 0 else(indexOf k ns).map (· +1))=some j:=e;by_cases hn:n=k
  ·rw[if_pos hn]at e;cases e;exact⟨congrArg _ hn,λh=>absurd h (pB _)⟩
  ·rw[if_neg hn]at e;obtain⟨i,ao,rfl⟩:=dZ e;refine⟨(ih ao).1,λ{m z} hm e=>?_⟩;cases m with
   |zero=>exact λq=>hn ((cW e).trans q)
   |succ m=>exact(ih ao).2 (pq hm) e
end
section
variable{A:bA}{E:Value->ag->Prop}{s:ag}{μ:aO}{σ:ah}{l:List Env}{v:Value}{x:af}{vs:List Value}{xs:List af}{Q:Value->ag->Prop}{T:eH}
theorem v8{h:aK}{a:ay}{f:Obj->Obj}{d:ay}:∀b ob,h.get? b=some ob->b≠a->b≠d->(h.update a f).get? b=some ob:=λb ob e ae _w=>(x1 _ _ λz=>ae z.symm).trans e
theorem Nx(S:br g μ σ s.heap)(ai:bf g μ s.heap x v)(hvs:bC g μ s.heap xs vs)(p:(sZ .append x xs σ T).P)(q:fi (m:=false) g l μ s T Q):aN (aD g.prog g.w) A (call (.builtin "list.append") (v::vs)) Q E s:=by
 refine tA p λi e p=>o5 (C:=λvs=>aN _ _ (call _ (v::vs)) _ _ _) hvs p λy u hu p=>rI (C:=λv=>aN _ _ (call _ [v,u]) _ _ _) S (e▸ai) (F:=λi xs=>.cond (xs.length<1000000)<|T .none (σ.set i (.list (xs++[y])))) p λj a ys us k L p=>?_;have hl2:=L.3.update λxs=>xs.push u;rw[Ip]at hl2;refine Iq Vg (T:="list") ⟨_,L.3,rfl⟩ F.entry_list_append (F.args_list_append_2 _ _) (PySem.list_append a.1 us.toArray k u (L.size (dA p.1))) ⟨L.3,?_⟩;exact q.1 (x:=.none) (bo.upd (tk:=s.toks) (o:=.list (ys++[y])) S L.1 v8 λx0=>⟨L.2,us++[u],_,hl2,bC.append (ys:=[y]) ⟨u,[],rfl,hu.ext x0,rfl⟩ (L.4.ext x0)⟩) rfl p.2
theorem Ny{us:List Value}(h:us≠[]):us.toArray.eraseIdxIfInBounds (us.toArray.size-1)=us.dropLast.toArray:=by
 have DQ:us.toArray.size-1<us.toArray.size:=Nat.sub_lt (Vh.mpr h) Nat.one_pos;unfold Array.eraseIdxIfInBounds;rw[dif_pos DQ];apply Il;rw[Array.toList_eraseIdx,List.eraseIdx_eq_take_drop_succ,Ir];show us.take (us.length-1)++us.drop (us.length-1+1)=us.take (us.length-1);rw[dU (Vh.mpr h),List.drop_length,dK]
theorem Nz(S:br g μ σ s.heap)(ai:bf g μ s.heap x v)(hvs:bC g μ s.heap xs vs)(p:(sZ .pop x xs σ T).P)(q:fi (m:=false) g l μ s T Q):aN (aD g.prog g.w) A (call (.builtin "list.pop") (v::vs)) Q E s:=by
 refine tA p λi e p=>?_;cases xs with
 |cons _ _=>exact p.elim
 |nil=>
  cases hvs;refine rI (C:=λv=>aN _ _ (call _ [v]) _ _ _) S (e▸ai) (F:=λi xs=>Ask.some xs.getLast? λv=>.cond (xs.length<=1000000)<|T v (σ.set i (.list xs.dropLast))) p λj a ys us k L p=>?_;obtain⟨y,hy,n,p⟩:=p;rw[List.getLast?_eq_getElem?]at hy;obtain⟨u,hu1,hu2⟩:=L.4.get hy;rw[<-L.4.length]at hu1;have hl2:=L.3.update λxs=>xs.eraseIdxIfInBounds (us.toArray.size-1);rw[Ny λz=>by rw[z]at hu1;exact cU hu1]at hl2;refine Iq Vi (T:="list") ⟨_,L.3,rfl⟩ F.entry_list_pop (F.args_list_pop_1 _) (Yt a.1 us.toArray k u ((mX ..).trans hu1) (L.size n)) ⟨L.3,?_⟩;have st:=bo.upd (l:=l) (tk:=s.toks) (o:=.list ys.dropLast) S L.1 v8 λx0=>⟨L.2,us.dropLast,_,hl2,by rw[Ir,Ir,L.4.length];exact(L.4.ext x0).take⟩;exact q.1 st (hu2.ext (st.1.ext .nil)) p
end
end
section
open PyProof.Rows PySem.Calls
variable{g:G}
theorem NA{b:Array UInt8}{v:Int}{m:Nat}(ae:Vj b=KTBy.little m v):b=(bO v m).toArray:=by
 rw[KTBy.little_eq]at ae;apply Il;refine Ul (f:=λc:UInt8=>(c.toNat:Int)) (λa b h=>It.mp (na.mp h))|>.mp ?_
 refine ae.trans ?_;show _=(bO v m).map _;unfold bO;rw[oF];refine uP λk _w=>?_;have aa:0<=v/256^k%256:=fJ _ (by decide);have h2:v/256^k%256<256:=fw _ (by decide);show _=((v/256^k%256).toNat.toUInt8.toNat:Int);rw[UInt8.toNat_ofNat_of_lt' (Int.toNat_lt' (by decide)|>.mpr h2),gD aa]
section
variable{A:bA}{E:Value->ag->Prop}{s:ag}{μ:aO}{σ:ah}{l:List Env}{v:Value}{x:af}{vs:List Value}{xs:List af}{Q:Value->ag->Prop}{T:eH}
theorem DR{us:List Value}{ns:List Int}{k:Int}(ao:xI us ns){m:Nat}(hm:m<us.toArray.size):∃z,ns[m]?=some z/\ isInt k us.toArray[m]=decide (z=k):=by
 have hn:m<ns.length:=ao.length▸hm;obtain⟨t,ht⟩:=ao.get m ns[m] (jL hn);refine⟨_,jL hn,?_⟩;rw[show us.toArray[m]=.int ns[m] t from(jF.mp ht).2];show(ns[m]==k)=_;exact Bool.eq_iff_iff.mpr (beq_iff_eq.trans decide_eq_true_iff.symm)
theorem NB(S:br g μ σ s.heap)(ai:bf g μ s.heap x v)(hvs:bC g μ s.heap xs vs)(p:(sZ .index x xs σ T).P)(q:fi (m:=false) g l μ s T Q):aN (aD g.prog g.w) A (call (.builtin "list.index") (v::vs)) Q E s:=by
 refine tA p λi e p=>o5 (C:=λvs=>aN _ _ (call _ (v::vs)) _ _ _) hvs p λy u hu p=>nH (C:=λu=>aN _ _ (call _ [v,u]) _ _ _) hu p λk t p=>rI (C:=λv=>aN _ _ (call _ [v,_]) _ _ _) S (e▸ai) (F:=λi xs=>Ask.some (intsOf xs) λns=>Ask.some (indexOf k ns) λj=>.cond (xs.length<=1000000)<|T (.int j) σ) p λ_w a ys us c L p=>?_;obtain⟨ns,hns,j,a8,n,p⟩:=p;have ao:=zV L.4 hns;have hsz:us.toArray.size<=1000000:=by rw[fa,L.4.length];exact n
 obtain⟨j1,j2⟩:=Nw a8;have hju:j<us.toArray.size:=bU (jF.mp j1).1 (bb ao.length.symm);refine Iq Vk (T:="list") ⟨_,L.3,rfl⟩ F.entry_list_index (F.args_list_index_2 _ _) (Yu a.1 us.toArray c _ (isInt k) (λy hy=>eq_isInt k _ ao y (Uo.mp hy)) j hju (dk (dR.mpr (bU hju hsz)) (by decide)) ?_ λm hm hlt=>?_) ⟨L.3,q.1 (x:=.int j) (.tok S _) ⟨_,rfl⟩ p⟩
 ·obtain⟨z,h2,h3⟩:=DR (k:=k) ao hju;rw[h3];exact decide_eq_true (cW (h2.symm.trans j1))
 ·obtain⟨z,h2,h3⟩:=DR (k:=k) ao hm;rw[h3];exact decide_eq_false (j2 hlt h2)
theorem NC(S:br g μ σ s.heap)(ai:bf g μ s.heap x v)(hvs:bC g μ s.heap xs vs)(q:fi (m:=false) g l μ s T Q):∀{k:oS},(sZ k x xs σ T).P->au (aD g.prog g.w) A (call (v7 g k) (v::vs)) Q E s:=by
 intro k;cases k with
 |append=>
  intro p;exact aT (Nx S ai hvs p q)
 |pop=>
  intro p;exact aT (Nz S ai hvs p q)
 |index=>
  intro p;exact aT (NB S ai hvs p q)
 |sX=>
  intro p;exact tA (x:=x) p λi e p=>o5 (C:=λvs=>au _ _ (call _ (v::vs)) _ _ _) hvs p λy u hu p=>nH (C:=λu=>au _ _ (call _ [v,u]) _ _ _) hu p λk t p=>DO (C:=λv=>au _ _ (call _ [v,_]) _ _ _) S (e▸ai) (F:=λi xs=>.cond ((0<=k/\ k<256/\ xs.length<1000000))<|T .none (σ.set i (.dW (xs++[k.toNat.toUInt8])))) p λ_w a ys h p=>
   Mx h.2.2 p.1.1 p.1.2.1 (aB p.1.2.2 fj) λhn=>q.1 (x:=.none) (bo.upd (tk:=s.toks) (o:=.dW (ys++[k.toNat.toUInt8])) S h.1 v8 λ_w=>⟨h.2.1,Ip ys _▸hn⟩) rfl p.2
 |sY=>
  intro p;exact tA (x:=x) p λi e p=>o5 (C:=λvs=>au _ _ (call _ (v::vs)) _ _ _) hvs p λy u hu p=>rJ (C:=λu=>au _ _ (call _ [v,u]) _ _ _) hu p λzs t p=>DO (C:=λv=>au _ _ (call _ [v,_]) _ _ _) S (e▸ai) (F:=λi xs=>.cond (xs.length+zs.length<=1000000)<|T .none (σ.set i (.dW (xs++zs)))) p λ_w a ys h p=>
   Mz h.2.2 (aB p.1 fj) λhn=>q.1 (x:=.none) (bo.upd (tk:=s.toks) (o:=.dW (ys++zs)) S h.1 v8 λ_w=>⟨h.2.1,xU ys zs▸hn⟩) rfl p.2
 |find=>
  intro p;exact rJ (C:=λv=>au _ _ (call _ (v::vs)) _ _ _) ai p λys t p=>Nu (C:=λvs=>au _ _ (call _ (_::vs)) _ _ _) hvs p λy a b u w z hu hw hz p=>rJ (C:=λu=>au _ _ (call _ [_,u,w,z]) _ _ _) hu p λy t1 p=>nH (C:=λw=>au _ _ (call _ [_,_,w,z]) _ _ _) hw p λa t2 p=>nH (C:=λz=>au _ _ (call _ [_,_,_,z]) _ _ _) hz p λb t3 p=>by
   obtain⟨⟨rfl,dv,cS,n3,_⟩,p⟩:=p;obtain⟨c,rfl⟩:=iy dv;obtain⟨d,rfl⟩:=iy (bG dv cS);refine aT (Na (aX.mp cS) (aX.mp n3) λt' tk=>q.1 (x:=.int _) (.tok S tk) ⟨t',rfl⟩ ?_)
   rwa [Int.toNat_sub,fc]at p
 |decode=>
  intro p;exact rJ (C:=λv=>au _ _ (call _ (v::vs)) _ _ _) ai p λys t p=>o5 (C:=λvs=>au _ _ (call _ (_::vs)) _ _ _) hvs p λy u hu p=>tx (C:=λu=>au _ _ (call _ [_,u]) _ _ _) hu p λy t1 p=>
   aT (p.1.1▸Nl (aB p.1.2 fj) λt' tk=>q.1 (x:=.str (pI ys)) (.tok S tk) ⟨t',rfl⟩ p.2)
 |join=>
  intro p;exact rJ (C:=λv=>au _ _ (call _ (v::vs)) _ _ _) ai p λys t p=>o5 (C:=λvs=>au _ _ (call _ (_::vs)) _ _ _) hvs p λy u hu p=>rI (C:=λu=>au _ _ (call _ [_,u]) _ _ _) S hu (F:=λ_w zs=>Ask.some (bytesOf zs) λbs=>.cond ((ys=[]/\ bs.flatten.length<=1000000/\ zs.length<=1000000))<|T (.bytes bs.flatten) σ) p λ_w a zs us c L p=>p.elim λbs p=>
   aT (p.2.1.1▸Nt L.list (Nv L.4 p.1) (aB p.2.1.2.1 fj) λt' tk=>q.1 (x:=.bytes bs.flatten) (.tok S tk) ⟨t',rfl⟩ p.2.2)
 |toBytes=>
  intro p;exact nH (C:=λv=>au _ _ (call _ (v::vs)) _ _ _) ai p λi t p=>DP (C:=λvs=>au _ _ (call _ (_::vs)) _ _ _) hvs p λy z u w hu hw p=>nH (C:=λu=>au _ _ (call _ [_,u,w]) _ _ _) hu p λn t1 p=>tx (C:=λw=>au _ _ (call _ [_,_,w]) _ _ _) hw p λy t2 p=>by
   obtain⟨⟨rfl,dN,bM,c2,c3⟩,p⟩:=p;obtain⟨m,rfl⟩:=iy dN;exact aT (KTBy.to_little (B:=256^m) (aX.mp (show(m:Int)<=((8:Nat):Int)from bM)) rfl c2 c3 λb t' k' ae hlen=>q.1 (x:=.bytes (bO i m)) (.tok S k') ⟨t',by rw[NA ae]⟩ p)
 |encode=>
  intro p;exact tx (C:=λv=>au _ _ (call _ (v::vs)) _ _ _) ai p λy t p=>o5 (C:=λvs=>au _ _ (call _ (_::vs)) _ _ _) hvs p λz u hu p=>tx (C:=λu=>au _ _ (call _ [_,u]) _ _ _) hu p λz t1 p=>
   aT (p.1.1▸p.1.2▸Nn λt' tk=>q.1 (x:=.bytes []) (.tok S tk) ⟨t',rfl⟩ p.2)
 |own _=>
  intro p;exact p.elim
end
end
section
open PyProof.Rows PySem.Calls
variable{g:G}
namespace Fa
theorem ty{id T:String}(h:fastBuiltinType id=pure (.type T)):oL (.builtin id)=pure (.type T):=by show builtinType _=_;rw[builtinType_eq_fast];exact h
theorem DS:PlainAttrs "bytearray":=⟨⟨"bytearray.__getattribute__",i9 (by kernel_rfl),by decide+kernel⟩,i9 (by kernel_rfl)⟩
theorem ND:oL (.builtin "bytearray.append")=pure (.type "method_descriptor"):=ty (by kernel_rfl)
theorem NE:oL (.builtin "bytearray.extend")=pure (.type "method_descriptor"):=ty (by kernel_rfl)
theorem NF:oL (.builtin "bytes.find")=pure (.type "method_descriptor"):=ty (by kernel_rfl)
theorem NG:oL (.builtin "bytes.join")=pure (.type "method_descriptor"):=ty (by kernel_rfl)
theorem NH:oL (.builtin "str.encode")=pure (.type "method_descriptor"):=ty (by kernel_rfl)
end Fa
theorem mw{m k:Nat}{A B:Ask}(p:(k1 m k A B).P):(m=k/\ A.P) \/B.P:=by
 have p:Ask.P (match dQ m k with|true=>A|false=>B):=p;cases q:dQ m k with
 |true=>rw[q]at p;exact .inl ⟨mW q,p⟩
 |false=>rw[q]at p;exact .inr p
theorem fQ.shadow{μ:aO}{h:aK}{m:Str}{k:Nat}:∀{fs:List (Nat×af)}{es:List hG},fQ g μ h fs es->(∀f∈fs,m≠aI (cZ f.1))->shadowIn (some (uz es k)) m=some false:=by
 intro fs es H hm;have key:∀{fs:List (Nat×af)}{es:List hG},fQ g μ h fs es->(∀f∈fs,m≠aI (cZ f.1))->es.find? (·.key.isStr m)=none:=by
  intro fs
  induction fs with
  |nil=>intro _ H _;cases H;rfl
  |cons f fs ih=>
   intro _ H hm;obtain⟨d,r,t,rfl,k,_,b⟩:=H;refine(qT ?_).trans (ih b λx ak=>hm x (.tail _ ak));rw[k];exact λq=>hm f (.head _) (eq_of_beq q).symm
 unfold shadowIn;show(getL m es).map _=_;unfold getL;rw[key H hm,H.Dr];rfl
section
variable{A:bA}{E:Value->ag->Prop}{s:ag}{μ:aO}{σ:ah}
theorem NI(K:c0 g)(S:br g μ σ s.heap){m:Nat}{x:af}{v:Value}(ai:bf g μ s.heap x v){T:oS->Ask}(p:(Ce bk x m σ T).P){di:Sem Bool}{Q:Value×List Value->ag->Prop}(H:∀{k},kp g (v7 g k)->(T k).P->Q (v7 g k,[v]) s):
  aN (aD g.prog g.w) A (oM v (ro m) di) Q E s:=by
 cases x with
 |loc i=>
  have p:(Cd bk m T (σ.get i)).P:=p;cases e:σ.get i with
  |inst c fs=>
   rw[e]at p;obtain⟨f,hf,p⟩:=p;obtain⟨a,cO,es,k,rfl,I⟩:=S.zD ai e;have CK:=K.16 c I.2;obtain⟨m1,m2,m3,m4⟩:=CK.8 m f hf;exact method_fn (K.15.keeps S.2) I.4 (HK CK.1).1 (HK CK.1).2 m1 m2 (I.5.shadow λf hf=>m3 f.1 (I.3 f hf)) (H (k:=.own f) (.K K m4) p)
  |list ys=>
   rw[e]at p;obtain⟨a,us,rfl,⟨o,hl,hr⟩,_,n,hn⟩:=S.rH ai e;have hd:∀b,kT a=.ref b-> ∃o,s.heap.get? b=some o/\ o.dict=none:=λb e=>⟨_,oE e▸hn,rfl⟩;have hT:s.TypeIs (.ref a) "list":=⟨_,hn,rfl⟩;refine(mw p).elim (λp=>?_) λp=>(mw p).elim (λp=>?_) λp=>(mw p).elim (λp=>?_) False.elim
   ·rw[p.1];exact uT hT Iu Vg F.type_list_append hd (H (k:=.append) .bi p.2)
   ·rw[p.1];exact uT hT Iu Vi F.type_list_pop hd (H (k:=.pop) .bi p.2)
   ·rw[p.1];exact uT hT Iu Vk F.type_list_index hd (H (k:=.index) .bi p.2)
  |dW ys=>
   obtain⟨a,aa,rfl,o⟩:=S.at_ ai
   rw[e]at p o;have hd:∀b,kT a.1=.ref b-> ∃o,s.heap.get? b=some o/\ o.dict=none:=λb e=>⟨_,oE e▸o.2,rfl⟩;have hT:=nG (b:=ys.toArray) o.2;refine(mw p).elim (λp=>?_) λp=>(mw p).elim (λp=>?_) False.elim
   ·rw[p.1];exact uT hT Fa.DS Fa.Dz Fa.ND hd (H (k:=.sX) .bi p.2)
   ·rw[p.1];exact uT hT Fa.DS Fa.DA Fa.NE hd (H (k:=.sY) .bi p.2)
  |_=>rw[e]at p;exact p.elim
 |bytes b=>
  obtain⟨t,rfl⟩:=ai;refine(mw p).elim (λp=>?_) λp=>(mw p).elim (λp=>?_) λp=>(mw p).elim (λp=>?_) False.elim
  ·have h:Q (.builtin "bytes.find",_) s:=H (k:=.find) .bi p.2;rw[p.1];show aN _ _ (oM _ (aI "find") _) _ _ _
   with_reducible exact Iv _ (jo _ _ _) Fa.DI Fa.NF Iw h
  ·have h:Q (.builtin "bytes.decode",_) s:=H (k:=.decode) .bi p.2;rw[p.1];show aN _ _ (oM _ (aI "decode") _) _ _ _
   with_reducible exact Iv _ (jo _ _ _) Vc FB.type_bytes_decode Iw h
  ·have h:Q (.builtin "bytes.join",_) s:=H (k:=.join) .bi p.2;rw[p.1];show aN _ _ (oM _ (aI "join") _) _ _ _
   with_reducible exact Iv _ (jo _ _ _) Fa.DM Fa.NG Iw h
 |int i=>
  obtain⟨t,rfl⟩:=ai;refine(mw p).elim (λp=>?_) False.elim;rw[p.1];exact KTBy.method (H (k:=.toBytes) .bi p.2)
 |str b=>
  obtain⟨t,rfl⟩:=ai;refine(mw p).elim (λp=>?_) False.elim;rw[p.1];exact uT (Vd _ _ _) F.plainAttrs_str Fa.DJ Fa.NH (λ_w e=>nomatch e) (H (k:=.encode) .bi p.2)
 |_=>exact p.elim
end
end
section
open PyProof.Rows PySem.Calls
variable{g:G}
section
variable{α β:Type}{o:Option α}{y:β}{C:Prop}
theorem cP{f:α->Option β}(h:o.bind f=some y)(K:∀x,o=some x->f x=some y->C):C:=(b8 h).elim λx h=>K x h.1 h.2
theorem fS{C:β->Prop}{f:α->β}(h:o.map f=some y)(K:∀x,o=some x->C (f x)):C y:=(dZ h).elim λx h=>h.2▸K x h.1
theorem lm{C:β->Prop}{b:Bool}{x:β}(h:(bif b then some x else none)=some y)(K:b=true->C x):C y:=(gN h).2▸K (gN h).1
theorem tB{C:β->Prop}{b:Bool}{x:β}(h:(bif !b then some x else none)=some y)(K:b=false->C x):C y:=(jV h).2▸K (jV h).1
end
section
variable{prog:ef}{w:World}{A:bA}{E:Value->ag->Prop}{s:ag}{env:Env}
theorem DT{o:aL}{name:Str}{apos pos:Pos}{args:List aL}{Q:Value->ag->Prop}(ar:odd o=false)(hn:(iw pos (gf args env)).any (·.1)=false)(hlen:args.length<=10)(hline:(apos.endLine==pos.line)=true)
  (h:au (aD prog w) A (bY o env) (λov aH=>∀di,aN (aD prog w) A (oM ov name di) (λr bL=>au (aD prog w) A (uF pos r.1 r.2 (iw pos (gf args env)) []) Q E bL) E aH) E s):
  au (aD prog w) A (bY (.Call (.Attribute o name apos) args [] pos) env) Q E s:=by
 rw[Vl,Dm ar];refine seq (cC h λov aH aY=>cx ?_);have hform:Vm (args.length+([]:List Keyword).length) (iw pos (gf args env)) (Hp pos (Hq [] env))=true:=by
  have a:(iw pos (gf args env)).all (!·.1)=true:=l5.mpr λx ak=>by rw[Bl.mpr (Ve.mp hn x ak)];rfl
  exact og.mpr ⟨og.mpr ⟨a,rfl⟩,decide_eq_true (cM hlen (by decide))⟩
 unfold Vn;rw[hform];refine dD (mono (aT (aY _)) (λr bL cA=>?_) λ_w _w x=>x);refine seq (m:=Vo true o env apos pos) (aT (dj (a:=pos) (if_pos hline) cA))
end
theorem NJ(KK:c0 g){o:X}{m:Nat}{as:List X}(ho:bn g o)(hl:jW g as):bn g (.aS o m as):=by
 intro W ck e h mo μ σ s K P st Q E C p q ae aW;refine cP h λl aa h=>cP h λes h2 h=>lm (C:=λe=>au _ _ (run _ e _) _ _ _) h λn=>?_;obtain⟨n,cS⟩:=bV n;obtain⟨n0,dv⟩:=bV n;refine gm (λ_w=>rfl) q ae λ{Q'} q=>DT (ow _▸n0) (noStar h2) (tt h2▸tn dv) cS (ho (m:=false) aa C p ⟨λ{v x fT s1' aJ} s1 v1 p di=>NI KK s1.2 v1 p λ{k} dF p=>rE hl h2 dF (C.at_ s1) p (aW.at_ s1) λ{vs xs ib s2' aC} s2 v2 hn p=>?_⟩ ci aW);have p:Ask.P (gJ as _ _ _):=p;rw[nF hn]at p;have q:=q.at_ (s1.trans s2)
 have v1:bf g ib s2'.heap x v:=v1.ext (s2.1.ext .nil);have own:∀f,(Ch (TT W.n) (.own f) x xs aC (jq K st W.ρ) P W.ρ).P->au (aD g.prog g.w) W.A (call (v7 g (.own f)) ([v]++vs)) Q' E s2':=λf p=>
  have C:=C.at_ (s1.trans s2)
  pN (C.calls C.toBs C.lv.call.1 C.lv.call.2 (xs:=x::xs) ⟨v,vs,rfl,v1,v2⟩ p ⟨λa b c=>q.1 a b c⟩ (aW.at_ (s1.trans s2)))
 cases k with
 |own f=>exact own f p
 |_=>exact NC s2.2 v1 v2 q p
end
section
open PyProof.Rows PySem.Calls
variable{g:G}
section
variable{prog:ef}{w:World}{A:bA}{E:Value->ag->Prop}{s:ag}{K:gz}
theorem NK{di:Sem Bool}{Q:Value×List Value->ag->Prop}(X:K.In s.heap)
  (e:qQ K (.type "int") (.type "type") (aI "from_bytes")=some (.get (.builtin "classmethod_descriptor.__get__") (.builtin "int.from_bytes") .none (.type "int")))
  (h:Q (.ref s.heap.objs.size,[]) {s with heap:=s.heap.push sM,toks:=s.toks+1}):aN (aD prog w) A (oM (.type "int") (aI "from_bytes") di) Q E s:=by
 have L0:iR (aD prog w) s.heap (oL (.type "int")) (.type "type"):=sD (by kernel_rfl);have cK:eG K (.type "type") "__getattribute__"=some (some (.builtin "type.__getattribute__")):=type_tga;unfold oM yb;refine aE (aE (L0.here ((ym X cK).here ?_)));refine pA canon_tga ?_;refine aE (sE (Q:=λv=>Q (v,[])) (E:=E) ?_ (λ_w _w z=>bw z) λ_w _w z=>z);refine cls_open X (sD (by unfold Vq;dsimp only;rw[show Vr "int"=false by decide+kernel];rfl)) L0 cK (Vs X (r:=none) (by rfl)) (by show subIn K _ _=_;rfl) e ?_;show aN _ _ (hJ [.builtin "int.from_bytes"] (call (.builtin "classmethod_descriptor.__get__") [.builtin "int.from_bytes",.none,.type "int"])>>=λv=>ret v) _ _ _;exact aE (oz (px KFB.slot_get KFB.type_fb KFB.entry_get (KFB.run_get ⟨_,rfl,bw (bw h)⟩) (KFB.args_get _ _ _)))
theorem NL{M:iQ}{h:aK}{u:ay}(ho:h.get? u=some sM):iR M h (xO (.ref u)) .machine:=by
 intro A Q E s k q;unfold xO;refine aE (oK (k _ _ ho) ?_);simp only[sM,show(nc "builtin_function_or_method" !=nc "method")=true by decide,show(nc "builtin_function_or_method"==nc "builtin_function_or_method"||nc "builtin_function_or_method"==nc "method-wrapper")=true by decide,if_true];exact bw q
theorem NM:∀(xs:List UInt8),Vt ((Vj xs.toArray).reverse)=xs.foldr (λc a=>(c.toNat:Int)+256*a) 0:=by
 intro xs;unfold Vt;rw[List.foldl_reverse,KBw.ints_list]
 induction xs with
 |nil=>rfl
 |cons c r ih=>rw[l9,Vu,Vu,ih,ps,lY]
end
theorem cH.same{Z:List ay}{μ aF:aO}{h h':aK}(F:cH Z [] μ h aF h'){a:ay}{o:Obj}(e:h.get? a=some o)(er:¬cj μ a)(hz:a∉Z):h'.get? a=some o:=(F.2 a o e el er).resolve_right λq=>hz q.1
theorem NN(KK:c0 g){a:X}(aM:bn g a):bn g (.fromBytes a):=by
 intro W ck e h mo μ σ s K P st Q E C p q ae aW;refine cP h λgx aa h=>cP h λl h2 h=>cP h λk h3 h=>lm (C:=λe=>au _ _ (run _ e _) _ _ _) h λn=>?_;obtain⟨n0,dv⟩:=bV n;have n0:odd l=false:=ow _▸n0;cases h3;obtain⟨y,rfl⟩:=rF aa;refine gm (λ_w=>rfl) q ae λ{Q'} q=>DT rfl (by rw[rD n0];rfl) (xE rfl) dv (zt KK C aa (KK.10 _ (by decide)) (by decide+kernel) (v:=.type "int") (by kernel_rfl) λdi=>NK (KK.15.keeps C.sim.2) KK.14 ?_);have s0:bo g W.l μ s μ {s with heap:=s.heap.push sM,toks:=s.toks+1} σ:=⟨.push _,C.sim.push _,rfl⟩;have pd:¬cj μ s.heap.objs.size:=λq=>(C.sim.live q).elim λo ho=>none_of ho (d3 _);have at_:∀{aF s' σ'},bo g W.l μ {s with heap:=s.heap.push sM,toks:=s.toks+1} aF s' σ'->s'.heap.get? s.heap.objs.size=some sM:=λt=>t.1.same (gX _ rfl) pd (C.iH.not (d3 _))
 refine callWith_of (P:=λh=>h.get? s.heap.objs.size=some sM) (by rw[rD n0];rfl) (λh aZ=>⟨.machine,.inr (.inl rfl),NL aZ⟩) (Di (by rw[rD n0];rfl) (spliced_more (aM (m:=false) h2 (C.at_ s0) p ⟨λ{v x fT s1' aJ} s1 v1 p=>spliced_more ?_ rfl⟩ ci (aW.at_ s0)) (rD n0)));show au _ _ (HE _) _ _ _;refine aT (Bk (spliced_none ⟨at_ (s1.trans (.tok s1.2 _)),?_⟩));exact rJ (C:=λv=>au _ _ (call _ ([]++[v,_])) _ _ _) v1 p λxs t p=>aT (KFB.call_of (at_ (s1.trans (.tok s1.2 _))) (λz=>KFB.tree_little (by rw[fa];exact p.1) z) (by
  rw[NM]
  exact q.1 (x:=.int _) (s0.trans (s1.trans (.tok s1.2 _))) ⟨_,rfl⟩ p.2))
end
section
open PyProof.Rows PySem.Calls
variable{g:G}
section
variable{prog:ef}{w:World}{A:bA}{K:gz}{C fI:ay}{R:jG->ag->Prop}{h:aK}{eu:Array yn}{d:Drawn}{t:Nat}{os:xQ}{E:Value->ag->Prop}
theorem NO{rest:List Value}(X:K.In h)(hm:Hv K C=true)(hf:eG K (.ref C) "__init__"=some (some (.ref fI)))(ht:Bj K (.ref fI)=some (.type "function"))
  (hq:d2 (aD prog w) (A.under (.builtin "type.__call__" ⟨.ref C::rest,[]⟩)) (.call (.ref fI) ⟨.ref (h.objs.size+1)::rest,[]⟩) (InitBack (h.objs.size+1) R) ⟨(h.push pC).push (oN C h.objs.size),eu,d,t,os⟩):
  d2 (aD prog w) A (.call (.ref C) ⟨rest,[]⟩) R ⟨h,eu,d,t,os⟩:=by
 have Y:=makes_of (M:=aD prog w) X hm;have ao:iR (aD prog w) h (kf (.ref C) "__init__") (some (.ref fI)):=ym X hf;have ae:∀self,iR (aD prog w) h (Vv (.ref fI) self) (.ref fI,[self]):=λself=>bind_fn X self ht;have Y':=Y;obtain⟨⟨oc,od,cd,cO,hC,e1,e2,e4⟩,made,base,self,top,cl,typ⟩:=Y;refine iZ ?_;show au _ _ (load C>>=λo=>_) _ _ _;refine seq (aT (oK hC ?_));show au _ _ (Vw _ _) _ _ _;unfold Vw;refine seq (aT (cl.here ?_));refine seq (aT (dj (tc_bind _) (seq (done ?_))));refine done (a:=Fin.again (.call (.builtin "type.__call__") ⟨.ref C::rest,[]⟩)) ⟨rfl,rfl,iZ ?_⟩;show au _ A.in1 (do qY "type.__call__" ⟨.ref C::rest,[]⟩;again (.builtin "type.__call__" ⟨.ref C::rest,[]⟩)) _ _ _;refine seq (aT (Vx tc_kind tc_split typ (tc_args _ _ _) (done ⟨BF _ (by decide+kernel),by kernel_rfl,zO Vy ?_⟩)));unfold Builtin.«type.__call__»;have hmr:iR (aD prog w) h (mroOf (.ref C)) cd.mro:=((Vz (part:=none) hC).andThen .now).andThen .now;refine gn rfl ?_;refine seq (aT (hmr.here (gn e4 ?_)));refine seq (aT (made.here (seq (done ?_))));have k:∀b o,h.get? b=some o->((h.push pC).push (oN C h.objs.size)).get? b=some o:=λb o e=>oj _ (oj _ e);have ak:((h.push pC).push (oN C h.objs.size)).get? (h.objs.size+1)=some (oN C h.objs.size):=by heap_get
 refine dD (aT (yh (UU (new_K (R:=λr aH=>r=.ok (.ret (.ref (h.objs.size+1)))/\ aH=⟨(h.push pC).push (oN C h.objs.size),eu,d,t,os⟩) Y' ao (.inl rfl) ⟨rfl,rfl⟩) λr aH hr=>?_)));obtain⟨rfl,rfl⟩:=hr;have t1:iR (aD prog w) ((h.push pC).push (oN C h.objs.size)) (oL (.ref (h.objs.size+1))) (.ref C):=(Vz ak).andThen .now;unfold BJ;refine seq (seq (aT (t1.here (aT ((self.keeps k).here ?_)))));refine gn rfl (dD ?_);unfold UV yb;refine seq (seq (aT (t1.here (aT ((ao.keeps k).here (hold ?_))))));refine seq (aT (((ae _).keeps k).here (seq (pN (zb hq λr aH hr=>?_)))));rcases r with e|(v|_|_|_)<;>first|exact hr|exact hr.elim|skip
 obtain⟨rfl,hr⟩:=hr;exact done (gn (by decide) (done hr))
end
theorem NP(A:bA)(C:ay)(rest:List Value):(A.under (.builtin "type.__call__" ⟨.ref C::rest,[]⟩)).frames=A.frames/\ (A.under (.builtin "type.__call__" ⟨.ref C::rest,[]⟩)).units<=A.units+3:=by
 refine⟨?_,fH (xE rfl) _⟩;show pushEnvs (VA (.builtin "type.__call__" ⟨.ref C::rest,[]⟩)) A.frames=A.frames;rw[show VA (.builtin "type.__call__" ⟨.ref C::rest,[]⟩)=[]from rfl];rfl
theorem NQ(KK:c0 g){c:Nat}{as:List X}(hl:jW g as):bn g (.new c as):=by
 intro W ck e h m μ σ s K P st Q E C p q ae aW;refine cP h λgx aa h=>cP h λes h2 h=>lm (C:=λe=>au _ _ (run _ e _) _ _ _) h λn=>?_;obtain⟨x,ak,hne,aa⟩:=vX aa;have CK:=KK.16 c (KK.8 c x ak);refine gm (λ_w=>rfl) q ae λ{Q'} q=>Call_ (ti KK C aa (KK.7 c x ak) (rE hl h2 (.K KK CK.9) C p aW λ{vs xs fT s1' aJ} s1 v1 hn p=>?_)) (by obtain⟨y,rfl⟩:=rF aa;rfl);have p:Ask.P (gJ as _ _ _):=p;rw[nF hn]at p;obtain⟨f,ao,p⟩:=p;have C:=C.at_ s1
 have q:=q.at_ s1
 have aW:=aW.at_ s1
 obtain⟨aY,eu,d,tk,os⟩:=s1';refine pN (NO (KK.15.keeps C.sim.2) CK.3 (CK.4 f ao).1 (CK.4 f ao).2 ?_);have dF:∀b o,aY.get? b=some o->((aY.push pC).push (oN (g.ca c) aY.objs.size)).get? b=some o:=λb o e=>oj _ (oj _ e);have dv:aY.get? (aY.objs.size+1)=none:=qS (gh _);have F:cH (frames W.l) [] fT aY (fT++[(aY.objs.size+1,aY.objs.size)]) ((aY.push pC).push (oN (g.ca c) aY.objs.size)):=.alloc dF dv (d3 _);have t:bo g W.l fT ⟨aY,eu,d,tk,os⟩ (fT++[(aY.objs.size+1,aY.objs.size)]) ⟨(aY.push pC).push (oN (g.ca c) aY.objs.size),eu,d,tk,os⟩ (aJ.push (.inst c [])):=
  ⟨F,C.sim.alloc dF dv (d3 _) ⟨⟨KK.8 c x ak,λ_w hf=>(el hf).elim⟩,#[],[],0,by heap_get,by heap_get,rfl⟩,rfl⟩
 have vs0:bf g (fT++[(aY.objs.size+1,aY.objs.size)]) ((aY.push pC).push (oN (g.ca c) aY.objs.size)) (.loc aJ.next) (.ref (aY.objs.size+1)):=⟨_,by rw[<-C.sim.1,pt (bI _),oo];rfl,rfl⟩;obtain⟨f1,f2⟩:=NP W.A (g.ca c) ([]++vs);have B:=(C.at_ t).toBs;refine zb (C.calls (A:=W.A.under (.builtin "type.__call__" ⟨.ref (g.ca c)::([]++vs),[]⟩)) (Q:=λv s'=>v=.none/\ Q' (.ref (aY.objs.size+1)) s') ⟨B.sim,B.iH,by rw[f1];exact B.dE,B.aZ⟩ ?_ ?_ (xs:=.loc aJ.next::xs) ⟨_,vs,rfl,vs0,v1.ext (F.ext .nil)⟩ p ⟨λ{v x aF s' σ'} t' r p=>?_⟩ (aW.at_ t)) λr s' hr=>?_
 ·exact cM (by show W.A.depth+1+4*W.n+6<=W.A.depth+4*W.n+8;exact(bE λaq=>bj.go (.c _ (.c _ .o)) (.c 1 (.a (.a (.a (.v 0) (.m 4 (.v 1))) (.n 8)) (.n 1)) (.a (.a (.a (.v 0) (.n 1)) (.m 4 (.v 1))) (.n 6)) .o) rfl aq)) C.lv.1
 ·exact cM (by exact(bE λaq=>bj.go (.c _ (.c _ (.c _ .o))) (.c 1 (.v 0) (.a (.v 1) (.n 3)) (.c 1 (.a (.a (.a (.v 1) (.m 60 (.v 2))) (.n 300)) (.n 1)) (.a (.a (.v 0) (.m 60 (.v 2))) (.n 250)) .o)) rfl f2 aq)) C.lv.2
 ·cases x with
  |none=>exact⟨r,q.1 (t.trans t') (vs0.ext (t'.1.ext .nil)) p⟩
  |_=>exact p.elim
 ·rcases r with e|(v|_|_|_)<;>exact hr
end
section
open PyProof.Rows PySem.Calls
variable{g:G}
noncomputable abbrev Cfg.to(W:Cfg)(ρ:aQ):Cfg:=⟨W.n,W.A,W.bQ,W.env,W.l,W.L,ρ⟩
inductive dT (g:G) (W:Cfg) (μ:aO) (s:ag) (ρ':aQ) (aF:aO) (s':ag) (σ':ah):Prop
 |mk (iD:cH (frames W.l) (own W.env) μ s.heap aF s'.heap) (sim:br g aF σ' s'.heap) (iH:fA g W.l aF s'.heap) (env:iF g W.bQ W.env W.L ρ' aF s'.heap) (eq:s'={s with heap:=s'.heap,toks:=s'.toks})
structure fm(g:G)(W:Cfg)(μ:aO)(σ:ah)(h:aK):Prop extends Cx g W μ σ h where
 tail:∃outer,W.l=W.env::outer/\ ∀b∈frames outer,b∉own W.env
section
variable{W:Cfg}{μ eJ kl:aO}{σ gk i8:ah}{s aH bL:ag}{v9 tC:aQ}
theorem dT.trans(x:dT g W μ s v9 eJ aH gk)(y:dT g W eJ aH tC kl bL i8):dT g W μ s tC kl bL i8:=⟨x.1.trans y.1,y.2,y.3,y.4,by rw[y.5,x.5]⟩
theorem Cx.fo(C:Cx g W μ σ s.heap)(x:bo g W.l μ s eJ aH gk):dT g W μ s W.ρ eJ aH gk:=
 have D:=C.at_ x
 ⟨x.1.mono λ_w ae=>(el ae).elim,x.2,D.iH,D.env,x.3⟩
theorem fm.at_(C:fm g W μ σ s.heap)(x:dT g W μ s v9 eJ aH gk):fm g (W.to v9) eJ gk aH.heap:=⟨⟨⟨x.2,x.3,C.dE,C.aZ⟩,x.4,C.lv,C.calls⟩,C.tail⟩
theorem fm.up(C:fm g W μ σ s.heap)(x:bo g W.l μ s eJ aH gk):fm g W eJ gk aH.heap:=⟨C.toCx.at_ x,C.tail⟩
theorem dT.ext(C:fm g W μ σ s.heap)(x:dT g W μ s v9 eJ aH gk):Ext μ s.heap eJ aH.heap:=x.1.ext C.env.rA
end
noncomputable def hide(h:aK)(W:List ay):aK:=⟨h.objs.mapIdx λi o=>if i∈W then{cls:=.none,data:=.freed}else o,h.life⟩
theorem tD{h:aK}{W:List ay}{b:ay}(ae:b∈W):(hide h W).get? b=none:=by
 unfold hide Ix;rw[VB];cases h.objs[b]? with
 |none=>rfl
 |some o=>rw[yo,if_pos ae]
theorem wa{h:aK}{W:List ay}{b:ay}(ae:b∉W):(hide h W).get? b=h.get? b:=by
 unfold hide Ix;rw[VB];cases h.objs[b]? with
 |none=>rfl
 |some o=>rw[yo,if_neg ae]
theorem DU{h:aK}{W:List ay}:(hide h W).StaysIn h:=λb o e=>
 (Yv (b∈W)).elim (λae=>none_of e (tD ae)) λae=>(wa ae).symm.trans e
noncomputable abbrev o6(o:Obj):Prop:=∀vs,o.data≠.fields vs
inductive o7 (l:List Env) (h₀ h h':aK):Prop
 |mk (ns:∀L∈frames l,∀m,h.Ns L m->h'.Ns L m) (keep:∀b o,h.get? b=some o->b∉frames l->((∃o,h₀.get? b=some o) \/o6 o)->h'.get? b=some o) (live:∀b o,h₀.get? b=some o-> ∃o',h'.get? b=some o') (fr:∀b∈frames l,∀o,h.get? b=some o-> ∃cO,h'.get? b=some {o with slots:=cO})
theorem o7.trans{l:List Env}{h₀ h aY cA:aK}(x:o7 l h₀ h aY)(y:o7 l h₀ aY cA):o7 l h₀ h cA:=
 ⟨λL hL m hm=>y.1 L hL m (x.1 L hL m hm),λb o e ae az=>y.2 b o (x.2 b o e ae az) ae az,y.3,λb ae o e=>(x.4 b ae o e).elim λcO e1=>(y.4 b ae _ e1).imp λsl' e2=>e2⟩
theorem DV{h:aK}{L:ay}{m:Str->Option Value}(x:h.Ns L m):∃o,h.get? L=some o/\ o6 o:=by
 obtain⟨o,es,ep,ho,hd,_⟩:=x;exact⟨o,ho,λvs q=>nomatch hd.symm.trans q⟩
theorem fA.qe{l:List Env}{μ:aO}{h:aK}(F:fA g l μ h){b:ay}{o:Obj}{vs:Array Value}(e:h.get? b=some o)(hd:o.data=.fields vs):b∉frames l:=λae=>by
 obtain⟨_,m,x⟩:=F.jS ae;obtain⟨o',ho,hn⟩:=DV x.2;cases e.symm.trans ho;exact hn vs hd
theorem eT.qe{μ:aO}{h:aK}{p:ay×ay}{o:cv}(H:eT g μ h p o):(∃o,h.get? p.1=some o/\ o6 o)/\ ∃o,h.get? p.2=some o/\ o6 o:=by
 have one:p.2=p.1->(∃o,h.get? p.1=some o/\ o6 o)->(∃o,h.get? p.1=some o/\ o6 o)/\ ∃o,h.get? p.2=some o/\ o6 o:=λe H=>⟨H,e▸H⟩;cases o with
 |dead=>exact H.elim
 |list _=>obtain⟨e,_,_,ho,_⟩:=H;exact one e ⟨_,ho,nofun⟩
 |bZ _|fg _=>obtain⟨e,_,⟨o,_,_,ho,_,hd,_⟩,_⟩:=H;exact one e ⟨o,ho,λvs q=>nomatch hd.symm.trans q⟩
 |dW _=>exact one H.1 ⟨_,H.2,nofun⟩
 |box=>obtain⟨e,_,_,ho⟩:=H;exact one e ⟨_,ho,nofun⟩
 |inst _ _=>obtain⟨_,_,_,_,aa,h2,_⟩:=H;exact⟨⟨_,aa,nofun⟩,⟨_,h2,nofun⟩⟩
theorem br.qe{μ:aO}{σ:ah}{h:aK}(S:br g μ σ h){b:ay}(ae:cj μ b):∃o,h.get? b=some o/\ o6 o:=by
 obtain⟨p,hp,e⟩:=ae;obtain⟨l,hl⟩:=Hi.mp hp;exact e.elim (λe=>e▸(S.5 l p hl).qe.1) λe=>e▸(S.5 l p hl).qe.2
theorem fA.DW{μ:aO}{h:aK}{W:List ay}:∀{r:List Env},fA g r μ h->(∀b∈frames r,b∈W)->h.FunFrames (hide h W) r:=by
 intro r
 induction r with
 |nil=>exact λ_w _w=>trivial
 |cons e r ih=>
  intro F hW;obtain⟨az,L,m,x⟩:=F e (.head _);obtain⟨o,ho,hn⟩:=DV x.2;refine⟨az,⟨L,o,x.1,tD (hW L (xS.mpr ⟨e,.head _,x.1⟩)),ho,hn⟩,ih (λe he=>F e (.tail _ he)) λb ae=>hW b ?_⟩;obtain⟨y,hy,hf⟩:=xS.mp ae;exact xS.mpr ⟨y,.tail _ hy,hf⟩
theorem dT.x{W:Cfg}{μ aF:aO}{σ σ':ah}{s aH:ag}{ρ':aQ}{h':aK}(NR:br g μ σ s.heap)(x:dT g W μ s ρ' aF aH σ')(X:o7 W.l s.heap aH.heap h'):dT g W μ s ρ' aF {aH with heap:=h'} σ':=by
 have F:=x.3;have ex:Ext aF aH.heap aF h':=⟨mS _,λ{a vs} H=>by
  obtain⟨⟨o,ho,hc,n,hd⟩,q⟩:=H
  exact⟨⟨o,X.2 a o ho (λae=>F.rA a ae vs ⟨o,ho,hc,n,hd⟩) (.inr λvs z=>nomatch hd.symm.trans z),hc,n,hd⟩,q⟩⟩
 have nf:∀{b:ay},cj aF b->b∉frames W.l:=λhd q=>(F.jS q).elim λ_w y=>y.elim λ_w y=>y.3 hd;have kd:∀{b:ay},cj aF b-> ∀ob,aH.heap.get? b=some ob->h'.get? b=some ob:=λhd ob e=>by
  obtain⟨o,ho,hn⟩:=x.2.qe hd;cases e.symm.trans ho;exact X.2 _ _ e (nf hd) (.inr hn)
 refine⟨⟨x.1.1,λb o e ae hd=>?_,X.3,x.1.4⟩,⟨x.2.1,λb o e=>X.2 b o (x.2.2 b o e) (λq=>?_) (.inl ⟨o,NR.2 b o e⟩),x.2.3,x.2.4,λj p e=>(x.2.5 j p e).ext ex (kd (.of e)) (kd (.of2 e))⟩,F.move X.1 λb a q=>absurd a q,x.4.move ex (λm hm=>?_) (λc hc u hu=>?_) λb a q=>absurd a q,by rw[x.5]⟩
 ·rcases x.1.2 b o e ae hd with e'|⟨hz,cO,e'⟩
  ·by_cases q:b∈frames W.l
   ·exact .inr ⟨q,X.4 b q o e'⟩
   ·exact .inl (X.2 b o e' q (.inl ⟨o,e⟩))
  ·exact .inr ⟨hz,(X.4 b hz _ e').imp λsl' e2=>e2⟩
 ·obtain⟨_,m,y⟩:=F.jS q;exact none_of e y.4
 ·by_cases ae:W.env.locals∈frames W.l
  ·exact X.1 _ ae m hm
  ·obtain⟨o,es,ep,ho,hd,r⟩:=hm;exact⟨o,es,ep,X.2 _ o ho ae (.inr λvs q=>nomatch hd.symm.trans q),hd,r⟩
 ·obtain⟨o,ho,hd⟩:=hu;refine⟨o,X.2 _ o ho (λae=>?_) (.inr λvs q=>nomatch hd.symm.trans q),hd⟩;obtain⟨_,m,y⟩:=F.jS ae;exact vM ⟨o,ho,hd⟩ y.2
end
section
open PyProof.Rows PySem.Calls
variable{g:G}
inductive NS(h₀ h:aK)(fl:Value)(a T:ay):Prop
 |mk (ne:T≠a) (new:h₀.get? T=none) (ob:∃oT ts,h.get? T=some oT/\ oT.data=.fields ts/\ ts[3]?=some fl)
inductive qf (g:G) (h₀ h:aK) (fl:Value) (c:Nat) (a:ay):Prop
 |mk (new:h₀.get? a=none) (Xt:∃T,CQ g h c a (.ref T)/\ NS h₀ h fl a T)
section
variable{l:List Env}{μ:aO}{h₀ h h':aK}{c:Nat}{a:ay}{fl:Value}{L:ay}
theorem qf.st(x:qf g h₀ h fl c a)(hf:fl=.none \/fl=mU L):pX g h₀ h L c a:=by
 obtain⟨T,o,⟨ne,new,oT,ts,aa,h2,h3⟩⟩:=x.2;exact⟨x.1,_,o,.inr ⟨T,rfl,ne,new,oT,ts,fl,aa,h2,h3,hf⟩⟩
theorem DX{Wl:List ay}{cls a0:Value}(F:fA g l μ h)(lv:∀b o,h₀.get? b=some o-> ∃o',h.get? b=some o')(hW:∀b∈Wl,b∈frames l \/(h₀.get? b=none/\ ∃o vs,h.get? b=some o/\ o.data=.fields vs))
  (hc:cls=.ref (g.iY c))(aM:h₀.get? a=none)(N:aK.NotedW (hide h Wl) l a cls a0 fl h h'):o7 l h₀ h h'/\ qf g h₀ h' fl c a:=by
 refine ao λG z=>?_;obtain⟨cw,cJ,⟨oe,vs,T,oT,ts,e1,⟨e2,e3⟩,e4,e5,e6,e7,e8,e9,e10⟩,k4⟩:=N;refine z ?_;clear z G;refine⟨⟨λL hL m hm=>Yw k4 hm,λb o e ae h=>?_,λb o e=>?_,λb ae o e=>k4 b o e λvs hd=>F.qe e hd ae⟩,aM,T,⟨oe,vs,a0,e1,e2.trans hc,e4,e3,e5⟩,e7,?_,oT,ts,e8,e9,e10⟩
 ·by_cases hw:b∈Wl
  ·obtain⟨aa,o',vs,h2,h3⟩:=(hW b hw).resolve_left ae;rcases h with⟨_,h⟩|h
   ·exact none_of h aa
   ·cases e.symm.trans h2;exact absurd h3 (h vs)
  ·exact cw b o ((wa hw).trans e)
 ·by_cases hf:b∈frames l
  ·obtain⟨_,o,ho,_⟩:=cJ.mem hf;exact⟨o,ho⟩
  ·by_cases hw:b∈Wl
   ·exact none_of e ((hW b hw).resolve_left hf).1
   ·exact(lv b o e).imp λo' e'=>cw b o' ((wa hw).trans e')
 ·have hTf:T∉frames l:=λq=>by
   obtain⟨_,o,ho,hn⟩:=cJ.mem q;cases e8.symm.trans ho;exact hn ts e9
  by_cases ae:T∈Wl
  ·exact((hW T ae).resolve_left hTf).1
  ·rw[wa ae]at e6;cases e:h₀.get? T with
   |none=>rfl
   |some o=>exact(lv T o e).elim λo' e'=>none_of e' e6
end
section
variable{A:bA}{E:Value->ag->Prop}{s:ag}{μ:aO}{Q:Unit->ag->Prop}{l:List Env}{env:Env}{outer:List Env}{L:ay}{c:Nat}{a:ay}{h₀:aK}
theorem DY{α:Type}{l:List α}{P:α->Prop}{r:List α}(h:∀b∈r,P b):∀b∈l++r,b∈l \/P b:=λb ae=>(lZ.mp ae).imp_right (h b)
theorem zW(F:fA g l μ s.heap)(dE:A.frames=some l)(hl:l=env::outer)(hf:env.frame=some L)(X:pX g h₀ s.heap L c a)(lv:∀b o,h₀.get? b=some o-> ∃o',s.heap.get? b=some o')
  (H:∀h',o7 l h₀ s.heap h'->qf g h₀ h' (mU L) c a->Q () {s with heap:=h'}):aN (aD g.prog g.w) A (mf (.ref a) env) Q E s:=by
 subst hl;refine ao λG z=>?_;obtain⟨hn,cY,⟨oe,vs,a0,he,hc,hd,h0,aa⟩,ht⟩:=X;refine z ?_;clear z G;rcases ht with rfl|⟨T,rfl,hT,hnT,oT,ts,fl,t1,t2,t3,hfl⟩
 ·have hW:=DY (l:=frames (env::outer)) (r:=[a]) (P:=λb=>h₀.get? b=none/\ ∃o vs,s.heap.get? b=some o/\ o.data=.fields vs) λb ae=>by rw[bW.mp ae];exact⟨hn,oe,vs,he,hd⟩
  have Ff:s.heap.FunFrames (hide s.heap (frames (env::outer)++[a])) (env::outer):=F.DW λb ae=>mc _ ae;unfold mf;simp only[hf];refine aE (kg he hd aa (gi rfl ?_));refine wpAny_entryW (base:=hide s.heap (frames (env::outer)++[a])) (outer:=outer) dE Ff hf he DU (tD (fK _ (.head _))) hd (BK.mp aa).1 h0 λh' hN=>?_;have t:=DX F lv hW hc hn hN;exact H h' t.1 t.2
 ·rcases hfl with rfl|rfl
  ·have hW:=DY (l:=frames (env::outer)) (r:=[a,T]) (P:=λb=>h₀.get? b=none/\ ∃o vs,s.heap.get? b=some o/\ o.data=.fields vs) (c1.mpr ⟨⟨hn,oe,vs,he,hd⟩,λb ae=>by rw[bW.mp ae];exact⟨hnT,oT,ts,t1,t2⟩⟩);have Ff:s.heap.FunFrames (hide s.heap (frames (env::outer)++[a,T])) (env::outer):=F.DW λb ae=>mc _ ae;refine wpAny_noteFrame_onW (base:=hide s.heap (frames (env::outer)++[a,T])) (outer:=outer) (cls:=oe.cls) dE Ff hf ⟨oe,vs,T,oT,ts,he,⟨rfl,h0⟩,hd,aa,tD (fK _ (.tail _ (.head _))),hT,t1,t2,t3⟩ DU (tD (fK _ (.head _))) λh' hN=>?_;have t:=DX F lv hW hc hn hN;exact H h' t.1 t.2
  ·refine wpAny_noteFrame_againW (base:=h₀) (cls:=oe.cls) hf ⟨oe,vs,T,oT,ts,he,⟨rfl,h0⟩,hd,aa,hnT,hT,t1,t2,t3⟩ ?_;exact H s.heap ⟨λ_w _w _w h=>h,λ_w _w e _w _w=>e,lv,λb _w o e=>⟨o.slots,e⟩⟩ ⟨hn,T,⟨oe,vs,a0,he,hc,hd,h0,aa⟩,hT,hnT,oT,ts,t1,t2,t3⟩
theorem wb{fl:Value}{f:Option ay}(F:fA g l μ s.heap)(X:qf g h₀ s.heap fl c a)(lv:∀b o,h₀.get? b=some o-> ∃o',s.heap.get? b=some o')
  (H:∀h',o7 l h₀ s.heap h'->qf g h₀ h' (f.elim .none λf=>mU f) c a->Q () {s with heap:=h'}):aN (aD g.prog g.w) A (yp (.ref a) f) Q E s:=by
 refine ao λG z=>?_;obtain⟨hn,T,⟨oe,vs,a0,aa,h2,h3,h4,h5⟩,⟨h6,h11,oT,ts,h7,h8,h9⟩⟩:=X;refine z ?_;clear z G;have hsz3:3<ts.size:=(BK.mp h9).1;generalize ai:(f.elim Iy λf=>mU f)=v at H;have other:∀b,b≠T->(s.heap.update T (VC (·.setIfInBounds 3 v))).get? b=s.heap.get? b:=λb ae=>x1 _ _ (sN ae);have hT':=uN (VC (·.setIfInBounds 3 v)) h7 (VD (BL h8 _));unfold yp;refine aE (kg aa h3 h5 (pA (bne_iff_ne.mpr nofun) (Iz h7 h8 hsz3 ?_)));rw[ai];have hTf:T∉frames l:=F.qe h7 h8;refine H _ ⟨λL hL m hm=>?_,λb o e ae az=>?_,λb o e=>?_,λb ae o e=>⟨o.slots,(other b λq=>hTf (q▸ae)).trans e⟩⟩ ⟨hn,T,⟨oe,vs,a0,(other a (sN h6)).trans aa,h2,h3,h4,h5⟩,h6,h11,_,_,hT',BL h8 _,Array.getElem?_setIfInBounds_self_of_lt hsz3⟩
 ·obtain⟨o,es,ep,ho,r⟩:=hm;exact⟨o,es,ep,(other L λq=>hTf (q▸hL)).trans ho,r⟩
 ·refine(other b λq=>?_).trans e;subst q;rcases az with⟨_,az⟩|az
  ·exact none_of az h11
  ·cases h7.symm.trans e;exact az _ h8
 ·exact(lv b o e).imp λo' e'=>(other b λq=>none_of e (q▸h11)).trans e'
theorem NT{M:iQ}{x:Value}(h:Q () s):aN M A (oO x) Q E s:=by
 unfold oO;refine aE (m:=stack) (λcB p dm=>?_);exact λNU p' NV=>(aE (IA (aE (oz (Io (IA h)))))) NU p' NV
theorem NW{fl:Value}{Q:Value->ag->Prop}(X:qf g h₀ s.heap fl c a)(h:∀T,Q (.ref T) s):aN (aD g.prog g.w) A (oP (.ref a) 1) Q E s:=by
 refine ao λG z=>?_;obtain⟨_,T,⟨oe,vs,a0,aa,_,h3,_,h5⟩,_⟩:=X;refine z ?_;clear z G;exact kg aa h3 h5 (h T)
end
end
section
open PyProof.Rows PySem.Calls
variable{g:G}
inductive mx(g:G)(W:Cfg)(μ:aO)(s:ag)(K:cX)(R:ag->Prop):Prop
 |mk (ok:∀{ρ' aF s' σ'},dT g W μ s ρ' aF s' σ'->(K ρ' σ').P->R s')
inductive my (g:G) (W:Cfg) (μ:aO) (s:ag) (k:Nat->cX) (E:Value->ag->Prop):Prop
 |mk (ok:∀{a c ρ' aF s' σ'},dT g W μ s ρ' aF s' σ'->pX g s.heap s'.heap W.L c a->(k c ρ' σ').P->E (.ref a) s')
inductive jX (g:G) (W:Cfg) (μ:aO) (s:ag) (K:cX) (P:cq) (Q:kh->ag->Prop) (E:Value->ag->Prop):Prop
 |mk (n:mx g W μ s K (Q .next)) (c:mx g W μ s P.C (Q .cont)) (v:∀{u x ρ' aF s' σ'},dT g W μ s ρ' aF s' σ'->bf g aF s'.heap x u->(P.V x σ').P->Q (.ret u) s') (e:my g W μ s P.E E)
section
variable{W:Cfg}{μ aF:aO}{σ σ':ah}{s s':ag}{NX ρ':aQ}{K:cX}{P:cq}{Q:kh->ag->Prop}{E:Value->ag->Prop}{k:Nat->cX}{R:ag->Prop}
theorem dT.of(x:dT g (W.to NX) μ s ρ' aF s' σ'):dT g W μ s ρ' aF s' σ':=⟨x.1,x.2,x.3,x.4,x.5⟩
theorem mx.at_(q:mx g W μ s K R)(x:dT g W μ s ρ' aF s' σ'):mx g (W.to ρ') aF s' K R:=⟨λy=>q.1 (x.trans y.of)⟩
theorem my.at_(q:my g W μ s k E)(x:dT g W μ s ρ' aF s' σ'):my g (W.to ρ') aF s' k E:=⟨λy z=>q.1 (x.trans y.of) (z.back λn=>x.1.old n)⟩
theorem jX.at_(q:jX g W μ s K P Q E)(x:dT g W μ s ρ' aF s' σ'):jX g (W.to ρ') aF s' K P Q E:=⟨q.1.at_ x,q.2.at_ x,λy=>q.3 (x.trans y.of),q.4.at_ x⟩
theorem jX.to(q:jX g W μ s K P Q E):jX g W μ s (P.to K).N (P.to K) Q E:=⟨q.1,q.2,q.3,q.4⟩
theorem my.aW(q:my g W μ s P.E E)(C:Cx g W μ σ s.heap):iG g W.l W.L μ s (hU P W.ρ) E:=⟨λx z p=>q.1 (C.fo x) z p⟩
end
noncomputable def hb(g:G)(c:C):Prop:=∀{W:Cfg}{bK st:dI},CE W.bQ c bK=some st-> ∀{μ σ s K P}{Q:kh->ag->Prop}{E},fm g W μ σ s.heap->(Co (TT W.n) c K P W.ρ σ).P->jX g W μ s K P Q E->au (aD g.prog g.w) W.A (kW st W.env) Q E s
noncomputable def jy(g:G)(b:List C):Prop:=∀{W:Cfg}{bK st:List dI},jv W.bQ b bK=some st-> ∀{μ σ s P}{Q:kh->ag->Prop}{E},fm g W μ σ s.heap->(sB (TT W.n) b P W.ρ σ).P->jX g W μ s P.N P Q E->au (aD g.prog g.w) W.A (ki st W.env) Q E s
theorem dT.refl{W:Cfg}{μ:aO}{σ:ah}{s:ag}(C:fm g W μ σ s.heap):dT g W μ s W.ρ μ s σ:=C.toCx.fo (.tok C.sim s.toks)
theorem NY:jy g []:=λ{W bK st} h{μ σ s P Q E} C p q=>by
 cases h;exact done (q.1.1 (.refl C) p)
theorem NZ{c:C}{b:List C}(hc:hb g c)(ae:jy g b):jy g (c::b):=λ{W bK st} h{μ σ s P Q E} C p q=>by
 refine cP h λt aa h=>fS (C:=λst=>au _ _ (ki st _) _ _ _) h λr h2=>?_;rw[yq];refine seq (hc (Q:=λfl s'=>match fl with|.next=>au (aD g.prog g.w) W.A (ki r W.env) Q E s'|fl=>Q fl s') aa C p ⟨⟨λ{ρ' aF s' σ'} x p=>ae (W:=W.to ρ') h2 (C.at_ x) p (q.at_ x)⟩,q.2,q.3,q.4⟩|>λh=>cC h λfl s' h'=>?_);cases fl<;>first|exact h'|exact done h'
theorem pass_S:hb g .pass:=λ{W bK st} h{μ σ s K P Q E} C p q=>by
 cases h;rw[arm_exec_Pass];exact cx (done (q.1.1 (.refl C) p))
theorem N0:hb g .cont:=λ{W bK st} h{μ σ s K P Q E} C p q=>by
 cases h;rw[arm_exec_Continue];exact cx (done (q.2.1 (.refl C) p))
theorem N2{v:af}{u:Unit}(h:vC v=some u):v=.none:=by
 cases v with
 |none=>rfl
 |_=>exact cU h
theorem N3{a:X}(aM:bn g a):hb g (.ret a):=λ{W bK st} h{μ σ s K P Q E} C p q=>by
 have h:(bif tf bK then(rq a).bind λv=>(vC v).map λ_w=>.Return none bK.pos else(re W.bQ a (gM 0 bK)).map λv=>.Return (some v) bK.pos)=some st:=h;cases e:tf bK with
 |true=>
  rw[e]at h;refine cP h λv ai h=>fS (C:=λst=>au _ _ (kW st _) _ _ _) h λu hu=>?_;rw[N2 hu]at ai;have p:(cc (TT W.n) a (Cn P) P [] W.ρ σ).P:=p;rw[zI ai]at p;rw[BM];exact cx (done (q.3 (x:=.none) (.refl C) rfl p))
 |false=>
  rw[e]at h;refine fS (C:=λst=>au _ _ (kW st _) _ _ _) h λl aa=>?_;rw[BM];exact cx (seq (m:=bY l W.env) (cC (aM (m:=false) aa C.toCx p ⟨λx v p=>q.3 (C.toCx.fo x) v p⟩ ci (q.4.aW C.toCx)) λv s' h=>done h))
theorem N4{x:X}{y z:List C}(ak:bn g x)(hy:jy g y)(hz:jy g z):hb g (.ite x y z):=λ{W bK st} h{μ σ s K P Q E} C p q=>by
 refine cP h λt aa h=>cP h λb h2 h=>fS (C:=λst=>au _ _ (kW st _) _ _ _) h λd h3=>?_;rw[arm_exec_If];refine cx (seq (ak (m:=true) aa C.toCx p ⟨λ{v x aF s' σ'} s1 v1 p=>?_⟩ (λ_w {x σ'} p=>(mv p).elim λb e=>⟨b,e.1⟩) (q.4.aW C.toCx)));obtain⟨b,rfl,p⟩:=mv p;obtain rfl:=nz.bool v1;have s1:=C.toCx.fo s1;cases v with
 |true=>exact hy (W:=W) h2 (C.at_ s1) p (q.at_ s1).to
 |false=>exact hz (W:=W) h3 (C.at_ s1) p (q.at_ s1).to
end
section
open PyProof.Rows PySem.Calls
variable{g:G}
theorem zX{p:Str×gg}{l:List (Str×gg)}(h:ju (p::l)=true):(∀q∈l,q.1≠p.1)/\ ju l=true:=
 ⟨λq hq e=>by have t:=l5.mp (bV h).1 q hq;rw[e,beq_self_eq_true]at t;exact VE t,(bV h).2⟩
theorem tE{x:Str}{k:gg}:∀{l:List (Str×gg)}{i:Nat},ju l=true->l[i]?=some (x,k)->l.lookup x=some k/\ ∀{j k'},l[j]?=some (x,k')->i=j:=by
 intro l
 induction l with
 |nil=>intro i _ e;exact nomatch e
 |cons p l ih=>
  intro i h e;obtain⟨aa,h2⟩:=zX h;have ne:∀{m k'},l[m]?=some (x,k')->x≠p.1:=λe=>aa _ (oi e);cases i with
  |zero=>
   obtain rfl:=cW e;refine⟨IB,λ{j k'} e'=>?_⟩;cases j with
   |zero=>rfl
   |succ j=>exact absurd rfl (ne e')
  |succ i=>
   have e:l[i]?=some (x,k):=e;refine⟨?_,λ{j k'} e'=>?_⟩
   ·rw[BN,beq_eq_false_iff_ne.mpr (ne e)];exact(ih h2 e).1
   ·cases j with
    |zero=>exact absurd (congrArg kX (cW e')).symm (ne e)
    |succ j=>exact congrArg (· +1) ((ih h2 e).2 e')
inductive N5 (c:cg) (i:Nat) (x:Str):Prop
 |flat (h:c.inner=none) (k:gg) (e:c.names[i]?=some (x,k)) (az:k=.local \/k=.cell)
 |high (ns:List (Str×gg)) (h:c.inner=some ns) (ao:100<=i) (e:ns[i-100]?=some (x,.local))
 |low (ns:List (Str×gg)) (h:c.inner=some ns) (e:c.names[i]?=some (x,.cell)) (l:ns.lookup x=some .cell) (ao:¬100<=i)
theorem tF{c:cg}{i:Nat}{x:Str}(h:c.slot i=some x):N5 c i x:=by
 unfold cg.slot at h;cases ao:c.inner with
 |none=>
  rw[ao]at h;obtain⟨p,aa,h⟩:=b8 h;obtain⟨h2,rfl⟩:=gN h;exact .flat ao p.2 aa ((BE.mp (bV h2).1).imp eq_of_beq eq_of_beq)
 |some ns=>
  rw[ao]at h;cases ae:df 100 i with
  |true=>
   simp only[ae,cond_true]at h;obtain⟨p,aa,h⟩:=b8 h;obtain⟨h2,rfl⟩:=gN h;exact .high ns ao (j9.mp ae) (aa.trans (congrArg (λk=>some (p.1,k)) (eq_of_beq (bV h2).1)))
  |false=>
   simp only[ae,cond_false]at h;obtain⟨p,aa,h⟩:=b8 h;obtain⟨h2,rfl⟩:=gN h;obtain⟨h3,h4⟩:=bV (bV h2).1;exact .low ns ao (aa.trans (congrArg (λk=>some (p.1,k)) (eq_of_beq h3))) (eq_of_beq h4) λq=>nomatch ae.symm.trans (j9.mpr q)
section
variable{c:cg}{env:Env}{L:ay}
theorem jT.kindOf(V:jT c env L)(x:Str):env.kindOf x=(c.inner.getD c.names).lookup x:=by unfold uK;rw[V.5]
theorem jT.slot(V:jT c env L){i:Nat}{x:Str}(h:c.slot i=some x):(env.kindOf x=some .local \/(env.kindOf x=some .cell/\ (c.inner.isSome=true-> ¬100<=i)))/\ ∀{j},c.slot j=some x->i=j:=by
 rw[V.kindOf];cases tF h with
 |flat ao k e az=>
  have t:=tE V.7.1 e;rw[ao];refine⟨az.imp (λz=>t.1.trans (congrArg some z)) λz=>⟨t.1.trans (congrArg some z),ci⟩,λ{j} h'=>?_⟩;cases tF h' with
  |flat _ _ e' _=>exact t.2 e'
  |high _ h2 _ _=>exact nomatch ao.symm.trans h2
  |low _ h2 _ _ _=>exact nomatch ao.symm.trans h2
 |high ns ao hge e=>
  have t:=tE (V.7.2 ns ao) e;rw[ao];refine⟨.inl t.1,λ{j} h'=>?_⟩;cases tF h' with
  |flat h2 _ _ _=>exact nomatch ao.symm.trans h2
  |high _ h2 hge' e'=>cases ao.symm.trans h2;exact(dU hge).symm.trans ((congrArg (· +100) (t.2 e')).trans (dU hge'))
  |low _ h2 _ l _=>cases ao.symm.trans h2;exact nomatch t.1.symm.trans l
 |low ns ao e l hlt=>
  have t:=tE V.7.1 e;rw[ao];refine⟨.inr ⟨l,λ_w=>hlt⟩,λ{j} h'=>?_⟩;cases tF h' with
  |flat h2 _ _ _=>exact nomatch ao.symm.trans h2
  |high _ h2 _ e'=>cases ao.symm.trans h2;exact nomatch(tE (V.7.2 ns ao) e').1.symm.trans l
  |low _ _ e' _ _=>exact t.2 e'
end
section
variable{W:Cfg}{μ:aO}{σ:ah}{s:ag}{E:Value->ag->Prop}{Q:Unit->ag->Prop}
inductive jc(g:G)(W:Cfg)(b:ay)(μ:aO)(s:ag)(ρ':aQ)(s':ag)(σ':ah):Prop
 |mk (keep:pL [b] s.heap s'.heap) (live:∃o,s'.heap.get? b=some o) (sim:br g μ σ' s'.heap) (iH:fA g W.l μ s'.heap) (env:iF g W.bQ W.env W.L ρ' μ s'.heap) (eq:s'={s with heap:=s'.heap,toks:=s'.toks})
theorem jc.iD{Z:List ay}{W:Cfg}{b:ay}{μ:aO}{s s':ag}{ρ':aQ}{σ':ah}(t:jc g W b μ s ρ' s' σ'):cH Z [b] μ s.heap μ s'.heap:=t.1.iD λc hc _w _w=>bW.mp hc▸t.2
theorem jc.fo{W:Cfg}{b:ay}{μ:aO}{s s':ag}{ρ':aQ}{σ':ah}(t:jc g W b μ s ρ' s' σ')(ae:b∈own W.env):dT g W μ s ρ' μ s' σ':=⟨t.iD.mono λc hc=>bW.mp hc▸ae,t.3,t.4,t.5,t.6⟩
theorem DZ(C:Cx g W μ σ s.heap){b:ay}{h':aK}{tk:Nat}{ρ':aQ}(ae:b∈own W.env)(oth:∀a,a≠b->h'.get? a=s.heap.get? a)(lv:∃o,h'.get? b=some o)(ns:∀{L m},s.heap.Ns L m-> ∃m',h'.Ns L m')(cl:∀{c u},s.heap.IsCell c u-> ∃u',h'.IsCell c u')
  (cO:Ext μ s.heap μ h'-> ∀{x i v},W.bQ.slot i=some x->ρ' i=some v-> ∃u,CR W.env h' x u/\ bf g μ h' v u):jc g W b μ s ρ' {s with heap:=h',toks:=tk} σ:=by
 have one:∀{P:ay->Prop},P b-> ∀c∈[b],P c:=λh c hc=>bW.mp hc▸h;have dF:pL [b] s.heap h':=λa o e q=>(oth a λz=>q (z▸.head _)).trans e;have nt:iC s.heap [b]:=one (C.env.rA b ae);have off:=C.env.4 b ae;have F:cH (frames W.l) [b] μ s.heap μ h':=dF.iD (one λ_w _w=>lv);exact⟨dF,lv,C.sim.keep dF nt (one off.1) (one off.2),λe he=>by
  obtain⟨a,L',m,x⟩:=C.iH e he
  exact(ns x.2).elim λm' hm=>⟨a,L',m',x.1,hm,x.3,x.4⟩,⟨C.env.1,C.env.2.elim λm hm=>ns hm,λc hc=>(C.env.3 c hc).elim λu hu=>cl hu,C.env.4,cO (F.ext nt)⟩,rfl⟩
theorem N6(C:Cx g W μ σ s.heap){x:Str}{c:ay}(h:W.env.cells.lookup x=some c):c≠W.env.locals:=λq=>by
 obtain⟨u,hu⟩:=C.env.3 _ (jJ h);obtain⟨m,hm⟩:=C.env.2;exact vM hu ((show(x,c).2=_ from q)▸hm)
theorem zY{ρ:aQ}{i j:Nat}{v w:af}(h:ρ.set i v j=some w):(j=i/\ w=v) \/(j≠i/\ ρ j=some w):=by
 have h:(match dQ j i with|true=>some v|false=>ρ j)=some w:=h;cases q:dQ j i with
 |true=>rw[q]at h;exact .inl ⟨mW q,(cW h).symm⟩
 |false=>rw[q]at h;exact .inr ⟨Uq q,h⟩
theorem tG{A:bA}(C:Cx g W μ σ s.heap){x:Str}{i:Nat}{u:Value}{v:af}(ak:W.bQ.slot i=some x)(ai:bf g μ s.heap v u)(H:∀{s' b},b∈own W.env->(W.bQ.inner.isSome=true->100<=i->b=W.env.locals)->jc g W b μ s (W.ρ.set i v) s' σ->Q () s'):aN (aD g.prog g.w) A (BO W.env x u) Q E s:=by
 have V:=C.env;have inj:=λ{j}=>(V.1.slot ak).2 (j:=j);refine wpAny_bindName ?_;rcases(V.1.slot ak).1 with k|⟨k,lo⟩
 ·obtain⟨m,hm⟩:=V.2;refine wpAny_storeName_local (hp:=by rw[V.1.1];rfl) k hm λh' hm' hs'=>H (.head _) (λ_w _w=>rfl) (DZ C (.head _) hs'.2 (by obtain⟨o,_,_,ho,_⟩:=hm';exact⟨o,ho⟩) (λ{L m2} hn=>?_) (λ{c u'} hc=>?_) λex {y j w} hy hw=>?_)
  ·by_cases q:L=W.env.locals
   ·exact⟨_,q▸hm'⟩
   ·obtain⟨o,es,ep,ho,r⟩:=hn;exact⟨m2,o,es,ep,(hs'.2 _ q).trans ho,r⟩
  ·obtain⟨o,ho,hd⟩:=id hc;exact⟨u',o,(hs'.2 _ λq=>vM hc (q▸hm)).trans ho,hd⟩
  ·rcases zY hw with⟨rfl,rfl⟩|⟨a8,hw⟩
   ·obtain rfl:=cW (ak.symm.trans hy);exact⟨u,.inl ⟨k,_,hm',if_pos rfl⟩,ai.ext ex⟩
   ·obtain⟨u',hu',hv'⟩:=V.5 hy hw;refine⟨u',?_,hv'.ext ex⟩;rcases hu' with⟨k',m2,gO,e⟩|⟨k',c,hc,o,ho,hd⟩
    ·refine .inl ⟨k',_,hm',(if_neg λq=>a8 (inj (q▸hy)).symm).trans ?_⟩;rw[<-e,gO.eq_nsMap,hm.eq_nsMap]
    ·exact .inr ⟨k',c,hc,o,(hs'.2 _ (N6 C hc)).trans ho,hd⟩
 ·obtain⟨c,hc⟩:=V.1.8 x k;obtain⟨Xu,D2⟩:=V.3 _ (jJ hc);refine wpAny_storeName_cell V.1.1 k hc D2 λh' hc' hs'=>?_;have nns:∀{L':ay}{m:Str->Option Value},s.heap.Ns L' m->h'.Ns L' m:=λ{L' m} hn=>by
   obtain⟨o,es,ep,ho,r⟩:=id hn;exact⟨o,es,ep,(hs'.2 _ λq=>vM D2 (q▸hn)).trans ho,r⟩
  have cel:∀{d u},d≠c->s.heap.IsCell d u->h'.IsCell d u:=λhne hd=>by
   obtain⟨o,ho,r⟩:=hd;exact⟨o,(hs'.2 _ hne).trans ho,r⟩
  have ho:=List.mem_cons_of_mem W.env.locals (uI (f:=(·.2)) (jJ hc));refine H ho (λq r=>absurd r (lo q)) (DZ C ho hs'.2 (by obtain⟨o,ho,_⟩:=hc';exact⟨o,ho⟩) (λhn=>⟨_,nns hn⟩) (λ{d u'} hd=>?_) λex {y j w} hy hw=>?_)
  ·by_cases q:d=c
   ·exact⟨_,q▸hc'⟩
   ·exact⟨u',cel q hd⟩
  ·rcases zY hw with⟨rfl,rfl⟩|⟨a8,hw⟩
   ·obtain rfl:=cW (ak.symm.trans hy);exact⟨u,.inr ⟨.inl k,c,hc,hc'⟩,ai.ext ex⟩
   ·obtain⟨u',hu',hv'⟩:=V.5 hy hw;refine⟨u',?_,hv'.ext ex⟩;rcases hu' with⟨k',m2,gO,e⟩|⟨k',d,hd,e⟩
    ·exact .inl ⟨k',m2,nns gO,e⟩
    ·refine .inr ⟨k',d,hd,cel (λq=>a8 ?_) e⟩;subst q;exact(inj (VF V.1.9 (jJ hd) (jJ hc)▸hy)).symm
end
end
section
open PyProof.Rows PySem.Calls
variable{g:G}
noncomputable abbrev kt(K:bt)(st:List af):cX:=λρ σ=>K st ρ σ
noncomputable def jY(g:G)(t:fO):Prop:=∀{W:Cfg}{ck e:aL},pU W.bQ t ck=some e-> ∀{μ σ s K P st u x}{Q:Unit->ag->Prop}{E},fm g W μ σ s.heap->bf g μ s.heap x u->(s8 (TT W.n) t K P (x::st) W.ρ σ).P->mx g W μ s (kt K st) (Q ())->my g W μ s P.E E->au (aD g.prog g.w) W.A (assign e W.env u) Q E s
section
variable{M:iQ}{A:bA}{E:Value->ag->Prop}{s:ag}{env:Env}{u:Value}{Q:Unit->ag->Prop}
theorem N7{o:aL}{n:Str}{p:Pos}(h:au M A (bY o env) (λov aH=>au M A (HP ov n u) Q E aH) E s):au M A (assign (.Attribute o n p) env u) Q E s:=by
 rw[arm_assign_Attribute];exact dD (cC h λov aH aY=>cx (dD (cC aY λ_w bL cA=>rel cA)))
theorem N8{o i:aL}{p:Pos}(h:au M A (bY o env) (λov aH=>au M A (bY i env) (λiv bL=>au M A (Bx ov iv u) Q E bL) E aH) E s):au M A (assign (.Subscript o i p) env u) Q E s:=by
 rw[arm_assign_Subscript];exact dD (cC h λov aH aY=>dD (cC aY λiv bL cA=>cx (dD (cC cA λ_w oX eK=>rel eK))))
end
theorem wc(i:Nat):jY g (.var i):=λ{W ck e} h{μ σ s K P st u x Q E} C ai p q qx=>by
 refine fS (C:=λe=>au _ _ (assign e _ _) _ _ _) h λx ak=>?_;rw[IC];exact cx (aT (tG C.toCx ak ai λae _w t=>q.1 (t.fo ae) p))
theorem N9(KK:c0 g){o:X}{n:Nat}(ho:bn g o):jY g (.attr o n):=λ{W ck e} h{μ σ s K P st u x Q E} C ai p q qx=>by
 refine fS (C:=λe=>au _ _ (assign e _ _) _ _ _) h λl aa=>?_;exact N7 (ho (m:=false) aa C.toCx p ⟨λs1 v1 p=>aT (Ds (l:=W.l) KK s1.2 v1 (ai.ext (s1.1.ext .nil)) p λt p=>q.1 (C.toCx.fo (s1.trans t)) p)⟩ ci (qx.aW C.toCx))
theorem Oa{o i:X}(ho:bn g o)(ao:bn g i):jY g (.sub o i):=λ{W ck e} h{μ σ s K P st u x Q E} C ai p q qx=>by
 refine cP h λl aa h=>cP h λr h2 h=>tB (C:=λe=>au _ _ (assign e _ _) _ _ _) h λn=>?_;exact N8 (ho (m:=false) aa C.toCx p ⟨λs1 v1 p=>ao (m:=false) h2 (C.toCx.at_ s1) p ⟨λs2 v2 p=>aT (L1 (l:=W.l) s2.2 (v1.ext (s2.1.ext .nil)) v2 (ai.ext ((s1.trans s2).1.ext .nil)) p λt p=>q.1 (C.toCx.fo ((s1.trans s2).trans t)) p)⟩ ci ((qx.aW C.toCx).at_ s1)⟩ ci (qx.aW C.toCx))
theorem zZ{e:aL}{es:List aL}{env:Env}(h:odd e=false):mh (e::es) env=(false,assign e env)::mh es env:=by
 cases e<;>first|rfl|exact vf h
theorem tH{α β:Type}{ls:List α}:∀{vs:List β},g8 ls vs=true->vs.length=ls.length:=by
 induction ls with
 |nil=>intro vs h;cases vs with
  |nil=>rfl
  |cons=>exact ci h
 |cons l ls ih=>intro vs h;cases vs with
  |nil=>exact ci h
  |cons v vs=>exact congrArg (· +1) (ih h)
theorem D3:∀{ls:List fO},(∀a∈ls,jY g a)-> ∀{W:Cfg}{dg es:List aL},pV W.bQ ls dg=some es->((mh es W.env).length=ls.length/\ (mh es W.env).findIdx? (·.1)=none)/\ ∀{μ σ s K P st us xs}{Q:Unit->ag->Prop}{E},fm g W μ σ s.heap->bC g μ s.heap xs us->xs.length=ls.length->(nr (TT W.n) ls K P (cat xs st) W.ρ σ).P->mx g W μ s (kt K st) (Q ())->my g W μ s P.E E->
  au (aD g.prog g.w) W.A (sO ((mh es W.env).map (·.2)) us) Q E s:=by
 intro ls
 induction ls with
 |nil=>
  intro _ W dg es h;cases h;refine⟨⟨rfl,rfl⟩,λ{μ σ s K P st us xs Q E} C ai hl p q qx=>?_⟩;cases xs with
  |nil=>cases ai;exact done (q.1 (.refl C) p)
  |cons _ _=>exact absurd hl (fL _)
 |cons a ls ih=>
  intro dE W dg es h;refine ao λG z=>?_;obtain⟨l,aa,h⟩:=b8 h;obtain⟨r,h2,h⟩:=b8 h;refine z ?_;clear z G;obtain⟨n,rfl⟩:=jV h;have t:=λ{ρ}=>ih (λb ae=>dE b (.tail _ ae)) (W:=W.to ρ) h2;rw[zZ n];refine⟨⟨congrArg (· +1) (t (ρ:=W.ρ)).1.1,by rw[List.findIdx?_cons,(t (ρ:=W.ρ)).1.2];rfl⟩,λ{μ σ s K P st us xs Q E} C ai hl p q qx=>?_⟩;cases xs with
  |nil=>exact absurd hl.symm (fL _)
  |cons x xs=>
   obtain⟨u,us,rfl,h3,h4⟩:=ai;show au _ _ (hJ us (assign l W.env u)>>=λ_w=>sO ((mh r W.env).map (·.2)) us) _ _ _;exact dD (dE a (.head _) aa C h3 p ⟨λ{ρ' aF s' σ'} x p=>(t (ρ:=ρ')).2 (C.at_ x) (h4.ext (x.ext C)) (fx hl) p (q.at_ x) (qx.at_ x)⟩ qx)
theorem D4{ls:List fO}(dE:∀a∈ls,jY g a):jY g (.tup ls):=λ{W ck e} h{μ σ s K P st u x Q E} C ai p q qx=>by
 refine fS (C:=λe=>au _ _ (assign e _ _) _ _ _) h λes aa=>?_;obtain⟨⟨t1,t2⟩,t⟩:=D3 dE aa;cases x with
 |tup xs=>
  have p:Ask.P (.g4 (g8 ls xs) (nr (TT W.n) ls K P (cat xs st) W.ρ σ) .no):=p;cases e:g8 ls xs with
  |true=>
   rw[e]at p;have hl:=tH e;obtain⟨a,us,rfl,⟨ht,hd⟩,hvs⟩:=ai;rw[VG];refine cx ?_;unfold unpack;rw[show(mh es W.env).length=us.toArray.size from t1.trans (hl.symm.trans hvs.length.symm),t2];refine seq (hold (aT (PyProof.Rows.unpackItems_tuple C.aZ ht λh' x=>?_)));have s1:=bo.gK (l:=W.l) C.sim (h':=h') (λb o e=>x b o (λq=>none_of e (q▸d3 _)) e) s.toks;exact t (C.up s1) (hvs.ext (s1.1.ext .nil)) hl p (q.at_ (C.toCx.fo s1)) (qx.at_ (C.toCx.fo s1))
  |false=>rw[e]at p;exact p.elim
 |_=>exact p.elim
end
section
open PyProof.Rows PySem.Calls
variable{g:G}
theorem tI{α:Type}{m:Sem α}{a:α}(h:pureOf m=some a):m=.pure a:=by
 cases m with
 |pure b=>exact congrArg _ (cW h)
 |_=>exact cU h
section
variable{c:cg}{env:Env}{L:ay}(V:jT c env L)
include V
theorem D5:env.kindOf=c.env.kindOf:=funext λx=>V.kindOf x
theorem D6:env.blockKind=c.env.blockKind:=by unfold Env.blockKind;rw[V.1];rfl
theorem D7{t e:aL}:uG [t] e env=uG [t] e c.env:=by
 unfold uG;rw[D5 V,D6 V]
theorem D8{e:aL}{t:Option aL}{k:Nat}:Be e t k env=Be e t k c.env:=by
 unfold Be;rw[D5 V,D6 V,V.1];rfl
theorem D9{e t:aL}{k:Nat}:Bf [t] e k env=Bf [t] e k c.env:=D8 V
end
theorem set_comm{ρ:aQ}{i j:Nat}{v w:af}(h:i≠j):(ρ.set i v).set j w=(ρ.set j w).set i v:=funext λk=>by
 show(match dQ k j with|true=>some w|false=>match dQ k i with|true=>some v|false=>ρ k)=(match dQ k i with|true=>some v|false=>match dQ k j with|true=>some w|false=>ρ k);cases e1:dQ k j with
 |false=>rfl
 |true=>
  cases e2:dQ k i with
  |false=>rfl
  |true=>exact absurd ((mW e2).symm.trans (mW e1)) h
theorem Ea{i:Nat}{v:af}:∀{is:List Nat}{vs:List af}{ρ:aQ},i∉is->fh is vs (ρ.set i v)=(fh is vs ρ).set i v
 |[],_,_,_=>rfl
 |_::_,[],_,_=>rfl
 |j::is,w::vs,ρ,h=>(congrArg (fh is vs) (set_comm λ(z:i=j)=>h (z▸.head _))).trans (Ea λq=>h (.tail _ q))
theorem Eb{i:Nat}{v:af}:∀{is:List Nat}{vs:List af}{ρ:aQ},is.length=vs.length->fh (is++[i]) (vs++[v]) ρ=(fh is vs ρ).set i v
 |[],[],_,_=>rfl
 |_::is,_::vs,_,h=>Eb (is:=is) (vs:=vs) (fx h)
 |[],_::_,_,h=>absurd h.symm (fL _)
 |_::_,[],_,h=>absurd h (fL _)
theorem Ec:∀{is:List Nat}{vs:List af}{ρ:aQ},is.Nodup->is.length=vs.length->fh is.reverse vs.reverse ρ=fh is vs ρ
 |[],[],_,_,_=>rfl
 |i::is,v::vs,ρ,hn,h=>by
  rw[uU,uU,Eb (by rw[sC,sC];exact fx h),Ec (sH.mp hn).2 (fx h)];exact(Ea (sH.mp hn).1).symm
 |[],_::_,_,_,h=>absurd h.symm (fL _)
 |_::_,[],_,_,h=>absurd h (fL _)
theorem Ed{T:Tab}{K:bt}{P:cq}{st:List af}{σ:ah}:∀{ls:List fO}{is:List Nat},vB ls=some is->ls.length=is.length/\ ∀{vs:List af}{ρ:aQ},vs.length=is.length->nr T ls K P (cat vs st) ρ σ=K st (fh is vs ρ) σ:=by
 intro ls
 induction ls with
 |nil=>intro is h;cases h;exact⟨rfl,λ{vs ρ} h=>by cases vs with|nil=>rfl|cons=>exact absurd h (fL _)⟩
 |cons l ls ih=>
  intro is h;cases l with
  |var i=>
   refine fS (C:=λis=>ls.length+1=is.length/\ ∀{vs:List af} {ρ:aQ},vs.length=is.length->nr T (.var i::ls) K P (cat vs st) ρ σ=K st (fh is vs ρ) σ) h λis h=>?_;refine⟨congrArg (· +1) (ih h).1,λ{vs ρ} hl=>?_⟩;cases vs with
   |nil=>exact absurd hl.symm (fL _)
   |cons v vs=>exact(ih h).2 (fx hl)
  |_=>exact cU h
theorem bC.reverse{μ:aO}{h:aK}:∀{xs:List af}{us:List Value},bC g μ h xs us->bC g μ h xs.reverse us.reverse:=by
 intro xs
 induction xs with
 |nil=>intro _ h;cases h;rfl
 |cons x xs ih=>
  intro _ h;obtain⟨u,us,rfl,a,b⟩:=h;rw[uU,uU];exact bC.append (ys:=[x]) ⟨u,[],rfl,a,rfl⟩ (ih b)
theorem Ob{c:cg}{i:Nat}{x:Str}(ak:c.slot i=some x):∀{is:List Nat}{ns:List Str},c.i6 is=some ns->c.i6 (is++[i])=some (ns++[x]):=by
 intro is
 induction is with
 |nil=>
  intro _ h;cases h;show(c.slot i).bind _=_;rw[ak];rfl
 |cons j is ih=>
  intro _ h;exact cP h λy aa h=>fS (C:=λns=>c.i6 (j::is++[i])=some (ns++[x])) h λns h2=>by
   show(c.slot j).bind (λx=>(c.i6 (is++[i])).map (x::·))=_;rw[aa,ih h2];rfl
theorem Oc{c:cg}:∀{is:List Nat}{ns:List Str},c.i6 is=some ns->c.i6 is.reverse=some ns.reverse:=by
 intro is
 induction is with
 |nil=>
  intro _ h;cases h;rfl
 |cons j is ih=>
  intro _ h;exact cP h λy aa h=>fS (C:=λns=>c.i6 (j::is).reverse=some ns.reverse) h λns h2=>by
   rw[uU,uU];exact Ob aa (ih h2)
theorem Od:∀{is:List Nat}{W:Cfg}{ns:List Str},W.bQ.i6 is=some ns->ns.length=is.length/\ ∀{μ σ s us xs}{K:cX}{Q:Unit->ag->Prop}{E},fm g W μ σ s.heap->bC g μ s.heap xs us->xs.length=is.length->(K (fh is xs W.ρ) σ).P->mx g W μ s K (Q ())->
  au (aD g.prog g.w) W.A (sO (ns.map λx=>BO W.env x) us) Q E s:=by
 intro is
 induction is with
 |nil=>
  intro W ns h;cases h;refine⟨rfl,λ{μ σ s us xs K Q E} C ai hl p q=>?_⟩;cases xs with
  |nil=>cases ai;exact done (q.1 (.refl C) p)
  |cons=>exact absurd hl (fL _)
 |cons i is ih=>
  intro W ns h;obtain⟨x,aa,h⟩:=b8 h;obtain⟨r,h2,rfl⟩:=dZ h;refine⟨congrArg (· +1) (ih h2).1,λ{μ σ s us xs K Q E} C ai hl p q=>?_⟩;cases xs with
  |nil=>exact absurd hl.symm (fL _)
  |cons y xs=>
   obtain⟨u,us,rfl,a,b⟩:=ai;show au _ _ (hJ us (BO W.env x u)>>=λ_w=>sO (r.map λx=>BO W.env x) us) _ _ _;exact dD (aT (tG C.toCx aa a λae _w t=>have t:=t.fo ae;(ih (W:=W.to (W.ρ.set i y)) h2).2 (C.at_ t) (b.ext (t.ext C)) (fx hl) p (q.at_ t)))
theorem Oe{l:fO}(hl:jY g l){W:Cfg}{t₀ t v:aL}(aa:pU W.bQ l t₀=some t)(ho:odd t=false){sw:Option (List Nat)}(h2:CD W.bQ l t v=some sw){r:Option (List Str)}(hr:uG [t] v W.env=.pure r){μ σ s x u K P}{Q:kh->ag->Prop}{E}(C:fm g W μ σ s.heap)(ai:bf g μ s.heap x u)
  (p:(s8 (TT W.n) l (rk K) P [x] W.ρ σ).P)(q:jX g W μ s K P Q E):au (aD g.prog g.w) W.A (VH W.env u r ((mh [t] W.env).map (·.2))) Q E s:=by
 obtain⟨b7,h3,h2⟩:=b8 h2;have hr':=tI h3;rw[<-D7 C.env.1,hr]at hr';cases hr';cases r with
 |none=>
  rw[zZ ho];exact seq (hl aa C ai p ⟨λt p=>done (q.1.1 t p)⟩ q.4)
 |some ns=>
  obtain⟨is,h4,h2⟩:=b8 h2;obtain⟨h5,_⟩:=gN h2;obtain⟨h5,h6⟩:=bV h5;cases l with
  |tup ls=>
   have V:=Ed (T:=TT W.n) (K:=rk K) (P:=P) (st:=[]) (σ:=σ) h4;cases x with
   |tup xs=>
    have p:Ask.P (.g4 (g8 ls xs) (nr (TT W.n) ls (rk K) P (cat xs []) W.ρ σ) .no):=p;cases e:g8 ls xs with
    |true=>
     rw[e]at p;have hlen:=(tH e).trans V.1;have p:(nr (TT W.n) ls (rk K) P (cat xs []) W.ρ σ).P:=p;rw[V.2 hlen,<-Ec (vZ h6) hlen.symm]at p;obtain⟨a,us,rfl,⟨ht,hd⟩,hvs⟩:=ai;have B:=Od (g:=g) (Oc (eq_of_beq h5));have hn:ns.length=us.toArray.size:=by
      have:=B.1;rw[sC,sC]at this;exact this.trans (hlen.symm.trans hvs.length.symm)
     unfold VH;refine seq (aT (jK ?_));rw[hn];refine seq (aT (PyProof.Rows.unpackItems_tuple C.aZ ht λh' x=>?_));have s1:=bo.gK (l:=W.l) C.sim (h':=h') (λb o e=>x b o (λq=>none_of e (q▸d3 _)) e) s.toks;exact seq (B.2 (C.up s1) (hvs.reverse.ext (s1.1.ext .nil)) (by rw[sC,sC];exact hlen) p ⟨λt p=>done ((q.at_ (C.toCx.fo s1)).1.1 t p)⟩)
    |false=>rw[e]at p;exact p.elim
   |_=>exact p.elim
  |_=>exact cU h4
theorem Of{l:fO}{a:X}(hc:zf a=false)(hl:jY g l)(aM:bn g a):hb g (.assign l a):=λ{W bK st} h{μ σ s K P Q E} C p q=>by
 refine cP h λt aa h=>cP h λv h2 h=>cP h λsw h3 h=>lm (C:=λst=>au _ _ (kW st _) _ _ _) h λn=>?_;obtain⟨dv,cS⟩:=bV n;rw[ID,D9 C.env.1,tI (eq_of_beq dv),hc];refine cx (seq (done (gn rfl ?_)));obtain⟨r,hr,_⟩:=b8 h3;have hr:=(D7 C.env.1).trans (tI hr);refine seq (aM (m:=false) h2 C.toCx p ⟨λ{u x aF s' σ'} s1 v1 p=>?_⟩ ci (q.4.aW C.toCx));rw[hr];exact seq (done (Oe hl aa (ow _▸cS) h3 hr (C.up s1) v1 p (q.at_ (C.toCx.fo s1))))
end
section
open PyProof.Rows PySem.Calls
variable{g:G}
theorem Og{a:X}(aM:bn g a):hb g (.expr a):=λ{W bK st} h{μ σ s K P Q E} C p q=>by
 refine cP h λl aa h=>lm (C:=λst=>au _ _ (kW st _) _ _ _) h λn=>?_;rw[arm_exec_Expr,D8 C.env.1,tI (eq_of_beq n)];refine cx (gn (by unfold VI;rw[C.env.1.1];rfl) (seq (done (gn rfl ?_))));refine seq (aM (m:=false) aa C.toCx p ⟨λ{v x aF s' σ'} s1 v1 p=>?_⟩ ci (q.4.aW C.toCx));have hq:=q.1.1 (C.toCx.fo s1) p;exact aT (wpAny_dropValue hq)
theorem Ee{A:bA}{E:Value->ag->Prop}{s:ag}{μ:aO}{v w:Value}{x y:af}{op:gZ}{F:eS}{Q:Value->ag->Prop}(ai:bf g μ s.heap x v)(hw:bf g μ s.heap y w)(p:(yT op x y F).P)(H:∀{z u tk},bf g μ s.heap z u->(F z).P->Q u {s with toks:=tk}):
  aN (aD g.prog g.w) A (Bi (pT op) v w) Q E s:=
 nH (C:=λv=>aN _ _ (Bi _ v w) _ _ _) ai p λi t p=>nH (C:=λw=>aN _ _ (Bi _ _ w) _ _ _) hw p λj u p=>K8 p λc tk t' p=>H (z:=.int c) ⟨t',rfl⟩ p
theorem Oh{i:Nat}{op:gZ}{a:X}(aM:bn g a):hb g (.pF i op a):=λ{W bK st} h{μ σ s K P Q E} C p q=>by
 refine cP h λx ak h=>fS (C:=λst=>au _ _ (kW st _) _ _ _) h λv aa=>?_;obtain⟨o,ho,p⟩:=p;rw[arm_exec_AugAssign];refine cx (seq (aT (CY C.toCx ak ho λ{u} hu=>dD (aM (m:=false) aa C.toCx p ⟨λ{w y aF s' σ'} s1 v1 p=>cx (seq (pM (aT (Ee (hu.ext (s1.1.ext .nil)) v1 p λ{z n tk} hn p=>cx (seq (aT ?_))))))⟩ ci (q.4.aW C.toCx)))));have s1:=s1.trans (.tok s1.2 tk);exact tG (C.up s1).toCx ak hn λae _w t=>done (q.1.1 ((C.toCx.fo s1).trans (t.fo ae)) p)
theorem Oi(KK:c0 g){o a:X}{n:Nat}{op:gZ}(ho:bn g o)(aM:bn g a):hb g (.sT o n op a):=λ{W bK st} h{μ σ s K P Q E} C p q=>by
 refine cP h λl aa h=>fS (C:=λst=>au _ _ (kW st _) _ _ _) h λv h2=>?_;rw[arm_exec_AugAssign_2];have aW:=q.4.aW C.toCx;refine cx (seq (ho (m:=false) aa C.toCx p ⟨λ{ov x fT s1' aJ} s1 v1 p=>dD (cx (seq (aT (Dl KK s1.2 v1 p λ{y old tk} hy p=>?_))))⟩ ci aW));have s1:=s1.trans (.tok s1.2 tk);refine dD (aM (m:=false) h2 (C.toCx.at_ s1) p ⟨λ{w z ib s2' aC} s2 v2 p=>cx (pM (aT (Ee (hy.ext (s2.1.ext .nil)) v2 p λ{c nv tk2} hn p=>cx (dD (aT ?_)))))⟩ ci (aW.at_ s1));have s2:=s2.trans (.tok s2.2 tk2);exact Ds (l:=W.l) KK s2.2 (v1.ext (s2.1.ext .nil)) hn p λt p=>seq (rel (done (q.1.1 (C.toCx.fo ((s1.trans s2).trans t)) p)))
end
section
open PyProof.Rows PySem.Calls
variable{g:G}
noncomputable def wd(env:Env)(x:Value):Sem Unit:=do
 if(<-oP x 1)== .none then x8 "frame.own-activation:exception-without-traceback"
 yp x env.frame
noncomputable def rK(g:G)(A:bA)(env:Env)(Q:kh->ag->Prop)(E:Value->ag->Prop)(r:jG)(s':ag):Prop:=
 match r with
 |.ok f=>Q f s'
 |.error e=>au (aD g.prog g.w) A (wd env e) (λ_w s''=>E e s'') E s'
noncomputable def z0(g:G)(A:bA)(env:Env)(E:Value->ag->Prop)(e:Value)(s':ag):Prop:=
 au (aD g.prog g.w) A (mf e env>>=λ_w=>oO e) (λ_w s''=>au (aD g.prog g.w) A (wd env e) (λ_w s''=>E e s'') E s'') (λe s''=>au (aD g.prog g.w) A (wd env e) (λ_w s''=>E e s'') E s'') s'
theorem Ef{A:bA}{env:Env}{Q:kh->ag->Prop}{E:Value->ag->Prop}{s:ag}{c:l0}(hcl:km c=true)(h:d2 (aD g.prog g.w) A c (rK g A env Q E) s):au (aD g.prog g.w) A (yr c env) Q E s:=by
 unfold yr;refine jt λcB p dm hc=>?_;rw[IE];exact Hl (λr s' hr=>by cases r<;>exact hr) (h _ p rfl (dm.enter c none p cU) (hc.enter hcl))
theorem Eg{W:Cfg}{μ:aO}{σ:ah}{s:ag}{E:Value->ag->Prop}{k:Nat->cX}(C:fm g W μ σ s.heap)(q:my g W μ s k E):my g W μ s k (z0 g W.A W.env E):=⟨λ{a c ρ' aF s' σ'} x e p=>by
 obtain⟨outer,hl,_⟩:=C.tail
 refine seq (aT (zW x.3 C.dE hl C.env.1.4 e x.1.3 λh2 X2 t2=>aT (NT ?_)))
 unfold wd
 refine seq (aT (NW (s:={s' with heap:=h2}) t2 λT'=>?_))
 refine gn rfl ?_
 rw[C.env.1.4]
 have x2:=x.x C.sim X2
 exact aT (wb (s:={s' with heap:=h2}) x2.3 t2 x2.1.3 λh3 X3 t3=>(q.1 (s':={s' with heap:=h3}) (x.x C.sim (X2.trans X3)) (t3.st (.inr rfl)) p:E (.ref a) {s' with heap:=h3}))⟩
theorem Oj{c:X}{b:List C}(hc:bn g c)(ae:jy g b){W:Cfg}{t₀ t:aL}{z7 d:List dI}(aa:re W.bQ c t₀=some t)(h2:jv W.bQ b z7=some d){K:cX}{P:cq}{Q:kh->ag->Prop}{E:Value->ag->Prop}{α:Type}{I:α->aQ->ah->Prop}{m:α->Nat}
  (hI:∀a ρ σ,I a ρ σ->(cc (TT W.n) c (yZ (λρ σ=>sB (TT W.n) b ⟨dY λρ σ=>∃a',m a'<m a/\ I a' ρ σ,dY λρ σ=>∃a',m a'<m a/\ I a' ρ σ,P.V,P.E⟩ ρ σ) K) P [] ρ σ).P):∀{n:Nat}{a:α}{ρ:aQ}{μ:aO}{σ:ah}{s:ag},m a<n->I a ρ σ->fm g (W.to ρ) μ σ s.heap->jX g (W.to ρ) μ s K P Q E->
  d2 (aD g.prog g.w) W.A (.whileLoop t d [] W.env) (rK g W.A W.env Q E) s:=by
 intro n
 induction n with
 |zero=>intro a _ _ _ _ h;exact absurd h (pB _)
 |succ n ih=>
  intro a ρ μ σ s hm ao C q;refine iZ ?_;rw[q7 rfl];show au _ _ ((IF t d [] W.env).onRaise (λx=>do mf x W.env;oO x)) _ _ _;refine jt ?_;show au _ _ (IF t d [] W.env) _ (z0 g W.A W.env E) _;unfold IF;have qx:=Eg C q.4;refine seq (hc (W:=W.to ρ) (m:=true) aa C.toCx (hI a ρ σ ao) ⟨λ{v x fT s1' aJ} s1 v1 p=>?_⟩ (λ_w {x σ'} p=>(mv p).elim λb e=>⟨b,e.1⟩) (qx.aW C.toCx));obtain⟨b',rfl,p⟩:=mv p;obtain rfl:=nz.bool v1;have hg:=C.toCx.fo s1;cases v with
  |false=>exact done (q.1.1 hg p)
  |true=>
   have again:mx g (W.to ρ) fT s1' (dY λρ σ=>∃a',m a'<m a/\ I a' ρ σ) (λs=>d2 (aD g.prog g.w) W.A (.whileLoop t d [] W.env) (rK g W.A W.env Q E) s):=
    ⟨λ{kq ib s2 aC} x2 p=>p.elim λa' p=>ih (bU p.1 (lW hm)) p.2 ((C.at_ (hg.trans x2)):fm g (W.to kq) ib aC s2.heap) ((q.at_ (hg.trans x2)):jX g (W.to kq) ib s2 K P Q E)⟩
   refine seq (ae (W:=W.to ρ) h2 (C.at_ hg) p ⟨⟨λx p=>done ⟨rfl,rfl,again.1 x p⟩⟩,⟨λx p=>done ⟨rfl,rfl,again.1 x p⟩⟩,λx r p=>done (q.3 (hg.trans x) r p),(qx.at_ hg)⟩)
theorem Ol{c:X}{b:List C}(hc:bn g c)(ae:jy g b):hb g (.while c b):=λ{W bK st} h{μ σ s K P Q E} C p q=>by
 refine cP h λt aa h=>fS (C:=λst=>au _ _ (kW st _) _ _ _) h λd h2=>?_;obtain⟨α,I,m,a,ao,hI⟩:=p;rw[arm_exec_While];exact cx (Ef rfl (Oj (W:=W) hc ae aa h2 hI (b9 _) ao C q))
end
section
open PyProof.Rows PySem.Calls
variable{g:G}
inductive iJ(g:G)(wr:List ay)(μ:aO)(σ:ah)(h h':aK):Prop
 |mk (near:∀b o,h.get? b=some o->b∉wr-> ¬cj μ b->h'.get? b=some o) (sim:br g μ σ h')
inductive qg (g:G) (wr:List ay) (t:d6) (St:Nat->aO->aK->Prop) (i:Nat) (μ:aO) (σ:ah) (h:aK):Prop
 |mk (st:St i μ h) (sim:br g μ σ h) (gI:t.gI σ) (off:∀b∈wr,¬cj μ b/\ g.base.get? b=none)
inductive kr (g:G) (A:bA) (target:aL) (I:ay) (wr:List ay) (t:d6) (St:Nat->aO->aK->Prop):Prop
 |mk (live:∀{i μ h},St i μ h-> ∀b∈wr,∃o,h.get? b=some o/\ o.cls≠.type "tuple") (frame:∀{i μ h aF h'},St i μ h->Ext μ h aF h'->(∀b∈wr,∀o,h.get? b=some o->h'.get? b=some o)->St i aF h') (item:∀{i x μ σ s} {R:Option Value->ag->Prop} {E},t.vs[i]?=some x->qg g wr t St i μ σ s.heap->(∀{v aH},(∀{Q:Unit->ag->Prop} {E'},(∀{h' tk},iJ g wr μ σ s.heap h'->bf g μ h' x v->St (i+1) μ h'->Q () {s with heap:=h',toks:=tk})->aN (aD g.prog g.w) A (BP target (.ref I) v) Q E' aH)->R (some v) aH)->aN (aD g.prog g.w) A (uV (.ref I)) R E s) (done:∀{μ σ s} {Q:Option Value->ag->Prop} {E},qg g wr t St t.vs.length μ σ s.heap->(∀{h' tk},iJ g wr μ σ s.heap h'->Q none {s with heap:=h',toks:=tk})->aN (aD g.prog g.w) A (uV (.ref I)) Q E s) (self:∀{i μ s} {Q:Value->ag->Prop} {E},St i μ s.heap->Q (.ref I) s->aN (aD g.prog g.w) A (pD (.ref I)) Q E s)
section
variable{wr:List ay}{μ:aO}{σ:ah}{h h':aK}
theorem nJ(H:∀b∈wr,∃o,h.get? b=some o/\ o.cls≠.type "tuple"):iC h wr:=λb ae vs zz=>zz.elim λo zz=>zz.elim λho zz=>zz.elim λhc _w=>(H b ae).elim λo' q=>by cases ho.symm.trans q.1;exact q.2 hc
theorem iJ.ext(n:iJ g wr μ σ h h')(nt:iC h wr):Ext μ h μ h':=⟨mS _,λ{a vs} H=>by
 obtain⟨⟨o,ho,r⟩,hd⟩:=H
 exact⟨⟨o,n.1 a o ho (λq=>nt a q vs ⟨o,ho,r⟩) hd,r⟩,hd⟩⟩
theorem iJ.keep(S:br g μ σ h)(k:pL wr h h')(nt:iC h wr)(off:∀b∈wr,¬cj μ b/\ g.base.get? b=none):iJ g wr μ σ h h':=⟨λb o e ae _w=>k b o e ae,S.keep k nt (λb ae=>(off b ae).1) λb ae=>(off b ae).2⟩
end
section
variable{W:Cfg}{ey μ:aO}{bT σ:ah}{bK s:ag}{ρ:aQ}{wr:List ay}
theorem dT.near(ks:fm g W ey bT bK.heap)(x:dT g W ey bK ρ μ s σ){h':aK}(n:iJ g wr μ σ s.heap h')(nt:iC s.heap wr)(fr:∀b∈wr,bK.heap.get? b=none)(tk:Nat):dT g W ey bK ρ μ {s with heap:=h',toks:=tk} σ:=by
 have nw:∀{b o},bK.heap.get? b=some o->b∉wr:=λe q=>none_of e (fr _ q);have no:∀{b},b∈own W.env->b∉wr:=λae q=>(ks.env.live _ ae).elim λo e=>nw e q;have ex:=n.ext nt;have ns:∀{L m},L∉wr-> ¬cj μ L->s.heap.Ns L m->h'.Ns L m:=λae hd hm=>by
  obtain⟨o,es,ep,ho,r⟩:=hm;exact⟨o,es,ep,n.1 _ o ho ae hd,r⟩
 refine⟨⟨x.1.1,λb o e ae hd=>?_,λb o e=>?_,x.1.4⟩,n.2,x.3.move (λL hL m hm=>ns (λq=>ks.iH.not (fr _ q) hL) ((x.3.jS hL).elim λ_w y=>y.elim λ_w y=>y.3) hm) λb a q=>absurd a q,
  x.4.move ex (λm hm=>ns (no (.head _)) (x.4.4 _ (.head _)).1 hm) (λc hc u hu=>?_) λb a q=>absurd a q,by rw[x.5]⟩
 ·have hd':¬cj μ b:=λq=>none_of e (x.1.4 b q hd);exact(x.1.2 b o e ae hd).imp (λe'=>n.1 b o e' (nw e) hd') λq=>⟨q.1,q.2.imp λcO e'=>n.1 b _ e' (nw e) hd'⟩
 ·by_cases q:cj μ b
  ·exact n.2.live q
  ·exact(x.1.3 b o e).imp λo' e'=>n.1 b o' e' (nw e) q
 ·obtain⟨o,ho,r⟩:=hu;have hm:c.2∈own W.env:=.tail _ (uI hc);exact⟨o,n.1 _ o ho (no hm) (x.4.4 _ hm).1,r⟩
theorem dT.walk(ks:fm g W ey bT bK.heap){A:bA}{t:aL}{I:ay}{its:d6}{St:Nat->aO->aK->Prop}(w:kr g A t I wr its St)(fr:∀b∈wr,bK.heap.get? b=none)(C:fm g (W.to ρ) μ σ s.heap){i:Nat}(hst:St i μ s.heap)(hd:∀b∈wr,¬cj μ b){ρ':aQ}{aF:aO}{s':ag}{σ':ah}(x:dT g (W.to ρ) μ s ρ' aF s' σ'):St i aF s'.heap/\ ∀b∈wr,¬cj aF b:=
 ⟨w.2 hst (x.ext C) λb ae o e=>(x.1.2 b o e (λq=>(ks.env.live _ q).elim λo e=>none_of e (fr b ae)) (hd b ae)).elim id λq=>absurd q.1 (ks.iH.not (fr b ae)),
  λb ae q=>(w.1 hst b ae).elim λo e=>none_of e.1 (x.1.4 b q (hd b ae))⟩
end
theorem Eh{α β lq:Type}{f:α->lq}:∀{is:List α}{xs:List β},g8 (is.map f) xs=g8 is xs
 |[],[]=>rfl
 |[],_::_=>rfl
 |_::_,[]=>rfl
 |_::is,_::xs=>Eh (is:=is) (xs:=xs)
noncomputable def we:gF->fO
 |.var i=>.var i
 |.tup is=>.tup (is.map .var)
theorem Om:∀{u:gF},jY g (we u):=by
 intro u;cases u with
 |var i=>
  exact wc i
 |tup is=>
  exact D4 λa aM=>(iS.mp aM).elim λi q=>q.2▸wc i
theorem Ei{c:cg}:∀{is:List Nat}{dg es:List aL},c.row is dg=some es->pV c (is.map .var) dg=some es:=by
 intro is
 induction is with
 |nil=>exact λh=>h
 |cons i is ih=>
  intro dg es h;refine cP h λx ak h=>fS (C:=λes=>pV c _ dg=some es) h λr hr=>?_;show((c.slot i).map _).bind _=_;rw[ak];show(pV c (is.map .var) dg.tail).bind _=_;rw[ih hr];rfl
theorem Oo{c:cg}{e t:aL}:∀{u:gF},c.rp e u=some t->pU c (we u) e=some t:=by
 intro u;cases u with
 |var i=>
  intro h;exact h
 |tup is=>
  intro h;exact fS (C:=λt=>pU c _ e=some t) h λes ar=>by
   show(pV c (is.map .var) (kids e)).map _=_;rw[Ei ar];rfl
theorem Oq:∀{is:List Nat},vB (is.map .var)=some is:=by
 intro is
 induction is with
 |nil=>
  exact rfl
 |cons _ is ih=>
  exact congrArg (a7 _) (ih)
theorem Os{T:Tab}{v:af}{ρ:aQ}{σ:ah}{F:aQ->Ask}{P:cq}:∀{u:gF},(iX u v ρ F).P->(s8 T (we u) (λ_w ρ σ'=>.cond (σ'=σ) (F ρ)) P [v] ρ σ).P:=by
 intro u;cases u with
 |var i=>
  intro p;exact⟨rfl,p⟩
 |tup is=>
  intro p;cases v with
  |tup xs=>
   have p:Ask.P (.g4 (g8 is xs) (F (fh is xs ρ)) .no):=p;cases e:g8 is xs with
   |true=>
    rw[e]at p;have V:=Ed (T:=T) (K:=λ_w ρ σ'=>.cond (σ'=σ) (F ρ)) (P:=P) (st:=[]) (σ:=σ) (Oq (is:=is));show Ask.P (.g4 (g8 (is.map fO.var) xs) (nr T (is.map .var) (λ_w ρ σ'=>.cond (σ'=σ) (F ρ)) P (cat xs []) ρ σ) .no);rw[Eh,e,V.2 (tH e)];exact⟨rfl,p⟩
   |false=>rw[e]at p;exact p.elim
  |_=>exact p.elim
end
section
open PyProof.Rows PySem.Calls
variable{g:G}
theorem Ot{A:bA}{env:Env}{Q:kh->ag->Prop}{E:Value->ag->Prop}{s:ag}(h:Q .next s):d2 (aD g.prog g.w) A (.block [] env) (rK g A env Q E) s:=by
 refine iZ ?_;rw[q7 rfl];show au _ _ ((ki [] env).onRaise (λx=>do mf x env;oO x)>>=λf=>pure (VJ f)) _ _ _;exact seq (jt (done (done h)))
theorem Ou{u:gF}{b:List C}(ae:jy g b){W:Cfg}{t₀ t:aL}{z7 d:List dI}(aa:pU W.bQ (we u) t₀=some t)(h2:jv W.bQ b z7=some d){K:cX}{P:cq}{Q:kh->ag->Prop}{E:Value->ag->Prop}{its:d6}{I:List af->aQ->ah->Prop}{a:ay}{wr:List ay}{St:Nat->aO->aK->Prop}(w:kr g W.A t a wr its St)
  (ar:∀v r ρ σ,I (v::r) ρ σ->its.gI σ/\ (iX u v ρ λρ=>sB (TT W.n) b ⟨dY (I r),dY (I r),P.V,P.E⟩ ρ σ).P)(he:∀ρ σ,I [] ρ σ->its.gI σ/\ (K ρ σ).P){ey:aO}{bT:ah}{bK:ag}(ks:fm g W ey bT bK.heap)(q:jX g W ey bK K P Q E)(fr:∀b∈wr,bK.heap.get? b=none):
  ∀{r p:List af}{i:Nat}{ρ:aQ}{μ:aO}{σ:ah}{s:ag},its.vs=p++r->p.length=i->St i μ s.heap->(∀b∈wr,¬cj μ b)->I r ρ σ->dT g W ey bK ρ μ s σ->d2 (aD g.prog g.w) W.A (.forLoop t (.ref a) d [] W.env) (rK g W.A W.env Q E) s:=by
 have bs:∀{b},b∈wr->g.base.get? b=none:=λae=>ks.sim.old (fr _ ae);intro r
 induction r with
 |nil=>
  intro p i ρ μ σ s hr hl hst hd ao x;have hp:=he ρ σ ao;rw[<-hl,<-(dK p),<-hr]at hst;refine iZ ?_;rw[q7 rfl];show au _ _ ((yt t (.ref a) d [] W.env).onRaise (λx=>do mf x W.env;oO x)) _ _ _;refine jt ?_;unfold yt;exact cx (seq (jt (aT (w.4 ⟨hst,x.2,hp.1,λb ae=>⟨hd b ae,bs ae⟩⟩ λn=>done ⟨rfl,rfl,Ot (q.1.1 (x.near ks n (nJ (w.1 hst)) fr _) hp.2)⟩))))
 |cons v r ih=>
  intro p i ρ μ σ s hr hl hst hd ao x;have hp:=ar v r ρ σ ao;have ak:its.vs[i]?=some v:=by rw[hr,<-hl,pt (bI _),oo];rfl
  refine iZ ?_;rw[q7 rfl];show au _ _ ((yt t (.ref a) d [] W.env).onRaise (λx=>do mf x W.env;oO x)) _ _ _;refine jt ?_;show au _ _ (yt t (.ref a) d [] W.env) _ (z0 g W.A W.env E) _;unfold yt;refine cx (seq (jt (aT (w.3 ak ⟨hst,x.2,hp.1,λb ae=>⟨hd b ae,bs ae⟩⟩ λ{v' s1} go=>seq (aT (go λ{h' tk} n ai hst'=>?_))))));have hg:=x.near ks n (nJ (w.1 hst)) fr tk;have C1:=ks.at_ hg
  have q1:=q.at_ hg
  have qx:=Eg C1 q1.4;refine seq (Om (W:=W.to ρ) aa C1 ai (Os hp.2) ⟨λ{kq ib s2 aC} y p2=>?_⟩ qx);have C2:=C1.at_ y
  obtain⟨rfl,p2⟩:=p2;obtain⟨hst2,hd2⟩:=dT.walk ks w fr C1 hst' hd y;have again:mx g (W.to kq) ib s2 (dY (I r)) (λs=>d2 (aD g.prog g.w) W.A (.forLoop t (.ref a) d [] W.env) (rK g W.A W.env Q E) s):=
   ⟨λ{Ej Dq s3 aU} z p3=>by
    obtain⟨hst3,ic⟩:=dT.walk ks w fr C2 hst2 hd2 z
    exact ih (p:=p++[v]) (by rw[hr];exact VK ..) (by rw[bR,hl];rfl) hst3 ic p3 (hg.trans (y.of.trans z.of))⟩
  exact seq (ae (W:=W.to kq) (P:=⟨dY (I r),dY (I r),P.V,P.E⟩) h2 C2 p2 ⟨⟨λx p=>done ⟨rfl,rfl,again.1 x p⟩⟩,⟨λx p=>done ⟨rfl,rfl,again.1 x p⟩⟩,λx r p=>done ((q1.at_ y).3 x r p),qx.at_ y⟩)
end
section
open PyProof.Rows PySem.Calls
variable{g:G}
noncomputable abbrev owners:List String:=["enumerate","zip","dict_itemiterator","dict_reverseitemiterator","odict_iterator","itertools.zip_longest","itertools.pairwise"]
inductive Plain (h:aK) (I:ay):Prop
 |mk (is:∃o nm vs,h.get? I=some o/\ o.cls=.type nm/\ o.data=.fields vs/\ owners.contains nm=false/\ nm≠"tuple")
theorem wg{h:aK}{I:ay}{nm:String}{vs:Array Value}(hn:owners.contains nm=false)(ht:nm≠"tuple")(x:∃o,h.get? I=some o/\ o.cls=.type nm/\ o.data=.fields vs):Plain h I:=⟨x.imp λo y=>⟨nm,vs,y.1,y.2.1,y.2.2,hn,ht⟩⟩
section
variable{A:bA}{E:Value->ag->Prop}{s:ag}
theorem Ov{Q:Unit->ag->Prop}{target:aL}{I:ay}{v:Value}(P:Plain s.heap I)(hQ:Q () s):aN (aD g.prog g.w) A (BP target (.ref I) v) Q E s:=by
 obtain⟨o,nm,vs,ho,hc,hd,hn,_⟩:=P.1;have core:aN (aD g.prog g.w) A (BP (.Tuple [] 0 default) (.ref I) v) Q E s:=by
  cases v with
  |ref a=>
   refine aE (oK ho ?_);obtain⟨c,d,dt,cO⟩:=o;cases hc;cases hd;show aN _ _ (if(owners.contains nm&&_)=true then _ else _) _ _ _;rw[hn];exact bw hQ
  |_=>exact bw hQ
 cases target<;>first|exact core|exact bw hQ
theorem wh{I:ay}{target:aL}{t:d6}{St:Nat->aO->aK->Prop}(ob:∀{i μ h},St i μ h->Plain h I)
  (fr:∀{i μ h aF h'},St i μ h->Ext μ h aF h'->(∀o,h.get? I=some o->h'.get? I=some o)->St i aF h')
  (it:∀{i x μ σ s} {R:Option Value->ag->Prop} {E},t.vs[i]?=some x->St i μ s.heap->br g μ σ s.heap->t.gI σ->(∀{v h' tk},yu I s.heap h'->(Ext μ s.heap μ h'->bf g μ h' x v/\ St (i+1) μ h')->R (some v) {s with heap:=h',toks:=tk})->aN (aD g.prog g.w) A (uV (.ref I)) R E s)
  (dn:∀{μ σ s} {Q:Option Value->ag->Prop} {E},St t.vs.length μ s.heap->br g μ σ s.heap->t.gI σ->(∀h',yu I s.heap h'->Q none {s with heap:=h'})->aN (aD g.prog g.w) A (uV (.ref I)) Q E s)
  (self:∀{i μ s} {Q:Value->ag->Prop} {E},St i μ s.heap->Q (.ref I) s->aN (aD g.prog g.w) A (pD (.ref I)) Q E s):kr g A target I [I] t St:=by
 have lv:∀{i μ h},St i μ h-> ∀b∈[I],∃o,h.get? b=some o/\ o.cls≠.type "tuple":=λar b ae=>by
  obtain⟨o,nm,vs,ho,hc,_,_,ht⟩:=(ob ar).1;exact bW.mp ae▸⟨o,ho,λq=>ht (Bm (hc.symm.trans q))⟩
 have lr:∀{i μ σ h h'},qg g [I] t St i μ σ h->yu I h h'->iJ g [I] μ σ h h':=λw x=>.keep w.2 (λb o e ae=>x b o (λq=>ae (q▸.head _)) e) (nJ (lv w.1)) w.4;exact⟨lv,λar x k=>fr ar x (k I (.head _)),λak w H=>it ak w.1 w.2 w.3 λx k=>H λK=>by
  have n:=lr w x
  have:=k (n.ext (nJ (lv w.1)))
  exact Ov (ob this.2) (K n this.1 this.2),λw H=>dn w.1 w.2 w.3 λh' x=>H (lr w x),self⟩
end
section
variable{A:bA}(aZ:A.handled=none){I:ay}{target:aL}
theorem Ek{l:Nat}{o:cv}{vs:List af}{σ:ah}(h:d6.gI ⟨vs,some (l,o)⟩ σ):σ.get l=o:=h
theorem wi{μ:aO}{σ:ah}{h:aK}(S:br g μ σ h){j:Nat}{a:ay}{xs:List af}(e:∃p,μ[j]?=some p/\ p.1=a)(ar:σ.get j=.list xs):∃vs,h.IsList a vs.toArray/\ bC g μ h xs vs:=by
 obtain⟨p,e,rfl⟩:=e;obtain⟨p',vs,n,e1,e2,_,aa,h2⟩:=S.listAt (v:=.ref p.1) ⟨p,e,rfl⟩ ar;cases e.symm.trans e1;exact⟨vs,⟨_,aa,rfl,n,rfl⟩,h2⟩
theorem bC.end_{μ:aO}{h:aK}{xs:List af}{vs:List Value}(H:bC g μ h xs vs):vs.toArray[xs.length]?=none:=(mX ..).trans (VL (bb H.length))
include aZ in
theorem Ow{j:Nat}{xs:List af}:kr g A target I [I] ⟨xs,some (j,.list xs)⟩ (λi μ h=>∃a,(∃p,μ[j]?=some p/\ p.1=a)/\ h.IsListIter I a i):=
 wh (λzz=>zz.elim λ_w zz=>zz.elim λ_w x=>wg (by decide) (by decide) x) (λzz x k=>zz.elim λa zz=>zz.elim λe zz=>zz.elim λo zz=>zz.elim λho r=>⟨a,e.imp λp q=>⟨vy x.1 q.1,q.2⟩,o,k o ho,r⟩)
  (λak zz S ar H=>zz.elim λa zz=>zz.elim λe x=>by
   obtain⟨vs,aa,h2⟩:=wi S e ar
   obtain⟨v,ai,r⟩:=h2.get ak
   exact wpAny_pyNext_list_item x aa ((mX ..).trans ai) λh' y z=>H z.extBut λx0=>⟨r.ext x0,a,e,y⟩)
  (λzz S ar H=>zz.elim λa zz=>zz.elim λe x=>by
   obtain⟨vs,aa,h2⟩:=wi S e ar
   exact wpAny_pyNext_list_end aZ x aa h2.end_ H)
  (λzz h=>zz.elim λ_w zz=>zz.elim λ_w x=>wpAny_pyIter_listiter x h)
include aZ in
theorem Ox{xs:List af}:kr g A target I [I] ⟨xs,none⟩ (λi μ h=>∃a vs,(gW h a vs.toArray/\ ¬cj μ a)/\ bC g μ h xs vs/\ h.IsTupleIter I a i):=
 wh (λzz=>zz.elim λ_w zz=>zz.elim λ_w zz=>zz.elim λ_w zz=>zz.elim λ_w x=>wg (by decide) (by decide) x) (λzz x k=>zz.elim λa zz=>zz.elim λvs zz=>zz.elim λt zz=>zz.elim λq zz=>zz.elim λo zz=>zz.elim λho r=>⟨a,vs,x.2 t,q.ext x,o,k o ho,r⟩)
  (λak zz S ar H=>zz.elim λa zz=>zz.elim λvs zz=>zz.elim λt zz=>zz.elim λq x=>by
   obtain⟨v,ai,r⟩:=q.get ak
   exact wpAny_pyNext_tuple_item x t.1 ((mX ..).trans ai) λh' y z=>H z.extBut λx0=>⟨r.ext x0,a,vs,x0.2 t,q.ext x0,y⟩)
  (λzz S ar H=>zz.elim λa zz=>zz.elim λvs zz=>zz.elim λt zz=>zz.elim λq x=>wpAny_pyNext_tuple_end aZ x t.1 q.end_ H)
  (λzz h=>zz.elim λ_w zz=>zz.elim λ_w zz=>zz.elim λ_w zz=>zz.elim λ_w x=>wpAny_pyIter_tupleiter x h)
theorem El{st:String}{i:Nat}{x:af}(h:(jr st)[i]?=some x):∃c:Char,x=.str (Hh c)/\ (aI st).cps[i]?=some c.toNat:=by
 unfold jr at h;rw[sP]at h;obtain⟨c,e,rfl⟩:=dZ h;refine⟨c,rfl,?_⟩;rw[ou];exact(mX ..).trans ((sP ..).trans (congrArg (a7 _) e))
theorem z8(st:String):(aI st).cps[(jr st).length]?=none:=by
 rw[ou];exact(mX ..).trans (VL (by rw[cF];exact bb (cF ..).symm))
theorem Em(c:Char):aI (Hh c)=⟨#[c.toNat]⟩:=by rw[ou,String.toList_singleton];rfl
include aZ in
theorem Oy{st:String}{ty:String}{t:Tok}(hty:ty="str_ascii_iterator" \/ty="str_iterator"):kr g A target I [I] ⟨jr st,none⟩ (λi μ h=>h.IsStrIter I ty (aI st) t i):=
 wh (λx=>by rcases hty with rfl|rfl<;>exact wg (by decide) (by decide) x) (λzz x k=>zz.elim λo zz=>zz.elim λho r=>⟨o,k o ho,r⟩)
  (λ{i _w _w _w s R E} ak x S ar H=>by
   obtain⟨c,rfl,hc⟩:=El ak
   have go:∀h',h'.IsStrIter I ty (aI st) t (i+1)->hO I s.heap h'->R (some (.str ⟨#[c.toNat]⟩ s.toks)) {s with heap:=h',toks:=s.toks+1}:=λh' y z=>H z.extBut λx0=>⟨⟨s.toks,congrArg (VM · s.toks) (Em c).symm⟩,y⟩
   rcases hty with rfl|rfl
   ·exact wpAny_pyNext_ascii_item x hc go
   ·exact wpAny_pyNext_wide_item x hc go)
  (λx S ar H=>by
   rcases hty with rfl|rfl
   ·exact wpAny_pyNext_ascii_end aZ x (z8 st) H
   ·exact wpAny_pyNext_wide_end aZ x (z8 st) H)
  (λx h=>by
   rcases hty with rfl|rfl
   ·exact wpAny_pyIter_striter_ascii x h
   ·exact wpAny_pyIter_striter_wide x h)
include aZ in
theorem OA{n:Nat}:kr g A target I [I] ⟨(cE n).map λ(k:Nat)=>af.int (k:Int),none⟩ (λi μ h=>IsRangeIter h I (i:Nat) ((n:Int)-(i:Nat)) 1):=
 wh (λx=>wg (by decide) (by decide) ⟨_,x,rfl,rfl⟩) (λx _w k=>k _ x)
  (λ{i x μ σ s R E} ak x S ar H=>by
   rw[sP]at ak
   obtain⟨k,az,rfl⟩:=dZ ak
   obtain⟨hlt,rfl⟩:=jF.mp az
   rw[nd]at hlt
   refine wpAny_pyNext_range_item x (Int.sub_pos_of_lt (dR.mpr hlt)) λh' y z=>H z.extBut λx0=>⟨⟨_,by rw[IG]⟩,?_⟩
   rw[Int.sub_sub]at y;exact y)
  (λx S ar H=>wpAny_pyNext_range_end aZ x (by rw[cF,nd,VN];exact qL _) H)
  (λx h=>wpAny_pyIter_rangeiter x h)
end
end
section
open PyProof.Rows PySem.Calls
variable{g:G}
inductive qh(g:G)(W:Cfg)(t:aL)(μ:aO)(s:ag)(F:d6->ah->Ask)(Q:Value->ag->Prop):Prop
 |mk (ok:∀{a its wr St aF s' σ'},bo g W.l μ s aF s' σ'->kr g W.A t a wr its St->St 0 aF s'.heap->(∀b∈wr,s.heap.get? b=none/\ ¬cj aF b)->(F its σ').P->Q (.ref a) s')
noncomputable def pair:iW->Bool
 |.enum _=>true
 |.zip _ _=>true
 |_=>false
noncomputable def tJ(g:G)(j:iW)(W:Cfg)(e:aL):Prop:=(∀env x,BQ e env x=pure x)/\ ∀{t:aL}{μ σ s F P}{Q E:Value->ag->Prop},(pair j=true-> ∃es k p,t=.Tuple es k p)->Cx g W μ σ s.heap->(vw (TT W.n) j F P W.ρ σ).P->qh g W t μ s F Q->iG g W.l W.L μ s (hU P W.ρ) E->
 au (aD g.prog g.w) W.A (bY e W.env) (λx aH=>au (aD g.prog g.w) W.A (pD x) Q E aH) E s
noncomputable def mz(g:G)(j:iW):Prop:=∀{W:Cfg}{ck e:aL},ze W.bQ j ck=some e->tJ g j W e
section
variable{W:Cfg}{t:aL}{μ aF:aO}{σ:ah}{s s':ag}{F:d6->ah->Ask}{Q E:Value->ag->Prop}
theorem qh.at_(q:qh g W t μ s F Q)(x:bo g W.l μ s aF s' σ):qh g W t aF s' F Q:=⟨λy w st fr p=>q.1 (x.trans y) w st (λb ae=>⟨x.1.old (fr b ae).1,(fr b ae).2⟩) p⟩
theorem qh.one(S:br g μ σ s.heap)(q:qh g W t μ s F Q){o:Obj}{its:d6}{St:Nat->aO->aK->Prop}(w:kr g W.A t s.heap.objs.size [s.heap.objs.size] its St)(hst:Ext μ s.heap μ (s.heap.push o)->St 0 μ (s.heap.push o))(p:(F its σ).P)(tk:Nat):Q (.ref s.heap.objs.size) {s with heap:=s.heap.push o,toks:=tk}:=by
 have st:=bo.gK (l:=W.l) S (d7 o) tk;exact q.1 st w (hst (st.1.ext .nil)) (λb ae=>by rw[bW.mp ae];exact⟨d3 _,k7 S (d3 _)⟩) p
theorem En(x:Str):yv x="str_ascii_iterator" \/yv x="str_iterator":=by
 unfold yv;cases x.cps.all (· <128)with
 |true=>exact .inl rfl
 |false=>exact .inr rfl
theorem OB(aZ:W.A.handled=none)(S:br g μ σ s.heap){x:Value}{v:af}(ai:bf g μ s.heap v x)(p:(Ci v σ λt=>F t σ).P)(q:qh g W t μ s F Q):aN (aD g.prog g.w) W.A (pD x) Q E s:=by
 cases v with
 |tup xs=>
  obtain⟨a,vs,rfl,ht,hvs⟩:=ai;exact VO ht.1 (q.one S (Ox aZ) (λx=>⟨a,vs,x.2 ht,hvs.ext x,_,gX _ rfl,rfl,rfl⟩) p s.toks)
 |str st=>
  obtain⟨t',rfl⟩:=ai;exact VP (q.one S (Oy aZ (En _)) (λx=>⟨_,gX _ rfl,rfl,rfl⟩) p s.toks)
 |loc j=>
  refine rI (C:=λx=>aN _ _ (pD x) _ _ _) S ai (F:=λi xs=>F ⟨xs,some (i,.list xs)⟩ σ) p λi a xs vs n L p=>?_;exact wpAny_pyIter_list L.list (q.one S (Ow aZ) (λx=>⟨a.1,⟨a,L.1,rfl⟩,_,gX _ rfl,rfl,rfl⟩) p s.toks)
 |_=>exact p.elim
end
theorem OC{e:aL}(h:odd e=false)(env:Env)(x:Value):BQ e env x=pure x:=by cases e<;>first|rfl|exact vf h
theorem Eo{a:X}(aM:bn g a):mz g (.seq a):=λ{W ck e} h=>by
 refine cP h λl aa h=>tB (C:=tJ g (.seq a) W) h λn=>⟨OC n,λ{t μ σ s F P Q E} _w C p q aW=>?_⟩;exact aM (m:=false) aa C p ⟨λs1 v1 p=>aT (OB C.aZ s1.2 v1 p (q.at_ s1))⟩ ci aW
theorem z9(KK:c0 g){W:Cfg}{as:List X}{dg es:List aL}(hl:jW g as)(h2:eM W.bQ as dg=some es){nm:String}{gx:aL}{pg pos:Pos}(aa:W.bQ.glob nm pg=some gx){bv:Value}
  (hm:nm∈["len","bytes","bytearray","sum","abs","list","tuple","int","ord","range","enumerate","zip"])(hn:aI nm≠"__name__")(ae:xV (aI nm)=some bv)(hr:∀a,bv≠.ref a){μ:aO}{σ:ah}{s:ag}{K:bt}{P:cq}{Q E:Value->ag->Prop}(C:Cx g W μ σ s.heap)(p:(xL (TT W.n) as K P [] W.ρ σ).P)(aW:iG g W.l W.L μ s (hU P W.ρ) E)
  (H:∀{vs xs aF s' σ'},bo g W.l μ s aF s' σ'->bC g aF s'.heap xs vs->xs.length=as.length->(K (xs.reverseAux []) W.ρ σ').P->aN (aD g.prog g.w) W.A (call bv vs) (λx aH=>au (aD g.prog g.w) W.A (pD x) Q E aH) E s'):
  au (aD g.prog g.w) W.A (bY (.Call gx es [] pos) W.env) (λx aH=>au (aD g.prog g.w) W.A (pD x) Q E aH) E s:=
 Call_ (zt KK C aa (KK.10 _ hm) hn ae (rE hl h2 (.of hr) C p aW λs1 v1 hn p=>aT (H s1 v1 hn p))) (by obtain⟨y,rfl⟩:=rF aa;rfl)
theorem wj{c:cg}{a:X}{ck l:aL}(aa:re c a ck=some l)(n:odd l=false){es:List aL}{ls:List aL}{as:List X}(h2:eM c as es=some ls):eM c (a::as) (ck::es)=some (l::ls):=by
 show(re c a ck).bind _=_;rw[aa];show(eM c as es).bind _=_;rw[h2];show(bif !odd l then _ else _)=_;rw[n];rfl
end
section
open PyProof.Rows PySem.Calls
variable{g:G}
theorem OD{m:Int}(h:0<=m):Builtin.Range.rangeSize 0 m 1=((m.toNat:Nat):Int):=by
 rw[rangeSize_one,gD h];by_cases q:0<m
 ·rw[if_pos q,IH]
 ·rw[if_neg q];exact kY h (a6.mp q)
theorem Ep(KK:c0 g){a:X}(aM:bn g a):mz g (.range a):=λ{W ck e} h=>by
 refine cP h λgx aa h=>cP h λl h2 h=>tB (C:=tJ g (.range a) W) h λn=>⟨λ_w _w=>rfl,λ{t μ σ s F P Q E} _w C p q aW=>?_⟩;refine z9 KK (as:=[a]) (tm aM vW) (wj h2 n (es:=[]) rfl) aa (nm:="range") (bv:=.type "range") (by decide+kernel) (by decide+kernel) (by kernel_rfl) nofun C p aW λ{vs xs fT s1' aJ} s1 v1 hn p=>?_;cases xs with
 |nil=>exact absurd hn.symm (fL _)
 |cons x r=>
 cases r with
 |cons _ _=>exact absurd (fx hn) (fL _)
 |nil=>
 obtain⟨v,rfl,w1⟩:=v1.one;refine nH (C:=λv=>aN _ _ (call _ [v]) _ _ _) w1 (F:=λn=>.cond ((0<=n/\ n<=1000000))<|F ⟨(cE n.toNat).map λ(k:Nat)=>af.int (k:Int),none⟩ aJ) p λm t p=>call_range_1 (aT ?_);obtain⟨⟨m0,m1⟩,p⟩:=p;have s2:=bo.gK (l:=W.l) s1.2 (d7 {cls:=.type "range",data:=.fields #[.int 0 s1'.toks,.int m t,.int 1 (s1'.toks+1)]}) (s1'.toks+1+1);refine wpAny_pyIter_range (gX _ rfl) (small_one (by decide) (by decide) (bG (by decide) m0) (eZ m1 (by decide))) ?_;refine((q.at_ s1).at_ s2).one s2.2 (OA C.aZ) (λx=>?_) p _;rw[OD m0];exact(gX _ rfl).trans (congrArg (λx=>some ({cls:=.type "range_iterator",data:=.fields #[mU 0,mU x,mU 1]}:Obj)) (IH _).symm)
section
variable{I J:ay}{xs:List af}
noncomputable def zs(xs:List af):List af:=(cE xs.length).zipWith (λ(k:Nat) v=>af.tup [.int (k:Int),v]) xs
theorem OE{i:Nat}{x:af}(h:(zs xs)[i]?=some x):∃y,xs[i]?=some y/\ x=.tup [.int i,y]:=by
 unfold zs at h;rw[List.getElem?_zipWith]at h;cases e:xs[i]? with
 |none=>rw[e]at h;cases q:(cE xs.length)[i]?<;>rw[q]at h<;>exact cU h
 |some y=>
  rw[e,List.getElem?_range (jF.mp e).1]at h;exact⟨y,rfl,(cW h).symm⟩
theorem Aa{P:ay->Prop}(a:P I)(b:P J):∀c∈[I,J],P c:=c1.mpr ⟨a,c1.mpr ⟨b,λ_w h=>nomatch h⟩⟩
theorem OF:nc "enumerate"≠.type "tuple":=by decide
theorem OG:nc "list_iterator"≠.type "tuple":=by decide
inductive Ab (g:G) (I J:ay) (j i:Nat) (μ:aO) (h:aK):Prop
 |mk (a:∃a,(∃p,μ[j]?=some p/\ p.1=a)/\ h.IsListIter J a i) (e:∃old,IsEnum h I J (i:Nat) old)
theorem OH{A:bA}(aZ:A.handled=none){es:List aL}{k:Nat}{pos:Pos}{j:Nat}(hIJ:I≠J):kr g A (.Tuple es k pos) I [I,J] ⟨zs xs,some (j,.list xs)⟩ (Ab g I J j):=by
 have lv:∀{i μ h},Ab g I J j i μ h-> ∀b∈[I,J],∃o,h.get? b=some o/\ o.cls≠.type "tuple":=λs=>Aa (s.2.elim λold e=>⟨_,e,OF⟩) (s.1.elim λa e=>e.2.imp λo e=>⟨e.1,λq=>OG (e.2.1.symm.trans q)⟩);have lr:∀{i μ σ h h'},qg g [I,J] ⟨zs xs,some (j,.list xs)⟩ (Ab g I J j) i μ σ h->(∀b o,b≠I->b≠J->h.get? b=some o->h'.get? b=some o)->iJ g [I,J] μ σ h h':=λw x=>.keep w.2 (λb o e ae=>x b o (λq=>ae (q▸.head _)) (λq=>ae (q▸.tail _ (.head _))) e) (nJ (lv w.1)) w.4;refine⟨lv,λs x k=>⟨s.1.imp λa e=>⟨e.1.imp λp q=>⟨vy x.1 q.1,q.2⟩,e.2.imp λo e=>⟨k J (.tail _ (.head _)) o e.1,e.2⟩⟩,s.2.imp λold e=>k I (.head _) _ e⟩,λ{i x μ σ s R E} ak w H=>?_,λ{μ σ s Q E} w H=>?_,λs h=>s.2.elim λold e=>VQ e h⟩
 ·obtain⟨y,hy,rfl⟩:=OE ak;refine ao λG z=>?_;obtain⟨a,e,hit⟩:=w.1.1;obtain⟨old,he⟩:=w.1.2;obtain⟨vs,aa,h2⟩:=wi w.2 e w.3;obtain⟨v,ai,r⟩:=h2.get hy;refine z ?_;clear z G;refine wpAny_pyNext_enum_item he hit aa ((mX ..).trans ai) hIJ λh' a1 a2 a3 a4 a5=>H λK=>wpAny_letOwnedTupleGo_enum a1 λcA b1 b2=>?_;have n:=lr w λb o q1 q2 z=>b2.extBut b o q1 (a5 b o q1 q2 z);have x:=n.ext (nJ (lv w.1));exact K n ⟨_,[_,_],rfl,⟨⟨_,b2.extBut _ _ (cn (uW he)) a3,rfl,_,rfl⟩,k7 w.2 (d3 _)⟩,_,_,rfl,⟨_,rfl⟩,_,_,rfl,r.ext x,rfl⟩ ⟨⟨a,e,a2.extBut b2.extBut hIJ.symm⟩,_,b1⟩
 ·obtain⟨a,e,hit⟩:=w.1.1;obtain⟨old,he⟩:=w.1.2;obtain⟨vs,aa,h2⟩:=wi w.2 e w.3;have hl:(zs xs).length=xs.length:=by unfold zs;rw[II,nd,sI]
  exact wpAny_pyNext_enum_end aZ he hit aa ((congrArg (vs.toArray[·]?) hl).trans h2.end_) λh' x=>H (lr w λb o q1 q2 z=>x b o q2 z)
end
theorem Er(KK:c0 g){a:X}(aM:bn g a):mz g (.enum a):=λ{W ck e} h=>by
 refine cP h λgx aa h=>cP h λl h2 h=>tB (C:=tJ g (.enum a) W) h λn=>⟨λ_w _w=>rfl,λ{t μ σ s F P Q E} hp C p q aW=>?_⟩;obtain⟨ts,k,tp,rfl⟩:=hp rfl;refine z9 KK (as:=[a]) (tm aM vW) (wj h2 n (es:=[]) rfl) aa (nm:="enumerate") (bv:=.type "enumerate") (by decide+kernel) (by decide+kernel) (by kernel_rfl) nofun C p aW λ{vs xs fT s1' aJ} s1 v1 hn p=>?_;cases xs with
 |nil=>exact absurd hn.symm (fL _)
 |cons x r=>
 cases r with
 |cons _ _=>exact absurd (fx hn) (fL _)
 |nil=>
 obtain⟨v,rfl,w1⟩:=v1.one;refine rI (C:=λv=>aN _ _ (call _ [v]) _ _ _) s1.2 w1 (F:=λl xs=>F ⟨zs xs,some (l,.list xs)⟩ aJ) p λj a xs vs k L p=>call_enumerate_list L.list λh' a1 a2 a3 a4=>aT (VQ a1 ?_);have s2:=bo.gK (l:=W.l) s1.2 a4 s1'.toks;have f0:s1'.heap.get? s1'.heap.objs.size=none:=d3 _;have f1:s1'.heap.get? (s1'.heap.objs.size+1)=none:=qS (gh _);exact(q.at_ s1).1 s2 (OH C.aZ (j:=j) (IJ _)) ⟨⟨_,⟨a,L.1,rfl⟩,a2⟩,_,a1⟩ (Aa ⟨f1,k7 s1.2 f1⟩ ⟨f0,k7 s1.2 f0⟩) p
end
section
open PyProof.Rows PySem.Calls
variable{g:G}
theorem Es{c:cg}{e t:aL}{u:gF}{j:iW}(h:c.rp e u=some t)(f:fits u j=true)(hp:pair j=true):∃es k p,t=.Tuple es k p:=by
 cases u with
 |var i=>cases j<;>first|exact ci f|exact ci hp
 |tup is=>exact fS (C:=λt=>∃es k p,t=.Tuple es k p) h λes _w=>⟨es,_,_,rfl⟩
theorem OI{u:gF}{j:iW}{b:List C}(ao:mz g j)(ae:jy g b):hb g (.for u j b):=λ{W bK st} h{μ σ s K P Q E} C p q=>by
 refine cP h λt aa h=>cP h λi h2 h=>cP h λd h3 h=>lm (C:=λst=>au _ _ (kW st _) _ _ _) h λh4=>?_;rw[arm_exec_For];refine cx (seq (cC ((ao h2).2 (Es aa h4) C.toCx p (Q:=λx s=>au (aD g.prog g.w) W.A (yr (.forLoop t x d [] W.env) W.env) Q E s) ⟨λst w hst fr p=>?_⟩ (q.4.aW C.toCx)) λx aH ak=>?_))
 ·obtain⟨I,hi0,ar,he⟩:=p;exact Ef rfl (Ou ae (Oo aa) h3 w ar he C q (λb ae=>(fr b ae).1) (p:=[]) rfl rfl hst (λb ae=>(fr b ae).2) hi0 (C.toCx.fo st))
 ·rw[(ao h2).1];exact seq (done (cx (dD ak)))
end
section
open PyProof.Rows PySem.Calls
variable{g:G}
inductive ku(c:cg)(sc:j7):Prop
 |mk (kind:sc.kind=.function) (apart:ju sc.names=true) (all:∀p∈sc.names,(p.2=.local/\ sc.names.lookup p.1=some .local) \/(p.2=.free/\ c.names.lookup p.1=some .cell) \/p.2=.globalImplicit)
theorem OJ{c:cg}{sc:j7}(k:sc.kind=.function)(h:CC c sc=true):ku c sc:=⟨k,(bV h).1,λp hp=>
 (BE.mp (l5.mp (bV h).2 p hp)).elim (λq=>(BE.mp q).imp (λq=>⟨eq_of_beq (bV q).1,eq_of_beq (bV q).2⟩) λq=>.inl ⟨eq_of_beq (bV q).1,eq_of_beq (bV q).2⟩) λq=>.inr (.inr (eq_of_beq q))⟩
section
variable{c:cg}{sc:j7}{env:Env}{L:ay}
theorem ku.Ac(h:ku c sc):∀x∈sc.names,x.2≠.cell:=λx ak q=>by
 rcases h.3 x ak with⟨a,_⟩|⟨a,_⟩|a<;>exact nomatch q.symm.trans a
theorem ku.locals(h:ku c sc):∀x∈sc.names,x.2=.local->sc.names.lookup x.1=some .local:=λx ak q=>by
 rcases h.3 x ak with⟨_,b⟩|⟨a,_⟩|a
 ·exact b
 ·exact nomatch q.symm.trans a
 ·exact nomatch q.symm.trans a
theorem ku.free(h:ku c sc)(hin:c.inner=none)(V:jT c env L){n:Str}(hn:(n,IK)∈sc.names):env.kindOf n=some .cell:=by
 rw[V.kindOf,hin];rcases h.3 _ hn with⟨a,_⟩|⟨_,b⟩|a
 ·exact nomatch a
 ·exact b
 ·exact nomatch a
theorem Et(hin:c.inner=none)(V:jT c env L)(ok:ku c sc):(relabel sc env).names=zd sc.names:=by
 refine uP λp hp=>?_;obtain⟨n,k⟩:=p;cases k with
 |free=>
  show(if(_&&_&&_)=true then _ else _)=_;rw[V.1,ok.free hin V hp];rfl
 |_=>rfl
noncomputable abbrev Eu(env:Env):Str×gg->List (Str×ay)->Sem (ForInStep (List (Str×ay))):=λp r=>if p.2== .free then(do let a<-IL env p.1;pure (.yield ((p.1,a)::r)))else pure (.yield r)
inductive Cl (env:Env) (ns:List (Str×gg)) (acc cl:List (Str×ay)):Prop
 |mk (eq:(forIn ns acc (Eu env):Sem _)=pure cl) (acc:∀c∈acc,c∈cl) (has:∀n,(n,IK)∈ns-> ∃a,(n,a)∈cl) (sub:∀c∈cl,env.cells.lookup c.1=some c.2) (apart:cl.Pairwise λx y=>x.2≠y.2)
theorem OK(V:jT c env L):∀{ns:List (Str×gg)}{acc:List (Str×ay)},ju ns=true->(∀n,(n,IK)∈ns->env.kindOf n=some .cell)->(∀c∈acc,env.cells.lookup c.1=some c.2)->(∀c∈acc,∀p∈ns,p.1≠c.1)->(acc.Pairwise λx y=>x.2≠y.2)-> ∃cl,Cl env ns acc cl:=by
 intro ns
 induction ns with
 |nil=>intro acc _ _ aa _ h3;exact⟨acc,rfl,λ_w h=>h,λ_w h=>absurd h el,aa,h3⟩
 |cons p ns ih=>
  intro acc aM hf aa h2 h3;obtain⟨n,k⟩:=p;obtain⟨a1,a2⟩:=zX aM;have hf':=λm hm=>hf m (.tail _ hm);have tK:=λc hc p hp=>h2 c hc p (.tail _ hp);cases k with
  |free=>
   obtain⟨a,e⟩:=V.8 n (hf n (.head _));obtain⟨cl,H⟩:=ih (acc:=(n,a)::acc) a2 hf' (c1.mpr ⟨e,aa⟩) (c1.mpr ⟨a1,tK⟩) (VR.mpr ⟨λc hc q=>h2 c hc _ (.head _) (VF V.9 (jJ e) (show(c.1,a)∈env.cells from(show a=c.2 from q)▸jJ (aa c hc))),h3⟩);refine⟨cl,?_,λc hc=>H.2 c (.tail _ hc),λm hm=>?_,H.4,H.5⟩
   ·rw[<-H.1,oG];have e1:Eu env (n,.free) acc=pure (.yield ((n,a)::acc)):=by
     show(IL env n>>=λa=>pure (qW ((n,a)::acc)))=_;unfold IL;rw[e];rfl
    rw[e1];rfl
   ·cases hm with
    |head=>exact⟨a,H.2 _ (.head _)⟩
    |tail _ hm=>exact H.3 m hm
  |_=>
   obtain⟨cl,H⟩:=ih a2 hf' aa tK h3;refine⟨cl,(oG ..).trans H.1,H.2,λm hm=>?_,H.4,H.5⟩;cases hm with
   |tail _ hm=>exact H.3 m hm
theorem OL(hin:c.inner=none)(V:jT c env L)(ok:ku c sc):∃cl,Cl env sc.names [] cl/\ VS sc env=pure cl:=
 (OK V ok.2 (λn hn=>ok.free hin V hn) (λ_w h=>absurd h el) (λ_w h=>absurd h el) .nil).imp λcl H=>⟨H,congrArg (· >>=pure) H.1⟩
theorem has_lookup{α:Type}{n:Str}{a:α}{l:List (Str×α)}(h:(n,a)∈l):∃b,l.lookup n=some b:=by
 induction l with
 |nil=>exact absurd h el
 |cons p r ih=>
  rw[BN];cases q:n==p.1 with
  |true=>exact⟨_,rfl⟩
  |false=>exact ih ((gA.mp h).resolve_left λe=>ci (q.symm.trans (by rw[<-e];exact beq_self_eq_true _)))
theorem OM:∀{ns:List (Str×gg)},ju ns=true->ju (zd ns)=true:=by
 intro ns;have fst:∀p:Str×gg,(bif p.2== .free then(p.1,VT)else p).1=p.1:=λp=>by cases p.2== .free<;>rfl
 induction ns with
 |nil=>exact id
 |cons p ns ih=>
  intro h;refine og.mpr ⟨?_,ih (bV h).2⟩;rw[l5];refine xT.mpr λq hq=>?_;rw[fst,fst];exact l5.mp (bV h).1 q hq
theorem Ev{e:aL}{cl:List (Str×ay)}{C:ay}(hin:c.inner=none)(V:jT c env L)(ok:ku c sc)(ar:sc.names=(kn e).names)(H:Cl env sc.names [] cl):jT (c.into e) (pE sc cl C env) L:=.mk
 (ok.1)
 (V.2)
 (V.3)
 (V.4)
 (by rw[show(pE sc cl C env).scope.names=_ from Et hin V ok,ar];rfl)
 (V.6)
 (⟨V.7.1,λns h=>by cases h;exact OM (ar▸ok.2)⟩)
 (λx ak=>by
  have ak:(relabel sc env).names.lookup x=some .cell:=ak
  rw[Et hin V ok]at ak
  obtain⟨p,hp,e⟩:=iS.mp (jJ ak)
  obtain⟨n,k⟩:=p
  cases k with
  |free=>cases e;exact(H.3 _ hp).elim λa h=>has_lookup h
  |cell=>exact absurd rfl (ok.Ac _ hp)
  |_=>cases e)
 (H.5)
end
end
section
open PyProof.Rows PySem.Calls
variable{g:G}
theorem ON{c:cg}{ns:List (Str×gg)}{i:Nat}{x:Str}(hin:c.inner=none)(h:cg.slot {c with inner:=some ns} i=some x)(ao:df 100 i=false):c.slot i=some x/\ ns.lookup x=some .cell:=by
 have h:(bif df 100 i then(ns[i-100]?).bind λp=>bif p.2== .local&&mr p.1 then some p.1 else none else(c.names[i]?).bind λp=>bif p.2== .cell&&ns.lookup p.1==some .cell&&mr p.1 then some p.1 else none)=some x:=h;rw[ao]at h;unfold cg.slot;rw[hin];obtain⟨p,aa,h⟩:=b8 h;obtain⟨h2,rfl⟩:=gN h;obtain⟨h3,h4⟩:=bV h2;obtain⟨h5,h6⟩:=bV h3;refine⟨?_,eq_of_beq h6⟩;rw[aa];show(bif (_||_)&&_ then _ else _)=_;rw[h5,h4,VU];rfl
theorem OO{c:cg}{env:Env}{L:ay}{ρ:aQ}{μ:aO}{h:aK}{sc:j7}{e:aL}{cl:List (Str×ay)}{C:ay}{m:Str->Option Value}(hin:c.inner=none)(V:iF g c env L ρ μ h)(ok:ku c sc)(ar:sc.names=(kn e).names)(H:Cl env sc.names [] cl)(hn:h.Ns C m)(hC:¬cj μ C/\ g.base.get? C=none):
  iF g (c.into e) (pE sc cl C env) L ρ.low μ h:=.mk
 (Ev hin V.1 ok ar H)
 (⟨m,hn⟩)
 (λc hc=>V.3 c (jJ (H.4 c hc)))
 (c1.mpr ⟨hC,xT.mpr λc hc=>V.4 _ (.tail _ (uI (f:=(·.2)) (jJ (H.4 c hc))))⟩)
 (λ{x i v} e1 e2=>by
  have e2:(match df 100 i with|true=>none|false=>ρ i)=some v:=e2
  cases q:df 100 i with
  |true=>rw[q]at e2;exact cU e2
  |false=>
   rw[q]at e2
   obtain⟨aa,h2⟩:=ON hin e1 q
   obtain⟨u,hu,ai⟩:=V.5 aa e2
   have K:=Ev (C:=C) hin V.1 ok ar H
   have az:(pE sc cl C env).kindOf x=some .cell:=by rw[K.kindOf];exact h2
   obtain⟨a,aM⟩:=K.8 x az
   refine⟨u,.inr ⟨.inl az,a,aM,?_⟩,ai⟩
   have ha':env.cells.lookup x=some a:=H.4 _ (jJ aM)
   rcases hu with⟨k,_⟩|⟨_,dL,hc,hcell⟩
   ·obtain⟨p,hp,e⟩:=iS.mp (jJ h2)
    obtain⟨n,k'⟩:=p
    cases k' with
    |free=>cases e;exact nomatch k.symm.trans (ok.free hin V.1 (ar▸hp))
    |cell=>exact absurd rfl (ok.Ac _ (ar▸hp))
    |_=>cases e
   ·cases ha'.symm.trans hc;exact hcell)
section
variable{W:Cfg}{μ aF:aO}{σ σ':ah}{s s':ag}{b:ay}{ρ':aQ}{E:Value->ag->Prop}
theorem Cx.wk(C:Cx g W μ σ s.heap)(t:jc g W b μ s ρ' s' σ'):Cx g (W.to ρ') μ σ' s'.heap:=⟨⟨t.3,t.4,C.dE,C.aZ⟩,t.5,C.lv,C.calls⟩
theorem jc.trans{bL:ag}{tC:aQ}{i8:ah}(t:jc g W b μ s ρ' s' σ')(u:jc g (W.to ρ') b μ s' tC bL i8):jc g W b μ s tC bL i8:=⟨λa o e q=>u.1 a o (t.1 a o e q) q,u.2,u.3,u.4,u.5,by rw[u.6,t.6]⟩
noncomputable abbrev wm(ρ ρ':aQ):Prop:=∀i,df 100 i=false->ρ' i=ρ i
theorem Ew{ρ:aQ}{i:Nat}{v:af}(ao:df 100 i=true):wm ρ (ρ.set i v):=λj a8=>by
 show(match dQ j i with|true=>some v|false=>ρ j)=_;cases q:dQ j i with
 |true=>rw[mW q,ao]at a8;exact vf a8
 |false=>rfl
theorem Ex(hin:W.bQ.inner.isSome=true){x:Str}{i:Nat}{u:Value}{v:af}{Q:Unit->ag->Prop}(ak:W.bQ.slot i=some x)(ao:df 100 i=true)(C:Cx g W μ σ s.heap)(ai:bf g μ s.heap v u)(H:∀{s'},jc g W W.env.locals μ s (W.ρ.set i v) s' σ->Q () s'){p:Pos}:au (aD g.prog g.w) W.A (assign (.Name x p) W.env u) Q E s:=by
 rw[IC];exact cx (aT (tG C ak ai λ_w lo t=>H (lo hin (j9.mp ao)▸t)))
theorem OP{Q:Unit->ag->Prop}:∀{is:List Nat}{W:Cfg}{dg es:List aL}{s:ag}{us:List Value}{xs:List af},W.bQ.inner.isSome=true->W.bQ.row is dg=some es->(is.all λi=>df 100 i)=true->Cx g W μ σ s.heap->bC g μ s.heap xs us->xs.length=is.length->
  (∀{s'},jc g W W.env.locals μ s (fh is xs W.ρ) s' σ->wm W.ρ (fh is xs W.ρ)->Q () s')->au (aD g.prog g.w) W.A (sO ((mh es W.env).map (·.2)) us) Q E s:=by
 intro is
 induction is with
 |nil=>
  intro W dg es s us xs _ h _ C ai hl H;cases h;cases xs with
  |nil=>cases ai;exact done (H ⟨λ_w _w e _w=>e,C.env.live _ (.head _),C.sim,C.iH,C.env,rfl⟩ λ_w _w=>rfl)
  |cons=>exact absurd hl (fL _)
 |cons i is ih=>
  intro W dg es s us xs hin h aZ C ai hl H;cases xs with
  |nil=>exact absurd hl.symm (fL _)
  |cons x xs=>
  obtain⟨u,us,rfl,h3,h4⟩:=ai;refine cP h λy hy h=>fS (C:=λes=>au _ _ (sO ((mh es _).map _) _) _ _ _) h λr hr=>?_;show au _ _ (hJ us (assign (.Name y _) W.env u)>>=λ_w=>sO ((mh r W.env).map (·.2)) us) _ _ _;refine dD (Ex hin hy (bV aZ).1 C h3 λ{s'} t=>ih (W:=W.to (W.ρ.set i x)) hin hr (bV aZ).2 (C.wk t) (h4.ext (t.iD.ext (Z:=[]) λb ae=>C.env.rA b (bW.mp ae▸.head _))) (fx hl) λ{s2} t2 bS=>H (t.trans t2) λj a8=>(bS j a8).trans (Ew (v:=x) (bV aZ).1 j a8))
theorem OQ(hin:W.bQ.inner.isSome=true){u:gF}{ck e:aL}{v:Value}{x:af}{F:aQ->Ask}{Q:Unit->ag->Prop}(h:W.bQ.rp ck u=some e)(aZ:high u=true)(C:Cx g W μ σ s.heap)(ai:bf g μ s.heap x v)(p:(iX u x W.ρ F).P)
  (H:∀{s' ρ'},jc g W W.env.locals μ s ρ' s' σ->wm W.ρ ρ'->(F ρ').P->Q () s'):au (aD g.prog g.w) W.A (assign e W.env v) Q E s:=by
 cases u with
 |var i=>exact fS (C:=λe=>au _ _ (assign e _ _) _ _ _) h λy hy=>Ex hin hy aZ C ai λt=>H t (Ew aZ) p
 |tup is=>
  refine fS (C:=λe=>au _ _ (assign e _ _) _ _ _) h λes aa=>?_;have t1:=(D3 (g:=g) (λa aM=>(iS.mp aM).elim λi q=>q.2▸wc i) (Ei aa)).1;rw[cF]at t1;cases x with
  |tup xs=>
   have p:Ask.P (.g4 (g8 is xs) (F (fh is xs W.ρ)) .no):=p;cases e:g8 is xs with
   |true=>
    rw[e]at p;have hl:=tH e;obtain⟨a,us,rfl,⟨ht,hd⟩,hvs⟩:=ai;rw[VG];refine cx ?_;unfold unpack;rw[show(mh es W.env).length=us.toArray.size from t1.1.trans (hl.symm.trans hvs.length.symm),t1.2];refine seq (hold (aT (PyProof.Rows.unpackItems_tuple C.aZ ht λh' y=>?_)));have k:∀b o,s.heap.get? b=some o->h'.get? b=some o:=λb o e=>y b o (λq=>none_of e (q▸d3 _)) e;have s1:=bo.gK (l:=W.l) C.sim k s.toks;exact OP hin aa aZ (C.at_ s1) (hvs.ext (s1.1.ext .nil)) hl λt lo=>H ⟨λa o e q=>t.1 a o (k a o e) q,t.2,t.3,t.4,t.5,t.6⟩ lo p
   |false=>rw[e]at p;exact p.elim
  |_=>exact p.elim
noncomputable abbrev rL(env:Env)(cs:List aL)(b:Bool):Sem Bool:=forIn cs b λc r=>if r=true then do let ok<-l1 c env (bY c env);pure (qW ok)else pure (qW r)
theorem OR{A:bA}{env:Env}{Q:Bool->ag->Prop}:∀{cs:List aL},Q false s->au (aD g.prog g.w) A (rL env cs false) Q E s:=by
 intro cs h
 induction cs with
 |nil=>exact done h
 |cons c cs ih=>
  unfold rL;rw[oG];exact seq (gn rfl (done ih))
theorem OS{Q:Bool->ag->Prop}{qa qb:bt}{P:cq}:∀{gs:List X},(∀a∈gs,bn g a)-> ∀{dg es:List aL},eM W.bQ gs dg=some es-> ∀{μ σ s},Cx g W μ σ s.heap->(oW (TT W.n) gs qa qb P [] W.ρ σ).P->iG g W.l W.L μ s (hU P W.ρ) E->
  (∀{b aF s' σ'},bo g W.l μ s aF s' σ'->(match b with|true=>qa [] W.ρ σ'|false=>qb [] W.ρ σ').P->Q b s')->au (aD g.prog g.w) W.A (rL W.env es true) Q E s:=by
 intro gs
 induction gs with
 |nil=>
  intro _ dg es h μ σ s C p aW H;cases h;exact done (H (b:=true) (.tok C.sim s.toks) p)
 |cons a gs ih=>
  intro dE dg es h μ σ s C p aW H;refine cP h λl aa h=>cP h λr h2 h=>tB (C:=λes=>au _ _ (rL _ es true) _ _ _) h λn=>?_;unfold rL;rw[oG];refine seq (tv rfl (seq (dE a (.head _) (m:=true) aa C p ⟨λ{v x fT s1' aJ} s1 v1 p=>?_⟩ tj aW)));obtain⟨b,rfl,p⟩:=mv p;obtain rfl:=nz.bool v1;refine done ?_;cases v with
  |true=>exact ih (λb ae=>dE b (.tail _ ae)) h2 (C.at_ s1) p (aW.at_ s1) λt p=>H (s1.trans t) p
  |false=>exact OR (H (b:=false) s1 p)
end
end
section
open PyProof.Rows PySem.Calls
variable{g:G}
inductive qi(Z X:List ay)(μ:aO)(h:aK)(aF:aO)(h':aK):Prop
 |mk (pre:μ<+:aF) (keep:∀b o,h.get? b=some o->b∉X-> ¬cj μ b->Kept Z h' b o) (fresh:∀b,cj aF b-> ¬cj μ b->h.get? b=none)
section
variable{Z X Y:List ay}{μ eJ kl:aO}{h aY cA:aK}{σ:ah}
theorem qi.of(x:cH Z Y μ h eJ aY)(k:∀b∈Y,b∈X):qi Z X μ h eJ aY:=⟨x.1,λb o e ae hd=>x.2 b o e (λq=>ae (k b q)) hd,x.4⟩
theorem qi.lr(x:iJ g Y μ σ h aY)(k:∀b∈Y,b∈X):qi Z X μ h μ aY:=⟨mS _,λb o e ae hd=>.inl (x.1 b o e (λq=>ae (k b q)) hd),λb a q=>absurd a q⟩
theorem cH.on(x:cH Z [] μ h eJ aY)(y:qi Z X eJ aY kl cA)(S:br g kl σ cA)(hX:∀b∈X,h.get? b=none):cH Z [] μ h kl cA:=by
 have iK:∀{b o},h.get? b=some o->b∉X:=λe q=>none_of e (hX _ q);have er:∀{b o},h.get? b=some o-> ¬cj μ b-> ¬cj eJ b:=λe hd q=>none_of e (x.4 _ q hd);refine⟨x.1.trans y.1,λb o e ae hd=>?_,λb o e=>?_,λb a q=>?_⟩
 ·rcases x.2 b o e ae hd with e'|⟨hz,cO,e'⟩
  ·exact y.2 b o e' (iK e) (er e hd)
  ·exact .inr ⟨hz,(y.2 b _ e' (iK e) (er e hd)).as⟩
 ·by_cases q:cj eJ b
  ·exact S.live (q.imp λp z=>⟨y.1.mem z.1,z.2⟩)
  ·exact(x.3 b o e).elim λo' e'=>(y.2 b o' e' (iK e) q).as.imp' _ λ_w e=>e
 ·by_cases q1:cj eJ b
  ·exact x.4 b q1 q
  ·exact x.old (y.3 b a q1)
end
inductive gq (g:G) (W:Cfg) (D:ay) (wr:List ay) (St:Nat->aO->aK->Prop) (ey:aO) (bK:ag) (i:Nat) (acc:List af) (ρ:aQ) (μ:aO) (σ:ah) (s:ag):Prop
 |mk (Ad:Cx g (W.to ρ) μ σ s.heap) (st:St i μ s.heap) (li:∃vs,s.heap.PlainList D vs.toArray/\ bC g μ s.heap acc vs) (er:∀b∈D::wr,¬cj μ b) (iD:cH (frames W.l) [] ey bK.heap μ s.heap) (eq:s={bK with heap:=s.heap,toks:=s.toks})
inductive rM (g:G) (W:Cfg) (t:aL) (a D:ay) (wr:List ay) (its:d6) (St:Nat->aO->aK->Prop) (bK:ag):Prop
 |mk (w:kr g W.A t a wr its St) (new:∀b∈W.env.locals::D::wr,bK.heap.get? b=none/\ b∉frames W.l/\ g.base.get? b=none) (own:∀b∈D::wr,b∉own W.env) (Xv:D∉wr)
section
variable{W:Cfg}{t:aL}{a D:ay}{wr:List ay}{its:d6}{St:Nat->aO->aK->Prop}{ey μ aF:aO}{bK s s':ag}{σ σ':ah}{i:Nat}{acc:List af}{ρ ρ':aQ}
theorem Ey{h:aK}{D:ay}{xs:Array Value}(p:h.PlainList D xs):iC h [D]:=λb ae vs zz=>zz.elim λo zz=>zz.elim λho zz=>zz.elim λhc _w=>by
 obtain⟨n,e⟩:=p;cases(bW.mp ae▸e).symm.trans ho;exact absurd hc (show nc "list"≠.type "tuple" by decide)
theorem gq.Ez(c:gq g W D wr St ey bK i acc ρ μ σ s)(f:rM g W t a D wr its St bK)(x:qi (frames W.l) [W.env.locals] μ s.heap aF s'.heap)(ex:Ext μ s.heap aF s'.heap)(Ad:Cx g (W.to ρ') aF σ' s'.heap)(e:s'={s with heap:=s'.heap,toks:=s'.toks}):gq g W D wr St ey bK i acc ρ' aF σ' s':=by
 have dF:∀b∈D::wr,∀o,s.heap.get? b=some o->s'.heap.get? b=some o:=λb ae o e=>(x.2 b o e (λq=>f.3 b ae (bW.mp q▸.head _)) (c.4 b ae)).elim id λq=>absurd q.1 (f.2 b (.tail _ ae)).2.1;have lv:∀b∈D::wr,∃o,s.heap.get? b=some o:=c1.mpr ⟨c.3.elim λvs q=>q.1.elim λn e=>⟨_,e⟩,λb ae=>(f.1.1 c.2 b ae).imp λo e=>e.1⟩;exact⟨Ad,f.1.2 c.2 ex λb ae=>dF b (.tail _ ae),c.3.imp λvs q=>⟨q.1.imp λn e=>dF D (.head _) _ e,q.2.ext ex⟩,λb ae q=>(lv b ae).elim λo e=>none_of e (x.3 b q (c.4 b ae)),c.5.on x Ad.sim λb ae=>(f.2 b (bW.mp ae▸.head _)).1,by rw[e,c.6]⟩
theorem gq.Ae(c:gq g W D wr St ey bK i acc ρ μ σ s)(f:rM g W t a D wr its St bK)(x:bo g W.l μ s aF s' σ'):gq g W D wr St ey bK i acc ρ aF σ' s':=c.Ez f (.of x.1 λb ae=>nomatch ae) (x.1.ext .nil) (c.1.at_ x) x.3
theorem gq.wk(c:gq g W D wr St ey bK i acc ρ μ σ s)(f:rM g W t a D wr its St bK)(x:jc g (W.to ρ) W.env.locals μ s ρ' s' σ'):gq g W D wr St ey bK i acc ρ' μ σ' s':=c.Ez f (.of x.iD λb ae=>ae) (x.iD.ext (Z:=[]) λb ae=>c.1.env.rA b (bW.mp ae▸.head _)) (c.1.wk x) x.6
theorem gq.near(c:gq g W D wr St ey bK i acc ρ μ σ s)(f:rM g W t a D wr its St bK){X:List ay}(hX:∀b∈X,b∈D::wr){h':aK}(n:iJ g X μ σ s.heap h')(nt:iC s.heap X){St':Nat->aO->aK->Prop}{j:Nat}{acc':List af}(st:St' j μ h')(li:∃vs,h'.PlainList D vs.toArray/\ bC g μ h' acc' vs)(tk:Nat):gq g W D wr St' ey bK j acc' ρ μ σ {s with heap:=h',toks:=tk}:=by
 have C:=c.1;have x:qi (frames W.l) X μ s.heap μ h':=.lr n λb ae=>ae;have ns:∀{L m},L∉X-> ¬cj μ L->s.heap.Ns L m->h'.Ns L m:=λae hd hm=>by
  obtain⟨o,es,ep,ho,r⟩:=hm;exact⟨o,es,ep,n.1 _ o ho ae hd,r⟩
 have no:∀{b},b∈own W.env->b∉X:=λae q=>f.3 _ (hX _ q) ae;refine⟨⟨⟨n.2,C.iH.move (λL hL m hm=>ns (λq=>(f.2 _ (.tail _ (hX _ q))).2.1 hL) ((C.iH.jS hL).elim λ_w y=>y.elim λ_w y=>y.3) hm) λb a q=>absurd a q,C.dE,C.aZ⟩,C.env.move (n.ext nt) (λm hm=>ns (no (.head _)) (C.env.4 _ (.head _)).1 hm) (λdL hc u hu=>?_) λb a q=>absurd a q,C.lv,C.calls⟩,st,li,c.4,c.5.on x n.2 λb ae=>(f.2 b (.tail _ (hX b ae))).1,by rw[c.6]⟩;obtain⟨o,ho,r⟩:=hu;have hm:dL.2∈Mine.Tactic.own W.env:=.tail _ (uI hc);exact⟨o,n.1 _ o ho (no hm) (C.env.4 _ hm).1,r⟩
end
end
section
open PyProof.Rows PySem.Calls
variable{g:G}
theorem EA(elt target iU:aL)(ifs:List aL)(scope:j7)(pos:Pos)(it acc:Value)(env:Env):
  IM (.ListComp elt [⟨target,iU,ifs,0⟩] scope pos) 0 it acc env=(kR iU.pos>>=λ_w=>uV it>>=λr=>match r with
   |none=>pure (.done .next)
   |some v=>BP target it v>>=λ_w=>assign target env v>>=λ_w=>rL env ifs true>>=λok=>if ok=true then((bY elt env>>=λu=>call (.builtin "list.append") [acc,u]>>=λ_w=>pure qV)>>=λ_w=>again (.compLoop (.ListComp elt [⟨target,iU,ifs,0⟩] scope pos) 0 it acc env))
  else again (.compLoop (.ListComp elt [⟨target,iU,ifs,0⟩] scope pos) 0 it acc env)):=rfl
section
variable{W:Cfg}{t:aL}{a D:ay}{wr:List ay}{its:d6}{St:Nat->aO->aK->Prop}{ey μ:aO}{bK s:ag}{σ:ah}{i:Nat}{acc:List af}{ρ ρ':aQ}
theorem gq.low(c:gq g W D wr St ey bK i acc ρ' μ σ s)(lo:wm ρ.low ρ'):gq g W D wr St ey bK i acc ρ.low μ σ s:=
 have V:=c.1.env
 ⟨⟨c.1.toBs,⟨V.1,V.2,V.3,V.4,λ{x j v} e1 e2=>by
  cases q:df 100 j with
  |true=>
   have e2:(match df 100 j with|true=>none|false=>ρ j)=some v:=e2
   rw[q]at e2;exact cU e2
  |false=>exact V.5 e1 ((lo j q).trans e2)⟩,c.1.lv,c.1.calls⟩,c.2,c.3,c.4,c.5,c.6⟩
theorem OT(f:rM g W t a D wr its St bK)(hin:W.bQ.inner.isSome=true){u:gF}{ck OU l it:aL}{OV fs:List aL}{gs:List X}{x:X}(aa:W.bQ.rp ck u=some t)(aZ:high u=true)(cK:∀a∈gs,bn g a)(h2:eM W.bQ gs OV=some fs)(aM:bn g x)(h3:re W.bQ x OU=some l)
  {I:List af->List af->ah->Prop}{F:List af->ah->Ask}{R:jG->ag->Prop}{sc:j7}{pos:Pos}
  (ar:∀v r acc σ,I (v::r) acc σ->its.gI σ/\ (iX u v ρ.low λρ'=>oW (TT W.n) gs (cc (TT W.n) x (ri λo σ=>match o with|some u=>acc.length<1000000/\ I r (acc++[u]) σ|none=>I r acc σ) iB) (rj λo σ=>match o with|some u=>acc.length<1000000/\ I r (acc++[u]) σ|none=>I r acc σ) iB [] ρ' σ).P)
  (he:∀acc σ,I [] acc σ->its.gI σ/\ (F acc σ).P)(hR:∀{acc μ σ s},gq g W D wr (λ_w _w _w=>True) ey bK 0 acc ρ.low μ σ s->(F acc σ).P->R (.ok .next) s):
  ∀{r p:List af}{i:Nat}{acc:List af}{μ:aO}{σ:ah}{s:ag},its.vs=p++r->p.length=i->gq g W D wr St ey bK i acc ρ.low μ σ s->I r acc σ->d2 (aD g.prog g.w) W.A (.compLoop (.ListComp l [⟨t,it,fs,0⟩] sc pos) 0 (.ref a) (.ref D) W.env) R s:=by
 have wn:∀{i acc μ σ s},gq g W D wr St ey bK i acc ρ.low μ σ s->its.gI σ->qg g wr its St i μ σ s.heap:=λc q=>⟨c.2,c.1.sim,q,λb ae=>⟨c.4 b (.tail _ ae),(f.2 b (.tail _ (.tail _ ae))).2.2⟩⟩;have walk:∀{i j acc μ σ s h' tk}{St':Nat->aO->aK->Prop},gq g W D wr St ey bK i acc ρ.low μ σ s->iJ g wr μ σ s.heap h'->St' j μ h'->gq g W D wr St' ey bK j acc ρ.low μ σ {s with heap:=h',toks:=tk}:=λ{i j acc μ σ s h' tk St'} c n st=>by
  have nt:=nJ (f.1.1 c.2);exact c.near f (λb ae=>.tail _ ae) n nt st (c.3.imp λvs q=>⟨q.1.imp λm e=>n.1 D _ e f.4 (c.4 D (.head _)),q.2.ext (n.ext nt)⟩) tk
 intro r
 induction r with
 |nil=>
  intro p i acc μ σ s hr hl c ao;have hp:=he acc σ ao;rw[<-hl,<-(dK p),<-hr]at c;refine iZ ?_;rw[q7 rfl];show au _ _ ((IM (.ListComp l [⟨t,it,fs,0⟩] sc pos) 0 (.ref a) (.ref D) W.env).onRaise (λx=>do mf x W.env;oO x)) _ _ _;refine jt ?_;rw[EA];exact cx (seq (aT (f.1.4 (wn c hp.1) λ{h' tk} n=>done (hR (walk c n trivial) hp.2))))
 |cons v r ih=>
  intro p i acc μ σ s hr hl c ao;have hp:=ar v r acc σ ao;have ak:its.vs[i]?=some v:=by rw[hr,<-hl,pt (bI _),oo];rfl
  have hr':its.vs=(p++[v])++r:=by rw[hr];exact VK ..
  have hl':(p++[v]).length=i+1:=by rw[bR,hl];rfl
  refine iZ ?_;rw[q7 rfl];show au _ _ ((IM (.ListComp l [⟨t,it,fs,0⟩] sc pos) 0 (.ref a) (.ref D) W.env).onRaise (λx=>do mf x W.env;oO x)) _ _ _;refine jt ?_;rw[EA];refine cx (seq (aT (f.1.3 ak (wn c hp.1) λ{v' s1} go=>seq (aT (go λ{h' tk} n ai hst=>?_)))));have bM:=walk (tk:=tk) c n hst;refine seq (OQ (W:=W.to ρ.low) hin aa aZ bM.1 ai hp.2 λ{s2 kq} t2 lo p2=>?_);have c2:=bM.wk f t2;refine seq (OS (W:=W.to kq) cK h2 c2.1 p2 ⟨λ_w _w q=>q.elim⟩ λ{b Dq s3 aU} t3 p3=>?_);have c3:=c2.Ae f t3;cases b with
  |false=>exact gn rfl (done ⟨rfl,rfl,ih hr' hl' (c3.low lo) p3⟩)
  |true=>
   refine tv rfl (seq (seq (aM (W:=W.to kq) (m:=false) h3 c3.1 p3 ⟨λ{w y OW s4 c9} Af v4 p4=>?_⟩ ci ⟨λ_w _w q=>q.elim⟩)));have c4:=c3.Ae f Af;obtain⟨vs,di,hvs⟩:=c4.3;have p4:acc.length<1000000/\ I r (acc++[y]) c9:=p4;refine seq (aT (wpAny_list_append_plain (hsz:=by rw[fa,hvs.length];exact aB (dA p4.1) fj) di λh5 pl5 h1=>done (done ⟨rfl,rfl,?_⟩)));have nt:=Ey di;have n5:iJ g [D] OW c9 s4.heap h5:=.keep c4.1.sim (λb o e q=>h1.extBut b o (λz=>q (z▸.head _)) e) nt λb ae=>bW.mp ae▸⟨c4.4 D (.head _),(f.2 D (.tail _ (.head _))).2.2⟩;have ex:=n5.ext nt;exact ih hr' hl' ((c4.near f (λb ae=>bW.mp ae▸.head _) n5 nt (f.1.2 c4.2 ex λb ae o e=>n5.1 b o e (λq=>f.4 (bW.mp q▸ae)) (c4.4 b (.tail _ ae))) ⟨vs++[w],by rw[<-Ip];exact pl5,bC.append (ys:=[y]) ⟨w,[],rfl,v4.ext ex,rfl⟩ (hvs.ext ex)⟩ _).low lo) p4.2
end
end
section
open PyProof.Rows PySem.Calls
variable{g:G}
theorem OX{M:iQ}{A:bA}{c:l0}{Q:kh->ag->Prop}{E:Value->ag->Prop}{s:ag}(hcl:km c=true)(h:d2 M A c (λr s'=>match r with|.ok f=>Q f s'|.error e=>E e s') s):au M A (PySem.run c) Q E s:=by
 intro cB p dm hc;rw[IE];exact h _ p rfl (dm.enter c none p cU) (hc.enter hcl)
theorem OY{α:Type}{M:iQ}{A:bA}{E:Value->ag->Prop}{s:ag}{c:Prop}[Decidable c]{pos:Pos}{k:PUnit->Sem α}{Q:α->ag->Prop}(h:au M A (k ()) Q E s):au M A (if c then(kR pos>>=k)else k ()) Q E s:=by
 by_cases q:c
 ·rw[if_pos q];exact cx h
 ·rw[if_neg q];exact h
section
variable{A:bA}{s:ag}{elt target iU:aL}{ifs:List aL}{scope:j7}{pos:Pos}{acc:Value}{env:Env}
theorem OZ{it:Value}{R:jG->ag->Prop}(h0:d2 (aD g.prog g.w) A (.compLoop (.ListComp elt [⟨target,iU,ifs,0⟩] scope pos) 0 it acc env) R s)
  (h:∀E,au (aD g.prog g.w) A (pD it) (λit' s'=>d2 (aD g.prog g.w) A (.compLoop (.ListComp elt [⟨target,iU,ifs,0⟩] scope pos) 0 it' acc env) R s') E s):
  d2 (aD g.prog g.w) A (.compStart (.ListComp elt [⟨target,iU,ifs,0⟩] scope pos) 0 it acc env) R s:=by
 refine iZ ?_;rw[q7 rfl];show au _ _ ((compStart (.ListComp elt [⟨target,iU,ifs,0⟩] scope pos) 0 it acc env).onRaise (λx=>do mf x env;kR theWindowsPlace)) _ _ s;refine jt ?_;unfold compStart;show au _ _ (ask>>=_) _ _ s;refine seq (aT (UA ?_));split
 ·first
   |exact seq (done (done ⟨rfl,rfl,h0⟩))
   |exact done ⟨rfl,rfl,h0⟩
 ·refine seq (aT (jK ?_));show au _ _ (kR iU.pos>>=_) _ _ s;exact cx (seq (cC (h _) λit' s' h'=>done ⟨rfl,rfl,h'⟩))
noncomputable def compPost(g:G)(A:bA)(E:Value->ag->Prop)(use:Option (Value->Sem Unit))(Q:Value->ag->Prop)(acc:Value)(C:ay)(s':ag):Prop:=
 match use with
 |none=>∃m,s'.heap.Ns C m/\ ∀{h' m'},h'.Ns C m'->hO C s'.heap h'->Q acc {s' with heap:=h'}
 |some u=>au (aD g.prog g.w) A (u acc) (λ_w s''=>∃m,s''.heap.Ns C m/\ ∀{h' m'},h'.Ns C m'->hO C s''.heap h'->Q .none {s'' with heap:=h'}) E s'
noncomputable abbrev EB(g:G)(A:bA)(E:Value->ag->Prop)(use:Option (Value->Sem Unit))(Q:Value->ag->Prop)(acc:Value)(C:ay)(r:jG)(s':ag):Prop:=match r with|.ok _=>compPost g A E use Q acc C s'|.error _=>False
theorem O0{c:cg}{Q E:Value->ag->Prop}{cl:List (Str×ay)}{use:Option (Value->Sem Unit)}{cp:Pos}(ok:ku c scope)(ar:∀env x,BQ iU env x=pure x)(hclos:VS scope env=pure cl)
  (h:au (aD g.prog g.w) A (bY iU env) (λx aH=>au (aD g.prog g.w) A (pD x) (λit bL=>∀{eK m tk},(∀b o,bL.heap.get? b=some o->eK.get? b=some o)->eK.PlainList bL.heap.objs.size #[]->eK.Ns (bL.heap.objs.size+1) m->
   d2 (aD g.prog g.w) A (.compStart (.ListComp elt [⟨target,iU,ifs,0⟩] scope pos) 0 it (.ref bL.heap.objs.size) (pE scope cl (bL.heap.objs.size+1) env)) (EB g A E use Q (.ref bL.heap.objs.size) (bL.heap.objs.size+1)) {bL with heap:=eK,toks:=tk}) E aH) E s):
  au (aD g.prog g.w) A (BR (.ListComp elt [⟨target,iU,ifs,0⟩] scope pos) scope env cp (Bc []) false (bY iU env) use) Q E s:=by
 unfold BR;rw[hclos];refine seq (cC h λx aH aY=>cx ?_);show au _ _ (BQ iU env x>>=_) _ _ _;rw[ar env x];refine seq (done (seq (hold (cC aY λit bL cA=>OY (seq (aT (sG ?_ (by size_fits))))))));refine seq (done (seq (aT (VW ok.Ac (λx ak=>absurd ak el) (λeK hns hsb=>?_) ok.1))));have hz:(bL.heap.push {cls:=.type "list",data:=.seq ([]:List Value).toArray}).objs.size=bL.heap.objs.size+1:=VX ..;have old:∀b o,(bL.heap.push {cls:=.type "list",data:=.seq ([]:List Value).toArray}).get? b=some o->eK.get? b=some o:=λb o e=>hsb.extBut b o (λq=>none_of e (q▸d3 _)) (oj _ e);have di:=old _ _ (gX bL.heap rfl);have Ag:=λ{tk:Nat}=>cA (tk:=tk) (λb o e=>old b o (oj _ e)) ⟨_,di⟩ (hz▸hns);have ai:∀x∈(scope.names.filter λx=>(x.2== .local||x.2== .cell)&&x.1 !=(".0":Str)).reverse,x.2=.local->uK (pE scope cl (bL.heap.objs.size+1) env) x.1=some .local:=λx ak hl=>lookup_relabel_local (ok.locals x (VY.mp (List.mem_reverse.mp ak)).1 hl);rw[hz];refine hold (seq (Ct (hold (OX rfl (zb Ag λr s' hr=>?_)))));cases r with
 |ok f=>
  cases use with
  |none=>
   obtain⟨m,hn,hr⟩:=hr;exact seq (hold (aT (VZ (cenv:=pE scope cl (bL.heap.objs.size+1) env) ok.1 _ s' m ai hn λh' m' hm' hs'=>done (hr hm' hs'))))
  |some u=>
   refine seq (aT (jK (seq (hold (cC hr λ_w s'' hr'=>?_)))));obtain⟨m,hn,hr'⟩:=hr';exact seq (aT (VZ (cenv:=pE scope cl (bL.heap.objs.size+1) env) ok.1 _ s'' m (λx ak hl=>ai x ((lZ.mp ak).elim V0 V3) hl) hn λh' m' hm' hs'=>done (hr' hm' hs')))
 |error x=>exact hr.elim
end
end
section
open PyProof.Rows PySem.Calls
variable{g:G}
inductive O5(g:G)(W:Cfg)(μ:aO)(s:ag)(C:ay)(acc:Value)(y:af)(aF:aO)(s':ag)(σ':ah):Prop
 |mk (Ae:bo g W.l μ s aF s' σ') (Xw:bf g aF s'.heap y acc) (ns:∃m,s'.heap.Ns C m) (new:s.heap.get? C=none) (er:¬cj aF C)
noncomputable def EC(g:G)(x:X)(u:gF)(j:iW)(gs:List X)(W:Cfg)(e:aL):Prop:=∃l t it fs sc pos,e=.ListComp l [⟨t,it,fs,0⟩] sc pos/\ ∀{use μ σ s F P}{Q E:Value->ag->Prop}{cp},Cx g W μ σ s.heap->
 (vw (TT W.n) j (λits σ=>.fin (rh its (λv σ Q=>iX u v W.ρ.low λρ'=>oW (TT W.n) gs (cc (TT W.n) x (ri Q) iB) (rj Q) iB [] ρ' σ) F σ)) P W.ρ σ).P->iG g W.l W.L μ s (hU P W.ρ) E->
 (∀{acc xs C aF s' σ'},O5 g W μ s C acc (.loc σ'.next) aF s' (σ'.push (.list xs))->(F xs σ').P->compPost g W.A E use Q acc C s')->au (aD g.prog g.w) W.A (BR (.ListComp l [⟨t,it,fs,0⟩] sc pos) sc W.env cp (Bc []) false (bY it W.env) use) Q E s
theorem ED{j:iW}{u:gF}{gs:List X}{x:X}(ao:mz g j)(cK:∀a∈gs,bn g a)(aM:bn g x){W:Cfg}{ck e:aL}(h:re W.bQ (.comp x u j gs) ck=some e):EC g x u j gs W e:=by
 refine cP h λl h3 h=>cP h λt aa h=>cP h λit h2 h=>cP h λfs h4 h=>lm (C:=EC g x u j gs W) h λn=>⟨l,t,it,fs,_,_,rfl,λ{use μ σ s F P Q E cp} C p aW post=>?_⟩;obtain⟨n,fR⟩:=bV n;obtain⟨n,n3⟩:=bV n;obtain⟨dv,cS⟩:=bV n;have hin:=Option.isNone_iff_eq_none.mp dv;have ok:=OJ (c:=W.bQ) (sc:=⟨.function,(kn ck).names,false,false,(kn ck).more⟩) rfl cS;obtain⟨cl,H,hcl⟩:=OL hin C.env.1 ok;refine O0 ok (ao h2).1 hcl ((ao h2).2 (Es aa fR) C p ⟨λ{a its wr St fT s1 aJ} st w hst fr p=>λ{eK m tk} k di hn=>?_⟩ aW);obtain⟨I,h0,ar,he⟩:=p;have S1:=st.2;have fD:s1.heap.get? s1.heap.objs.size=none:=d3 _;have fC:s1.heap.get? (s1.heap.objs.size+1)=none:=qS (gh _);have st3:=bo.gK (l:=W.l) S1 k tk;have C3:=C.at_ (st.trans st3)
 have fresh:∀{b},s.heap.get? b=none->s.heap.get? b=none/\ b∉frames W.l/\ g.base.get? b=none:=λe=>⟨e,C.iH.not e,C.sim.old e⟩;have wl:∀{b c},b∈wr->s1.heap.get? c=none->b≠c:=λae e q=>(w.1 hst _ ae).elim λo ho=>none_of ho.1 (q▸e);have old:∀{b},b∈s1.heap.objs.size::wr->s.heap.get? b=none:=λae=>(gA.mp ae).elim (λq=>q▸st.1.old fD) λae=>(fr _ ae).1;have cf:rM g ⟨W.n,W.A,W.bQ.into ck,pE ⟨.function,(kn ck).names,false,false,(kn ck).more⟩ cl (s1.heap.objs.size+1) W.env,W.l,W.L,W.ρ⟩ t a s1.heap.objs.size wr its St s:=by
  refine⟨w,c1.mpr ⟨fresh (st.1.old fC),λb ae=>fresh (old ae)⟩,λb ae q=>?_,λq=>wl q fD rfl⟩;rcases gA.mp q with rfl|q
  ·exact(gA.mp ae).elim (λq=>IJ _ q) λae=>wl ae fC rfl
  ·obtain⟨c,hc,rfl⟩:=iS.mp q;exact(C.env.live _ (.tail _ (uI (f:=(·.2)) (jJ (H.4 c hc))))).elim λo e=>none_of e (old ae)
 have loop:=OT cf rfl aa n3 cK h4 aM h3 (ρ:=W.ρ) (R:=EB g W.A E use Q (.ref s1.heap.objs.size) (s1.heap.objs.size+1)) (sc:=⟨.function,(kn ck).names,false,false,(kn ck).more⟩) (pos:=ck.pos) (it:=it) ar he (λ{acc ib aC s2} c p=>?_) (p:=[]) (acc:=[]) rfl rfl
  ⟨⟨C3.toBs,OO hin C3.env ok rfl H hn ⟨k7 S1 fC,S1.old fC⟩,C3.lv,C3.calls⟩,w.2 hst (st3.1.ext .nil) λb _w o e=>k b o e,⟨[],di,rfl⟩,c1.mpr ⟨k7 S1 fD,λb ae=>(fr b ae).2⟩,(st.trans st3).1,(st.trans st3).3⟩ h0
 ·exact OZ loop λE=>aT (w.5 (w.2 hst (st3.1.ext .nil) λb _w o e=>k b o e) loop)
 ·obtain⟨vs,di,hvs⟩:=c.3;have S2:=c.1.sim;have oC:=c.1.env.4 _ (.head _);have nt:=Ey di;have nD:=c.4 _ (.head _);have bD:=(cf.2 _ (.tail _ (.head _))).2.2;have jS:∀{b},cj (ib++[(s1.heap.objs.size,s1.heap.objs.size)]) b->cj ib b \/b=s1.heap.objs.size:=λq=>q.elim λr q=>(lZ.mp q.1).imp (λz=>⟨r,z,q.2⟩) λz=>by rw[bW.mp z]at q;exact q.2.elim id id
  have ex:Ext ib s2.heap (ib++[(s1.heap.objs.size,s1.heap.objs.size)]) s2.heap:=⟨Hj _ _,λ{b us} q=>⟨q.1,λz=>(jS z).elim q.2 λz=>nt b (z▸.head _) us q.1⟩⟩;obtain⟨kk,az⟩:=id di;refine post (σ':=aC) (xs:=acc) (aF:=ib++[(s1.heap.objs.size,s1.heap.objs.size)]) ⟨⟨⟨c.5.1.trans (Hj _ _),c.5.2,c.5.3,λb q nq=>(jS q).elim (λq=>c.5.4 b q nq) λq=>q▸st.1.old fD⟩,S2.adopt ex (λ_w _w e=>e) nD nD bD bD ⟨rfl,vs,kk,az,hvs.ext ex⟩,c.6⟩,⟨_,by rw[<-S2.1,pt (bI _),oo];rfl,rfl⟩,c.1.env.2,st.1.old fC,λq=>(jS q).elim oC.1 λq=>IJ _ q⟩ p
theorem bo.near{l:List Env}{μ aF:aO}{s s':ag}{σ':ah}(x:bo g l μ s aF s' σ'){wr:List ay}{h':aK}(n:iJ g wr aF σ' s'.heap h')(fr:∀b∈wr,s.heap.get? b=none):bo g l μ s aF {s' with heap:=h'} σ':=⟨x.1.on (.lr n λ_w h=>h) n.2 fr,n.2,by rw[x.3]⟩
theorem EE{μ:aO}{σ:ah}{h h':aK}{C:ay}{m:Str->Option Value}(S:br g μ σ h)(hm:h.Ns C m)(er:¬cj μ C)(b:g.base.get? C=none)(h1:hO C h h'):iJ g [C] μ σ h h'/\ iC h [C]:=
 have nt:iC h [C]:=λb ae vs=>bW.mp ae▸zn hm vs
 ⟨.keep S (λb o e q=>h1.extBut b o (λz=>q (z▸.head _)) e) nt λc hc=>bW.mp hc▸⟨er,b⟩,nt⟩
theorem O6{j:iW}{u:gF}{gs:List X}{x:X}(ao:mz g j)(cK:∀a∈gs,bn g a)(aM:bn g x):bn g (.comp x u j gs):=by
 intro W ck e h m μ σ s K P st Q E C p q ae aW;obtain⟨l,t,it,fs,sc,pos,rfl,H⟩:=ED ao cK aM h;refine gm (λ_w=>rfl) q ae λ{Q'} q=>?_;rw[arm_eval_ListComp];refine H C p aW λc p=>?_;obtain⟨m,hm⟩:=c.3;refine⟨m,hm,λ{h' m'} hm' h1=>?_⟩;obtain⟨n,nt⟩:=EE c.1.2 hm c.5 (C.sim.old c.4) h1;exact q.1 (c.1.near n λb ae=>bW.mp ae▸c.4) (c.2.ext (n.ext nt)) p
theorem O7{j:iW}{u:gF}{gs:List X}{x:X}{lh:fO}(ao:mz g j)(cK:∀a∈gs,bn g a)(aM:bn g x)(hl:jY g lh):hb g (.assign lh (.comp x u j gs)):=λ{W bK st} h{μ σ s K P Q E} C p q=>by
 refine cP h λt aa h=>cP h λv h2 h=>cP h λsw h3 h=>lm (C:=λst=>au _ _ (kW st _) _ _ _) h λn=>?_;obtain⟨dv,cS⟩:=bV n;rw[ID,D9 C.env.1,tI (eq_of_beq dv),zZ (ow _▸cS)];obtain⟨l,ct,it,fs,sc,pos,rfl,H⟩:=ED ao cK aM h2;refine cx (seq (done (tv rfl (seq ?_))));show au _ _ (BR _ _ _ _ _ _ _ _>>=λ_w=>pure qV) _ _ _;refine seq (H C.toCx p (q.4.aW C.toCx) λ{acc xs D fT s1 aJ} c p=>?_);show au _ _ (assign t W.env acc) _ _ _;have hg:=C.toCx.fo c.1;refine hl aa (C.up c.1) c.2 p ⟨λ{kq ib s2 aC} y p=>?_⟩ (q.at_ hg).4;obtain⟨m,hm⟩:=c.3;have gO:=y.1.ns hm (λq=>(C.env.live _ q).elim λo e=>none_of e c.4) c.5;refine⟨m,gO,λ{h' m'} hm' h1=>?_⟩;obtain⟨n,nt⟩:=EE y.2 gO (λq=>(by obtain⟨o,_,_,ho,_⟩:=hm;exact none_of ho (y.1.4 _ q c.5))) (C.sim.old c.4) h1;exact done (done (q.1.1 ((hg.trans y).near C n nt (λb ae=>bW.mp ae▸c.4) s2.toks) p))
end
section
open PyProof.Rows PySem.Calls
variable{g:G}
inductive FnAt(g:G)(f:Nat)(fn:bB)(c:cg)(fd:j8)(o8 body:List dI):Prop
 |mk (obj:∃o,g.base.get? (g.d1 f)=some o/\ o.data=.func fd) (co:fd.scope.isCoroutine=false) (gen:fd.scope.isGenerator=false) (kind:fd.scope.kind=.function) (wo:fd.body=.stmts body) (EF:fd.closure=[]) (glob:fd.globals=ix) (CS:fd.builtins=pw) (code:g.base.CodeRec fd.code fd.qualname) (inner:c.inner=none) (names:fd.scope.names=c.names) (k8:c.names.length<=100) (apart:ju c.names=true) (par:c.i6 fn.params=some (fd.params.args.map (·.arg))) (bind:∀vals:List Value,vals.length=fn.params.length->iR (aD g.prog g.w) g.base (yw fd ⟨vals,[]⟩) ((fd.params.args.map (·.arg)).zip vals)) (text:jv c fn.body o8=some body)
section
variable{prog:ef}{w:World}{A:bA}{R:jG->ag->Prop}{s:ag}
theorem O8{body:List dI}{env:Env}(h:au (aD prog w) (A.deeper env) (ki body env) (λf s'=>R (.ok (.ret (match f with|.ret v=>v|_=>.none))) s')
   (λe s'=>au (aD prog w) (A.deeper env) (IN env e) (λ_w s''=>R (.error e) s'') (λe' s''=>R (.error e') s'') s') s):d2 (aD prog w) A (.func body env) R s:=by
 refine iZ ?_;show au _ (A.deeper env) (do point;match<-(ki body env).onRaise (IN env)with|.ret v=>ret v|_=>ret .none) _ _ s;refine seq (Cs (seq (jt (mono h (λf s' h'=>?_) λ_w _w h'=>h'))));cases f<;>exact done h'
theorem O9{a:ay}{args:xN}{o:Obj}{fd:j8}{body:List dI}(hroom:A.depth<l2)(ho:s.heap.get? a=some o)
  (hd':o.data=.func fd)(hco:fd.scope.isCoroutine=false)(hgen:fd.scope.isGenerator=false)(wo:fd.body=.stmts body)(hcd:s.heap.CodeRec fd.code fd.qualname)
  (h:au (aD prog w) A.in1 (yw fd args) (λbinds aH=>
   au (aD prog w) A.in1 (newFunctionEnv fd.scope fd.globals fd.closure binds (fd.qualname++".<locals>.") (some a) fd.code none fd.builtins)
    (λenv bL=>bL.heap.NoLimit/\ d2 (aD prog w) A (.func body env) R bL) (λe s'=>R (.error e) s') aH) (λe s'=>R (.error e) s') s):d2 (aD prog w) A (.call (.ref a) args) R s:=by
 refine iZ ?_;show au _ A.in1 (H7 (.ref a) args) _ _ s;show au _ A.in1 (load a>>=λo=>_) _ _ s;refine seq (aT (oK ho ?_));refine ao λG z=>?_;obtain⟨c,oc,vs,tq,hc,hoc,hdc,hq⟩:=hcd;obtain⟨o1,o2,o3,o4⟩:=o;refine z ?_;clear z G;obtain rfl:o3=.func fd:=hd';show au _ A.in1 (V5 a fd args) _ _ s;rw[hc]at h;unfold V5;rw[hco,hgen,wo,hc];refine seq (m:=oP (.ref c) 1) (aT (kg hoc hdc hq (seq (done ?_))));exact seq (cC h λbinds aH aY=>seq (cC aY λenv bL cA=>seq (aT (wpAny_enterFrame cA.1 hroom (done ⟨rfl,rfl,cA.2⟩)))))
end
inductive Ah (names:List (Str×gg)) (acc cl:List (Str×ay)):Prop
 |mk (at_:∀c∈cl,cl.lookup c.1=some c.2) (acc:∀c∈acc,c∈cl) (has:∀x,(x,VT)∈names-> ∃a,(x,a)∈cl)
theorem Pa:∀{names:List (Str×gg)}{n:Nat}{acc:List (Str×ay)},ju names=true->(∀c∈acc,∀p∈names,p.1≠c.1)->(∀c∈acc,acc.lookup c.1=some c.2)->Ah names acc (uX n names acc):=by
 intro names
 induction names with
 |nil=>intro n acc _ _ h;exact⟨h,λ_w h=>h,λ_w h=>absurd h el⟩
 |cons p names ih=>
  intro n acc aM aa h2;obtain⟨a1,a2⟩:=zX aM;have h1':=λc hc p hp=>aa c hc p (.tail _ hp);obtain⟨m,k⟩:=p;cases k with
  |cell=>
   have H:Ah names ((m,n)::acc) (uX n ((m,.cell)::names) acc):=ih (n:=n+1) (acc:=(m,n)::acc) a2 (c1.mpr ⟨a1,h1'⟩) (c1.mpr ⟨IB,λc hc=>by
    rw[BN,beq_eq_false_iff_ne.mpr (sN (aa c hc _ (.head _)))];exact h2 c hc⟩)
   exact⟨H.1,λc hc=>H.2 c (.tail _ hc),λx ak=>by
    cases ak with
    |head=>exact⟨n,H.2 _ (.head _)⟩
    |tail _ ak=>exact H.3 x ak⟩
  |_=>
   have H:=ih (n:=n) a2 h1' h2;exact⟨H.1,H.2,λx ak=>by
    cases ak with
    |tail _ ak=>exact H.3 x ak⟩
noncomputable def EG(g:G)(c:cg)(k:Str->Option gg)(μ:aO)(h:aK)(ρ:aQ)(m cm:Str->Option Value):Prop:=∀{x i v},c.slot i=some x->ρ i=some v-> ∃u,bf g μ h v u/\ ((k x=some .local/\ m x=some u) \/(k x=some .cell/\ cm x=some u))
theorem Pb{c:cg}{k:Str->Option gg}{μ:aO}{h:aK}(az:∀{x i},c.slot i=some x->(k x=some .local \/k x=some .cell)/\ ∀{j},c.slot j=some x->i=j):∀{is:List Nat}{ns:List Str}{us:List Value}{vs:List af}{ρ:aQ}{m cm:Str->Option Value},c.i6 is=some ns->bC g μ h vs us->vs.length=is.length->EG g c k μ h ρ m cm->EG g c k μ h (fh is vs ρ) (bindL k (ns.zip us) m) (bindC k (ns.zip us) cm):=by
 intro is
 induction is with
 |nil=>
  intro ns us vs ρ m cm h _ _ B;cases h;exact B
 |cons i is ih=>
  intro ns us vs ρ m cm h ai hl B;cases vs with
  |nil=>exact absurd hl.symm (fL _)
  |cons v vs=>
  obtain⟨u,us,rfl,aa,h2⟩:=ai;obtain⟨y,hy,h⟩:=b8 h;obtain⟨ns,hr,rfl⟩:=dZ h;refine ih (ρ:=ρ.set i v) hr h2 (fx hl) λ{x j w} ak hw=>?_;rcases zY hw with⟨rfl,rfl⟩|⟨a8,hw⟩
  ·obtain rfl:=cW (ak.symm.trans hy);refine⟨u,aa,(az ak).1.imp (λq=>⟨q,?_⟩) λq=>⟨q,?_⟩⟩
   ·rw[if_pos q];exact if_pos rfl
   ·rw[if_neg (by rw[q];exact nofun)]at ⊢;exact if_pos rfl
  ·have ne:x≠y:=λq=>a8 ((az ak).2 (q▸hy));obtain⟨u',hu,q⟩:=B ak hw;refine⟨u',hu,q.imp (λq=>⟨q.1,?_⟩) λq=>⟨q.1,?_⟩⟩
   ·by_cases z:k y=some .local
    ·rw[if_pos z];exact(if_neg ne).trans q.2
    ·rw[if_neg z];exact q.2
   ·by_cases z:k y=some .local
    ·rw[if_pos z];exact q.2
    ·rw[if_neg z];exact(if_neg ne).trans q.2
end
section
open PyProof.Rows PySem.Calls
variable{g:G}
theorem Pc{c:cg}{i:Nat}{x:Str}(hin:c.inner=none)(h:c.slot i=some x):∃k,(x,k)∈c.names/\ (k=.local \/k=.cell):=by
 cases tF h with
 |flat _ k e az=>exact⟨k,oi e,az⟩
 |high ns h2 _ _=>exact nomatch hin.symm.trans h2
 |low ns h2 _ _ _=>exact nomatch hin.symm.trans h2
theorem EH{c:cg}:∀{is:List Nat}{ns:List Str},c.i6 is=some ns->ns.length=is.length/\ ∀x∈ns,∃i,c.slot i=some x:=by
 intro is
 induction is with
 |nil=>intro ns h;cases h;exact⟨rfl,λ_w h=>absurd h el⟩
 |cons i is ih=>
  intro ns h;obtain⟨y,hy,h⟩:=b8 h;obtain⟨ns,hr,rfl⟩:=dZ h;exact⟨congrArg (· +1) (ih hr).1,c1.mpr ⟨⟨i,hy⟩,(ih hr).2⟩⟩
theorem Pd{n d u:Nat}(aa:d+4*(n+1)+6<l2)(h2:u+60*(n+1)+250<kU):d+1+4*n+8<l2/\ u+3+60*n+300<kU/\ d<l2:=⟨by exact(dP λaq=>bj.go (.c _ (.c _ (.c _ .o))) (.c 1 (.a (.a (.a (.v 0) (.m 4 (.a (.v 1) (.n 1)))) (.n 6)) (.n 1)) (.v 2) (.c 1 (.v 2) (.a (.a (.a (.v 0) (.n 1)) (.m 4 (.v 1))) (.n 8)) .o)) rfl aa aq),by exact(dP λaq=>bj.go (.c _ (.c _ (.c _ .o))) (.c 1 (.a (.a (.a (.v 1) (.m 60 (.a (.v 0) (.n 1)))) (.n 250)) (.n 1)) (.v 2) (.c 1 (.v 2) (.a (.a (.a (.v 1) (.n 3)) (.m 60 (.v 0))) (.n 300)) .o)) rfl h2 aq),by exact(dP λaq=>bj.go (.c _ (.c _ (.c _ .o))) (.c 1 (.a (.a (.a (.v 0) (.m 4 (.a (.v 2) (.n 1)))) (.n 6)) (.n 1)) (.v 1) (.c 1 (.v 1) (.v 0) .o)) rfl aa aq)⟩
theorem Pe(K:c0 g)(hS:∀b,jy g b){f:Nat}{b:bB}{c:cg}{fd:j8}{o8 body:List dI}(D:FnAt g f b c fd o8 body){n:Nat}(hT:vO g n){A:bA}{l:List Env}{L:ay}{μ:aO}{σ:ah}{s:ag}{vs:List Value}{xs:List af}{Q E:Value->ag->Prop}{k:cR}{e:kZ}
  (B:Bs g A l μ σ s.heap)(fp:A.depth+4*(n+1)+6<l2)(lu:A.units+60*(n+1)+250<kU)(ai:bC g μ s.heap xs vs)(p:(y7 (TT n) b xs σ k e).P)(q:fi (m:=false) g l μ s (λv σ=>.fin (k v σ)) Q)(aW:iG g l L μ s e E):
  d2 (aD g.prog g.w) A (.call (.ref (g.d1 f)) ⟨vs,[]⟩) (λr s'=>match r with|.ok (.ret v)=>Q v s'|.ok _=>False|.error e=>E e s') s:=by
 refine ao λG z=>?_;obtain⟨o,ho,hd⟩:=D.1;obtain⟨lv1,lv2,lv3⟩:=Pd fp lu;refine z ?_;clear z G;have p:Ask.P (.g4 (g8 b.params xs) (sB (TT n) b.body (g9 k e) (fh b.params xs λ_w=>none) σ) .no):=p;cases hsl:g8 b.params xs with
 |false=>rw[hsl]at p;exact p.elim
 |true=>
 rw[hsl]at p;have hlen:xs.length=b.params.length:=tH hsl;refine O9 lv3 (B.sim.2 _ _ ho) hd D.2 D.3 D.5 (D.9.keeps B.sim.2) (aT (((D.15 vs (ai.length.trans hlen)).keeps B.sim.2).here ?_));rw[D.6];have cl:Ah fd.scope.names [] (uX (s.heap.objs.size+1) fd.scope.names []):=Pa (D.11▸D.13) (λ_w h=>absurd h el) λ_w h=>absurd h el;have has:∀{x},fd.scope.names.lookup x=some .cell-> ∃a,(uX (s.heap.objs.size+1) fd.scope.names []).lookup x=some a:=λak=>(cl.3 _ (jJ ak)).elim λa h=>⟨a,cl.1 _ h⟩;have i9:∀{x k},(x,k)∈c.names->c.names.lookup x=some k:=λh=>(Hi.mp h).elim λi h=>(tE D.13 h).1;refine aT (wpAny_newFunctionEnv_cells D.4 (λx ak=>?_) λenv henv aH X=>?_)
 ·obtain⟨i,ao⟩:=(EH D.14).2 x.1 (HS ak).1;obtain⟨k,aa,h2⟩:=Pc D.10 ao;have h3:fd.scope.names.lookup x.1=some k:=(congrArg (·.lookup x.1) D.11).trans (i9 aa);refine h2.imp (λq=>h3.trans (congrArg some q)) λq=>?_;have h3:=h3.trans (congrArg some q);exact⟨h3,(has h3).elim λa h=>by rw[h];rfl⟩
 subst henv;obtain⟨aY,EI,rfl⟩:=X.toInCall.same;have keep:∀b o,s.heap.get? b=some o->aY.get? b=some o:=X.toInCall.keep;refine⟨(K.3.keeps B.sim.2).keeps keep,O8 ?_⟩;generalize henv:newEnv fd.scope s.heap.objs.size fd.globals (uX (s.heap.objs.size+1) fd.scope.names []) (fd.qualname++".<locals>.") (some (g.d1 f)) fd.code none fd.builtins=env at X;have e1:env.locals=s.heap.objs.size:=by rw[<-henv];rfl
 have e2:env.cells=uX (s.heap.objs.size+1) fd.scope.names []:=by rw[<-henv];rfl
 have e3:env.scope=fd.scope:=by rw[<-henv];rfl
 have e6:env.frame=some env.locals:=by rw[<-henv];rfl
 have fr:∀b∈own env,s.heap.get? b=none:=c1.mpr ⟨e1▸d3 _,xT.mpr λc hc=>qS (dA (e1▸X.above c.1 c.2 hc))⟩;have s1:=bo.gK (l:=l) B.sim keep EI;have KK:jT c env env.locals:=⟨e3▸D.4,by rw[<-henv];exact D.7,by rw[<-henv];exact D.8,e6,by rw[e3,D.11,D.10];rfl,D.12,⟨D.13,λns h=>nomatch D.10.symm.trans h⟩,λx ak=>e2▸has (e3▸ak),X.apart⟩;have V:iF g c env env.locals (fh b.params xs λ_w=>none) μ aY:=by
  refine⟨KK,⟨_,X.toInCall.ns⟩,λc hc=>⟨_,X.cell c.1 c.2 (e2▸cl.1 _ (e2▸hc))⟩,λb ae=>⟨k7 B.sim (fr b ae),B.sim.old (fr b ae)⟩,λ{x i v} ak hw=>?_⟩;obtain⟨u,hu,q⟩:=Pb (k:=env.kindOf) (m:=λ_w=>none) (cm:=λ_w=>none) (λh=>⟨(KK.slot h).1.imp id λq=>q.1,(KK.slot h).2⟩) D.14 (ai.ext (s1.1.ext .nil)) hlen (λ_w q=>cU q) ak hw;rcases q with⟨q1,q2⟩|⟨q1,q2⟩
  ·exact⟨u,.inl ⟨q1,_,X.toInCall.ns,q2⟩,hu⟩
  ·obtain⟨a,aM⟩:=KK.8 x q1;exact⟨u,.inr ⟨.inl q1,a,aM,q2▸X.cell x a aM⟩,hu⟩
 have fF:frames (env::l)=env.locals::frames l:=by
  unfold frames;rw[IP,e6]
 have C:fm g ⟨n,A.deeper env,c,env,env::l,env.locals,fh b.params xs λ_w=>none⟩ μ σ aY:=by
  refine⟨⟨⟨s1.2,c1.mpr ⟨⟨by rw[e3,D.4];exact nofun,_,_,e6,X.toInCall.ns,(V.4 _ (.head _)).1,(V.4 _ (.head _)).2⟩,B.iH.iD s1.1⟩,(congrArg (a7 (env::·)) B.dE).trans rfl,B.aZ⟩,V,⟨lv1,lv2⟩,hT⟩,l,rfl,λb ae q=>B.iH.not (fr b q) ae⟩
 have back:∀{ρ' aF s' σ'},dT g ⟨n,A.deeper env,c,env,env::l,env.locals,fh b.params xs λ_w=>none⟩ μ {s with heap:=aY,toks:=EI} ρ' aF s' σ'->bo g l μ s aF s' σ':=λx=>
  ⟨((cH.gK (Z:=frames (env::l)) keep).on (.of x.1 λ_w h=>h) x.2 fr).Cr λb o e ae=>(gA.mp (show b∈env.locals::frames l from fF▸ae)).elim (λq=>none_of e (fr b (q▸.head _))) id,x.2,by rw[x.5]⟩
 refine hS b.body (W:=⟨n,A.deeper env,c,env,env::l,env.locals,fh b.params xs λ_w=>none⟩) D.16 C p ⟨⟨λx p=>q.1 (x:=.none) (back x) rfl p⟩,⟨λ_w p=>p.elim⟩,λx r p=>q.1 (back x) r p,⟨λ{a c ρ' aF s' σ'} x y p=>?_⟩⟩;unfold IN;refine seq (aT (zW x.3 C.dE rfl e6 y x.1.3 λh2 X2 t2=>?_));have x2:=x.x C.sim X2;refine aT (wb (s:={s' with heap:=h2}) (f:=none) x2.3 t2 x2.1.3 λh3 X3 t3=>?_);have x3:=x.x C.sim (X2.trans X3);exact aW.1 (s':={s' with heap:=h3}) (back x3) ((t3.st (L:=L) (.inl rfl)).back s1.1.old) p
theorem Pf(K:c0 g)(hS:∀b,jy g b)(hD:∀f b,fn f=some b-> ∃c fd o8 body,FnAt g f b c fd o8 body):∀n,vO g n:=by
 intro n
 induction n with
 |zero=>exact λ_w _w _w _w p=>p.elim
 |succ n ih=>
  exact λ{f xs vs σ A l L μ s Q E k e} B fp lu ai p q aW=>by
   refine ao λG z=>?_;obtain⟨b,ae,p⟩:=p;obtain⟨c,fd,o8,body,D⟩:=hD f b ae;refine z ?_;clear z G;exact Pe K hS D ih B fp lu ai p q aW
end
section
open PyProof.Rows PySem.Calls
variable{g:G}
inductive EJ(g:G)(c:Nat):Prop
 |mk (ob:∃nm q N bs bm sn sub ab col dd k0 cw cJ k3 k5,g.base.get? (g.iY c)=some (oq nm q (g.iY c) N bs bm true sn sub ab col dd k0 cw cJ k3 k5 "Exception.__new__")/\ bm.contains (.type "BaseException")=true) (keep:jH g.K (.ref (g.iY c))=true)
noncomputable abbrev jz(t:ay):Data:=.fields #[.ref t,.none,.none,.none,.bool false,.none]
noncomputable def Makes(g:G):Prop:=∀{c:Nat}{args:List Value}{A:bA}{s:ag}{Q E:Value->ag->Prop},c<2->args.length=(bif c==0 then 2 else 1)->A.depth+2<l2->(∀b o,g.base.get? b=some o->s.heap.get? b=some o)->
 (∀{h' tk' e oe t},(∀b o,s.heap.get? b=some o->h'.get? b=some o)->s.heap.get? e=none->h'.get? e=some oe->oe.cls=.ref (g.iY c)->oe.data=jz t->Q (.ref e) {s with heap:=h',toks:=tk'})->aN (aD g.prog g.w) A (call (.ref (g.iY c)) args) Q E s
inductive wq (g:G):Prop
 |mk (cls:∀c,c<2->EJ g c) (makes:Makes g)
section
variable{A:bA}{E:Value->ag->Prop}{s:ag}{env:Env}
theorem Pg{e c t0:ay}{oe:Obj}{Q:kh->ag->Prop}(hC:∃nm q N bs bm sn sub ab col dd k0 cw cJ k3 k5,s.heap.get? c=some (oq nm q c N bs bm true sn sub ab col dd k0 cw cJ k3 k5 "Exception.__new__")/\ bm.contains (.type "BaseException")=true)(aZ:A.handled=none)
  (he:s.heap.get? e=some oe)(aa:oe.cls=.ref c)(h2:oe.data=jz t0)(hE:E (.ref e) s):aN (aD g.prog g.w) A (yx env (some (pure (.ref e))) none) Q E s:=by
 refine ao λG z=>?_;obtain⟨nm,q,N,bs,bm,sn,sub,ab,col,dd,k0,cw,cJ,k3,k5,hC,ae⟩:=hC;refine z ?_;clear z G;have hcB:(kT c::bm).contains (.type "BaseException")=true:=by rw[List.contains_cons,ae,VU]
 obtain⟨h,eu,d,t,os⟩:=s;obtain⟨oc,od,odt,osl⟩:=oe;cases aa;cases h2;unfold yx;refine aE (bw ?_)
 repeat (first|with_reducible refine q8 he ?_|with_reducible refine q8 hC ?_|(with_reducible refine IQ hC ?_;rw[hcB])|wp_step)
 exact V6 aZ hE
theorem Ph{x:Sem Value}{Q:kh->ag->Prop}(ak:au (aD g.prog g.w) A x (λv aH=>aN (aD g.prog g.w) A (yx env (some (pure v)) none) Q E aH) E s):au (aD g.prog g.w) A (yx env (some x) none) Q E s:=by
 unfold yx at ak ⊢;exact seq (cC ak λv aH aY=>aT aY)
end
theorem EK{k:Nat}{x:String}(h:rn[k]?=some x):k<2:=(jF.mp h).1
theorem Xx{c:cg}{as:List X}{dg es:List aL}(h:eM c as dg=some es):as.length=es.length:=(tt h).symm
theorem Pi(KK:c0 g)(Xc:wq g){k:Nat}{as:List X}(hl:jW g as):hb g (.raise k as):=λ{W bK st} h{μ σ s K P Q E} C p q=>by
 refine cP h λgx aa h=>cP h λes h2 h=>lm (C:=λst=>au _ _ (kW st _) _ _ _) h λn=>?_;obtain⟨x,ak,hne,aa⟩:=vX aa;have cJ:=EK ak;have X:=Xc.1 k cJ;rw[arm_exec_Raise];refine cx (Ph ?_);show au _ _ (bY (.Call gx es [] _) W.env>>=λv=>kR _>>=λ_w=>pure v) _ _ _;refine seq (Call_ (ti KK C.toCx aa (KK.9 k x ak) (rE hl h2 (.K KK X.2) C.toCx p (q.4.aW C.toCx) λ{vs xs fT s1' aJ} s1 v1 hn p=>?_)) (by obtain⟨y,rfl⟩:=rF aa;rfl));have B:=s1.2.2;refine aT (Xc.2 cJ ((v1.length.trans hn).trans (eq_of_beq n)) (cM (aB (fH (by decide) _) (Nat.add_le_add_right (c8 _ (4*W.n)) 8)) C.lv.1) B λ{h' tk' e oe t} dF new g1 g2 g3=>?_);have s2:=bo.gK (l:=W.l) s1.2 dF tk';refine cx (done (Pg (X.1.imp λnm x=>x.imp λq x=>x.imp λN x=>x.imp λbs x=>x.imp λbm x=>x.imp λsn x=>x.imp λsub x=>x.imp λab x=>x.imp λcol x=>x.imp λdd x=>x.imp λk0 x=>x.imp λcw x=>x.imp λcJ x=>x.imp λk3 x=>x.imp λk5 x=>⟨s2.2.2 _ _ x.1,x.2⟩) C.aZ g1 g2 g3 ?_));exact q.4.1 (C.toCx.fo (s1.trans s2)) ⟨s1.1.old new,.none,⟨oe,_,_,g1,g2,g3,rfl,rfl⟩,.inl rfl⟩ p
end
section
open PyProof.Rows PySem.Calls
variable{g:G}
inductive Hand:List C->Prop
 |ret:Hand [.ret (.lit .none)]
 |set (i:Nat) (b:List UInt8):Hand [.assign (.var i) (.lit (.bytes b))]
theorem Pj{z:List C}(h:hand z=true):Hand z:=by
 cases z with
 |nil=>exact ci h
 |cons c r=>
  cases r with
  |cons d r=>exact ci h
  |nil=>
   cases c with
   |ret a=>
    cases a with
    |lit v=>cases v<;>first|exact .ret|exact ci h
    |_=>exact ci h
   |assign l a=>
    cases l with
    |var i=>
     cases a with
     |lit v=>cases v<;>first|exact .set _ _|exact ci h
     |_=>exact ci h
    |_=>exact ci h
   |_=>exact ci h
section
variable{W:Cfg}{A:bA}{μ:aO}{σ:ah}{s:ag}{P:cq}{Q:kh->ag->Prop}{E E':Value->ag->Prop}
theorem Pk{z:List C}(hz:hand z=true){bK st:List dI}(h:jv W.bQ z bK=some st)(C:fm g W μ σ s.heap)(p:(sB (TT W.n) z P W.ρ σ).P)(q:jX g W μ s P.N P Q E):au (aD g.prog g.w) A (ki st W.env) Q E' s:=by
 cases Pj hz with
 |ret=>
  refine cP h λt aa h=>fS (C:=λst=>au _ _ (ki st _) _ _ _) h λr h2=>?_;cases h2;have p:(P.V .none σ).P:=p;have go:=q.3 (x:=.none) (u:=.none) (.refl C) rfl p;have aa:(bif tf (bK.headD default)then(rq (.lit .none)).bind λv=>(vC v).map λ_w=>.Return none (bK.headD default).pos else(re W.bQ (.lit .none) (gM 0 (bK.headD default))).map λv=>.Return (some v) (bK.headD default).pos)=some t:=aa;rw[yq];cases e:tf (bK.headD default)with
  |true=>
   rw[e]at aa;obtain rfl:=cW aa;rw[BM];exact seq (cx (done (done go)))
  |false=>
   rw[e]at aa;obtain rfl:=cW aa;rw[BM];exact seq (cx (seq (m:=bY _ W.env) (aT (Uf (done (done go))))))
 |set i b=>
  refine cP h λt aa h=>fS (C:=λst=>au _ _ (ki st _) _ _ _) h λr h2=>?_;cases h2;obtain⟨u,hu,aa⟩:=b8 aa;obtain⟨x,ak,rfl⟩:=dZ hu;obtain⟨v,ai,aa⟩:=b8 aa;obtain rfl:=cW ai;obtain⟨sw,hsw,aa⟩:=b8 aa;obtain⟨_,rfl⟩:=gN aa;have p:(P.N (W.ρ.set i (.bytes b)) σ).P:=p;rw[yq,ID];refine seq (cx (seq (m:=Bf _ _ _ _) (done (gn rfl (seq (m:=HF _) ?_)))));unfold HF;refine aT (aE (Uh (bw ?_)));refine seq (m:=uG _ _ _) (done (seq (m:=assign (.Name x _) W.env _) ?_));rw[IC];have s1:bo g W.l μ s μ {s with toks:=s.toks+1} σ:=.tok C.sim _;exact cx (aT (tG (C.up s1).toCx (v:=.bytes b) ak ⟨_,rfl⟩ λae _w t=>done (done (q.1.1 ((C.toCx.fo s1).trans (t.fo ae)) p))))
theorem EL{env:Env}{c:l0}{a:ay}(hcl:km c=true)(h:d2 (aD g.prog g.w) (A.mark (some (.ref a))) c (λr s'=>match r with|.ok f=>Q f s'|.error _=>False) s):au (aD g.prog g.w) A (yr c env (some (.ref a))) Q E s:=by
 unfold yr;refine jt ?_;intro cB p dm hc;rw[IE];exact Hl (λr s' hr=>by cases r<;>first|exact hr|exact hr.elim) (h _ p rfl (dm.enter c (some (.ref a)) p nofun) (hc.enter hcl))
theorem EM{env:Env}{a:ay}{ar:List ExceptHandler}(h:au (aD g.prog g.w) A (V7 (.ref a) env ar) Q (λ_w _w=>False) s):d2 (aD g.prog g.w) A (.handlers (.ref a) ar env) (λr s'=>match r with|.ok f=>Q f s'|.error _=>False) s:=by
 refine iZ ?_;rw[q7 rfl];show au _ _ ((V7 (.ref a) env ar).onRaise (λx=>do mf x env;oO x)>>=λf=>pure (VJ f)) _ _ _;exact seq (jt (mono h (λf s' h'=>done h') λ_w _w x=>x.elim))
end
theorem Pl(KK:c0 g)(Xc:wq g){y z:List C}{k:Nat}(hy:jy g y):hb g (.try y k z):=λ{W bK st} h{μ σ s K P Q E} C p q=>by
 refine cP h λgx e1 h=>cP h λb e2 h=>cP h λd e3 h=>lm (C:=λst=>au _ _ (kW st _) _ _ _) h λhz=>?_;obtain⟨iK,ak,hne,e4⟩:=vX e1;have cJ:=EK ak;rw[arm_exec_Try];refine cx ?_;show au _ _ ((ki b W.env).attempt>>=λr=>match r with
  |.ok .next=>ki [] W.env
  |.ok f=>pure f
  |.error e=>mf e W.env>>=λ_w=>yp e none>>=λ_w=>handleBy e W.env [.ExceptHandler (some gx) none d (mu bK).q]) _ _ _
 refine seq (Ct (hy (P:=⟨K,P.C,P.V,λdL ρ σ=>.cond (dL=k) (sB (TT W.n) z (P.to K) ρ σ)⟩) e2 C p ⟨⟨λx p=>done (q.1.1 x p)⟩,⟨λx p=>done (q.2.1 x p)⟩,λx r p=>done (q.3 x r p),⟨λ{a c ρ' aF s' σ'} x t p=>?_⟩⟩));obtain⟨rfl,p4⟩:=p;obtain⟨outer,hl,_⟩:=C.tail;refine seq (aT (zW x.3 C.dE hl C.env.1.4 t x.1.3 λh2 X2 t2=>?_));have x2:=x.x C.sim X2;refine seq (aT (wb (s:={s' with heap:=h2}) (f:=none) x2.3 t2 x2.1.3 λh3 X3 t3=>?_));have x3:=x.x C.sim (X2.trans X3);have C3:=C.at_ x3
 refine ao λG z=>?_;obtain⟨nm,qn,N,bs,bm,sn,sub,ab,col,dd,k0,cw,k2',k3,k5,hC,ae⟩:=(Xc.1 c cJ).1;obtain⟨_,T,⟨oe,vs,a0,g1,g2,_⟩,_⟩:=id t3;refine z ?_;clear z G;unfold handleBy;refine seq (hold (EL (c:=.handlers (.ref a) [.ExceptHandler (some gx) none [] (mu bK).q] W.env) rfl (EM ?_)));show au _ _ (kR _>>=λ_w=>bY gx W.env>>=λty=>kR _>>=λ_w=>excMatches (.ref a) ty>>=λr=>pure (if r=true then kh.brk else kh.next)) _ _ _;refine cx (seq (ti (W:=W.to ρ') KK C3.toCx e4 (KK.9 c iK ak) (cx (seq (aT (wpAny_excMatches_sub_self (C3.sim.2 _ _ hC) g1 g2 ae ?_))))));refine done (seq (done (gn rfl (seq (hold (EL (c:=.handlers (.ref a) [.ExceptHandler none none d (mu bK).q] W.env) rfl (EM ?_)))))));show au _ _ (kR _>>=λ_w=>yp (.ref a) none>>=λ_w=>ki d W.env) _ _ _;refine cx (seq (aT (wb (s:={s' with heap:=h3}) (f:=none) x3.3 t3 x3.1.3 λh4 X4 Af=>?_)));have x4:=x.x C.sim ((X2.trans X3).trans X4);exact cC (Pk (W:=W.to ρ') (E:=E) hz e3 (C.at_ x4) p4 (q.at_ x4).to) λf s h=>done h
end
section
open PyProof.Rows PySem.Calls
variable{g:G}
theorem qj{as:List X}(h:∀a∈as,bn g a):jW g as:=by
 induction as with
 |nil=>exact vW
 |cons a as ih=>exact tm (h a (.head _)) (ih λb ae=>h b (.tail _ ae))
theorem rN{b:List C}(h:∀c∈b,hb g c):jy g b:=by
 induction b with
 |nil=>exact NY
 |cons a as ih=>exact NZ (h a (.head _)) (ih λb ae=>h b (.tail _ ae))
noncomputable def tL(g:G):Prop:=∀{a b:X},bn g a->bn g b->mz g (.zip a b)
theorem Ai(KK:c0 g)(hz:tL g):∀x:X,bn g x:=
 X.rec (motive_1:=λx=>bn g x) (motive_2:=λj=>mz g j) (motive_3:=λas=>∀a∈as,bn g a)
  Lc Ld (Lf KK) (λ_w _w _w=>Le) (λ_w=>Lg) (λ_w=>Lh) (λ_w _w=>Lk) (λ_w _w=>Ll) (λ_w _w _w=>Lv KK) (λ_w _w _w _w _w=>Lw KK) (λ_w _w _w _w _w _w _w=>Lx KK) (λ_w _w _w=>Li)
  (λ_w _w h=>Lz KK (qj h)) (λ_w _w h=>NQ KK (qj h)) (λ_w _w _w ho h=>NJ KK ho (qj h)) (λ_w=>NN KK) (λ_w _w h=>MY KK (qj h)) (λ_w _w=>LC KK) (λ_w _w=>LJ KK)
  (λ_w _w=>LP) (λ_w _w=>LQ) (λ_w _w _w=>LR) (λ_w h=>LS (qj h)) (λ_w h=>LU (qj h)) (λ_w _w=>Mk KK) (λ_w _w=>Ma) (λ_w _w _w _w aM ao cK=>O6 ao cK aM)
  (λ_w=>Eo) (λ_w=>Ep KK) (λ_w=>Er KK) (λ_w _w=>hz)
  (λ_w h=>absurd h el) (λ_w _w h ih=>c1.mpr ⟨h,ih⟩)
theorem EN(KK:c0 g)(hz:tL g)(j:iW):mz g j:=by
 have X:=Ai KK hz;cases j with
 |seq a=>exact @Eo g a (X a)
 |range a=>exact @Ep g KK a (X a)
 |enum a=>exact @Er g KK a (X a)
 |zip a b=>exact @hz a b (X a) (X b)
theorem Pm(KK:c0 g)(hz:tL g):∀l:fO,jY g l:=
 have X:=Ai KK hz
 fO.rec (motive_1:=λl=>jY g l) (motive_2:=λls=>∀l∈ls,jY g l) wc (λo _w=>N9 KK (X o)) (λo i=>Oa (X o) (X i)) (λ_w=>D4) (λ_w h=>absurd h el) (λ_w _w h ih=>c1.mpr ⟨h,ih⟩)
theorem Pn(KK:c0 g)(hz:tL g)(Xc:wq g):∀b:List C,jy g b:=λb=>
 have X:=Ai KK hz
 have As:=Pm KK hz
 have asg:∀l a,hb g (.assign l a):=λl a=>by
  cases e:zf a with
  |false=>exact Of e (As l) (X a)
  |true=>
   cases a with
   |comp x u j gs=>exact O7 (EN KK hz j) (λa _w=>X a) (X x) (As l)
   |_=>exact ci e
 rN (C.rec_1 (motive_1:=λc=>hb g c) (motive_2:=λb=>∀c∈b,hb g c) (λa=>Og (X a)) asg (λ_w _w a=>Oh (X a)) (λo _w _w a=>Oi KK (X o) (X a)) (λa=>N3 (X a)) (λc _w _w aa h2=>N4 (X c) (rN aa) (rN h2)) (λc _w h=>Ol (X c) (rN h))
  (λ_w j _w h=>OI (EN KK hz j) (rN h)) (λ_w _w=>Pi KK Xc (qj λa _w=>X a)) (λ_w _w _w h _w=>Pl KK Xc (rN h)) N0 pass_S (λ_w h=>absurd h el) (λ_w _w h ih=>c1.mpr ⟨h,ih⟩) b)
end
section
open PyProof.Rows PySem.Calls
variable{g:G}
section
variable{prog:ef}{w:World}{A:bA}{E:Value->ag->Prop}{s:ag}
theorem Po{α:Type}{Q:α->ag->Prop}{c:Bool}{t e:Sem α}(hc:c=false)(h:aN (aD prog w) A e Q E s):aN (aD prog w) A (if c=true then t else e) Q E s:=by subst hc;exact h
theorem Pp{Q:Fin->ag->Prop}(aZ:A.handled=none)(hE:∀h' e,(∀b o,s.heap.get? b=some o->h'.get? b=some o)->(∃o,h'.get? e=some o/\ o.cls=.type "StopIteration")->E (.ref e) {s with heap:=h'}):aN (aD prog w) A Builtin.SmallTypes.stopIteration Q E s:=by
 refine aE (m:=newExc _ _) ?_;refine aE (sG ?_ (by size_fits));refine aE (m:=firstArgMember _ _) (dj (a:=Iy) rfl ?_);refine sG ?_ (by size_fits);exact V6 aZ (hE _ _ (λb o e=>d7 _ b o (d7 _ b o e)) ⟨_,gX _ rfl,rfl⟩)
theorem Pq{it l:ay}{i:Nat}{items:Array Value}{Q:Value->ag->Prop}(aZ:A.handled=none)(hit:s.heap.IsTupleIter it l i)(hl:gW s.heap l items)
  (hQ:∀x,items[i]?=some x-> ∀h',h'.IsTupleIter it l (i+1)->hO it s.heap h'->Q x {s with heap:=h'})
  (hE:items[i]?=none-> ∀h' e,yu it s.heap h'->(∃o,h'.get? e=some o/\ o.cls=.type "StopIteration")->E (.ref e) {s with heap:=h'}):aN (aD prog w) A (Builtin.SmallTypes.nextOf (.ref it)) Q E s:=by
 refine ao λG z=>?_;obtain⟨o,ho,hc,hd⟩:=id hit;obtain⟨ol,hol,_,nl,hdl⟩:=hl;refine z ?_;clear z G;refine aE (Bt (name:=aI "__next__") hit.typeIs V8 (px V8 hit.typeIs F.entry_tuple_iterator_next ?_ (F.args_tuple_iterator_next_1 _)));refine aE (m:=oP (.ref it) 0) (kg ho hd (x:=.ref l) rfl ?_);show aN _ _ (if(kT l==Iy)=true then _ else _) _ _ s;refine Po rfl ?_;refine aE (m:=oP (.ref it) 1) (kg ho hd (x:=.int i 0) rfl ?_);refine aE (m:=seqItems? (.ref l)) (q6 hol hdl ?_);show aN _ _ (match items[i]? with|some x=>_|none=>_) _ _ s;cases ak:items[i]? with
 |some x=>
  refine aE (m:=yy (.ref it) 1 (mU (i+1))) (Iz ho hd (b9 1) (bw ⟨x,rfl,bw (hQ x ak _ ?_ (HW ..))⟩));exact⟨_,uN _ ho (VD (BL hd _)),(Obj.cls_mapFields ..).trans hc,by rw[BL hd];rfl⟩
 |none=>
  refine aE (jK (aE (m:=yy (.ref it) 0 .none) (Iz ho hd (uY 1) (Pp aZ λh' e k he=>hE ak h' e (λb o q e=>k b o (Yz (HW ..) b o q e)) he))))
end
end
section
open PyProof.Rows PySem.Calls
variable{g:G}
section
variable{prog:ef}{w:World}{A:bA}{E:Value->ag->Prop}{s:ag}{z TI TO i1 i2:ay}
theorem Pr{a b:Value}{Q:Fin->ag->Prop}(hz:ng s.heap z TI TO .none)(hTI:gW s.heap TI #[.ref i1,.ref i2])
  (H:∀aY,ng aY z TI TO .ellipsis->hO z s.heap aY->aN (aD prog w) A (Builtin.SmallTypes.nextOf (.ref i1))
   (λv bL=>nh bL.heap TO a b/\ ∀eK,nh eK TO v b->hO TO bL.heap eK->aN (aD prog w) A (Builtin.SmallTypes.nextOf (.ref i2))
    (λv' wt=>nh wt.heap TO v b/\ ∀jA,nh jA TO v v'->hO TO wt.heap jA->ng jA z TI TO .ellipsis/\ ∀qk,ng qk z TI TO (mU jA.objs.size)->hO z (jA.push {cls:=.type "tuple",data:=.seq #[v,v']}) qk->Q (.done (.ret (.ref jA.objs.size))) {wt with heap:=qk})
    (λe s'=>∃f,ng s'.heap z TI TO f/\ ∀h',hO z s'.heap h'->E e {s' with heap:=h'}) {bL with heap:=eK})
   (λe s'=>∃f,ng s'.heap z TI TO f/\ ∀h',hO z s'.heap h'->E e {s' with heap:=h'}) {s with heap:=aY}):aN (aD prog w) A (Builtin.«zip.__next__» ⟨[.ref z],[]⟩) Q E s:=by
 obtain⟨oI,hoI,_,nI,hdI⟩:=hTI;refine aE (m:=oP (.ref z) 2) (kg hz rfl (x:=.bool false) rfl ?_);refine aE (m:=oP (.ref z) 3) (kg hz rfl (x:=.ref TI) rfl ?_);refine aE (q6 hoI hdI ?_);refine aE (m:=Builtin.SmallTypes.ownedTupleIsFree (.ref z)) (aE (m:=oP (.ref z) 0) (kg hz rfl (x:=.none) rfl (bw ?_)));refine aE (jK (aE (m:=oP (.ref z) 4) (kg hz rfl (x:=.ref TO) rfl ?_)));refine aE (m:=yy (.ref z) 0 .ellipsis) (yz hz (uY 4) λaY tM o9=>?_);refine aE ?_;refine aE (aE (IR ?_));have pb:∀{e:Value}{s':ag},(∃f,ng s'.heap z TI TO f/\ ∀h',hO z s'.heap h'->E e {s' with heap:=h'})->aN (aD prog w) A (yy (.ref z) 0 .none) (λ_w s''=>E e s'') E s':=λ⟨f,g,k⟩=>yz g (uY 4) λh' _w ar=>k h' ar;refine aE (m:=Builtin.SmallTypes.nextOf (.ref i1)) (sE (H aY tM o9) (λv bL zz=>zz.elim λhT H=>bw ?_) λe s'=>pb);refine aE (q6 hT rfl ?_);refine aE (V9 hT λeK wu mA=>?_);refine aE (BI (bw ?_));refine aE (aE (IR ?_));refine aE (m:=Builtin.SmallTypes.nextOf (.ref i2)) (sE (H eK wu mA) (λv' wt zz=>zz.elim λhT H=>bw ?_) λe s'=>pb);refine aE (q6 hT rfl ?_);refine aE (V9 hT λjA ww lx=>?_);refine aE (BI (bw (bw ?_)));refine aE (q6 ww rfl ?_);refine aE (Wa ?_ (show 2<=d0 by decide));obtain⟨Ps,H⟩:=H jA ww lx;refine aE (m:=Builtin.SmallTypes.ownedTupleHandOut (.ref z) (.ref jA.objs.size)) ?_;refine aE (yz (oj _ Ps) (uY 4) λXy Pt Pu=>?_);refine yz Pt (G8 (uY 3)) λqk Aj wx=>?_;exact bw (H qk Aj (Pu.trans wx))
end
end
section
open PyProof.Rows PySem.Calls
variable{g:G}
noncomputable def kx(h:aK)(a:ay)(ty:String):Prop:=∃o,h.get? a=some o/\ o.cls=.type ty
noncomputable def wy(z TO i1 i2:ay)(h h':aK):Prop:=∀c o,c≠z->c≠TO->c≠i1->c≠i2->h.get? c=some o->h'.get? c=some o
inductive Pv (z TO i1 i2 bS:ay) (ty:String) (xs:Str) (t:Tok) (k:Nat) (T:ay) (v y:Value) (h h':aK):Prop
 |mk (po:∃a b,nh h' TO a b) (s1:h'.IsStrIter i1 ty xs t (k+1)) (s2:h'.IsTupleIter i2 bS (k+1)) (pr:nh h' T v y) (dF:wy z TO i1 i2 h h')
section
variable{prog:ef}{w:World}{A:bA}{E:Value->ag->Prop}{s:ag}{h h':aK}{a b:ay}{x y:String}
theorem kx.ne(p:kx h a x)(q:kx h b y)(n:x≠y):a≠b:=λe=>p.elim λo p=>q.elim λo' q=>by
 subst e;cases p.1.symm.trans q.1;exact n (Bm (p.2.symm.trans q.2))
theorem Pw{vs:Array Value}(k:∀o,h.get? a=some o->h'.get? a=some o)(t:gW h a vs):gW h' a vs:=t.imp λo q=>⟨k o q.1,q.2⟩
theorem Px{it:ay}{ty:String}{x:Str}{t:Tok}{i:Nat}{Q:Value->ag->Prop}(aZ:A.handled=none)(hty:ty="str_ascii_iterator" \/ty="str_iterator")(hit:s.heap.IsStrIter it ty x t i)
  (hQ:∀c,x.cps[i]?=some c-> ∀h',h'.IsStrIter it ty x t (i+1)->hO it s.heap h'->Q (.str ⟨#[c]⟩ s.toks) {s with heap:=h',toks:=s.toks+1})
  (hE:x.cps[i]?=none-> ∀h' e,yu it s.heap h'->kx h' e "StopIteration"->E (.ref e) {s with heap:=h'}):aN (aD prog w) A (Builtin.SmallTypes.nextOf (.ref it)) Q E s:=by
 cases ak:x.cps[i]? with
 |none=>rcases hty with rfl|rfl;exact wpAny_nextOf_ascii_end aZ hit ak (hE ak);exact wpAny_nextOf_wide_end aZ hit ak (hE ak)
 |some c=>rcases hty with rfl|rfl;exact wpAny_nextOf_ascii_item hit ak (hQ c ak);exact wpAny_nextOf_wide_item hit ak (hQ c ak)
theorem EO{z TI TO i1 i2 bS:ay}{ty:String}{xs:Str}{t:Tok}{k:Nat}{ys:Array Value}{a b:Value}{Q:Option Value->ag->Prop}(aZ:A.handled=none)(hty:ty="str_ascii_iterator" \/ty="str_iterator")(hz:ng s.heap z TI TO .none)(hTI:gW s.heap TI #[.ref i1,.ref i2])(hTO:nh s.heap TO a b)(aa:s.heap.IsStrIter i1 ty xs t k)(h2:s.heap.IsTupleIter i2 bS k)(hl:gW s.heap bS ys)(nl:bS≠TO)
  (hQ:∀c y,xs.cps[k]?=some c->ys[k]?=some y-> ∀h' T,s.heap.get? T=none->ng h' z TI TO (mU T)->(∀cA,hO z h' cA->Pv z TO i1 i2 bS ty xs t k T (.str ⟨#[c]⟩ s.toks) y s.heap cA)->Q (some (.ref T)) {s with heap:=h',toks:=s.toks+1})
  (hE:(xs.cps[k]?=none \/ys[k]?=none)-> ∀h' tk,wy z TO i1 i2 s.heap h'->(∃a b,nh h' TO a b)->Q none {s with heap:=h',toks:=tk}):aN (aD prog w) A (uV (.ref z)) Q E s:=by
 have n0:∀{y:String},y≠"str_ascii_iterator"->y≠"str_iterator"->ty≠y:=λp q=>hty.elim (λe=>e▸p.symm) λe=>e▸q.symm;have tz:kx s.heap z "zip":=⟨_,hz,rfl⟩;have tO:kx s.heap TO "tuple":=⟨_,hTO,rfl⟩;have t1:kx s.heap i1 ty:=aa.imp λo q=>⟨q.1,q.2.1⟩;have t2:kx s.heap i2 "tuple_iterator":=h2.imp λo q=>⟨q.1,q.2.1⟩;have aG:kx s.heap bS "tuple":=hl.imp λo q=>⟨q.1,q.2.1⟩;have Oz:=tO.ne tz (by decide);have lz:=aG.ne tz (by decide);have z1:=t1.ne tz (n0 (by decide) (by decide));have z2:=t2.ne tz (by decide);have O1:=(t1.ne tO (n0 (by decide) (by decide))).symm;have fk:=(t1.ne aG (n0 (by decide) (by decide))).symm;have O2:=tO.ne t2 (by decide);have n12:=t1.ne t2 (n0 (by decide) (by decide));have fin:(xs.cps[k]?=none \/ys[k]?=none)-> ∀{h' e tk},wy z TO i1 i2 s.heap h'->(∃a b,nh h' TO a b)->kx h' e "StopIteration"->aN (aD prog w) A (BJ (.ref e) (.type "StopIteration")>>=λb=>if b=true then pure none else throw (.ref e)) Q E {s with heap:=h',toks:=tk}:=λq h' e tk dF hp he=>
  aE (ya (T:="StopIteration") (b:=true) he isSubtype_stop (bw (hE q _ _ dF hp)))
 refine aE (UY (Bt (name:=aI "__next__") tz Wb (px Wb tz F.entry_zip_next (Pr (a:=a) (b:=b) hz hTI λaY tM o9=>?_) (F.args_zip_next_1 _))));refine Px aZ hty (aa.extBut o9.extBut z1) (λc hc cA Py nK=>⟨nK.extBut _ _ O1 (o9.extBut _ _ Oz hTO),λeK wu mA=>?_⟩) λhn cA e nK he=>⟨_,nK _ _ z1.symm tM,λeK mA=>?_⟩
 ·have k3:∀{c o},c≠z->c≠TO->c≠i1->s.heap.get? c=some o->eK.get? c=some o:=λdN bM c2 e=>mA.extBut _ _ bM (nK.extBut _ _ c2 (o9.extBut _ _ dN e));have z3:ng eK z TI TO .ellipsis:=mA.extBut _ _ Oz.symm (nK.extBut _ _ z1.symm tM);refine Pq aZ (h2.at λo=>k3 z2 O2.symm n12.symm) (Pw (λo=>k3 lz nl fk) hl) (λy hy Ag Pz mB=>⟨mB.extBut _ _ O2 wu,λjA ww lx=>⟨lx.extBut _ _ Oz.symm (mB.extBut _ _ z2.symm z3),λqk Aj wx=>⟨_,rfl,bw ?_⟩⟩⟩) λhn Ag e mB he=>⟨_,mB _ _ z2.symm z3,λjA lx=>?_⟩
  ·have sz:jA.objs.size=s.heap.objs.size:=(lx.1.trans mB.1).trans ((mA.1.trans nK.1).trans o9.1);have Tz:jA.objs.size≠z:=sz▸cn (uW hz);refine hQ c y hc hy qk _ (qS (bb sz.symm)) Aj λcA bL=>?_;have up:∀{c o},c≠z->jA.get? c=some o->cA.get? c=some o:=λdN e=>(wx.trans bL).extBut _ _ dN (oj _ e);exact⟨⟨_,_,up Oz ww⟩,Py.imp λo q=>⟨up z1 (lx.extBut _ _ O1.symm (mB.extBut _ _ n12 (mA.extBut _ _ O1.symm q.1))),q.2⟩,Pz.imp λo q=>⟨up z2 (lx.extBut _ _ O2.symm q.1),q.2⟩,
    (wx.trans bL).extBut _ _ Tz (gX _ rfl),λc o bM c2 c3 c4 e=>up bM (lx.extBut _ _ c2 (mB.extBut _ _ c4 (k3 bM c2 c3 e)))⟩
  ·exact fin (.inr hn) (λc o bM c2 c3 c4 e=>lx.extBut _ _ bM (mB _ _ c4 (k3 bM c2 c3 e))) ⟨_,_,lx.extBut _ _ Oz (mB _ _ O2 wu)⟩ (he.imp λo q=>⟨lx.extBut _ _ (kx.ne he ⟨_,mB _ _ z2.symm z3,rfl⟩ (by decide)) q.1,q.2⟩)
 ·exact fin (.inl hn) (λc o bM c2 c3 c4 e=>mA.extBut _ _ bM (nK _ _ c3 (o9.extBut _ _ bM e))) ⟨_,_,mA.extBut _ _ Oz (nK _ _ O1 (o9.extBut _ _ Oz hTO))⟩ (he.imp λo q=>⟨mA.extBut _ _ (kx.ne he ⟨_,nK _ _ z1.symm tM,rfl⟩ (by decide)) q.1,q.2⟩)
end
end
section
open PyProof.Rows PySem.Calls
variable{g:G}
inductive tN(g:G)(z TI TO i1 i2 bS:ay)(ty st:String)(t:Tok)(ws:List af)(j i:Nat)(μ:aO)(h:aK):Prop
 |mk (zip:ng h z TI TO .none) (Xz:gW h TI #[.ref i1,.ref i2]/\ ¬cj μ TI) (to:μ[j]?=some (TO,TO)) (s1:h.IsStrIter i1 ty (aI st) t i) (s2:h.IsTupleIter i2 bS i) (vs:∃ys:List Value,(gW h bS ys.toArray/\ ¬cj μ bS)/\ bC g μ h ws ys)
noncomputable def rO(st:String)(ws:List af):List af:=(jr st).zipWith (λv w=>.tup [v,w]) ws
theorem PA{st:String}{ws:List af}{ys:List Value}{c:Nat}{y:Value}{P:Prop}(hl:ys.length=ws.length)(aa:(aI st).cps[(rO st ws).length]?=some c)(h2:ys.toArray[(rO st ws).length]?=some y):P:=by
 have a:=bU (BK.mp aa).1 (Array.getElem?_eq_none_iff.mp (z8 st));have b:_<ys.length:=(BK.mp h2).1;unfold rO at a b;rw[II]at a b;exact absurd (Wc.mpr ⟨a,hl▸b⟩) (lV _)
theorem EP{P:ay->Prop}{I J K:ay}(a:P I)(b:P J)(c:P K):∀x∈[I,J,K],P x:=c1.mpr ⟨a,Aa b c⟩
theorem PB:nc "zip"≠.type "tuple":=by decide
theorem PC:nc "tuple_iterator"≠.type "tuple":=by decide
theorem PD{A:bA}(aZ:A.handled=none){z TI TO i1 i2 bS:ay}{es:List aL}{k:Nat}{pos:Pos}{j:Nat}{ws:List af}{st ty:String}{t:Tok}(hty:ty="str_ascii_iterator" \/ty="str_iterator"):
  kr g A (.Tuple es k pos) z [z,i1,i2] ⟨rO st ws,some (j,.box)⟩ (tN g z TI TO i1 i2 bS ty st t ws j):=by
 have lv:∀{i μ h},tN g z TI TO i1 i2 bS ty st t ws j i μ h-> ∀b∈[z,i1,i2],∃o,h.get? b=some o/\ o.cls≠.type "tuple":=λs=>EP ⟨_,s.1,PB⟩ (s.4.imp λo e=>⟨e.1,λq=>by rcases hty with rfl|rfl<;>exact absurd (Bm (e.2.1.symm.trans q)) (by decide)⟩) (s.5.imp λo e=>⟨e.1,λq=>PC (e.2.1.symm.trans q)⟩);have lr:∀{i μ σ h h'},qg g [z,i1,i2] ⟨rO st ws,some (j,.box)⟩ (tN g z TI TO i1 i2 bS ty st t ws j) i μ σ h->wy z TO i1 i2 h h'->(∃a b,nh h' TO a b)->iJ g [z,i1,i2] μ σ h h':=λ{i μ σ h h'} w x p=>by
  have dF:∀b o,h.get? b=some o->b∉[z,i1,i2]->b≠TO->h'.get? b=some o:=λb o e ae n=>x b o (λq=>ae (q▸.head _)) n (λq=>ae (q▸.tail _ (.head _))) (λq=>ae (q▸.tail _ (.tail _ (.head _)))) e;exact⟨λb o e ae hd=>dF b o e ae λq=>hd (q▸.of w.1.3),ah.KL (Ek w.3)▸w.2.turn (o:=.box) w.1.3 (λb o e ae n _w=>dF b o e ae n) (nJ (lv w.1)) (λb ae=>(w.4 b ae).1) (λb ae=>(w.4 b ae).2) ⟨rfl,p⟩⟩
 have pr:∀{i μ σ h},qg g [z,i1,i2] ⟨rO st ws,some (j,.box)⟩ (tN g z TI TO i1 i2 bS ty st t ws j) i μ σ h-> ∃a b,nh h TO a b:=λw=>by
  have ob:=w.2.5 j _ w.1.3;rw[Ek w.3]at ob;exact ob.2
 have nl:∀{i μ h},tN g z TI TO i1 i2 bS ty st t ws j i μ h-> ¬cj μ bS->bS≠TO:=λs n q=>n (q▸.of s.3);refine⟨lv,λs x k=>?_,λ{i x μ σ s R E} ak w H=>?_,λ{μ σ s Q E} w H=>(pr w).elim λa p=>p.elim λb hTO=>w.1.6.elim λys y=>EO aZ hty w.1.1 w.1.2.1 hTO w.1.4 w.1.5 y.1.1 (nl w.1 y.1.2) (λc y' hc hy=>PA y.2.length hc hy) λ_w h' tk kz p=>H (lr w kz p),λs h=>Wd s.1 h⟩
 ·exact⟨k z (.head _) _ s.1,x.2 s.2,vy x.1 s.3,s.4.imp λo q=>⟨k i1 (.tail _ (.head _)) o q.1,q.2⟩,s.5.imp λo q=>⟨k i2 (.tail _ (.tail _ (.head _))) o q.1,q.2⟩,s.6.imp λys q=>⟨x.2 q.1,q.2.ext x⟩⟩
 ·obtain⟨a,b,aM,ae,rfl⟩:=List.getElem?_zipWith_eq_some.mp ak;obtain⟨c,rfl,hc⟩:=El aM;obtain⟨ys,y1,y2⟩:=w.1.6;obtain⟨v,ai,r⟩:=y2.get ae;obtain⟨p1,p2,hTO⟩:=pr w;have ai:ys.toArray[i]?=some v:=(mX ..).trans ai;refine EO aZ hty w.1.1 w.1.2.1 hTO w.1.4 w.1.5 y1.1 (nl w.1 y1.2) (λdL y hc' hy h' T hT a1 Z=>H λK=>wpAny_letOwnedTupleGo_zip a1 λcA z2 s2=>?_) λq h' tk _w _w=>q.elim (λq=>cU (q.symm.trans hc)) λq=>cU (q.symm.trans ai);obtain rfl:=cW (hc.symm.trans hc');obtain rfl:=cW (ai.symm.trans hy);have Z:=Z cA s2;have n:=lr w Z.5 Z.1;have x:=n.ext (nJ (lv w.1));exact K n ⟨T,[_,_],rfl,⟨⟨_,Z.4,rfl,_,rfl⟩,k7 w.2 hT⟩,_,_,rfl,⟨s.toks,congrArg (VM · s.toks) (Em c).symm⟩,_,_,rfl,r.ext x,rfl⟩ ⟨z2,x.2 w.1.2,w.1.3,Z.2,Z.3,ys,x.2 y1,y2.ext x⟩
end
section
open PyProof.Rows PySem.Calls
variable{g:G}
noncomputable abbrev wz(h:aK)(x:Str)(t:Tok):aK:=h.push {cls:=.type (yv x),data:=.fields #[.str x t,.int 0 0]}
noncomputable abbrev wA(h:aK)(x:Str)(t:Tok)(bS:ay):aK:=(wz h x t).push {cls:=.type "tuple_iterator",data:=.fields #[.ref bS,.int 0 0]}
noncomputable abbrev jB(h:aK)(x:Str)(t:Tok)(bS:ay):aK:=(wA h x t bS).push {cls:=.type "tuple",data:=.seq #[.ref h.objs.size,.ref (wz h x t).objs.size]}
noncomputable abbrev rP(h:aK)(x:Str)(t:Tok)(bS:ay):aK:=(jB h x t bS).push {cls:=.type "tuple",data:=.seq #[.none,.none]}
noncomputable abbrev wB(h:aK)(x:Str)(t:Tok)(bS:ay):aK:=(rP h x t bS).push {cls:=.type "zip",data:=.fields #[.none,.bool false,.bool false,.ref (wA h x t bS).objs.size,.ref (jB h x t bS).objs.size]}
set_option maxHeartbeats 2000000 in
theorem PE(x:Str)(t:Tok)(bS:ay)(ys:Array Value):
  Meets (Builtin.«zip.__new__» ⟨[.type "zip",.str x t,.ref bS],[]⟩) (λ_w R s=>s.heap.IsTuple bS ys/\ R (.ok (.ret (.ref (rP s.heap x t bS).objs.size))) {s with heap:=wB s.heap x t bS}):=
 .of_wp λprog w A R s h=>by
  obtain⟨hp,g,d,tk,os⟩:=s;obtain⟨hl2,h⟩:=h;have hsub:=sub_zip;have hL2:aK.IsTuple (ag.heap ⟨hp.push {cls:=.type (yv x),data:=.fields #[.str x t,.int 0 0]},g,d,tk,os⟩) bS ys:=YB hl2 _;wp_walk using VP,VO hL2
  exact⟨_,rfl,h⟩
end
section
open PyProof.Rows PySem.Calls
variable{g:G}
section
variable{prog:ef}{w:World}{A:bA}{E:Value->ag->Prop}{s:ag}{x:Str}{t:Tok}{bS:ay}
theorem PF{ys:Array Value}{Q:Value->ag->Prop}(hl2:gW s.heap bS ys)(h:Q (.ref (rP s.heap x t bS).objs.size) {s with heap:=wB s.heap x t bS}):aN (aD prog w) A (call (.type "zip") [.str x t,.ref bS]) Q E s:=
 callType_new F.called_zip (by decide) (F.typeCall_zip_2 _ _) (F.newCall_zip_2 _ _) (λobj=>F.args_object_init_3 obj _ _) F.entry_zip_new (PE x t bS ys) ⟨hl2,⟨_,gX _ rfl,rfl⟩,h⟩
theorem mC{h:aK}{a:ay}{o:Obj}(e:(h.push o).get? a=none):h.get? a=none:=by
 cases q:h.get? a with
 |none=>rfl
 |some ob=>exact none_of (d7 o a ob q) e
end
theorem EQ:∀{a b:Bool},(!a&&!b)=true->a=false/\ b=false:=by decide
theorem PG(KK:c0 g):tL g:=λ{a b} aM ae{W ck e} h=>by
 refine cP h λgx aa h=>cP h λl h2 h=>cP h λr h3 h=>lm (C:=tJ g (.zip a b) W) h λn=>⟨λ_w _w=>rfl,λ{t μ σ s F P Q E} hp C p q aW=>?_⟩;obtain⟨ts,k,tp,rfl⟩:=hp rfl;refine z9 KK (as:=[a,b]) (tm aM (tm ae vW)) (wj h2 (EQ n).1 (wj h3 (EQ n).2 (es:=[]) rfl)) aa (nm:="zip") (bv:=.type "zip") (by decide+kernel) (by decide+kernel) (by kernel_rfl) nofun C p aW λ{vs xs fT s1' aJ} s1 v1 hn p=>?_;cases xs with
 |nil=>exact absurd hn.symm (fL _)
 |cons x r=>
 cases r with
 |nil=>exact absurd (fx hn).symm (fL _)
 |cons y r=>
 cases r with
 |cons _ _=>exact absurd (fx (fx hn)) (fL _)
 |nil=>
 obtain⟨v,_,rfl,w1,w,_,rfl,w2,rfl⟩:=v1;refine tx (C:=λv=>aN _ _ (call _ [v,_]) _ _ _) w1 (show(Cj x y aJ F).P from p) λst t p=>?_;cases y with
 |tup ys=>
  obtain⟨bS,ws,rfl,ht,hvs⟩:=w2;refine PF ht.1 (aT ?_);have dF:∀b o,s1'.heap.get? b=some o->(wB s1'.heap (aI st) t bS).get? b=some o:=λb o e=>d7 _ b o (d7 _ b o (d7 _ b o (d7 _ b o (d7 _ b o e))));have f1:(wz s1'.heap (aI st) t).get? _=none:=d3 _;have f2:(wA s1'.heap (aI st) t bS).get? _=none:=d3 _;have f3:(jB s1'.heap (aI st) t bS).get? _=none:=d3 _;have f4:(rP s1'.heap (aI st) t bS).get? _=none:=d3 _;have g1:(jB s1'.heap (aI st) t bS).get? s1'.heap.objs.size=some _:=d7 _ _ _ (d7 _ _ _ (gX _ rfl));have g2:(jB s1'.heap (aI st) t bS).get? (wz s1'.heap (aI st) t).objs.size=some _:=d7 _ _ _ (gX _ rfl);have g3:(jB s1'.heap (aI st) t bS).get? (wA s1'.heap (aI st) t bS).objs.size=some _:=gX _ rfl;have eN:(rP s1'.heap (aI st) t bS).get? (jB s1'.heap (aI st) t bS).objs.size=some _:=gX _ rfl;have up:∀{b o},(jB s1'.heap (aI st) t bS).get? b=some o->(wB s1'.heap (aI st) t bS).get? b=some o:=λe=>d7 _ _ _ (d7 _ _ _ e);have o1:=mC f1;have o2:=mC (mC f2);have o3:=mC (mC (mC f3));have o4:=mC (mC (mC (mC f4)));have F:cH (frames W.l) [] fT s1'.heap (fT++[(_,_)]) _:=.alloc dF o3 o3;have x:=F.ext .nil;have s2:bo g W.l fT s1' _ {s1' with heap:=_} (aJ.push .box):=⟨F,s1.2.alloc dF o3 o3 ⟨rfl,.none,.none,d7 _ _ _ eN⟩,rfl⟩;have er:∀{b},s1'.heap.get? b=none->b≠(jB s1'.heap (aI st) t bS).objs.size-> ¬cj (fT++[((jB s1'.heap (aI st) t bS).objs.size,(jB s1'.heap (aI st) t bS).objs.size)]) b:=λe n zz=>zz.elim λq zz=>zz.elim λhq z=>
   (lZ.mp hq).elim (λhq=>k7 s1.2 e ⟨q,hq,z⟩) λhq=>by rw[bW.mp hq]at z;exact z.elim n n
  have n3:∀{b o},(jB s1'.heap (aI st) t bS).get? b=some o->b≠(jB s1'.heap (aI st) t bS).objs.size:=λe q=>none_of e (q▸f3);have fR:(rP s1'.heap (aI st) t bS).objs.size≠(jB s1'.heap (aI st) t bS).objs.size:=λq=>none_of eN (q▸f4);refine Wd (gX _ rfl) ((q.at_ s1).1 s2 (PD C.aZ (En _) (j:=aJ.next)) ⟨gX _ rfl,⟨⟨_,up g3,rfl,_,rfl⟩,er o2 (n3 g3)⟩,?_,⟨_,up g1,rfl,rfl⟩,⟨_,up g2,rfl,rfl⟩,ws,x.2 ht,hvs.ext x⟩ (EP ⟨o4,er o4 fR⟩ ⟨d3 _,er (d3 _) (n3 g1)⟩ ⟨o1,er o1 (n3 g2)⟩) p);rw[<-s1.2.1,pt (bI _),oo];rfl
 |_=>exact p.elim
end
section
open PyProof.Rows PySem.Calls
open Builtin Builtin.ObjectAttr
inductive rQ (bm:List Value):Prop
 |mk (ex:bm.contains (.type "Exception")=true) (Ak:bm.contains (.type "BaseException")=true) (at_:bm.contains (.type "AttributeError")=false) (nm:bm.contains (.type "NameError")=false) (ob:bm.contains (.type "object")=true) (PH:∀self,We self "__setattr__" bm=pure ())
theorem XA{C:ay}{bm:List Value}{B:String}{b:Bool}(h:bm.contains (.type B)=b):(kT C::bm).contains (.type B)=b:=h
section
variable{M:iQ}{A:bA}{E:Value->ag->Prop}{h:aK}{eu:Array yn}{d:Drawn}{t:Nat}{os:xQ}
variable{nm q:Str}{C N:ay}{bs bm:List Value}{hdct:Bool}{sn:List Str}{sub:List Value}{ab:Bool}{col:Option Bool}{dd:Option ay}{k0 cw cJ k3 k5:Option Value}
theorem PI(X:rQ bm){rest:List Value}{Q:Unit->ag->Prop}(hC:h.get? C=some (oq nm q C N bs bm hdct sn sub ab col dd k0 cw cJ k3 k5 "Exception.__new__"))
  (hq:Q () ⟨h,eu,d,t,os⟩):aN M A (qY "Exception.__new__" ⟨.ref C::rest,[]⟩) Q E ⟨h,eu,d,t,os⟩:=wpAny_check_new_subU yA X.1 .base hC hq
end
section
variable{prog:ef}{w:World}{A:bA}{R:jG->ag->Prop}{h:aK}{eu:Array yn}{d:Drawn}{t:Nat}{os:xQ}
variable{nm q:Str}{C N:ay}{bs bm:List Value}{hdct:Bool}{sn:List Str}{sub:List Value}{ab:Bool}{col:Option Bool}{dd:Option ay}{k0 cw cJ k3 k5:Option Value}
theorem PJ(X:rQ bm){rest:List Value}(hC:h.get? C=some (oq nm q C N bs bm hdct sn sub ab col dd k0 cw cJ k3 k5 "Exception.__new__"))
  (hq:R (.ok (.ret (.ref (h.objs.size+1)))) ⟨(h.push {cls:=.type "tuple",data:=.seq rest.toArray}).push
   {cls:=.ref C,data:=.fields #[.ref h.objs.size,.none,.none,.none,.bool false,.none]},eu,d,t,os⟩)(hrest:rest.length<=d0:=by size_fits):
  qP (aD prog w) A (.builtin "Exception.__new__" ⟨.ref C::rest,[]⟩) R ⟨h,eu,d,t,os⟩:=by
 have bB:=yA;have hends:=bB.ends;have hcB:(kT C::bm).contains (.type "Exception")=true:=X.1;have hcA:(kT C::bm).contains (.type "AttributeError")=false:=X.3;have hcN:(kT C::bm).contains (.type "NameError")=false:=X.4;refine codeAny_builtinAt bB.entry ?_;unfold Builtin.«BaseException.__new__»;refine PySem.wpAt_bind ?_;show PySem.wpAt _ _ _ (stack>>=_) _ _ _;refine PySem.wpAt_bind (PySem.wpAt_stack λp below=>PySem.wpAt_of_wpAny ?_);wp_walk;refine PySem.wpAt_of_wpAny ?_;rw[bB.owner]
 repeat (first|with_reducible refine wpAny_madeHere_exc bB.canon hC ?_|with_reducible refine q8 hC ?_|(with_reducible refine IQ hC ?_;first|rw[hcB]at ⊢ |rw[hcA]at ⊢ |rw[hcN]at ⊢)|wp_step)
 show R _ _;rw[VX];exact hq
end
section
variable{prog:ef}{w:World}{A:bA}{E:Value->ag->Prop}{h:aK}{eu:Array yn}{d:Drawn}{t:Nat}{os:xQ}
variable{nm q:Str}{C N fI:ay}{bs bm:List Value}{hdct:Bool}{sn:List Str}{sub:List Value}{ab:Bool}{col:Option Bool}{dd:Option ay}{k0 cw cJ k3 k5:Option Value}
theorem PK(X:rQ bm){rest:List Value}{oI:Obj}{Q:Fin->ag->Prop}
  (hC:h.get? C=some (oq nm q C N bs bm hdct sn sub ab col dd k0 cw cJ k3 k5 "Exception.__new__"))(ao:iR (aD prog w) h (kf (.ref C) "__init__") (some (.ref fI)))
  (hfI:h.get? fI=some oI)(hfc:oI.cls=.type "function")
  (hq:∀h' e,Wf h h' e (.ref C) rest->
   aN (aD prog w) A (call (.ref fI) (.ref e::rest)) (λr s'=>r=.none/\ Q (.done (.ret (.ref e))) s') E ⟨h',eu,d,t,os⟩)(hrest:rest.length<=d0:=by size_fits):
  aN (aD prog w) A (Builtin.«type.__call__» ⟨.ref C::rest,[]⟩) Q E ⟨h,eu,d,t,os⟩:=by
 have bB:=yA
 repeat (first|with_reducible refine q8 hC ?_|with_reducible refine wpAny_madeBy_exc hC ?_|wp_step)
 refine codeAny_call_builtin_code (BF _ bB.quiet) (PI X hC ?_);refine PJ X hC ?_ hrest;show aN _ _ _ _ _ _;have dF:∀b o,h.get? b=some o->((h.push {cls:=.type "tuple",data:=.seq rest.toArray}).push {cls:=.ref C,data:=.fields #[.ref h.objs.size,.none,.none,.none,.bool false,.none]}).get? b=some o:=
  λb o e=>d7 _ b o (d7 _ b o e)
 have PL:=dF _ _ hC;have PM:=dF _ _ hfI;have hget:((h.push {cls:=.type "tuple",data:=.seq rest.toArray}).push
   {cls:=.ref C,data:=.fields #[.ref h.objs.size,.none,.none,.none,.bool false,.none]}).get? (h.objs.size+1)=some
   {cls:=.ref C,data:=.fields #[.ref h.objs.size,.none,.none,.none,.bool false,.none]}:=by heap_get
 have hcC:(kT C::bm).contains (.ref C)=true:=by simp
 unfold BJ
 repeat (first|with_reducible refine q8 hget ?_|(with_reducible refine IQ PL ?_;rw[hcC])|wp_step)
 show aN _ _ (kf (.ref C) _) _ _ _;refine(ao.keeps dF).here ?_;refine oz (aE ?_);unfold Vv;refine aE (sF (T:="function") ⟨_,PM,hfc⟩ ?_);rw[if_pos (by decide)];refine bw (aE (sE (hq _ (h.objs.size+1) ⟨dF,qS (gh _),h.objs.size,hget,qS (bI _),?_⟩) (λr s' hr=>?_) λ_w _w x=>x))
 ·exact d7 _ _ _ (Wg rfl rfl)
 ·obtain⟨rfl,hQ⟩:=hr;wp_walk;exact hQ
theorem PN(X:rQ bm){rest:List Value}{oI:Obj}{Q:Value->ag->Prop}
  (hC:h.get? C=some (oq nm q C N bs bm hdct sn sub ab col dd k0 cw cJ k3 k5 "Exception.__new__"))(ao:iR (aD prog w) h (kf (.ref C) "__init__") (some (.ref fI)))
  (hfI:h.get? fI=some oI)(hfc:oI.cls=.type "function")
  (hq:∀h' e,Wf h h' e (.ref C) rest->
   aN (aD prog w) (A.under (.builtin "type.__call__" ⟨.ref C::rest,[]⟩)) (call (.ref fI) (.ref e::rest)) (λr s'=>r=.none/\ Q (.ref e) s') E ⟨h',eu,d,t,os⟩)(hrest:rest.length<=d0:=by size_fits):
  aN (aD prog w) A (call (.ref C) rest) Q E ⟨h,eu,d,t,os⟩:=by
 have f1:=tc_lookup;have f2:=tc_bind (.ref C);have hT:(⟨h,eu,d,t,os⟩:ag).TypeIs (.ref C) "type":=⟨_,hC,rfl⟩;refine yh (H6 ?_);show aN _ _ (H7 (.ref C) _) _ _ _
 repeat (any_goals (first|assumption|with_reducible refine q8 hC ?_|wp_step))
 refine⟨rfl,?_⟩;refine codeAny_call_builtin_at (BF _ (by decide+kernel)) Vy (wpAny_check_type_call_sub hC (PK (hrest:=hrest) X hC ao hfI hfc λh' e hm=>?_));exact hq h' e hm
end
end
section
open PyProof.Rows PySem.Calls
open Builtin Builtin.ObjectAttr
variable{g:G}
inductive ly(H:aK)(C e:ay)(ns:List Str)(h:aK):Prop
 |mk (keep:∀b o,b≠e->H.get? b=some o->h.get? b=some o) (ob:∃t d,h.get? e=some ⟨.ref C,d,jz t,#[]⟩/\ (d=none \/ ∃dx m,d=some dx/\ H.get? dx=none/\ dx≠e/\ h.Ns1 dx m/\ Within m ns))
inductive wC (g:G) (C:ay) (cd:q9):Prop
 |mk (is:uH g.K C=some cd) (hd:cd.hasDict=true) (PH:∀self,We self "__setattr__" cd.mro=pure ()) (ob:ot g.K C (.type "object")=some true) (zq:eG g.K (.ref C) "__setattr__"=some (some (.builtin "object.__setattr__")))
section
variable{A:bA}{E:Value->ag->Prop}{s:ag}{C x:ay}{name:Str}{v:Value}{cd:q9}{R:jG->ag->Prop}{tk:Tok}
theorem ER(X:g.K.In s.heap)(Z:wC g C cd){ox:Obj}{od:Option Obj}(I:xZ s.heap x ox C od)(hf:eG g.K (.ref C) name=some none)
  (h:aN (aD g.prog g.w) A.in1 (storeInOwnDict (.ref x) (.ref C) (.str name tk) name v false) (λfin s'=>match fin with|.done f=>R (.ok f) s'|.again dL=>dL.quiet=true/\ qP (aD g.prog g.w) A dL R s') (λe s'=>R (.error e) s') s):
  qP (aD g.prog g.w) A (.call (.builtin "object.__setattr__") ⟨[.ref x,.str name tk,v],[]⟩) R s:=by
 have SF:=PySem.F.store_object;refine Wh SF.slot.plain SF.entry (@Vx (aD g.prog g.w) _ _ s "object.__setattr__" "object" "__setattr__" (.ref x) [.str name tk,v] [] _ SF.kind SF.split (I.type.andThen (Wi X Z.4)) (SF.args (.ref x) (.str name tk) v) ?_);have hm:iR (aD g.prog g.w) s.heap (mroOf (.ref C)) cd.mro:=(Bw X Z.1).andThen .now;rw[osa_eq,refuse_eq];refine aE (aE (I.type.here (aE (hm.here ?_))));rw[Z.3];exact bw (aE (I.type.here (aE ((ym X hf).here (aE (m:=storeTaker? none) (bw (a:=none) h))))))
theorem ES{dx:ay}{ns:List Str}{m:Str->Option Value}{Q:PySem.Fin->ag->Prop}(hn:s.heap.Ns1 dx m)(hw:Within m ns)(hsz:(name::ns).length<=d0+1)(hq:∀h' tk',h'.Ns1 dx (λy=>if y=name then some v else m y)->hO dx s.heap h'->Q (.done (.ret .none)) {s with heap:=h',toks:=tk'}):
  aN (aD g.prog g.w) A (storeInDict dx (.str name tk) name v) Q E s:=by
 refine aE (bw (aE (wpAny_nsSet1 hn λh' hn' ar=>?_)));refine ao λG z=>?_;obtain⟨oD,esD,epD,hoD,hdD,hcD⟩:=hn'.count (Within.cons name v hw);refine z ?_;clear z G;exact aE (HR hoD (by rw[hdD];exact UF (aB hcD hsz)) (bw (hq h' _ hn' ar)))
theorem PO(X:g.K.In s.heap)(Z:wC g C cd){H:aK}{ns:List Str}(Y:ly H C x ns s.heap)(hf:eG g.K (.ref C) name=some none)(hsz:(name::ns).length<=d0+1){Q:Unit->ag->Prop}
  (hq:∀h' tk',ly H C x (name::ns) h'->Q () {s with heap:=h',toks:=tk'}):aN (aD g.prog g.w) A (HP (.ref x) name v) Q E s:=by
 obtain⟨aZ,eu,dr,tk0,os⟩:=s;have X:g.K.In aZ:=X;obtain⟨dF,t,d,ak,hd⟩:=Y;have ak:aZ.get? x=some ⟨.ref C,d,jz t,#[]⟩:=ak;have dF:∀b o,b≠x->H.get? b=some o->aZ.get? b=some o:=dF;rcases hd with rfl|⟨dx,m,rfl,hn,ne,hd,hw⟩
 ·refine HQ X (od:=none) ⟨ak,rfl,rfl,trivial⟩ Z.5 (ER (s:=⟨aZ,eu,dr,tk0+1,os⟩) X Z (od:=none) ⟨ak,rfl,rfl,trivial⟩ hf ?_);refine aE (bw (aE (m:=Wj x true) (aE (uM ak (aE ((Bw X Z.1).here ?_))))));rw[Z.2];refine aE (wpAny_alloc' (aE (wpAny_update' (d7 _ _ _ ak) (bw ?_))));have hxs:x≠aZ.objs.size:=bq (uW ak);have g1:((aZ.push {cls:=.type "dict",data:=.dict #[]}).update x λo=>{cls:=o.cls,dict:=some aZ.objs.size,data:=o.data,slots:=o.slots}).get? aZ.objs.size=some {cls:=.type "dict",data:=.dict #[]}:=(Wk _ _ _ _ hxs.symm).trans (Wg rfl rfl);have hd:((aZ.push {cls:=.type "dict",data:=.dict #[]}).update x λo=>{cls:=o.cls,dict:=some aZ.objs.size,data:=o.data,slots:=o.slots}).Ns1 aZ.objs.size (λ_w=>none):=YD ⟨_,#[],_,g1,rfl,λe he=>absurd he (by simp),λ_w=>rfl⟩;have az:∀b o,b≠x->aZ.get? b=some o->((aZ.push {cls:=.type "dict",data:=.dict #[]}).update x λo=>{cls:=o.cls,dict:=some aZ.objs.size,data:=o.data,slots:=o.slots}).get? b=some o:=λb o ae e=>(Wk _ _ _ _ ae).trans (d7 _ _ _ e);have nw:H.get? aZ.objs.size=none:=by
   cases q:H.get? aZ.objs.size with
   |none=>rfl
   |some o=>exact none_of (dF _ o hxs.symm q) (d3 _)
  have hx':((aZ.push {cls:=.type "dict",data:=.dict #[]}).update x λo=>{cls:=o.cls,dict:=some aZ.objs.size,data:=o.data,slots:=o.slots}).get? x=some ⟨.ref C,some aZ.objs.size,jz t,#[]⟩:=uN _ (d7 _ _ _ ak) rfl;exact ES hd .nil (aB (jn (du _)) hsz) λh' tk' hn' ar=>hq h' tk' ⟨λb o ae e=>(ar.2 b (bq (uW (dF b o ae e)))).trans (az b o ae (dF b o ae e)),t,some aZ.objs.size,(ar.2 x hxs).trans hx',.inr ⟨_,_,rfl,nw,hxs.symm,hn',.cons name v λ_w h=>absurd rfl h⟩⟩
 ·have hd:aZ.Ns1 dx m:=hd;obtain⟨o,ho⟩:=id hd;have I:xZ aZ x ⟨.ref C,some dx,jz t,#[]⟩ C (some o):=⟨ak,rfl,rfl,ho.elim λ_w r=>r.elim λ_w r=>r.1⟩;refine HQ X I Z.5 (ER (s:=⟨aZ,eu,dr,tk0+1,os⟩) X Z I hf ?_);refine aE (bw (aE (m:=Wj x true) (aE (uM ak (aE ((Bw X Z.1).here ?_))))));rw[Z.2];refine bw (a:=some dx) (ES hd hw hsz λh' tk' hn' ar=>hq h' tk' ⟨λb o ae e=>(ar.2 b λq=>none_of (q▸e) hn).trans (dF b o ae e),t,some dx,(ar.2 x ne.symm).trans ak,.inr ⟨dx,_,rfl,hn,ne,hn',.cons name v hw⟩⟩)
end
end
section
open PyProof.Rows PySem.Calls
variable{g:G}
noncomputable def wD(cname cZ:Str)(p1 p2 p3 p4 p5 p6 p7 p8 p9 p10:Pos):List dI:=
 [.Expr (.Call (.Attribute (.Name cname p1) "__init__" p2) [.Name "self" p3,.Name "word" p4] [] p5) p6,.Assign [.Attribute (.Name "self" p7) cZ p8] (.Name cZ p9) p10]
inductive wE (g:G) (f:ay) (cname cZ:Str) (bJ:List Str) (fd:j8):Prop
 |mk (ob:∃o,g.base.get? f=some o/\ o.cls=.type "function"/\ o.data=.func fd) (co:fd.scope.isCoroutine=false) (gen:fd.scope.isGenerator=false) (kind:fd.scope.kind=.function) (body:∃p1 p2 p3 p4 p5 p6 p7 p8 p9 p10,fd.body=.stmts (wD cname cZ p1 p2 p3 p4 p5 p6 p7 p8 p9 p10)/\ (p2.endLine==p5.line)=true) (EF:fd.closure=[]) (glob:fd.globals=ix) (CS:fd.builtins=pw) (code:g.base.CodeRec fd.code fd.qualname) (cell:∀x∈fd.scope.names,x.2≠.cell) (loc:∀n∈bJ,fd.scope.names.lookup n=some .local) (gl:fd.scope.names.lookup cname=some .globalImplicit) (bind:∀vals:List Value,vals.length=bJ.length->iR (aD g.prog g.w) g.base (yw fd ⟨vals,[]⟩) (bJ.zip vals)) (self:("self":Str)∈bJ) (word:("word":Str)∈bJ) (at_:cZ∈bJ) (ok:(cname==("__debug__":Str))=false/\ (cZ==("__debug__":Str))=false)
section
variable{A:bA}{E:Value->ag->Prop}{s:ag}
theorem ly.mono{H ET h:aK}{C e:ay}{ns:List Str}(Y:ly ET C e ns h)(k:∀b o,H.get? b=some o->ET.get? b=some o):ly H C e ns h:=
 ⟨λb o ae q=>Y.1 b o ae (k b o q),Y.2.imp λt x=>x.imp λd x=>⟨x.1,x.2.imp id λx=>x.imp λdx x=>x.imp λm x=>⟨x.1,by
  cases q:H.get? dx with
  |none=>rfl
  |some o=>exact none_of (k _ o q) x.2.1,x.2.2⟩⟩⟩
theorem EU(K:c0 g){f e C:ay}{cname cZ:Str}{bJ:List Str}{fd:j8}(I:wE g f cname cZ bJ fd){vals:List Value}{wv av:Value}(hl:vals.length=bJ.length)(aa:(bJ.zip vals).reverse.lookup ("self":Str)=some (.ref e))(h2:(bJ.zip vals).reverse.lookup ("word":Str)=some wv)
  (h3:(bJ.zip vals).reverse.lookup cZ=some av)(hroom:A.depth<l2)(ae:∀b o,g.base.get? b=some o->s.heap.get? b=some o)(he0:g.base.get? e=none){cd:q9}(Z:wC g C cd){ns:List Str}(hf:eG g.K (.ref C) cZ=some none)(hsz:(cZ::ns).length<=d0+1)
  {t:ay}(he:s.heap.get? e=some ⟨.ref C,none,jz t,#[]⟩){c fv:Value}(az:∀h,(∀b o,g.base.get? b=some o->h.get? b=some o)-> ∃k,(k=Hr \/k=Hs \/k=Ht)/\ iR (aD g.prog g.w) h (xO fv) k)
  (hc:g.mg cname=some c \/(g.mg cname=none/\ g.mb cname=some c))
  (hm:∀{A:bA} {aH:ag} {di:Sem Bool} {Q:Value×List Value->ag->Prop} {E:Value->ag->Prop},(∀b o,g.base.get? b=some o->aH.heap.get? b=some o)->Q (fv,[]) {aH with toks:=aH.toks+1}->aN (aD g.prog g.w) A (oM c "__init__" di) Q E aH)
  (run:∀{A':bA} {bL:ag} {Q:Value->ag->Prop} {E:Value->ag->Prop},A'.depth=A.depth+1->(∀b o,g.base.get? b=some o->bL.heap.get? b=some o)->bL.heap.get? e=some ⟨.ref C,none,jz t,#[]⟩->(∀{h' tk'},ly bL.heap C e ns h'->Q .none {bL with heap:=h',toks:=tk'})->aN (aD g.prog g.w) A' (call fv [.ref e,wv]) Q E bL)
  {Q:Value->ag->Prop}(hQ:∀{h' tk'},ly s.heap C e (cZ::ns) h'->Q .none {s with heap:=h',toks:=tk'}):aN (aD g.prog g.w) A (call (.ref f) vals) Q E s:=by
 refine ao λG z=>?_;obtain⟨o,ho,hcls,hd⟩:=I.1;obtain⟨p1,p2,p3,p4,p5,p6,p7,p8,p9,p10,wo,hline⟩:=I.5;refine z ?_;clear z G;refine yh (codeAny_call_function hroom (ae _ _ ho) hd I.2 I.3 wo (I.9.keeps ae) ?_);refine((I.13 vals hl).keeps ae).here ?_;rw[I.6];refine VW I.10 (λx ak=>I.11 _ (HS ak).1) (λaY hns hsb=>?_) I.4;have keep:∀b o,s.heap.get? b=some o->aY.get? b=some o:=λb o e=>hsb.extBut b o (bq (uW e)) (d7 _ _ _ e);have pc:∀b o,g.base.get? b=some o->aY.get? b=some o:=λb o e=>keep b o (ae b o e);refine⟨K.3.keeps pc,codeAny_func ?_⟩;generalize henv:newEnv fd.scope s.heap.objs.size fd.globals [] (fd.qualname++".<locals>.") (some f) fd.code none fd.builtins=env;have e1:env.locals=s.heap.objs.size:=by rw[<-henv];rfl
 have e3:env.scope=fd.scope:=by rw[<-henv];rfl
 have e4:env.globals=ix:=by rw[<-henv];exact I.7
 have e5:env.builtins=pw:=by rw[<-henv];exact I.8
 have hk':env.scope.kind=.function:=e3▸I.4;have kOf:∀n∈bJ,env.kindOf n=some .local:=λn hn=>by unfold uK;rw[e3];exact I.11 n hn
 have kG:env.kindOf cname=some .globalImplicit:=by unfold uK;rw[e3];exact I.12
 have hns:aY.Ns env.locals _:=e1▸hns;have eL:e≠env.locals:=by rw[e1];exact bq (uW he)
 show aN _ _ (ki (_::_) env) _ _ _;rw[yq];refine aE (wpAny_Expr ?_ (by unfold VI;rw[hk'];rfl) rfl)
 ·rw[Vl];have ld:∀{tk:Nat}{Q E:Value->ag->Prop},Q c {s with heap:=aY,toks:=tk}->aN (aD g.prog g.w) (A.deeper env) (bY (.Name cname p1) env) Q E {s with heap:=aY,toks:=tk}:=λq=>Name_function_global hk' kG (hc.elim (λx=>Ud (mg:=g.mg) (by rw[e4];exact K.1.keeps pc) x q) λx=>Ue (mg:=g.mg) (mb:=g.mb) (by rw[e4];exact K.1.keeps pc) x.1 (by rw[e5];exact K.2.keeps pc) x.2 q) I.17.1;refine aE (m:=bY (.Name cname p1) env) (ld (aE (IA ?_)));unfold Vn;rw[show Vm ([aL.Name "self" p3,.Name "word" p4].length+([]:List Keyword).length) (iw p5 (gf [.Name "self" p3,.Name "word" p4] env)) (Hp p5 (Hq [] env))=true from rfl];refine aE (oz (hm pc ?_));refine aE (m:=Vo true (.Name cname p1) env p2 p5) (dj (a:=p5) (if_pos hline) ?_);refine PySem.W.callWith_of (P:=λh=>∀b o,g.base.get? b=some o->h.get? b=some o) rfl az (PySem.Calls.evalArgs_plain ?_);refine PyProof.Rows.spliced_more (xX (xW hk' (kOf _ I.14) hns aa ?_) rfl) rfl;refine PyProof.Rows.spliced_more (xX (xW hk' (kOf _ I.15) hns h2 ?_) rfl) rfl;refine PyProof.Rows.spliced_none ⟨pc,run rfl pc (keep _ _ he) λ{cA XB} Y=>?_⟩;have PQ:∀b o,g.base.get? b=some o->cA.get? b=some o:=λb o q=>Y.1 b o (λz=>none_of q (z▸he0)) (pc b o q);have EV:=hns.at' λo q=>Y.1 _ o eL.symm q;show aN _ _ (ki _ env) _ _ _;rw[yq];refine aE (plainObj_wpAny_Assign_Attribute (xX (xW hk' (kOf _ I.16) EV h3 ?_) I.17.2) rfl);refine xX (xW hk' (kOf _ I.14) EV aa (PO (K.15.keeps PQ) Z Y hf hsz λeK XC Y=>?_)) rfl;exact bw (hQ (Y.mono keep))
end
end
section
open PyProof.Rows PySem.Calls
variable{g:G}
section
variable{A:bA}{E:Value->ag->Prop}{s:ag}{C e t0:ay}
variable{nm q:Str}{N:ay}{bs bm:List Value}{hdct:Bool}{sn:List Str}{sub:List Value}{ab:Bool}{col:Option Bool}{dd:Option ay}{k0 cw cJ k3 k5:Option Value}
theorem PR(hC:s.heap.get? C=some (oq nm q C N bs bm hdct sn sub ab col dd k0 cw cJ k3 k5 "Exception.__new__"))(X:g.K.In s.heap)(ao:ot g.K C (.type "Exception")=some true){oe:Obj}{od:Option Obj}(I:xZ s.heap e oe C od){rest:List Value}{Q:Unit->ag->Prop}(hq:Q () s):aN (aD g.prog g.w) A (qY "Exception.__init__" ⟨.ref e::rest,[]⟩) Q E s:=by
 have bB:=yA;have hshort:=bB.noStar;simp only[qY,bB.initKind,bB.initSplit,bB.initRow];have sub:iR (aD g.prog g.w) s.heap (BJ (.ref e) (.type "Exception")) true:=I.type.andThen (Wi X ao);refine aE (sub.here ?_)
 repeat (first|(with_reducible refine q8 I.at_ ?_;rw[I.cls])|with_reducible refine q8 hC ?_|wp_step)
 refine IR ?_;rw[show∀(a b:String) (n:Nat),Bind.check ⟨.positional,"*","Exception",.self,[⟨"args",.varPos,false⟩]⟩ a b n (yd (λx=>x.fst) ({pos:=kT e::rest}:xN).kw)=pure ()from λa b n=>check_star_args _ _ _ _ _ _];exact bw hq
theorem PS(hC:s.heap.get? C=some (oq nm q C N bs bm hdct sn sub ab col dd k0 cw cJ k3 k5 "Exception.__new__"))(X:g.K.In s.heap)(ao:ot g.K C (.type "Exception")=some true)(he:s.heap.get? e=some ⟨.ref C,none,jz t0,#[]⟩){wv:Value}{ns:List Str}{Q:Value->ag->Prop}
  (hq:∀{h' tk'},ly s.heap C e ns h'->Q .none {s with heap:=h',toks:=tk'}):aN (aD g.prog g.w) A (call (.builtin "Exception.__init__") [.ref e,wv]) Q E s:=by
 have bB:=yA;have I:xZ s.heap e ⟨.ref C,none,jz t0,#[]⟩ C none:=⟨he,rfl,rfl,trivial⟩;refine yh (Wh bB.init.plain bB.initEntry (PR hC X ao I ?_));refine aE (m:=Ho [wv]) (Wa ?_ (show 1<=d0 by decide));have aa:=d7 (h:=s.heap) {cls:=.type "tuple",data:=.seq #[wv]} _ _ he;refine aE (m:=Builtin.BaseException.bexcPut (.ref e) 0 (.ref s.heap.objs.size)) ?_;refine aE (m:=oP (.ref e) 0) ?_;refine kg aa rfl (x:=.ref t0) rfl ?_;refine aE (m:=yy (.ref e) 0 (.ref s.heap.objs.size)) ?_;refine yz aa (uY 5) λh2 g2 s2=>?_;refine BI (bw (hq ⟨λb o ae q=>s2.extBut b o ae (d7 _ b o q),_,none,g2,.inl rfl⟩))
end
end
section
open PyProof.Rows PySem.Calls
variable{g:G}
inductive rR(g:G)(C:ay)(cd:q9)(f:ay):Prop
 |mk (set:wC g C cd) (ex:ot g.K C (.type "Exception")=some true) (word:eG g.K (.ref C) "word"=some none) (bl:eG g.K (.ref C) "__init__"=some (some (.ref f))) (ob:∃nm q N bs bm sn sub ab col dd k0 cw cJ k3 k5,g.base.get? C=some (oq nm q C N bs bm true sn sub ab col dd k0 cw cJ k3 k5 "Exception.__new__")/\ rQ bm)
inductive wF (g:G) (D fD fF:ay) (fd fe:j8) (dN bM:q9):Prop
 |mk (x0:rR g (g.iY 0) dN fF) (hg:rR g (g.iY 1) bM fD) (at_:eG g.K (.ref (g.iY 0)) "at"=some none) (XD:wE g fD "Exception" "word" ["self","word"] fd) (XE:wE g fF "DebugFault" "at" ["self","word","at"] fe) (ge:g.mg "Exception"=none) (ky:g.mb "Exception"=some (.type "Exception")) (jd:g.mg "DebugFault"=some (.ref D)) (XF:qQ g.K (.type "Exception") (.type "type") "__init__"=some (.val (.builtin "Exception.__init__"))) (fp:specialIn g.K (.ref D) "__getattribute__"=some (some (.builtin "type.__getattribute__"))) (lu:Hw g.K D (.type "type")=true) (XG:qQ g.K (.ref D) (.type "type") "__init__"=some (.val (.ref fD))) (keep:jH g.K (.ref fD)=true)
section
variable{A:bA}{E:Value->ag->Prop}{s:ag}{D fD fF e t0:ay}{fd fe:j8}{dN bM cd:q9}
theorem PT{di:Sem Bool}{Q:Value×List Value->ag->Prop}(X:g.K.In s.heap)(e:qQ g.K (.type "Exception") (.type "type") "__init__"=some (.val (.builtin "Exception.__init__")))(h:Q (.builtin "Exception.__init__",[]) {s with toks:=s.toks+1}):aN (aD g.prog g.w) A (oM (.type "Exception") "__init__" di) Q E s:=by
 have L0:iR (aD g.prog g.w) s.heap (oL (.type "Exception")) (.type "type"):=sD (by kernel_rfl);have cK:eG g.K (.type "type") "__getattribute__"=some (some (.builtin "type.__getattribute__")):=type_tga;unfold oM yb;refine aE (aE (L0.here ((ym X cK).here ?_)));refine pA canon_tga ?_;refine aE (sE (Q:=λv=>Q (v,[])) (E:=E) ?_ (λ_w _w z=>bw z) λ_w _w z=>z);exact cls_open X (sD (by unfold Vq;dsimp only;rw[show Vr "Exception"=false by decide+kernel];rfl)) L0 cK (Vs X (r:=none) (by rfl)) (by show subIn g.K _ _=_;rfl) e (bw (by show aN _ _ (handedOut _) _ _ _;rw[handedOut_of rfl];exact bw h))
theorem EW(K:c0 g)(X:wF g D fD fF fd fe dN bM){C f:ay}(Y:rR g C cd f){wv:Value}(ae:∀b o,g.base.get? b=some o->s.heap.get? b=some o)(hroom:A.depth<l2)(he0:g.base.get? e=none)
  (he:s.heap.get? e=some ⟨.ref C,none,jz t0,#[]⟩){Q:Value->ag->Prop}(hQ:∀{h' tk'},ly s.heap C e ["word"] h'->Q .none {s with heap:=h',toks:=tk'}):aN (aD g.prog g.w) A (call (.ref fD) [.ref e,wv]) Q E s:=by
 refine ao λG z=>?_;obtain⟨nm,q,N,bs,bm,sn,sub,ab,col,dd,k0,cw,cJ,k3,k5,hC,_⟩:=Y.5;refine z ?_;clear z G;exact EU K X.4 rfl rfl rfl (av:=wv) rfl hroom ae he0 Y.1 (ns:=[]) Y.3 (by decide) he kp.bi.1 (.inr ⟨X.6,X.7⟩) (λb h=>PT (K.15.keeps b) X.9 h) (λ_w b h q=>PS (b _ _ hC) (K.15.keeps b) Y.2 h q) hQ
theorem PU(K:c0 g)(X:wF g D fD fF fd fe dN bM){wv av:Value}(ae:∀b o,g.base.get? b=some o->s.heap.get? b=some o)(hroom:A.depth+1<l2)(he0:g.base.get? e=none)
  (he:s.heap.get? e=some ⟨.ref (g.iY 0),none,jz t0,#[]⟩){Q:Value->ag->Prop}(hQ:∀{h' tk'},ly s.heap (g.iY 0) e ["at","word"] h'->Q .none {s with heap:=h',toks:=tk'}):aN (aD g.prog g.w) A (call (.ref fF) [.ref e,wv,av]) Q E s:=
 EU K X.5 rfl rfl rfl rfl (Wm hroom) ae he0 X.1.1 X.3 (by decide) he (kp.K K X.13).1 (.inl X.8) (λb h=>method_cls (K.15.keeps b) X.10 (cls_value (K.15.keeps b) X.11 X.12 rfl h)) (λd b h q=>EW K X X.1 b (d▸hroom) he0 h q) hQ
end
end
section
open PyProof.Rows PySem.Calls
variable{g:G}
section
variable{D fD fF:ay}{fd fe:j8}{dN bM cd:q9}
theorem EX(K:c0 g){C f:ay}(Y:rR g C cd f){args:List Value}{A:bA}{s:ag}{Q E:Value->ag->Prop}(hf:∃o,g.base.get? f=some o/\ o.cls=.type "function")(ar:args.length<=d0)(ae:∀b o,g.base.get? b=some o->s.heap.get? b=some o)
  (run:∀{A':bA} {aY:aK} {e t:ay} {Q:Value->ag->Prop},A'.depth=A.depth+1->(∀b o,g.base.get? b=some o->aY.get? b=some o)->g.base.get? e=none->aY.get? e=some ⟨.ref C,none,jz t,#[]⟩->(∀{h' tk' ns},ly aY C e ns h'->Q .none {s with heap:=h',toks:=tk'})->aN (aD g.prog g.w) A' (call (.ref f) (.ref e::args)) Q E {s with heap:=aY})
  (hQ:∀{h' tk' e oe t},(∀b o,s.heap.get? b=some o->h'.get? b=some o)->s.heap.get? e=none->h'.get? e=some oe->oe.cls=.ref C->oe.data=jz t->Q (.ref e) {s with heap:=h',toks:=tk'}):aN (aD g.prog g.w) A (call (.ref C) args) Q E s:=by
 refine ao λG z=>?_;obtain⟨nm,q,N,bs,bm,sn,sub,ab,col,dd,k0,cw,cJ,k3,k5,hC,B⟩:=Y.5;obtain⟨o,ho,hc⟩:=hf;obtain⟨hp,eu,d,tk,os⟩:=s;refine z ?_;clear z G;refine PN B (ae _ _ hC) (ym (K.15.keeps ae) Y.4) (ae _ _ ho) hc (λaY e hm=>?_) ar;obtain⟨t,ht,_,_⟩:=hm.there;have ne:∀{b ob},hp.get? b=some ob->b≠e:=λq z=>none_of (z▸q) hm.new;have e0:g.base.get? e=none:=by
  cases z:g.base.get? e with
  |none=>rfl
  |some o=>exact none_of (ae _ o z) hm.new
 exact run rfl (λb o q=>hm.keeps _ _ (ae b o q)) e0 ht λ{h' tk' ns} F=>⟨rfl,F.2.elim λt x=>x.elim λd x=>hQ (λb o q=>F.1 b o (ne q) (hm.keeps _ _ q)) hm.new x.1 rfl rfl⟩
theorem PV(K:c0 g)(X:wF g D fD fF fd fe dN bM):Makes g:=λ{c args A s Q E} hc hl hroom ae hQ=>by
 have two:∀{l:List Value},l.length<=2->l.length<=d0:=λh=>aB h (by decide);cases c with
 |zero=>
  cases args with
  |nil=>exact absurd hl.symm (fL _)
  |cons a r=>
  obtain⟨b,rfl⟩:=Wn.mp (fx hl);exact EX K X.1 (X.5.1.imp λo q=>⟨q.1,q.2.1⟩) (two (bI _)) ae (λd b e0 h q=>PU K X b (d▸hroom) e0 h λF=>q F) hQ
 |succ c=>
  cases c with
  |zero=>
   obtain⟨a,rfl⟩:=Wn.mp hl;exact EX K X.2 (X.4.1.imp λo q=>⟨q.1,q.2.1⟩) (two (gh _)) ae (λd b e0 h q=>EW K X X.2 b (d▸Wm hroom) e0 h λF=>q F) hQ
  |succ c=>exact absurd (pq (pq hc)) (pB _)
end
end
section
open PyProof.Rows PySem.Calls
theorem EY:importedModules PP.main.body=[]:=by kernel_rfl
theorem PW:opening PP=plainProg PP.main.scope.names:=by kernel_rfl
theorem PX:∀s,fenceModules? PP s=some s:=λs=>by kernel_rfl
theorem PY(w:World):((jI w.params).isNs ix&&(xR ([]:List yn)).size==0)=true:=by kernel_rfl
noncomputable def PZ(s:ag):=(ny (fragOf s.heap),ry (fragOf s.heap))
noncomputable def P0(w:World):=(lj w,rz)
theorem binds{α β lq:Type}{a:Option α}{x:α}{f:α->Option β}{y:β}{g:β->lq}{v:lq}(e:a=some x)(t:f x=some y)(k:g y=v):(a.bind f).map g=some v:=by
 subst e;exact(congrArg (a7 g) t).trans (congrArg some k)
noncomputable def EZ:Prop:=∀b w os,(go b w os).map (zm w)=some (true,HC jR loose,lj w)
noncomputable def E0:Prop:=∀b w os,(go b w os).map (λs=>ry (fragOf s.heap))=some rz
theorem P1(dE:EZ)(hB:E0):LeftO PP jR loose (λ_w=>true) PZ P0 4200:=λw=>by
 obtain⟨⟨h,gs,d,k,os⟩,e,e'⟩:=su.mp (boot_open (N:=4200) PW rfl PX w);obtain⟨e1,e'⟩:=oQ e';obtain⟨e2,e'⟩:=oQ e';obtain⟨e3,e4⟩:=oQ e';have e1:h=jI w.params:=e1;have e2:gs=xR []:=e2;have e3:d=Bg:=e3;have e4:k=Bh:=e4;subst h gs d k;obtain⟨s,r,eA⟩:=su.mp (dE (w.params.followText "special-get-raises") w os);have B:=hB (w.params.followText "special-get-raises") w os;rw[r]at B;have r:topRun treeTable PP w (jI w.params).objs.size ((jI w.params).nsMap ix "__annotations__") 4200 ⟨jI w.params,xR [],Bg,Bh,os⟩ (topStub PP)=some s:=by
  rw[Fast.te14082659384304107361,Fast.te14364793385576792824];unfold go at r;rw[World.withFollow_self]at r;exact r
 have t:topFrom treeTable PP w 4200 ⟨jI w.params,xR [],Bg,Bh,os⟩=some s:=by
  unfold topFrom;dsimp only;rw[PY,r,EY];show(match Hx [] (jI w.params) s.heap&&Hy PP s.heap&&Hz s&&HB (jI w.params) s.heap with|true=>some s|false=>none)=some s;rw[show(Hx [] (jI w.params) s.heap&&Hy PP s.heap&&Hz s&&HB (jI w.params) s.heap)=true from congrArg kX eA]
 unfold openEnds;refine binds e t ?_;rw[EY,Fast.te4187177175401517315];exact HM (congrArg (λx=>x.2.1) eA) (HM (congrArg (λx=>x.2.2) eA) (cW B))
end
section
open PyProof.Rows PySem.Calls
theorem P2{prog:ef}{w:World}{t:Sem PySem.Fin}{s:ag}{R:jG->ag->Prop}(hreg:s.asleep)
  (h:au (aD prog w) yB t (λfin s'=>∃f,fin=.done f/\ (R (.ok f) s'/\ uZ s'.gens=false)) (λe s'=>R (.error e) s'/\ uZ s'.gens=false) s):
  ∃n r s' s'',runN (denote kV) prog w n s ⟨t,.builtin "claim.caller" {},default,[]⟩=.halted (BS r) s'/\
   schedN (denote kV) prog w n (.single s ⟨t,.builtin "claim.caller" {},default,[]⟩)=.halted (BS r) s'/\ s'.forget=s''.forget/\ R r s'':=by
 have h':TX (aD prog w) ⟨.builtin "claim.caller" {},none,none,[],none⟩ t (Sem.finPost (aD prog w) ⟨.builtin "claim.caller" {},none,none,[],none⟩ (λr s'=>R r s'/\ uZ s'.gens=false))
   (λe _w s'=>R (.error e) s'/\ uZ s'.gens=false) default s:=
  uE _ _ t (λfin p' s' h'=>by obtain⟨f,rfl,hf⟩:=h';exact hf) (λ_w _w _w h'=>h') default s (h _ default caller_in ⟨by decide+kernel,λx ak=>nomatch ak⟩)
 refine ao λG z=>?_;obtain⟨n,r,aH,bL,ar,hn,hfo,hR⟩:=wp_halts_full (M:=aD prog w) (R:=R) hreg h';refine z ?_;clear z G;exact⟨n,r,bL,aH,hn,ar,hfo,hR⟩
abbrev eP:OpenRow:=PySem.Challenge.rw_pq1141_01.row
noncomputable def E4:Prop:=∀(w:World)(bK aH:ag)(mg mb:Str->Option Value)(T:Top jR (looseW jR loose) (IS bK.heap) mg mb aH.heap)(a:ay),(∃h₀,(∀b o,Ix h₀ b=some o->aH.heap.get? b=some o)/\ ny (fragOf h₀)=lj w/\ ry (fragOf h₀)=rz)->mg (aI "law")=some (.ref a)->aH.gens= #[]->
  ∀(args:List WData)(vals:List Value)(as:List ay),eP.toRowW.claim.pre args=true->Wq args=true->ReadsAllW eP.records (BU bK.heap) aH.heap vals args as->WellAll w.params aH.heap vals args->(∀a∈as,(a==sv)=false)->
   au (aD PP w) yB (PySem.call (.ref a) vals) (λv s'=>GoodWG eP.toRowW.claim (BU bK.heap) (IS bK.heap) args aH (.ok (.ret v)) s')
    (λe s'=>GoodWG eP.toRowW.claim (BU bK.heap) (IS bK.heap) args aH (.error e) s') aH
theorem P3:chainsOk jR=true:=by kernel_rfl
theorem P4:opensWell PP=true:=by kernel_rfl
theorem P5:(frees eP.toRowW&&eP.toRowW.within.isEmpty)=true:=by kernel_rfl
theorem P6:PP.bare:=⟨rfl,rfl,rfl,rfl,rfl,by decide+kernel⟩
theorem E5:eP.toRowW.promised:=by w_witness2
theorem P7{c:ClaimW}{tree:List Value->Sem PySem.Fin}{w:World}{s:ag}{kept:aK->Prop}(hz:s.asleep)(hgens:s.gens= #[])
  (hspec:∀args,c.pre args=true->Wq args=true-> ∀ord:List hG->List hG,(∀l,(ord l).Perm l)->
   ∃vs aH,layAllW c.records (BU s.heap) w.params ord args s=some (vs,aH)/\
    au (aD c.prog w) yB (tree vs) (λfin s'=>∃f,fin=.done f/\ (c.Ends s args vs aH (.ok f) s'/\ s'.os=s.os/\ AllBare s'.gens/\ kept s'.heap))
     (λe s'=>c.Ends s args vs aH (.error e) s'/\ s'.os=s.os/\ AllBare s'.gens/\ kept s'.heap) aH){free:ay->Prop}{gens:Prop}:
  c.CallFrom (λvs=>⟨tree vs,.builtin "claim.caller" {},default,[]⟩) w free gens kept s:=by
 intro args hpre hlay ord hord;refine ao λG fin=>?_;obtain⟨vs,aH,hlaid,hcode⟩:=hspec args hpre hlay ord hord;have hal:=Wr _ _ _ hlaid;have hm:au (aD c.prog w) yB (tree vs) (λfin s'=>∃f,fin=.done f/\ ((c.Ends s args vs aH (.ok f) s'/\ s'.os=s.os/\ kept s'.heap)/\ uZ s'.gens=false))
   (λe s'=>(c.Ends s args vs aH (.error e) s'/\ s'.os=s.os/\ kept s'.heap)/\ uZ s'.gens=false) aH:=
  mono hcode (λfin s' q=>q.imp λf q=>⟨q.1,⟨q.2.1,q.2.2.1,q.2.2.2.2⟩,Ws q.2.2.2.1⟩) λe s' q=>⟨⟨q.1,q.2.1,q.2.2.2⟩,Ws q.2.2.1⟩
 obtain⟨k,r,s',s'',hrun,hsched,hfo,hcase,hos,hkp⟩:=P2 (R:=λr s'=>c.Ends s args vs aH r s'/\ s'.os=s.os/\ kept s'.heap) (ag.asleep_of_life hal.2.2.2 hz) hm;obtain⟨eh,_,_,eo,_⟩:=ag.forget_eq hfo;have hcase:=hcase.congr eh;have hlife:s'.heap.life=s.heap.life:=(runN_life _ _ _ hrun).trans hal.2.2.2;refine fin ⟨vs,aH,hlaid,k,_,s',hsched,?_,(λ_w i x ak=>by rw[hgens]at ak;exact absurd ak (by simp)),eh▸hkp,by rw[hlife],ag.rest_eq (eo▸hos)⟩;exact hcase.imp (λh=>h.imp λv h=>⟨congrArg BS h.1,h.2.1,h.2.2.1,h.2.2.2.1,λb o y _w=>h.2.2.2.2.1 b o y,h.2.2.2.2.2⟩) λh=>h.imp λe h=>h.imp λob h=>h.imp λcls h=>⟨congrArg BS h.1,h.2.1,h.2.2.1,h.2.2.2.1,h.2.2.2.2.1,λb o y _w=>h.2.2.2.2.2 b o y⟩
theorem P8:(defOf jR eP.name).map (λp=>(some (p.1.params,p.1.body,p.1.scope),kwWritten? p.1.params.kwonlyargs p.1.params.kw_defaults))=(defOf jR eP.name).map (λp=>(PP.theDef eP.name,some p.2)):=by kernel_rfl
theorem P9:(defOf jR eP.name).isSome=true:=by kernel_rfl
theorem Qa(dE:EZ)(hB:E0)(call:E4)(cw:eP.wellSaid=true):eP.Holds:=by
 have left:=P1 dE hB;obtain⟨k5,k6⟩:=og.mp P5;obtain⟨hsame,hu,aM,hap,hm⟩:=frees_parts k5;have Ak:=left.behind (XP:=λmg h=>True/\ RecFacts eP.records h) (λs _w=>⟨trivial,recFacts_nil rfl⟩) P3;refine⟨cw,E5,⟨P6,P4,rfl⟩,E5.witness,λw=>⟨(Ak w).1,λs' hs'=>ao λG' fin=>?_⟩⟩;obtain⟨bK,hf,hg0,s,hT,hz,hgens,cK,G00,y⟩:=(Ak w).2 s' hs';obtain⟨⟨d,kwd⟩,hdef⟩:=BV.mp P9;have hd:=P8;rw[hdef]at hd;obtain⟨hp,az⟩:=oQ (cW hd);have G0:Ground jR loose [] (λ_w _w=>True) w s (s.heap.nsMap ix) (s.heap.nsMap pw) s.heap:=⟨G00.T,G00.B,G00.D,G00.TE,G00.TD,G00.W,trivial,G00.cls,G00.has,G00.apart,G00.once,G00.K⟩;have mD:=G00.X.2;refine fin ⟨bK,hf,hg0,s,hT,λn hn=>?_,mD.1,mD.2.1,?_⟩
 ·obtain rfl:=bW.mp (show n∈[eP.name]from hn);exact pinned_of_view cK G0 hdef hp.symm az
 have hgens:s.gens= #[]:=Array.eq_empty_of_size_eq_zero (beq_iff_eq.mp hgens);have G:Ground jR loose eP.records (λ_w _w=>True) w s _ _ s.heap:=mD.ground G0;refine P7 (c:=eP.toRowW.claim) hz hgens λargs hpre hlay ord hord=>ao λG' fin=>?_;obtain⟨⟨vs,aH⟩,hlaid⟩:=BV.mp (layAllW_isSome (P:=w.params) (ord:=ord) G.has args eP.args s (pre_splitW hpre).1);have keeps:=layAllW_keeps _ _ _ hlaid;have hal:=Wr _ _ _ hlaid;obtain⟨as,hrd,hin,hold⟩:=reads_layAllW hord _ _ _ hlaid hlay aH.heap (λ_w _w e=>e);have L:Laid eP.records w s aH args vs as:=⟨⟨ord,hord,hlaid⟩,hrd,hin,hold,keeps,hal.1.trans hgens,hal.2.2.1⟩;have Al:=G.keeps (λ_w _w _w _w _w=>trivial) keeps;have ao:=ident_freeW hu aM hap;have hwi:eP.toRowW.claim.within=[]:=Wt.mp k6;obtain⟨a,o,pm,cd,doc,dV,mE,aa,h2,h3,h4,h5⟩:=Al.fn hdef;have aa:(s.heap.nsMap ix) eP.name=some (.ref a):=defOf_name hdef▸aa;have h:=call w s aH _ _ Al.T a ⟨s.heap,keeps,congrArg kX y,congrArg IT y⟩ aa L.gens args vs as hpre hlay L.reads L.well (L.low G.low);refine fin ⟨vs,aH,hlaid,?_⟩;show au _ _ (nsGet mainNs eP.name>>=λx=>match x with
   |some f=>do ret (<-PySem.call f vs)
   |none=>x8 "claim.caller:no-such-global") _ _ _
 refine Mine.Tactic.seq (aT (wpAny_nsGet Al.T.g ?_));rw[aa];exact Mine.Tactic.seq (mono h (λv s' g=>Mine.Tactic.done ⟨_,rfl,have z:=g.laid (c:=eP.toRowW.claim) hsame hwi ao L;⟨z.1,z.2.1,z.2.2,λ_w=>⟨Wu hT cK _ keeps g.2.1.old,λx ak=>nomatch ak⟩⟩⟩)
  λe s' g=>have z:=g.laid (c:=eP.toRowW.claim) hsame hwi ao L;⟨z.1,z.2.1,z.2.2,λ_w=>⟨Wu hT cK _ keeps g.2.1.old,λx ak=>nomatch ak⟩⟩)
end
section
open PyProof.Rows PySem.Calls
theorem Qb{h:aK}:(fragOf h).In h:=by
 intro a o;have go:∀l:List ay,(l.filterMap λa=>(h.get? a).map λo=>(a,o)).lookup a=some o->h.get? a=some o:=by
  intro l
  induction l with
  |nil=>exact λe=>nomatch e
  |cons b l ih=>
   intro e;rw[IP]at e;cases q:h.get? b with
   |none=>rw[q]at e;exact ih e
   |some ob=>
    rw[q]at e;have e:(match a==b with|true=>some ob|false=>_)=some o:=e;cases z:a==b with
    |true=>rw[z]at e;rw[eq_of_beq z,q];exact e
    |false=>rw[z]at e;exact ih e
 exact go addrs
section
variable{K:gz}{h:aK}
theorem E6(x:K.In h)(hl:(K.lookup ix).isSome=true){mg:Str->Option Value}(hm:h.Ns ix mg)(n:Str):mg n=xP (rv K) n:=by
 obtain⟨o,es,ep,ho,hd,_,he⟩:=hm;obtain⟨o',e⟩:=BV.mp hl;obtain rfl:=cW (ho.symm.trans (x _ _ e));unfold rv;rw[e];dsimp only;rw[hd];exact(he n).symm
theorem Qc{n:Str}:∀v:Value,(vG v==some n)=v.isStr n:=λv=>by cases v<;>rfl
theorem Qd{es:Array hG}{x:String}:(xP es (aI x)).map pW=look (es.toList.map λe=>(vG e.key,pW e.val)) x:=by
 obtain⟨l⟩:=es;show((Array.find? (λe=>e.key.isStr (aI x)) l.toArray).map (·.val)).map pW=((l.map λe=>(vG e.key,pW e.val)).find? λp=>p.1==some (aI x)).map (·.2);rw[List.find?_toArray]
 induction l with
 |nil=>rfl
 |cons e l ih=>
  rw[l9,Bn,Bn,Qc];cases e.key.isStr (aI x)with
  |true=>rfl
  |false=>exact ih
theorem Qe{v:Value}{a:ay}(h:pW v=some a):v=.ref a:=by
 cases v<;>first|exact cU h|exact congrArg kT (cW h)
theorem Qf{g:G}{a:ay}{ns:List Int}{ts:List Nat}(hl:ns.length=ts.length)(e:h.get? a=rx ns ts):bf g [] h (.tup (ns.map .int)) (.ref a):=by
 refine⟨a,vJ ns ts,rfl,⟨⟨_,e,rfl,_,rfl⟩,λq=>q.elim λp q=>nomatch q.1⟩,?_⟩;have go:∀{ns:List Int}{ts:List Nat},ns.length=ts.length->bC g [] h (ns.map .int) (vJ ns ts):=by
  intro ns
  induction ns with
  |nil=>intro ts hl;cases ts<;>rfl
  |cons n ns ih=>
   intro ts hl;cases ts with
   |nil=>exact absurd hl (fL _)
   |cons t ts=>exact⟨_,_,rfl,⟨t,rfl⟩,ih (fx hl)⟩
 exact go hl
end
theorem pe{α:Type}{n:Nat}{F F':Nat->α}(e:(cE n).map F=(cE n).map F'){k:Nat}(az:k<n):F k=F' k:=IU.mp e k (yC.mpr az)
theorem wG{α:Type}{l:List α}{n k:Nat}{x:α}(hl:l.length=n)(e:l[k]?=some x):k<n:=hl▸(jF.mp e).1
theorem rS{α:Type}{l:List (Option α)}:∀{k:Nat}{x:α},sel none l k=some x->k<l.length/\ some x∈l:=by
 induction l with
 |nil=>intro k x h;exact cU h
 |cons y r ih=>
  intro k x h;cases k with
  |zero=>exact⟨mY _,(show y=some x from h)▸.head _⟩
  |succ k=>exact⟨G8 (ih h).1,.tail _ (ih h).2⟩
theorem Am{K:gz}{a:ay}{st:dI}(e:nu K a=nx st):∃o fd,K.lookup a=some o/\ o.cls=.type "function"/\ o.data=.func fd/\ zh K fd=true/\ fd.body=.stmts (jw st)/\ fd.scope=iE st/\ fd.params=gj st:=by
 refine ao λG z=>?_;obtain⟨p,hp,e⟩:=su.mp e;obtain⟨o,ho,hp⟩:=HD.mp hp;obtain⟨e1,e⟩:=oQ e;obtain⟨e2,e⟩:=oQ e;obtain⟨e3,e⟩:=oQ e;obtain⟨e4,e5⟩:=oQ e;obtain⟨oc,od,odt,osl⟩:=o;refine z ?_;clear z G;cases odt with
 |func fd=>obtain rfl:=cW hp;exact⟨_,fd,ho,e1,rfl,e2,e3,e4,e5⟩
 |_=>exact cU hp
end
section
open PyProof.Rows PySem.Calls
theorem E7{K:gz}{a:ay}{st:dI}(e:nu K a=nx st):jH K (.ref a)=true:=(Am e).elim λo x=>x.elim λfd x=>by
 obtain⟨oc,od,odt,osl⟩:=o;obtain⟨hg,_,x3,_⟩:=x;cases x3;unfold jH;dsimp only;rw[hg]
noncomputable def ie(w:World)(h₀ h:aK)(mg mb:Str->Option Value):G:=⟨PP,w,h,i7,k9,CF,263,mg,mb,fragOf h₀⟩
inductive End (w:World) (h₀ h:aK) (mg mb:Str->Option Value):Prop
 |mk (dF:∀b o,h₀.get? b=some o->h.get? b=some o) (a:ny (fragOf h₀)=lj w) (b:ry (fragOf h₀)=rz) (cK:h.Ns ix mg) (ae:h.Ns pw mb) (lim:h.NoLimit) (boot:∀x:Str,x≠"__name__"->mb x=xV x) (mods:∃o,h.get? sv=some o)
section
variable{w:World}{h₀ h:aK}{mg mb:Str->Option Value}(Z:End w h₀ h mg mb)
include Z
theorem End.K:(fragOf h₀).In h:=Qb.keeps Z.1
theorem End.bools:(cE 4).all (CJ (fragOf h₀))=true/\ Hw (fragOf h₀) 38 (.type "type")=true/\ jH (fragOf h₀) (.ref 58)=true/\ jH (fragOf h₀) (.ref 70)=true/\ ((fragOf h₀).lookup ix).isSome=true:=by
 have e:(_&&(_&&(_&&(_&&_))))=true:=congrArg (λx=>x.2.2.2.2.2.1) Z.2;obtain⟨e1,e⟩:=bV e;obtain⟨e2,e⟩:=bV e;obtain⟨e3,e⟩:=bV e;exact⟨e1,e2,e3,bV e⟩
theorem End.E8(x:String):(mg (aI x)).map pW=look ha x:=by
 rw[E6 Z.K Z.bools.2.2.2.2 Z.4,Qd];exact congrArg (look · x) (congrArg kX Z.2)
theorem End.ref{x:String}{a:ay}(e:look ha x=some (some a)):mg (aI x)=some (.ref a):=by
 obtain⟨v,ai,ar⟩:=su.mp ((Z.E8 x).trans e);rw[ai,Qe ar]
theorem End.E9{x:String}(e:look ha x=none):mg (aI x)=none:=Option.map_eq_none_iff.mp ((Z.E8 x).trans e)
theorem End.named{l:List String}{F:Nat->ay}{n:Nat}(hl:l.length=n)(e:(cE n).map (lg l (look ha))=(cE n).map λf=>lg l (λ_w=>some (some (F f))) f){f:Nat}{x:String}(ak:l[f]?=some x)(h0:x≠""):mg (aI x)=some (.ref (F f)):=by
 refine Z.ref ?_;have e:=pe e (wG hl ak);unfold lg at e;rw[ak]at e;have e:(bif x=="" then none else look ha x)=bif x=="" then none else some (some (F f)):=e;rw[beq_eq_false_iff_ne.mpr h0]at e;exact e
theorem End.fd{f:Nat}(hf:f<66):∃o fd,(fragOf h₀).lookup (i7 f)=some o/\ o.cls=.type "function"/\ o.data=.func fd/\ zh (fragOf h₀) fd=true/\ fd.body=.stmts (jw (eU f))/\ fd.scope=iE (eU f)/\ fd.params=gj (eU f):=
 Am (pe (F:=λf=>nu (fragOf h₀) (i7 f)) (F':=λf=>nx (eU f)) (congrArg kX Z.3) hf)
theorem End.ty{f:Nat}(hf:f<66):Bj (fragOf h₀) (.ref (i7 f))=some (.type "function"):=(Z.fd hf).elim λo x=>x.elim λfd x=>by
 show((fragOf h₀).lookup _).map _=_;rw[x.1,<-x.2.1];rfl
theorem End.obj(k:Nat){a:ay}{o:Option Obj}(e:(ny (fragOf h₀)).2.2.2.1[k]?=some ((fragOf h₀).lookup a))(e':(lj w).2.2.2.1[k]?=some o):(fragOf h₀).lookup a=o:=
 cW (e.symm.trans ((congrArg (λx=>x.2.2.2.1[k]?) Z.2).trans e'))
theorem End.An(k:Nat){r b7:Option CFound}(e:(ny (fragOf h₀)).2.2.2.2.1[k]?=some r)(e':(lj w).2.2.2.2.1[k]?=some b7):r=b7:=cW (e.symm.trans ((congrArg (λx=>x.2.2.2.2.1[k]?) Z.2).trans e'))
theorem End.get(k:Nat){r b7:Option (Option Value)}(e:(ny (fragOf h₀)).2.2.2.2.2.2.2.1[k]?=some r)(e':(lj w).2.2.2.2.2.2.2.1[k]?=some b7):r=b7:=cW (e.symm.trans ((congrArg (λx=>x.2.2.2.2.2.2.2.1[k]?) Z.2).trans e'))
theorem End.mro(k:Nat){r b7:Option Bool}(e:(ny (fragOf h₀)).2.2.2.2.2.2.2.2.1[k]?=some r)(e':(lj w).2.2.2.2.2.2.2.2.1[k]?=some b7):r=b7:=cW (e.symm.trans ((congrArg (λx=>x.2.2.2.2.2.2.2.2.1[k]?) Z.2).trans e'))
theorem End.cd(k:Nat){C:ay}{m:List Value}(e:(ny (fragOf h₀)).2.2.2.2.2.2.2.2.2[k]?=some ((uH (fragOf h₀) C).map λc=>(c.hasDict,c.mro)))(e':(lj w).2.2.2.2.2.2.2.2.2[k]?=some (some (true,m))):∃c,uH (fragOf h₀) C=some c/\ c.hasDict=true/\ c.mro=m:=by
 obtain⟨c,aa,h2⟩:=su.mp (cW (e.symm.trans ((congrArg (λx=>x.2.2.2.2.2.2.2.2.2[k]?) Z.2).trans e')));exact⟨c,aa,congrArg kX h2,congrArg IT h2⟩
theorem End.keep{f:Nat}(hf:f<66):jH (fragOf h₀) (.ref (i7 f))=true:=E7 (pe (F:=λf=>nu (fragOf h₀) (i7 f)) (F':=λf=>nx (eU f)) (congrArg kX Z.3) hf)
end
end
section
open PyProof.Rows PySem.Calls
theorem Ao{l:List (Option Nat)}{f:Nat}(h:l.all (λx=>x.all (lT · 66))=true)(hf:some f∈l):f<66:=j9.mp (l5.mp h _ hf)
theorem Fb{c f:Nat}(h:bl c=some f):c<4/\ f<66:=⟨(rS h).1,Ao rfl (rS h).2⟩
theorem wH{c m f:Nat}(h:bk c m=some f):m<18/\ f<66:=by
 cases c with
 |zero=>exact⟨bU (rS h).1 (by decide),Ao rfl (rS h).2⟩
 |succ c=>
  cases c with
  |zero=>exact⟨bU (rS h).1 (by decide),Ao rfl (rS h).2⟩
  |succ c=>exact cU h
theorem Qg:((cE 4).all λc=>(cE 18).all λm=>(cE 11).all λn=>!((bk c m).isSome&&(fld c n&&(ro m==aI (cZ n)))))=true:=by kernel_rfl
theorem tP{n:Nat}{p:Nat->Bool}(h:(cE n).all p=true){k:Nat}(az:k<n):p k=true:=l5.mp h k (yC.mpr az)
section
variable{w:World}{h₀ h:aK}{mg mb:Str->Option Value}(Z:End w h₀ h mg mb)
include Z
theorem End.cls{c:Nat}(hc:c<4):CV (ie w h₀ h mg mb) c:=by
 have B:(_&&(_&&(_&&(_&&_))))=true:=tP Z.bools.1 hc;obtain⟨b1,B⟩:=bV B;obtain⟨b2,B⟩:=bV B;obtain⟨b3,B⟩:=bV B;obtain⟨b4,b5⟩:=bV B;have E:=pe (F:=CL (fragOf h₀)) (F':=CN) (congrArg (λx=>x.2.2.2.2.2.2.1) Z.2) hc;refine⟨b1,b2,b3,λf hf=>⟨(congrArg kX E).trans (by show some ((bl c).map λf=>kT (i7 f))=_;rw[hf];rfl),Z.ty (Fb hf).2⟩,congrArg (λx=>x.2.1) E,b4,λn hn=>?_,λm f hf=>⟨?_,Z.ty (wH hf).2,λn hn q=>?_,Z.keep (wH hf).2⟩,b5⟩
 ·have e:=pe (F:=zj (fragOf h₀) c) (F':=CM) (congrArg (λx=>x.2.2.1) E) (rG hn);unfold zj at e;rw[hn]at e;exact e
 ·have e:=pe (F:=zk (fragOf h₀) c) (F':=zl c) (congrArg (λx=>x.2.2.2) E) (wH hf).1;unfold zk zl at e;rw[hf]at e;exact e
 ·have e:=tP (tP (tP Qg hc) (wH hf).1) (rG hn);rw[hf,hn,q]at e;rw[beq_self_eq_true]at e;exact ci e
end
end
section
open PyProof.Rows PySem.Calls
noncomputable def tQ:Tok->List (String×String)->List Value
 |_,[]=>[]
 |t,(_,b)::r=>.str (aI b) (t+1)::tQ (t+2) r
section
variable{prog:ef}{w:World}{g:G}{μ:aO}{h:aK}
theorem Qh:∀{l:List (String×String)}{t:Tok},(∀e∈vK w.params t l,∃k,(qN prog w).is k e.key=true/\ e.hash=(qN prog w).hash k)/\ Pairs (qN prog w) (vK w.params t l) ((l.map λe=>aI e.1).zip (tQ t l))/\ bC g μ h (l.map λe=>.str e.2) (tQ t l)/\ (l.map λe=>aI e.1).length<=(tQ t l).length:=by
 intro l
 induction l with
 |nil=>exact λ{t}=>⟨λ_w h=>absurd h el,.nil,rfl,bI _⟩
 |cons p l ih=>
  intro t;obtain⟨i1,i2,i3,i4⟩:=@ih (t+2);exact⟨c1.mpr ⟨⟨_,sA _ _ _ _,rfl⟩,i1⟩,.cons (sA _ _ _ _) rfl i2,⟨_,_,rfl,⟨_,rfl⟩,i3⟩,jn i4⟩
end
theorem XH:(cE 66).map (lg oY (look ha))=(cE 66).map (λf=>lg oY (λ_w=>some (some (i7 f))) f):=congrArg kX vI
theorem Fc:∀{l:List Str},vF l=true->l.Nodup:=by
 intro l
 induction l with
 |nil=>exact λ_w=>uQ
 |cons a r ih=>exact λh=>sH.mpr ⟨λq=>absurd (bV h).1 (by rw[Bz.mpr q];decide),ih (bV h).2⟩
section
variable{w:World}{h₀ h:aK}{mg mb:Str->Option Value}(Z:End w h₀ h mg mb)
include Z
theorem End.ok:c0 (ie w h₀ h mg mb):=by
 have A:=vI;have names:∀{k a},look ha (pG k)=some (some a)->mg (aI (pG k))=some (.ref a):=Z.ref;have tup:∀{x a ns ts},look ha x=some (some a)->h.get? a=rx ns ts->ns.length=ts.length-> ∃v,mg (aI x)=some v/\ bf (ie w h₀ h mg mb) [] h (.tup (ns.map .int)) v:=λe o l=>⟨_,Z.ref e,Qf l o⟩;have L:∀(k:Nat){r},(([some none,some none,some (some 262),some (some 263),some (some 451),some (some 452),some (some 453)]:List (Option (Option Nat)))[k]?=some r)->(((cE 7).map λk=>look ha (pG k))[k]?=some r):=λk r e=>(congrArg (λx=>x.2.2.2.2.1[k]?) A).trans e;have mga:∀n,mg n=xP (rv (fragOf h₀)) n:=E6 Z.K Z.bools.2.2.2.2 Z.4;have ne:∀{l:List String}{f:Nat}{x:String},l.all (· !="")=true->l[f]?=some x->x≠"":=λe ak=>bne_iff_ne.mp (l5.mp e _ (oi ak));refine⟨Z.4,Z.5,Z.6,Z.7,λk az=>?_,λf x ak h0=>Z.named rfl (congrArg kX A) ak h0,λf x ak=>Z.named rfl (congrArg (λx=>x.2.1) A) ak (ne (by decide) ak),λf x ak=>tP (p:=λf=>(bl f).isSome) rfl (wG (l:=cnames) rfl ak),λf x ak=>Z.named rfl (congrArg (λx=>x.2.2.1) A) ak (ne (by decide) ak),λx ak=>Z.E9 ((IU (l:=vH) (f:=look ha) (g:=λ_w=>none)).mp (congrArg (λx=>x.2.2.2.1) A) x (mc ["Exception"] ak)),Z.8,?_,by show(263:Nat)≠_;decide,Z.An 0 rfl rfl,Z.K,λc hc=>Z.cls ((BV.mp hc).elim λf e=>(Fb e).1),λf x ak=>Z.keep (wG (l:=oY) rfl ak)⟩
 ·rcases k with _|_|_|_|_|_|_|k
  ·exact⟨_,(mga _).trans (congrArg (λx=>x.2.1) Z.2),⟨_,rfl⟩⟩
  ·exact⟨_,(mga _).trans (congrArg (λx=>x.2.2.1) Z.2),⟨_,rfl⟩⟩
  ·exact tup (cW (L 2 rfl)) (Z.K _ _ (Z.obj 0 rfl rfl)) rfl
  ·exact⟨_,Z.ref (cW (L 3 rfl)),rfl⟩
  ·exact tup (cW (L 4 rfl)) (Z.K _ _ (Z.obj 1 rfl rfl)) rfl
  ·exact tup (cW (L 5 rfl)) (Z.K _ _ (Z.obj 2 rfl rfl)) rfl
  ·exact tup (cW (L 6 rfl)) (Z.K _ _ (Z.obj 3 rfl rfl)) rfl
  ·exact ci az
 ·obtain⟨dv,cS,n3,fR⟩:=Qh (prog:=PP) (w:=w) (g:=ie w h₀ h mg mb) (μ:=[]) (h:=h) (l:=mq) (t:=508);refine⟨tQ 508 mq,⟨_,_,_,Z.K _ _ (Z.obj 4 rfl rfl),⟨rfl,rfl,rfl⟩,rfl,λe he=>dv e (Array.mem_def.mp he),cS,?_⟩,n3⟩;rw[oA fR];exact Fc (by kernel_rfl)
end
end
section
open PyProof.Rows PySem.Calls
theorem Qi:∀{names:List Str}{vals:List Value},names.length=vals.length->names.Nodup->(names.filter λn=>((names.zip vals).lookup n).isNone)=[]/\ (names.filterMap λn=>((names.zip vals).lookup n).map (n,·))=names.zip vals:=by
 have go:∀{names:List Str}{vals:List Value}(l:List (Str×Value)),names.length=vals.length->names.Nodup->(∀n∈names,l.lookup n=(names.zip vals).lookup n)->(names.filter λn=>(l.lookup n).isNone)=[]/\ (names.filterMap λn=>(l.lookup n).map (n,·))=names.zip vals:=by
  intro names
  induction names with
  |nil=>exact λl _w _w _w=>⟨rfl,rfl⟩
  |cons a r ih=>
   intro vals l hl hn H;cases vals with
   |nil=>exact absurd hl (fL _)
   |cons v vs=>
    obtain⟨dv,cS⟩:=sH.mp hn;have aa:l.lookup a=some v:=(H a (.head _)).trans IB;obtain⟨i1,i2⟩:=ih l (fx hl) cS λn hn=>(H n (.tail _ hn)).trans (by
     rw[List.zip_cons_cons,BN,show(n==a)=false from beq_eq_false_iff_ne.mpr λe=>dv (e▸hn)])
    rw[List.filter_cons,IP,aa,i1,i2];exact⟨rfl,rfl⟩
 exact λ{_w _w} hl hn=>go _ hl hn λ_w _w=>rfl
theorem Qj{fd:j8}{args:List Arg}(hp:fd.params=⟨[],args,none,[],[],none,[]⟩)(hd:fd.defaults=.none)(hn:(args.map (·.arg)).Nodup)(vals:List Value)(hl:vals.length=(args.map (·.arg)).length):
  yw fd ⟨vals,[]⟩=pure ((args.map (·.arg)).zip vals):=by
 obtain⟨z1,z2⟩:=Qi hl.symm hn;obtain⟨f1,f2,f3,f4,f5,f6,f7,f8,f9,f10,f11,f12,f13,f14,f15⟩:=fd;cases hp;cases hd;show(if(decide (vals.length>(args.map (·.arg)).length)&&true)=true then _ else _)=_;rw[decide_eq_false (hl▸lV _)];refine(if_neg qX).trans ?_;show(if(!((((args.map (·.arg)).take ((args.map (·.arg)).length-(IV (0-(args.map (·.arg)).length) ([]:List Value)).length)).filter λn=>(((args.map (·.arg)).zip vals).lookup n).isNone)).isEmpty)=true then _ else(forIn (((args.map (·.arg)).drop ((args.map (·.arg)).length-(IV (0-(args.map (·.arg)).length) ([]:List Value)).length)).zip (IV (0-(args.map (·.arg)).length) ([]:List Value))) _ _>>=_))=_;rw[List.drop_nil,show(args.map (·.arg)).take ((args.map (·.arg)).length-([]:List Value).length)=args.map (·.arg)from Bu,z1,List.zip_nil_right];show(pure ((args.map (λa=>Arg.arg a)++[]).filterMap _):Sem (List (Str×Value)))=_;rw[dK];exact congrArg pure z2
theorem Fd{fd:j8}(hp:fd.params=ru fd.params)(hn:vF (fd.params.args.map (·.arg))=true)(hd:fd.defaults=.none)(vals:List Value)(hl:vals.length=(fd.params.args.map (·.arg)).length)(M:iQ)(h:aK):iR M h (yw fd ⟨vals,[]⟩) ((fd.params.args.map (·.arg)).zip vals):=by
 rw[Qj hp hd (Fc hn) vals hl];exact iR.of_peek (K:=[]) (λa o e=>nomatch e) rfl
end
section
open PyProof.Rows PySem.Calls
section
variable{K:gz}{h:aK}
theorem Qk(x:K.In h){c:Value}{q:Str}(e:isStr (fieldOf K c 1) q=true):h.CodeRec c q:=by
 have none_:∀{c:Value},fieldOf K c 1=none->isStr (fieldOf K c 1) q=true->False:=λz e=>by rw[z]at e;exact ci e
 cases c with
 |ref a=>
  cases ai:fieldOf K (.ref a) 1 with
  |none=>exact(none_ ai e).elim
  |some v=>
   rw[ai]at e;obtain⟨o,ho,hd⟩:=HD.mp (show(K.lookup a).bind _=some v from ai);obtain⟨oc,od,odt,osl⟩:=o;cases odt with
   |fields vs=>
    cases v with
    |str y t=>obtain rfl:=eq_of_beq (show(y==q)=true from e);exact⟨a,_,vs,t,rfl,x _ _ ho,rfl,hd⟩
    |_=>exact ci e
   |_=>exact cU hd
 |_=>exact(none_ rfl e).elim
theorem Fe{k:ScopeKind}(h:isFun k=true):k=.function:=by cases k<;>first|rfl|exact ci h
theorem Ql{v:Value}(h:isNone v=true):v=.none:=by cases v<;>first|rfl|exact ci h
inductive Fg (K:gz) (h:aK) (a:ay) (st:dI) (fd:j8):Prop
 |mk (obj:∃o,h.get? a=some o/\ o.cls=.type "function"/\ o.data=.func fd) (body:fd.body=.stmts (jw st)) (sc:fd.scope=iE st) (par:fd.params=gj st) (EF:fd.closure=[]) (gl:fd.globals=ix) (XI:fd.builtins=pw) (code:h.CodeRec fd.code fd.qualname) (XJ:fd.defaults=.none)
theorem Ap(x:K.In h){a:ay}{st:dI}(e:nu K a=nx st):∃fd,Fg K h a st fd:=by
 refine ao λG z=>?_;obtain⟨o,fd,e1,e2,e3,H,e5,e6,e7⟩:=Am e;obtain⟨aa,H⟩:=bV H;obtain⟨h2,H⟩:=bV H;obtain⟨h3,H⟩:=bV H;obtain⟨h4,h5⟩:=bV H;refine z ?_;clear z G;exact⟨fd,⟨o,x _ _ e1,e2,e3⟩,e5,e6,e7,Wt.mp aa,mW h2,mW h3,Qk x h4,Ql h5⟩
end
section
variable{w:World}{h₀ h:aK}{mg mb:Str->Option Value}(Z:End w h₀ h mg mb)
include Z
theorem End.fn{f:Nat}{b:bB}(hf:fn f=some b):∃c fd o8 body,FnAt (ie w h₀ h mg mb) f b c fd o8 body:=by
 have lt:f<66:=wG (l:=fns) rfl hf;obtain⟨fd,D⟩:=Ap Z.K (pe (F:=λf=>nu (fragOf h₀) (i7 f)) (F':=λf=>nx (eU f)) (congrArg kX Z.3) lt);have E:=pe (F:=λf=>(Mine.Tactic.fn f).map λb=>(CH (eU f) b,jv ⟨(iE (eU f)).names,none⟩ b.body (jw (eU f)),gj (eU f))) (F':=λf=>(Mine.Tactic.fn f).map λ_w=>(true,some (jw (eU f)),ru (gj (eU f)))) K1 lt;rw[show Mine.Tactic.fn f=some b from hf]at E;refine ao λG z=>?_;obtain⟨E1,E⟩:=oQ (cW E);obtain⟨E2,E3⟩:=oQ E;obtain⟨A,H⟩:=bV E1;obtain⟨a1,A⟩:=bV A;obtain⟨a2,A⟩:=bV A;obtain⟨a3,a4⟩:=bV A;obtain⟨b1,H⟩:=bV H;obtain⟨b2,b3⟩:=bV H;obtain⟨o,o1,o2,o3⟩:=D.1;refine z ?_;clear z G;have row:cg.i6 ⟨(iE (eU f)).names,none⟩ b.params=some ((gj (eU f)).args.map (·.arg)):=eq_of_beq b3;refine⟨⟨(iE (eU f)).names,none⟩,fd,jw (eU f),jw (eU f),⟨o,o1,o3⟩,D.3▸ow _▸a1,D.3▸ow _▸a2,D.3▸Fe a3,D.2,D.5,D.6,D.7,D.8,rfl,congrArg j7.names D.3,xE b1,b2,D.4▸row,λvals hl=>?_,E2⟩;exact Fd (D.4▸E3) (D.4▸a4) D.9 vals (hl.trans (D.4▸(EH row).1.symm)) _ _
end
end
section
open PyProof.Rows PySem.Calls
theorem Qm:jw (jQ 2 0)=wD "Exception" "word" ⟨8,8,8,17⟩ ⟨8,8,8,26⟩ ⟨8,27,8,31⟩ ⟨8,33,8,37⟩ ⟨8,8,8,38⟩ ⟨8,8,8,38⟩ ⟨9,8,9,12⟩ ⟨9,8,9,17⟩ ⟨9,20,9,24⟩ ⟨9,8,9,24⟩:=by kernel_rfl
theorem Qn:jw (jQ 3 0)=wD "DebugFault" "at" ⟨13,8,13,18⟩ ⟨13,8,13,27⟩ ⟨13,28,13,32⟩ ⟨13,34,13,38⟩ ⟨13,8,13,39⟩ ⟨13,8,13,39⟩ ⟨14,8,14,12⟩ ⟨14,8,14,15⟩ ⟨14,18,14,20⟩ ⟨14,8,14,20⟩:=by kernel_rfl
theorem Fh:rQ tg:=⟨by decide+kernel,by decide+kernel,by decide+kernel,by decide+kernel,by decide+kernel,λself=>(Wv ..).trans (F.store_Exception.passes self)⟩
section
variable{w:World}{h₀ h:aK}{mg mb:Str->Option Value}(Z:End w h₀ h mg mb)
theorem Fi{st:dI}{a:ay}{fd:j8}{c an:Str}{bJ:List Str}(D:Fg (fragOf h₀) h a st fd)(I:zi st c bJ=true)(p:gj st=ru (gj st))(ae:∃p1 p2 p3 p4 p5 p6 p7 p8 p9 p10,jw st=wD c an p1 p2 p3 p4 p5 p6 p7 p8 p9 p10/\ (p2.endLine==p5.line)=true)(aa:("self":Str)∈bJ)(h2:("word":Str)∈bJ)(h3:an∈bJ)(ok:(c==("__debug__":Str))=false/\ (an==("__debug__":Str))=false):wE (ie w h₀ h mg mb) a c an bJ fd:=by
 obtain⟨A,I⟩:=bV I;obtain⟨a1,A⟩:=bV A;obtain⟨a2,A⟩:=bV A;obtain⟨a3,a4⟩:=bV A;obtain⟨i1,I⟩:=bV I;obtain⟨i2,I⟩:=bV I;obtain⟨i3,i4⟩:=bV I;have i1:(gj st).args.map (·.arg)=bJ:=eq_of_beq i1;refine⟨D.1,D.3▸ow _▸a1,D.3▸ow _▸a2,D.3▸Fe a3,?_,D.5,D.6,D.7,D.8,λx ak=>bne_iff_ne.mp (l5.mp i2 x (D.3▸ak)),λn hn=>D.3▸eq_of_beq (l5.mp i3 n hn),D.3▸eq_of_beq i4,λvals hl=>?_,aa,h2,h3,ok⟩
 ·exact ae.imp λp1 x=>x.imp λp2 x=>x.imp λp3 x=>x.imp λp4 x=>x.imp λp5 x=>x.imp λp6 x=>x.imp λp7 x=>x.imp λp8 x=>x.imp λp9 x=>x.imp λp10 x=>⟨D.2.trans (congrArg YI x.1),x.2⟩
 ·have e:fd.params.args.map (·.arg)=bJ:=D.4▸i1;exact e▸Fd (D.4▸p) (D.4▸a4) D.9 vals (hl.trans (e▸rfl)) _ _
include Z
theorem End.Fj{C f:ay}{cd:q9}(k:uH (fragOf h₀) C=some cd)(hd:cd.hasDict=true)(hm:cd.mro=.ref C::tg)(aa:ot (fragOf h₀) C (.type "object")=some true)(h2:ot (fragOf h₀) C (.type "Exception")=some true)(h3:eG (fragOf h₀) (.ref C) "__setattr__"=vL)(h4:eG (fragOf h₀) (.ref C) "word"=some none)(h5:eG (fragOf h₀) (.ref C) "__init__"=some (some (.ref f))){nm:String}{n t:ay}{u v:Nat}(ho:(fragOf h₀).lookup C=excAt nm C n t u v):rR (ie w h₀ h mg mb) C cd f:=
 ⟨⟨k,hd,λself=>by rw[hm];exact(Wv ..).trans (Fh.6 self),aa,h3⟩,h2,h4,h5,_,_,_,_,_,_,_,_,_,_,_,_,_,_,_,Z.K _ _ ho,Fh⟩
theorem End.Qo:∃fd fe dN bM,wF (ie w h₀ h mg mb) 38 35 55 fd fe dN bM:=by
 refine ao λG z=>?_;obtain⟨fd,D0⟩:=Ap Z.K (congrArg (λx=>x.2.1) Z.3);obtain⟨fe,D1⟩:=Ap Z.K (congrArg (λx=>x.2.2) Z.3);obtain⟨dN,k0,iL,m0⟩:=Z.cd 0 rfl rfl;obtain⟨bM,cw,fp,m1⟩:=Z.cd 1 rfl rfl;obtain⟨g0,g1⟩:=bV K2;refine z ?_;clear z G;refine⟨fd,fe,dN,bM,Z.Fj k0 iL m0 (Z.mro 0 rfl rfl) (Z.mro 2 rfl rfl) (Z.get 1 rfl rfl) (Z.get 3 rfl rfl) (Z.get 6 rfl rfl) (Z.obj 5 rfl rfl),Z.Fj cw fp m1 (Z.mro 1 rfl rfl) (Z.mro 3 rfl rfl) (Z.get 2 rfl rfl) (Z.get 4 rfl rfl) (Z.get 7 rfl rfl) (Z.obj 6 rfl rfl),Z.get 5 rfl rfl,?_,?_,?_,?_,?_,Z.An 1 rfl rfl,Z.get 0 rfl rfl,Z.bools.2.1,Z.An 2 rfl rfl,?_⟩
 ·exact Fi D0 g0 (congrArg kX CI) ⟨_,_,_,_,_,_,_,_,_,_,Qm,rfl⟩ (by decide) (by decide) (by decide) (by decide+kernel)
 ·exact Fi D1 g1 (congrArg IT CI) ⟨_,_,_,_,_,_,_,_,_,_,Qn,rfl⟩ (by decide) (by decide) (by decide) (by decide+kernel)
 ·exact Z.E9 (x:="Exception") ((IU (l:=vH) (f:=look ha) (g:=λ_w=>none)).mp (congrArg (λx=>x.2.2.2.1) vI) "Exception" (by decide))
 ·exact(Z.7 (aI "Exception") (by decide+kernel)).trans (by kernel_rfl)
 ·exact Z.ref (congrArg (λx=>x.2.2.2.2.2) vI)
 ·exact E7 (congrArg (λx=>x.2.1) Z.3)
theorem End.Qp(K:c0 (ie w h₀ h mg mb)):wq (ie w h₀ h mg mb):=by
 obtain⟨fd,fe,dN,bM,X⟩:=Z.Qo;refine⟨λc hc=>?_,PV K X⟩;have go:∀{c cd f},rR (ie w h₀ h mg mb) ((ie w h₀ h mg mb).iY c) cd f->jH (fragOf h₀) (.ref ((ie w h₀ h mg mb).iY c))=true->EJ (ie w h₀ h mg mb) c:=λY k=>by
  obtain⟨nm,q,N,bs,bm,sn,sub,ab,col,dd,k0,cw,cJ,k3,k5,hC,B⟩:=Y.5;exact⟨⟨nm,q,N,bs,bm,sn,sub,ab,col,dd,k0,cw,cJ,k3,k5,hC,B.2⟩,k⟩
 cases c with
 |zero=>exact go X.1 Z.bools.2.2.1
 |succ c=>
  cases c with
  |zero=>exact go X.2 Z.bools.2.2.2.1
  |succ c=>exact absurd (pq (pq hc)) (pB _)
end
end
section
open PyProof.Rows PySem.Calls
noncomputable def Fk:Prop:=∀ns:List Int,ns.length<=63->bH fn bk bl 100 65 [.np ns] ⟨0,λ_w=>.dead⟩ (λv _w=>v=.bool true) λ_w _w=>False
theorem Qq(tR:Fk){w:World}{h₀:aK}{aH:ag}{mg mb:Str->Option Value}(Z:End w h₀ aH.heap mg mb){ns:List Int}(hl:ns.length<=63){v:Value}(ai:bf (ie w h₀ aH.heap mg mb) [] aH.heap (.np ns) v){Q E:Value->ag->Prop}(q:∀{h' tk},(∀b o,aH.heap.get? b=some o->h'.get? b=some o)->Q (.bool true) {aH with heap:=h',toks:=tk}):
  au (aD PP w) yB (PySem.call (.ref 598) [v]) Q E aH:=by
 have K:=Z.ok;have X:=Z.Qp K;have CO:vO (ie w h₀ aH.heap mg mb) 100:=Pf K (Pn K (PG K) X) (λf b hf=>Z.fn hf) 100;have S:br (ie w h₀ aH.heap mg mb) [] ⟨0,λ_w=>.dead⟩ aH.heap:=⟨rfl,λb o q=>q,(λq hq=>nomatch hq),YJ,λl q e=>nomatch e⟩;refine pN (CO (f:=65) (xs:=[.np ns]) (l:=[]) (L:=0) ⟨S,(λe he=>nomatch he),rfl,rfl⟩ (by decide+kernel) (by decide+kernel) ⟨v,[],rfl,ai,rfl⟩ (tR ns hl) ⟨λ{v x aF s' σ'} t r p=>?_⟩ ⟨λ_w _w p=>p.elim⟩);obtain rfl:x=.bool true:=p;cases r;rw[t.3];exact q λb o e=>(t.1.2 b o e el λp=>p.elim λp x=>nomatch x.1).resolve_right λz=>nomatch z.1
set_option tactic.hygienic true in
theorem asks(tR:Fk):E4:=by
 intro w bK aH mg mb T d1 y hmg cK args vals as hpre hlay hrd hwl hlo;obtain⟨h₀,dF,ea,eb⟩:=y;have Z:End w h₀ aH.heap mg mb:=⟨dF,ea,eb,T.g,T.b,T.nolimit,T.builtins,(T.seer (by kernel_rfl)).mods.elim λm x=>x.1.elim λo x=>x.elim λes x=>x.elim λep x=>⟨o,x.1⟩⟩;obtain rfl:d1=598:=oE (cW (hmg.symm.trans (Z.ok.6 65 "law" rfl (by decide))))
 wrow_args hpre hlay hrd hwl hlo
 rename_i ns _ _ _ _ _ _ _ fa0 vs _ hL _ _ _ hI _ hlen _;refine Qq tR Z (aX.mp (a6.mp hlen)) ⟨fa0,vs,rfl,hL,hI⟩ λ{h' tk} keep=>⟨.inl ⟨.bool true,.bool true,[],rfl,λ_w=>rfl,.bool true,?_,λ_w=>⟨uQ,λa aM=>nomatch aM⟩⟩,.of_keep keep,rfl,.of_eq cK⟩
 refine' postW_of (r:=eP.toRowW) ?ss ?vv ?zz
 case ss=>kernel_rfl
 case vv=>wtm_val
 case zz=>w_fin
end
section
section
variable{σ:ah}{j l:Nat}{o o':cv}
theorem cT:(σ.set l o).get l=o:=if_pos rfl
theorem cV(h:j≠l)(g:σ.get j=o):(σ.set l o').get j=o:=(if_neg h).trans g
theorem bx:(σ.push o).get σ.next=o:=if_pos rfl
theorem dw(h:j≠σ.next)(g:σ.get j=o):(σ.push o').get j=o:=(if_neg h).trans g
theorem lA:(σ.set l o).set l o'=σ.set l o':=congrArg (ah.mk σ.next) (funext λj=>by by_cases h:j=l<;>simp[ah.set,h])
end
theorem nL{P:Prop}[Decidable P](h:P):(!decide P)=false:=by rw[decide_eq_true h];rfl
theorem rT{P:Prop}[Decidable P](h:¬P):(!decide P)=true:=by rw[decide_eq_false h];rfl
theorem bz{n f:Nat}{b:bB}{vs:List af}{σ:ah}{Q:cR}{E:kZ}(h:fn f=some b)(g:(y7 (TT n) b vs σ Q E).P):bH fn bk bl (n+1) f vs σ Q E:=⟨b,h,g⟩
theorem kA{t:d6}{f:af->cq->cX}{K:cX}{P:cq}{ρ:aQ}{σ:ah}(I:List af->aQ->ah->Prop)(h:I t.vs ρ σ)(ae:∀v r ρ σ,I (v::r) ρ σ->t.gI σ/\ (f v ⟨dY (I r),dY (I r),P.V,P.E⟩ ρ σ).P)(hN:∀ρ σ,I [] ρ σ->t.gI σ/\ (K ρ σ).P):vp t f K P ρ σ:=⟨I,h,ae,hN⟩
noncomputable def turns(t:d6)(f:af->cq->cX)(K:cX)(P:cq):List af->aQ->ah->Prop
 |[],ρ,σ=>t.gI σ/\ (K ρ σ).P
 |v::r,ρ,σ=>t.gI σ/\ (f v ⟨dY (turns t f K P r),dY (turns t f K P r),P.V,P.E⟩ ρ σ).P
theorem rU{t:d6}{f:af->cq->cX}{K:cX}{P:cq}{ρ:aQ}{σ:ah}(h:turns t f K P t.vs ρ σ):vp t f K P ρ σ:=⟨turns t f K P,h,λ_w _w _w _w=>id,λ_w _w=>id⟩
theorem lB{α:Type}{c:bt->cX}{b:cq->cX}{K:cX}{P:cq}{ρ:aQ}{σ:ah}(I:α->aQ->ah->Prop)(m:α->Nat)(a:α)(h:I a ρ σ)(ae:∀a ρ σ,I a ρ σ->(c (yZ (b ⟨dY λρ σ=>∃a',m a'<m a/\ I a' ρ σ,dY λρ σ=>∃a',m a'<m a/\ I a' ρ σ,P.V,P.E⟩) K) ρ σ).P):y3 c b K P ρ σ:=⟨α,I,m,a,h,ae⟩
theorem wI:∀ns:List Int,intsOf (ns.map .int)=some ns:=by
 intro ns
 induction ns with
 |nil=>
  exact rfl
 |cons n ns ih=>
  show(intsOf (ns.map .int)).map _=_;rw[ih];rfl
noncomputable def ah.bg(σ:ah):Prop:=∀l,σ.next<=l->σ.get l=.dead
inductive aw (M:List Nat) (σ σ':ah):Prop
 |mk (wf:σ'.bg) (next:σ.next<=σ'.next) (keep:∀l,l<σ.next->l∉M->σ'.get l=σ.get l)
section
variable{σ σ' gk i8:ah}{l:Nat}{o:cv}{M M':List Nat}
theorem ah.bg.lt(w:σ.bg)(h:σ.get l=o)(ho:o≠.dead):l<σ.next:=
 (Ww l σ.next).elim id λq=>absurd (h.symm.trans (w l q)) ho
theorem ah.bg.set(w:σ.bg)(h:l<σ.next):(σ.set l o).bg:=λj a8=>cV (cn (bU h a8)) (w j a8)
theorem ah.bg.push(w:σ.bg):(σ.push o).bg:=λj a8=>dw (cn a8) (w j (u8 a8))
theorem aw.refl(w:σ.bg):aw M σ σ:=⟨w,bI _,λ_w _w _w=>rfl⟩
theorem aw.trans(x:aw M σ gk)(y:aw M gk i8):aw M σ i8:=
 ⟨y.1,aB x.2 y.2,λl h q=>(y.3 l (bU h x.2) q).trans (x.3 l h q)⟩
theorem aw.mono(x:aw M σ σ')(h:∀l∈M,l∈M' \/σ.next<=l):aw M' σ σ':=
 ⟨x.1,x.2,λl hl q=>x.3 l hl λhm=>(h l hm).elim q (yD hl)⟩
theorem aw.m0(x:aw [] σ σ'):aw M σ σ':=x.mono λ_w h=>nomatch h
theorem aw.set(x:aw M σ σ')(h:l∈M \/σ.next<=l)(hl:l<σ'.next):aw M σ (σ'.set l o):=
 ⟨x.1.set hl,x.2,λj a8 q=>cV (λz=>h.elim (λh=>q (z▸h)) (λh=>yD a8 (z▸h))) (x.3 j a8 q)⟩
theorem aw.push(x:aw M σ σ'):aw M σ (σ'.push o):=
 ⟨x.1.push,l8 x.2,λj a8 q=>dw (bq (bU a8 x.2)) (x.3 j a8 q)⟩
theorem aw.at(x:aw M σ σ')(w:σ.bg)(h:σ.get l=o)(ho:o≠.dead)(q:l∉M):σ'.get l=o:=(x.3 l (w.lt h ho) q).trans h
theorem aw.aV(x:aw [] σ σ')(w:σ.bg)(h:σ.get l=o)(ho:o≠.dead):σ'.get l=o:=x.at w h ho λq=>nomatch q
theorem aw.over(x:aw M σ gk)(y:aw M' gk i8)(h:∀l∈M',l∈M \/σ.next<=l):aw M σ i8:=
 ⟨y.1,aB x.2 y.2,λl hl q=>(y.3 l (bU hl x.2) λhm=>(h l hm).elim q (yD hl)).trans (x.3 l hl q)⟩
theorem aw.nM(x:aw M σ gk)(y:aw [] gk i8):aw M σ i8:=x.over y λ_w h=>nomatch h
end
theorem tS{α:Type}{xs:List α}{k:Int}{v:α}(h0:0<=k)(az:k<=1000000)(h:xs[k.toNat]?=some v):eI xs k=some v:=by
 obtain⟨n,rfl⟩:=iy h0;have:df n 1000000=true:=j9.mpr (aX.mp az);show(match df n 1000000 with|true=>xs[n]?|false=>none)=some v;rw[this];exact h
theorem wJ{α β:Type}{f:α->β}{xs:List α}{k:Int}(h0:0<=k)(aa:k<xs.length)(az:k<=1000000):∃v,xs[k.toNat]?=some v/\ eI (xs.map f) k=some (f v):=by
 have h:k.toNat<xs.length:=(Wx h0).mpr aa;exact⟨xs[k.toNat],jL h,tS h0 az (by rw[sP,jL h];rfl)⟩
theorem Aq{x:Int}:∀r:List Int,kj x (r.map .int)=some (decide (x∈r)):=by
 intro r
 induction r with
 |nil=>
  exact rfl
 |cons z r ih=>
  show(if z=x then(kj x (r.map .int)).map λ_w=>true else kj x (r.map .int))=_;rw[ih];by_cases h:z=x
  ·subst h;simp
  ·simp[h,sN h]
theorem lmap{α β:Type}{f:α->β}{xs:List α}{n:Nat}(h:xs.length<=n):(xs.map f).length<=n:=(cF f).symm▸h
theorem Fl{α β:Type}{f:α->β}{xs:List α}{P:Int->Prop}(h:P xs.length):P (xs.map f).length:=(cF f).symm▸h
end
section
set_option hygiene false
local macro_rules
  | `(tactic|exists $ts,*)=> `(tactic|first $[|with_reducible exact $ts]* |with_reducible assumption|with_reducible exact cT|with_reducible exact bx|(with_reducible apply sN;with_reducible assumption)|exact of_decide_eq_true rfl|((first|with_reducible apply cV|with_reducible apply dw|with_reducible apply Wy)<;>exists $ts,*)|omega)
  | `(tactic|nomatch $ts,*)=> `(tactic|(
    refine Ask.run λdz=>?_
    repeat specialize dz (by first
      |exact(rfl:_=Hf _)
      |exact(rfl:_=true)
      |exact(rfl:_=false)
      |(with_reducible apply decide_eq_true;exists $ts,*)
      |(with_reducible apply decide_eq_false;exists $ts,*)
      |(with_reducible apply nL;exists $ts,*)
      |(with_reducible apply rT;exists $ts,*)
      |exists $ts,*
      |exact True.intro)
    first|with_reducible exact dz|(refine dz ?_;clear dz)|(refine Ask.back dz ?_;clear dz)))
noncomputable abbrev wl(ls:Nat)(p w:Int):cv:=.list [.loc ls,.int p,.int w]
inductive Well (σ:ah) (lw:Nat) (ls:Nat) (ns:List Int) (p w:Int):Prop
 |mk (at_:σ.get lw=wl ls p w) (nat:σ.get ls=.list (ns.map .int)) (ne:ls≠lw) (len:ns.length<=63) (hp:0<=p)
theorem Qr{n:Nat}{σ:ah}{lw ls:Nat}{ns:List Int}{p w size:Int}(W:Well σ lw ls ns p w)(ar:0<size)(hs':size<1000000)
  {Q:cR}{E:Nat->ah->Prop}(h:∀r p' w',0<=r->r<size->Well (σ.set lw (wl ls p' w')) lw ls ns p' w'->Q (.int r) (σ.set lw (wl ls p' w'))):bH fn bk bl (n+1) 45 [.loc lw,.int size] σ Q E:=by
 obtain⟨aa,h2,hne,hl,hp⟩:=W;refine bz rfl ?_;have s1:size≠0/\ -18446744073709551616<size/\ size<18446744073709551616:=⟨Wz ar,by exact(bG (by decide) ar),by exact(bG hs' (by decide))⟩;have s3:=lmap (f:=af.int) (aB hl (show 63<=1000000 by decide));have fin:∀v r:Int,Q (.int (r.fmod size)) ((σ.set lw (.list [.loc ls,.int (p+1),.int w])).set lw (wl ls (p+1) ((w*75+v.fmod 65537+74).fmod 65537))):=λv r=>by
  rw[lA];exact h _ _ _ (WC r ar) (WD r ar) ⟨cT,cV hne h2,hne,hl,by exact(fM hp (by decide))⟩
 by_cases hlt:p<(ns.length:Int)
 ·obtain⟨v,ai,cK⟩:=wJ (f:=af.int) hp hlt (by exact(a6.mp λaq=>bp.go (.c _ (.c _ .o)) (.c 1 (.a (.v 1) (.n 1)) (.v 0) (.c 1 (.a (.n 1000000) (.n 1)) (.v 1) (.c 1 (.v 0) (.n 63) .o))) rfl hlt aq (aX.mpr hl)));have hlt:=Fl (f:=af.int) (P:=λl=>p<l) hlt;nomatch yE (show _ by decide);exact fin v _
 ·have hlt:=Fl (f:=af.int) (P:=λl=>¬p<l) hlt;nomatch yE (show _ by decide);exact fin p _
theorem tT(a:Int){b:Int}(h:0<=b):a.fdiv b=a/b:=Int.fdiv_eq_ediv_of_nonneg a h
theorem lC(a:Int){b:Int}(h:0<=b):a.fmod b=a%b:=Int.fmod_eq_emod_of_nonneg a h
theorem tU(v:Int)(k:Nat):Builtin.bitAnd v ((2^k-1:Nat):Int)=v%(2^k:Nat):=by
 have az:(0:Int)<=((2^k-1:Nat):Int):=cD _;have hp:0<2^k:=Nat.two_pow_pos k;unfold Builtin.bitAnd;rw[decide_eq_true az];by_cases h:0<=v
 ·rw[decide_eq_true h];simp only[fc,WE];obtain⟨n,rfl⟩:=iy h;simp
 ·rw[decide_eq_false h];simp only[fc,Builtin.bitNot];rw[Nat.and_comm,WE];obtain⟨n,hn⟩:=iy (show 0<= -v-1 by exact(a6.mp λaq=>bp.go (.c _ (.c _ (.c _ .o))) (.c 1 (.a (.v 2) (.n 1)) (.n 0) (.c 1 (.a (.v 0) (.n 1)) (.n 0) (.c 1 (.v 1) (.a (.v 0) (.n 1)) (.c 1 (.n 0) (.a (.v 1) (.v 2)) .o)))) rfl (eR.mp h) aq (aP (bF (dB _ _))) (aP (bF (fy _)))));have ev:v= -(n:Int)-1:=by exact(kY (a6.mp λaq=>bp.go (.c _ (.c _ (.c _ (.c _ (.c _ (.c _ .o)))))) (.c 1 (.v 3) (.v 2) (.c 1 (.a (.v 4) (.n 1)) (.v 0) (.c 1 (.a (.v 2) (.n 1)) (.v 1) (.c 1 (.v 5) (.a (.v 4) (.n 1)) (.c 1 (.a (.v 1) (.v 0)) (.n 0) (.c 1 (.n 0) (.a (.v 5) (.v 3)) .o)))))) rfl (aP (bF hn)) aq (aP (dB _ _)) (aP (bF (dB _ _))) (aP (fy _)) (aP (bF (fy _)))) (a6.mp λaq=>bp.go (.c _ (.c _ (.c _ (.c _ (.c _ (.c _ .o)))))) (.c 1 (.v 0) (.v 1) (.c 1 (.a (.v 5) (.n 1)) (.v 4) (.c 1 (.v 2) (.a (.v 0) (.n 1)) (.c 1 (.a (.v 4) (.n 1)) (.v 3) (.c 1 (.n 0) (.a (.v 2) (.v 5)) (.c 1 (.a (.v 3) (.v 1)) (.n 0) .o)))))) rfl (aP hn) aq (aP (bF (dB _ _))) (aP (dB _ _)) (aP (bF (fy _))) (aP (fy _))))
  rw[hn,fc,ev];have hm:=Nat.mod_lt n hp;have e1:((2^k-1:Nat):Int)=(2^k:Nat)-1:=by exact(kY (a6.mp λaq=>bp.go (.c _ (.c _ (.c _ .o))) (.c 1 (.a (.v 2) (.n 1)) (.v 0) (.c 1 (.a (.v 0) (.n 1)) (.v 1) (.c 1 (.v 1) (.a (.v 2) (.n 1)) .o))) rfl aq (aX.mpr (bb (dU (bE λz1=>bj.go (.c _ .o) (.c 1 (.a (.n 0) (.n 1)) (.v 0) (.c 1 (.a (.v 0) (.n 1)) (.n 1) .o)) rfl hp z1)))) (aP (bF (dB _ _)))) (a6.mp λaq=>bp.go (.c _ (.c _ (.c _ .o))) (.c 1 (.a (.v 0) (.n 1)) (.v 2) (.c 1 (.v 1) (.a (.v 0) (.n 1)) (.c 1 (.a (.v 2) (.n 1)) (.v 1) .o))) rfl aq (aX.mpr (bb (bF (dU (bE λz1=>bj.go (.c _ .o) (.c 1 (.a (.n 0) (.n 1)) (.v 0) (.c 1 (.a (.v 0) (.n 1)) (.n 1) .o)) rfl hp z1))))) (aP (dB _ _))))
  rw[e1];generalize cK:2^k=m at*;have e2:=Uc n m;have e3:(-(n:Int)-1)=(m:Int)*(-(((n/m:Nat)):Int)-1)+((m:Int)-1-((n%m:Nat):Int)):=by
   have:(n:Int)=(m:Int)*((n/m:Nat):Int)+((n%m:Nat):Int):=by exact_mod_cast e2.symm
   rw[this,WF,BW,Br];exact Jj _ _ _
  rw[e3,ps,WG,jE (WH (Int.le_sub_one_of_lt (dR.mpr hm))) (by exact(eR.mp λaq=>bp.go (.c _ (.c _ (.c _ (.c _ .o)))) (.c 1 (.v 0) (.v 3) (.c 1 (.n 0) (.v 2) (.c 1 (.a (.v 1) (.n 1)) (.v 0) (.c 1 (.a (.v 3) (.v 2)) (.v 1) .o)))) rfl aq (cD _) (aP (dB _ _)) (aP (dB _ _))))]
theorem Qs(a b:Nat):Builtin.bitOr (a:Int) (b:Int)=((a|||b:Nat):Int):=by
 unfold Builtin.bitOr Builtin.bitAnd Builtin.bitNot;rw[decide_eq_false (by exact(λaq=>bp.go (.c _ (.c _ (.c _ .o))) (.c 1 (.n 0) (.v 2) (.c 1 (.a (.v 2) (.n 1)) (.v 0) (.c 1 (.a (.v 0) (.v 1)) (.n 0) (.c 1 (.n 0) (.v 1) .o)))) rfl aq (aP (dB _ _)) (aP (fy _)) (cD _))),decide_eq_false (by exact(λaq=>bp.go (.c _ (.c _ (.c _ .o))) (.c 1 (.n 0) (.v 2) (.c 1 (.a (.v 2) (.n 1)) (.v 0) (.c 1 (.a (.v 0) (.v 1)) (.n 0) (.c 1 (.n 0) (.v 1) .o)))) rfl aq (aP (dB _ _)) (aP (fy _)) (cD _)))];simp only;have e1:(-(-(a:Int)-1)-1).toNat=a:=B3 a;have e2:(-(-(b:Int)-1)-1).toNat=b:=B3 b;rw[e1,e2];exact(kY (a6.mp λaq=>bp.go (.c _ (.c _ (.c _ (.c _ (.c _ .o))))) (.c 1 (.a (.v 3) (.n 1)) (.v 2) (.c 1 (.a (.v 2) (.n 1)) (.v 0) (.c 1 (.a (.v 0) (.v 1)) (.n 0) (.c 1 (.v 4) (.a (.v 1) (.n 1)) (.c 1 (.n 0) (.a (.v 4) (.v 3)) .o))))) rfl aq (aP (dB _ _)) (aP (fy _)) (aP (bF (dB _ _))) (aP (bF (fy _)))) (a6.mp λaq=>bp.go (.c _ (.c _ (.c _ (.c _ (.c _ .o))))) (.c 1 (.a (.v 3) (.n 1)) (.v 0) (.c 1 (.v 4) (.a (.v 3) (.n 1)) (.c 1 (.n 0) (.a (.v 4) (.v 2)) (.c 1 (.a (.v 2) (.n 1)) (.v 1) (.c 1 (.a (.v 1) (.v 0)) (.n 0) .o))))) rfl aq (aP (bF (dB _ _))) (aP (bF (fy _))) (aP (dB _ _)) (aP (fy _))))
theorem Fm{a:Int}{k:Nat}(h0:0<=a)(aa:a<(2^k:Nat))(b:Nat):Builtin.bitOr a ((2^k*b:Nat):Int)=a+((2^k*b:Nat):Int):=by
 obtain⟨n,rfl⟩:=iy h0;rw[Qs,Nat.or_comm,<-Nat.two_pow_add_eq_or_of_lt (by exact_mod_cast aa)]
 push_cast;exact(kY (aP (ps _ _)) (aP (ps _ _)))
theorem wK(v:Int):Builtin.bitAnd v 127=v%128:=tU v 7
theorem Fn(v:Int):Builtin.bitAnd v 255=v%256:=tU v 8
theorem Qt(v:Int):Builtin.bitAnd v 63=v%64:=tU v 6
theorem Fo(v:Int):Builtin.bitAnd v 65535=v%65536:=tU v 16
theorem Fp(v:Int):Builtin.bitAnd v 4294967295=v%4294967296:=tU v 32
theorem Qu(v:Int):Builtin.bitOr (v%128) 128=v%128+128:=Fm (k:=7) (by exact(fJ _ (by decide:(128:Int)≠0))) (fw _ (by decide)) 1
noncomputable def dp(n:Int):UInt8:=n.toNat.toUInt8
noncomputable def lim:Bool->Int
 |true=>64
 |false=>128
theorem Ar(s:Bool):64<=lim s:=by cases s<;>decide
theorem less{s:Bool}{v:Int}(h:lim s<=v \/v< -64):(v/128).natAbs<v.natAbs:=by
 exact Jf (h.imp (λh=>dk (by decide) (bG (Ar s) h)) λh=>kP h (by decide))
noncomputable def rV(s:Bool):Nat->Int->List UInt8
 |0,_=>[]
 |n+1,v=>if lim s<=v \/v< -64 then dp (v%128+128)::rV s n (v/128)else[dp (v%128)]
noncomputable def a9(s:Bool)(v:Int):List UInt8:=rV s (v.natAbs+1) v
theorem Qv{s:Bool}:∀{n m:Nat}{v:Int},v.natAbs<n->v.natAbs<m->rV s n v=rV s m v:=by
 intro n
 induction n with
 |zero=>exact λh=>absurd h (pB _)
 |succ n ih=>
  intro m v aa h2;cases m with
  |zero=>exact absurd h2 (pB _)
  |succ m=>
   show(if _ then _::rV s n _ else _)=(if _ then _::rV s m _ else _);by_cases h:lim s<=v \/v< -64
   ·rw[if_pos h,if_pos h,ih (bU (less h) (lW aa)) (bU (less h) (lW h2))]
   ·rw[if_neg h,if_neg h]
theorem wL{s:Bool}{v:Int}(h:(lim s<=v) \/v< -64):a9 s v=dp (v%128+128)::a9 s (v/128):=(if_pos h).trans (congrArg _ (Qv (less h) (b9 _)))
theorem tV{s:Bool}{v:Int}(h:¬((lim s<=v) \/v< -64)):a9 s v=[dp (v%128)]:=if_neg h
theorem Qw{s:Bool}:∀(k:Nat){v:Int},-(128^k:Int)<=v->v<128^k->(a9 s v).length<=k+1:=by
 intro k
 induction k with
 |zero=>
  intro v aa h2;rw[tV λz=>z.elim (λz=>absurd (eZ (bG (Ar s) z) h2) (by decide)) λz=>absurd (eZ aa z) (by decide)];exact bI 1
 |succ k ih=>
  intro v aa h2;by_cases h:(lim s<=v) \/v< -64
  ·rw[wL h,mi];have:=ih (v:=v/128) (Int.le_ediv_of_mul_le (by decide) (by rw[WI,<-u9];exact aa)) (Int.ediv_lt_of_lt_mul (by decide) (by rw[<-u9];exact h2));exact(jn this)
  ·rw[tV h];simp
theorem XK{s:Bool}{v:Int}:0<(a9 s v).length:=by
 by_cases h:(lim s<=v) \/v< -64
 ·rw[wL h];simp
 ·rw[tV h];simp
theorem fq{v:Int}{n:Nat}:(bO v n).length=n:=by simp[bO]
theorem wM:(128:Int)^20=1393796574908163946345982392040522594123776:=by decide
section
variable{n:Nat}{σ:ah}{Q:cR}{E:Nat->ah->Prop}
theorem gP{s:Bool}{v:Int}(h: -(128^20)<=v)(h':v<128^20):(a9 s v).length<=21:=Qw 20 h h'
theorem Qx(x:Int):Builtin.bitOr (Builtin.bitAnd x 127) 128=x%128+128:=by rw[wK,Qu]
theorem Fq{α:Type}{a b:List α}{k:Nat}(e:(a++b).length<=k):a.length+b.length<=k:=bR▸e
theorem Fs{s:Bool}{v x:Int}{xs:List UInt8}(ak:xs++a9 s x=a9 s v)(hl:(a9 s v).length<=21)(h:lim s<=x \/x< -64):(xs++[dp (x%128+128)])++a9 s (x/128)=a9 s v/\ xs.length<=21/\ (0<=x%128+128/\ x%128+128<256):=by
 have h2:=Fq (ak▸hl);rw[wL h]at ak;exact⟨by rw[cG];exact ak,by exact(aB (c8 _ _) h2),by exact⟨(fM (fJ _ (by decide:(128:Int)≠0)) (by decide)),(dk (A9 (fw _ (by decide:(0:Int)<128)) _) (by decide))⟩⟩
theorem Ft{s:Bool}{v x:Int}{xs:List UInt8}(ak:xs++a9 s x=a9 s v)(hl:(a9 s v).length<=21)(h:¬(lim s<=x \/x< -64)):xs++[dp (x%128)]=a9 s v/\ xs.length<=21/\ (xs++[dp (x%128)]).length<=1000000:=by
 have h2:=Fq (ak▸hl);rw[tV h]at ak;exact⟨ak,by exact(aB (c8 _ _) h2),by rw[ak];exact(aB hl (by decide))⟩
inductive nN (σ:ah) (s:Bool) (v:Int) (a:Int×List UInt8) (ρ:aQ) (aj:ah):Prop
 |mk (r0:ρ 0=some (.int a.1)) (bN:ρ 1=some (.loc σ.next)) (g:aj.get σ.next=.dW a.2) (u:aw [] σ aj) (n:σ.next<aj.next) (p:s=true \/0<=a.1) (x:a.2++a9 s a.1=a9 s v)
theorem Qy(x:Int):x.fdiv (2^(7:Int).toNat)=x/128:=tT x (by decide)
section
variable{v:Int}{s:Bool}{a:Int×List UInt8}{ρ:aQ}{aj:ah}
theorem nN.start(w:σ.bg)(p:s=true \/0<=v)(r0:ρ 0=some (.int v))(bN:ρ 1=some (.loc σ.next)):nN σ s v (v,[]) ρ (σ.push (.dW [])):=⟨r0,bN,bx,(aw.refl w).push,b9 _,p,rfl⟩
theorem nN.go(H:nN σ s v a ρ aj)(hl:(a9 s v).length<=21)(h:lim s<=a.1 \/a.1< -64):
  (0<=Builtin.bitOr (Builtin.bitAnd a.1 127) 128/\ Builtin.bitOr (Builtin.bitAnd a.1 127) 128<256/\ a.2.length<1000000)/\
  nN σ s v (a.1/128,a.2++[dp (a.1%128+128)]) (ρ.set 0 (.int (a.1.fdiv (2^(7:Int).toNat)))) (aj.set σ.next (.dW (a.2++[(Builtin.bitOr (Builtin.bitAnd a.1 127) 128).toNat.toUInt8]))):=by
 obtain⟨e,e1,e2⟩:=Fs H.7 hl h;rw[Qx,Qy];refine⟨by exact⟨e2.1,⟨e2.2,(cM e1 (by decide))⟩⟩,rfl,H.2,cT,H.4.set (.inr (bI _)) H.5,H.5,H.6.imp_right λh=>IW h (by decide),e⟩
theorem nN.stop(H:nN σ s v a ρ aj)(hl:(a9 s v).length<=21)(h:¬(lim s<=a.1 \/a.1< -64)):(0<=a.1%128/\ a.1%128<256/\ a.2.length<1000000)/\ (a.2++[(a.1%128).toNat.toUInt8]).length<=1000000/\ (a.2++[(a.1%128).toNat.toUInt8])=a9 s v/\ ∀o,aw [] σ (aj.set σ.next o):=by
 obtain⟨e,e1,e2⟩:=Ft H.7 hl h;exact⟨by exact⟨(fJ _ (by decide:(128:Int)≠0)),⟨(bG (fw _ (by decide:(0:Int)<128)) (by decide)),(cM e1 (by decide))⟩⟩,e2,e,λ_w=>H.4.set (.inr (bI _)) H.5⟩
end
theorem Qz{v:Int}(w:σ.bg)(h0:0<=v)(ai:v<128^20)(h:∀σ',aw [] σ σ'->Q (.bytes (a9 false v)) σ'):bH fn bk bl (n+1) 9 [.int v] σ Q E:=by
 refine bz rfl ?_;nomatch h0;have hl:=gP (s:=false) (by exact(a6.mp λaq=>bp.go (.c _ (.c _ (.c _ .o))) (.c 2 (.n 0) (.v 2) (.c 1 (.a (.v 2) (.n 1)) (.v 0) (.c 1 (.a (.v 2) (.n 1)) (.v 1) (.c 1 (.a (.v 1) (.v 0)) (.n 0) .o)))) rfl h0 ai aq (aP (fy _)))) ai;refine lB (nN σ false v) (λa=>a.1.toNat) (v,[]) (.start w (.inr h0) rfl rfl) λa ρ aj H=>?_;have p:=H.6.resolve_left qX;by_cases hc:127<a.1
 ·have G:=H.go hl (.inl hc);nomatch H.1,H.2,H.3,hc,G.1;exact⟨_,by dsimp only;exact(dP λaq=>bp.go (.c _ (.c _ (.c _ (.c _ (.c _ .o))))) (.c 127 (.a (.n 127) (.n 1)) (.v 0) (.c 128 (.v 4) (.v 3) (.c 128 (.v 0) (.v 4) (.c 128 (.v 3) (.v 1) (.c 1 (.a (.m 128 (.v 1)) (.v 2)) (.v 0) (.c 1 (.n 0) (.v 2) .o)))))) rfl hc (aX.mpr aq) (aP (bF (gD p))) (aP (gD (a6.mp λz1=>bp.go (.c _ (.c _ (.c _ .o))) (.c 1 (.n 0) (.v 2) (.c 128 (.a (.v 1) (.n 1)) (.n 0) (.c 1 (.v 2) (.a (.m 128 (.v 1)) (.v 0)) (.c 1 (.a (.v 0) (.n 1)) (.n 128) .o)))) rfl p z1 (aP (bF (mj _ _))) (fw _ (by decide:(0:Int)<128))))) (aP (mj _ _)) (fJ _ (by decide:(128:Int)≠0))),G.2⟩
 ·have G:=H.stop hl (λz=>z.elim hc (a6.mpr (bG (by decide) p)));rw[jE p (eZ (a6.mp hc) (by decide))]at G;nomatch H.1,H.2,H.3,hc,G.1,G.2.1;exact G.2.2.1▸h _ (G.2.2.2 _)
theorem QA{v:Int}(w:σ.bg)(h0: -(128^20)<=v)(ai:v<128^20)(h:∀σ',aw [] σ σ'->Q (.bytes (a9 true v)) σ'):bH fn bk bl (n+1) 10 [.int v] σ Q E:=by
 refine bz rfl ?_;nomatch w;have hl:=gP (s:=true) h0 ai;refine lB (nN σ true v) (λa=>a.1.natAbs) (v,[]) (.start w (.inl rfl) rfl rfl) λa ρ aj H=>?_;have G:=H.go hl;by_cases hc: -64<=a.1
 ·by_cases hd:a.1<64
  ·have G:=H.stop hl (λz=>z.elim (eR.mpr hd) (a6.mpr hc));rw[<-wK]at G;nomatch H.1,H.2,H.3,hc,hd,G.1,G.2.1;exact G.2.2.1▸h _ (G.2.2.2 _)
  ·have G:=H.go hl (.inl (a6.mp hd));nomatch H.1,H.2,H.3,hc,hd,G.1;exact⟨_,by dsimp only;exact(dP λaq=>bp.go (.c _ (.c _ (.c _ (.c _ (.c _ .o))))) (.c 127 (.n 64) (.v 0) (.c 128 (.v 4) (.v 3) (.c 128 (.v 0) (.v 4) (.c 128 (.v 3) (.v 1) (.c 1 (.a (.m 128 (.v 1)) (.v 2)) (.v 0) (.c 1 (.n 0) (.v 2) .o)))))) rfl (a6.mp hd) (aX.mpr aq) (aP (bF (Ie (bG (by decide) (a6.mp hd))))) (aP (Ie (a6.mp λz1=>bp.go (.c _ (.c _ (.c _ .o))) (.c 1 (.n 64) (.v 2) (.c 128 (.a (.v 1) (.n 1)) (.n 0) (.c 1 (.v 2) (.a (.m 128 (.v 1)) (.v 0)) (.c 1 (.a (.v 0) (.n 1)) (.n 128) .o)))) rfl (a6.mp hd) z1 (aP (bF (mj _ _))) (fw _ (by decide:(0:Int)<128))))) (aP (mj _ _)) (fJ _ (by decide:(128:Int)≠0))),G.2⟩
 ·have G:=H.go hl (.inr (eR.mp hc));nomatch H.1,H.2,H.3,hc,G.1;exact⟨_,less (s:=true) (.inr (eR.mp hc)),G.2⟩
inductive rW (σ:ah) (s:Bool) (v:Int) (a:Int×List Int) (ρ:aQ) (aj:ah):Prop
 |mk (r0:ρ 0=some (.int a.1)) (bN:ρ 1=some (.bool s)) (cu:ρ 2=some (.loc σ.next)) (g:aj.get σ.next=.list (a.2.map .int)) (u:aw [] σ aj) (n:σ.next<aj.next) (p:s=true \/0<=a.1) (b:∀x∈a.2,0<=x/\ x<256) (x:a.2.map dp++a9 s a.1=a9 s v)
theorem db{α:Type}{P:α->Prop}{xs:List α}{y:α}(h:∀x∈xs,P x)(hy:P y):∀x∈xs++[y],P x:=λx ak=>(lZ.mp ak).elim (h x) λq=>bW.mp q▸hy
section
variable{v:Int}{s:Bool}{a:Int×List Int}{ρ:aQ}{aj:ah}
theorem rW.go(H:rW σ s v a ρ aj)(hl:(a9 s v).length<=21)(h:lim s<=a.1 \/a.1< -64):
  (a.2.map af.int).length<1000000/\ rW σ s v (a.1/128,a.2++[a.1%128+128]) (ρ.set 0 (.int (a.1.fdiv 128))) (aj.set σ.next (.list (a.2.map .int++[af.int (a.1.fmod 128+128)]))):=by
 obtain⟨e,e1,e2⟩:=Fs H.9 hl h;rw[tT _ (by decide),lC _ (by decide),cF]at*;refine⟨by exact(cM e1 (by decide)),rfl,H.2,H.3,by rw[cN];exact cT,H.5.set (.inr (bI _)) H.6,H.6,H.7.imp_right λh=>IW h (by decide),db H.8 e2,by rw[cN];exact e⟩
theorem Fu(xs:List Int)(z:Int):intsOf (xs.map af.int++[af.int z])=some (xs++[z]):=by
 have:=wI (xs++[z]);rwa [cN]at this
theorem rW.stop(H:rW σ s v a ρ aj)(hl:(a9 s v).length<=21)(h:¬(lim s<=a.1 \/a.1< -64)):
  (a.2.map af.int).length+[af.int (a.1.fmod 128)].length<=1000000/\ ((∀n∈a.2++[a.1.fmod 128],0<=n/\ n<256)/\ (a.2.map af.int++[af.int (a.1.fmod 128)]).length<=1000000)/\ iz (a.2++[a.1.fmod 128])=a9 s v:=by
 obtain⟨e,e1,e2⟩:=Ft H.9 hl h;rw[lC _ (by decide),bR,cF]at*;have:[af.int (a.1%128)].length=1:=rfl;exact⟨by exact(aB (eY e1 (bb this)) (by decide)),⟨db H.8 (by exact⟨(fJ _ (by decide:(128:Int)≠0)),(bG (fw _ (by decide:(0:Int)<128)) (by decide))⟩),by exact(aB (eY e1 (bb this)) (by decide))⟩,e▸by unfold iz;rw[cN];rfl⟩
end
theorem nO{s:Bool}{v:Int}(w:σ.bg)(h0: -(128^20)<=v)(ai:v<128^20)(ar:s=true \/0<=v)(h:∀σ',aw [] σ σ'->Q (.bytes (a9 s v)) σ'):bH fn bk bl (n+1) 47 [.int v,.bool s] σ Q E:=by
 refine bz rfl ?_;nomatch w;have hl:=gP (s:=s) h0 ai;refine lB (rW σ s v) (λa=>a.1.natAbs) (v,[]) ⟨rfl,rfl,rfl,bx,(aw.refl w).push,b9 _,ar,(λ_w h=>nomatch h),rfl⟩ λa ρ aj H=>?_;have nn:σ.next≠aj.next:=bq H.6
 have ei:=Fu a.2 (a.1.fmod 128);by_cases hc:lim s<=a.1
 ·have G:=H.go hl (.inl hc);have hl1:=less (.inl hc);cases s<;>(dsimp only[lim]at hc;nomatch H.1,H.2,H.3,H.4,hc,G.1;exact⟨_,hl1,G.2⟩)
 ·by_cases hd:a.1< -64
  ·have G:=H.go hl (.inr hd);have hl1:=less (s:=s) (.inr hd);cases s<;>(dsimp only[lim]at hc;nomatch H.1,H.2,H.3,H.4,hc,hd,G.1;exact⟨_,hl1,G.2⟩)
  ·have G:=H.stop hl (λz=>z.elim hc hd);cases s<;>(dsimp only[lim]at hc;nomatch H.1,H.2,H.3,H.4,hc,hd,G.1,G.2.1,ei,nn;exact G.2.2▸h _ H.5.push.push)
theorem rX{its:d6}{fb:af->ah->(Option af->ah->Prop)->Ask}{F:List af->ah->Ask}{α:Type}{M:List Nat}(vs:List α)(f g:α->af)(ai:its.vs=vs.map f)(w:σ.bg)(hl:vs.length<=1000000)(az:∀aj,aw M σ aj->its.gI aj)
  (ae:∀a∈vs,∀aj,aw M σ aj-> ∀Q:Option af->ah->Prop,(∀bP,aw M σ bP->Q (some (g a)) bP)->(fb (f a) aj Q).P)(h:∀σ',aw M σ σ'->(F (vs.map g) σ').P):rh its fb F σ:=by
 refine⟨λr acc aj=>∃done rest,vs=done++rest/\ r=rest.map f/\ acc=done.map g/\ aw M σ aj,⟨[],vs,rfl,ai,rfl,.refl w⟩,?_,?_⟩
 ·rintro v r acc aj ⟨d,b7,e,e2,rfl,u⟩
  refine⟨az aj u,?_⟩;cases b7 with
  |nil=>cases e2
  |cons a b7=>
   cases e2;refine ae a (e▸fK _ (.head _)) aj u _ λbP u'=>⟨?_,d++[a],b7,by rw[e,cG];rfl,rfl,by rw[cN];rfl,u'⟩;rw[e,bR,mi]at hl;rw[cF];exact(bU (uw (c8 _ _)) hl)
 ·rintro acc aj ⟨d,b7,e,e2,rfl,u⟩
  obtain rfl:=ml.mp e2.symm;rw[dK]at e;exact⟨az aj u,e▸h aj u⟩
theorem nP{v k:Int}(w:σ.bg)(h0:0<=k)(az:k<=8)(h:∀σ',aw [] σ σ'->Q (.bytes (bO v k.toNat)) σ'):bH fn bk bl (n+1) 46 [.int v,.int k] σ Q E:=by
 refine bz rfl ?_;nomatch h0;have hl:(cE k.toNat).length<=1000000:=by rw[nd];exact(bE λaq=>bp.go (.c _ (.c _ .o)) (.c 1 (.v 0) (.n 8) (.c 1 (.a (.n 1000000) (.n 1)) (.v 1) (.c 1 (.v 1) (.v 0) .o))) rfl az (aX.mpr aq) (aP (gD (a6.mp λz1=>bp.go (.c _ .o) (.c 1 (.n 0) (.v 0) (.c 1 (.a (.v 0) (.n 1)) (.n 0) .o)) rfl h0 z1))))
 refine rX (M:=[]) (cE k.toNat) (λ(j:Nat)=>af.int j) (λ(j:Nat)=>af.int ((v.fdiv (256^(j:Int).toNat)).fmod 256)) rfl w hl (λ_w _w=>trivial) ?_ ?_
 ·intro j a8 aj u Q h;have a8:=yC.mp a8;have hp:(0:Int)<256^j:=BX (by decide);have hle:(256:Int)^j<=72057594037927936:=by
   have:=IX (show 0<256 by decide) (show j<=7 from lW (bU a8 (Ha.mpr az)));have e:(256:Int)^j=((256^j:Nat):Int):=(ra 256 j).symm;rw[e];exact aX.mpr this
  have c:((256:Int)^(j:Int).toNat≠0/\ -18446744073709551616<(256:Int)^(j:Int).toNat/\ (256:Int)^(j:Int).toNat<18446744073709551616):=show((256:Int)^j≠0/\ -18446744073709551616<(256:Int)^j/\ (256:Int)^j<18446744073709551616)from⟨by exact(λaq=>bp.go (.c _ .o) (.c 1 (.a (.n 0) (.n 1)) (.v 0) (.c 1 (.v 0) (.n 0) .o)) rfl hp (aP aq)),by exact(bG (by decide) hp),by exact(eZ hle (by decide))⟩;have dN:0<=(j:Int)/\ (j:Int)<=1000/\ (-18446744073709551616:Int)<256/\ (256:Int)<18446744073709551616:=by exact⟨(cD _),⟨(a6.mp λaq=>bp.go (.c _ (.c _ (.c _ .o))) (.c 1 (.v 0) (.n 8) (.c 1 (.a (.n 1000) (.n 1)) (.v 2) (.c 1 (.a (.v 2) (.n 1)) (.v 1) (.c 1 (.v 1) (.v 0) .o)))) rfl az aq (aX.mpr a8) (aP (gD (a6.mp λz1=>bp.go (.c _ .o) (.c 1 (.n 0) (.v 0) (.c 1 (.a (.v 0) (.n 1)) (.n 0) .o)) rfl h0 z1)))),⟨(by decide),(by decide)⟩⟩⟩
  nomatch dN,c;exact h aj u
 ·intro σ' u;have e:∀j:Nat,(v.fdiv (256^(j:Int).toNat)).fmod 256=v/256^j%256:=λj=>by rw[tT _ (Int.pow_nonneg (by decide)),lC _ (by decide)];rfl
  have ei:intsOf ((cE k.toNat).map λ(j:Nat)=>.int (v/256^j%256))=some ((cE k.toNat).map λ(j:Nat)=>v/256^j%256):=(congrArg intsOf oF).symm.trans (wI _);simp only[e];nomatch bx,ei,lmap hl,Wy (show∀n∈(cE k.toNat).map λ(j:Nat)=>v/256^j%256,0<=n/\ n<256 from λx ak=>by obtain⟨j,_,rfl⟩:=iS.mp ak;exact⟨fJ _ (by decide),fw _ (by decide)⟩) (lmap hl);rw[show iz ((cE k.toNat).map λ(j:Nat)=>v/256^j%256)=bO v k.toNat by unfold iz bO;rw[oF];rfl];exact h _ u.push
end
inductive Op where
 |dG (t:Int)|loc (v:Int)|rest (r:Int)|iM|rem|res|kB (r:Int)|same (r:Int)|kC (a b:Int)|kD (r:Int)
 |hh (r x:Int)|ig (x:Int)|off (r x:Int)|hi (r x:Int)|val (r x:Int)
noncomputable def Op.nm:Op->String
 |.dG _=>"advance_loc"|.loc _=>"set_loc"|.rest _=>"restore"|.iM=>"nop"|.rem=>"remember_state"|.res=>"restore_state"|.kB _=>"undefined"|.same _=>"same_value"
 |.kC _ _=>"register"|.kD _=>"def_cfa_register"|.hh _ _=>"def_cfa"|.ig _=>"def_cfa_offset"|.off _ _=>"offset"|.hi _ _=>"offset_extended"|.val _ _=>"val_offset"
noncomputable def Op.args:Op->List Int
 |.dG t=>[t]|.loc v=>[v]|.rest r=>[r]|.iM=>[]|.rem=>[]|.res=>[]|.kB r=>[r]|.same r=>[r]
 |.kC a b=>[a,b]|.kD r=>[r]|.hh r x=>[r,x]|.ig x=>[x]|.off r x=>[r,x]|.hi r x=>[r,x]|.val r x=>[r,x]
noncomputable abbrev Op.v(o:Op):af:=.tup [.str o.nm,.tup (o.args.map .int)]
noncomputable def Op.gG:Op->Prop
 |.rest r|.kB r|.same r|.kD r|.hh r _|.off r _|.hi r _|.val r _=>0<=r
 |.kC a b=>0<=a/\ 0<=b
 |_=>True
noncomputable def Op.small(o:Op):Prop:=∀x∈o.args,-(2^100)<x/\ x<2^100
noncomputable def Op.fits(c d:Int):Op->Prop
 |.dG t=>c≠0/\ t.fmod c=0/\ 0<=t.fdiv c
 |.hh _ x=>0<=x \/(d≠0/\ x.fmod d=0)
 |.ig x=>0<=x \/(d≠0/\ x.fmod d=0)
 |.off r x=>d≠0/\ x.fmod d=0/\ r<64/\ 0<=x.fdiv d
 |.hi _ x|.val _ x=>d≠0/\ x.fmod d=0
 |_=>True
noncomputable def XM(v:Int)(k:Nat):List UInt8:=bO v k
noncomputable def Op.wr(c d:Int):Op->List UInt8
 |.dG t=>if t.fdiv c<64 then[dp (64+t.fdiv c)]else if t.fdiv c<256 then[2,dp (t.fdiv c)]else if t.fdiv c<65536 then 3::bO (t.fdiv c) 2 else 4::bO (t.fdiv c) 4
 |.loc v=>1::bO v 4
 |.rest r=>if r<64 then[dp (192+r)]else 6::a9 false r
 |.iM=>[0]|.rem=>[10]|.res=>[11]
 |.kB r=>7::a9 false r|.same r=>8::a9 false r|.kC a b=>9::(a9 false a++a9 false b)|.kD r=>13::a9 false r
 |.hh r x=>if 0<=x then 12::(a9 false r++a9 false x)else 18::(a9 false r++a9 true (x.fdiv d))
 |.ig x=>if 0<=x then 14::a9 false x else 19::a9 true (x.fdiv d)
 |.off r x=>dp (128+r)::a9 false (x.fdiv d)
 |.hi r x=>if 0<=x.fdiv d then 5::(a9 false r++a9 false (x.fdiv d))else 17::(a9 false r++a9 true (x.fdiv d))
 |.val r x=>if 0<=x.fdiv d then 20::(a9 false r++a9 false (x.fdiv d))else 21::(a9 false r++a9 true (x.fdiv d))
noncomputable def Op.kinds:Op->String
 |.dG _=>"n"|.loc _=>"n"|.rest _=>"r"|.iM=>""|.rem=>""|.res=>""|.kB _=>"r"|.same _=>"r"
 |.kC _ _=>"rr"|.kD _=>"r"|.hh _ _=>"rn"|.ig _=>"n"|.off _ _=>"rn"|.hi _ _=>"rn"|.val _ _=>"rn"
theorem Op.tab(o:Op):g6 o.nm mq=some o.kinds:=by cases o<;>rfl
theorem QB:"".length=0:=rfl
theorem QC:"n".length=1:=rfl
theorem QD:"r".length=1:=rfl
theorem QE:"rr".length=2:=rfl
theorem QF:"rn".length=2:=rfl
theorem QG:jr ""=[]:=rfl
theorem QH:jr "n"=[.str "n"]:=rfl
theorem str:jr "r"=[.str "r"]:=rfl
theorem QI:jr "rr"=[.str "r",.str "r"]:=rfl
theorem QJ:jr "rn"=[.str "r",.str "n"]:=rfl
theorem Op.Fv(o:Op):o.args.length=o.kinds.length:=by cases o<;>first|exact QB.symm|exact QC.symm|exact QD.symm|exact QE.symm|exact QF.symm
theorem Op.Fw(o:Op):o.args.length<=1000000:=by cases o<;>exact of_decide_eq_true rfl
noncomputable abbrev Item(v:af):Prop:=∃k n,v=.tup [.str k,.int n]/\ (k="r"-> ¬n<0)
theorem itR{r:Int}(h:0<=r):Item (.tup [.str "r",.int r]):=⟨_,_,rfl,λ_w=>a6.mpr h⟩
theorem Fx{r:Int}:Item (.tup [.str "n",.int r]):=⟨_,_,rfl,λh=>absurd h (by decide)⟩
theorem tW:∀v∈([]:List af),Item v:=λ_w h=>nomatch h
theorem rY{u:af}{l:List af}(h:Item u)(g:∀v∈l,Item v):∀v∈u::l,Item v:=c1.mpr ⟨h,g⟩
theorem Op.items{o:Op}(h:o.gG):∀v∈(jr o.kinds).zipWith (λv w=>.tup [v,w]) (o.args.map .int),Item v:=by
 cases o<;>simp only[Op.kinds,Op.args,QG,QH,str,QI,QJ,l9,List.map_nil,List.zipWith_cons_cons,List.zipWith_nil_left]<;>first|exact tW|exact rY Fx tW|exact rY (itR h) tW|exact rY (itR h) (rY Fx tW)|exact rY (itR h.1) (rY (itR h.2) tW)
section
variable{n:Nat}{σ:ah}{Q:cR}{E:Nat->ah->Prop}
inductive Fy(σ:ah)(r:List af)(ρ:aQ)(aj:ah):Prop
 |mk (e:aj=σ) (r:∀v∈r,Item v)
theorem QK{o:Op}(w:σ.bg)(hr:o.gG)(h:∀σ',aw [] σ σ'->Q .none σ'):bH fn bk bl (n+1) 23 [.str o.nm,.tup (o.args.map .int)] σ Q E:=by
 refine bz rfl ?_;have l:=(cF (as:=o.args) af.int).trans o.Fv;have fk:o.kinds.length<=1000000:=o.Fv▸o.Fw;have e1:(!(g6 o.nm mq).isSome)=false:=by rw[o.tab];rfl
 have e2:((o.args.map af.int).length:Int)=o.kinds.length:=congrArg lX l;nomatch e1,o.tab,fk,lmap (f:=af.int) o.Fw,e2;refine kA (λr _w aj=>Fy (σ.push .box) r (λ_w=>none) aj) ?_ (λv r ρ aj H=>?_) λρ aj H=>?_
 ·exact⟨rfl,o.items hr⟩
 rotate_left
 ·exact⟨H.1▸bx,H.1▸h _ (.push (.refl w))⟩
 obtain⟨k,x,rfl,az⟩:=H.2 v (.head _);have H':Fy (σ.push .box) r (λ_w=>none) aj:=⟨H.1,λv h=>H.2 v (.tail _ h)⟩;refine⟨H.1▸bx,?_⟩;by_cases e:k="r"
 ·have:=az e;nomatch e,this
 ·nomatch e
theorem tX{v a:Int}(aa: -18446744073709551616<a)(h2:a<18446744073709551616)(hq:a≠0/\ v.fmod a=0->Q (.int (v.fdiv a)) σ)(he:¬(a≠0/\ v.fmod a=0)->E 1 σ):bH fn bk bl (n+1) 22 [.int v,.int a] σ Q E:=by
 refine bz rfl ?_;by_cases aM:a=0
 ·nomatch aM;exact he λh=>h.1 aM
 ·by_cases hm:v.fmod a=0
  ·nomatch aM,hm;exact hq ⟨aM,hm⟩
  ·nomatch aM,hm;exact he λh=>hm h.2
theorem QL(v:Int):"little"="little"/\ (0:Int)<=2/\ (2:Int)<=8/\ 0<=Builtin.bitAnd v 65535/\ Builtin.bitAnd v 65535<256^(2:Int).toNat:=by
 rw[Fo];exact⟨rfl,by decide,by decide,by exact(fJ _ (by decide:(65536:Int)≠0)),by show v%65536<65536;exact(fw _ (by decide:(0:Int)<65536))⟩
theorem QM(v:Int):"little"="little"/\ (0:Int)<=4/\ (4:Int)<=8/\ 0<=Builtin.bitAnd v 4294967295/\ Builtin.bitAnd v 4294967295<256^(4:Int).toNat:=by
 rw[Fp];exact⟨rfl,by decide,by decide,by exact(fJ _ (by decide:(4294967296:Int)≠0)),by show v%4294967296<4294967296;exact(fw _ (by decide:(0:Int)<4294967296))⟩
theorem QN(v:Int){k:Nat}(h:k<1000000):0<=Builtin.bitAnd v 255/\ Builtin.bitAnd v 255<256/\ k<1000000:=by rw[Fn];exact⟨(fJ _ (by decide:(256:Int)≠0)),⟨(fw _ (by decide:(0:Int)<256)),h⟩⟩
inductive dq (bT σ:ah) (l b m:Nat) (xs:List UInt8):Prop
 |mk (u:aw [b] bT σ) (at_:σ.get l=.inst 1 [(3,.loc b)]) (dW:σ.get b=.dW xs) (len:xs.length<=m)
section
variable{bT σ':ah}{l b m k:Nat}{xs ys:List UInt8}(W:dq bT σ l b m xs)
include W
theorem dq.ne:l≠b:=λe=>aA rfl ((e▸W.2).symm.trans W.3)
theorem dq.lt:b<σ.next:=W.1.1.lt W.3 (aA rfl)
theorem dq.put(h:ys.length<=k):dq bT (σ.set b (.dW ys)) l b k ys:=⟨W.1.set (.inl (.head _)) W.lt,cV W.ne W.2,cT,h⟩
theorem dq.add(h:ys.length<=k):dq bT (σ.set b (.dW (xs++ys))) l b (m+k) (xs++ys):=W.put (bR▸eY W.4 h)
theorem dq.up(u:aw [] σ σ'):dq bT σ' l b m xs:=⟨W.1.nM u,u.aV W.1.1 W.2 (aA rfl),u.aV W.1.1 W.3 (aA rfl),W.4⟩
theorem dq.re(h:xs.length<=k):dq bT σ l b k xs:=⟨W.1,W.2,W.3,h⟩
theorem dq.eq(e:xs=ys):dq bT σ l b m ys:=e▸W
theorem dq.ql(h:ys.length<=k)(hm:m+k<=1000000):xs.length+ys.length<=1000000:=aB (eY W.4 h) hm
theorem eQ{v:Int}(hm:m<1000000)(h:∀σ',dq bT σ' l b (m+1) (xs++[dp (v%256)])->Q .none σ'):bH fn bk bl (n+1) 14 [.loc l,.int v] σ Q E:=by
 refine bz rfl ?_;nomatch W.2,W.3,QN v (cM W.4 hm);exact h _ (by rw[Fn];exact W.add (bI _))
theorem Au(hy:ys.length<=k)(hm:m+k<=1000000)(h:∀σ',dq bT σ' l b (m+k) (xs++ys)->Q .none σ'):bH fn bk bl (n+1) 13 [.loc l,.bytes ys] σ Q E:=by
 refine bz rfl ?_;nomatch W.2,W.3,W.ql hy hm;exact h _ (W.add hy)
theorem QO{v:Int}(hm:m+2<=1000000)(h:∀σ',dq bT σ' l b (m+2) (xs++bO (v%65536) 2)->Q .none σ'):bH fn bk bl (n+1) 15 [.loc l,.int v] σ Q E:=by
 refine bz rfl ?_;have c:xs.length+(bO (Builtin.bitAnd v 65535) (WJ 2)).length<=1000000:=W.ql (bb fq) hm;nomatch W.2,W.3,QL v,c;rw[<-Fo]at h;exact h _ (W.add (bb fq))
theorem lD{v:Int}(hm:m+4<=1000000)(h:∀σ',dq bT σ' l b (m+4) (xs++bO (v%4294967296) 4)->Q .none σ'):bH fn bk bl (n+1) 16 [.loc l,.int v] σ Q E:=by
 refine bz rfl ?_;have c:xs.length+(bO (Builtin.bitAnd v 4294967295) (WJ 4)).length<=1000000:=W.ql (bb fq) hm;nomatch W.2,W.3,QM v,c;rw[<-Fp]at h;exact h _ (W.add (bb fq))
theorem ii{v:Int}(hm:m+21<=1000000)(h0:0<=v)(ai:v<128^20)(h:∀σ',dq bT σ' l b (m+21) (xs++a9 false v)->Q .none σ'):bH fn bk bl (n+2) 17 [.loc l,.int v] σ Q E:=by
 refine bz rfl ?_;nomatch W.2,W.3;refine Qz W.1.1 h0 ai λσ' u=>?_;have hl:=gP (s:=false) (bG (by decide) h0) ai;nomatch(W.up u).3,W.ql hl hm;exact h _ ((W.up u).add hl)
theorem tY{v:Int}(hm:m+21<=1000000)(h0: -(128^20)<=v)(ai:v<128^20)(h:∀σ',dq bT σ' l b (m+21) (xs++a9 true v)->Q .none σ'):bH fn bk bl (n+2) 18 [.loc l,.int v] σ Q E:=by
 refine bz rfl ?_;nomatch W.2,W.3;refine QA W.1.1 h0 ai λσ' u=>?_;have hl:=gP (s:=true) h0 ai;nomatch(W.up u).3,W.ql hl hm;exact h _ ((W.up u).add hl)
theorem w_text(hm:m<1000000)(h:∀σ',dq bT σ' l b (m+1) (xs++[0])->Q .none σ'):bH fn bk bl (n+1) 19 [.loc l,.str ""] σ Q E:=by
 refine bz rfl ?_;nomatch W;refine rU ⟨trivial,?_⟩;have e:"latin-1"="latin-1"/\ ""="":=⟨rfl,rfl⟩;have W':=W.add (ys:=[]) (k:=0) (bI _);have c:xs.length+([]:List UInt8).length<=1000000:=W.ql (bI 0) (dA hm);have dL:(0:Int)<=0/\ (0:Int)<256/\ (xs++[]).length<1000000:=⟨qL 0,by decide,cM W'.4 hm⟩;nomatch W.2,W.3,e,c,W.ne,dL;exact h _ ((W'.add (ys:=[0]) (bI _)).eq (by rw[dK]))
theorem wN(hm:m<=1000000)(h:Q (.bytes xs) σ):bH fn bk bl (n+1) 12 [.loc l] σ Q E:=by
 refine bz rfl ?_;nomatch W.2,W.3,aB W.4 hm
end
theorem qm(w:σ.bg)(h:∀σ',aw [] σ σ'->dq σ' σ' σ.next (σ.next+1) 0 []->Q .none σ'):bH fn bk bl (n+1) 11 [.loc σ.next] (σ.push (.inst 1 [])) Q E:=by
 refine bz rfl ?_;have ne:σ.next≠(σ.push (.inst 1 [])).next:=bq (b9 _)
 nomatch ne;have u:aw [] σ (((σ.push (.inst 1 [])).push (.dW [])).set σ.next (.inst 1 [(3,.loc (σ.next+1))])):=((aw.refl w).push.push).set (.inr (bI _)) (bX (b9 _));exact h _ u ⟨.refl u.1,cT,cV ne.symm bx,bI _⟩
end
section
variable{n:Nat}{σ bT:ah}{Q:cR}{E:Nat->ah->Prop}{l b m:Nat}{xs:List UInt8}
theorem pf{v:Int}(h0:0<=v)(aa:v<256):dp (v%256)=dp v:=by rw[jE h0 aa]
theorem Fz(k:Nat){v m:Int}(hm:m=256^k):bO (v%m) k=bO v k:=by
 simp only[bO];refine uP λi ao=>?_;have ao:=yC.mp ao;have e:m=256^i*(256*256^(k-i-1)):=by
  rw[hm,<-Int.pow_succ',<-WK];congr 1;exact(qO (bE λaq=>bj.go (.c _ (.c _ (.c _ (.c _ .o)))) (.c 1 (.a (.a (.v 0) (.a (.v 3) (.n 1))) (.n 1)) (.v 1) (.c 1 (.v 2) (.a (.v 3) (.n 1)) (.c 1 (.v 1) (.a (.v 2) (.v 0)) .o))) rfl aq (bb (bF (dU (bE λz1=>bj.go (.c _ (.c _ (.c _ .o))) (.c 1 (.a (.v 1) (.n 1)) (.v 2) (.c 1 (.a (.v 0) (.n 1)) (.n 1) (.c 1 (.v 2) (.a (.v 0) (.v 1)) .o))) rfl ao z1 (bb (bF (dU (bE λz2=>bj.go (.c _ (.c _ .o)) (.c 1 (.a (.v 0) (.n 1)) (.v 1) (.c 1 (.a (.v 1) (.n 1)) (.v 0) .o)) rfl ao z2)))))))) (bb (bF (dU (bE λz1=>bj.go (.c _ (.c _ .o)) (.c 1 (.a (.v 0) (.n 1)) (.v 1) (.c 1 (.a (.v 1) (.n 1)) (.v 0) .o)) rfl ao z1))))) (bE λaq=>bj.go (.c _ (.c _ (.c _ (.c _ .o)))) (.c 1 (.a (.v 1) (.n 1)) (.a (.v 0) (.a (.v 3) (.n 1))) (.c 1 (.a (.v 3) (.n 1)) (.v 2) (.c 1 (.a (.v 2) (.v 0)) (.v 1) .o))) rfl aq (bb (dU (bE λz1=>bj.go (.c _ (.c _ (.c _ .o))) (.c 1 (.a (.v 1) (.n 1)) (.v 2) (.c 1 (.a (.v 0) (.n 1)) (.n 1) (.c 1 (.v 2) (.a (.v 0) (.v 1)) .o))) rfl ao z1 (bb (bF (dU (bE λz2=>bj.go (.c _ (.c _ .o)) (.c 1 (.a (.v 0) (.n 1)) (.v 1) (.c 1 (.a (.v 1) (.n 1)) (.v 0) .o)) rfl ao z2))))))) (bb (dU (bE λz1=>bj.go (.c _ (.c _ .o)) (.c 1 (.a (.v 0) (.n 1)) (.v 1) (.c 1 (.a (.v 1) (.n 1)) (.v 0) .o)) rfl ao z1)))))
 have hp:(0:Int)<256^i:=BX (by decide);have aa:v%m/256^i%256=v/256^i%256:=by
  have e2:v%m=v+256^i*(256*(-(256^(k-i-1)*(v/m)))):=by
   have:=yF v m;rw[this]
   conv=>lhs;rw[e]
   rw[<-e];have e3:m*(v/m)=256^i*(256*(256^(k-i-1)*(v/m))):=by
    conv=>lhs;rw[e]
    rw[xG,xG,<-e]
   rw[e3,BW,BW];exact(kY (a6.mp λaq=>bp.go (.c _ (.c _ (.c _ (.c _ .o)))) (.c 1 (.a (.a (.v 0) (.v 1)) (.n 1)) (.v 2) (.c 1 (.n 0) (.a (.v 1) (.v 3)) (.c 1 (.a (.v 2) (.v 3)) (.v 0) .o))) rfl aq (aP (bF (fy _))) (aP (dB _ _))) (a6.mp λaq=>bp.go (.c _ (.c _ (.c _ (.c _ .o)))) (.c 1 (.a (.v 2) (.n 1)) (.a (.v 3) (.v 1)) (.c 1 (.v 3) (.a (.v 2) (.v 0)) (.c 1 (.a (.v 1) (.v 0)) (.n 0) .o))) rfl aq (aP (bF (dB _ _))) (aP (fy _))))
  rw[e2,Int.add_mul_ediv_left _ _ (by exact(λaq=>bp.go (.c _ .o) (.c 1 (.a (.n 0) (.n 1)) (.v 0) (.c 1 (.v 0) (.n 0) .o)) rfl hp (aP aq))),WG]
 rw[aa]
theorem QP{v:Int}:bO (v%65536) 2=bO v 2:=Fz 2 (by decide)
theorem rZ{v:Int}:bO (v%4294967296) 4=bO v 4:=Fz 4 (by decide)
noncomputable def Av(k:Int):List UInt8:=if k<64 then[dp (64+k)]else if k<256 then[2,dp k]else if k<65536 then 3::bO k 2 else 4::bO k 4
theorem QQ{k:Int}(W:dq bT σ l b m xs)(hm:m+5<=1000000)(h:0<=k-> ∀σ',dq bT σ' l b (m+5) (xs++Av k)->Q .none σ')(hE:k<0->E 1 σ):bH fn bk bl (n+2) 24 [.loc l,.int k] σ Q E:=by
 refine bz rfl ?_;by_cases h0:k<0
 ·nomatch h0;exact hE h0
 have az:0<=k:=a6.mp h0;have aa:m<1000000:=by exact(bU (uw (c8 _ _)) hm)
 have h2:m+1<1000000:=by exact(bU (jN (by decide) _) hm)
 have fin:∀{σ' m' ys},dq bT σ' l b m' (xs++ys)->m'<=m+5->ys=Av k->Q .none σ':=λW h' e=>h az _ ((W.re (aB W.4 h')).eq (e▸rfl));unfold Av at fin;by_cases bM:k<64
 ·nomatch h0,bM,W.2;refine eQ W aa λaJ W1=>fin W1 (fH (by decide) _) ?_;rw[if_pos bM,pf (fM (by decide) (a6.mp h0)) (dk (gY bM _) (by decide))]
 rw[if_neg bM]at fin;by_cases c2:k<256
 ·nomatch h0,bM,c2,W.2;refine eQ W aa λaJ W1=>?_;nomatch W1.2;refine eQ W1 h2 λaC W2=>fin (W2.eq (cG ..)) (jN (by decide) _) ?_;rw[if_pos c2,pf az c2];rfl
 rw[if_neg c2]at fin;by_cases c3:k<65536
 ·nomatch h0,bM,c2,c3,W.2;refine eQ W aa λaJ W1=>?_;nomatch W1.2;refine QO W1 (by exact(bU (jN (by decide) _) hm)) λaC W2=>fin (W2.eq (cG ..)) (jN (by decide) _) ?_;rw[if_pos c3,QP];rfl
 ·nomatch h0,bM,c2,c3,W.2;refine eQ W aa λaJ W1=>?_;nomatch W1.2;refine lD W1 (by exact hm) λaC W2=>fin (W2.eq (cG ..)) (bI _) ?_;rw[if_neg c3,rZ];rfl
noncomputable def FA(a c r k:Int):List UInt8:=if 0<=k then dp a::(a9 false r++a9 false k)else dp c::(a9 false r++a9 true k)
theorem tZ{α:Type}{xs:List α}{a:α}{ys zs:List α}:xs++[a]++ys++zs=xs++(a::(ys++zs)):=by rw[cG,cG];rfl
theorem qo{α:Type}{xs:List α}{a:α}{ys:List α}:xs++[a]++ys=xs++(a::ys):=by rw[cG];rfl
theorem QR{a c r k:Int}(W:dq bT σ l b m xs)(hm:m+43<=1000000)(aM:0<=a/\ a<256)(hc:0<=c/\ c<256)(hr:0<=r/\ r<128^20)(az: -(128^20)<=k/\ k<128^20)(h:∀σ',dq bT σ' l b (m+43) (xs++FA a c r k)->Q .none σ'):
  bH fn bk bl (n+3) 25 [.loc l,.int a,.int c,.int r,.int k] σ Q E:=by
 refine bz rfl ?_;have aa:m<1000000:=by exact(bU (uw (c8 _ _)) hm)
 have h2:m+1+21<=1000000:=by exact(bU (jN (by decide) _) hm)
 unfold FA at h;by_cases h0:0<=k
 ·rw[if_pos h0,<-pf aM.1 aM.2,<-tZ]at h;nomatch h0,W.2;refine eQ W aa λaJ W1=>?_;nomatch W1.2;refine ii W1 h2 hr.1 hr.2 λaC W2=>?_;nomatch h0,W2.2;exact ii W2 hm h0 az.2 h
 ·rw[if_neg h0,<-pf hc.1 hc.2,<-tZ]at h;nomatch h0,W.2;refine eQ W aa λaJ W1=>?_;nomatch W1.2;refine ii W1 h2 hr.1 hr.2 λaC W2=>?_;nomatch h0,W2.2;exact tY W2 hm az.1 az.2 h
noncomputable abbrev ez(c d r:Int)(ol:af):cv:=.inst 2 [(4,.int c),(5,.int d),(6,.int r),(7,ol)]
theorem mF{x d:Int}(h: -(2^100)<x/\ x<2^100): -(128^20)<=x.fdiv d/\ x.fdiv d<128^20:=by
 have aa:=Int.natAbs_ediv_le_natAbs x d;have e1:(2:Int)^100=1267650600228229401496703205376:=by decide
 have e2:=wM;have e3:x.fdiv d=x/d-if 0<=d \/d ∣ x then 0 else 1:=Int.fdiv_eq_ediv
 rw[e1]at h;have b: -1267650600228229401496703205376<=x/d/\ x/d<=1267650600228229401496703205376:=vd (aB aa (rd 1267650600228229401496703205376 (fG h.1) (fG h.2)));rw[e3,e2];split
 ·rw[IH];exact⟨bG (by decide) b.1,eZ b.2 (by decide)⟩
 ·exact⟨bG (by decide) (Int.sub_le_sub_right b.1 1),eZ (BY _ (by decide)) (eZ b.2 (by decide))⟩
theorem mG{x:Int}(h:x<2^100):x<128^20:=by
 have e1:(2:Int)^100=1267650600228229401496703205376:=by decide
 have e2:=wM;exact(eR.mp λaq=>bp.go (.c _ (.c _ (.c _ .o))) (.c 1 (.a (.v 1) (.n 1)) (.v 0) (.c 1 (.v 0) (.n 1267650600228229401496703205376) (.c 1 (.n 1393796574908163946345982392040522594123776) (.v 2) (.c 1 (.v 2) (.v 1) .o)))) rfl h (aP e1) (aP (bF e2)) aq)
theorem cI{α:Type}{a b:α}(h:a≠b):a∉[b]:=λq=>h (bW.mp q)
theorem QS{o:Op}{c:Nat}{cd dd rr:Int}{ol:af}(W:dq bT σ l b 700000 xs)(w0:bT.bg)(hc:bT.get c=ez cd dd rr ol)(hcb:c≠b)(hr:o.gG)(ar:o.small)(hcd: -18446744073709551616<cd/\ cd<18446744073709551616)(hdd: -18446744073709551616<dd/\ dd<18446744073709551616)
  (h:o.fits cd dd-> ∀σ' m,dq bT σ' l b m (xs++o.wr cd dd)->Q .none σ')(hE:¬o.fits cd dd-> ∀σ',aw [b] bT σ'->E 1 σ'):bH fn bk bl (n+5) 28 [.loc l,.loc c,.str o.nm,.tup (o.args.map .int)] σ Q E:=by
 refine bz rfl ?_;nomatch W;refine QK W.1.1 hr λaJ u1=>?_;have W1:=W.up u1;have K:∀{σ m ys},dq bT σ l b m ys->σ.get c=ez cd dd rr ol:=λW=>W.1.at w0 hc (aA rfl) (cI hcb);have hc1:=K W1;have Wp:∀o,dq bT (aJ.push o) l b 700000 xs:=λo=>W1.up (.push (.refl W1.1.1));clear W;cases o with
 |dG t=>
  nomatch hc1;refine tX hcd.1 hcd.2 (λhf=>?_) λhf=>hE (λff=>hf ⟨ff.1,ff.2.1⟩) _ W1.1;nomatch hc1;exact QQ W1 (by decide) (λaz aC W2=>h ⟨hf.1,hf.2,az⟩ _ _ W2) λaz=>hE (λff=>eR.mpr az ff.2.2) _ W1.1
 |loc v=>
  nomatch W1.2;refine eQ W1 (by decide) λaC W2=>?_;nomatch W2.2;refine lD W2 (by decide) λaU W3=>h trivial _ _ (W3.eq (by rw[rZ];exact qo))
 |iM|rem|res=>
  nomatch W1.2,bx;refine eQ (Wp _) (by decide) λaC W2=>?_;exact h trivial _ _ W2
 |rest r=>
  have hr':r<128^20:=mG (ar r (.head _)).2;nomatch W1;refine bz rfl ?_;by_cases c:r<64
  ·nomatch c,W1.2;refine eQ W1 (by decide) λaC W2=>?_;exact h trivial _ _ (W2.eq (by show _=_++(if r<64 then _ else _);rw[if_pos c,pf (fM (by decide) hr) (dk (gY c _) (by decide))]))
  ·nomatch c,W1.2;refine eQ W1 (by decide) λaC W2=>?_;nomatch W2.2;refine ii W2 (by decide) hr hr' λaU W3=>?_;exact h trivial _ _ (W3.eq (by show _=_++(if r<64 then _ else _);rw[if_neg c];exact qo))
 |kB r|same r=>
  have hr':r<128^20:=mG (ar r (.head _)).2;nomatch W1;refine bz rfl ?_;nomatch W1.2,bx;refine eQ (Wp _) (by decide) λaC W2=>?_;nomatch W2;refine rU ⟨trivial,?_⟩;nomatch W2.2;refine ii W2 (by decide) hr hr' λaU W3=>⟨trivial,?_⟩;exact h trivial _ _ (W3.eq qo)
 |kC a e=>
  nomatch W1;refine bz rfl ?_;nomatch W1.2,bx;refine eQ (Wp _) (by decide) λaC W2=>?_;nomatch W2;refine rU ⟨trivial,?_⟩;nomatch W2.2;refine ii W2 (by decide) hr.1 (mG (ar a (.head _)).2) λaU W3=>⟨trivial,?_⟩;nomatch W3.2;refine ii W3 (by decide) hr.2 (mG (ar e (.tail _ (.head _))).2) λc9 W4=>⟨trivial,?_⟩;exact h trivial _ _ (W4.eq tZ)
 |kD r=>
  nomatch W1;refine bz rfl ?_;nomatch W1.2;refine eQ W1 (by decide) λaC W2=>?_;nomatch W2.2;refine ii W2 (by decide) hr (mG (ar r (.head _)).2) λaU W3=>?_;exact h trivial _ _ (W3.eq qo)
 |hh r x=>
  have hr':r<128^20:=mG (ar r (.head _)).2;have ak:=ar x (.tail _ (.head _));have hfd:=mF (d:=dd) ak;nomatch W1;refine bz rfl ?_;by_cases c:0<=x
  ·nomatch c,W1.2;refine eQ W1 (by decide) λaC W2=>?_;nomatch W2.2;refine ii W2 (by decide) hr hr' λaU W3=>?_;nomatch W3.2,c;refine ii W3 (by decide) c (mG ak.2) λc9 W4=>?_;exact h (.inl c) _ _ (W4.eq (by show _=_++(if 0<=x then _ else _);rw[if_pos c];exact tZ))
  ·nomatch c,W1.2;refine eQ W1 (by decide) λaC W2=>?_;nomatch W2.2;refine ii W2 (by decide) hr hr' λaU W3=>?_;nomatch W3.2,c,K W3;refine tX hdd.1 hdd.2 (λhf=>?_) λhf=>hE (λff=>ff.elim c hf) _ W3.1;refine tY W3 (by decide) hfd.1 hfd.2 λc9 W4=>?_;exact h (.inr hf) _ _ (W4.eq (by show _=_++(if 0<=x then _ else _);rw[if_neg c];exact tZ))
 |ig x=>
  have ak:=ar x (.head _);have hfd:=mF (d:=dd) ak;nomatch W1;refine bz rfl ?_;by_cases c:0<=x
  ·nomatch c,W1.2;refine eQ W1 (by decide) λaC W2=>?_;nomatch W2.2,c;refine ii W2 (by decide) c (mG ak.2) λc9 W4=>?_;exact h (.inl c) _ _ (W4.eq (by show _=_++(if 0<=x then _ else _);rw[if_pos c];exact qo))
  ·nomatch c,W1.2;refine eQ W1 (by decide) λaC W2=>?_;nomatch W2.2,c,K W2;refine tX hdd.1 hdd.2 (λhf=>?_) λhf=>hE (λff=>ff.elim c hf) _ W2.1;refine tY W2 (by decide) hfd.1 hfd.2 λc9 W4=>?_;exact h (.inr hf) _ _ (W4.eq (by show _=_++(if 0<=x then _ else _);rw[if_neg c];exact qo))
 |off r x=>
  have hfd:=mF (d:=dd) (ar x (.tail _ (.head _)));nomatch W1;refine bz rfl ?_;nomatch hc1;refine tX hdd.1 hdd.2 (λhf=>?_) λhf=>hE (λff=>hf ⟨ff.1,ff.2.1⟩) _ W1.1;by_cases c:64<=r
  ·nomatch c;exact hE (λff=>a6.mpr c ff.2.2.1) _ W1.1
  by_cases c2:x.fdiv dd<0
  ·nomatch c,c2;exact hE (λff=>a6.mpr ff.2.2.2 c2) _ W1.1
  have c3:=a6.mp c2;have c4:=eR.mp c;nomatch c,c2,W1.2;refine eQ W1 (by decide) λaC W2=>?_;nomatch W2.2;refine ii W2 (by decide) c3 hfd.2 λc9 W4=>?_;exact h ⟨hf.1,hf.2,c4,c3⟩ _ _ (W4.eq (by rw[pf (fM (by decide) hr) (by exact(dk (gY (eR.mp c) _) (by decide)))];exact qo))
 |hi r x|val r x=>
  have hfd:=mF (d:=dd) (ar x (.tail _ (.head _)));nomatch W1;refine bz rfl ?_;nomatch hc1;refine tX hdd.1 hdd.2 (λhf=>?_) λhf=>hE (λff=>hf ff) _ W1.1;refine QR W1 (by decide) (by decide) (by decide) ⟨hr,mG (ar r (.head _)).2⟩ hfd λaC W2=>?_;exact h hf _ _ W2
end
section
variable{n:Nat}{σ bT:ah}{Q:cR}{E:Nat->ah->Prop}
noncomputable abbrev ij(x:Int):Prop:= -18446744073709551616<x/\ x<18446744073709551616
theorem FC{x:Int}(h: -(2^100)<x/\ x<2^100): -(128^20)<=x/\ x<128^20:=by
 have e1:(2:Int)^100=1267650600228229401496703205376:=by decide
 have e2:=wM;exact⟨(a6.mp λaq=>bp.go (.c _ (.c _ (.c _ (.c _ (.c _ .o))))) (.c 1 (.a (.v 4) (.n 1)) (.v 3) (.c 1 (.v 0) (.n 1267650600228229401496703205376) (.c 1 (.n 1393796574908163946345982392040522594123776) (.v 1) (.c 1 (.a (.v 3) (.n 1)) (.v 2) (.c 1 (.n 0) (.a (.v 4) (.v 0)) (.c 1 (.a (.v 2) (.v 1)) (.n 0) .o)))))) rfl h.1 (aP e1) (aP (bF e2)) aq (aP (bF (fy _))) (aP (fy _))),(eR.mp λaq=>bp.go (.c _ (.c _ (.c _ .o))) (.c 1 (.a (.v 1) (.n 1)) (.v 0) (.c 1 (.v 0) (.n 1267650600228229401496703205376) (.c 1 (.n 1393796574908163946345982392040522594123776) (.v 2) (.c 1 (.v 2) (.v 1) .o)))) rfl h.2 (aP e1) (aP (bF e2)) aq)⟩
theorem t4{a:UInt8}{x:List UInt8}(h:x.length<=21):(a::x).length<=50:=aB (jn h) (by decide)
theorem t5{a:UInt8}{x y:List UInt8}(h:x.length<=21)(h':y.length<=21):(a::(x++y)).length<=50:=aB (jn (bR▸eY h h')) (by decide)
theorem QT{o:Op}{c d:Int}(ar:o.small):(o.wr c d).length<=50:=by
 have L:∀{s:Bool}{x:Int},-(2^100)<x/\ x<2^100->(a9 s x).length<=21:=λh=>gP (FC h).1 (FC h).2;have LD:∀{s:Bool}{x:Int},-(2^100)<x/\ x<2^100->(a9 s (x.fdiv d)).length<=21:=λh=>gP (mF h).1 (mF h).2;cases o with
 |dG t=>dsimp only[Op.wr];(repeat' split)<;>exact of_decide_eq_true rfl
 |iM|rem|res|loc v=>exact of_decide_eq_true rfl
 |rest r=>dsimp only[Op.wr];split;exact of_decide_eq_true rfl;exact t4 (L (ar r (.head _)))
 |kB r|same r|kD r=>exact t4 (L (ar r (.head _)))
 |kC a b=>exact t5 (L (ar a (.head _))) (L (ar b (.tail _ (.head _))))
 |hh r x=>
  have h:=ar x (.tail _ (.head _));dsimp only[Op.wr];split
  ·exact t5 (L (ar r (.head _))) (L h)
  ·exact t5 (L (ar r (.head _))) (LD h)
 |ig x=>
  have h:=ar x (.head _);dsimp only[Op.wr];split
  ·exact t4 (L h)
  ·exact t4 (LD h)
 |off r x=>exact t4 (LD (ar x (.tail _ (.head _))))
 |hi r x|val r x=>
  have h:=LD (s:=false) (ar x (.tail _ (.head _)));have h':=LD (s:=true) (ar x (.tail _ (.head _)));dsimp only[Op.wr];split
  ·exact t5 (L (ar r (.head _))) h
  ·exact t5 (L (ar r (.head _))) h'
noncomputable def da(c d:Int)(ops:List Op):List UInt8:=ops.flatMap (Op.wr c d)
theorem QU{c d:Int}{ops:List Op}{o:Op}:da c d ops++o.wr c d=da c d (ops++[o]):=by
 unfold da;rw[List.flatMap_append,List.flatMap_singleton]
theorem FD{c d:Int}:∀{ops:List Op},(∀o∈ops,o.small)->(da c d ops).length<=50*ops.length:=by
 intro ops
 induction ops with
 |nil=>
  intro _;exact bI 0
 |cons o r ih=>
  intro h;have aa:=QT (c:=c) (d:=d) (h o (.head _));have h2:=ih λo ho=>h o (.tail _ ho);show(o.wr c d++da c d r).length<=50*(r.length+1);rw[bR];exact(bE λaq=>bj.go (.c _ (.c _ (.c _ .o))) (.c 1 (.v 2) (.n 50) (.c 1 (.v 0) (.m 50 (.v 1)) (.c 1 (.a (.m 50 (.a (.v 1) (.n 1))) (.n 1)) (.a (.v 2) (.v 0)) .o))) rfl aa h2 aq)
inductive QV (σ bT:ah) (c:Nat) (cd dd:Int) (ops:List Op) (l b:Nat) (done rest:List Op) (r:List af) (ρ:aQ) (aj:ah):Prop
 |mk (e:ops=done++rest) (b7:r=rest.map Op.v) (r0:ρ 0=some (.loc c)) (cu:ρ 2=some (.loc l)) (W:dq bT aj l b 700000 (da cd dd done)) (f:∀o∈done,o.fits cd dd)
theorem FE{ops:List Op}{c ol:Nat}{cd dd rr:Int}{ov:af}(w:σ.bg)(hc:σ.get c=ez cd dd rr ov)(ho:σ.get ol=.list (ops.map Op.v))(hr:∀o∈ops,o.gG)(ar:∀o∈ops,o.small)(hcd:ij cd)(hdd:ij dd)(hlen:ops.length<=1000)
  (h:(∀o∈ops,o.fits cd dd)-> ∀σ',aw [] σ σ'->Q (.bytes (da cd dd ops)) σ')(hE:¬(∀o∈ops,o.fits cd dd)-> ∀σ',aw [] σ σ'->E 1 σ'):bH fn bk bl (n+6) 29 [.loc c,.loc ol] σ Q E:=by
 refine bz rfl ?_;nomatch w;refine qm w λaJ u1 W1=>?_;have ho1:=u1.aV w ho (aA rfl);have hc1:=u1.aV w hc (aA rfl);have hcb:c≠σ.next+1:=bq (bX (w.lt hc (aA rfl)))
 have hob:ol≠σ.next+1:=bq (bX (w.lt ho (aA rfl)))
 have up:∀{aj m ys},dq aJ aj σ.next (σ.next+1) m ys->aw [] σ aj:=λW=>u1.over W.1 λx ak=>.inr (bW.mp ak▸gh _)
 nomatch ho1;refine kA (λr ρ aj=>∃done rest,QV σ aJ c cd dd ops σ.next (σ.next+1) done rest r ρ aj) ?_ (λv r ρ aj H=>?_) λρ aj H=>?_
 ·exact⟨[],ops,rfl,rfl,rfl,rfl,W1.re (du _),λ_w h=>nomatch h⟩
 ·obtain⟨d,b7,H⟩:=H;refine⟨H.5.1.at W1.1.1 ho1 (aA rfl) (cI hob),?_⟩;cases b7 with
  |nil=>exact nomatch H.2
  |cons o b7=>
   obtain⟨rfl,rfl⟩:=jM H.2;have ho:o∈ops:=H.1▸fK _ (.head _);have e:ops=(d++[o])++b7:=by rw[cG];exact H.1
   have hB:=FD (c:=cd) (d:=dd) (ops:=d++[o]) λo ho=>ar o (e▸mc _ ho);have hl:=congrArg qM e;rw[bR]at hl;nomatch H.4,H.3;refine QS H.5 W1.1.1 hc1 hcb (hr o ho) (ar o ho) hcd hdd (λff aC m W2=>?_) λnf aC u2=>?_
   ·exact⟨d++[o],b7,e,rfl,H.3,H.4,(W2.eq QU).re (by exact(bE λaq=>bj.go (.c _ (.c _ (.c _ (.c _ .o)))) (.c 50 (.v 0) (.n 1000) (.c 1 (.v 3) (.m 50 (.v 1)) (.c 50 (.a (.v 1) (.v 2)) (.v 0) (.c 1 (.a (.n 700000) (.n 1)) (.v 3) .o)))) rfl hlen hB (bb (bF hl)) aq)),db H.6 ff⟩
   ·exact hE (λz=>nf (z o ho)) _ (u1.over u2 λx ak=>.inr (bW.mp ak▸gh _))
 ·obtain⟨d,b7,H⟩:=H;refine⟨H.5.1.at W1.1.1 ho1 (aA rfl) (cI hob),?_⟩;obtain rfl:=ml.mp H.2.symm;have e:=H.1;rw[dK]at e;nomatch H.4,H.5.2;exact wN H.5 (by decide) (e▸h (e▸H.6) _ (up H.5))
noncomputable def je(b:List UInt8):List UInt8:=b++gy ((-(b.length:Int))%4).toNat 0
noncomputable def kF(b:List UInt8):List UInt8:=bO (je b).length 4++je b
theorem r1{b:List UInt8}:(je b).length=b.length+((-(b.length:Int))%4).toNat:=by unfold je;rw[bR,IY]
theorem FF{b:List UInt8}(w:σ.bg)(ae:b.length<=90000)(h:∀σ',aw [] σ σ'->Q (.bytes (kF b)) σ'):bH fn bk bl (n+2) 30 [.bytes b] σ Q E:=by
 refine bz rfl ?_;have hm:=@lC (-(b.length:Int)) 4 (by decide);have hp:=@r1 b;have h4:0<=(-(b.length:Int))%4/\ (-(b.length:Int))%4<4:=by exact⟨(fJ _ (by decide:(4:Int)≠0)),(fw _ (by decide:(0:Int)<4))⟩
 rw[<-hm]at h4 hp;have bM:0<=(-(b.length:Int)).fmod 4/\ (-(b.length:Int)).fmod 4<=1000000:=by exact⟨h4.1,(fG (dk h4.2 (by decide)))⟩
 have e:b++gy ((-(b.length:Int)).fmod 4).toNat 0=je b:=by rw[hm];rfl
 have hl:(je b).length<=100000:=r1▸aB (eY ae (ve _)) (by decide);have c2:b.length+(gy ((-(b.length:Int)).fmod 4).toNat (0:UInt8)).length<=1000000:=by rw[IY];exact(aB (aB (bb (bF hp)) hl) (by decide))
 have c3:(b++gy ((-(b.length:Int)).fmod 4).toNat (0:UInt8)).length<=1000000:=by rw[e];exact(aB hl (by decide))
 nomatch bM,c2;refine qm w λaJ u1 W1=>?_;nomatch W1.2,c3;refine lD W1 (by decide) λaC W2=>?_;nomatch W2.2;rw[e]at W2 ⊢;refine Au W2 hl (by decide) λaU W3=>?_;nomatch W3.2;refine wN W3 (by decide) ?_;rw[rZ];exact h _ (u1.over W3.1 λx ak=>.inr (bW.mp ak▸gh _))
end
structure ba where
 c:Int
 d:Int
 r:Int
 ops:List Op
structure cQ where
 k:Nat
 b:Int
 s:Int
 ops:List Op
noncomputable def hj(ops:List Op):Prop:=(∀o∈ops,o.gG)/\ (∀o∈ops,o.small)/\ ops.length<=20
inductive ba.Ok (H:ba):Prop
 |mk (dN:0<=H.c) (bM:H.c<1000) (iL: -1000<H.d) (fp:H.d<1000) (r0:0<=H.r) (bN:H.r<1000000) (ops:hj H.ops)
noncomputable def ph(c d r:Int):List UInt8:=[255,255,255,255,4,0,4,0]++(a9 false c++(a9 true d++a9 false r))
noncomputable def ba.B(H:ba):List UInt8:=kF (ph H.c H.d H.r++da H.c H.d H.ops)
noncomputable def hk(H:ba)(p:Int)(f:cQ):List UInt8:=kF (bO p 4++(bO f.b 4++(bO f.s 4++da H.c H.d f.ops)))
noncomputable abbrev gQ(cl:Nat)(b s:Int)(ol:Nat):cv:=.inst 3 [(8,.loc cl),(9,.int b),(10,.int s),(7,.loc ol)]
inductive jC (σ:ah) (cl:Nat) (H:ba):Prop
 |mk (at_:∃ol,σ.get cl=ez H.c H.d H.r (.loc ol)/\ σ.get ol=.list (H.ops.map Op.v))
inductive t6 (σ:ah) (cl:Nat->Nat) (f:Nat) (fd:cQ):Prop
 |mk (at_:∃ol,σ.get f=gQ (cl fd.k) fd.b fd.s ol/\ σ.get ol=.list (fd.ops.map Op.v))
theorem jC.up{σ σ':ah}{cl:Nat}{H:ba}(x:jC σ cl H)(w:σ.bg)(u:aw [] σ σ'):jC σ' cl H:=
 x.1.elim λol zz=>zz.elim λa b=>⟨ol,u.aV w a (aA rfl),u.aV w b (aA rfl)⟩
theorem t6.up{σ σ':ah}{cl:Nat->Nat}{f:Nat}{fd:cQ}(x:t6 σ cl f fd)(w:σ.bg)(u:aw [] σ σ'):t6 σ' cl f fd:=
 x.1.elim λol zz=>zz.elim λa b=>⟨ol,u.aV w a (aA rfl),u.aV w b (aA rfl)⟩
section
variable{n:Nat}{σ:ah}{Q:cR}{E:Nat->ah->Prop}
theorem nQ{x:Int}(h0: -1000000<=x)(aa:x<1000000): -(128^20)<=x/\ x<128^20:=by have:=wM;exact⟨(a6.mp λaq=>bp.go (.c _ (.c _ (.c _ .o))) (.c 1 (.n (-1000000)) (.v 2) (.c 1 (.n 1393796574908163946345982392040522594123776) (.v 0) (.c 1 (.a (.v 2) (.n 1)) (.v 1) (.c 1 (.a (.v 1) (.v 0)) (.n 0) .o)))) rfl h0 (aP (bF this)) aq (aP (fy _))),(eR.mp λaq=>bp.go (.c _ (.c _ .o)) (.c 1 (.a (.v 0) (.n 1)) (.n 1000000) (.c 1 (.n 1393796574908163946345982392040522594123776) (.v 1) (.c 1 (.v 1) (.v 0) .o))) rfl aa (aP (bF this)) aq)⟩
theorem t7{c d:Int}{ops:List Op}(h:hj ops):(da c d ops).length<=1000:=aB (FD h.2.1) (aB (ur 50 h.2.2) (by decide))
inductive ba.K (H:ba):Prop
 |mk (c: -(128^20)<=H.c/\ H.c<128^20) (d: -(128^20)<=H.d/\ H.d<128^20) (r: -(128^20)<=H.r/\ H.r<128^20) (dL:ij H.c) (lk:ij H.d)
theorem ba.Ok.k{H:ba}(h:H.Ok):H.K:=by
 obtain⟨dN,bM,iL,fp,r0,bN,_⟩:=h;exact⟨nQ (bG (by decide) dN) (bG bM (by decide)),nQ (bG (by decide) iL) (bG fp (by decide)),nQ (bG (by decide) r0) (by exact bN),⟨by exact(bG (by decide) dN),by exact(bG bM (by decide))⟩,⟨by exact(bG (by decide) iL),by exact(bG fp (by decide))⟩⟩
theorem ik{σ:ah}{b:Nat}(h:σ.next<=b):∀x∈[b],x∈([]:List Nat) \/σ.next<=x:=λ_w q=>.inr (bW.mp q▸h)
theorem FG{H:ba}{cl:Nat}(w:σ.bg)(hc:jC σ cl H)(ok:H.Ok)(h:(∀o∈H.ops,o.fits H.c H.d)-> ∀σ',aw [] σ σ'->Q (.bytes H.B) σ')(hE:¬(∀o∈H.ops,o.fits H.c H.d)-> ∀σ',aw [] σ σ'->E 1 σ'):bH fn bk bl (n+7) 31 [.loc cl] σ Q E:=by
 obtain⟨ol,a,b⟩:=hc.1;have k:=ok.k;have hB:=t7 (c:=H.c) (d:=H.d) ok.7;refine bz rfl ?_;have dv:=a6.mpr ok.1;have cS:=a6.mpr ok.5;nomatch dv,cS,a;refine qm w λaJ u1 W1=>?_;have a1:=u1.aV w a (aA rfl);have b1:=u1.aV w b (aA rfl);have K:∀{aj m ys},dq aJ aj σ.next (σ.next+1) m ys->aj.get cl=ez H.c H.d H.r (.loc ol):=λW=>W.1.at W1.1.1 a1 (aA rfl) (cI (bq (bX (w.lt a (aA rfl)))))
 have up:∀{aj m ys},dq aJ aj σ.next (σ.next+1) m ys->aw [] σ aj:=λW=>u1.over W.1 (ik (gh _))
 nomatch W1.2;refine lD W1 (by decide) λaC W2=>?_;nomatch W2.2;refine eQ W2 (by decide) λaU W3=>?_;nomatch W3.2;refine w_text W3 (by decide) λc9 W4=>?_;nomatch W4.2;refine eQ W4 (by decide) λdy W5=>?_;nomatch W5.2;refine eQ W5 (by decide) λqp W6=>?_;nomatch W6.2,K W6;refine ii W6 (by decide) ok.1 k.1.2 λwO W7=>?_;nomatch W7.2,K W7;refine tY W7 (by decide) k.2.1 k.2.2 λQW W8=>?_;nomatch W8.2,K W8;refine ii W8 (by decide) ok.5 k.3.2 λQX W9=>?_;nomatch W9.2,K W9;refine FE W9.1.1 (K W9) (W9.1.at W1.1.1 b1 (aA rfl) (cI (bq (bX (w.lt b (aA rfl)))))) ok.7.1 ok.7.2.1 k.4 k.5 (aB ok.7.2.2 (by decide)) (λff t8 uA=>?_) (λnf t8 uA=>hE nf _ ((up W9).trans uA));have WA:=W9.up uA;nomatch WA.2;refine Au WA hB (by decide) λQY WB=>?_;nomatch WB.2;refine wN WB (by decide) ?_;refine FF WB.1.1 (aB WB.4 (by decide)) λQZ uC=>?_;have e:[]++bO (4294967295%4294967296) 4++[dp (4%256)]++[0]++[dp (4%256)]++[dp (0%256)]++a9 false H.c++a9 true H.d++a9 false H.r++da H.c H.d H.ops=ph H.c H.d H.r++da H.c H.d H.ops:=by
  unfold ph;rw[<-cG,<-cG];rfl
 rw[e];exact h ff _ ((up WB).trans uC)
theorem FH{H:ba}{cl:Nat->Nat}{f:Nat}{fd:cQ}{p:Int}(w:σ.bg)(hc:jC σ (cl fd.k) H)(hf:t6 σ cl f fd)(ok:H.Ok)(ok':hj fd.ops)(h:(∀o∈fd.ops,o.fits H.c H.d)-> ∀σ',aw [] σ σ'->Q (.bytes (hk H p fd)) σ')(hE:¬(∀o∈fd.ops,o.fits H.c H.d)-> ∀σ',aw [] σ σ'->E 1 σ'):
  bH fn bk bl (n+7) 32 [.loc f,.int p] σ Q E:=by
 obtain⟨ol,a,b⟩:=hc.1;obtain⟨ol',a',b'⟩:=hf.1;have k:=ok.k;have hB:=t7 (c:=H.c) (d:=H.d) ok';refine bz rfl ?_;nomatch w;refine qm w λaJ u1 W1=>?_;have old:∀{j o},σ.get j=o->o≠.dead-> ∀{aj m ys},dq aJ aj σ.next (σ.next+1) m ys->aj.get j=o:=λg g' _w _w _w W=>W.1.at W1.1.1 (u1.aV w g g') g' (cI (bq (bX (w.lt g g'))))
 have up:∀{aj m ys},dq aJ aj σ.next (σ.next+1) m ys->aw [] σ aj:=λW=>u1.over W.1 (ik (gh _))
 have K:=λ{aj m ys}=>@old _ _ a' (aA rfl) aj m ys;nomatch W1.2;refine lD W1 (by decide) λaC W2=>?_;nomatch W2.2,K W2;refine lD W2 (by decide) λaU W3=>?_;nomatch W3.2,K W3;refine lD W3 (by decide) λc9 W4=>?_;nomatch W4.2,K W4;refine FE W4.1.1 (old a (aA rfl) W4) (old b' (aA rfl) W4) ok'.1 ok'.2.1 k.4 k.5 (aB ok'.2.2 (by decide)) (λff t8 uA=>?_) (λnf t8 uA=>hE nf _ ((up W4).trans uA));have WA:=W4.up uA;nomatch WA.2;refine Au WA hB (by decide) λQY WB=>?_;nomatch WB.2;refine wN WB (by decide) ?_;refine FF WB.1.1 (aB WB.4 (by decide)) λQZ uC=>?_;rw[rZ,rZ,rZ,cG,cG];exact h ff _ ((up WB).trans uC)
end
theorem FI{σ:ah}{n:Nat}:∀xs:List Int,d5 (deep σ (n+1)) (xs.map .int)=some (xs.map .int):=by
 intro xs
 induction xs with
 |nil=>
  exact rfl
 |cons x xs ih=>
  show(d5 (deep σ (n+1)) (xs.map .int)).map _=_;rw[ih];rfl
theorem nR{σ:ah}{n a:Nat}{xs:List af}(h:σ.get a=.list xs):deep σ (n+1) (.loc a)=(d5 (deep σ n) xs).map .list:=by
 show(match σ.get a with|.list xs=>(d5 (deep σ n) xs).map HG|_=>none)=_;rw[h]
theorem FJ{σ:ah}{a b:Nat}{xs:List Int}(aa:σ.get a=.list (xs.map .int))(h2:σ.get b=.list []):g5 (.loc a) (.loc b) σ=some (decide (xs=[])):=by
 unfold g5;rw[nR aa,nR h2,FI];refine congrArg some ?_;cases xs<;>simp
noncomputable def ft(K:List (Nat×Int))(k:Nat):List Int:=(K.filter λe=>decide (e.1=k)).map (·.2)
noncomputable def im(hd:Nat->ba)(st:List UInt8×List (Nat×Int))(f:cQ):List UInt8×List (Nat×Int):=
 match ft st.2 f.k with
 |p::_=>(st.1++hk (hd f.k) p f,st.2)
 |[]=>(st.1++(hd f.k).B++hk (hd f.k) st.1.length f,st.2++[(f.k,(st.1.length:Int))])
noncomputable def cy(hd:Nat->ba)(fds:List cQ):List UInt8×List (Nat×Int):=fds.foldl (im hd) ([],[])
noncomputable def t9(hd:Nat->ba)(fds:List cQ):Prop:=∀f∈fds,(∀o∈(hd f.k).ops,o.fits (hd f.k).c (hd f.k).d)/\ ∀o∈f.ops,o.fits (hd f.k).c (hd f.k).d
theorem FK{b:List UInt8}:(kF b).length<=b.length+7:=by
 unfold kF;rw[bR,fq,r1];exact aB (fH (fH (ve _) _) 4) (bb (G6 4 _ 3))
theorem ba.r2{H:ba}(ok:H.Ok):H.B.length<=1200:=by
 have k:=ok.k;have fk:=gP (s:=false) k.1.1 k.1.2;have bS:=gP (s:=true) k.2.1 k.2.2;have l3:=gP (s:=false) k.3.1 k.3.2;have aa:=@FK (ph H.c H.d H.r++da H.c H.d H.ops);have h2:=t7 (c:=H.c) (d:=H.d) ok.7;unfold ph at aa;rw[bR,bR,bR,bR,show[255,255,255,255,4,0,4,(0:UInt8)].length=8 from rfl]at aa;exact aB aa (by exact(bE λaq=>bj.go (.c _ (.c _ (.c _ (.c _ .o)))) (.c 1 (.v 3) (.n 21) (.c 1 (.v 2) (.n 21) (.c 1 (.v 1) (.n 21) (.c 1 (.v 0) (.n 1000) (.c 1 (.a (.n 1200) (.n 1)) (.a (.a (.a (.n 8) (.a (.v 3) (.a (.v 2) (.v 1)))) (.v 0)) (.n 7)) .o))))) rfl fk bS l3 h2 aq))
theorem r3{H:ba}{p:Int}{f:cQ}(ok:hj f.ops):(hk H p f).length<=1200:=by
 have aa:=@FK (bO p 4++(bO f.b 4++(bO f.s 4++da H.c H.d f.ops)));have h2:=t7 (c:=H.c) (d:=H.d) ok;rw[bR,bR,bR,fq,fq,fq]at aa;exact aB aa (by exact(bE λaq=>bj.go (.c _ .o) (.c 1 (.v 0) (.n 1000) (.c 1 (.a (.n 1200) (.n 1)) (.a (.a (.n 4) (.a (.n 4) (.a (.n 4) (.v 0)))) (.n 7)) .o)) rfl h2 aq))
theorem Q0{hd:Nat->ba}{st:List UInt8×List (Nat×Int)}{f:cQ}(ok:(hd f.k).Ok)(ok':hj f.ops):(im hd st f).1.length<=st.1.length+2400/\ (im hd st f).2.length<=st.2.length+1:=by
 have aa:=ba.r2 ok;have h2:=λp=>r3 (H:=hd f.k) (p:=p) ok';unfold im;cases ft st.2 f.k with
 |cons p _=>exact⟨bR▸fH (aB (h2 p) (by decide)) _,gh _⟩
 |nil=>exact⟨by have:=h2 st.1.length;dsimp only;rw[bR,bR];exact(bE λaq=>bj.go (.c _ (.c _ (.c _ .o))) (.c 1 (.v 1) (.n 1200) (.c 1 (.v 0) (.n 1200) (.c 1 (.a (.a (.v 2) (.n 2400)) (.n 1)) (.a (.a (.v 2) (.v 1)) (.v 0)) .o))) rfl aa this aq),bb bR⟩
section
variable{n:Nat}{σ:ah}{Q:cR}{E:Nat->ah->Prop}
inductive kH(σ:ah)(cl:Nat->Nat):List Nat->List cQ->Prop
 |nil:kH σ cl [] []
 |cons {f:Nat} {fd:cQ} {fs:List Nat} {fds:List cQ} (a:t6 σ cl f fd) (b:kH σ cl fs fds):kH σ cl (f::fs) (fd::fds)
theorem kH.up{σ':ah}{cl:Nat->Nat}{fs:List Nat}{fds:List cQ}(x:kH σ cl fs fds)(w:σ.bg)(u:aw [] σ σ'):kH σ' cl fs fds:=by
 induction x with
 |nil=>exact .nil
 |cons a _ ih=>exact .cons (a.up w u) ih
theorem kH.length{cl:Nat->Nat}{fs:List Nat}{fds:List cQ}(x:kH σ cl fs fds):fs.length=fds.length:=by
 induction x with
 |nil=>rfl
 |cons _ _ ih=>exact congrArg (· +1) ih
noncomputable abbrev nS(cl:Nat->Nat)(e:Nat×Int):af:=.tup [.loc (cl e.1),.int e.2]
inductive r4 (σ:ah) (hd:Nat->ba) (cl:Nat->Nat) (fds done rest:List cQ) (rs:List Nat) (r:List af) (ρ:aQ) (aj:ah):Prop
 |mk (e:fds=done++rest) (fd:kH σ cl rs rest) (r:r=rs.map .loc) (bN:ρ 1=some (.bytes (cy hd done).1)) (cu:ρ 2=some (.loc σ.next)) (g:aj.get σ.next=.list ((cy hd done).2.map (nS cl))) (u:aw [] σ aj) (n:σ.next<aj.next) (XN:t9 hd done) (fk:(cy hd done).1.length<=2400*done.length) (bS:(cy hd done).2.length<=done.length) (pY:∀e∈(cy hd done).2,∃f∈done,e.1=f.k)
theorem FL{hd:Nat->ba}{d:List cQ}{fd:cQ}:cy hd (d++[fd])=im hd (cy hd d) fd:=IZ
theorem Q1{hd:Nat->ba}{d:List cQ}{fd:cQ}(pY:∀e∈(cy hd d).2,∃f∈d,e.1=f.k):∀e∈(im hd (cy hd d) fd).2,∃f∈d++[fd],e.1=f.k:=by
 have old:∀e∈(cy hd d).2,∃f∈d++[fd],e.1=f.k:=λe h=>(pY e h).elim λf zz=>zz.elim λa b=>⟨f,mc _ a,b⟩;unfold im;cases ft (cy hd d).2 fd.k with
 |cons p bJ=>exact old
 |nil=>exact db old ⟨fd,fK _ (.head _),rfl⟩
section
variable{hd:Nat->ba}{cl:Nat->Nat}{fds d fds':List cQ}{fd:cQ}{f:Nat}{rs':List Nat}{r:List af}{ρ ρ':aQ}{aj bP:ah}(H:r4 σ hd cl fds d (fd::fds') (f::rs') r ρ aj)
include H
theorem r4.next(fats:kH σ cl rs' fds')(ok:(hd fd.k).Ok)(ok':hj fd.ops)(bN:ρ' 1=some (.bytes (im hd (cy hd d) fd).1))(cu:ρ' 2=some (.loc σ.next))(g:bP.get σ.next=.list ((im hd (cy hd d) fd).2.map (nS cl)))(u:aw [] σ bP)(n:σ.next<bP.next)
  (a:∀o∈(hd fd.k).ops,o.fits (hd fd.k).c (hd fd.k).d)(b:∀o∈fd.ops,o.fits (hd fd.k).c (hd fd.k).d):r4 σ hd cl fds (d++[fd]) fds' rs' (rs'.map .loc) ρ' bP:=by
 have l:=Q0 (st:=cy hd d) ok ok';have aa:=H.10;have h2:=H.11;rw[<-FL]at bN g l;have e:(d++[fd]).length=d.length+1:=bR;exact⟨by rw[cG];exact H.1,fats,rfl,bN,cu,g,u,n,db H.9 ⟨a,b⟩,by exact(bE λaq=>bj.go (.c _ (.c _ (.c _ (.c _ .o)))) (.c 1 (.v 2) (.a (.v 0) (.n 2400)) (.c 1 (.v 0) (.m 2400 (.v 1)) (.c 2400 (.a (.v 1) (.n 1)) (.v 3) (.c 1 (.a (.m 2400 (.v 3)) (.n 1)) (.v 2) .o)))) rfl l.1 aa (bb (bF e)) aq),by exact(bE λaq=>bj.go (.c _ (.c _ (.c _ (.c _ .o)))) (.c 1 (.v 2) (.a (.v 0) (.n 1)) (.c 1 (.v 0) (.v 1) (.c 1 (.a (.v 1) (.n 1)) (.v 3) (.c 1 (.a (.v 3) (.n 1)) (.v 2) .o)))) rfl l.2 h2 (bb (bF e)) aq),FL▸Q1 H.12⟩
theorem r4.met(hinj:∀f∈fds,∀g∈fds,cl f.k=cl g.k->f.k=g.k){en:Nat×Int}(h:en∈(cy hd d).2):(∃g∈fds,en.1=g.k)/\ ((cl en.1=cl fd.k)↔en.1=fd.k):=by
 obtain⟨g,cK,e⟩:=H.12 en h;have m:g∈fds:=H.1▸mc _ cK;exact⟨⟨g,m,e⟩,λz=>by rw[e]at z ⊢;exact hinj g m fd (H.1▸fK _ (.head _)) z,λz=>by rw[z]⟩
theorem r4.Q2{p:Int}{bJ:List Int}(h:ft (cy hd d).2 fd.k=p::bJ):∀o∈(hd fd.k).ops,o.fits (hd fd.k).c (hd fd.k).d:=by
 refine ao λG z=>?_;obtain⟨en,hen,_⟩:=iS.mp (show p∈ft (cy hd d).2 fd.k from h▸.head _);obtain⟨aa,h2⟩:=VY.mp hen;obtain⟨g,cK,e⟩:=H.12 en aa;refine z ?_;clear z G;have e2:en.1=fd.k:=of_decide_eq_true h2;rw[<-e2,e];exact(H.9 g cK).1
end
theorem Q3{K:List (Nat×Int)}{k:Nat}:(ft K k).length<=K.length:=by unfold ft;rw[cF];exact List.length_filter_le _ _
theorem FM{K:List (Nat×Int)}{k:Nat}{e:Nat×Int}:ft (K++[e]) k=ft K k++(if e.1=k then[e.2]else[]):=by
 unfold ft;rw[List.filter_append,cN];by_cases h:e.1=k<;>simp[h]
theorem FN{L:Nat}{fs:List Nat}{fds:List cQ}{hd:Nat->ba}{cl:Nat->Nat}(w:σ.bg)(hL:σ.get L=.list (fs.map .loc))(hf:kH σ cl fs fds)(hc:∀f∈fds,jC σ (cl f.k) (hd f.k))(hok:∀f∈fds,(hd f.k).Ok/\ hj f.ops)(hinj:∀f∈fds,∀g∈fds,cl f.k=cl g.k->f.k=g.k)(hlen:fds.length<=10)
  (h:t9 hd fds-> ∀σ',aw [] σ σ'->Q (.bytes (cy hd fds).1) σ')(hE:¬t9 hd fds-> ∀σ',aw [] σ σ'->E 1 σ'):bH fn bk bl (n+8) 33 [.loc L] σ Q E:=by
 refine bz rfl ?_;have hLn:L≠σ.next:=bq (w.lt hL (aA rfl))
 nomatch hL,hLn;refine kA (λr ρ aj=>∃done rest rs,r4 σ hd cl fds done rest rs r ρ aj) ?_ (λv r ρ aj H=>?_) λρ aj H=>?_
 ·exact⟨[],fds,fs,rfl,hf,rfl,rfl,rfl,bx,(aw.refl w).push,b9 _,(λ_w h=>nomatch h),du _,du _,(λ_w h=>nomatch h)⟩
 ·obtain⟨d,rest,rs,H⟩:=H;refine⟨H.7.aV w hL (aA rfl),?_⟩;have hfd:=H.2;cases hfd with
  |nil=>exact nomatch H.3
  |@cons f fd rs' fds' fat fats=>
   obtain⟨rfl,rfl⟩:=jM H.3;have hmem:fd∈fds:=H.1▸fK _ (.head _);have hdl:d.length<=10:=by have:=H.1▸hlen;rw[bR]at this;exact(aB (c8 _ _) this)
   refine ao λG z=>?_;obtain⟨ok1,ok2⟩:=hok fd hmem;obtain⟨ol,d1,_⟩:=(fat.up w H.7).1;refine z ?_;clear z G;have ca:∀{g:cQ},g∈fds-> ∃o,aj.get (cl g.k)=o/\ vl o/\ o≠.dead:=λcK=>(((hc _ cK).up w H.7).1).elim λ_w zz=>zz.elim λa _w=>⟨_,a,trivial,aA rfl⟩;nomatch H.5,H.6;refine⟨λr acc bP=>∃dn rt,(cy hd d).2=dn++rt/\ r=rt.map (nS cl)/\ acc=(ft dn fd.k).map .int/\ bP=aj,⟨[],_,rfl,rfl,rfl,rfl⟩,?_,?_⟩
   ·rintro v r acc bP ⟨dn,rt,e1,e2,rfl,rfl⟩
    refine⟨H.6,?_⟩;cases rt with
    |nil=>exact nomatch e2
    |cons en rt=>
     obtain⟨rfl,rfl⟩:=jM e2;refine ao λG z=>?_;obtain⟨⟨g,cK,eg⟩,hdec⟩:=H.met hinj (en:=en) (e1▸fK _ (.head _));obtain⟨o,g0,nb,_⟩:=ca cK;refine z ?_;clear z G;rw[<-eg]at g0;have e1':(cy hd d).2=(dn++[en])++rt:=by rw[cG];exact e1
     by_cases z:en.1=fd.k
     ·nomatch g0,d1,nb,hdec.mpr z;refine⟨?_,dn++[en],rt,e1',rfl,?_,rfl⟩
      ·have aa:=@Q3 dn fd.k;have h2:=H.11;rw[e1,bR]at h2;rw[cF];exact(dP λaq=>bj.go (.c _ (.c _ (.c _ (.c _ .o)))) (.c 1 (.v 0) (.n 10) (.c 1 (.v 3) (.v 1) (.c 1 (.a (.v 1) (.v 2)) (.v 0) (.c 1 (.n 1000000) (.v 3) .o)))) rfl hdl aa h2 aq)
      ·rw[FM,if_pos z,cN];rfl
     ·nomatch g0,d1,nb,(λq=>z (hdec.mp q));exact⟨dn++[en],rt,e1',rfl,by rw[FM,if_neg z,dK],rfl⟩
   ·rintro acc bP ⟨dn,rt,e1,e2,rfl,rfl⟩
    refine⟨H.6,?_⟩;obtain rfl:=ml.mp e2.symm;rw[dK]at e1;subst e1;have q1:((bP.push (.list ((ft (cy hd d).2 fd.k).map .int))).push (.list [])).get bP.next=.list ((ft (cy hd d).2 fd.k).map .int):=dw (bq (b9 _)) bx
    have u2:aw [] bP ((bP.push (.list ((ft (cy hd d).2 fd.k).map .int))).push (.list [])):=(aw.refl H.7.1).push.push;nomatch FJ q1 bx;have ne1:bP.next<((bP.push (.list ((ft (cy hd d).2 fd.k).map .int))).push (.list [])).next:=bX (b9 _)
    generalize ((bP.push (.list ((ft (cy hd d).2 fd.k).map .int))).push (.list []))=aC at*;have U2:=H.7.trans u2;have g2:=u2.aV H.7.1 H.6 (aA rfl);have fa2:=u2.aV H.7.1 d1 (aA rfl);have fat2:=fat.up w U2;have cie2:=(hc fd hmem).up w U2;have nfit:¬(∀o∈(hd fd.k).ops,o.fits (hd fd.k).c (hd fd.k).d)-> ¬t9 hd fds:=λa b=>a (b fd hmem).1;have nfit':¬(∀o∈fd.ops,o.fits (hd fd.k).c (hd fd.k).d)-> ¬t9 hd fds:=λa b=>a (b fd hmem).2;have next:=λ{ρ' bP}=>H.next (ρ':=ρ') (bP:=bP) fats ok1 ok2
    have hn2:=gB H.8 ne1;have fk:=H.10;cases az:ft (cy hd d).2 fd.k with
    |cons p bJ=>
     rw[az]at q1;have es:im hd (cy hd d) fd=((cy hd d).1++hk (hd fd.k) p fd,(cy hd d).2):=by unfold im;rw[az]
     rw[es]at next
     have hne:¬(p::bJ=[]):=yO;nomatch hne,H.4,q1;refine FH U2.1 cie2 fat2 ok1 ok2 (λff aU u3=>?_) (λnf aU u3=>hE (nfit' nf) _ (U2.trans u3));have:=r3 (H:=hd fd.k) (p:=p) ok2;nomatch(show(cy hd d).1.length+(hk (hd fd.k) p fd).length<=1000000 from aB (eY (aB fk (ur 2400 hdl)) this) (by decide));exact⟨_,_,_,next rfl H.5 (u3.aV U2.1 g2 (aA rfl)) (U2.trans u3) (bU hn2 u3.2) (H.Q2 az) ff⟩
    |nil=>
     have es:im hd (cy hd d) fd=((cy hd d).1++(hd fd.k).B++hk (hd fd.k) (cy hd d).1.length fd,(cy hd d).2++[(fd.k,((cy hd d).1.length:Int))]):=by unfold im;rw[az]
     rw[es,cN]at next
     rw[az]at q1;have m2:f≠aC.next:=bq (U2.1.lt fa2 (aA rfl))
     have m1:σ.next≠aC.next:=bq hn2
     have bM:(cy hd d).1.length<=1000000:=by exact(bE λaq=>bj.go (.c _ (.c _ .o)) (.c 2400 (.v 0) (.n 10) (.c 1 (.v 1) (.m 2400 (.v 0)) (.c 1 (.a (.n 1000000) (.n 1)) (.v 1) .o))) rfl hdl fk aq)
     have c2:((cy hd d).2.map (nS cl)).length<1000000:=by have:=H.11;rw[cF];exact(cM (aB this hdl) (by decide))
     have m3:f≠σ.next:=λe=>by rw[e,g2]at fa2;exact aA rfl fa2
     nomatch(rfl:([]:List Int)=[]),H.4,H.5,bM,g2,fa2,c2;have u4:aw [] σ ((aC.push (.list [.int (cy hd d).1.length])).set σ.next (.list ((cy hd d).2.map (nS cl)++[.tup [.loc (cl fd.k),.int (cy hd d).1.length]]))):=U2.push.set (.inr (bI _)) (bX hn2);have eN:=@cT (aC.push (.list [.int (cy hd d).1.length])) σ.next (.list ((cy hd d).2.map (nS cl)++[.tup [.loc (cl fd.k),.int (cy hd d).1.length]]))
     have p4:((aC.push (.list [.int (cy hd d).1.length])).set σ.next (.list ((cy hd d).2.map (nS cl)++[.tup [.loc (cl fd.k),.int (cy hd d).1.length]]))).get aC.next=.list [.int (cy hd d).1.length]:=cV m1.symm bx
     have hn4:σ.next<((aC.push (.list [.int (cy hd d).1.length])).set σ.next (.list ((cy hd d).2.map (nS cl)++[.tup [.loc (cl fd.k),.int (cy hd d).1.length]]))).next:=bX hn2
     generalize (aC.push (.list [.int (cy hd d).1.length])).set σ.next (.list ((cy hd d).2.map (nS cl)++[.tup [.loc (cl fd.k),.int (cy hd d).1.length]]))=c9 at*
     refine FG u4.1 ((hc fd hmem).up w u4) ok1 (λff dy u5=>?_) (λnf dy u5=>hE (nfit nf) _ (u4.trans u5));have hBl:=ba.r2 ok1;have U5:=u4.trans u5;have c3:(cy hd d).1.length+(hd fd.k).B.length<=1000000:=by exact(bE λaq=>bj.go (.c _ (.c _ (.c _ .o))) (.c 2400 (.v 0) (.n 10) (.c 1 (.v 1) (.m 2400 (.v 0)) (.c 1 (.v 2) (.n 1200) (.c 1 (.a (.n 1000000) (.n 1)) (.a (.v 1) (.v 2)) .o)))) rfl hdl fk hBl aq)
     have p5:=u5.aV u4.1 p4 (aA rfl);nomatch c3,p5;refine FH U5.1 ((hc fd hmem).up w U5) (fat.up w U5) ok1 ok2 (λff' qp u6=>?_) (λnf qp u6=>hE (nfit' nf) _ (U5.trans u6));have:=r3 (H:=hd fd.k) (p:=(cy hd d).1.length) ok2;have c4:((cy hd d).1++(hd fd.k).B).length+(hk (hd fd.k) (cy hd d).1.length fd).length<=1000000:=by rw[bR];exact(bE λaq=>bj.go (.c _ (.c _ (.c _ (.c _ .o)))) (.c 2400 (.v 0) (.n 10) (.c 1 (.v 1) (.m 2400 (.v 0)) (.c 1 (.v 2) (.n 1200) (.c 1 (.v 3) (.n 1200) (.c 1 (.a (.n 1000000) (.n 1)) (.a (.a (.v 1) (.v 2)) (.v 3)) .o))))) rfl hdl fk hBl this aq)
     nomatch c4;exact⟨_,_,_,next rfl H.5 ((u5.trans u6).aV u4.1 eN (aA rfl)) (U5.trans u6) (bU hn4 (aB u5.2 u6.2)) ff ff'⟩
 ·obtain⟨d,rest,rs,H⟩:=H;refine⟨H.7.aV w hL (aA rfl),?_⟩;obtain rfl:=ml.mp H.3.symm;have hfd:=H.2;cases hfd;have e:=H.1;rw[dK]at e;subst e;nomatch H.4;exact h H.9 _ H.7
end
section
variable{n:Nat}{σ bT:ah}{Q:cR}{E:Nat->ah->Prop}
theorem wP:∀xs:List (List UInt8),bytesOf (xs.map .bytes)=some xs:=by
 intro xs
 induction xs with
 |nil=>
  exact rfl
 |cons x xs ih=>
  show(bytesOf (xs.map .bytes)).map _=_;rw[ih];rfl
theorem Q4{α:Type}{f:α->List UInt8}{k:Nat}:∀{l:List α},(∀x∈l,(f x).length<=k)->(l.flatMap f).length<=k*l.length:=by
 intro l
 induction l with
 |nil=>
  intro _;exact du _
 |cons x r ih=>
  intro h;have h2:=ih λy hy=>h y (.tail _ hy);show(f x++r.flatMap f).length<=k*(r.length+1);rw[bR,Nat.mul_succ,uR];exact eY h2 (h x (.head _))
noncomputable abbrev gr(x:Int):Prop:=0<=x/\ x<128^20
theorem gr.lo{x:Int}(h:gr x): -(128^20)<=x:=bG (by decide) h.1
theorem mH{ns:List Int}(w:σ.bg)(hn:∀x∈ns,gr x)(hl:ns.length<=10)(h:∀σ',aw [] σ σ'->(ns.flatMap (a9 false)).length<=210->Q (.bytes (ns.flatMap (a9 false))) σ'):bH fn bk bl (n+2) 48 [.tup (ns.map .int)] σ Q E:=by
 refine bz rfl ?_;nomatch w;refine rX (M:=[]) ns af.int (λx=>.bytes (a9 false x)) rfl w (aB hl (by decide)) (λ_w _w=>trivial) ?_ ?_
 ·intro x ak aj u Q h;nomatch w;exact nO u.1 (hn x ak).lo (hn x ak).2 (.inr (hn x ak).1) λσ' u'=>h _ (u.trans u')
 ·intro σ' u;have e:bytesOf (ns.map λx=>.bytes (a9 false x))=some (ns.map (a9 false)):=(congrArg bytesOf oF).symm.trans (wP _);have hB:(ns.flatMap (a9 false)).length<=210:=aB (Q4 (k:=21) λx ak=>gP (hn x ak).lo (hn x ak).2) (ur 21 hl);have c:([]:List UInt8)=[]/\ (ns.map (a9 false)).flatten.length<=1000000/\ (ns.map λx=>af.bytes (a9 false x)).length<=1000000:=⟨rfl,by rw[<-I0];exact(aB hB (by decide)),lmap (aB hl (by decide))⟩;nomatch bx,e,c;rw[<-I0];exact h _ u.push hB
noncomputable abbrev Q5:cv:=.fg [("nop",.int 0),("undefined",.int 7),("same_value",.int 8),("register",.int 9),("remember_state",.int 10),("restore_state",.int 11),("def_cfa_register",.int 13)]
theorem jZ(h:Q (.loc σ.next) (σ.push Q5)):bH fn bk bl (n+1) 43 [] σ Q E:=bz rfl h
theorem one{k:Int}(h:0<=k/\ k<256):(∀n∈[k],0<=n/\ n<256)/\ [af.int k].length<=1000000:=⟨λn hn=>bW.mp hn▸h,of_decide_eq_true rfl⟩
theorem gr.of{x:Int}(h:0<=x)(h': -(2^100)<x/\ x<2^100):gr x:=⟨h,mG h'.2⟩
theorem gr.s1{x:Int}(h:gr x):∀y∈[x],gr y:=λ_w hy=>bW.mp hy▸h
theorem gr.s2{x y:Int}(h:gr x)(h':gr y):∀z∈[x,y],gr z:=c1.mpr ⟨h,h'.s1⟩
theorem jf{a:Int}{ys:List UInt8}(h:ys.length<=210):(iz [a]).length+ys.length<=1000000:=aB (fH h 1) (by decide)
theorem wQ{a:Int}{ys zs:List UInt8}(h:ys.length<=210)(h':zs.length<=21):(iz [a]++ys).length+zs.length<=1000000:=by rw[bR,show(iz [a]).length=1 from rfl];exact(bE λaq=>bj.go (.c _ (.c _ .o)) (.c 1 (.v 1) (.n 210) (.c 1 (.v 0) (.n 21) (.c 1 (.a (.n 1000000) (.n 1)) (.a (.a (.n 1) (.v 1)) (.v 0)) .o))) rfl h h' aq)
theorem XO:([]:List Int).flatMap (a9 false)=[]:=rfl
theorem r5{r:Int}:[r].flatMap (a9 false)=a9 false r:=dK _
theorem FO{r x:Int}:[r,x].flatMap (a9 false)=a9 false r++a9 false x:=congrArg (a9 false r++·) (dK _)
theorem Q6{o:Op}{c d:Int}(w:σ.bg)(hr:o.gG)(ar:o.small)(hc:ij c)(hd:ij d)(hf:o.fits c d)(h:∀σ',aw [] σ σ'->Q (.bytes (o.wr c d)) σ'):bH fn bk bl (n+3) 49 [o.v,.int c,.int d] σ Q E:=by
 refine bz rfl ?_;have r0:=aw.refl w (M:=[]);have hq:∀{bs:List UInt8}{σ':ah},bs=o.wr c d->aw [] σ σ'->Q (.bytes bs) σ':=λe u=>e▸h _ u;clear h;cases o with
 |iM|rem|res=>
  nomatch w;refine jZ ?_;nomatch bx;refine jZ ?_;have b:∀k:Int,k=0 \/k=10 \/k=11->0<=k/\ k<256:=by rintro _ (rfl|rfl|rfl)<;>decide
  nomatch bx,one (b _ (.inl rfl)),one (b _ (.inr (.inl rfl))),one (b _ (.inr (.inr rfl)));refine mH (ns:=[]) r0.push.push.push.1 (λ_w h=>nomatch h) (by decide) λσ' u hB=>?_;nomatch jf hB;exact hq rfl (r0.push.push.push.trans u)
 |kB r|same r|kD r=>
  nomatch w;refine jZ ?_;nomatch bx;refine jZ ?_;have b:∀k:Int,k=7 \/k=8 \/k=13->0<=k/\ k<256:=by rintro _ (rfl|rfl|rfl)<;>decide
  nomatch bx,one (b _ (.inl rfl)),one (b _ (.inr (.inl rfl))),one (b _ (.inr (.inr rfl)));refine mH (ns:=[r]) r0.push.push.push.1 (gr.of hr (ar r (.head _))).s1 (of_decide_eq_true rfl) λσ' u hB=>?_;nomatch jf hB;rw[r5];exact hq rfl (r0.push.push.push.trans u)
 |kC a e=>
  nomatch w;refine jZ ?_;nomatch bx;refine jZ ?_;nomatch bx,one (show(0:Int)<=9/\ (9:Int)<256 by decide);refine mH (ns:=[a,e]) r0.push.push.push.1 ((gr.of hr.1 (ar a (.head _))).s2 (gr.of hr.2 (ar e (.tail _ (.head _))))) (of_decide_eq_true rfl) λσ' u hB=>?_;nomatch jf hB;rw[FO];exact hq rfl (r0.push.push.push.trans u)
 |loc v=>
  nomatch bx,one (show(0:Int)<=1/\ (1:Int)<256 by decide);refine nP r0.push.1 (by decide) (by decide) λσ' u=>?_;nomatch jf (aB (bb (fq (v:=v) (k:=4))) (by decide));exact hq rfl (r0.push.trans u)
 |rest r=>
  have hn:=gr.of hr (ar r (.head _));by_cases c:r<64
  ·have b:0<=192+r/\ 192+r<256:=⟨fM (by decide) hr,by exact(dk (gY c _) (by decide))⟩;nomatch c,bx,one b;exact hq (by dsimp only[Op.wr];rw[if_pos c];rfl) r0.push
  ·nomatch c,bx,one (show(0:Int)<=6/\ (6:Int)<256 by decide);refine mH (ns:=[r]) r0.push.1 hn.s1 (of_decide_eq_true rfl) λσ' u hB=>?_;nomatch jf hB;exact hq (by dsimp only[Op.wr];rw[if_neg c,r5];rfl) (r0.push.trans u)
 |dG t=>
  obtain⟨f1,f2,f3⟩:=hf;have hd:c≠0/\ -18446744073709551616<c/\ c<18446744073709551616:=⟨f1,hc⟩;dsimp only[Op.wr]at hq;have b:∀k:Int,0<=k->k<64->0<=64+k/\ 64+k<256:=λk h0 aa=>⟨fM (by decide) h0,kP (gY aa 64) (by decide)⟩;have two:∀k:Int,k=2 \/k=3 \/k=4->0<=k/\ k<256:=by rintro _ (rfl|rfl|rfl)<;>decide
  have e1:(2:Int)+(1:Int).fdiv 2=2:=rfl;have e2:(2:Int)+(2:Int).fdiv 2=3:=rfl;have e4:(2:Int)+(4:Int).fdiv 2=4:=rfl;by_cases aa:t.fdiv c<64
  ·rw[if_pos aa]at hq;have h2:t.fdiv c<256:=kP aa (by decide);nomatch hd,aa,h2,bx,one (b _ f3 aa);exact hq rfl r0.push
  rw[if_neg aa]at hq;by_cases h2:t.fdiv c<256
  ·rw[if_pos h2]at hq;nomatch hd,aa,h2,bx,one (two _ (.inl e1));refine nP r0.push.1 (by decide) (by decide) λσ' u=>?_;nomatch jf (aB (bb fq) (by decide));refine hq ?_ (r0.push.trans u);show[2,dp (t.fdiv c/1%256)]=_;rw[WL,pf f3 h2]
  rw[if_neg h2]at hq;by_cases h3:t.fdiv c<65536
  ·rw[if_pos h3]at hq;nomatch hd,aa,h2,h3,bx,one (two _ (.inr (.inl e2)));refine nP r0.push.1 (by decide) (by decide) λσ' u=>?_;nomatch jf (aB (bb fq) (by decide));exact hq rfl (r0.push.trans u)
  ·rw[if_neg h3]at hq;nomatch hd,aa,h2,h3,bx,one (two _ (.inr (.inr e4)));refine nP r0.push.1 (by decide) (by decide) λσ' u=>?_;nomatch jf (aB (bb fq) (by decide));exact hq rfl (r0.push.trans u)
 |hh r x=>
  have ak:=ar x (.tail _ (.head _));have hn:=gr.of hr (ar r (.head _));dsimp only[Op.wr]at hq;by_cases h0:0<=x
  ·rw[if_pos h0]at hq;nomatch w;refine jZ ?_;nomatch h0,bx,one (show(0:Int)<=12/\ (12:Int)<256 by decide);refine mH (ns:=[r,x]) r0.push.push.1 (hn.s2 (gr.of h0 ak)) (of_decide_eq_true rfl) λσ' u hB=>?_;nomatch jf hB;rw[FO];exact hq rfl (r0.push.push.trans u)
  ·rw[if_neg h0]at hq;have hf':=hf.resolve_left h0;have hfd:=mF (d:=d) ak;have hd:d≠0/\ -18446744073709551616<d/\ d<18446744073709551616:=⟨hf'.1,hd⟩;nomatch w;refine jZ ?_;nomatch h0,bx,one (show(0:Int)<=18/\ (18:Int)<256 by decide);refine mH (ns:=[r]) r0.push.push.1 hn.s1 (of_decide_eq_true rfl) λσ' u hB=>?_;nomatch jf hB,hd;refine nO u.1 hfd.1 hfd.2 (.inl rfl) λaC u2=>?_;nomatch wQ hB (gP hfd.1 hfd.2);exact hq (by rw[r5,cG];rfl) ((r0.push.push.trans u).trans u2)
 |ig x=>
  have ak:=ar x (.head _);dsimp only[Op.wr]at hq;by_cases h0:0<=x
  ·rw[if_pos h0]at hq;nomatch w;refine jZ ?_;nomatch h0,bx,one (show(0:Int)<=14/\ (14:Int)<256 by decide);refine mH (ns:=[x]) r0.push.push.1 (gr.of h0 ak).s1 (of_decide_eq_true rfl) λσ' u hB=>?_;nomatch jf hB;rw[r5];exact hq rfl (r0.push.push.trans u)
  ·rw[if_neg h0]at hq;have hf':=hf.resolve_left h0;have hfd:=mF (d:=d) ak;have hd:d≠0/\ -18446744073709551616<d/\ d<18446744073709551616:=⟨hf'.1,hd⟩;nomatch w;refine jZ ?_;nomatch h0,bx,one (show(0:Int)<=19/\ (19:Int)<256 by decide);refine mH (ns:=[]) r0.push.push.1 (λ_w h=>nomatch h) (by decide) λσ' u hB=>?_;nomatch jf hB,hd;refine nO u.1 hfd.1 hfd.2 (.inl rfl) λaC u2=>?_;nomatch wQ hB (gP hfd.1 hfd.2);exact hq rfl ((r0.push.push.trans u).trans u2)
 |off r x=>
  obtain⟨f1,f2,f3,f4⟩:=hf;have hfd:=mF (d:=d) (ar x (.tail _ (.head _)));have hd:d≠0/\ -18446744073709551616<d/\ d<18446744073709551616:=⟨f1,hd⟩;have b:0<=128+r/\ 128+r<256:=⟨fM (by decide) hr,by exact(dk (gY f3 _) (by decide))⟩;nomatch w;refine jZ ?_;nomatch hd,bx,one b;refine nO r0.push.push.1 hfd.1 hfd.2 (.inr f4) λaC u2=>?_;nomatch jf (aB (gP hfd.1 hfd.2) (by decide));exact hq rfl (r0.push.push.trans u2)
 |hi r x|val r x=>
  have hfd:=mF (d:=d) (ar x (.tail _ (.head _)));have hn:=gr.of hr (ar r (.head _));have hd:d≠0/\ -18446744073709551616<d/\ d<18446744073709551616:=⟨hf.1,hd⟩;have b:∀k:Int,k=5 \/k=17 \/k=20 \/k=21->0<=k/\ k<256:=by rintro _ (rfl|rfl|rfl|rfl)<;>decide
  dsimp only[Op.wr]at hq;by_cases h0:x.fdiv d<0
  ·rw[if_neg (eR.mpr h0)]at hq;nomatch w;refine jZ ?_;nomatch hd,h0,bx,one (b _ (.inr (.inl rfl))),one (b _ (.inr (.inr (.inr rfl))));refine mH (ns:=[r]) r0.push.push.1 hn.s1 (of_decide_eq_true rfl) λσ' u hB=>?_;nomatch jf hB;refine nO u.1 hfd.1 hfd.2 (.inl (decide_eq_true h0)) λaC u2=>?_;nomatch wQ hB (gP hfd.1 hfd.2);exact hq (by rw[r5,decide_eq_true h0,cG];rfl) ((r0.push.push.trans u).trans u2)
  ·rw[if_pos (a6.mp h0)]at hq;nomatch w;refine jZ ?_;nomatch hd,h0,bx,one (b _ (.inl rfl)),one (b _ (.inr (.inr (.inl rfl))));refine mH (ns:=[r]) r0.push.push.1 hn.s1 (of_decide_eq_true rfl) λσ' u hB=>?_;nomatch jf hB;refine nO u.1 hfd.1 hfd.2 (.inr (a6.mp h0)) λaC u2=>?_;nomatch wQ hB (gP hfd.1 hfd.2);exact hq (by rw[r5,decide_eq_false h0,cG];rfl) ((r0.push.push.trans u).trans u2)
end
theorem Q7{b:Int}:(b.natAbs<2^64)=(-18446744073709551616<b/\ b<18446744073709551616):=propext ⟨Jh,B4⟩
theorem kI{x:Int}(h: -18446744073709551616<x/\ x<18446744073709551616):Builtin.Int.intBits x<=64:=PySem.intBits_le_iff.mpr (Q7▸h)
noncomputable def ua(o:Op):Dat:=.tuple [.str (aI o.nm),.tuple (o.args.map .int)]
theorem Op.strOk(o:Op):uy (aI o.nm)=true:=by cases o<;>(dsimp only[Op.nm];decide+kernel)
theorem FP{σ:ah}{n:Nat}(o:Op):deep σ (n+3) o.v=some (ua o):=by
 have e:deep σ (n+2) (.str o.nm)=some (.str (aI o.nm)):=if_pos o.strOk;have e2:deep σ (n+2) (.tup (o.args.map .int))=some (.tuple (o.args.map .int)):=congrArg (a7 I3) (FI _);show(d5 (deep σ (n+2)) [.str o.nm,.tup (o.args.map .int)]).map I3=_;unfold d5;rw[e];unfold d5;rw[e2];rfl
theorem FQ{α β lq:Type}{f:α->Option β}{g:lq->α}{k:lq->β}(h:∀x,f (g x)=some (k x)):∀xs:List lq,d5 f (xs.map g)=some (xs.map k):=by
 intro xs
 induction xs with
 |nil=>
  exact rfl
 |cons x r ih=>
  show(match f (g x)with|none=>none|some y=>(d5 f (r.map g)).map (y::·))=_;rw[h,ih];rfl
theorem Q8{σ:ah}{a b:Nat}{ops:List Op}(aa:σ.get a=.list (ops.map Op.v))(h2:σ.get b=.list []):g5 (.loc a) (.loc b) σ=some (decide (ops=[])):=by
 unfold g5;rw[nR aa,nR h2,FQ FP];refine congrArg some ?_;cases ops<;>simp
theorem FR{α:Type}{xs:List α}{x:α}:eI (xs++[x]) (-1)=some x:=by
 show(match df 0 999999&&df 1 (xs++[x]).length with|true=>(xs++[x])[(xs++[x]).length-1]?|false=>none)=_;rw[bR,show df 1 (xs.length+[x].length)=true from j9.mpr (va 1 _)];show(xs++[x])[xs.length]?=_;rw[pt (bI _),oo];rfl
noncomputable def strip(ops:List Op):List Op:=(ops.reverse.dropWhile λo=>decide (o.nm="nop")).reverse
theorem FS{l:List Op}{o:Op}(h:o.nm="nop"):strip (l++[o])=strip l:=by simp[strip,h]
theorem Q9{l:List Op}{o:Op}(h:o.nm≠"nop"):strip (l++[o])=l++[o]:=by simp[strip,h]
inductive Ra (σ:ah) (ρ:aQ) (l:Nat) (ops a:List Op) (ρ':aQ) (aj:ah):Prop
 |mk (e:ρ'=ρ) (g:aj.get l=.list (a.map Op.v)) (u:aw [l] σ aj) (s:strip a=strip ops) (n:a.length<=900000)
section
variable{n:Nat}{σ:ah}{Q:cR}{E:Nat->ah->Prop}
theorem wR{T:Tab}{P:cq}{K:cX}{ρ:aQ}{v l:Nat}{ops:List Op}(w:σ.bg)(Aw:ρ v=some (.loc l))(hl:σ.get l=.list (ops.map Op.v))(hn:ops.length<=900000)(h:∀σ',aw [l] σ σ'->σ'.get l=.list ((strip ops).map Op.v)->(K ρ σ').P):
  y3 (λk ρ σ=>cc T (.and (.cmp .ne (.var v) (.list [])) (.cmp .eq (.idx (.idx (.var v) (.neg (.lit (.int 1)))) (.lit (.int 0))) (.lit (.str "nop")))) k P [] ρ σ) (λP' ρ σ=>sB T [.expr (.aS (.var v) 10 [])] P' ρ σ) K P ρ σ:=by
 refine lB (Ra σ ρ l ops) qM ops ⟨rfl,hl,.refl w,rfl,hn⟩ λa ρ' aj H=>?_;obtain rfl:=H.1;have nn:l≠aj.next:=bq (H.3.1.lt H.2 (aA rfl))
 have ga:(aj.push (.list [])).get l=.list (a.map Op.v):=dw nn H.2;have ce:=Q8 ga bx;rcases I4 a with rfl|⟨a',o,rfl⟩
 ·have e:([]:List Op)=[]:=rfl;nomatch Aw,ce,e;exact h _ H.3.push (H.4▸ga)
 ·rw[I5]at*;have hne:a'++[o]≠[]:=WM _ yO;have gl:eI ((a'++[o]).map Op.v) (-1)=some o.v:=by rw[cN];exact FR
  by_cases ho:o.nm="nop"
  ·have e1:((a'++[o]).map Op.v).getLast?=some o.v:=by rw[cN];exact List.getLast?_concat
   have e2:((a'++[o]).map Op.v).dropLast=a'.map Op.v:=by rw[cN];exact List.dropLast_concat
   have c:=lmap (f:=Op.v) (aB H.5 (show 900000<=1000000 by decide));have lt:a'.length<(a'++[o]).length:=by rw[bR];exact b9 _
   nomatch Aw,ce,hne,ga,gl,ho,e1,c;exact⟨a',lt,rfl,by rw[e2];exact cT,H.3.push.set (.inl (.head _)) (bX (H.3.1.lt H.2 (aA rfl))),(FS ho).symm.trans H.4,dA (bU lt H.5)⟩
  ·nomatch Aw,ce,hne,ga,gl,ho;exact h _ H.3.push (by rw[ga,<-H.4,Q9 ho])
theorem FT{b:List UInt8}{ol:Nat}{ops:List Op}{c d:Int}(w:σ.bg)(ho:σ.get ol=.list (ops.map Op.v))(ok:hj ops)(ae:b.length<=1000)(hc:ij c)(hd:ij d)(hf:∀o∈ops,o.fits c d)(h:∀σ',aw [] σ σ'->Q (.bytes (kF (b++da c d ops))) σ'):
  bH fn bk bl (n+4) 50 [.bytes b,.loc ol,.int c,.int d] σ Q E:=by
 refine bz rfl ?_;have hB:=t7 (c:=c) (d:=d) ok;have hol:ops.length<=1000000:=aB ok.2.2 (by decide);nomatch ho;refine rX (M:=[]) ops Op.v (λo=>.bytes (o.wr c d)) rfl w hol (λaj u=>u.aV w ho (aA rfl)) ?_ ?_
 ·intro o ho' aj u Q h;nomatch w;exact Q6 u.1 (ok.1 o ho') (ok.2.1 o ho') hc hd (hf o ho') λσ' u'=>h _ (u.trans u')
 ·intro σ' u;have e:bytesOf (ops.map λo=>.bytes (o.wr c d))=some (ops.map (Op.wr c d)):=(congrArg bytesOf oF).symm.trans (wP _);have e2:(ops.map (Op.wr c d)).flatten=da c d ops:=I0.symm;have hl:(b++da c d ops).length<=2000:=by rw[bR];exact(aB (eY ae hB) (by decide))
  have bM:([]:List UInt8)=[]/\ (ops.map (Op.wr c d)).flatten.length<=1000000/\ (ops.map λo=>af.bytes (o.wr c d)).length<=1000000:=⟨rfl,by rw[e2];exact(aB hB (by decide)),lmap hol⟩;have c2:b.length+(ops.map (Op.wr c d)).flatten.length<=1000000:=by rw[e2];exact(aB (eY ae hB) (by decide))
  have c3:(b++(ops.map (Op.wr c d)).flatten).length<=1000000:=by rw[e2];exact(aB hl (by decide))
  have hm:=@lC (-((b++da c d ops).length:Int)) 4 (by decide);have h4:0<=(-((b++da c d ops).length:Int)).fmod 4/\ (-((b++da c d ops).length:Int)).fmod 4<=1000000:=by exact⟨(bG (fJ _ (by decide:(4:Int)≠0)) (aP (bF hm))),(a6.mp λaq=>bp.go (.c _ (.c _ .o)) (.c 1 (.v 1) (.v 0) (.c 1 (.a (.n 1000000) (.n 1)) (.v 1) (.c 1 (.a (.v 0) (.n 1)) (.n 4) .o))) rfl (aP hm) aq (fw _ (by decide:(0:Int)<4)))⟩
  have hU:(b++da c d ops)++gy ((-((b++da c d ops).length:Int)).fmod 4).toNat 0=je (b++da c d ops):=by rw[hm];rfl
  have hp:(je (b++da c d ops)).length<=100000:=by rw[r1];exact aB (eY hl (ve _)) (by decide)
  nomatch bx,e,bM,c2,c3;rw[e2];have c4:(b++da c d ops).length+(gy ((-((b++da c d ops).length:Int)).fmod 4).toNat (0:UInt8)).length<=1000000:=by rw[IY,hm];exact aB (eY hl (ve _)) (by decide)
  nomatch h4,c4;rw[hU];have c5:(je (b++da c d ops)).length<=1000000:=aB hp (by decide);nomatch c5;refine nP u.push.1 (by decide) (by decide) λaC u2=>?_;have c6:(bO (je (b++da c d ops)).length (4:Int).toNat).length+(je (b++da c d ops)).length<=1000000:=by rw[fq];show 4+_<=_;exact(aB (fH hp _) (by decide))
  nomatch c6;exact h _ (u.push.trans u2)
noncomputable def Op.nT(c:Int):Op->Op
 |.dG t=>.dG ((t.fdiv c).fmod 4294967296*c)
 |.loc v=>.loc (v.fmod 4294967296)
 |o=>o
noncomputable def nU(c:Int)(ops:List Op):List Op:=strip (ops.map (Op.nT c))
theorem Op.Rb(o:Op):(∃t,o=.dG t) \/(∃t,o=.loc t) \/(o.nm≠"advance_loc"/\ o.nm≠"set_loc"/\ ∀c,o.nT c=o):=by
 cases o<;>first|exact .inl ⟨_,rfl⟩|exact .inr (.inl ⟨_,rfl⟩)|exact .inr (.inr ⟨of_decide_eq_true rfl,of_decide_eq_true rfl,λ_w=>rfl⟩)
inductive FU (σ:ah) (c:Int) (ops done rest:List Op) (r:List af) (ρ:aQ) (aj:ah):Prop
 |mk (e:ops=done++rest) (r:r=rest.map Op.v) (bN:ρ 1=some (.int c)) (cu:ρ 2=some (.loc σ.next)) (g:aj.get σ.next=.list ((done.map (Op.nT c)).map Op.v)) (n:σ.next<aj.next) (u:aw [] σ aj)
theorem wS{ol:Nat}{ops:List Op}{c:Int}(w:σ.bg)(ho:σ.get ol=.list (ops.map Op.v))(ok:hj ops)(hc:ij c)(hc0:∀o∈ops,∀t,o=.dG t->c≠0)(h:∀k σ',aw [] σ σ'->σ.next<=k->σ'.get k=.list ((nU c ops).map Op.v)->Q (.loc k) σ'):
  bH fn bk bl (n+1) 53 [.loc ol,.int c] σ Q E:=by
 refine bz rfl ?_;have nn:ol≠σ.next:=bq (w.lt ho (aA rfl))
 have hm:∀x:Int,gV (x.fmod 4294967296) c:=λx=>ni (by
  have aa:=WC x (show(0:Int)<4294967296 by decide)
  have h2:=WD x (show(0:Int)<4294967296 by decide)
  exact kI ⟨by exact(bG (by decide) aa),by exact(bG h2 (by decide))⟩)
 nomatch ho,nn;refine kA (λr ρ aj=>∃done rest,FU σ c ops done rest r ρ aj) ?_ (λv r ρ aj H=>?_) λρ aj H=>?_
 ·exact⟨[],ops,rfl,rfl,rfl,rfl,bx,b9 _,(aw.refl w).push⟩
 ·obtain⟨d,rest,H⟩:=H;refine⟨H.7.aV w ho (aA rfl),?_⟩;cases rest with
  |nil=>exact nomatch H.2
  |cons o b7=>
   obtain⟨rfl,rfl⟩:=jM H.2;have e:ops=(d++[o])++b7:=by rw[cG];exact H.1
   have hol:((d.map (Op.nT c)).map Op.v).length<1000000:=by
    have:=ok.2.2;rw[e,bR,bR]at this;rw[cF,cF];exact(dP λaq=>bj.go (.c _ (.c _ (.c _ .o))) (.c 1 (.a (.a (.v 0) (.v 1)) (.v 2)) (.n 20) (.c 1 (.n 1000000) (.v 0) .o)) rfl this aq)
   have fin:∀{ρ':aQ}{X:af},ρ' 1=some (.int c)->ρ' 2=some (.loc σ.next)->X=(o.nT c).v-> ∃done rest,FU σ c ops done rest (b7.map Op.v) ρ' (aj.set σ.next (.list ((d.map (Op.nT c)).map Op.v++[X]))):=λa b x=>
    ⟨d++[o],b7,e,rfl,a,b,by rw[x,cN,cN];exact cT,H.6,H.7.set (.inr (bI _)) H.6⟩
   rcases o.Rb with⟨t,rfl⟩|⟨t,rfl⟩|⟨cw,cJ,k3⟩
   ·have b:c≠0/\ -18446744073709551616<c/\ c<18446744073709551616:=⟨hc0 _ (e▸mc _ (fK _ (.head _))) t rfl,hc⟩;have hm':gV ((t.fdiv c).fmod (2^(32:Int).toNat)) c:=hm _;nomatch H.3,H.4,H.5,b,hm',hol;exact fin H.3 H.4 rfl
   ·nomatch H.3,H.4,H.5,hol;exact fin H.3 H.4 rfl
   ·nomatch H.3,H.4,H.5,cw,cJ,hol;exact fin H.3 H.4 (congrArg Op.v (k3 c).symm)
 ·obtain⟨d,rest,H⟩:=H;refine⟨H.7.aV w ho (aA rfl),?_⟩;obtain rfl:=ml.mp H.2.symm;have e:=H.1;rw[dK]at e;subst e;nomatch w;refine wR H.7.1 H.4 H.5 (by have:=ok.2.2;rw[cF];exact(aB this (by decide))) λσ' u' g'=>?_;nomatch H.4;exact h _ _ (H.7.over u' (ik (bI _))) (bI _) g'
end
theorem Rc{o o':cv}{F:cv->Ask}(h:o=o')(g:(F o').P):(Ask.obj o F).P:=h▸g
theorem Rd{α:Type}{o:Option α}{F:α->Ask}{v:α}(h:o=some v)(g:(F v).P):(Ask.some o F).P:=⟨v,h,g⟩
noncomputable def cL(σ:ah)(lw ls:Nat):Prop:=∃ns p w,Well σ lw ls ns p w
section
variable{σ σ':ah}{lw ls l:Nat}{M:List Nat}{o:cv}(W:cL σ lw ls)
include W
theorem cL.up(w:σ.bg)(u:aw M σ σ')(a:lw∉M)(b:ls∉M):cL σ' lw ls:=W.elim λns zz=>zz.elim λp zz=>zz.elim λx H=>⟨ns,p,x,u.at w H.1 (aA rfl) a,u.at w H.2 (aA rfl) b,H.3,H.4,H.5⟩
theorem cL.nV(w:σ.bg)(u:aw [] σ σ'):cL σ' lw ls:=W.up w u el el
theorem cL.push(w:σ.bg):cL (σ.push o) lw ls:=W.nV w (.push (.refl w))
theorem cL.set(a:l≠lw)(b:l≠ls):cL (σ.set l o) lw ls:=W.elim λns zz=>zz.elim λp zz=>zz.elim λx H=>⟨ns,p,x,cV a.symm H.1,cV b.symm H.2,H.3,H.4,H.5⟩
theorem cL.lt(w:σ.bg):lw<σ.next:=W.elim λ_w zz=>zz.elim λ_w zz=>zz.elim λ_w H=>w.lt H.1 (aA rfl)
theorem cL.FV(w:σ.bg):ls<σ.next:=W.elim λ_w zz=>zz.elim λ_w zz=>zz.elim λ_w H=>w.lt H.2 (aA rfl)
end
theorem Re{α:Type}{f:Int->α}{xs:List Int}{k:Int}(h0:0<=k)(aa:k<xs.length)(hl:xs.length<=1000):∃v∈xs,eI (xs.map f) k=some (f v):=by
 obtain⟨v,ai,e⟩:=wJ (f:=f) h0 aa (by exact(a6.mp λaq=>bp.go (.c _ (.c _ .o)) (.c 1 (.a (.v 1) (.n 1)) (.v 0) (.c 1 (.a (.n 1000000) (.n 1)) (.v 1) (.c 1 (.v 0) (.n 1000) .o))) rfl aa aq (aX.mpr hl)));exact⟨v,oi ai,e⟩
noncomputable abbrev fU(x:Int):Prop:= -(2^100)<x/\ x<2^100
theorem fU.of{x:Int}(h: -18446744073709551616<=x/\ x<=18446744073709551616):fU x:=by
 have e1:(2:Int)^100=1267650600228229401496703205376:=by decide
 unfold fU;rw[e1];exact⟨(bG (by decide) h.1),(eZ h.2 (by decide))⟩
theorem wT{a b:Int}(aM: -1000<a/\ a<1000)(ae: -18446744073709551616<=b/\ b<=18446744073709551616):fU (a*b):=by
 have aa:(a*b).natAbs<=1000*18446744073709551616:=by
  rw[Int.natAbs_mul];exact Nat.mul_le_mul (rd 1000 (fG aM.1) (fG aM.2)) (rd 18446744073709551616 ae.1 ae.2)
 have e1:(2:Int)^100=1267650600228229401496703205376:=by decide
 unfold fU;rw[e1];exact⟨dk (by decide) (vd aa).1,eZ (vd aa).2 (by decide)⟩
inductive qq (c d:Int) (o:Op):Prop
 |mk (gG:o.gG) (small:o.small) (fits:o.fits c d)
theorem wU:∀y∈([]:List Int),fU y:=λ_w h=>nomatch h
theorem lE{x:Int}(h:fU x):∀y∈[x],fU y:=c1.mpr ⟨h,wU⟩
theorem kJ{x y:Int}(h:fU x)(h':fU y):∀z∈[x,y],fU z:=c1.mpr ⟨h,lE h'⟩
section
variable{n:Nat}{σ:ah}{Q:cR}{E:Nat->ah->Prop}{lw ls:Nat}
theorem hs{size:Int}(w:σ.bg)(W:cL σ lw ls)(ar:0<size)(hs':size<1000000)(h:∀r σ',0<=r->r<size->cL σ' lw ls->aw [lw] σ σ'->Q (.int r) σ'):bH fn bk bl (n+1) 45 [.loc lw,.int size] σ Q E:=
 W.elim λ_w zz=>zz.elim λ_w zz=>zz.elim λ_w H=>Qr H ar hs' λr p' w' h0 aa W'=>h r _ h0 aa ⟨_,p',w',W'⟩ ((aw.refl w).set (.inl (.head _)) (w.lt H.1 (aA rfl)))
theorem mI{xs:List Int}{size:Int}(P:Int->Prop)(ak:∀v∈xs,P v)(e:(xs.length:Int)=size)(ar:0<size)(hs':size<1000)(w:σ.bg)(W:cL σ lw ls)(h:∀v r σ',P v->eI (xs.map .int) r=some (af.int v)->cL σ' lw ls->aw [lw] σ σ'->Q (.int r) σ'):bH fn bk bl (n+1) 45 [.loc lw,.int size] σ Q E:=
 hs w W ar (bG hs' (by decide)) λr σ' a b W' u=>(Re (f:=af.int) (xs:=xs) a (e▸b) (by exact(bE λaq=>bp.go (.c _ (.c _ .o)) (.c 1 (.v 1) (.v 0) (.c 1 (.a (.v 0) (.n 1)) (.n 1000) (.c 1 (.a (.n 1000) (.n 1)) (.v 1) .o))) rfl (aP e) hs' (aX.mpr aq)))).elim λv zz=>zz.elim λai g=>h v r σ' (ak v ai) g W' u
theorem j0(w:σ.bg)(W:cL σ lw ls)(h:∀v r σ',(0<=v/\ v<=70000)->eI (gG.map .int) r=some (af.int v)->cL σ' lw ls->aw [lw] σ σ'->Q (.int r) σ'):bH fn bk bl (n+1) 45 [.loc lw,.int 7] σ Q E:=
 mI (xs:=gG) (λv=>0<=v/\ v<=70000) (by decide) rfl (by decide) (by decide) w W h
theorem r6(w:σ.bg)(W:cL σ lw ls)(h:∀v r σ',(0<=v/\ v<=18446744073709551616)->eI (vi.map .int) r=some (af.int v)->cL σ' lw ls->aw [lw] σ σ'->Q (.int r) σ'):bH fn bk bl (n+1) 45 [.loc lw,.int 13] σ Q E:=
 mI (xs:=vi) (λv=>0<=v/\ v<=18446744073709551616) (by decide) rfl (by decide) (by decide) w W h
noncomputable abbrev aG(l:List C):List C:=match l with|_::l=>l|[]=>[]
noncomputable def gR:List String:=["def_cfa","def_cfa_offset","set_loc","restore","nop","undefined","same_value","register","remember_state","restore_state","def_cfa_register"]
noncomputable def mJ:List String:=["offset","offset_extended","val_offset"]
noncomputable def qr(c d:Int)(nm:String):Prop:=nm∈gR \/(nm="advance_loc"/\ c≠0) \/(nm∈mJ/\ d≠0)
theorem FW{d t y:Int}(e:y=0-(d.natAbs:Int)*t):0<=y \/(d≠0/\ y.fmod d=0):=by
 by_cases hd0:d=0
 ·exact .inl (by rw[e,hd0];exact aP (by rw[Int.natAbs_zero,Int.natCast_zero,G7];rfl))
 ·refine .inr ⟨hd0,?_⟩;rcases Int.natAbs_eq d with q|q
  ·rw[e,<-q,WN,<-BW,sQ]
  ·have q':((d.natAbs:Nat):Int)= -d:=by exact(kY (a6.mp λaq=>bp.go (.c _ (.c _ (.c _ (.c _ .o)))) (.c 1 (.v 2) (.v 0) (.c 1 (.a (.v 3) (.n 1)) (.v 1) (.c 1 (.a (.v 0) (.v 1)) (.n 0) (.c 1 (.n 0) (.a (.v 3) (.v 2)) .o)))) rfl (aP q) aq (aP (fy _)) (aP (bF (fy _)))) (a6.mp λaq=>bp.go (.c _ (.c _ (.c _ (.c _ .o)))) (.c 1 (.v 3) (.v 0) (.c 1 (.a (.v 2) (.n 1)) (.v 1) (.c 1 (.n 0) (.a (.v 3) (.v 2)) (.c 1 (.a (.v 1) (.v 0)) (.n 0) .o)))) rfl (aP (bF q)) aq (aP (bF (fy _))) (aP (fy _))))
   rw[e,q',WI,WN,Int.neg_neg,sQ]
theorem Rf{ρ:aQ}{nm:String}{c d:Int}{P:cq}(w:σ.bg)(W:cL σ lw ls)(r0:ρ 0=some (.loc lw))(bN:ρ 1=some (.int c))(cu:ρ 2=some (.int d))(dh:ρ 4=some (.str nm))
  (hc:0<=c/\ c<1000)(hd: -1000<d/\ d<1000)(hn:qr c d nm)(h:∀o σ',qq c d o->cL σ' lw ls->aw [lw] σ σ'->(P.V o.v σ').P):(sB (TT (n+1)) (aG (aG (aG (aG y8.body)))) P ρ σ).P:=by
 have bc:∀x:Int,gV x c:=λx=>yE (kI (by exact⟨(bG (by decide) hc.1),(bG hc.2 (by decide))⟩));have bd:∀x:Int,gV d x:=λx=>ni (kI (by exact⟨(bG (by decide) hd.1),(bG hd.2 (by decide))⟩));have ad: -1000<((d.natAbs:Nat):Int)/\ ((d.natAbs:Nat):Int)<1000:=⟨dk (by decide) (cD _),dR.mpr (uw (rd 999 (Hb hd.1) (ut hd.2)))⟩;have bd':∀x:Int,gV ((d.natAbs:Nat):Int) x:=λx=>ni (kI ⟨kP (by decide) (ad).1,kP ad.2 (by decide)⟩);have ma:=λ{t:Int}(ht:0<=t/\ t<=18446744073709551616)=>wT (a:=((d.natAbs:Nat):Int)) (b:=t) ad (by exact⟨(bG (by decide) ht.1),ht.2⟩);have md:=λ{t:Int}(ht:0<=t/\ t<=18446744073709551616)=>wT (b:=t) hd (by exact⟨(bG (by decide) ht.1),ht.2⟩);have mn:=λ{t:Int}(ht:0<=t/\ t<=18446744073709551616)=>wT (b:=0-t) hd (by exact⟨(a6.mp λaq=>bp.go (.c _ (.c _ .o)) (.c 1 (.v 0) (.n 18446744073709551616) (.c 1 (.a (.v 1) (.n 1)) (.n (-18446744073709551616)) (.c 1 (.n 0) (.a (.v 1) (.v 0)) .o))) rfl ht.2 aq (aP (bF (dB _ _)))),(a6.mp λaq=>bp.go (.c _ (.c _ .o)) (.c 1 (.n 0) (.v 0) (.c 1 (.a (.n 18446744073709551616) (.n 1)) (.v 1) (.c 1 (.a (.v 1) (.v 0)) (.n 0) .o))) rfl ht.1 aq (aP (dB _ _)))⟩);have s1:=λ{v:Int}(ai:0<=v/\ v<=70000)=>fU.of (x:=v) (by exact⟨(bG (by decide) ai.1),(bG ai.2 (by decide))⟩);have s2:=λ{v:Int}(ai:0<=v/\ v<=18446744073709551616)=>fU.of (x:=v) (by exact⟨(bG (by decide) ai.1),ai.2⟩);have h1:=λ{t:Int}(ht:0<=t/\ t<=18446744073709551616)=>(show fU (0-(d.natAbs:Int)*t) by have:=ma ht;unfold fU at*;exact⟨(eR.mp λaq=>bp.go (.c _ (.c _ (.c _ (.c _ .o)))) (.c 1 (.a (.v 2) (.n 1)) (.v 1) (.c 1 (.v 3) (.v 0) (.c 1 (.a (.v 0) (.v 1)) (.n 0) (.c 1 (.n 0) (.a (.v 3) (.v 2)) .o)))) rfl this.2 aq (aP (fy _)) (aP (bF (dB _ _)))),(eR.mp λaq=>bp.go (.c _ (.c _ (.c _ (.c _ .o)))) (.c 1 (.a (.v 3) (.n 1)) (.v 0) (.c 1 (.v 2) (.v 1) (.c 1 (.n 0) (.a (.v 3) (.v 2)) (.c 1 (.a (.v 1) (.v 0)) (.n 0) .o)))) rfl this.1 aq (aP (bF (fy _))) (aP (dB _ _)))⟩);rcases hn with hn|⟨rfl,dN⟩|⟨hn,iL⟩
 ·simp only[gR,gA,el,or_false]at hn;rcases hn with rfl|rfl|rfl|rfl|rfl|rfl|rfl|rfl|rfl|rfl|rfl
  ·nomatch dh,r0;refine j0 w W λv r aJ ai g1 W1 u1=>?_;nomatch g1,dh,r0;refine r6 u1.1 W1 λt b7 aC ht g2 W2 u2=>?_;nomatch g2,r0;refine hs u2.1 W2 (by decide) (by decide) λz aU _w _w W3 u3=>?_;by_cases ae:z=2
   ·nomatch ae,dh,cu,bd' t;exact h (.hh v _) _ ⟨ai.1,kJ (s1 ai) (h1 ht),FW rfl⟩ W3 ((u1.trans u2).trans u3)
   ·nomatch ae,dh,cu;exact h (.hh v t) _ ⟨ai.1,kJ (s1 ai) (s2 ht),.inl ht.1⟩ W3 ((u1.trans u2).trans u3)
  ·nomatch dh,r0;refine j0 w W λv r aJ ai g1 W1 u1=>?_;nomatch g1,dh,r0;refine r6 u1.1 W1 λt b7 aC ht g2 W2 u2=>?_;nomatch g2,r0;refine hs u2.1 W2 (by decide) (by decide) λz aU _w _w W3 u3=>?_;by_cases ae:z=2
   ·nomatch ae,dh,cu,bd' t;exact h (.ig _) _ ⟨trivial,lE (h1 ht),FW rfl⟩ W3 ((u1.trans u2).trans u3)
   ·nomatch ae,dh,cu;exact h (.ig t) _ ⟨trivial,lE (s2 ht),.inl ht.1⟩ W3 ((u1.trans u2).trans u3)
  ·nomatch dh,r0;refine mI (xs:=sV) fU (by decide) rfl (by decide) (by decide) w W λv r aJ ai g1 W1 u1=>?_;nomatch g1,dh;exact h (.loc v) _ ⟨trivial,lE ai,trivial⟩ W1 u1
  ·nomatch dh,r0;refine j0 w W λv r aJ ai g1 W1 u1=>?_;nomatch g1,dh;exact h (.rest v) _ ⟨ai.1,lE (s1 ai),trivial⟩ W1 u1
  ·nomatch dh;exact h .iM _ ⟨trivial,wU,trivial⟩ W (.refl w)
  ·nomatch dh,r0;refine j0 w W λv r aJ ai g1 W1 u1=>?_;nomatch g1,dh;exact h (.kB v) _ ⟨ai.1,lE (s1 ai),trivial⟩ W1 u1
  ·nomatch dh,r0;refine j0 w W λv r aJ ai g1 W1 u1=>?_;nomatch g1,dh;exact h (.same v) _ ⟨ai.1,lE (s1 ai),trivial⟩ W1 u1
  ·nomatch dh,r0;refine j0 w W λv r aJ ai g1 W1 u1=>?_;nomatch g1,dh,r0;refine j0 u1.1 W1 λt b7 aC ht g2 W2 u2=>?_;nomatch g2,dh;exact h (.kC v t) _ ⟨⟨ai.1,ht.1⟩,kJ (s1 ai) (s1 ht),trivial⟩ W2 (u1.trans u2)
  ·nomatch dh;exact h .rem _ ⟨trivial,wU,trivial⟩ W (.refl w)
  ·nomatch dh;exact h .res _ ⟨trivial,wU,trivial⟩ W (.refl w)
  ·nomatch dh,r0;refine j0 w W λv r aJ ai g1 W1 u1=>?_;nomatch g1,dh;exact h (.kD v) _ ⟨ai.1,lE (s1 ai),trivial⟩ W1 u1
 ·nomatch dh,r0;refine r6 w W λv r aJ ai g1 W1 u1=>?_;nomatch g1,dh,bN,bc v;exact h (.dG (v*c)) _ ⟨trivial,lE (lY c v▸wT (by exact⟨(bG (by decide) hc.1),hc.2⟩) (by exact⟨(bG (by decide) ai.1),ai.2⟩)),dN,Int.mul_fmod_left _ _,by rw[Int.mul_fdiv_cancel _ dN];exact ai.1⟩ W1 u1
 ·simp only[mJ,gA,el,or_false]at hn;rcases hn with rfl|rfl|rfl
  ·nomatch dh,r0;refine j0 w W λv r aJ ai g1 W1 u1=>?_;nomatch g1,dh,r0;refine r6 u1.1 W1 λt b7 aC ht g2 W2 u2=>?_;nomatch g2,r0;refine hs u2.1 W2 (by decide) (by decide) λz aU _w _w W3 u3=>?_;nomatch dh,cu,bd t;have e:=@lC v 64 (by decide);have hm:0<=v.fmod 64/\ v.fmod 64<64:=by exact⟨(bG (fJ _ (by decide:(64:Int)≠0)) (aP (bF e))),(eZ (aP e) (fw _ (by decide:(0:Int)<64)))⟩
   exact h (.off (v.fmod 64) (d*t)) _ ⟨hm.1,kJ (fU.of (by exact⟨(bG (by decide) hm.1),(fG (dk hm.2 (by decide)))⟩)) (md ht),iL,sQ _ _,hm.2,by rw[Int.mul_fdiv_cancel_left _ iL];exact ht.1⟩ W3 ((u1.trans u2).trans u3)
  ·nomatch dh,r0;refine j0 w W λv r aJ ai g1 W1 u1=>?_;nomatch g1,dh,r0;refine r6 u1.1 W1 λt b7 aC ht g2 W2 u2=>?_;nomatch g2,r0;refine hs u2.1 W2 (by decide) (by decide) λz aU _w _w W3 u3=>?_;by_cases ae:z=2
   ·nomatch ae,dh,cu,bd (0-t);exact h (.hi v (d*(0-t))) _ ⟨ai.1,kJ (s1 ai) (mn ht),iL,sQ _ _⟩ W3 ((u1.trans u2).trans u3)
   ·nomatch ae,dh,cu,bd t;exact h (.hi v (d*t)) _ ⟨ai.1,kJ (s1 ai) (md ht),iL,sQ _ _⟩ W3 ((u1.trans u2).trans u3)
  ·nomatch dh,r0;refine j0 w W λv r aJ ai g1 W1 u1=>?_;nomatch g1,dh,r0;refine r6 u1.1 W1 λt b7 aC ht g2 W2 u2=>?_;nomatch g2,r0;refine hs u2.1 W2 (by decide) (by decide) λz aU _w _w W3 u3=>?_;by_cases ae:z=2
   ·nomatch ae,dh,cu,bd (0-t);exact h (.val v (d*(0-t))) _ ⟨ai.1,kJ (s1 ai) (mn ht),iL,sQ _ _⟩ W3 ((u1.trans u2).trans u3)
   ·nomatch ae,dh,cu,bd t;exact h (.val v (d*t)) _ ⟨ai.1,kJ (s1 ai) (md ht),iL,sQ _ _⟩ W3 ((u1.trans u2).trans u3)
end
section
variable{σ:ah}{o o1 o2 o3:cv}
theorem pi:σ.next≠(σ.push o).next:=bq (b9 _)
theorem r7:σ.next≠((σ.push o).push o1).next:=bq (bX (b9 _))
theorem ub:σ.next≠(((σ.push o).push o1).push o2).next:=bq (bX (bX (b9 _)))
end
section
variable{n:Nat}{σ:ah}{Q:cR}{E:Nat->ah->Prop}{lw ls:Nat}
theorem wV{K:bt}{P:cq}{st:List af}{ρ:aQ}{k:Nat}{names:List String}(w:σ.bg)(W:cL σ lw ls)(g:σ.get k=.list (names.map .str))(az:k≠lw)(h0:0<names.length)(aa:names.length<100)(h:∀nm σ',nm∈names->cL σ' lw ls->aw [lw] σ σ'->(K (.str nm::st) ρ σ').P):
  bH fn bk bl (n+1) 45 [.loc lw,.int ((names.map af.str).length)] σ (B7 (Ck K) (.loc k::st) ρ) (hU P ρ):=by
 rw[cF];refine hs w W (aX.mpr h0) (bG (aX.mpr aa) (by decide)) λr aJ a1 a2 W1 u1=>?_;have hr:r.toNat<names.length:=by exact(dP λaq=>bp.go (.c _ (.c _ (.c _ .o))) (.c 1 (.a (.v 1) (.n 1)) (.v 0) (.c 1 (.v 0) (.v 2) (.c 1 (.v 2) (.v 1) .o))) rfl a2 (aX.mpr aq) (aP (gD (a6.mp λz1=>bp.go (.c _ .o) (.c 1 (.n 0) (.v 0) (.c 1 (.a (.v 0) (.n 1)) (.n 0) .o)) rfl a1 z1))))
 have cK:eI (names.map af.str) r=some (.str names[r.toNat]):=tS a1 (by exact(a6.mp λaq=>bp.go (.c _ (.c _ .o)) (.c 1 (.a (.v 1) (.n 1)) (.v 0) (.c 1 (.a (.n 1000000) (.n 1)) (.v 1) (.c 1 (.a (.v 0) (.n 1)) (.n 100) .o))) rfl a2 aq (aX.mpr aa))) (by rw[sP,jL hr];rfl);exact Rc (u1.at w g (aA rfl) (cI az)) (Rd cK (h _ _ (rc hr) W1 u1))
theorem Rg{c d:Int}(w:σ.bg)(W:cL σ lw ls)(hc:0<=c/\ c<1000)(hd: -1000<d/\ d<1000)(h:∀o σ',qq c d o->cL σ' lw ls->aw [lw] σ σ'->Q o.v σ'):bH fn bk bl (n+2) 51 [.loc lw,.int c,.int d] σ Q E:=by
 refine bz rfl ?_;have r0:=aw.refl w (M:=[]);have hlt:=W.lt w;have m1:∀nm∈gR,qr c d nm:=λ_w h=>.inl h;have m0:∀nm∈([]:List String),qr c d nm:=λ_w h=>nomatch h;have fin:∀{aj:ah}{nm:String},aw [] σ aj->qr c d nm-> ∀{σ':ah},cL σ' lw ls->aw [lw] aj σ'-> ∀{ρ:aQ},ρ 0=some (.loc lw)->ρ 1=some (.int c)->ρ 2=some (.int d)->ρ 4=some (.str nm)->(sB (TT (n+1)) (aG (aG (aG (aG y8.body)))) (g9 Q E) ρ σ').P:=
  λu hn _w W2 u2 _w a b dL lk=>Rf u2.1 W2 a b dL lk hc hd hn λo σ' g W3 u3=>h o σ' g W3 ((u.m0.trans u2).trans u3)
 by_cases hc0:c=0
 ·by_cases hd0:d=0
  ·nomatch hc0,hd0,pi,r7,ub;have u:=r0.push (o:=.list (gR.map .str))|>.push (o:=.list [])|>.push (o:=.list ((gR++[]).map .str))|>.push (o:=.list [])|>.push (o:=.list ((gR++[]++[]).map .str))
   exact wV (names:=gR++[]++[]) u.1 (W.nV w u) bx (cn (BZ 4 hlt)) (by decide) (by decide) λnm σ' hm W2 u2=>fin u (om.mpr ⟨om.mpr ⟨m1,m0⟩,m0⟩ nm hm) W2 u2 rfl rfl rfl rfl
  ·have m3:∀nm∈mJ,qr c d nm:=λ_w h=>.inr (.inr ⟨h,hd0⟩);nomatch hc0,hd0,pi,r7,ub;have u:=r0.push (o:=.list (gR.map .str))|>.push (o:=.list [])|>.push (o:=.list ((gR++[]).map .str))|>.push (o:=.list (mJ.map .str))|>.push (o:=.list ((gR++[]++mJ).map .str))
   exact wV (names:=gR++[]++mJ) u.1 (W.nV w u) bx (cn (BZ 4 hlt)) (by decide) (by decide) λnm σ' hm W2 u2=>fin u (om.mpr ⟨om.mpr ⟨m1,m0⟩,m3⟩ nm hm) W2 u2 rfl rfl rfl rfl
 ·have m2:∀nm∈["advance_loc"],qr c d nm:=λ_w h=>.inr (.inl ⟨bW.mp h,hc0⟩);by_cases hd0:d=0
  ·nomatch hc0,hd0,pi,r7,ub;have u:=r0.push (o:=.list (gR.map .str))|>.push (o:=.list [.str "advance_loc"])|>.push (o:=.list ((gR++["advance_loc"]).map .str))|>.push (o:=.list [])|>.push (o:=.list ((gR++["advance_loc"]++[]).map .str))
   exact wV (names:=gR++["advance_loc"]++[]) u.1 (W.nV w u) bx (cn (BZ 4 hlt)) (by decide) (by decide) λnm σ' hm W2 u2=>fin u (om.mpr ⟨om.mpr ⟨m1,m2⟩,m0⟩ nm hm) W2 u2 rfl rfl rfl rfl
  ·have m3:∀nm∈mJ,qr c d nm:=λ_w h=>.inr (.inr ⟨h,hd0⟩);nomatch hc0,hd0,pi,r7,ub;have u:=r0.push (o:=.list (gR.map .str))|>.push (o:=.list [.str "advance_loc"])|>.push (o:=.list ((gR++["advance_loc"]).map .str))|>.push (o:=.list (mJ.map .str))|>.push (o:=.list ((gR++["advance_loc"]++mJ).map .str))
   exact wV (names:=gR++["advance_loc"]++mJ) u.1 (W.nV w u) bx (cn (BZ 4 hlt)) (by decide) (by decide) λnm σ' hm W2 u2=>fin u (om.mpr ⟨om.mpr ⟨m1,m2⟩,m3⟩ nm hm) W2 u2 rfl rfl rfl rfl
end
noncomputable abbrev fV:=ba×Nat
noncomputable abbrev ai(p:fV):af:=.tup [.int p.1.c,.int p.1.d,.int p.1.r,.loc p.2]
inductive iN (H:ba):Prop
 |mk (ok:H.Ok) (fits:∀o∈H.ops,o.fits H.c H.d)
noncomputable def qt(σ:ah)(ar:List fV):Prop:=∀p∈ar,σ.get p.2=.list (p.1.ops.map Op.v)
theorem qt.up{σ σ':ah}{ar:List fV}(x:qt σ ar)(w:σ.bg){M:List Nat}(u:aw M σ σ')(hM:∀p∈ar,p.2∉M):qt σ' ar:=λp hp=>u.at w (x p hp) (aA rfl) (hM p hp)
theorem jg{α β:Type}{f:α->Option β}{x:α}{y:β}{xs:List α}{ys:List β}(h:f x=some y)(h':d5 f xs=some ys):d5 f (x::xs)=some (y::ys):=by
 show(match f x with|none=>none|some y=>(d5 f xs).map (y::·))=_;rw[h,h'];rfl
theorem Rh{α β lq:Type}{f:α->Option β}{g:lq->α}:∀{xs:List lq},(∀x∈xs,∃y,f (g x)=some y)-> ∃ys,d5 f (xs.map g)=some ys/\ ys.length=xs.length:=by
 intro xs
 induction xs with
 |nil=>
  intro _;exact⟨[],rfl,rfl⟩
 |cons x r ih=>
  intro h;exact(ih λz hz=>h z (.tail _ hz)).elim λ_w zz=>zz.elim λe l=>(h x (.head _)).elim λ_w e1=>⟨_,jg e1 e,congrArg (· +1) l⟩
theorem Ax{σ:ah}{n l:Nat}{ops:List Op}(h:σ.get l=.list (ops.map Op.v)):deep σ (n+4) (.loc l)=some (.list (ops.map ua)):=by
 rw[nR h,FQ FP];rfl
theorem Ay{σ:ah}{n:Nat}{xs:List af}{ds:List Dat}(h:d5 (deep σ n) xs=some ds):deep σ (n+1) (.tup xs)=some (.tuple ds):=congrArg (a7 I3) h
noncomputable def Ri(H:ba):Dat:=.tuple [.int H.c,.int H.d,.int H.r,.list (H.ops.map ua)]
theorem Rj{σ:ah}{n:Nat}{p:fV}(h:σ.get p.2=.list (p.1.ops.map Op.v)):deep σ (n+5) (ai p)=some (Ri p.1):=
 Ay (jg rfl (jg rfl (jg rfl (jg (Ax h) rfl))))
theorem Rk{σ:ah}{a b:Nat}{ar:List fV}(H:qt σ ar)(aa:σ.get a=.list (ar.map ai))(h2:σ.get b=.list []):g5 (.loc a) (.loc b) σ=some (decide (ar=[])):=by
 obtain⟨ds,e,l⟩:=Rh (f:=deep σ 7) (g:=ai) λp hp=>⟨_,Rj (n:=2) (H p hp)⟩;unfold g5;rw[nR aa,nR h2,e];refine congrArg some ?_;cases ar<;>cases ds<;>simp at l ⊢
section
variable{n:Nat}{σ:ah}{Q:cR}{E:Nat->ah->Prop}{lw ls:Nat}
inductive IO(σ:ah)(lw ls:Nat)(c d:Int)(k:Nat)(r acc:List af)(aj:ah)(ops:List Op):Prop
 |mk (e:acc=ops.map Op.v) (n:ops.length+r.length=k) (g:∀o∈ops,qq c d o) (W:cL aj lw ls) (u:aw [lw] σ aj)
theorem FX{a b:Nat}{ρ:aQ}{c d:Int}{k:Nat}{F:List af->ah->Ask}(w:σ.bg)(W:cL σ lw ls)(r0:ρ 0=some (.loc lw))(eO:∀v,(ρ.low.set 101 v) a=some (.int c))(rb:∀v,(ρ.low.set 101 v) b=some (.int d))(hc:0<=c/\ c<1000)(hd: -1000<d/\ d<1000)(az:k<=10)
  (h:∀(ops:List Op) σ',ops.length<=10->(∀o∈ops,qq c d o)->cL σ' lw ls->aw [lw] σ σ'->(F (ops.map Op.v) σ').P):
  rh ⟨(cE k).map λ(j:Nat)=>af.int j,none⟩ (λv σ Q=>iX (.var 101) v ρ.low λρ'=>oW (TT (n+2)) [] (cc (TT (n+2)) (.call 51 [.var 0,.var a,.var b]) (ri Q) iB) (rj Q) iB [] ρ' σ) F σ:=by
 refine⟨λr acc aj=>∃ops,IO σ lw ls c d k r acc aj ops,⟨[],rfl,by rw[cF,nd];exact jl k,(λ_w h=>nomatch h),W,.refl w⟩,?_,?_⟩
 ·intro v r acc aj zz;refine zz.elim λops H=>?_;clear zz;refine⟨trivial,?_⟩;nomatch r0,eO v,rb v;refine Rg H.5.1 H.4 hc hd λo σ' go W2 u2=>⟨?_,ops++[o],by rw[H.1,cN];rfl,?_,db H.3 go,W2,H.5.trans u2⟩
  ·have:=H.2;rw[H.1,cF];exact(dP λaq=>bj.go (.c _ (.c _ (.c _ .o))) (.c 1 (.v 0) (.n 10) (.c 1 (.a (.v 1) (.v 2)) (.v 0) (.c 1 (.n 1000000) (.v 1) .o))) rfl az (bb this) aq)
  ·have:=H.2;rw[bR,<-this,mi];exact oJ ..
 ·intro acc aj zz;refine zz.elim λops H=>?_;clear zz;exact⟨trivial,H.1▸h ops aj (aB (bb H.2) az) H.3 H.4 H.5⟩
theorem wW{c d:Int}{ops:List Op}(hl:ops.length<=10)(h:∀o∈ops,qq c d o):hj ops:=⟨λo ho=>(h o ho).1,λo ho=>(h o ho).2,aB hl (by decide)⟩
noncomputable def r8:List Int:=[4,1,0,3,200]
noncomputable def mK:List Int:=[-4,8,0,1,-65,64]
theorem Rl{ρ:aQ}(w:σ.bg)(W:cL σ lw ls)(r0:ρ 0=some (.loc lw))(h:∀p σ',σ.next<=p.2->iN p.1->σ'.get p.2=.list (p.1.ops.map Op.v)->p.2≠lw->cL σ' lw ls->aw [lw] σ σ'->Q (ai p) σ'):(sB (TT (n+2)) (aG s9.body) (g9 Q E) ρ σ).P:=by
 nomatch r0;refine mI (xs:=r8) (λv=>0<=v/\ v<1000) (by decide) rfl (by decide) (by decide) w W λc i aJ hc g1 W1 u1=>?_;have g1:eI [.int 4,.int 1,.int 0,.int 3,.int 200] i=some (af.int c):=g1;nomatch g1,r0;refine mI (xs:=mK) (λv=> -1000<v/\ v<1000) (by decide) rfl (by decide) (by decide) u1.1 W1 λd i aC hd g2 W2 u2=>?_;have g2:eI [.int (-4),.int 8,.int 0,.int 1,.int (-65),.int 64] i=some (af.int d):=g2;nomatch g2,r0;refine j0 u2.1 W2 λr i aU hr g3 W3 u3=>?_;nomatch g3,r0;refine hs u3.1 W3 (by decide) (by decide) λk c9 az hk' W4 u4=>?_;nomatch az;refine FX u4.1 W4 r0 (λ_w=>rfl) (λ_w=>rfl) hc hd (by exact(bE λaq=>bp.go (.c _ (.c _ .o)) (.c 1 (.a (.v 0) (.n 1)) (.n 3) (.c 1 (.a (.n 10) (.n 1)) (.v 1) (.c 1 (.v 1) (.v 0) .o))) rfl hk' (aX.mpr aq) (aP (gD (a6.mp λz1=>bp.go (.c _ .o) (.c 1 (.n 0) (.v 0) (.c 1 (.a (.v 0) (.n 1)) (.n 0) .o)) rfl az z1))))) λops dy hol hgo W5 u5=>?_;have U:=(((u1.trans u2).trans u3).trans u4).trans u5;have no:=cn (W5.lt u5.1);nomatch w;exact h (⟨c,d,r,ops⟩,dy.next) _ U.2 ⟨⟨by dsimp only;exact hc.1,by dsimp only;exact hc.2,by dsimp only;exact hd.1,by dsimp only;exact hd.2,hr.1,by dsimp only;exact(eZ hr.2 (by decide)),wW hol hgo⟩,λo ho=>(hgo o ho).3⟩ bx no (W5.push u5.1) U.push
theorem Rm{hl:Nat}{ar:List fV}(w:σ.bg)(W:cL σ lw ls)(hn:hl≠lw)(g:σ.get hl=.list (ar.map ai))(H:qt σ ar)(hne:∀p∈ar,p.2≠lw)(cK:∀p∈ar,iN p.1)(hlen:ar.length<=10)
  (h:∀p σ',(p∈ar \/σ.next<=p.2)->iN p.1->σ'.get p.2=.list (p.1.ops.map Op.v)->p.2≠lw->cL σ' lw ls->aw [lw] σ σ'->Q (ai p) σ'):bH fn bk bl (n+3) 52 [.loc lw,.loc hl] σ Q E:=by
 refine bz rfl ?_;have u1:aw [lw] σ (σ.push (.list [])):=(aw.refl w).push;have g1:=u1.at w g (aA rfl) (cI hn);have W1:cL (σ.push (.list [])) lw ls:=W.push w;have ce:=Rk (H.up w u1 λp hp=>cI (hne p hp)) g1 bx;have rest:∀{aC:ah}{ρ:aQ},aw [lw] σ aC->cL aC lw ls->ρ 0=some (.loc lw)->(sB (TT (n+2)) (aG s9.body) (g9 Q E) ρ aC).P:=λU2 W2 r0=>Rl U2.1 W2 r0 λp σ' a b c d e u=>h p σ' (.inr (aB U2.2 a)) b c d e (U2.trans u);rcases I4 ar with rfl|⟨hs',p,rfl⟩
 ·exact Ask.run λd=>Ask.back (a:=sB (TT (n+2)) (aG s9.body) (g9 Q E) _ _) (d rfl rfl ce (nL rfl) rfl) (rest u1 W1 rfl)
 ·rw[I5]at*;have hne':¬hs'++[p]=[]:=WM _ yO;nomatch ce,hne';refine hs u1.1 W1 (by decide) (by decide) λa1 aU a1l a1h W3 u3=>?_;have U3:=u1.trans u3;by_cases aM:a1=1
  ·have g3:=U3.at w g (aA rfl) (cI hn);have gl:eI ((hs'++[p]).map ai) (-1)=some (ai p):=by rw[cN];exact FR
   nomatch aM,g3,gl;have hp:p∈hs'++[p]:=fK _ (.head _);exact h p _ (.inl hp) (cK p hp) (U3.at w (H p hp) (aA rfl) (cI (hne p hp))) (hne p hp) W3 U3
  ·exact Ask.run λd=>Ask.back (a:=sB (TT (n+2)) (aG s9.body) (g9 Q E) _ _) (d (decide_eq_false aM)) (rest U3 W3 rfl)
end
inductive dO {α β:Type} (P:α->β->Prop):List α->List β->Prop
 |nil:dO P [] []
 |cons {a:α} {b:β} {as:List α} {bs:List β} (h:P a b) (t:dO P as bs):dO P (a::as) (b::bs)
section
variable{α β:Type}{P P':α->β->Prop}
theorem dO.imp(h:∀a b,P a b->P' a b){as:List α}{bs:List β}(x:dO P as bs):dO P' as bs:=by
 induction x with
 |nil=>exact .nil
 |cons a _ ih=>exact .cons (h _ _ a) ih
theorem dO.snoc{a:α}{b:β}(h:P a b){as:List α}{bs:List β}(x:dO P as bs):dO P (as++[a]) (bs++[b]):=by
 induction x with
 |nil=>exact .cons h .nil
 |cons a _ ih=>exact .cons a ih
theorem dO.length{as:List α}{bs:List β}(x:dO P as bs):as.length=bs.length:=by
 induction x with
 |nil=>rfl
 |cons a _ ih=>exact congrArg (· +1) ih
theorem dO.get{as:List α}{bs:List β}(x:dO P as bs):∀{i:Nat}(h:i<as.length)(h':i<bs.length),P as[i] bs[i]:=by
 induction x with
 |nil=>exact λh=>absurd h (pB _)
 |cons a _ ih=>exact λ{i} h h'=>match i with|0=>a|_+1=>ih (pq h) (pq h')
end
inductive lF (σ:ah) (B cl:Nat) (H:ba):Prop
 |mk (lo:B<=cl) (at_:∃ol,B<=ol/\ σ.get cl=ez H.c H.d H.r (.loc ol)/\ σ.get ol=.list (H.ops.map Op.v))
theorem kK{B:Nat}{M:List Nat}(hM:∀m∈M,m<B){j:Nat}(a8:B<=j):j∉M:=λh=>yD (hM j h) a8
theorem lF.up{σ σ':ah}{B cl:Nat}{H:ba}(x:lF σ B cl H)(w:σ.bg){M:List Nat}(u:aw M σ σ')(hM:∀m∈M,m<B):lF σ' B cl H:=
 x.2.elim λol zz=>zz.elim λl zz=>zz.elim λa b=>⟨x.1,ol,l,u.at w a (aA rfl) (kK hM x.1),u.at w b (aA rfl) (kK hM l)⟩
theorem lF.to{σ:ah}{B cl:Nat}{H:ba}(x:lF σ B cl H):jC σ cl H:=x.2.elim λol zz=>zz.elim λ_w zz=>zz.elim λa b=>⟨ol,a,b⟩
section
variable{n:Nat}{σ:ah}{Q:cR}{E:Nat->ah->Prop}{lw ls:Nat}
theorem wX{l:Nat}{c d r:Int}{ol:Nat}(g:σ.get l=.inst 2 [])(h:Q .none (σ.set l (ez c d r (.loc ol)))):bH fn bk bl (n+1) 20 [.loc l,.int c,.int d,.int r,.loc ol] σ Q E:=by
 refine bz rfl ?_;nomatch g;rw[lA,lA,lA];exact h
theorem Az{l:Nat}{b s:Int}{c ol:Nat}(g:σ.get l=.inst 3 [])(h:Q .none (σ.set l (gQ c b s ol))):bH fn bk bl (n+1) 21 [.loc l,.loc c,.int b,.int s,.loc ol] σ Q E:=by
 refine bz rfl ?_;nomatch g;rw[lA,lA,lA];exact h
inductive FY (σ:ah) (lw ls H k:Nat) (r:List af) (ρ:aQ) (aj:ah) (ar:List fV):Prop
 |mk (n:ar.length+r.length=k) (r0:ρ 0=some (.loc lw)) (bN:ρ 1=some (.loc H)) (g:aj.get H=.list (ar.map ai)) (at_:qt aj ar) (good:∀p∈ar,iN p.1) (nw:∀p∈ar,p.2≠lw) (XQ:∀p∈ar,p.2≠H) (W:cL aj lw ls) (u:aw [lw,H] σ aj)
theorem Rn{k:Nat}{ρ:aQ}{H:Nat}{K:cX}{P:cq}(w:σ.bg)(W:cL σ lw ls)(r0:ρ 0=some (.loc lw))(bN:ρ 1=some (.loc H))(hH:σ.get H=.list [])(hHw:H≠lw)(hHs:H≠ls)(az:k<=10)
  (h:∀(ar:List fV) ρ' σ',FY σ lw ls H k [] ρ' σ' ar->(K ρ' σ').P):
  vp ⟨(cE k).map λ(j:Nat)=>af.int j,none⟩ (λv P' ρ σ=>iX (.var 2) v ρ λρ=>sB (TT (n+3)) [.expr (.aS (.var 1) 9 [(.call 52 [(.var 0),(.var 1)])])] P' ρ σ) K P ρ σ:=by
 refine kA (λr ρ' aj=>∃ar,FY σ lw ls H k r ρ' aj ar) ⟨[],by rw[cF,nd];exact jl k,r0,bN,hH,(λ_w h=>nomatch h),(λ_w h=>nomatch h),(λ_w h=>nomatch h),(λ_w h=>nomatch h),W,.refl w⟩ ?_ ?_
 ·intro v r ρ' aj zz;refine zz.elim λar I=>?_;clear zz;have hl:=I.1;rw[mi]at hl;refine⟨trivial,?_⟩;nomatch I.2,I.3,I.4;refine Rm I.10.1 I.9 hHw I.4 I.5 I.7 I.6 (by exact(bE λaq=>bj.go (.c _ (.c _ (.c _ .o))) (.c 1 (.v 0) (.n 10) (.c 1 (.a (.v 1) (.a (.v 2) (.n 1))) (.v 0) (.c 1 (.a (.n 10) (.n 1)) (.v 1) .o))) rfl az (bb hl) aq)) λp σ' hp gp g2 uc W2 u2=>?_;have g':=u2.at I.10.1 I.4 (aA rfl) (cI hHw);have pH:p.2≠H:=hp.elim (I.8 p) λz=>cn (bU (I.10.1.lt I.4 (aA rfl)) z);have c:(ar.map ai).length<1000000:=by rw[cF];exact(dP λaq=>bj.go (.c _ (.c _ (.c _ .o))) (.c 1 (.v 0) (.n 10) (.c 1 (.a (.v 1) (.a (.v 2) (.n 1))) (.v 0) (.c 1 (.n 1000000) (.v 1) .o))) rfl az (bb hl) aq)
  nomatch g',c;refine⟨ar++[p],by rw[bR];exact(oJ ..).trans hl,I.2,I.3,by rw[cN];exact cT,?_,db I.6 gp,db I.7 uc,db I.8 pH,W2.set hHw hHs,(I.10.over u2 λl hl=>.inl (bW.mp hl▸.head _)).set (.inl (.tail _ (.head _))) (u2.1.lt g' (aA rfl))⟩;exact db (λx ak=>cV (I.8 x ak) (u2.at I.10.1 (I.5 x ak) (aA rfl) (cI (I.7 x ak)))) (cV pH g2)
 ·exact λρ' aj zz=>zz.elim λar I=>⟨trivial,h ar ρ' aj I⟩
inductive Ro (σ:ah) (ar:List fV) (r acc:List af) (aj:ah) (dn rt:List fV) (cs:List Nat):Prop
 |mk (e:ar=dn++rt) (r:r=rt.map ai) (a:acc=cs.map .loc) (at_:dO (λc (p:fV)=>lF aj σ.next c p.1) cs dn) (er:cs.Nodup) (u:aw [] σ aj) (lt:∀c∈cs,c<aj.next)
theorem Rp{ρ:aQ}{H:Nat}{ar:List fV}{F:List af->ah->Ask}(w:σ.bg)(g:σ.get H=.list (ar.map ai))(HA:qt σ ar)(hl:ar.length<=10)(wY:∀p∈ar,p.1.ops.length<=20)
  (h:∀(cs:List Nat) σ',dO (λc (p:fV)=>lF σ' σ.next c p.1) cs ar->cs.Nodup->aw [] σ σ'->(∀c∈cs,c<σ'.next)->(F (cs.map .loc) σ').P):
  rh ⟨ar.map ai,some (H,.list (ar.map ai))⟩ (λv σ Q=>iX (.var 101) v ρ.low λρ'=>oW (TT (n+1)) [] (cc (TT (n+1)) (.new 2 [(.idx (.var 101) (.lit (.int 0))),(.idx (.var 101) (.lit (.int 1))),(.idx (.var 101) (.lit (.int 2))),(.bi .list [(.idx (.var 101) (.lit (.int 3)))])]) (ri Q) iB) (rj Q) iB [] ρ' σ) F σ:=by
 refine⟨λr acc aj=>∃dn rt cs,Ro σ ar r acc aj dn rt cs,⟨[],ar,[],rfl,rfl,rfl,.nil,uQ,.refl w,(λ_w h=>nomatch h)⟩,?_,?_⟩
 ·intro v r acc aj zz;refine ao λG_ fin_=>zz.elim λdn zz=>zz.elim λrt zz=>zz.elim λcs I=>fin_ ?_;clear fin_ G_ zz;refine⟨I.6.aV w g (aA rfl),?_⟩;have ir:=I.2;cases rt with
  |nil=>exact nomatch ir
  |cons p rt=>
   obtain⟨rfl,rfl⟩:=jM ir;have hp:p∈ar:=I.1▸fK _ (.head _);have gp:=I.6.aV w (HA p hp) (aA rfl);have hol:(p.1.ops.map Op.v).length<=1000000:=lmap (aB (wY p hp) (by decide));nomatch gp,hol;refine wX bx ?_;have hcl:acc.length<1000000:=by have:=I.4.length;have e:=I.1▸hl;rw[I.3,cF,this];rw[bR]at e;exact(dP λaq=>bj.go (.c _ (.c _ .o)) (.c 1 (.a (.v 0) (.v 1)) (.n 10) (.c 1 (.n 1000000) (.v 0) .o)) rfl e aq)
   have u2:aw [] aj (((aj.push (.list (p.1.ops.map Op.v))).push (.inst 2 [])).set (aj.next+1) (ez p.1.c p.1.d p.1.r (.loc aj.next))):=(((aw.refl I.6.1).push).push).set (.inr (gh _)) (b9 _);have lt1:∀c∈cs,c<aj.next+1:=λc hc=>bX (I.7 c hc)
   refine⟨hcl,dn++[p],rt,cs++[aj.next+1],by rw[cG];exact I.1,rfl,by rw[cN,I.3];rfl,dO.snoc ⟨l8 I.6.2,aj.next,I.6.2,cT,cV (bq (b9 _)) (dw (bq (b9 _)) bx)⟩ (I.4.imp λa b x=>x.up I.6.1 u2 (λ_w h=>nomatch h)),?_,I.6.trans u2,db (λc hc=>bX (lt1 c hc)) (b9 _)⟩;exact x5.mpr ⟨I.5,xK ..,λa aM b ae=>bW.mp ae▸bq (lt1 a aM)⟩
 ·intro acc aj zz;refine ao λG_ fin_=>zz.elim λdn zz=>zz.elim λrt zz=>zz.elim λcs I=>fin_ ?_;clear fin_ G_ zz;refine⟨I.6.aV w g (aA rfl),?_⟩;obtain rfl:=ml.mp I.2.symm;have e:=I.1;rw[dK]at e;subst e;exact I.3▸h cs aj I.4 I.5 I.6 I.7
end
structure lG where
 wZ:Int
 c:Int
 d:Int
 r:Int
 wY:List Op
 b:Int
 s:Int
 ops:List Op
noncomputable def r9(H:ba)(wZ:Int)(f:cQ):lG:=⟨wZ,H.c,H.d,H.r,nU H.c H.ops,f.b.fmod 4294967296,f.s.fmod 4294967296,nU H.c f.ops⟩
structure nW where
 parts:List (List UInt8)
 fW:List (Nat×Int×Int)
 rows:List lG
noncomputable def et(K:List (Nat×Int×Int))(k:Nat):Option (Int×Int):=(K.find? λe=>decide (e.1=k)).map (·.2)
noncomputable def io(hd:Nat->ba)(t:nW)(f:cQ):nW:=
 match et t.fW f.k with
 |some (h,s)=>⟨t.parts++[hk (hd f.k) s f],t.fW,t.rows++[r9 (hd f.k) h f]⟩
 |none=>⟨t.parts++[(hd f.k).B]++[hk (hd f.k) (t.parts.flatten.length:Int) f],t.fW++[(f.k,(t.rows.length:Int),(t.parts.flatten.length:Int))],t.rows++[r9 (hd f.k) t.rows.length f]⟩
noncomputable def cY(hd:Nat->ba)(fds:List cQ):nW:=fds.foldl (io hd) ⟨[],[],[]⟩
noncomputable abbrev lH(e:Nat×Int×Int):Int×af:=((e.1:Int),.tup [.int e.2.1,.int e.2.2])
noncomputable abbrev lI(K:List (Nat×Int×Int)):cv:=.bZ (K.map lH)
theorem nX{k:Nat}{h s:Int}{K:List (Nat×Int×Int)}:et ((k,h,s)::K) k=some (h,s):=congrArg (a7 _) (sy (p:=λe:Nat×Int×Int=>decide (e.1=k)) (decide_eq_true rfl))
theorem nY{j k:Nat}{h s:Int}{K:List (Nat×Int×Int)}(q:j≠k):et ((j,h,s)::K) k=et K k:=congrArg (a7 _) (qT (p:=λe:Nat×Int×Int=>decide (e.1=k)) λh=>q (of_decide_eq_true h))
theorem FZ{k:Nat}:∀{K:List (Nat×Int×Int)},dX (k:Int) (K.map lH)=(et K k).map λe=>.tup [.int e.1,.int e.2]:=by
 intro K
 induction K with
 |nil=>
  exact rfl
 |cons iI K ih=>
  obtain⟨j,h,s⟩:=iI;show(if(j:Int)=k then some _ else dX (k:Int) (K.map lH))=_;by_cases q:j=k
  ·subst q;rw[if_pos rfl,nX];rfl
  ·rw[if_neg (λh=>q (na.mp h)),nY q];exact ih
theorem Rq{k:Nat}{v:af}:∀{K:List (Nat×Int×Int)},et K k=none->hY (k:Int) v (K.map lH)=K.map lH++[((k:Int),v)]:=by
 intro K
 induction K with
 |nil=>
  intro _;exact rfl
 |cons iI K ih=>
  obtain⟨j,h,s⟩:=iI;intro e;show(if(j:Int)=k then _ else _::hY (k:Int) v (K.map lH))=_;by_cases q:j=k
  ·subst q;rw[nX]at e;exact nomatch e
  ·rw[nY q]at e;rw[if_neg (λh=>q (na.mp h)),ih e];rfl
noncomputable def jh(σ:ah)(B:Nat)(v:af)(r:lG):Prop:=∃al ol,B<=al/\ B<=ol/\ v=.tup [.int r.wZ,.tup [.int r.c,.int r.d,.int r.r,.loc al],.int r.b,.int r.s,.loc ol]/\ σ.get al=.list (r.wY.map Op.v)/\ σ.get ol=.list (r.ops.map Op.v)
theorem jh.up{σ σ':ah}{B:Nat}{v:af}{r:lG}(x:jh σ B v r)(w:σ.bg){M:List Nat}(u:aw M σ σ')(hM:∀m∈M,m<B):jh σ' B v r:=by
 obtain⟨al,ol,a,b,e,g1,g2⟩:=x;exact⟨al,ol,a,b,e,u.at w g1 (aA rfl) (kK hM a),u.at w g2 (aA rfl) (kK hM b)⟩
noncomputable def sa(σ:ah)(B:Nat)(cl:Nat->Nat)(f:Nat)(fd:cQ):Prop:=B<=f/\ ∃ol,B<=ol/\ σ.get f=gQ (cl fd.k) fd.b fd.s ol/\ σ.get ol=.list (fd.ops.map Op.v)
theorem sa.up{σ σ':ah}{B:Nat}{cl:Nat->Nat}{f:Nat}{fd:cQ}(x:sa σ B cl f fd)(w:σ.bg){M:List Nat}(u:aw M σ σ')(hM:∀m∈M,m<B):sa σ' B cl f fd:=by
 obtain⟨lo,ol,b,g1,g2⟩:=x;exact⟨lo,ol,b,u.at w g1 (aA rfl) (kK hM lo),u.at w g2 (aA rfl) (kK hM b)⟩
theorem iN.dG{H:ba}(g:iN H):∀o∈H.ops,∀t,o=.dG t->H.c≠0:=λo ho t e=>(e▸g.2 o ho:(Op.dG t).fits H.c H.d).1
inductive qu (ρ:aQ) (lw hl lc Nb:Nat):Prop
 |mk (r0:ρ 0=some (.loc lw)) (bN:ρ 1=some (.loc hl)) (lJ:ρ 3=some (.loc lc)) (dh:ρ 4=some (.loc Nb)) (qv:ρ 5=some (.loc (Nb+1))) (AA:ρ 6=some (.loc (Nb+2))) (F0:ρ 7=some (.loc (Nb+3)))
inductive w3 (ρ:aQ) (H:ba) (k al:Nat) (b s:Int) (ol:Nat):Prop
 |mk (kL:ρ 8=some (.int (k:Int))) (kM:ρ 9=some (.int H.c)) (w4:ρ 10=some (.int H.d)) (XR:ρ 11=some (.int H.r)) (XS:ρ 12=some (.loc al)) (XT:ρ 13=some (.int b)) (XU:ρ 14=some (.int s)) (XV:ρ 15=some (.loc ol))
noncomputable abbrev w5(c:C):List C:=match c with|.for _ _ b=>b|_=>[]
noncomputable abbrev w6(l:List C):C:=match l with|c::_=>c|[]=>.pass
noncomputable abbrev nZ:List C:=w5 (w6 (aG (aG (aG (aG Cp.body)))))
theorem j3{v:Int}:(bO v (4:Int).toNat).length=4:=fq
theorem F1{v v':Int}:(bO v (4:Int).toNat++bO v' (4:Int).toNat).length=8:=by rw[bR,j3,j3]
theorem Rr{v v':Int}:(bO v (4:Int).toNat).length+(bO v' (4:Int).toNat).length<=1000000:=by rw[j3,j3];decide
theorem Rs{v v' v'':Int}:(bO v (4:Int).toNat++bO v' (4:Int).toNat).length+(bO v'' (4:Int).toNat).length<=1000000:=by rw[F1,j3];decide
theorem Rt{v v' v'':Int}:(bO v (4:Int).toNat++bO v' (4:Int).toNat++bO v'' (4:Int).toNat).length<=1000:=by rw[bR,F1,j3];decide
theorem Ru{H:ba}{sp:Int}{fd:cQ}:kF (bO sp (4:Int).toNat++bO fd.b (4:Int).toNat++bO fd.s (4:Int).toNat++da H.c H.d fd.ops)=hk H sp fd:=by
 rw[cG,cG];rfl
theorem j4{α β:Type}{f:α->β}{xs:List α}{n:Nat}(h:xs.length<n):(xs.map f).length<n:=(cF f).symm▸h
theorem F2{H:ba}(GH:iN H):ij H.c/\ ij H.d:=by
 obtain⟨dN,bM,iL,fp,_,_,ook⟩:=GH.1;exact⟨⟨by exact(bG (by decide) dN),by exact(bG bM (by decide))⟩,by exact(bG (by decide) iL),by exact(bG fp (by decide))⟩
section
variable{n:Nat}{σ:ah}{Q:cR}{lw ls hl lc:Nat}
theorem Rv{Nb:Nat}{ρ:aQ}{H:ba}{fd:cQ}{al ol:Nat}{vs:List af}{bu:List (List UInt8)}{K:List (Nat×Int×Int)}{h sp:Int}{P:cq}(w:σ.bg)
  (lo:qu ρ lw hl lc Nb)(ao:w3 ρ H fd.k al fd.b fd.s ol)
  (n1:σ.get (Nb+1)=.list vs)(n2:σ.get (Nb+2)=.list (bu.map .bytes))(g7:σ.get (Nb+3)=lI K)(az:et K fd.k=some (h,sp))(ga:σ.get al=.list (H.ops.map Op.v))(go:σ.get ol=.list (fd.ops.map Op.v))(GH:iN H)(jd:∀o∈fd.ops,qq H.c H.d o)(hol:fd.ops.length<=10)
  (hal:al<Nb \/Nb+4<=al)(hol':Nb+4<=ol)(hn:Nb+4<=σ.next)(hvl:vs.length<=100)(hPl:bu.length<=100)
  (hN:∀ρ' σ' v,qu ρ' lw hl lc Nb->aw [Nb+1,Nb+2] σ σ'->σ'.get (Nb+1)=.list (vs++[v])->jh σ' (Nb+4) v (r9 H h fd)->σ'.get (Nb+2)=.list ((bu++[hk H sp fd]).map .bytes)->(P.N ρ' σ').P):
  (sB (TT (n+5)) (aG (aG (aG (aG (aG (aG nZ)))))) P ρ σ).P:=by
 have hB:=wW hol jd;obtain⟨C64,D64⟩:=F2 GH;have kk:dX (fd.k:Int) (K.map lH)=some (.tup [.int h,.int sp]):=by rw[FZ,az];rfl
 nomatch lo.7,ao.1,g7,kk;refine nP w (by decide) (by decide) λaJ u1=>?_;nomatch ao.6;refine nP u1.1 (by decide) (by decide) λaC u2=>?_;nomatch Rr,ao.7;refine nP u2.1 (by decide) (by decide) λaU u3=>?_;have U3:=(u1.trans u2).trans u3;have g63:=U3.aV w n2 (aA rfl);nomatch Rs,lo.6,ao.8,ao.2,ao.3,g63;refine FT u3.1 (U3.aV w go (aA rfl)) hB Rt C64 D64 (λo ho=>(jd o ho).3) λc9 u4=>?_;have U4:=U3.trans u4;have c6:(bu.map af.bytes).length<1000000:=j4 (cM hPl (by decide));have f6:(c9.set (Nb+2) (.list (bu.map .bytes++[.bytes (kF (bO sp (4:Int).toNat++bO fd.b (4:Int).toNat++bO fd.s (4:Int).toNat++da H.c H.d fd.ops))]))).get (Nb+2)=.list ((bu++[hk H sp fd]).map .bytes):=by rw[Ru,cN];exact cT
 have f5:(c9.set (Nb+2) (.list (bu.map .bytes++[.bytes (kF (bO sp (4:Int).toNat++bO fd.b (4:Int).toNat++bO fd.s (4:Int).toNat++da H.c H.d fd.ops))]))).get (Nb+1)=.list vs:=cV (bq (b9 _)) (U4.aV w n1 (aA rfl));have u5:aw [Nb+1,Nb+2] σ (c9.set (Nb+2) (.list (bu.map .bytes++[.bytes (kF (bO sp (4:Int).toNat++bO fd.b (4:Int).toNat++bO fd.s (4:Int).toNat++da H.c H.d fd.ops))]))):=U4.m0.set (.inl (.tail _ (.head _))) (bU (jN (by decide) Nb) (aB hn U4.2));have g64:=U4.aV w n2 (aA rfl);nomatch g64,c6,ao.2,ao.3,ao.4,ao.5;generalize c9.set (Nb+2) (.list (bu.map .bytes++[.bytes (kF (bO sp (4:Int).toNat++bO fd.b (4:Int).toNat++bO fd.s (4:Int).toNat++da H.c H.d fd.ops))]))=dy at*;have nal:al∉[Nb+1,Nb+2]:=λq=>by
  rcases gA.mp q with q|q
  ·exact(hal.elim (λy0=>bj.go (.c _ (.c _ .o)) (.c 1 (.a (.v 0) (.n 1)) (.v 1) (.c 1 (.a (.v 1) (.n 1)) (.v 0) .o)) rfl (bb (bF q)) y0) λy0=>bj.go (.c _ (.c _ .o)) (.c 1 (.v 1) (.a (.v 0) (.n 1)) (.c 1 (.a (.v 0) (.n 4)) (.v 1) .o)) rfl (bb q) y0)
  ·have:=bW.mp q;exact(hal.elim (λy0=>bj.go (.c _ (.c _ .o)) (.c 1 (.a (.v 0) (.n 2)) (.v 1) (.c 1 (.a (.v 1) (.n 1)) (.v 0) .o)) rfl (bb (bF this)) y0) λy0=>bj.go (.c _ (.c _ .o)) (.c 1 (.v 1) (.a (.v 0) (.n 2)) (.c 1 (.a (.v 0) (.n 4)) (.v 1) .o)) rfl (bb this) y0)
 have nlt:∀m∈[Nb+1,Nb+2],m<Nb+4:=c1.mpr ⟨jN (show 1<4 by decide) Nb,c1.mpr ⟨jN (show 2<4 by decide) Nb,λ_w h=>nomatch h⟩⟩;refine wS u5.1 (u5.at w ga (aA rfl) nal) GH.1.7 C64 GH.dG λcw qp u6 k1l gk1=>?_;have U6:=u5.nM u6;have g51:=u6.aV u5.1 f5 (aA rfl);nomatch lo.5,g51,ao.2,ao.6,ao.7,ao.8;refine wS u6.1 (U6.at w go (aA rfl) (kK nlt hol')) hB C64 (λo ho t e=>(e▸(jd o ho).3:(Op.dG t).fits H.c H.d).1) λcJ wO u7 k2l gk2=>?_;have g57:=u7.aV u6.1 g51 (aA rfl);have c7:vs.length<1000000:=by exact(cM hvl (by decide))
 nomatch g57,c7;have n5:=aB hn u5.2;have n6:=aB n5 u6.2;have b1:=aB n5 k1l;have b2:=aB n6 k2l;have N1:∀{j:Nat},Nb+4<=j->j≠Nb+1:=λh=>cn (bU (jN (show 1<4 by decide) Nb) h);exact hN _ _ (.tup [.int h,.tup [.int H.c,.int H.d,.int H.r,.loc cw],.int (fd.b.fmod 4294967296),.int (fd.s.fmod 4294967296),.loc cJ]) ⟨lo.1,lo.2,lo.3,lo.4,lo.5,lo.6,lo.7⟩ ((U6.nM u7).set (.inl (.head _)) (u7.1.lt g57 (aA rfl))) cT ⟨cw,cJ,b1,b2,rfl,cV (N1 b1) (u7.aV u6.1 gk1 (aA rfl)),cV (N1 b2) gk2⟩ (cV (cn (b9 _)) (u7.aV u6.1 (u6.aV u5.1 f6 (aA rfl)) (aA rfl)))
end
noncomputable def n4(H:ba)(k:Nat)(P:List (List UInt8))(K:List (Nat×Int×Int)):List (List UInt8):=match et K k with
 |some _=>P
 |none=>P++[H.B]
noncomputable def mL(k:Nat)(t:Int)(P:List (List UInt8))(K:List (Nat×Int×Int)):List (Nat×Int×Int):=match et K k with
 |some _=>K
 |none=>K++[(k,t,(P.flatten.length:Int))]
theorem F3{k:Nat}{x:Int×Int}:∀{K:List (Nat×Int×Int)},et K k=none->et (K++[(k,x.1,x.2)]) k=some x:=by
 intro K
 induction K with
 |nil=>
  intro _;exact nX
 |cons iI K ih=>
  obtain⟨j,h,s⟩:=iI;intro e;by_cases q:j=k
  ·subst q;rw[nX]at e;exact nomatch e
  ·rw[nY q]at e;exact(nY q).trans (ih e)
theorem Rw:(∀n∈([255,255,255,255,4,0,4,0]:List Int),0<=n/\ n<256)/\ [af.int 255,.int 255,.int 255,.int 255,.int 4,.int 0,.int 4,.int 0].length<=1000000:=⟨by decide,of_decide_eq_true rfl⟩
theorem Rx:∀P:List (List UInt8),(P.map λb=>(b.length:Int)).sum=(P.flatten.length:Int):=by
 intro P
 induction P with
 |nil=>
  exact rfl
 |cons a r ih=>
  rw[l9,List.sum_cons,yk,bR,ih];rfl
noncomputable abbrev sb:List UInt8:=iz [255,255,255,255,4,0,4,0]
theorem aa{x:List UInt8}(h:x.length<=21):sb.length+x.length<=1000000:=aB (fH h 8) (by decide)
theorem tK{x y:List UInt8}(h:x.length<=21)(h':y.length<=21):(sb++x).length+y.length<=29+21:=by rw[bR];exact eY (fH h 8) h'
theorem Ry{x y z:List UInt8}(h:x.length<=21)(h':y.length<=21)(h'':z.length<=21):(sb++x++y).length+z.length<=50+21:=by rw[bR];exact eY (tK h h') h''
theorem Rz{H:ba}:kF (sb++a9 false H.c++a9 true H.d++a9 false H.r++da H.c H.d H.ops)=H.B:=by
 rw[cG sb,cG sb,cG (a9 false H.c)];rfl
section
variable{n:Nat}{σ:ah}{lw ls hl lc:Nat}
theorem RA{Nb:Nat}{ρ:aQ}{H:ba}{k:Nat}{t:Int}{al:Nat}{b s:Int}{ol:Nat}{bu:List (List UInt8)}{K:List (Nat×Int×Int)}{P:cq}(w:σ.bg)
  (cu:ρ 2=some (.int t))(lo:qu ρ lw hl lc Nb)(ao:w3 ρ H k al b s ol)
  (n2:σ.get (Nb+2)=.list (bu.map .bytes))(g7:σ.get (Nb+3)=lI K)(ga:σ.get al=.list (H.ops.map Op.v))(GH:iN H)(hn:Nb+4<=σ.next)(hal:al<Nb \/Nb+4<=al)(hP:bu.length<=100)(hPl:∀b∈bu,b.length<=5000)(hK:K.length<=100)
  (hN:∀ρ' σ',qu ρ' lw hl lc Nb->w3 ρ' H k al b s ol->aw [Nb+2,Nb+3] σ σ'->σ'.get (Nb+2)=.list ((n4 H k bu K).map .bytes)->σ'.get (Nb+3)=lI (mL k t bu K)->(sB (TT (n+5)) (aG (aG (aG (aG (aG (aG nZ)))))) P ρ' σ').P):
  (sB (TT (n+5)) (aG (aG (aG (aG (aG nZ))))) P ρ σ).P:=by
 obtain⟨C64,D64⟩:=F2 GH;obtain⟨dN,bM,iL,fp,q0,q1,ook⟩:=GH.1;have kk:=@FZ k K;unfold n4 mL at hN;cases az:et K k with
 |some x=>
  rw[az]at kk hN;have e:(!(dX (k:Int) (K.map lH)).isSome)=false:=by rw[kk];rfl
  exact Ask.run λd=>Ask.back (a:=sB (TT (n+5)) (aG (aG (aG (aG (aG (aG nZ)))))) P _ _) (d ao.1 lo.7 g7 e) (hN ρ σ lo ao (.refl w) n2 g7)
 |none=>
  rw[az]at kk hN;have e:(!(dX (k:Int) (K.map lH)).isSome)=true:=by rw[kk];rfl
  nomatch ao.1,lo.7,g7,e,cu,lo.6,n2;refine rX (M:=[]) bu .bytes (λb=>.int (b.length:Int)) rfl w (aB hP (by decide)) (λaj u=>u.aV w n2 (aA rfl)) ?_ ?_
  ·intro b ae aj u Q h;have:=aB (hPl b ae) (show 5000<=1000000 by decide);nomatch this;exact h aj u
  intro aJ u1;have ei:intsOf (bu.map λb=>af.int (b.length:Int))=some (bu.map λb=>(b.length:Int)):=(congrArg intsOf oF.symm).trans (wI _);have lp:(bu.map λb=>af.int (b.length:Int)).length<=1000000:=lmap (aB hP (by decide));have i9:(K.map lH).length<1000000:=j4 (cM hK (by decide));have g71:(aJ.push (.list (bu.map λb=>.int (b.length:Int)))).get (Nb+3)=lI K:=((aw.refl u1.1).push (M:=[])).aV u1.1 (u1.aV w g7 (aA rfl)) (aA rfl);have U2:aw [] σ (aJ.push (.list (bu.map λb=>.int (b.length:Int)))):=u1.push;nomatch ei,lp,i9,ao.1,lo.7,g71;rw[Rx,Rq az];have ed:cv.bZ (K.map lH++[((k:Int),.tup [.int t,.int (bu.flatten.length:Int)])])=lI (K++[(k,t,(bu.flatten.length:Int))]):=by rw[lI,cN];rfl
  rw[ed];have v2:aw [Nb+2,Nb+3] σ ((aJ.push (.list (bu.map λb=>.int (b.length:Int)))).set (Nb+3) (lI (K++[(k,t,(bu.flatten.length:Int))]))):=U2.m0.set (.inl (.tail _ (.head _))) (bU hn U2.2);have f7:=@cT (aJ.push (.list (bu.map λb=>.int (b.length:Int)))) (Nb+3) (lI (K++[(k,t,(bu.flatten.length:Int))]));have n23:Nb+2≠Nb+3:=bq (b9 _);have f6:((aJ.push (.list (bu.map λb=>.int (b.length:Int)))).set (Nb+3) (lI (K++[(k,t,(bu.flatten.length:Int))]))).get (Nb+2)=.list (bu.map .bytes):=cV n23 (U2.aV w n2 (aA rfl));have nal:al∉[Nb+2,Nb+3]:=λq=>by
   rcases gA.mp q with q|q
   ·exact(hal.elim (λy0=>bj.go (.c _ (.c _ .o)) (.c 1 (.a (.v 0) (.n 2)) (.v 1) (.c 1 (.a (.v 1) (.n 1)) (.v 0) .o)) rfl (bb (bF q)) y0) λy0=>bj.go (.c _ (.c _ .o)) (.c 1 (.v 1) (.a (.v 0) (.n 2)) (.c 1 (.a (.v 0) (.n 4)) (.v 1) .o)) rfl (bb q) y0)
   ·have:=bW.mp q;exact(hal.elim (λy0=>bj.go (.c _ (.c _ .o)) (.c 1 (.a (.v 0) (.n 3)) (.v 1) (.c 1 (.a (.v 1) (.n 1)) (.v 0) .o)) rfl (bb (bF this)) y0) λy0=>bj.go (.c _ (.c _ .o)) (.c 1 (.v 1) (.a (.v 0) (.n 3)) (.c 1 (.a (.v 0) (.n 4)) (.v 1) .o)) rfl (bb this) y0)
  have d1:=v2.at w ga (aA rfl) nal;generalize (aJ.push (.list (bu.map λb=>.int (b.length:Int)))).set (Nb+3) (lI (K++[(k,t,(bu.flatten.length:Int))]))=aC at*;have C20:=nQ (x:=H.c) (bG (by decide) dN) (bG bM (by decide));have D20:=nQ (x:=H.d) (bG (by decide) iL) (bG fp (by decide));have R20:=nQ (x:=H.r) (bG (by decide) q0) (by exact q1);have fk:=gP (s:=false) C20.1 C20.2;have bS:=gP (s:=true) D20.1 D20.2;have l3:=gP (s:=false) R20.1 R20.2;nomatch Rw,ao.2;refine nO v2.1.push C20.1 C20.2 (.inr dN) λaU u3=>?_;have a1:=aa fk;nomatch a1,ao.3;refine nO u3.1 D20.1 D20.2 (.inl rfl) λc9 u4=>?_;have U4:=((aw.refl v2.1 (M:=[])).push.trans u3).trans u4;have g64:=U4.aV v2.1 f6 (aA rfl);have a2:=aB (tK fk bS) (show 29+21<=1000000 by decide);nomatch a2,lo.6,ao.4,g64;refine nO u4.1 R20.1 R20.2 (.inr q0) λdy u5=>?_;have U5:=U4.trans u5;have a3:=Ry fk bS l3;have a3':=aB a3 (show 50+21<=1000000 by decide);nomatch a3',ao.5,ao.2,ao.3;refine FT u5.1 (U5.aV v2.1 d1 (aA rfl)) ook (by rw[bR];exact aB a3 (by decide)) C64 D64 GH.2 λqp u6=>?_;have U6:=U5.trans u6;have g66:=U6.aV v2.1 f6 (aA rfl);have a4:(bu.map af.bytes).length<1000000:=j4 (cM hP (by decide));refine Ask.run λd=>Ask.back (a:=sB (TT (n+5)) (aG (aG (aG (aG (aG (aG nZ)))))) P _ _) (d g66 a4) (hN _ _ ⟨lo.1,lo.2,lo.3,lo.4,lo.5,lo.6,lo.7⟩ ⟨ao.1,ao.2,ao.3,ao.4,ao.5,ao.6,ao.7,ao.8⟩ ((v2.nM U6).set (.inl (.head _)) (U6.1.lt g66 (aA rfl))) ?_ (cV n23.symm (U6.aV v2.1 f7 (aA rfl))));rw[Rz,cN];exact cT
end
section
variable{n:Nat}{σ:ah}{lw ls hl lc:Nat}
inductive Drawn(σ σ':ah)(lw ls hl lc Nb:Nat)(ar:List fV)(cs fs:List Nat)(ρ':aQ)(k:Nat)(az:k<ar.length)(hk':k<cs.length)(b s:Int)(ops:List Op)(f ol:Nat):Prop
 |mk (lo:qu ρ' lw hl lc Nb) (ao:w3 ρ' ar[k].1 k ar[k].2 b s ol) (good:∀o∈ops,qq ar[k].1.c ar[k].1.d o) (len:ops.length<=10) (lf:Nb+4<=f) (XW:Nb+4<=ol) (lK:σ'.get f=gQ cs[k] b s ol) (go:σ'.get ol=.list (ops.map Op.v)) (eN:σ'.get Nb=.list ((fs++[f]).map .loc)) (W:cL σ' lw ls) (u:aw [lw,Nb] σ σ')
theorem RB{Nb:Nat}{ρ:aQ}{ar:List fV}{cs fs:List Nat}{t:Int}{P:cq}(w:σ.bg)(W:cL σ lw ls)(lo:qu ρ lw hl lc Nb)(cu:ρ 2=some (.int t))(g1:σ.get hl=.list (ar.map ai))(g3:σ.get lc=.list (cs.map .loc))(eN:σ.get Nb=.list (fs.map .loc))(hw:lw<Nb)(AB:ls<Nb)(F4:hl≠lw)(F5:lc≠lw)(hn:Nb+4<=σ.next)
  (w7:∀p∈ar,iN p.1)(hlen:ar.length=cs.length)(hl0:0<ar.length)(hl10:ar.length<=10)(hfl:fs.length<=100)
  (hN:∀ρ' σ' k az hk' b s ops f ol,ρ' 2=some (.int t)->Drawn σ σ' lw ls hl lc Nb ar cs fs ρ' k az hk' b s ops f ol->(sB (TT (n+5)) (aG (aG (aG (aG (aG nZ))))) P ρ' σ').P):
  (sB (TT (n+5)) nZ P ρ σ).P:=by
 have bM:(ar.map ai).length<=1000000:=lmap (aB hl10 (by decide));nomatch lo.1,lo.2,g1,bM;rw[cF];refine hs w W (aX.mpr hl0) (eZ (aX.mpr hl10) (by decide)) λr aJ a1 a2 W1 u1=>?_;obtain⟨k,rfl⟩:=iy a1;have az:k<ar.length:=dR.mp a2;have hk':k<cs.length:=hlen▸az;have gH:eI (ar.map ai) (k:Int)=some (ai ar[k]):=tS a1 (by exact(a6.mp λaq=>bp.go (.c _ (.c _ .o)) (.c 1 (.a (.v 1) (.n 1)) (.v 0) (.c 1 (.a (.n 1000000) (.n 1)) (.v 1) (.c 1 (.v 0) (.n 10) .o))) rfl a2 aq (aX.mpr hl10))) (by rw[sP];exact congrArg (a7 ai) (jL az));have gC:eI (cs.map af.loc) (k:Int)=some (.loc cs[k]):=tS a1 (by exact(a6.mp λaq=>bp.go (.c _ (.c _ .o)) (.c 1 (.a (.v 1) (.n 1)) (.v 0) (.c 1 (.a (.n 1000000) (.n 1)) (.v 1) (.c 1 (.v 0) (.n 10) .o))) rfl a2 aq (aX.mpr hl10))) (by rw[sP];exact congrArg (a7 af.loc) (jL hk'));have g11:=u1.at w g1 (aA rfl) (cI F4);have GH:=(w7 ar[k] (rc az)).1;nomatch lo.1,lo.2,g11,gH;refine mI (xs:=sV) (λ_w=>True) (λ_w _w=>trivial) rfl (by decide) (by decide) u1.1 W1 λb i aC _w ky W2 u2=>?_;nomatch lo.1,ky;refine mI (xs:=sV) (λ_w=>True) (λ_w _w=>trivial) rfl (by decide) (by decide) u2.1 W2 λs i aU _w gs W3 u3=>?_;nomatch lo.1,gs;refine hs u3.1 W3 (by decide) (by decide) λx c9 b5 b6 W4 u4=>?_;nomatch b5;refine FX u4.1 W4 lo.1 (λ_w=>rfl) (λ_w=>rfl) ⟨GH.1,by have:=GH.2;exact this⟩ ⟨by have:=GH.3;exact this,by have:=GH.4;exact this⟩ (by exact(bE λaq=>bp.go (.c _ (.c _ .o)) (.c 1 (.a (.v 0) (.n 1)) (.n 4) (.c 1 (.a (.n 10) (.n 1)) (.v 1) (.c 1 (.v 1) (.v 0) .o))) rfl b6 (aX.mpr aq) (aP (gD (a6.mp λz1=>bp.go (.c _ .o) (.c 1 (.n 0) (.v 0) (.c 1 (.a (.v 0) (.n 1)) (.n 0) .o)) rfl b5 z1))))) λops dy hol hgo W5 u5=>?_;have U5:aw [lw] σ dy:=(((u1.trans u2).trans u3).trans u4).trans u5;have fR:Nb≠lw:=cn hw;have g45:=U5.at w eN (aA rfl) (cI fR);have g35:=U5.at w g3 (aA rfl) (cI F5);have hn5:=aB hn U5.2;have cw:Nb<dy.next:=bU (jN (show 0<4 by decide) Nb) hn5
 have g36:(dy.push (.list (ops.map Op.v))).get lc=.list (cs.map .loc):=dw (bq (U5.1.lt g35 (aA rfl))) g35;have g46:(dy.push (.list (ops.map Op.v))).get Nb=.list (fs.map .loc):=dw (bq cw) g45;nomatch lo.4,g46,lo.3,g36,gC;refine Az bx ?_;have g47:((((dy.push (.list (ops.map Op.v))).push (.inst 3 [])).set (dy.next+1) (gQ cs[k] b s dy.next))).get Nb=.list (fs.map .loc):=cV (bq (bX cw)) (dw (bq (bX cw)) g46);have c2:(fs.map af.loc).length<1000000:=j4 (cM hfl (by decide));have kw:=gB hw cw;have be:=gB AB cw;have W6:cL ((((dy.push (.list (ops.map Op.v))).push (.inst 3 [])).set (dy.next+1) (gQ cs[k] b s dy.next)).set Nb (.list (fs.map af.loc++[.loc (dy.next+1)]))) lw ls:=
  (((W5.push u5.1).push u5.1.push).set (cn (bX kw)) (cn (bX be))).set fR (cn AB)
 have U6:aw [lw,Nb] σ ((((dy.push (.list (ops.map Op.v))).push (.inst 3 [])).set (dy.next+1) (gQ cs[k] b s dy.next)).set Nb (.list (fs.map af.loc++[.loc (dy.next+1)]))):=
  ((((U5.mono λl hl=>.inl (bW.mp hl▸.head _)).push.push).set (.inr (l8 U5.2)) (b9 _)).set (.inl (.tail _ (.head _))) (bX (bX cw)))
 have hg:dy.next≠Nb:=cn cw
 have x2:dy.next+1≠Nb:=cn (bX cw)
 exact Ask.run λd=>Ask.back (a:=sB (TT (n+5)) (aG (aG (aG (aG (aG nZ))))) P _ _) (d g47 c2) (hN _ _ k az hk' b s ops (dy.next+1) dy.next cu ⟨⟨lo.1,lo.2,lo.3,lo.4,lo.5,lo.6,lo.7⟩,⟨rfl,rfl,rfl,rfl,rfl,rfl,rfl,rfl⟩,hgo,hol,l8 hn5,hn5,cV x2 cT,cV hg (cV (bq (b9 _)) (dw (bq (b9 _)) bx)),by rw[cN];exact cT,W6,U6⟩)
end
noncomputable def d8(ar:List fV)(k:Nat):ba:=(ar[k]?.map (·.1)).getD ⟨0,0,0,[]⟩
noncomputable def ud(cs:List Nat)(k:Nat):Nat:=cs[k]?.getD 0
theorem AC{ar:List fV}{k:Nat}(az:k<ar.length):d8 ar k=ar[k].1:=by unfold d8;rw[jL az];rfl
theorem w8{cs:List Nat}{k:Nat}(az:k<cs.length):ud cs k=cs[k]:=by unfold ud;rw[jL az];rfl
theorem RC(k:Nat)(t:Int)(P:List (List UInt8))(K:List (Nat×Int×Int)):∃h s,et (mL k t P K) k=some (h,s):=by
 unfold mL;cases az:et K k with
 |some x=>exact⟨x.1,x.2,az⟩
 |none=>exact⟨_,_,F3 (x:=(t,(P.flatten.length:Int))) az⟩
theorem RD{hd:Nat->ba}{t:nW}{f:cQ}{h s:Int}(e:et (mL f.k t.rows.length t.parts t.fW) f.k=some (h,s)):
  io hd t f=⟨n4 (hd f.k) f.k t.parts t.fW++[hk (hd f.k) s f],mL f.k t.rows.length t.parts t.fW,t.rows++[r9 (hd f.k) h f]⟩:=by
 unfold io n4 mL at*;cases az:et t.fW f.k with
 |some x=>rw[az]at e;exact cW (az.symm.trans e)▸rfl
 |none=>rw[az]at e;cases(F3 (x:=((t.rows.length:Int),(t.parts.flatten.length:Int))) az).symm.trans e;rfl
theorem RE{H:ba}{k:Nat}{P:List (List UInt8)}{K:List (Nat×Int×Int)}:(n4 H k P K).length<=P.length+1:=by
 unfold n4;cases et K k
 ·exact bb bR
 ·exact gh _
theorem RF{k:Nat}{t:Int}{P:List (List UInt8)}{K:List (Nat×Int×Int)}:(mL k t P K).length<=K.length+1:=by
 unfold mL;cases et K k
 ·exact bb bR
 ·exact gh _
theorem RG{H:ba}{k:Nat}{P:List (List UInt8)}{K:List (Nat×Int×Int)}(ok:H.Ok)(h:∀b∈P,b.length<=5000):∀b∈n4 H k P K,b.length<=5000:=by
 unfold n4;cases et K k
 ·exact db h (aB (ba.r2 ok) (by decide))
 ·exact h
inductive Table (σ:ah) (lf ld lp:Nat) (hd:Nat->ba) (cl:Nat->Nat) (fds:List cQ):Prop
 |mk (ne:fds≠[]) (len:fds.length<=10) (fd:∃fs,σ.get lf=.list (fs.map .loc)/\ kH σ cl fs fds) (sd:∀f∈fds,jC σ (cl f.k) (hd f.k)) (good:∀f∈fds,iN (hd f.k)/\ hj f.ops/\ ∀o∈f.ops,o.fits (hd f.k).c (hd f.k).d) (inj:∀f∈fds,∀g∈fds,cl f.k=cl g.k->f.k=g.k) (nT:∃vs B,σ.get ld=.list vs/\ dO (jh σ B) vs (cY hd fds).rows) (parts:σ.get lp=.list ((cY hd fds).parts.map .bytes)) (XX:(cY hd fds).parts.length<=20) (XY:∀b∈(cY hd fds).parts,b.length<=5000)
inductive ue (hv:ah) (lw ls hl lc Nb kk:Nat) (ar:List fV) (cs:List Nat) (r:List af) (ρ:aQ) (aj:ah) (fds:List cQ) (fs:List Nat) (vs:List af):Prop
 |mk (pb:r=((cE kk).drop fds.length).map λ(j:Nat)=>af.int (j:Int)) (az:fds.length<=kk) (lo:qu ρ lw hl lc Nb) (Af:aj.get Nb=.list (fs.map .loc)) (F6:dO (sa aj (Nb+4) (ud cs)) fs fds) (XZ:aj.get (Nb+1)=.list vs) (X0:dO (jh aj (Nb+4)) vs (cY (d8 ar) fds).rows) (X5:(cY (d8 ar) fds).rows.length=fds.length) (X6:aj.get (Nb+2)=.list ((cY (d8 ar) fds).parts.map .bytes)) (X7:aj.get (Nb+3)=lI (cY (d8 ar) fds).fW) (di:(cY (d8 ar) fds).parts.length<=2*fds.length) (pm:∀b∈(cY (d8 ar) fds).parts,b.length<=5000) (hm:(cY (d8 ar) fds).fW.length<=fds.length) (cK:∀f∈fds,f.k<ar.length/\ hj f.ops/\ ∀o∈f.ops,o.fits (d8 ar f.k).c (d8 ar f.k).d) (W:cL aj lw ls) (u:aw [lw] hv aj) (n:Nb+4<=aj.next)
inductive AD (hv:ah) (lw ls hl lc Nb:Nat) (ar:List fV) (cs:List Nat):Prop
 |mk (w:hv.bg) (nb:hv.next=Nb) (g1:hv.get hl=.list (ar.map ai)) (g3:hv.get lc=.list (cs.map .loc)) (hw:lw<Nb) (AB:ls<Nb) (F4:hl≠lw) (F5:lc≠lw) (w7:∀p∈ar,iN p.1) (eu:∀p∈ar,hv.get p.2=.list (p.1.ops.map Op.v)) (X8:∀p∈ar,p.2≠lw) (len:ar.length=cs.length) (X9:0<ar.length) (Ya:ar.length<=10)
theorem uf{a b B:Nat}(aM:a<B)(ae:b<B):∀m∈[a,b],m<B:=c1.mpr ⟨aM,c1.mpr ⟨ae,λ_w h=>nomatch h⟩⟩
theorem ug{a b N lw:Nat}(aM:a=lw \/N<=a)(ae:N<=b):∀m∈[a,b],m∈[lw] \/N<=m:=c1.mpr ⟨aM.imp_left bW.mpr,c1.mpr ⟨.inr ae,λ_w h=>nomatch h⟩⟩
theorem cS{a b c:Nat}(h:c≠a)(h':c≠b):c∉[a,b]:=λq=>(gA.mp q).elim h λq=>h' (bW.mp q)
section
variable{n:Nat}{σ:ah}{lw ls:Nat}
theorem RH{Nb hl lc kk:Nat}{ρ:aQ}{hv aj:ah}{ar:List fV}{cs:List Nat}{v:af}{r:List af}{V:eH}{X:Nat->cX}(T:AD hv lw ls hl lc Nb ar cs)(hkk:kk<=5){fds:List cQ}{fs:List Nat}{vs:List af}(I:ue hv lw ls hl lc Nb kk ar cs (v::r) ρ aj fds fs vs):
  (sB (TT (n+5)) nZ ⟨dY λρ' bP=>∃fds fs vs,ue hv lw ls hl lc Nb kk ar cs r ρ' bP fds fs vs,dY λρ' bP=>∃fds fs vs,ue hv lw ls hl lc Nb kk ar cs r ρ' bP fds fs vs,V,X⟩ (ρ.set 2 v) aj).P:=by
 have pb:=I.1;have hd:fds.length<kk:=(Ww fds.length kk).elim id λz=>by
  rw[BB (nd▸z)]at pb;exact nomatch pb
 rw[oH (nd.symm▸hd),IG,l9]at pb;obtain⟨rfl,rfl⟩:=jM pb;have lo:=I.3;have w:=I.16.1;have l4:∀{j},j<4->Nb+j<Nb+4:=λh=>jN h Nb;refine RB w I.15 ⟨lo.1,lo.2,lo.3,lo.4,lo.5,lo.6,lo.7⟩ rfl (I.16.at T.1 T.3 (aA rfl) (cI T.7)) (I.16.at T.1 T.4 (aA rfl) (cI T.8)) I.4 T.5 T.6 T.7 T.8 I.17 T.9 T.12 T.13 T.14 (by rw[I.5.length];exact(bE λaq=>bj.go (.c _ (.c _ .o)) (.c 1 (.v 0) (.n 5) (.c 1 (.a (.v 1) (.n 1)) (.v 0) (.c 1 (.a (.n 100) (.n 1)) (.v 1) .o))) rfl hkk hd aq)) ?_;intro RI aJ k az hk' b s ops f ol q2 D;have eh:=AC az;have GH:=T.9 ar[k] (rc az);have U1:aw [lw] hv aJ:=I.16.over D.11 (ug (.inl rfl) (bb T.2));have gp:=T.10 ar[k] (rc az);have gpn:=cI (T.11 ar[k] (rc az));have plt:ar[k].2<Nb:=T.2▸T.1.lt gp (aA rfl);have nA:∀{j},0<j->Nb+j∉[lw,Nb]:=λh=>cS (cn (bU T.5 (c8 ..))) (cn (jp h));have s5:=D.11.at w I.6 (aA rfl) (nA (by decide));have s6:=D.11.at w I.9 (aA rfl) (nA (by decide));have s7:=D.11.at w I.10 (aA rfl) (nA (by decide));have hn1:=aB I.17 D.11.2;have di:=I.11;have hm:=I.13;refine RA (H:=ar[k].1) D.11.1 q2 D.1 D.2 s6 s7 (U1.at T.1 gp (aA rfl) gpn) GH hn1 (.inl plt) (by exact(bE λaq=>bj.go (.c _ (.c _ (.c _ .o))) (.c 2 (.v 0) (.n 5) (.c 2 (.a (.v 1) (.n 1)) (.v 0) (.c 1 (.v 2) (.m 2 (.v 1)) (.c 1 (.a (.n 100) (.n 1)) (.v 2) .o)))) rfl hkk hd di aq)) I.12 (by exact(bE λaq=>bj.go (.c _ (.c _ (.c _ .o))) (.c 1 (.v 0) (.n 5) (.c 1 (.a (.v 1) (.n 1)) (.v 0) (.c 1 (.v 2) (.v 1) (.c 1 (.a (.n 100) (.n 1)) (.v 2) .o)))) rfl hkk hd hm aq)) λkq aC lo2 hi2 u2 p6 p7=>?_;obtain⟨h,sp,hf⟩:=RC k (fds.length:Int) (cY (d8 ar) fds).parts (cY (d8 ar) fds).fW;have M23:=uf (l4 (show 2<4 by decide)) (l4 (show 3<4 by decide));have M12:=uf (l4 (show 1<4 by decide)) (l4 (show 2<4 by decide));have M01:∀m∈[lw,Nb],m<Nb+4:=uf (bU T.5 (c8 ..)) (l4 (j:=0) (by decide));have nbl:∀{j},hv.next<=Nb+j:=T.2▸c8 ..
 have U2:aw [lw] hv aC:=U1.over u2 (ug (.inr nbl) nbl);have nB:∀{j},j<2->Nb+j∉[Nb+2,Nb+3]:=λh=>cS (bq (jN h Nb)) (bq (jN (bX h) Nb));have mpl:=@RE ar[k].1 k (cY (d8 ar) fds).parts (cY (d8 ar) fds).fW;have mkl:=@RF k (fds.length:Int) (cY (d8 ar) fds).parts (cY (d8 ar) fds).fW;refine Rv (H:=ar[k].1) (fd:=⟨k,b,s,ops⟩) (h:=h) (sp:=sp) u2.1 lo2 hi2 (u2.at D.11.1 s5 (aA rfl) (nB (by decide))) p6 p7 hf (U2.at T.1 gp (aA rfl) gpn) (u2.at D.11.1 D.8 (aA rfl) (kK M23 D.6)) GH D.3 D.4 (.inl plt) D.6 (aB hn1 u2.2) (by rw[I.7.length,I.8];exact(bE λaq=>bj.go (.c _ (.c _ .o)) (.c 1 (.v 0) (.n 5) (.c 1 (.a (.v 1) (.n 1)) (.v 0) (.c 1 (.a (.n 100) (.n 1)) (.v 1) .o))) rfl hkk hd aq)) (by exact(bE λaq=>bj.go (.c _ (.c _ (.c _ (.c _ .o)))) (.c 2 (.v 0) (.n 5) (.c 2 (.a (.v 1) (.n 1)) (.v 0) (.c 1 (.v 2) (.m 2 (.v 1)) (.c 1 (.v 3) (.a (.v 2) (.n 1)) (.c 1 (.a (.n 100) (.n 1)) (.v 3) .o))))) rfl hkk hd di mpl aq)) ?_;intro Ej aU v lo3 u3 z5 zr z6;have est:cY (d8 ar) (fds++[⟨k,b,s,ops⟩])=⟨n4 ar[k].1 k (cY (d8 ar) fds).parts (cY (d8 ar) fds).fW++[hk ar[k].1 sp ⟨k,b,s,ops⟩],mL k (fds.length:Int) (cY (d8 ar) fds).parts (cY (d8 ar) fds).fW,(cY (d8 ar) fds).rows++[r9 ar[k].1 h ⟨k,b,s,ops⟩]⟩:=by
  refine(show _=io (d8 ar) (cY (d8 ar) fds) ⟨k,b,s,ops⟩from IZ).trans ?_;rw[RD (h:=h) (s:=sp) (by rw[I.8];exact hf),eh,I.8]
 have nC:∀{j},Nb+3<=j->j∉[Nb+1,Nb+2]:=λh=>cS (cn (bU (jN (by decide) Nb) h)) (cn (bU (jN (by decide) Nb) h));have eW:∀{α:Type}{l:List α}{x:α},(l++[x]).length=l.length+1:=λ{α l x}=>bR;have nw:lw∉[Nb+2,Nb+3]:=cS (bq (bU T.5 (c8 ..))) (bq (bU T.5 (c8 ..)));have ns:ls∉[Nb+2,Nb+3]:=cS (bq (bU T.6 (c8 ..))) (bq (bU T.6 (c8 ..)));have nw':lw∉[Nb+1,Nb+2]:=cS (bq (bU T.5 (c8 ..))) (bq (bU T.5 (c8 ..)));have ns':ls∉[Nb+1,Nb+2]:=cS (bq (bU T.6 (c8 ..))) (bq (bU T.6 (c8 ..)));refine⟨fds++[⟨k,b,s,ops⟩],fs++[f],vs++[v],by rw[eW],by rw[eW];exact hd,lo3,u3.at u2.1 (u2.at D.11.1 D.9 (aA rfl) (nB (j:=0) (by decide))) (aA rfl) (cS (bq (jp (by decide))) (bq (jp (by decide)))),
  dO.snoc ?_ (I.5.imp λa c x=>((x.up w D.11 M01).up D.11.1 u2 M23).up u2.1 u3 M12),z5,?_,?_,?_,?_,?_,?_,?_,db I.14 ⟨az,wW D.4 D.3,λo ho=>by rw[eh];exact(D.3 o ho).3⟩,(D.10.up D.11.1 u2 nw ns).up u2.1 u3 nw' ns',U2.over u3 (ug (.inr nbl) nbl),aB (aB hn1 u2.2) u3.2⟩
 ·exact(sa.up (⟨D.5,ol,D.6,by rw[w8 hk'];exact D.7,D.8⟩:sa aJ (Nb+4) (ud cs) f ⟨k,b,s,ops⟩) D.11.1 u2 M23).up u2.1 u3 M12
 ·rw[est];exact dO.snoc zr (I.7.imp λa c x=>((x.up w D.11 M01).up D.11.1 u2 M23).up u2.1 u3 M12)
 ·rw[est,eW,eW,I.8]
 ·rw[est];exact z6
 ·rw[est];exact u3.at u2.1 p7 (aA rfl) (nC (bI _))
 ·rw[est,eW,eW];exact(bE λaq=>bj.go (.c _ (.c _ (.c _ .o))) (.c 1 (.v 1) (.m 2 (.v 0)) (.c 1 (.v 2) (.a (.v 1) (.n 1)) (.c 1 (.a (.m 2 (.a (.v 0) (.n 1))) (.n 1)) (.a (.v 2) (.n 1)) .o))) rfl di mpl aq)
 ·rw[est];exact db (RG GH.1 I.12) (aB (r3 (wW D.4 D.3)) (by decide))
 ·rw[est,eW];exact aB mkl (jn hm)
theorem RJ{Nb hl lc kk:Nat}{ρ:aQ}{hv aj:ah}{ar:List fV}{cs:List Nat}(T:AD hv lw ls hl lc Nb ar cs)(h0:0<kk)(hkk:kk<=5)(hcw:∀k (az:k<cs.length),jC aj cs[k] (d8 ar k))(hnd:cs.Nodup){fds:List cQ}{fs:List Nat}{vs:List af}(I:ue hv lw ls hl lc Nb kk ar cs [] ρ aj fds fs vs):
  Table aj Nb (Nb+1) (Nb+2) (d8 ar) (ud cs) fds:=by
 have hfe:kk<=fds.length:=by
  have:=congrArg qM I.1;rw[cF,oy,nd]at this;exact Nat.le_of_sub_eq_zero this.symm
 have az:=I.2;have di:=I.11;have lt:∀f∈fds,f.k<cs.length:=λf hf=>T.12▸(I.14 f hf).1;refine⟨λe=>by rw[e]at hfe;exact absurd hfe (yD h0),by exact(aB (aB az hkk) (by decide)),⟨fs,I.4,?_⟩,λf hf=>by rw[w8 (lt f hf)];exact hcw _ (lt f hf),λf hf=>⟨by rw[AC (I.14 f hf).1];exact T.9 _ (rc _),(I.14 f hf).2⟩,λf hf g cK e=>?_,⟨vs,Nb+4,I.6,I.7⟩,I.9,by exact(bE λaq=>bj.go (.c _ (.c _ (.c _ .o))) (.c 2 (.v 0) (.n 5) (.c 2 (.v 1) (.v 0) (.c 1 (.v 2) (.m 2 (.v 1)) (.c 1 (.a (.n 20) (.n 1)) (.v 2) .o)))) rfl hkk az di aq),I.12⟩
 ·have F6:=I.5;clear I hfe az di lt
  induction F6 with
  |nil=>exact .nil
  |cons a _ ih=>exact .cons (a.elim λ_w zz=>zz.elim λo zz=>zz.elim λ_w zz=>zz.elim λx y=>⟨o,x,y⟩) ih
 ·rw[w8 (lt f hf),w8 (lt g cK)]at e;have hp:=uD.mp hnd;exact(B0 f.k g.k).elim (λz=>absurd e (hp _ _ (lt f hf) (lt g cK) z)) λz=>z.elim id λz=>absurd e.symm (hp _ _ (lt g cK) (lt f hf) z)
end
section
variable{n:Nat}{σ:ah}{Q:cR}{E:Nat->ah->Prop}{lw ls:Nat}
noncomputable def AE:cv->Bool
 |.list (.loc _::_)=>true
 |_=>false
theorem RK{ol:Nat}(W:cL σ lw ls){ops:List Op}(h:σ.get ol=.list (ops.map Op.v)):ol≠lw:=by
 intro e;obtain⟨ns,p,x,W⟩:=W;have:=h.symm.trans (e▸W.1);cases ops with
 |nil=>exact ci (congrArg AE this)
 |cons o r=>exact ci (congrArg AE this)
theorem jC.RL{σ':ah}{cl:Nat}{H:ba}(x:jC σ cl H)(w:σ.bg)(W:cL σ lw ls)(u:aw [lw] σ σ'):jC σ' cl H:=by
 obtain⟨ol,a,b⟩:=x.1;have aa:cl≠lw:=λe=>by
  obtain⟨ns,p,x,W⟩:=W;have:=a.symm.trans (e▸W.1);exact aA rfl this
 exact⟨ol,u.at w a (aA rfl) (cI aa),u.at w b (aA rfl) (cI (RK W b))⟩
theorem RM(w:σ.bg)(W:cL σ lw ls)(h:∀σ' lf ld lp hd cl fds,Table σ' lf ld lp hd cl fds->cL σ' lw ls->aw [lw] σ σ'->Q (.tup [.loc lf,.loc ld,.loc lp]) σ'):bH fn bk bl (n+6) 54 [.loc lw] σ Q E:=by
 refine bz rfl ?_;have hlt:=W.lt w;nomatch w;refine hs w.push (W.push w) (by decide) (by decide) λr aJ a1 a2 W1 u1=>?_;have ne0:=cn hlt;have gH1:=u1.at w.push (@bx σ (.list [])) (aA rfl) (cI ne0);have U1:aw [lw] σ aJ:=((aw.refl w).push).trans u1;have bM:0<=1+r/\ 1+r<=1000000:=by exact⟨(fM (by decide) a1),(fG (dk (gY a2 _) (by decide)))⟩
 nomatch bM;refine Rn (n:=n+2) u1.1 W1 rfl rfl gH1 ne0 (cn (W.FV w)) (by exact(bE λaq=>bp.go (.c _ (.c _ .o)) (.c 1 (.a (.v 0) (.n 1)) (.n 2) (.c 1 (.a (.n 10) (.n 1)) (.v 1) (.c 1 (.v 1) (.a (.n 1) (.v 0)) .o))) rfl a2 (aX.mpr aq) (aP (gD (a6.mp λz1=>bp.go (.c _ .o) (.c 1 (.n 0) (.v 0) (.c 1 (.a (.a (.n 1) (.v 0)) (.n 1)) (.n 0) .o)) rfl a1 z1))))) λar kq aC I=>?_;have U2:aw [lw] σ aC:=U1.over I.10 (ug (.inl rfl) (bI _));nomatch I.3,I.4;have hl:ar.length=(1+r).toNat:=I.1;refine Rp (n:=n+4) I.10.1 I.4 I.5 (by exact(bE λaq=>bp.go (.c _ (.c _ (.c _ .o))) (.c 1 (.a (.v 0) (.n 1)) (.n 2) (.c 1 (.v 2) (.v 1) (.c 1 (.a (.n 10) (.n 1)) (.v 2) (.c 1 (.v 1) (.a (.n 1) (.v 0)) .o)))) rfl a2 (aX.mpr (bb hl)) (aX.mpr aq) (aP (gD (fM (by decide) a1))))) (λp hp=>(I.6 p hp).1.7.2.2) λcs aU dE hnd u3 hcl=>?_;have W3:=I.9.nV I.10.1 u3;have U3:aw [lw] σ aU:=U2.nM u3;have u4:aw [] aC (aU.push (.list (cs.map .loc))):=u3.push;have g41:=u4.aV I.10.1 I.4 (aA rfl);have eN:=@bx aU (.list (cs.map .loc));have ne3:aU.next≠lw:=cn (W3.lt u3.1)
 have hA4:∀k(az:k<cs.length),jC (aU.push (.list (cs.map .loc))) cs[k] (d8 ar k):=λk az=>by
  rw[AC (dE.length▸az)];exact(dE.get az (dE.length▸az)).to.up u3.1 ((aw.refl u3.1).push)
 nomatch I.2;have U4:aw [lw] σ (aU.push (.list (cs.map .loc))):=U3.push;have W4:cL (aU.push (.list (cs.map .loc))) lw ls:=W3.push u3.1;have T:AD (aU.push (.list (cs.map .loc))) lw ls σ.next aU.next (aU.push (.list (cs.map .loc))).next ar cs:=⟨u4.1,rfl,g41,eN,W4.lt u4.1,W4.FV u4.1,ne0,ne3,I.6,λp hp=>u4.aV I.10.1 (I.5 p hp) (aA rfl),I.7,dE.length.symm,by exact(dP λaq=>bp.go (.c _ (.c _ (.c _ .o))) (.c 1 (.n 0) (.v 2) (.c 1 (.v 1) (.v 0) (.c 1 (.v 0) (.n 0) (.c 1 (.a (.n 1) (.v 2)) (.v 1) .o)))) rfl a1 (aX.mpr (bb (bF hl))) (aX.mpr aq) (aP (bF (gD (fM (by decide) a1))))),by exact(bE λaq=>bp.go (.c _ (.c _ (.c _ .o))) (.c 1 (.a (.v 0) (.n 1)) (.n 2) (.c 1 (.v 2) (.v 1) (.c 1 (.a (.n 10) (.n 1)) (.v 2) (.c 1 (.v 1) (.a (.n 1) (.v 0)) .o)))) rfl a2 (aX.mpr (bb hl)) (aX.mpr aq) (aP (gD (fM (by decide) a1))))⟩
 have r0:=I.2;have bN:=I.3;have j3:=u4.1;clear I u4 U3 u3 U2 U1 dE gH1 eN g41;generalize aU.push (.list (cs.map .loc))=lL at*;have uu:aw [lw] lL ((((lL.push (.list [])).push (.list [])).push (.list [])).push (.bZ [])):=((((aw.refl j3).push).push).push).push;refine hs uu.1 ((((W4.push j3).push j3.push).push j3.push.push).push j3.push.push.push) (by decide) (by decide) λcu dy b1 b2 W5 u5=>?_;have at5:∀{j o},((((lL.push (.list [])).push (.list [])).push (.list [])).push (.bZ [])).get (lL.next+j)=o->o≠.dead->dy.get (lL.next+j)=o:=λg h=>u5.at uu.1 g h (cI (cn (bU T.5 (c8 ..))));have c2:0<=1+cu/\ 1+cu<=1000000:=by exact⟨(fM (by decide) b1),(fG (dk (gY b2 _) (by decide)))⟩
 have k5:(1+cu).toNat<=5/\ 0<(1+cu).toNat:=by exact⟨(bE λaq=>bp.go (.c _ (.c _ .o)) (.c 1 (.a (.v 0) (.n 1)) (.n 3) (.c 1 (.a (.n 5) (.n 1)) (.v 1) (.c 1 (.v 1) (.a (.n 1) (.v 0)) .o))) rfl b2 (aX.mpr aq) (aP (gD (a6.mp λz1=>bp.go (.c _ .o) (.c 1 (.n 0) (.v 0) (.c 1 (.a (.a (.n 1) (.v 0)) (.n 1)) (.n 0) .o)) rfl b1 z1)))),(dP λaq=>bp.go (.c _ (.c _ .o)) (.c 1 (.n 0) (.v 1) (.c 1 (.v 0) (.n 0) (.c 1 (.a (.n 1) (.v 1)) (.v 0) .o))) rfl b1 (aX.mpr aq) (aP (bF (gD (a6.mp λz1=>bp.go (.c _ .o) (.c 1 (.n 0) (.v 0) (.c 1 (.a (.a (.n 1) (.v 0)) (.n 1)) (.n 0) .o)) rfl b1 z1)))))⟩
 have U5:=uu.trans u5;have hcw:∀{aj:ah},aw [lw] lL aj-> ∀k(az:k<cs.length),jC aj cs[k] (d8 ar k):=λu k az=>(hA4 k az).RL j3 W4 u;nomatch c2;refine kA (λr ρ aj=>∃fds fs vs,ue lL lw ls σ.next aU.next lL.next (1+cu).toNat ar cs r ρ aj fds fs vs) ?_ (λv r ρ aj zz=>zz.elim λfds zz=>zz.elim λfs zz=>zz.elim λvs I=>⟨trivial,RH T k5.1 I⟩) λρ aj zz=>zz.elim λfds zz=>zz.elim λfs zz=>zz.elim λvs I=>⟨trivial,?_⟩
 ·exact⟨[],[],[],rfl,du _,⟨r0,bN,rfl,rfl,rfl,rfl,rfl⟩,at5 (j:=0) (dw ub (dw r7 (dw pi bx))) (aA rfl),.nil,at5 (j:=1) (dw (@r7 (lL.push (.list [])) (.list []) (.list [])) (dw (@pi (lL.push (.list [])) (.list [])) bx)) (aA rfl),.nil,rfl,at5 (j:=2) (dw (@pi ((lL.push (.list [])).push (.list [])) (.list [])) bx) (aA rfl),at5 (j:=3) bx (aA rfl),du _,(λ_w h=>nomatch h),du _,(λ_w h=>nomatch h),W5,U5,u5.2⟩
 ·nomatch I.3.4,I.3.5,I.3.6;exact h aj _ _ _ _ _ _ (RJ T k5.2 k5.1 (hcw I.16) hnd I) I.15 (U4.trans I.16)
end
noncomputable def le(bs:List UInt8):Int:=bs.foldr (λc a=>(c.toNat:Int)+256*a) 0
noncomputable def aR(xs:List UInt8)(p e:Nat):List UInt8:=(xs.take e).drop p
noncomputable def ip:List UInt8->Option (Int×Int×UInt8×List UInt8)
 |[]=>none
 |c::r=>if c<128 then some ((c.toNat:Int)%128,128,c,r)else match ip r with
  |none=>none
  |some (t,w,l,b7)=>some ((c.toNat:Int)%128+128*t,128*w,l,b7)
theorem F7{c:UInt8}{r:List UInt8}:ip (c::r)=(if c<128 then some ((c.toNat:Int)%128,128,c,r)else match ip r with|none=>none|some (t,w,l,b7)=>some ((c.toNat:Int)%128+128*t,128*w,l,b7)):=rfl
noncomputable def eB(s:Bool)(r:List UInt8):Option (Int×List UInt8):=(ip r).map λx=>(if s&&decide (x.2.2.1.toNat>63)then x.1-x.2.1 else x.1,x.2.2.2)
noncomputable def dc(w:Nat)(r:List UInt8):Option (Int×List UInt8):=if w<=r.length then some (le (r.take w),r.drop w)else none
set_option genCtorIdx true in
inductive fX where|u|d|s|w|dv|cS|fR
noncomputable def hx(c d:Int):fX->List UInt8->Option (Int×List UInt8)
 |.u,r=>eB false r
 |.d,r=>(eB false r).map λy=>(y.1*d,y.2)
 |.s,r=>(eB true r).map λy=>(y.1*d,y.2)
 |.w,r=>dc 4 r
 |.dv,r=>(dc 1 r).map λy=>(y.1*c,y.2)
 |.cS,r=>(dc 2 r).map λy=>(y.1*c,y.2)
 |.fR,r=>(dc 4 r).map λy=>(y.1*c,y.2)
noncomputable def gu(c d:Int):List fX->List UInt8->Option (List Int×List UInt8)
 |[],r=>some ([],r)
 |s::ss,r=>(hx c d s r).bind λy=>(gu c d ss y.2).map λz=>(y.1::z.1,z.2)
noncomputable abbrev a1(vs:List Int):Int:=vs.headD 0
noncomputable abbrev a2(vs:List Int):Int:=vs.tail.headD 0
noncomputable def pj:List (UInt8×List fX×(List Int->Op)):=
 [(0,[],λ_w=>.iM),(1,[.w],λv=>.loc (a1 v)),(2,[.dv],λv=>.dG (a1 v)),(3,[.cS],λv=>.dG (a1 v)),(4,[.fR],λv=>.dG (a1 v)),
 (5,[.u,.d],λv=>.hi (a1 v) (a2 v)),(6,[.u],λv=>.rest (a1 v)),(7,[.u],λv=>.kB (a1 v)),(8,[.u],λv=>.same (a1 v)),(9,[.u,.u],λv=>.kC (a1 v) (a2 v)),
 (10,[],λ_w=>.rem),(11,[],λ_w=>.res),(12,[.u,.u],λv=>.hh (a1 v) (a2 v)),(13,[.u],λv=>.kD (a1 v)),(14,[.u],λv=>.ig (a1 v)),
 (17,[.u,.s],λv=>.hi (a1 v) (a2 v)),(18,[.u,.s],λv=>.hh (a1 v) (a2 v)),(19,[.s],λv=>.ig (a1 v)),(20,[.u,.d],λv=>.val (a1 v) (a2 v)),(21,[.u,.s],λv=>.val (a1 v) (a2 v))]
noncomputable def pk{α:Type}(x:UInt8):List (UInt8×α)->Option α
 |[]=>none
 |(y,a)::r=>if x=y then some a else pk x r
noncomputable def eX(c d:Int):List UInt8->Option (Op×List UInt8)
 |[]=>none
 |x::r=>
  if 192<=x.toNat then some (.rest (x.toNat-192),r)
  else if 128<=x.toNat then(eB false r).map λy=>(.off (x.toNat-128) (y.1*d),y.2)
  else if 64<=x.toNat then some (.dG ((x.toNat-64)*c),r)
  else(pk x pj).bind λe=>(gu c d e.1 r).map λy=>(e.2 y.1,y.2)
theorem F8{xs:List UInt8}{p e:Nat}(h:e<=xs.length):(aR xs p e).length=e-p:=by unfold aR;rw[oy,l7,qZ h]
theorem RN{xs:List UInt8}{p e k:Nat}:(aR xs p e).drop k=aR xs (p+k) e:=I6
theorem RO{xs:List UInt8}{p e k:Nat}(h:p+k<=e):(aR xs p e).take k=(xs.drop p).take k:=by
 unfold aR;rw[WO,List.take_take,qZ (by exact(bE λaq=>bj.go (.c _ (.c _ (.c _ (.c _ .o)))) (.c 1 (.a (.v 0) (.v 1)) (.v 2) (.c 1 (.a (.v 3) (.n 1)) (.v 1) (.c 1 (.v 2) (.a (.v 3) (.v 0)) .o))) rfl h aq (bb (bF (dU (bE λz1=>bj.go (.c _ (.c _ (.c _ .o))) (.c 1 (.a (.v 0) (.v 2)) (.v 1) (.c 1 (.a (.v 1) (.n 1)) (.v 0) .o)) rfl h z1))))))]
theorem uh{xs:List UInt8}{p e:Nat}(h:e<=p):aR xs p e=[]:=WP.mpr (aB (yG ..) h)
theorem ui{xs:List UInt8}{p e:Nat}(h:e<=xs.length)(hp:p<e):∃c,xs[p]?=some c/\ aR xs p e=c::aR xs (p+1) e:=by
 have aa:p<(xs.take e).length:=by rw[l7,qZ h];exact hp
 refine⟨xs[p]'(bU hp h),jL _,?_⟩;unfold aR;rw[oH aa,List.getElem_take]
theorem F9{c:UInt8}:∀a:List UInt8,le (a++[c])=le a+(c.toNat:Int)*256^a.length:=by
 intro a
 induction a with
 |nil=>
  show(c.toNat:Int)+256*0=0+(c.toNat:Int)*1;rw[Br,qK];rfl
 |cons x a ih=>
  show(x.toNat:Int)+256*le (a++[c])=(x.toNat:Int)+256*le a+_;rw[ih,mi,u9,xF,lY (256^a.length),Int.mul_left_comm,oh]
theorem RP{xs:List UInt8}{a:Nat}:∀{k:Nat},a+k<=xs.length->((cE k).map λj=>((xs[a+j]?.getD 0).toNat:Int)*256^j).sum=le ((xs.drop a).take k):=by
 intro k
 induction k with
 |zero=>
  intro _;exact rfl
 |succ k ih=>
  intro h;have az:k<(xs.drop a).length:=by rw[oy];exact(dP λaq=>bj.go (.c _ (.c _ (.c _ (.c _ .o)))) (.c 1 (.a (.v 0) (.a (.v 1) (.n 1))) (.v 2) (.c 1 (.v 3) (.v 1) (.c 1 (.v 2) (.a (.v 3) (.v 0)) .o))) rfl h aq (bb (bF (dU (bE λz1=>bj.go (.c _ (.c _ (.c _ .o))) (.c 1 (.a (.v 0) (.a (.v 2) (.n 1))) (.v 1) (.c 1 (.a (.v 1) (.n 1)) (.v 0) .o)) rfl h z1)))))
  have e:xs[a+k]?.getD 0=(xs.drop a)[k]:=by rw[List.getElem_drop,jL (by exact h)];rfl
  rw[WQ,cN,List.sum_append,ih (u8 h),ye az,F9,l7,qZ (dA az)];show _+(((xs[a+k]?.getD 0).toNat:Int)*256^k+0)=_;rw[sq,e]
section
variable{n:Nat}{σ:ah}{Q:cR}{E:Nat->ah->Prop}
noncomputable abbrev de(p e:Int):cv:=.list [.int p,.int e]
theorem Yb{j:Nat}(h:j<8):(256:Int)^j<=72057594037927936:=by
 have:=IX (show 0<256 by decide) (show j<=7 by exact(lW h));have e:(256:Int)^j=((256^j:Nat):Int):=(ra 256 j).symm;rw[e];exact aX.mpr this
theorem RQ(a:UInt8)(b:Int):gV (a.toNat:Int) b:=ni (kI (by have:=a.toNat_lt;exact⟨(cD _),(bG (aX.mpr (UInt8.toNat_lt _)) (by decide))⟩))
theorem qw{xs:List UInt8}{sp:Nat}{p e:Int}{k:Nat}(w:σ.bg)(g:σ.get sp=de p e)(ak:xs.length<=900000)(he:e<=xs.length)(az:k<=8)
  (hS:∀σ',0<=p->p+k<=e->aw [sp] σ σ'->σ'.get sp=de (p+k) e->Q (.int (le ((xs.drop p.toNat).take k))) σ')
  (hF:∀σ',¬(0<=p/\ p+k<=e)->aw [sp] σ σ'->σ'.get sp=de (-1) e->Q (.int 0) σ'):bH fn bk bl (n+1) 55 [.bytes xs,.loc sp,.int k] σ Q E:=by
 refine bz rfl ?_;have setU:∀{o},aw [sp] σ (σ.set sp o):=(aw.refl w).set (.inl (.head _)) (w.lt g (aA rfl));by_cases h0:p<0
 ·nomatch g,h0;exact hF _ (λh=>a6.mpr h.1 h0) setU cT
 by_cases aa:e<p+k
 ·nomatch g,h0,aa;exact hF _ (λh=>a6.mpr h.2 aa) setU cT
 nomatch g,h0,aa;obtain⟨a,rfl⟩:=iy (a6.mp h0);have hl:a+k<=xs.length:=by exact(bE λaq=>bp.go (.c _ (.c _ (.c _ (.c _ .o)))) (.c 1 (.v 3) (.v 0) (.c 1 (.a (.v 2) (.v 1)) (.v 3) (.c 1 (.a (.v 0) (.n 1)) (.a (.v 2) (.v 1)) .o))) rfl he (a6.mp aa) (aX.mpr aq))
 have hr:(cE k).length<=1000000:=by rw[nd];exact(aB az (by decide))
 refine rX (M:=[]) (cE k) (λ(j:Nat)=>af.int j) (λ(j:Nat)=>af.int (((xs[a+j]?.getD 0).toNat:Int)*256^j)) rfl setU.1 hr (λ_w _w=>trivial) ?_ ?_
 ·intro j a8 aj u Q h;have a8:=yC.mp a8;have g':=u.aV setU.1 (cT (σ:=σ) (l:=sp) (o:=de (a+k) e)) (aA rfl);have hjx:a+j<xs.length:=by exact(aB (fH a8 _) hl)
  have gx:eI xs ((a:Int)+k-k+j)=some xs[a+j]:=by
   rw[uv];exact tS (k:=(a+j:Nat)) (cD _) (aX.mpr (aB (dA hjx) (aB ak (by decide)))) (jL hjx)
  have dN:0<=(j:Int)/\ (j:Int)<=1000/\ (-18446744073709551616:Int)<256/\ (256:Int)<18446744073709551616:=by exact⟨(cD _),⟨(a6.mp λaq=>bp.go (.c _ (.c _ .o)) (.c 1 (.a (.n 1000) (.n 1)) (.v 1) (.c 1 (.v 0) (.n 8) (.c 1 (.a (.v 1) (.n 1)) (.v 0) .o))) rfl aq (aX.mpr az) (aX.mpr a8)),⟨(by decide),(by decide)⟩⟩⟩
  nomatch g',gx,dN,RQ xs[a+j] (256^(j:Int).toNat);rw[jL hjx]at h;exact h aj u
 ·intro σ' u;have ei:intsOf ((cE k).map λ(j:Nat)=>af.int (((xs[a+j]?.getD 0).toNat:Int)*256^j))=some ((cE k).map λ(j:Nat)=>((xs[a+j]?.getD 0).toNat:Int)*256^j):=(congrArg intsOf oF.symm).trans (wI _);have hr':((cE k).map λ(j:Nat)=>af.int (((xs[a+j]?.getD 0).toNat:Int)*256^j)).length<=1000000:=lmap hr;nomatch ei,hr';rw[RP hl];exact hS _ (cD a) (a6.mp aa) (setU.nM u.push) (u.push.aV setU.1 cT (aA rfl))
end
noncomputable def dJ(v:Int):Prop:=Builtin.Int.intBits v<=7000000
theorem dJ.of{v:Int}{j:Nat}(a8:j<=900001)(h:v.natAbs<=128^j):dJ v:=by
 refine PySem.intBits_le_iff.mpr (cM h ?_);rw[show(128:Nat)=2^7 by decide,<-WR]at ⊢;exact Nat.pow_lt_pow_right (by decide) (by exact(dP λaq=>bj.go (.c _ .o) (.c 7 (.v 0) (.n 900001) (.c 1 (.n 7000000) (.m 7 (.v 0)) .o)) rfl a8 aq))
theorem dJ.mul{a b:Int}(aM:dJ a)(ae:dJ b):gV a b:=PyProof.Rows.mulOk_of_bits aM ae (by decide)
theorem dJ.small{v:Int}(h: -18446744073709551616<v/\ v<18446744073709551616):dJ v:=aB (kI h) (by decide)
theorem Ga{v:Int}{j:Nat}(a8:j<=900000)(h0: -(128^(j+1))<=v)(aa:v<=128^(j+1)):dJ v:=dJ.of (j:=j+1) (jn a8) (by
 rw[show(128:Int)^(j+1)=((128^(j+1):Nat):Int)from(ra 128 (j+1)).symm]at h0 aa
 exact rd _ h0 aa)
theorem AF{c:UInt8}{r:List UInt8}(h:c<128):ip (c::r)=some ((c.toNat:Int)%128,128,c,r):=if_pos h
noncomputable def comb(t w:Int)(x:Option (Int×Int×UInt8×List UInt8)):Option (Int×Int×UInt8×List UInt8):=x.map λy=>(t+w*y.1,w*y.2.1,y.2.2)
theorem Gb(x:Option (Int×Int×UInt8×List UInt8)):comb 0 1 x=x:=by
 cases x with
 |none=>rfl
 |some y=>exact congrArg some (by dsimp only;rw[qK,xH,xH])
theorem Gc{t w:Int}{c:UInt8}{r:List UInt8}(h:¬c<128):comb t w (ip (c::r))=comb (t+(c.toNat:Int)%128*w) (w*128) (ip r):=by
 rw[F7,if_neg h];cases ip r with
 |none=>rfl
 |some x=>exact congrArg some (by dsimp only;rw[xF,lY ((c.toNat:Int)%128) w,xG w 128,xG w 128,oh])
theorem se{c:UInt8}:c<128↔(c.toNat:Int)<128:=by rw[UInt8.lt_iff_toNat_lt];exact dR.symm
section
variable{n:Nat}{σ:ah}{Q:cR}{E:Nat->ah->Prop}
theorem take1{xs:List UInt8}{p:Nat}{c:UInt8}(h:xs[p]?=some c):le ((xs.drop p).take 1)=(c.toNat:Int):=by
 obtain⟨hl,e⟩:=jF.mp h;rw[oH hl,e];exact sq _
inductive RR (σ:ah) (xs:List UInt8) (sp p e:Nat) (s:Bool) (j:Nat) (ρ:aQ) (aj:ah) (t:Int):Prop
 |mk (r0:ρ 0=some (.bytes xs)) (bN:ρ 1=some (.loc sp)) (cu:ρ 2=some (.bool s)) (lJ:ρ 3=some (.int t)) (dh:ρ 4=some (.int (128^j))) (a8:p+j<=e) (u:aw [sp] σ aj) (g:aj.get sp=de (p+j:Nat) e) (t0:0<=t) (t1:t<128^j) (ar:ip (aR xs p e)=comb t (128^j) (ip (aR xs (p+j) e)))
theorem AG(j:Nat):(0:Int)<128^j:=BX (by decide)
theorem sf{t:Int}{j c:Nat}(a8:j<=900000)(t0:0<=t)(t1:t<128^j)(hc:c<128):(0<=t+(c:Int)*128^j/\ t+(c:Int)*128^j<128^(j+1))/\ dJ (t+(c:Int)*128^j)/\ dJ (t+(c:Int)*128^j-128^j*128):=by
 have hp:=AG j;have h0:0<=(c:Int)*128^j:=I7 (cD c) (fG hp);have aa:(c:Int)*128^j<=127*128^j:=Int.mul_le_mul_of_nonneg_right (by exact(a6.mp λaq=>bp.go (.c _ .o) (.c 1 (.a (.n 127) (.n 1)) (.v 0) (.c 1 (.a (.v 0) (.n 1)) (.n 128) .o)) rfl aq (aX.mpr hc))) (fG hp);have e:=u9 (128:Int) j;have lt:t+(c:Int)*128^j<128^(j+1):=dk (TN t1 aa) (aP ((Ji _).trans e.symm));refine⟨⟨fM t0 h0,lt⟩,Ga a8 (bG (Int.neg_nonpos_of_nonneg (fG (AG _))) (fM t0 h0)) (fG lt),Ga a8 (by exact(a6.mp λaq=>bp.go (.c _ (.c _ (.c _ (.c _ (.c _ (.c _ .o)))))) (.c 1 (.n 0) (.v 4) (.c 1 (.n 0) (.v 5) (.c 1 (.v 2) (.v 0) (.c 1 (.a (.v 3) (.n 1)) (.v 1) (.c 1 (.a (.v 4) (.v 5)) (.a (.v 3) (.v 2)) (.c 1 (.a (.v 1) (.v 0)) (.n 0) .o)))))) rfl t0 h0 (aP (bF e)) aq (aP (bF (dB _ _))) (aP (fy _)))) (bG (BY _ (I7 (fG hp) (by decide))) (fG lt))⟩
theorem AH{xs:List UInt8}{sp:Nat}{p:Int}{e:Nat}{s:Bool}(w:σ.bg)(g:σ.get sp=de p e)(ak:xs.length<=900000)(he:e<=xs.length)(hp:p= -1 \/(0<=p/\ p<=e))
  (hS:∀v (p':Nat) σ',0<=p->eB s (aR xs p.toNat e)=some (v,aR xs p' e)->p.toNat<p'->p'<=e->dJ v->aw [sp] σ σ'->σ'.get sp=de p' e->Q (.int v) σ')
  (hF:∀v σ',(0<=p->eB s (aR xs p.toNat e)=none)->dJ v->aw [sp] σ σ'->σ'.get sp=de (-1) e->Q (.int v) σ'):bH fn bk bl (n+2) 56 [.bytes xs,.loc sp,.bool s] σ Q E:=by
 refine bz rfl ?_;rcases hp with rfl|⟨hp0,hpe⟩
 ·nomatch w;refine lB (λ(a:Nat) ρ aj=>ρ 1=some (.loc sp)/\ aj=σ) id 0 ⟨rfl,rfl⟩ ?_;intro a ρ aj zz;refine zz.elim λbN e=>?_;clear zz;subst e;nomatch bN,g;exact hF 0 _ (λh=>absurd h (by decide)) (dJ.small (by decide)) (aw.refl w) g
 ·obtain⟨p,rfl⟩:=iy hp0;have hpe:=aX.mp hpe;nomatch w;refine lB (λ(j:Nat) ρ aj=>∃t,RR σ xs sp p e s j ρ aj t) (λj=>e-(p+j)) 0 ⟨0,rfl,rfl,rfl,rfl,rfl,hpe,.refl w,g,qL 0,(by decide),(Gb _).symm⟩ ?_;intro j ρ aj zz;refine zz.elim λt I=>?_;clear zz;have a8:=I.6;have hjx:j<=900000:=by exact(bE λaq=>bj.go (.c _ (.c _ (.c _ (.c _ .o)))) (.c 1 (.v 0) (.n 900000) (.c 1 (.v 1) (.v 0) (.c 1 (.a (.v 2) (.v 3)) (.v 1) (.c 1 (.a (.n 900000) (.n 1)) (.v 3) .o)))) rfl ak he a8 aq)
  have ar:=I.11;nomatch I.1,I.2,I.8,cD (p+j);refine qw (k:=1) I.7.1 I.8 ak (aX.mpr he) (by decide) (λaC h0 aa u2 g2=>?_) (λaC hn u2 g2=>?_)
  ·obtain⟨c,hc,hl⟩:=ui he (p:=p+j) (dR.mp aa);rw[fc,take1 hc];have m0:=lC (c.toNat:Int) (show(0:Int)<=128 by decide);have hm:gV ((c.toNat:Int).fmod 128) (128^j):=ni (kI (by exact⟨(eR.mp λaq=>bp.go (.c _ (.c _ .o)) (.c 1 (.v 1) (.v 0) (.c 1 (.v 0) (.n (-18446744073709551616)) (.c 1 (.n 0) (.v 1) .o))) rfl (aP (bF m0)) aq (fJ _ (by decide:(128:Int)≠0))),(eR.mp λaq=>bp.go (.c _ (.c _ .o)) (.c 1 (.v 1) (.v 0) (.c 1 (.n 18446744073709551616) (.v 1) (.c 1 (.a (.v 0) (.n 1)) (.n 128) .o))) rfl (aP m0) aq (fw _ (by decide:(0:Int)<128)))⟩));have gO:gV (128^j) 128:=yE (kI (by decide));rw[hl]at ar;have U2:=I.7.trans u2;by_cases hlt:(c.toNat:Int)<128
   ·rw[AF (se.mpr hlt)]at ar;have me:(c.toNat:Int)%128=c.toNat:=jE (cD _) hlt;rw[m0,me]at hm;rw[me]at m0 ar;obtain⟨_,b1,b2⟩:=sf hjx I.9 I.10 (dR.mp hlt);have key:∀v,(if s&&decide (c.toNat>63)then t+128^j*(c.toNat:Int)-128^j*128 else t+128^j*(c.toNat:Int))=v->dJ v->Q (.int v) aC:=λv ai ae=>
     hS v (p+j+1) aC hp0 (by rw[fc,eB,ar,<-ai];rfl) (uw (c8 p j)) (aX.mp aa) ae U2 g2
    rw[lY (128^j) (c.toNat:Int)]at key;cases s with
    |false=>
     nomatch I.1,I.2,I.3,I.4,I.5,m0,hlt,(m0.symm▸hm:gV ((c.toNat:Int).fmod 128) (128^j)),gO;rw[m0];exact key _ rfl b1
    |true=>
     by_cases h63:63<(c.toNat:Int)
     ·nomatch I.1,I.2,I.3,I.4,I.5,hlt,(m0.symm▸hm:gV ((c.toNat:Int).fmod 128) (128^j)),gO,h63;rw[m0];exact key _ (if_pos (decide_eq_true (dR.mp h63))) b2
     ·nomatch I.1,I.2,I.3,I.4,I.5,hlt,(m0.symm▸hm:gV ((c.toNat:Int).fmod 128) (128^j)),gO,h63;rw[m0];exact key _ (if_neg (λh=>h63 (dR.mpr (of_decide_eq_true h)))) b1
   ·rw[Gc (λh=>hlt (se.mp h))]at ar;have hc8:((c.toNat:Int)%128).toNat<128:=by exact(dP λaq=>bp.go (.c _ (.c _ .o)) (.c 1 (.n 128) (.v 1) (.c 1 (.a (.v 0) (.n 1)) (.n 128) (.c 1 (.v 1) (.v 0) .o))) rfl (aX.mpr aq) (fw _ (by decide:(0:Int)<128)) (aP (gD (a6.mp λz1=>bp.go (.c _ .o) (.c 1 (.a (.v 0) (.n 1)) (.n 0) (.c 1 (.n 0) (.v 0) .o)) rfl z1 (fJ _ (by decide:(128:Int)≠0))))))
    obtain⟨b0,_,_⟩:=sf hjx I.9 I.10 hc8;rw[gD (fJ _ (by decide))]at b0;nomatch I.1,I.2,I.3,I.4,I.5,hm,gO,hlt;rw[m0];exact⟨j+1,by have:=dR.mp aa;exact(dP λaq=>bj.go (.c _ (.c _ (.c _ (.c _ (.c _ .o))))) (.c 1 (.v 4) (.v 3) (.c 1 (.v 0) (.a (.v 4) (.a (.v 1) (.v 2))) (.c 1 (.a (.v 3) (.a (.v 1) (.a (.v 2) (.n 1)))) (.v 0) .o))) rfl aq (bb (bF (dU (bE λz1=>bj.go (.c _ (.c _ (.c _ .o))) (.c 1 (.a (.v 1) (.v 2)) (.v 0) (.c 1 (.a (.v 0) (.n 1)) (.a (.v 1) (.v 2)) .o)) rfl a8 z1)))) (bb (dU (bE λz1=>bj.go (.c _ (.c _ (.c _ .o))) (.c 1 (.a (.a (.v 1) (.v 2)) (.n 1)) (.v 0) (.c 1 (.a (.v 0) (.n 1)) (.a (.v 1) (.a (.v 2) (.n 1))) .o)) rfl this z1)))),_,I.1,I.2,I.3,rfl,rfl,aX.mp aa,U2,g2,b0.1,b0.2,ar⟩
  ·have hnil:aR xs (p+j) e=[]:=uh (bE λz=>hn ⟨cD _,aX.mpr z⟩);rw[hnil]at ar;have hnone:0<=(p:Int)->eB s (aR xs (p:Int).toNat e)=none:=λ_w=>by rw[fc,eB,ar];rfl
   have hm:gV ((0:Int).fmod 128) (128^j):=ni (by decide);have gO:gV (128^j) 128:=yE (kI (by decide));obtain⟨_,b1,b2⟩:=sf (c:=0) hjx I.9 I.10 (by decide);cases s with
   |false=>
    nomatch I.1,I.2,I.3,I.4,I.5,hm,gO;exact hF _ _ hnone b1 (I.7.trans u2) g2
   |true=>
    nomatch I.1,I.2,I.3,I.4,I.5,hm,gO;exact hF _ _ hnone b1 (I.7.trans u2) g2
end
noncomputable abbrev eC(xs:List UInt8)(p e:Int):cv:=.inst 0 [(0,.bytes xs),(1,.int p),(2,.int e)]
theorem RS{α:Type}{xs:List α}{a b:Nat}(aa:a<=b)(h2:b<=xs.length):cut (some (a:Int)) (some (b:Int)) xs=(xs.drop a).take (b-a):=by
 show(xs.drop (jm xs.length a)).take (jm xs.length b-jm xs.length a)=_;rw[I8,I8,qZ h2,qZ (aB aa h2)]
section
variable{n:Nat}{σ:ah}{Q:cR}{E:Nat->ah->Prop}{xs:List UInt8}{l p e:Nat}
inductive eD(σ:ah)(l:Nat)(xs:List UInt8)(p e:Nat):Prop
 |mk (g:σ.get l=eC xs p e) (ak:xs.length<=100000) (he:e<=xs.length) (hp:p<=e)
theorem eD.to{σ':ah}{p':Nat}(O:eD σ l xs p e)(g:σ'.get l=eC xs p' e)(h:p'<=e):eD σ' l xs p' e:=⟨g,O.2,O.3,h⟩
theorem w9{k:Nat}(O:eD σ l xs p e)(hS:p+k<=e->Q (.bytes ((xs.drop p).take k)) (σ.set l (eC xs (p+k:Nat) e)))(hF:¬p+k<=e->E 0 σ):bH fn bk bl (n+1) 2 [.loc l,.int k] σ Q E:=by
 refine bz rfl ?_;have g:=O.1;have hk0:=cD k;have:=O.2;have:=O.3;by_cases az:p+k<=e
 ·have hk':(k:Int)<=(e:Int)-(p:Int):=Int.le_sub_left_of_add_le (aX.mpr az);have c:xs.length<=1000000:=aB O.2 (by decide);nomatch g,hk0,hk',c;have e1:((p:Int)+(k:Int)-(k:Int))=p:=uv ..;rw[e1,show(p:Int)+(k:Int)=((p+k:Nat):Int)from rfl,RS (c8 ..) (aB az O.3),UZ];exact hS az
 ·have hk':¬(k:Int)<=(e:Int)-(p:Int):=λh=>az (aX.mp (Int.add_le_of_le_sub_left h));nomatch g,hk0,hk';exact hF az
theorem xa(w:σ.bg)(O:eD σ l xs p e)(hS:∀c,aR xs p e=c::aR xs (p+1) e->p+1<=e-> ∀σ',aw [l] σ σ'->σ'.get l=eC xs (p+1:Nat) e->Q (.int c.toNat) σ')(hF:aR xs p e=[]->E 0 σ):bH fn bk bl (n+2) 3 [.loc l] σ Q E:=by
 refine bz rfl ?_;nomatch O.1;refine w9 (k:=1) O (λaa=>?_) λaa=>hF (uh (bE aa));obtain⟨c,hc,hl⟩:=ui O.3 (p:=p) aa;obtain⟨hlt,ec⟩:=jF.mp hc;have:(xs.drop p).take 1=[c]:=by rw[oH hlt,ec];rfl
 rw[this];nomatch hc;exact hS c hl aa _ ((aw.refl w).set (.inl (.head _)) (w.lt O.1 (aA rfl))) cT
theorem sg{k:Nat}(he:e<=xs.length)(h:p+k<=e):dc k (aR xs p e)=some (le ((xs.drop p).take k),aR xs (p+k) e):=by
 rw[dc,if_pos (by rw[F8 he];exact(bE λaq=>bj.go (.c _ (.c _ (.c _ (.c _ .o)))) (.c 1 (.a (.v 1) (.v 2)) (.v 0) (.c 1 (.a (.v 3) (.n 1)) (.v 2) (.c 1 (.v 0) (.a (.v 3) (.v 1)) .o))) rfl h aq (bb (bF (dU (bE λz1=>bj.go (.c _ (.c _ (.c _ .o))) (.c 1 (.a (.v 1) (.v 2)) (.v 0) (.c 1 (.a (.v 0) (.n 1)) (.v 1) .o)) rfl h z1)))))),RN,RO h]
theorem xb{k:Nat}(he:e<=xs.length)(h0:p<=e)(h:¬p+k<=e):dc k (aR xs p e)=none:=by
 rw[dc,if_neg (by rw[F8 he];exact(λaq=>bj.go (.c _ (.c _ (.c _ (.c _ .o)))) (.c 1 (.a (.v 0) (.n 1)) (.a (.v 1) (.v 3)) (.c 1 (.v 3) (.v 2) (.c 1 (.a (.v 2) (.v 1)) (.v 0) .o))) rfl (dP h) aq (bb (dU (bE λz1=>bj.go (.c _ (.c _ .o)) (.c 1 (.v 1) (.v 0) (.c 1 (.a (.v 0) (.n 1)) (.v 1) .o)) rfl h0 z1)))))]
theorem Gd:∀(bs:List UInt8),0<=le bs/\ le bs<256^bs.length:=by
 intro bs
 induction bs with
 |nil=>
  exact⟨qL 0,by decide⟩
 |cons c r ih=>
  have:=ih;have hc:=c.toNat_lt;show 0<=(c.toNat:Int)+256*le r/\ (c.toNat:Int)+256*le r<_;rw[mi,u9,lY _ 256];exact⟨fM (cD _) (I7 (by decide) this.1),dk (A9 (dR.mpr hc) _) (bG (aP (ps _ _)) (bG (aP (xF 256 (le r) 1).symm) (TL (Hb this.2) (by decide))))⟩
theorem AI{k:Nat}(az:k<=8){bs:List UInt8}(h:bs.length<=k):0<=le bs/\ le bs<18446744073709551616:=
 ⟨(Gd bs).1,dk (Gd bs).2 (by
  have:=IX (show 0<256 by decide) (aB h az)
  have e:(256:Int)^bs.length=((256^bs.length:Nat):Int):=(ra 256 _).symm
  rw[e];exact aX.mpr this)⟩
theorem xc{k f:Nat}(ae:fn f=some ⟨[0],[.ret (.fromBytes (.aS (.var 0) 1 [.lit (.int k)]))]⟩)(az:k<=8)(w:σ.bg)(O:eD σ l xs p e)
  (hS:∀v,dc k (aR xs p e)=some (v,aR xs (p+k) e)->p+k<=e->0<=v/\ v<18446744073709551616-> ∀σ',aw [l] σ σ'->σ'.get l=eC xs (p+k:Nat) e->Q (.int v) σ')(hF:dc k (aR xs p e)=none->E 0 σ):bH fn bk bl (n+2) f [.loc l] σ Q E:=by
 refine bz ae ?_;nomatch O.1;refine w9 (k:=k) O (λaa=>?_) λaa=>hF (xb O.3 O.4 aa);have hl:((xs.drop p).take k).length<=k:=yG ..;nomatch aB hl az;exact hS _ (sg O.3 aa) aa (AI az hl) _ ((aw.refl w).set (.inl (.head _)) (w.lt O.1 (aA rfl))) cT
theorem uj(j:Nat):(128:Int)^j=((2^(7*j):Nat):Int):=by
 rw[WR];exact(ra 128 j).symm
inductive RT (σ:ah) (l:Nat) (xs:List UInt8) (p e j:Nat) (ρ:aQ) (aj:ah) (t:Int):Prop
 |mk (r0:ρ 0=some (.loc l)) (bN:ρ 1=some (.int t)) (cu:ρ 2=some (.int (7*j:Nat))) (O:eD aj l xs (p+j) e) (u:aw [l] σ aj) (t0:0<=t) (t1:t<128^j) (ar:ip (aR xs p e)=comb t (128^j) (ip (aR xs (p+j) e)))
theorem Ge(w:σ.bg)(O:eD σ l xs p e)
  (hS:∀(t:Int) (j:Nat) (c:UInt8) σ',ip (aR xs p e)=some (t+(c.toNat:Int)*128^j,128^j*128,c,aR xs (p+(j+1)) e)->p+(j+1)<=e->0<=t->t<128^j->c.toNat<128->aw [l] σ σ'->σ'.get l=eC xs (p+(j+1):Nat) e->Q (.int (t+(c.toNat:Int)*128^j)) σ')
  (hF:∀σ',ip (aR xs p e)=none->aw [l] σ σ'->E 0 σ'):bH fn bk bl (n+3) 6 [.loc l] σ Q E:=by
 refine bz rfl ?_;nomatch w;refine lB (λ(j:Nat) ρ aj=>∃t,RT σ l xs p e j ρ aj t) (λj=>e-(p+j)) 0 ⟨0,rfl,rfl,rfl,O,.refl w,qL 0,(by decide),(Gb _).symm⟩ ?_;intro j ρ aj zz;refine zz.elim λt I=>?_;clear zz;have ar:=I.8;have a8:j<=100000:=aB (aB (va j p) I.4.4) (aB I.4.3 I.4.2);nomatch I.1,I.4.1;refine xa I.5.1 I.4 (λc hl aa aC u2 g2=>?_) λhnil=>hF aj (by rw[ar,hnil];rfl) I.5;have hc8:=c.toNat_lt;have ia:∀x:Int,0<=x/\ x<256->(0<=((7*j:Nat):Int)/\ ((7*j:Nat):Int)<=1000000/\ -18446744073709551616<x/\ x<18446744073709551616):=λx h=>⟨cD _,aX.mpr (aB (ur 7 a8) (by decide)),dk (by decide) h.1,kP h.2 (by decide)⟩;have ebor:Builtin.bitOr t ((c.toNat:Int)%128*2^(7*j))=t+(c.toNat:Int)%128*128^j:=by
  have aa:=Fm (a:=t) (k:=7*j) I.6 (by rw[<-uj];exact I.7) (c.toNat%128);have h2:((2^(7*j)*(c.toNat%128):Nat):Int)=(c.toNat:Int)%128*128^j:=by rw[Int.natCast_mul,<-uj,lY];rfl
  have h3:(c.toNat:Int)%128*2^(7*j)=(c.toNat:Int)%128*128^j:=by rw[uj,ra];rfl
  rw[h2]at aa;rw[h3];exact aa
 rw[hl]at ar;have U2:=I.5.trans u2;by_cases hlt:(c.toNat:Int)<128
 ·rw[AF (se.mpr hlt)]at ar;rw[jE (cD _) hlt]at ebor ar;have eb:Builtin.bitAnd (c.toNat:Int) 127=c.toNat:=(wK _).trans (jE (cD _) hlt);have s1:=ia (Builtin.bitAnd (c.toNat:Int) 127) (by rw[eb];exact⟨(a6.mp λaq=>bp.go (.c _ .o) (.c 1 (.a (.v 0) (.n 1)) (.n 0) (.c 1 (.n 0) (.v 0) .o)) rfl aq (cD _)),(eR.mp λaq=>bp.go (.c _ .o) (.c 1 (.a (.v 0) (.n 1)) (.n 128) (.c 1 (.n 256) (.v 0) .o)) rfl hlt aq)⟩);nomatch I.1,I.2,I.3,s1,hlt;rw[eb];show Q (.int (Builtin.bitOr t ((c.toNat:Int)*2^(7*j)))) aC;rw[ebor];exact hS t j c aC (by rw[ar,lY (c.toNat:Int)];rfl) aa I.6 I.7 (dR.mp hlt) U2 g2
 ·rw[Gc (λh=>hlt (se.mp h))]at ar;have eb:=wK (c.toNat:Int);have s1:=ia (Builtin.bitAnd (c.toNat:Int) 127) (by rw[eb];exact⟨(a6.mp λaq=>bp.go (.c _ .o) (.c 1 (.a (.v 0) (.n 1)) (.n 0) (.c 1 (.n 0) (.v 0) .o)) rfl aq (fJ _ (by decide:(128:Int)≠0))),(eR.mp λaq=>bp.go (.c _ .o) (.c 1 (.n 256) (.v 0) (.c 1 (.a (.v 0) (.n 1)) (.n 128) .o)) rfl aq (fw _ (by decide:(0:Int)<128)))⟩);have hc8:((c.toNat:Int)%128).toNat<128:=by exact(dP λaq=>bp.go (.c _ (.c _ .o)) (.c 1 (.n 128) (.v 1) (.c 1 (.a (.v 0) (.n 1)) (.n 128) (.c 1 (.v 1) (.v 0) .o))) rfl (aX.mpr aq) (fw _ (by decide:(0:Int)<128)) (aP (gD (a6.mp λz1=>bp.go (.c _ .o) (.c 1 (.a (.v 0) (.n 1)) (.n 0) (.c 1 (.n 0) (.v 0) .o)) rfl z1 (fJ _ (by decide:(128:Int)≠0))))))
  obtain⟨b0,_,_⟩:=sf (aB a8 (by decide)) I.6 I.7 hc8;rw[gD (fJ _ (by decide))]at b0;nomatch I.1,I.2,I.3,s1,hlt;refine⟨j+1,by have:=I.4.4;exact(dP λaq=>bj.go (.c _ (.c _ (.c _ (.c _ (.c _ .o))))) (.c 1 (.v 4) (.v 3) (.c 1 (.v 2) (.a (.v 4) (.a (.v 1) (.v 0))) (.c 1 (.a (.v 3) (.a (.v 1) (.a (.v 0) (.n 1)))) (.v 2) .o))) rfl aq (bb (bF (dU (bE λz1=>bj.go (.c _ (.c _ (.c _ .o))) (.c 1 (.a (.a (.v 1) (.v 0)) (.n 1)) (.v 2) (.c 1 (.a (.v 2) (.n 1)) (.a (.v 1) (.v 0)) .o)) rfl aa z1)))) (bb (dU (bE λz1=>bj.go (.c _ (.c _ (.c _ .o))) (.c 1 (.a (.a (.v 1) (.v 0)) (.n 1)) (.v 2) (.c 1 (.a (.v 2) (.n 1)) (.a (.v 1) (.a (.v 0) (.n 1))) .o)) rfl aa z1)))),_,I.1,?_,rfl,O.to g2 aa,U2,b0.1,b0.2,ar⟩;show some (af.int (Builtin.bitOr t (Builtin.bitAnd (c.toNat:Int) 127*2^(7*j))))=_;rw[eb,ebor]
end
section
variable{n:Nat}{σ:ah}{Q:cR}{E:Nat->ah->Prop}{xs:List UInt8}{l p e:Nat}
theorem Gf(p j:Nat):p<p+(j+1):=jp (mY j)
theorem eD.j{j:Nat}(O:eD σ l xs p e)(h:p+(j+1)<=e):j<=900000:=aB (aB (aB (gh j) (va _ p)) h) (aB O.3 (aB O.2 (by decide)))
theorem gS(w:σ.bg)(O:eD σ l xs p e)
  (hS:∀(v:Int) (p':Nat) σ',eB false (aR xs p e)=some (v,aR xs p' e)->p<p'->p'<=e->dJ v->aw [l] σ σ'->σ'.get l=eC xs p' e->Q (.int v) σ')
  (hF:∀σ',eB false (aR xs p e)=none->aw [l] σ σ'->E 0 σ'):bH fn bk bl (n+3) 6 [.loc l] σ Q E:=
 Ge w O (λt j c σ' ar aa t0 t1 hc u g'=>hS _ _ σ' (congrArg (a7 _) ar) (Gf p j) aa (sf (O.j aa) t0 t1 hc).2.1 u g') λσ' ar u=>hF σ' (congrArg (a7 _) ar) u
theorem Gg{t:Int}{j c:Nat}(t0:0<=t)(t1:t<128^j):(t+(c:Int)*128^j).fdiv (128^j*64)=(c:Int)/64:=by
 have hp:=AG j;rw[tT _ (fG (Int.mul_pos hp (by decide))),<-WS (fG hp),Int.add_mul_ediv_right _ _ (Wz hp),Int.ediv_eq_zero_of_lt t0 t1,qK]
theorem uk(w:σ.bg)(O:eD σ l xs p e)
  (hS:∀(v:Int) (p':Nat) σ',eB true (aR xs p e)=some (v,aR xs p' e)->p<p'->p'<=e->dJ v->aw [l] σ σ'->σ'.get l=eC xs p' e->Q (.int v) σ')
  (hF:∀σ',eB true (aR xs p e)=none->aw [l] σ σ'->E 0 σ'):bH fn bk bl (n+4) 7 [.loc l] σ Q E:=by
 refine bz rfl ?_;nomatch O.1;refine Ge w O (λt j c σ' ar aa t0 t1 hc u g'=>?_) λσ' ar u=>hF σ' (congrArg (a7 _) ar) u;obtain⟨_,b1,b2⟩:=sf (O.j aa) t0 t1 hc;have a8:=O.j aa;have e1:(7:Int)*(((p+(j+1):Nat):Int)-(p:Int))=((7*(j+1):Nat):Int):=by rw[uR p];exact congrArg (7*·) (uv ((j+1:Nat):Int) (p:Int))
 have e16:(7:Int)*(((p+(j+1):Nat):Int)-(p:Int))-1=((7*j+6:Nat):Int):=by rw[e1];exact uv ((7*j+6:Nat):Int) 1
 have hm7:gV 7 (((p+(j+1):Nat):Int)-(p:Int)):=ni (by decide);have s1:(0:Int)<=(7:Int)*(((p+(j+1):Nat):Int)-(p:Int))-1:=by rw[e16];exact cD (7*j+6)
 have s2:0<=(7:Int)*(((p+(j+1):Nat):Int)-(p:Int))/\ (7:Int)*(((p+(j+1):Nat):Int)-(p:Int))<=1000000/\ (-18446744073709551616:Int)<1/\ (1:Int)<18446744073709551616:=⟨by exact(fG (eZ s1 (aP (dB _ _)))),by rw[e1];exact aX.mpr (aB (ur 7 (aB (aB (va (j+1) p) aa) (aB O.3 O.2))) (by decide)),by decide⟩;have cz:((7:Int)*(((p+(j+1):Nat):Int)-(p:Int))-1).toNat=7*j+6:=by rw[e16];rfl
 have ew:(1:Int)*2^(((7:Int)*(((p+(j+1):Nat):Int)-(p:Int))).toNat)=128^j*128:=by rw[e1,fc,xH,<-u9,uj,ra];rfl
 have e6:(2:Int)^(((7:Int)*(((p+(j+1):Nat):Int)-(p:Int))-1).toNat)=128^j*64:=by rw[cz,WK,uj,ra];rfl
 have fin:=hS _ _ σ' (congrArg (a7 _) ar) (Gf p j) aa;by_cases h63:c.toNat>63
 ·have d:(t+(c.toNat:Int)*128^j).fdiv (2^(((7:Int)*(((p+(j+1):Nat):Int)-(p:Int))-1).toNat))=1:=by rw[e6,Gg t0 t1];exact congrArg lX (B1 h63 hc)
  nomatch g',hm7,s1,s2,d;rw[ew];rw[show(true&&decide (c.toNat>63))=true from decide_eq_true h63]at fin;exact fin b2 u g'
 ·have d:¬(t+(c.toNat:Int)*128^j).fdiv (2^(((7:Int)*(((p+(j+1):Nat):Int)-(p:Int))-1).toNat))=1:=by rw[e6,Gg t0 t1];exact(λaq=>bp.go (.c _ (.c _ (.c _ .o))) (.c 64 (.n 1) (.v 1) (.c 1 (.v 0) (.n 63) (.c 1 (.a (.m 64 (.v 1)) (.v 2)) (.v 0) (.c 1 (.n 0) (.v 2) .o)))) rfl (aP (bF aq)) (aX.mpr (bE h63)) (aP (mj _ _)) (fJ _ (by decide:(64:Int)≠0)))
  nomatch g',hm7,s1,d;rw[show(true&&decide (c.toNat>63))=false from decide_eq_false h63]at fin;exact fin b1 u g'
end
noncomputable abbrev cs:List UInt8:=[0,1,2,3,4,5,6,7,8,9,10,11,12,13,14,17,18,19,20,21]
theorem RU{α:Type}{x:UInt8}:∀{l:List (UInt8×α)},(∀k∈l.map (·.1),x≠k)->pk x l=none:=by
 intro l
 induction l with
 |nil=>
  intro _;exact rfl
 |cons e r ih=>
  intro h;exact(if_neg (h _ (.head _))).trans (ih λk az=>h k (.tail _ az))
theorem AJ{α:Type}{x:UInt8}{a:α}:∀{l:List (UInt8×α)},pk x l=some a->(x,a)∈l
 |(y,b)::r,h=>by
  by_cases e:x=y
  ·rw[e,cW ((if_pos e).symm.trans h)];exact .head _
  ·exact .tail _ (AJ ((if_neg e).symm.trans h))
theorem RV{M:UInt8->Prop}(h64:∀x,64<=x.toNat->M x)(m0:M 0)(m1:M 1)(m2:M 2)(m3:M 3)(m4:M 4)(m5:M 5)(m6:M 6)(m7:M 7)(m8:M 8)(m9:M 9)(m10:M 10)(m11:M 11)(m12:M 12)(m13:M 13)(m14:M 14)(m17:M 17)(m18:M 18)(m19:M 19)(m20:M 20)(m21:M 21)
  (rest:∀x,¬64<=x.toNat->(∀k∈cs,x≠k)->M x)(x:UInt8):M x:=by
 by_cases h:64<=x.toNat
 ·exact h64 x h
 by_cases hc:x∈cs
 ·have hm:∀k∈cs,M k:=by
   iterate 20 refine c1.mpr ⟨by assumption,?_⟩
   exact λ_w h=>nomatch h
  exact hm x hc
 ·exact rest x h λk az e=>hc (e▸az)
theorem n7{x:UInt8}{k:Int}(az:∀k∈cs,x≠k)(h:∃u∈cs,k=(u.toNat:Int)):(x.toNat:Int)≠k:=
 h.elim λu zz=>zz.elim λhu e=>λq=>az u hu (It.mp (na.mp (q.trans e)))
theorem Gh{x:UInt8}{l:List Int}(az:∀k∈cs,x≠k)(h:∀k∈l,∃u∈cs,k=(u.toNat:Int)):¬(x.toNat:Int)∈l:=λq=>n7 az (h _ q) rfl
section
variable{c d:Int}{r bN cu:List UInt8}{s s':fX}{v y:Int}
theorem lM(h:hx c d s r=some (v,bN)):gu c d [s] r=some ([v],bN):=congrArg (nj · _) h
theorem mM(h:hx c d s r=none):gu c d [s] r=none:=congrArg (nj · _) h
theorem qy(h:hx c d s r=some (v,bN))(h':hx c d s' bN=some (y,cu)):gu c d [s,s'] r=some ([v,y],cu):=by
 exact(congrArg (nj · _) h).trans (congrArg (a7 _) (lM h'))
theorem qz(h:hx c d s r=none):gu c d [s,s'] r=none:=congrArg (nj · _) h
theorem qA(h:hx c d s r=some (v,bN))(h':hx c d s' bN=none):gu c d [s,s'] r=none:=by
 exact(congrArg (nj · _) h).trans (congrArg (a7 _) (mM h'))
theorem xd{y:UInt8}:dc 1 (y::r)=some ((y.toNat:Int),r):=by
 rw[dc,if_pos (show 1<=(y::r).length from jn (du _))];exact congrArg (λz=>some (z,r)) (sq _)
end
section
variable{n:Nat}{σ:ah}{Q:cR}{E:Nat->ah->Prop}{xs:List UInt8}{l p e:Nat}
theorem RW{cl:Nat}{c d rr:Int}{ov ax:af}(w:σ.bg)(O:eD σ l xs p e)(gc:σ.get cl=ez c d rr ov)(hcl:cl≠l)(bd:dJ d)
  (hS:∀(o:Op) (p':Nat) σ',eX c d (aR xs p e)=some (o,aR xs p' e)->p<p'->p'<=e->aw [l] σ σ'->σ'.get l=eC xs p' e->Q o.v σ')
  (hF:∀σ',eX c d (aR xs p e)=none->aw [l] σ σ'->E 0 σ'):bH fn bk bl (n+6) 38 [.loc l,.loc cl,ax] σ Q E:=by
 refine bz rfl ?_;nomatch O.1;refine xa w O (λx hl aa aJ u1 g1=>?_) λhnil=>hF σ (by rw[hnil];rfl) (aw.refl w);have gc1:=u1.at w gc (aA rfl) (cI hcl);have O1:=O.to g1 aa;have w1:=u1.1;have cAt:∀{aC:ah},aw [l] aJ aC->aC.get cl=ez c d rr ov:=λu=>u.at w1 gc1 (aA rfl) (cI hcl);have hS1:∀(o:Op)(p':Nat) σ',eX c d (x::aR xs (p+1) e)=some (o,aR xs p' e)->p+1<=p'->p'<=e->aw [l] aJ σ'->σ'.get l=eC xs p' e->Q o.v σ':=λo p' σ' h a b u g=>hS o p' σ' (hl.symm▸h) a b (u1.trans u) g;have hF1:∀σ',eX c d (x::aR xs (p+1) e)=none->aw [l] aJ σ'->E 0 σ':=λσ' h u=>hF σ' (hl.symm▸h) (u1.trans u);have bN:=aw.refl w1 (M:=[l]);have sm:∀{a:Int}(b:Int),0<=a->a<18446744073709551616->gV a b:=λb h h'=>ni (kI ⟨dk (by decide) h,h'⟩);have gp:∀{aC:ah}{p':Nat}{o:cv},aw [l] aJ aC->aC.get l=eC xs p' e->(aC.push o).get l=eC xs p' e:=λu g=>dw (bq (u.1.lt g (aA rfl))) g;clear hS hF u1 O gc;have hx8:=x.toNat_lt;clear hl
 revert x
 refine RV ?_ ?_ ?_ ?_ ?_ ?_ ?_ ?_ ?_ ?_ ?_ ?_ ?_ ?_ ?_ ?_ ?_ ?_ ?_ ?_ ?_ ?_
 ·intro x h64 hS1 hF1 hx8;have bM:(64:Int)<=(x.toNat:Int):=aX.mpr h64;nomatch bM;refine bz rfl ?_;have esh:(x.toNat:Int).fdiv (2^(6:Int).toNat)=(x.toNat:Int)/64:=tT _ (by decide);have eb:=Qt (x.toNat:Int);by_cases h192:192<=x.toNat
  ·have fp:¬(x.toNat:Int).fdiv (2^(6:Int).toNat)=1:=by rw[esh];exact(λaq=>bp.go (.c _ (.c _ (.c _ .o))) (.c 64 (.v 1) (.n 1) (.c 1 (.n 192) (.v 2) (.c 1 (.v 2) (.a (.m 64 (.v 1)) (.v 0)) (.c 1 (.a (.v 0) (.n 1)) (.n 64) .o)))) rfl (aP aq) (aX.mpr h192) (aP (bF (mj _ _))) (fw _ (by decide:(0:Int)<64)))
   have lu:¬(x.toNat:Int).fdiv (2^(6:Int).toNat)=2:=by rw[esh];exact(λaq=>bp.go (.c _ (.c _ (.c _ .o))) (.c 64 (.v 1) (.n 2) (.c 1 (.n 192) (.v 2) (.c 1 (.v 2) (.a (.m 64 (.v 1)) (.v 0)) (.c 1 (.a (.v 0) (.n 1)) (.n 64) .o)))) rfl (aP aq) (aX.mpr h192) (aP (bF (mj _ _))) (fw _ (by decide:(0:Int)<64)))
   nomatch fp,lu;rw[eb,show(x.toNat:Int)%64=(x.toNat:Int)-192 by rw[yF,Jg (congrArg lX (B1 (k:=3) h192 hx8))];rfl];exact hS1 (.rest (x.toNat-192)) (p+1) aJ (if_pos h192) (bI _) aa bN g1
  by_cases h128:128<=x.toNat
  ·have fp:¬(x.toNat:Int).fdiv (2^(6:Int).toNat)=1:=by rw[esh];exact(λaq=>bp.go (.c _ (.c _ (.c _ .o))) (.c 64 (.v 1) (.n 1) (.c 1 (.n 128) (.v 2) (.c 1 (.v 2) (.a (.m 64 (.v 1)) (.v 0)) (.c 1 (.a (.v 0) (.n 1)) (.n 64) .o)))) rfl (aP aq) (aX.mpr h128) (aP (bF (mj _ _))) (fw _ (by decide:(0:Int)<64)))
   have lu:(x.toNat:Int).fdiv (2^(6:Int).toNat)=2:=by rw[esh];exact congrArg lX (B1 (k:=2) h128 (dP h192))
   have cJ:eX c d (x::aR xs (p+1) e)=(eB false (aR xs (p+1) e)).map λy=>(.off (x.toNat-128) (y.1*d),y.2):=(if_neg h192).trans (if_pos h128);nomatch fp,lu,g1;refine gS w1 O1 (λv p' aC hr hp hp2 ae u2 g2=>?_) λaC hr u2=>hF1 aC (cJ.trans (congrArg (a7 _) hr)) u2;nomatch cAt u2,ae.mul bd;rw[eb,show(x.toNat:Int)%64=(x.toNat:Int)-128 by exact(kY (a6.mp λaq=>bp.go (.c _ (.c _ (.c _ (.c _ (.c _ .o))))) (.c 64 (.v 3) (.v 1) (.c 64 (.n 2) (.v 3) (.c 1 (.a (.v 4) (.n 1)) (.v 2) (.c 1 (.a (.m 64 (.v 1)) (.v 2)) (.v 0) (.c 1 (.v 0) (.a (.v 4) (.n 128)) .o))))) rfl (aP esh) (aP (bF lu)) aq (aP (mj _ _)) (aP (bF (dB _ _)))) (a6.mp λaq=>bp.go (.c _ (.c _ (.c _ (.c _ (.c _ .o))))) (.c 64 (.v 4) (.v 3) (.c 64 (.v 3) (.n 2) (.c 1 (.a (.v 2) (.n 1)) (.v 1) (.c 1 (.v 0) (.a (.m 64 (.v 4)) (.v 2)) (.c 1 (.a (.v 1) (.n 128)) (.v 0) .o))))) rfl (aP (bF esh)) (aP lu) aq (aP (bF (mj _ _))) (aP (dB _ _))))];exact hS1 (.off (x.toNat-128) (v*d)) p' aC (cJ.trans (congrArg (a7 _) hr)) (dA hp) hp2 u2 g2
  ·have fp:(x.toNat:Int).fdiv (2^(6:Int).toNat)=1:=by rw[esh];exact congrArg lX (B1 (k:=1) h64 (dP h128))
   rw[show(x.toNat:Int)%64=(x.toNat:Int)-64 by exact(kY (a6.mp λaq=>bp.go (.c _ (.c _ (.c _ (.c _ (.c _ .o))))) (.c 64 (.v 3) (.v 1) (.c 64 (.n 1) (.v 3) (.c 1 (.a (.v 4) (.n 1)) (.v 2) (.c 1 (.a (.m 64 (.v 1)) (.v 2)) (.v 0) (.c 1 (.v 0) (.a (.v 4) (.n 64)) .o))))) rfl (aP esh) (aP (bF fp)) aq (aP (mj _ _)) (aP (bF (dB _ _)))) (a6.mp λaq=>bp.go (.c _ (.c _ (.c _ (.c _ (.c _ .o))))) (.c 64 (.v 4) (.v 3) (.c 64 (.v 3) (.n 1) (.c 1 (.a (.v 2) (.n 1)) (.v 1) (.c 1 (.v 0) (.a (.m 64 (.v 4)) (.v 2)) (.c 1 (.a (.v 1) (.n 64)) (.v 0) .o))))) rfl (aP (bF esh)) (aP fp) aq (aP (bF (mj _ _))) (aP (dB _ _))))]at eb;have hm:gV (Builtin.bitAnd (x.toNat:Int) 63) c:=sm c (by rw[eb];exact(a6.mp λaq=>bp.go (.c _ (.c _ .o)) (.c 1 (.a (.v 0) (.n 1)) (.n 0) (.c 1 (.n 64) (.v 1) (.c 1 (.v 1) (.a (.v 0) (.n 64)) .o))) rfl aq (aX.mpr h64) (aP (bF (dB _ _))))) (by rw[eb];exact eZ (BY _ (by decide)) (kP (dR.mpr hx8) (by decide)));nomatch fp,gc1,hm;rw[eb];exact hS1 (.dG ((x.toNat-64)*c)) (p+1) aJ ((if_neg h192).trans ((if_neg h128).trans (if_pos h64))) (bI _) aa bN g1
 ·intro hS1 hF1 _;nomatch w1;exact hS1 .iM (p+1) _ rfl (bI _) aa bN.push (gp bN g1)
 ·intro hS1 hF1 _;nomatch w1;refine bz rfl ?_;nomatch g1;refine xc (k:=4) rfl (by decide) w1 O1 (λv hr hp ai aC u2 g2=>?_) λhr=>hF1 aJ (congrArg (a7 _) (mM (s:=.w) hr)) bN;nomatch cAt u2;exact hS1 (.loc v) _ aC (congrArg (a7 _) (lM (s:=.w) hr)) (c8 ..) hp u2 g2
 ·intro hS1 hF1 _;nomatch w1;refine bz rfl ?_;nomatch g1;refine xa w1 O1 (λy hl2 h2 aC u2 g2=>?_) λhnil=>hF1 aJ (by rw[hnil];rfl) bN;nomatch cAt u2,sm c (cD _) (dk (dR.mpr y.toNat_lt) (by decide));exact hS1 (.dG (y.toNat*c)) _ aC (congrArg (a7 _) (lM (s:=.dv) (c:=c) (d:=d) (v:=y.toNat*c) (show a7 _ (dc 1 _)=_ by rw[hl2,xd];rfl))) (gh _) h2 u2 g2
 ·intro hS1 hF1 _;nomatch w1;refine bz rfl ?_;nomatch g1;refine xc (k:=2) rfl (by decide) w1 O1 (λv hr hp ai aC u2 g2=>?_) λhr=>hF1 aJ (congrArg (a7 _) (mM (s:=.cS) (congrArg (a7 _) hr))) bN;nomatch cAt u2,sm c ai.1 ai.2;exact hS1 (.dG (v*c)) _ aC (congrArg (a7 _) (lM (s:=.cS) (congrArg (a7 _) hr))) (c8 ..) hp u2 g2
 ·intro hS1 hF1 _;nomatch w1;refine bz rfl ?_;nomatch g1;refine xc (k:=4) rfl (by decide) w1 O1 (λv hr hp ai aC u2 g2=>?_) λhr=>hF1 aJ (congrArg (a7 _) (mM (s:=.fR) (congrArg (a7 _) hr))) bN;nomatch cAt u2,sm c ai.1 ai.2;exact hS1 (.dG (v*c)) _ aC (congrArg (a7 _) (lM (s:=.fR) (congrArg (a7 _) hr))) (c8 ..) hp u2 g2
 ·intro hS1 hF1 _;nomatch w1;refine bz rfl ?_;nomatch g1;refine gS w1 O1 (λv p' aC hr hp hp2 ae u2 g2=>?_) λaC hr u2=>hF1 aC (congrArg (a7 _) (qz (s:=.u) (s':=.d) hr)) u2;nomatch g2;refine gS u2.1 (O1.to g2 hp2) (λy p2 aU hr2 hp3 hp4 hb2 u3 g3=>?_) λaU hr2 u3=>hF1 aU (congrArg (a7 _) (qA (s:=.u) (s':=.d) hr (congrArg (a7 _) hr2))) (u2.trans u3);nomatch cAt (u2.trans u3),hb2.mul bd;exact hS1 (.hi v (y*d)) p2 aU (congrArg (a7 _) (qy (s:=.u) (s':=.d) hr (congrArg (a7 _) hr2))) (dA (gB hp hp3)) hp4 (u2.trans u3) g3
 ·intro hS1 hF1 _;nomatch w1;refine bz rfl ?_;nomatch g1;refine gS w1 O1 (λv p' aC hr hp hp2 ae u2 g2=>?_) λaC hr u2=>hF1 aC (congrArg (a7 _) (mM (s:=.u) hr)) u2;nomatch cAt u2,g2,ae.mul bd;exact hS1 (.rest v) p' _ (congrArg (a7 _) (lM (s:=.u) hr)) (dA hp) hp2 u2.push (gp u2 g2)
 ·intro hS1 hF1 _;nomatch w1;refine bz rfl ?_;nomatch g1;refine gS w1 O1 (λv p' aC hr hp hp2 ae u2 g2=>?_) λaC hr u2=>hF1 aC (congrArg (a7 _) (mM (s:=.u) hr)) u2;nomatch cAt u2,g2,ae.mul bd;exact hS1 (.kB v) p' _ (congrArg (a7 _) (lM (s:=.u) hr)) (dA hp) hp2 u2.push (gp u2 g2)
 ·intro hS1 hF1 _;nomatch w1;refine bz rfl ?_;nomatch g1;refine gS w1 O1 (λv p' aC hr hp hp2 ae u2 g2=>?_) λaC hr u2=>hF1 aC (congrArg (a7 _) (mM (s:=.u) hr)) u2;nomatch cAt u2,g2,ae.mul bd;exact hS1 (.same v) p' _ (congrArg (a7 _) (lM (s:=.u) hr)) (dA hp) hp2 u2.push (gp u2 g2)
 ·intro hS1 hF1 _;nomatch w1;refine bz rfl ?_;nomatch g1;refine gS w1 O1 (λv p' aC hr hp hp2 ae u2 g2=>?_) λaC hr u2=>hF1 aC (congrArg (a7 _) (qz (s:=.u) (s':=.u) hr)) u2;nomatch g2;refine gS u2.1 (O1.to g2 hp2) (λy p2 aU hr2 hp3 hp4 hb2 u3 g3=>?_) λaU hr2 u3=>hF1 aU (congrArg (a7 _) (qA (s:=.u) (s':=.u) hr hr2)) (u2.trans u3);nomatch cAt (u2.trans u3),hb2.mul bd;exact hS1 (.kC v y) p2 aU (congrArg (a7 _) (qy (s:=.u) (s':=.u) hr hr2)) (dA (gB hp hp3)) hp4 (u2.trans u3) g3
 ·intro hS1 hF1 _;nomatch w1;exact hS1 .rem (p+1) _ rfl (bI _) aa bN.push (gp bN g1)
 ·intro hS1 hF1 _;nomatch w1;exact hS1 .res (p+1) _ rfl (bI _) aa bN.push (gp bN g1)
 ·intro hS1 hF1 _;nomatch w1;refine bz rfl ?_;nomatch g1;refine gS w1 O1 (λv p' aC hr hp hp2 ae u2 g2=>?_) λaC hr u2=>hF1 aC (congrArg (a7 _) (qz (s:=.u) (s':=.u) hr)) u2;nomatch g2;refine gS u2.1 (O1.to g2 hp2) (λy p2 aU hr2 hp3 hp4 hb2 u3 g3=>?_) λaU hr2 u3=>hF1 aU (congrArg (a7 _) (qA (s:=.u) (s':=.u) hr hr2)) (u2.trans u3);nomatch cAt (u2.trans u3),hb2.mul bd;exact hS1 (.hh v y) p2 aU (congrArg (a7 _) (qy (s:=.u) (s':=.u) hr hr2)) (dA (gB hp hp3)) hp4 (u2.trans u3) g3
 ·intro hS1 hF1 _;nomatch w1;refine bz rfl ?_;nomatch g1;refine gS w1 O1 (λv p' aC hr hp hp2 ae u2 g2=>?_) λaC hr u2=>hF1 aC (congrArg (a7 _) (mM (s:=.u) hr)) u2;nomatch cAt u2,g2,ae.mul bd;exact hS1 (.kD v) p' aC (congrArg (a7 _) (lM (s:=.u) hr)) (dA hp) hp2 u2 g2
 ·intro hS1 hF1 _;nomatch w1;refine bz rfl ?_;nomatch g1;refine gS w1 O1 (λv p' aC hr hp hp2 ae u2 g2=>?_) λaC hr u2=>hF1 aC (congrArg (a7 _) (mM (s:=.u) hr)) u2;nomatch cAt u2,g2,ae.mul bd;exact hS1 (.ig v) p' aC (congrArg (a7 _) (lM (s:=.u) hr)) (dA hp) hp2 u2 g2
 ·intro hS1 hF1 _;nomatch w1;refine bz rfl ?_;nomatch g1;refine gS w1 O1 (λv p' aC hr hp hp2 ae u2 g2=>?_) λaC hr u2=>hF1 aC (congrArg (a7 _) (qz (s:=.u) (s':=.s) hr)) u2;nomatch g2;refine uk u2.1 (O1.to g2 hp2) (λy p2 aU hr2 hp3 hp4 hb2 u3 g3=>?_) λaU hr2 u3=>hF1 aU (congrArg (a7 _) (qA (s:=.u) (s':=.s) hr (congrArg (a7 _) hr2))) (u2.trans u3);nomatch cAt (u2.trans u3),hb2.mul bd;exact hS1 (.hi v (y*d)) p2 aU (congrArg (a7 _) (qy (s:=.u) (s':=.s) hr (congrArg (a7 _) hr2))) (dA (gB hp hp3)) hp4 (u2.trans u3) g3
 ·intro hS1 hF1 _;nomatch w1;refine bz rfl ?_;nomatch g1;refine gS w1 O1 (λv p' aC hr hp hp2 ae u2 g2=>?_) λaC hr u2=>hF1 aC (congrArg (a7 _) (qz (s:=.u) (s':=.s) hr)) u2;nomatch g2;refine uk u2.1 (O1.to g2 hp2) (λy p2 aU hr2 hp3 hp4 hb2 u3 g3=>?_) λaU hr2 u3=>hF1 aU (congrArg (a7 _) (qA (s:=.u) (s':=.s) hr (congrArg (a7 _) hr2))) (u2.trans u3);nomatch cAt (u2.trans u3),hb2.mul bd;exact hS1 (.hh v (y*d)) p2 aU (congrArg (a7 _) (qy (s:=.u) (s':=.s) hr (congrArg (a7 _) hr2))) (dA (gB hp hp3)) hp4 (u2.trans u3) g3
 ·intro hS1 hF1 _;nomatch w1;refine bz rfl ?_;nomatch g1;refine uk w1 O1 (λv p' aC hr hp hp2 ae u2 g2=>?_) λaC hr u2=>hF1 aC (congrArg (a7 _) (mM (s:=.s) (congrArg (a7 _) hr))) u2;nomatch cAt u2,g2,ae.mul bd;exact hS1 (.ig (v*d)) p' aC (congrArg (a7 _) (lM (s:=.s) (congrArg (a7 _) hr))) (dA hp) hp2 u2 g2
 ·intro hS1 hF1 _;nomatch w1;refine bz rfl ?_;nomatch g1;refine gS w1 O1 (λv p' aC hr hp hp2 ae u2 g2=>?_) λaC hr u2=>hF1 aC (congrArg (a7 _) (qz (s:=.u) (s':=.d) hr)) u2;nomatch g2;refine gS u2.1 (O1.to g2 hp2) (λy p2 aU hr2 hp3 hp4 hb2 u3 g3=>?_) λaU hr2 u3=>hF1 aU (congrArg (a7 _) (qA (s:=.u) (s':=.d) hr (congrArg (a7 _) hr2))) (u2.trans u3);nomatch cAt (u2.trans u3),hb2.mul bd;exact hS1 (.val v (y*d)) p2 aU (congrArg (a7 _) (qy (s:=.u) (s':=.d) hr (congrArg (a7 _) hr2))) (dA (gB hp hp3)) hp4 (u2.trans u3) g3
 ·intro hS1 hF1 _;nomatch w1;refine bz rfl ?_;nomatch g1;refine gS w1 O1 (λv p' aC hr hp hp2 ae u2 g2=>?_) λaC hr u2=>hF1 aC (congrArg (a7 _) (qz (s:=.u) (s':=.s) hr)) u2;nomatch g2;refine uk u2.1 (O1.to g2 hp2) (λy p2 aU hr2 hp3 hp4 hb2 u3 g3=>?_) λaU hr2 u3=>hF1 aU (congrArg (a7 _) (qA (s:=.u) (s':=.s) hr (congrArg (a7 _) hr2))) (u2.trans u3);nomatch cAt (u2.trans u3),hb2.mul bd;exact hS1 (.val v (y*d)) p2 aU (congrArg (a7 _) (qy (s:=.u) (s':=.s) hr (congrArg (a7 _) hr2))) (dA (gB hp hp3)) hp4 (u2.trans u3) g3
 ·intro x h64 az hS1 hF1 hx8;have bM:¬(64:Int)<=(x.toNat:Int):=λh=>h64 (aX.mp h);have z1:=n7 (k:=1) az (by decide);have z2:=n7 (k:=2) az (by decide);have z3:=n7 (k:=3) az (by decide);have z4:=n7 (k:=4) az (by decide);have aq:=n7 (k:=0) az (by decide);have c2:(1:Int)<=(x.toNat:Int):=aX.mpr (UP λh=>aq (congrArg lX h));have c3:¬(x.toNat:Int)<=4:=λh=>four (aX.mp h) aq z1 z2 z3 z4;have dv:=Gh (l:=[5,6,7,8,9,17,20,21]) az (by decide);have cS:=Gh (l:=[12,13,14,18,19]) az (by decide);have m1:kj (x.toNat:Int) [.int 5,.int 6,.int 7,.int 8,.int 9,.int 17,.int 20,.int 21]=some (decide ((x.toNat:Int)∈([5,6,7,8,9,17,20,21]:List Int))):=Aq [5,6,7,8,9,17,20,21];have m2:kj (x.toNat:Int) [.int 12,.int 13,.int 14,.int 18,.int 19]=some (decide ((x.toNat:Int)∈([12,13,14,18,19]:List Int))):=Aq [12,13,14,18,19];have kk:(!(dX (x.toNat:Int) ([0,10,11].zip [.str "nop",.str "remember_state",.str "restore_state"])).isSome)=true:=by
   rw[show dX (x.toNat:Int) ([0,10,11].zip [.str "nop",.str "remember_state",.str "restore_state"])=none from(if_neg aq.symm).trans ((if_neg (n7 az (by decide)).symm).trans (if_neg (n7 az (by decide)).symm))];rfl
  nomatch bM,c2,c3,m1,m2,dv,cS,kk;exact hF1 _ ((if_neg (λh=>h64 (aB (by decide) h))).trans ((if_neg (λh=>h64 (aB (by decide) h))).trans ((if_neg h64).trans (congrArg (nj · _) (RU (l:=pj) az))))) bN.push
end
noncomputable def fX.ch:fX->String
 |.u=>"u"|.d=>"d"|.s=>"s"|.w=>"w"|.dv=>"1"|.cS=>"2"|.fR=>"4"
noncomputable abbrev shapes:List (Int×af):=[(0,.tup [.str "nop",.str ""]),(1,.tup [.str "set_loc",.str "w"]),(2,.tup [.str "advance_loc",.str "1"]),(3,.tup [.str "advance_loc",.str "2"]),(4,.tup [.str "advance_loc",.str "4"]),(5,.tup [.str "offset_extended",.str "ud"]),(6,.tup [.str "restore",.str "u"]),(7,.tup [.str "undefined",.str "u"]),(8,.tup [.str "same_value",.str "u"]),(9,.tup [.str "register",.str "uu"]),(10,.tup [.str "remember_state",.str ""]),(11,.tup [.str "restore_state",.str ""]),(12,.tup [.str "def_cfa",.str "uu"]),(13,.tup [.str "def_cfa_register",.str "u"]),(14,.tup [.str "def_cfa_offset",.str "u"]),(17,.tup [.str "offset_extended",.str "us"]),(18,.tup [.str "def_cfa",.str "us"]),(19,.tup [.str "def_cfa_offset",.str "s"]),(20,.tup [.str "val_offset",.str "ud"]),(21,.tup [.str "val_offset",.str "us"])]
theorem RX{vs:List Int}(h:vs.length=0):vs=[]:=x9.mp h
theorem RY{vs:List Int}(h:vs.length=1):vs=[a1 vs]:=by
 cases vs with
 |nil=>exact yP (n:=0) h
 |cons a r=>cases r with
  |nil=>rfl
  |cons b r=>exact B6 (fx h)
theorem RZ{vs:List Int}(h:vs.length=2):vs=[a1 vs,a2 vs]:=by
 cases vs with
 |nil=>exact yP (n:=1) h
 |cons a r=>cases r with
  |nil=>exact yP (n:=0) (fx h)
  |cons b r=>cases r with
   |nil=>rfl
   |cons c r=>exact B6 (fx (fx h))
inductive R0 (e:UInt8×List fX×(List Int->Op)) (nm str:String):Prop
 |mk (k:dX (e.1.toNat:Int) shapes=some (.tup [.str nm,.str str])) (i:jr str=e.2.1.map λs=>.str s.ch) (v:∀vs,vs.length=e.2.1.length->(e.2.2 vs).nm=nm/\ (e.2.2 vs).args=vs)
theorem R4:∀e∈pj,∃nm str,R0 e nm str:=by
 iterate 20 refine c1.mpr ⟨⟨_,_,rfl,rfl,λvs h=>⟨rfl,by first|exact(RZ h).symm|exact(RY h).symm|exact(RX h).symm⟩⟩,?_⟩
 exact λ_w h=>nomatch h
section
variable{n:Nat}{σ:ah}{Q:cR}{E:Nat->ah->Prop}{xs:List UInt8}{sp e:Nat}
theorem AK(h:Q (.loc σ.next) (σ.push (.bZ shapes))):bH fn bk bl (n+1) 44 [] σ Q E:=bz rfl h
noncomputable def sh(c d:Int)(xs:List UInt8)(e:Nat)(p:Int)(ss:List fX)(vs:List Int):Option (List Int×List UInt8):=if 0<=p then(gu c d ss (aR xs p.toNat e)).map λz=>(vs++z.1,z.2)else none
noncomputable def qB(xs:List UInt8)(e:Nat)(f:List UInt8->Option (Int×List UInt8))(p p2 v:Int):Prop:=(0<=p/\ 0<=p2/\ f (aR xs p.toNat e)=some (v,aR xs p2.toNat e)) \/(p2= -1/\ (0<=p->f (aR xs p.toNat e)=none))
theorem qB.times{f:List UInt8->Option (Int×List UInt8)}{p p2 v:Int}(c:Int)(h:qB xs e f p p2 v):qB xs e (λr=>(f r).map λy=>(y.1*c,y.2)) p p2 (v*c):=
 h.imp (λh=>⟨h.1,h.2.1,congrArg (a7 _) h.2.2⟩) λh=>⟨h.1,λq=>congrArg (a7 _) (h.2 q)⟩
theorem R7{c d:Int}{p p2:Int}{s:fX}{ss:List fX}{vs:List Int}{v:Int}(h:qB xs e (hx c d s) p p2 v):sh c d xs e p (s::ss) vs=sh c d xs e p2 ss (vs++[v]):=by
 unfold sh;obtain⟨h,h2,hr⟩|⟨rfl,hr⟩:=h
 ·rw[if_pos h,if_pos h2,gu,hr];show(a7 _ (gu c d ss _)).map _=_;rw[yH];refine congrArg (a7 · _) (funext λz=>?_);show(vs++v::z.1,z.2)=(vs++[v]++z.1,z.2);rw[cG];rfl
 ·rw[if_neg (show¬(0:Int)<= -1 by decide)];by_cases h:0<=p
  ·rw[if_pos h,gu,hr h];rfl
  ·exact if_neg h
inductive qC (σ:ah) (c d:Int) (xs:List UInt8) (sp e ls b:Nat) (ia:List fX) (y:List UInt8) (nm:String) (ss:List fX) (r:List af) (ρ:aQ) (aj:ah) (p:Int) (vs:List Int):Prop
 |mk (r:r=ss.map λs=>.str s.ch) (r0:ρ 0=some (.bytes xs)) (bN:ρ 1=some (.loc sp)) (cu:ρ 2=some (.int c)) (lJ:ρ 3=some (.int d)) (qv:ρ 5=some (.str nm)) (F0:ρ 7=some (.loc ls)) (n:vs.length+ss.length=ia.length) (hp:p= -1 \/(0<=p/\ p<=e)) (g:aj.get sp=de p e) (gl:aj.get ls=.list (vs.map .int)) (u:aw [sp,ls] σ aj) (q:gu c d ia y=sh c d xs e p ss vs) (m:∀k:Nat,p=k->b<=k)
theorem qC.next{c d:Int}{ls b:Nat}{ia:List fX}{y:List UInt8}{nm:String}{s:fX}{ss:List fX}{v0:af}{r:List af}{ρ:aQ}{aj bP:ah}{p p2:Int}{vs:List Int}{v:Int}(hn:ls≠sp)(I:qC σ c d xs sp e ls b ia y nm (s::ss) (v0::r) ρ aj p vs)(u:aw [sp] aj bP)(g:bP.get sp=de p2 e)(hp:p2= -1 \/(0<=p2/\ p2<=e))(m:∀k:Nat,p2=k->b<=k)(q:qB xs e (hx c d s) p p2 v):
  qC σ c d xs sp e ls b ia y nm ss r (ρ.set 8 v0) (bP.set ls (.list (vs.map .int++[.int v]))) p2 (vs++[v]):=
 ⟨(jM I.1).2,I.2,I.3,I.4,I.5,I.6,I.7,by rw[bR];exact(oJ ..).trans I.8,hp,cV hn.symm g,by rw[cN];exact cT,(I.12.over u λl hl=>.inl (bW.mp hl▸.head _)).set (.inl (.tail _ (.head _))) (u.1.lt (u.at I.12.1 I.11 (aA rfl) (cI hn)) (aA rfl)),I.13.trans (R7 q),m⟩
noncomputable abbrev R8:List C:=w5 (w6 (aG (aG (aG (aG (aG (aG (aG Cq.body))))))))
theorem R9{c d:Int}{ls b:Nat}{ia:List fX}{y:List UInt8}{nm:String}{ss:List fX}{v0:af}{r:List af}{ρ:aQ}{aj:ah}{p:Int}{vs:List Int}{V:eH}{X:Nat->cX}(ak:xs.length<=100000)(he:e<=xs.length)(bd:dJ d)(hn:ls≠sp)(ai:vs.length<=5)(I:qC σ c d xs sp e ls b ia y nm ss (v0::r) ρ aj p vs):
  (sB (TT (n+2)) R8 ⟨dY λρ' bP=>∃p vs ss,qC σ c d xs sp e ls b ia y nm ss r ρ' bP p vs,dY λρ' bP=>∃p vs ss,qC σ c d xs sp e ls b ia y nm ss r ρ' bP p vs,V,X⟩ (ρ.set 8 v0) aj).P:=by
 have ir:=I.1;cases ss with
 |nil=>exact nomatch ir
 |cons s ss=>
  obtain⟨rfl,rfl⟩:=jM ir;have hx':xs.length<=900000:=aB ak (by decide);have lv:(vs.map af.int).length<1000000:=j4 (cM ai (by decide));have gl:=λ{bP:ah}(u:aw [sp] aj bP)=>u.at I.12.1 I.11 (aA rfl) (cI hn);have none':∀k:Nat,(-1:Int)=k->b<=k:=λk h=>absurd (h▸cD k:(0:Int)<= -1) (by decide);have pos:∀{p':Nat},(0:Int)<=(p':Int):=cD _;have mono:∀{p':Nat},0<=p->p.toNat<p'-> ∀k:Nat,(p':Int)=k->b<=k:=λh0 h k az=>na.mp az▸aB (I.14 _ (gD h0).symm) (dA h);have mu:∀{f:Bool}{Q:cR}{E:Nat->ah->Prop},(∀v p2 bP,aw [sp] aj bP->bP.get sp=de p2 e->(p2= -1 \/(0<=p2/\ p2<=(e:Int)))->(∀k:Nat,p2=k->b<=k)->dJ v->qB xs e (eB f) p p2 v->Q (.int v) bP)->bH fn bk bl (n+2) 56 [.bytes xs,.loc sp,.bool f] aj Q E:=λh=>
   AH I.12.1 I.10 hx' he I.9 (λv p' σ' h0 hr hlt hle ae u g=>h v p' σ' u g (.inr ⟨pos,aX.mpr hle⟩) (mono h0 hlt) ae (.inl ⟨h0,pos,fc p'▸hr⟩)) λv σ' hr ae u g=>h v (-1) σ' u g (.inl rfl) none' ae (.inr ⟨rfl,hr⟩)
  have tk:∀{k:Nat}{Q:cR}{E:Nat->ah->Prop},0<k->k<=4->(∀v p2 bP,aw [sp] aj bP->bP.get sp=de p2 e->(p2= -1 \/(0<=p2/\ p2<=(e:Int)))->(∀k:Nat,p2=k->b<=k)->(∀y,gV v y)->qB xs e (dc k) p p2 v->Q (.int v) bP)->bH fn bk bl (n+2) 55 [.bytes xs,.loc sp,.int k] aj Q E:=λ{k}{_w _w} k0 k4 h=>by
   refine qw I.12.1 I.10 hx' (aX.mpr he) (aB k4 (by decide)) (λσ' h0 aa u g=>?_) λσ' hf u g=>h 0 (-1) σ' u g (.inl rfl) none' (λy=>ni (by decide)) (.inr ⟨rfl,λh0=>?_⟩)
   ·obtain⟨q,rfl⟩:=iy h0;have aa:q+k<=e:=aX.mp aa;have ae:=AI (aB k4 (by decide)) (yG k (xs.drop q));exact h _ ((q+k:Nat):Int) σ' u g (.inr ⟨pos,aX.mpr aa⟩) (mono h0 (jp k0)) (λy=>ni (kI ⟨dk (by decide) ae.1,ae.2⟩)) (.inl ⟨h0,pos,sg he aa⟩)
   ·obtain⟨q,rfl⟩:=iy h0;have hq:q<=e:=by have:=I.9;exact(this.elim (λy0=>(bE λaq=>bp.go (.c _ .o) (.c 1 (.n 0) (.v 0) (.c 1 (.v 0) (.n (-1)) .o)) rfl h0 (aP y0))) λy0=>(bE λaq=>bp.go (.c _ (.c _ .o)) (.c 1 (.v 1) (.v 0) (.c 1 (.a (.v 0) (.n 1)) (.v 1) .o)) rfl y0.2 (aX.mpr aq)))
    exact xb he hq λh=>hf ⟨h0,aX.mpr h⟩
  cases s with
  |u=>
   nomatch I.2,I.3,I.7,I.11;refine mu λv p2 bP u g hp m ae hr=>?_;nomatch gl u,lv;exact⟨p2,vs++[v],ss,I.next hn u g hp m hr⟩
  |d=>
   nomatch I.2,I.3,I.7,I.11;refine mu (f:=false) λv p2 bP u g hp m ae hr=>?_;nomatch I.5,ae.mul bd,gl u,lv;exact⟨p2,vs++[v*d],ss,I.next hn u g hp m (hr.times d)⟩
  |s=>
   nomatch I.2,I.3,I.7,I.11;refine mu (f:=true) λv p2 bP u g hp m ae hr=>?_;nomatch I.5,ae.mul bd,gl u,lv;exact⟨p2,vs++[v*d],ss,I.next hn u g hp m (hr.times d)⟩
  |w=>
   nomatch I.2,I.3,I.7,I.11;refine tk (k:=4) (by decide) (by decide) λv p2 bP u g hp m ae hr=>?_;nomatch ae 1,gl u,lv;rw[Br];exact⟨p2,vs++[v],ss,I.next hn u g hp m hr⟩
  |dv=>
   nomatch I.2,I.3,I.7,I.11;refine tk (k:=1) (by decide) (by decide) λv p2 bP u g hp m ae hr=>?_;nomatch I.4,ae c,gl u,lv;exact⟨p2,vs++[v*c],ss,I.next hn u g hp m (hr.times c)⟩
  |cS=>
   nomatch I.2,I.3,I.7,I.11;refine tk (k:=2) (by decide) (by decide) λv p2 bP u g hp m ae hr=>?_;nomatch I.4,ae c,gl u,lv;exact⟨p2,vs++[v*c],ss,I.next hn u g hp m (hr.times c)⟩
  |fR=>
   nomatch I.2,I.3,I.7,I.11;refine tk (k:=4) (by decide) (by decide) λv p2 bP u g hp m ae hr=>?_;nomatch I.4,ae c,gl u,lv;exact⟨p2,vs++[v*c],ss,I.next hn u g hp m (hr.times c)⟩
theorem Sa{k:Int}:∀{l:List (Int×af)},(∀j∈l.map (·.1),j≠k)->dX k l=none:=by
 intro l
 induction l with
 |nil=>
  intro _;exact rfl
 |cons e r ih=>
  intro h;exact(if_neg (h _ (.head _))).trans (ih λj a8=>h j (.tail _ a8))
theorem Sb{p:Nat}{c d:Int}(w:σ.bg)(g:σ.get sp=de p e)(ak:xs.length<=100000)(he:e<=xs.length)(hpe:p<e)(bd:dJ d)
  (hS:∀(o:Op) (p':Nat) σ',eX c d (aR xs p e)=some (o,aR xs p' e)->p<p'->p'<=e->aw [sp] σ σ'->σ'.get sp=de p' e->Q o.v σ')
  (hF:∀(o:Op) σ',eX c d (aR xs p e)=none->aw [sp] σ σ'->σ'.get sp=de (-1) e->Q o.v σ'):bH fn bk bl (n+3) 57 [.bytes xs,.loc sp,.int c,.int d] σ Q E:=by
 refine bz rfl ?_;nomatch w;have hx':xs.length<=900000:=aB ak (by decide);refine qw (k:=1) w g hx' (aX.mpr he) (by decide) (λaJ _w _w u1 g1=>?_) λaJ hn _w _w=>absurd ⟨cD p,aX.mpr hpe⟩ hn;obtain⟨x,hxc,hl⟩:=ui he hpe;rw[fc,take1 hxc];have g1:aJ.get sp=de (p+1:Nat) e:=g1;have hx8:=x.toNat_lt;rw[hl]at hS hF;by_cases h192:192<=x.toNat
 ·have bM:(191:Int)<(x.toNat:Int):=aX.mpr h192;nomatch bM;exact hS (.rest (x.toNat-192)) (p+1) aJ (if_pos h192) (b9 p) hpe u1 g1
 have bM:¬(191:Int)<(x.toNat:Int):=λh=>h192 (aX.mp h);by_cases h128:128<=x.toNat
 ·have c2:(127:Int)<(x.toNat:Int):=aX.mpr h128;have cJ:eX c d (x::aR xs (p+1) e)=(eB false (aR xs (p+1) e)).map λy=>(.off (x.toNat-128) (y.1*d),y.2):=(if_neg h192).trans (if_pos h128);nomatch bM,c2;refine AH (p:=((p+1:Nat):Int)) u1.1 g1 hx' he (.inr ⟨cD _,aX.mpr hpe⟩) (λv p' aC _w hr hp hp2 ae u2 g2=>?_) (λv aC hr ae u2 g2=>?_)
  ·nomatch ae.mul bd;rw[fc]at hr hp;exact hS (.off (x.toNat-128) (v*d)) p' aC (cJ.trans (congrArg (a7 _) hr)) (gB (b9 p) hp) hp2 (u1.trans u2) g2
  ·nomatch ae.mul bd;exact hF (.off (x.toNat-128) (v*d)) aC (cJ.trans (congrArg (a7 _) (hr (cD _)))) (u1.trans u2) g2
 have c2:¬(127:Int)<(x.toNat:Int):=λh=>h128 (aX.mp h);by_cases h64:64<=x.toNat
 ·have c3:(63:Int)<(x.toNat:Int):=aX.mpr h64;have hm:gV ((x.toNat:Int)-64) c:=ni (kI ⟨dk (by decide) (WH (aX.mpr h64)),eZ (BY _ (by decide)) (kP (dR.mpr x.toNat_lt) (by decide))⟩);nomatch bM,c2,c3,hm;exact hS (.dG ((x.toNat-64)*c)) (p+1) aJ ((if_neg h192).trans ((if_neg h128).trans (if_pos h64))) (b9 p) hpe u1 g1
 have c3:¬(63:Int)<(x.toNat:Int):=λh=>h64 (aX.mp h);have k3:eX c d (x::aR xs (p+1) e)=(pk x pj).bind λe'=>(gu c d e'.1 (aR xs (p+1) e)).map λy=>(e'.2 y.1,y.2):=(if_neg h192).trans ((if_neg h128).trans (if_neg h64));have slt:=u1.1.lt g1 (aA rfl);cases az:pk x pj with
 |none=>
  rw[az]at k3;have iK:∀k∈cs,x≠k:=λk hk' e=>by
   have:∀k∈cs,pk k pj≠none:=by decide
   exact this k hk' (e▸az)
  have pY:dX (x.toNat:Int) shapes=none:=Sa λj a8=>(n7 iK ((show∀j∈shapes.map (·.1),∃u∈cs,j=(u.toNat:Int) by decide) j a8)).symm;have ke:(!(dX (x.toNat:Int) shapes).isSome)=true:=by rw[pY];rfl
  nomatch bM,c2,c3;refine AK ?_;have g2:=dw (o':=.bZ shapes) (bq slt) g1;nomatch ke,g2;exact hF .iM _ k3 (u1.push.set (.inl (.head _)) (bX slt)) cT
 |some e'=>
  obtain⟨nm,str,S⟩:=R4 _ (AJ az);rw[az]at k3;have ke:(!(dX (x.toNat:Int) shapes).isSome)=false:=by rw[S.1];rfl
  nomatch bM,c2,c3;refine AK ?_;nomatch ke;refine AK ?_;have u2:aw [sp] σ (((aJ.push (.bZ shapes)).push (.bZ shapes)).push (.list [])):=u1.push.push.push;have g2:(((aJ.push (.bZ shapes)).push (.bZ shapes)).push (.list [])).get sp=de (p+1:Nat) e:=dw (bq (bX (bX slt))) (dw (bq (bX slt)) (dw (bq slt) g1));have ln:((aJ.push (.bZ shapes)).push (.bZ shapes)).next≠sp:=cn (bX (bX slt))
  have nl:σ.next<=((aJ.push (.bZ shapes)).push (.bZ shapes)).next:=l8 (l8 u1.2)
  nomatch S.1;have hsl:e'.1.length<=5:=(show∀e∈pj,e.2.1.length<=5 by decide) _ (AJ az);refine kA (λr ρ aj=>∃q vs ss,qC (((aJ.push (.bZ shapes)).push (.bZ shapes)).push (.list [])) c d xs sp e ((aJ.push (.bZ shapes)).push (.bZ shapes)).next (p+1) e'.1 (aR xs (p+1) e) nm ss r ρ aj q vs)
   ⟨((p+1:Nat):Int),[],e'.1,S.2,rfl,rfl,rfl,rfl,rfl,rfl,jl _,.inr ⟨cD _,aX.mpr hpe⟩,g2,bx,.refl u2.1,?_,λk h=>aX.mp (aP h)⟩ (λv r ρ aj zz=>zz.elim λq zz=>zz.elim λvs zz=>zz.elim λss I=>⟨trivial,R9 ak he bd ln (aB (c8 ..) (aB (bb I.8) hsl)) I⟩) λρ aj zz=>zz.elim λq zz=>zz.elim λvs zz=>zz.elim λss I=>⟨trivial,?_⟩
  ·unfold sh;rw[if_pos (cD _),fc];cases gu c d e'.1 (aR xs (p+1) e)<;>rfl
  ·obtain rfl:=ml.mp I.1.symm;have lv:(vs.map af.int).length<=1000000:=lmap (aB (c8 ..) (aB (bb I.8) (aB hsl (by decide))));nomatch I.6,I.7,I.11,lv;obtain⟨v1,v2⟩:=S.3 vs I.8;have U:=u2.over I.12 (ug (.inl rfl) nl);have q1:=I.13;rw[show af.tup [.str nm,.tup (vs.map .int)]=(e'.2 vs).v by unfold Op.v;rw[v1,v2]];unfold sh at q1;by_cases h0:0<=q
   ·rw[if_pos h0]at q1;obtain⟨q,rfl⟩:=iy h0;have hq:q<=e:=by have:=I.9;exact(this.elim (λy0=>(bE λaq=>bp.go (.c _ .o) (.c 1 (.n 0) (.v 0) (.c 1 (.v 0) (.n (-1)) .o)) rfl h0 (aP y0))) λy0=>(bE λaq=>bp.go (.c _ (.c _ .o)) (.c 1 (.v 1) (.v 0) (.c 1 (.a (.v 0) (.n 1)) (.v 1) .o)) rfl y0.2 (aX.mpr aq)))
    refine hS (e'.2 vs) q aj (k3.trans ((congrArg (a7 _) q1).trans ?_)) (I.14 q rfl) hq U I.10;rw[fc];show some (e'.2 (vs++[]),_)=_;rw[dK]
   ·rw[if_neg h0]at q1;obtain rfl:=I.9.resolve_right λh=>h0 h.1;exact hF (e'.2 vs) aj (k3.trans (congrArg (a7 _) q1)) U I.10
end
inductive dC (c d:Int):List UInt8->Option (List Op)->Prop
 |nil:dC c d [] (some [])
 |bad {x:UInt8} {r:List UInt8} (e:eX c d (x::r)=none):dC c d (x::r) none
 |more {r b7:List UInt8} {o:Op} {x:Option (List Op)} (e:eX c d r=some (o,b7)) (t:dC c d b7 x):dC c d r (x.map (o::·))
theorem dC.uniq{c d:Int}{r:List UInt8}{x y:Option (List Op)}(h:dC c d r x):dC c d r y->x=y:=by
 induction h generalizing y with
 |nil=>
  intro k;cases k with
  |nil=>rfl
  |more e _=>cases e
 |bad e=>
  intro k;cases k with
  |bad _=>rfl
  |more e' _=>rw[e]at e';cases e'
 |more e t ih=>
  intro k;cases k with
  |nil=>cases e
  |bad e'=>rw[e]at e';cases e'
  |more e' t'=>rw[e]at e';cases e';rw[ih t']
noncomputable def dC.On(c d:Int)(y r:List UInt8)(ops:List Op):Prop:=∀X,dC c d r X->dC c d y (X.map (ops++·))
theorem dC.On.refl{c d:Int}{r:List UInt8}:dC.On c d r r []:=λX h=>by cases X<;>exact h
theorem dC.On.more{c d:Int}{y r b7:List UInt8}{ops:List Op}{o:Op}(h:dC.On c d y r ops)(e:eX c d r=some (o,b7)):dC.On c d y b7 (ops++[o]):=λX hX=>by
 have:=h _ (.more e hX);cases X with
 |none=>exact this
 |some z=>show dC c d y (some (ops++[o]++z));rw[cG];exact this
theorem dC.On.done{c d:Int}{y r:List UInt8}{ops:List Op}(h:dC.On c d y r ops)(e:r=[]):dC c d y (some ops):=by
 have:=h (some []) (e▸.nil)
 rwa [yo,dK]at this
section
variable{n:Nat}{σ:ah}{Q:cR}{E:Nat->ah->Prop}{xs:List UInt8}{sp l e:Nat}
theorem eW{α:Type}{l:List α}{x:α}:(l++[x]).length=l.length+1:=bR
theorem dC.On.stop{c d:Int}{y:List UInt8}{k:Nat}{ops:List Op}(h:dC.On c d y (aR xs k e) ops)(he:e<=xs.length)(az:k<e)(hr:eX c d (aR xs k e)=none):dC c d y none:=by
 obtain⟨bQ,_,hl⟩:=ui he az;rw[hl]at hr h;exact h none (.bad hr)
inductive Gi (σ:ah) (c d:Int) (xs:List UInt8) (sp e:Nat) (p:Int) (a:Int) (ops:List Op) (ρ:aQ) (aj:ah):Prop
 |mk (r0:ρ 0=some (.bytes xs)) (bN:ρ 1=some (.loc sp)) (cu:ρ 2=some (.int c)) (lJ:ρ 3=some (.int d)) (dh:ρ 4=some (.loc σ.next)) (cV:aj.get σ.next=.list (ops.map Op.v)) (cT:aj.get sp=de a e) (u:aw [sp] σ aj) (n:σ.next<aj.next) (J:(a= -1/\ (0<=p->dC c d (aR xs p.toNat e) none)/\ ops.length<=100001) \/(0<=p/\ ∃k:Nat,a=k/\ k<=e/\ ops.length<=k/\ dC.On c d (aR xs p.toNat e) (aR xs k e) ops))
theorem Gj{p:Int}{c d:Int}(w:σ.bg)(g:σ.get sp=de p e)(ak:xs.length<=100000)(he:e<=xs.length)(hp:p= -1 \/(0<=p/\ p<=e))(bd:dJ d)
  (hS:∀(ops:List Op) (k:Nat) σ',0<=p->dC c d (aR xs p.toNat e) (some ops)->σ.next<=k->σ'.get k=.list ((strip ops).map Op.v)->aw [sp] σ σ'->σ'.get sp=de e e->Q (.loc k) σ')
  (hF:∀(ops:List Op) (k:Nat) σ',(0<=p->dC c d (aR xs p.toNat e) none)->σ.next<=k->σ'.get k=.list (ops.map Op.v)->aw [sp] σ σ'->σ'.get sp=de (-1) e->Q (.loc k) σ'):bH fn bk bl (n+4) 58 [.bytes xs,.loc sp,.int c,.int d] σ Q E:=by
 refine bz rfl ?_;have hlt:=w.lt g (aA rfl);have nn:=bq hlt;nomatch w;refine lB (λ(a:Int×List Op) ρ aj=>Gi σ c d xs sp e p a.1 a.2 ρ aj) (λa=>if a.1<0 then 0 else(e-a.1.toNat)+1) (p,[]) ⟨rfl,rfl,rfl,rfl,rfl,bx,dw nn g,.push (.refl w),b9 _,?_⟩ ?_
 ·rcases hp with rfl|⟨h0,aa⟩
  ·exact .inl ⟨rfl,λh=>absurd h (by decide),du _⟩
  ·obtain⟨k,rfl⟩:=iy h0;exact .inr ⟨h0,k,rfl,aX.mp aa,du _,.refl⟩
 ·intro⟨a,ops⟩ ρ aj I;replace I:Gi σ c d xs sp e p a ops ρ aj:=I;have nn':=cI (sN nn);rcases I.10 with⟨rfl,hR,hol⟩|⟨hp0,k,rfl,az,hol,hR⟩
  ·nomatch I.2,I.7;refine wR I.8.1 I.5 I.6 (aB hol (by decide)) λaC u2 g2=>?_;nomatch I.5;exact hF (strip ops) _ _ hR (bI _) g2 (I.8.over u2 λl hl=>.inr (bb (bW.mp hl).symm)) (u2.at I.8.1 I.7 (aA rfl) (cI nn))
  ·have h0:=cD k;have lv:(ops.map Op.v).length<1000000:=j4 (by exact(dP λaq=>bj.go (.c _ (.c _ (.c _ (.c _ .o)))) (.c 1 (.v 0) (.n 100000) (.c 1 (.v 1) (.v 0) (.c 1 (.v 2) (.v 1) (.c 1 (.v 3) (.v 2) (.c 1 (.n 1000000) (.v 3) .o))))) rfl ak he az hol aq));by_cases hlt:(k:Int)<e
   ·have hlt':=dR.mp hlt;nomatch I.2,I.7,h0,hlt,I.1,I.3,I.4,I.5,I.6;refine Sb I.8.1 I.7 ak he hlt' bd (λo p' aC hr hp1 hp2 u2 g2=>?_) (λo aC hr u2 g2=>?_)
    ·have gN2:=u2.at I.8.1 I.6 (aA rfl) nn';nomatch gN2,lv;exact⟨((p':Int),ops++[o]),by dsimp only;rw[if_neg (a6.mpr (cD _)),if_neg (a6.mpr (cD _)),fc,fc];exact(dP λaq=>bj.go (.c _ (.c _ (.c _ (.c _ (.c _ .o))))) (.c 1 (.a (.v 4) (.n 1)) (.v 1) (.c 1 (.a (.v 3) (.n 1)) (.a (.v 2) (.n 1)) (.c 1 (.v 0) (.a (.v 3) (.v 4)) (.c 1 (.a (.v 2) (.v 1)) (.v 0) .o)))) rfl hp1 aq (bb (bF (dU (bE λz1=>bj.go (.c _ (.c _ .o)) (.c 1 (.v 1) (.v 0) (.c 1 (.a (.v 0) (.n 1)) (.v 1) .o)) rfl az z1)))) (bb (dU (bE λz1=>bj.go (.c _ (.c _ .o)) (.c 1 (.v 1) (.v 0) (.c 1 (.a (.v 0) (.n 1)) (.v 1) .o)) rfl hp2 z1)))),I.1,I.2,I.3,I.4,I.5,by rw[cN];exact cT,Mine.Tactic.cV nn g2,(I.8.trans u2).set (.inr (bI _)) (bU I.9 u2.2),bU I.9 u2.2,.inr ⟨hp0,p',rfl,hp2,by rw[eW];exact aB (jn hol) hp1,hR.more hr⟩⟩
    ·have gN2:=u2.at I.8.1 I.6 (aA rfl) nn';nomatch gN2,lv;exact⟨(-1,ops++[o]),by dsimp only;rw[if_neg (a6.mpr h0)];exact mY _,I.1,I.2,I.3,I.4,I.5,by rw[cN];exact cT,Mine.Tactic.cV nn g2,(I.8.trans u2).set (.inr (bI _)) (bU I.9 u2.2),bU I.9 u2.2,.inl ⟨rfl,λ_w=>hR.stop he hlt' hr,by rw[eW];exact(bE λaq=>bj.go (.c _ (.c _ (.c _ (.c _ .o)))) (.c 1 (.v 0) (.n 100000) (.c 1 (.v 1) (.v 0) (.c 1 (.v 2) (.v 1) (.c 1 (.v 3) (.v 2) (.c 1 (.a (.n 100001) (.n 1)) (.a (.v 3) (.n 1)) .o))))) rfl ak he az hol aq)⟩⟩
   ·have hke:e<=k:=aX.mp (a6.mp hlt);obtain rfl:=qO az hke;nomatch I.2,I.7,h0,hlt;refine wR I.8.1 I.5 I.6 (by exact(aB (aB (aB hol he) ak) (by decide))) λaC u2 g2=>?_;nomatch I.5;exact hS ops _ _ hp0 (hR.done (uh (bI _))) (bI _) g2 (I.8.over u2 λl hl=>.inr (bb (bW.mp hl).symm)) (u2.at I.8.1 I.7 (aA rfl) (cI nn))
inductive Gk (σ:ah) (c d:Int) (xs:List UInt8) (l cl e p:Nat) (ax:af) (k:Nat) (ops:List Op) (ρ:aQ) (aj:ah):Prop
 |mk (r0:ρ 0=some (.loc l)) (bN:ρ 1=some (.loc cl)) (cu:ρ 2=some ax) (lJ:ρ 3=some (.loc σ.next)) (cV:aj.get σ.next=.list (ops.map Op.v)) (O:eD aj l xs k e) (u:aw [l] σ aj) (n:σ.next<aj.next) (len:ops.length<=k) (R:dC.On c d (aR xs p e) (aR xs k e) ops)
theorem Sc{p:Nat}(g:σ.get l=eC xs p e)(h:Q (.bool (decide ((p:Int)=e))) σ):bH fn bk bl (n+1) 1 [.loc l] σ Q E:=by
 refine bz rfl ?_;nomatch g
theorem Gl{p cl:Nat}{c d rr:Int}{ov ax:af}(w:σ.bg)(O:eD σ l xs p e)(gc:σ.get cl=ez c d rr ov)(hcl:cl≠l)(bd:dJ d)
  (hS:∀(ops:List Op) (k:Nat) σ',dC c d (aR xs p e) (some ops)->σ.next<=k->σ'.get k=.list ((strip ops).map Op.v)->aw [l] σ σ'->Q (.loc k) σ')
  (hF:∀σ',dC c d (aR xs p e) none->aw [l] σ σ'->E 0 σ'):bH fn bk bl (n+7) 39 [.loc l,.loc cl,ax] σ Q E:=by
 refine bz rfl ?_;have nn:=bq (w.lt O.1 (aA rfl));nomatch w;refine lB (λ(a:Nat×List Op) ρ aj=>Gk σ c d xs l cl e p ax a.1 a.2 ρ aj) (λa=>e-a.1) (p,[]) ⟨rfl,rfl,rfl,rfl,bx,O.to (dw nn O.1) O.4,.push (.refl w),b9 _,du _,.refl⟩ ?_;intro⟨k,ops⟩ ρ aj I;replace I:Gk σ c d xs l cl e p ax k ops ρ aj:=I;have lv:(ops.map Op.v).length<1000000:=j4 (cM (aB (aB I.9 I.6.4) (aB I.6.3 I.6.2)) (by decide));nomatch I.1,I.6.1;refine Sc I.6.1 ?_;by_cases hke:(k:Int)=e
 ·obtain rfl:=na.mp hke;nomatch hke;refine wR I.7.1 I.4 I.5 (aB (aB I.9 (aB I.6.3 I.6.2)) (by decide)) λaC u2 g2=>?_;nomatch I.4;exact hS ops _ _ (I.10.done (uh (bI _))) (bI _) g2 (I.7.over u2 λl hl=>.inr (bb (bW.mp hl).symm))
 ·have hlt:=WT I.6.4 λh=>hke (congrArg lX h);nomatch hke,I.1,I.2,I.3,I.4,I.5;refine RW I.7.1 I.6 (I.7.at w gc (aA rfl) (cI hcl)) hcl bd (λo p' aC hr hp1 hp2 u2 g2=>?_) (λaC hr u2=>hF aC (I.10.stop I.6.3 hlt hr) (I.7.trans u2));have gN2:=u2.at I.7.1 I.5 (aA rfl) (cI (sN nn));nomatch gN2,lv;exact⟨(p',ops++[o]),by dsimp only;exact(dP λaq=>bj.go (.c _ (.c _ (.c _ (.c _ (.c _ .o))))) (.c 1 (.a (.v 0) (.n 1)) (.v 3) (.c 1 (.v 2) (.v 4) (.c 1 (.v 1) (.a (.v 2) (.v 0)) (.c 1 (.a (.v 4) (.v 3)) (.v 1) .o)))) rfl hp1 aq (bb (bF (dU (bE λz1=>bj.go (.c _ (.c _ .o)) (.c 1 (.a (.v 0) (.n 1)) (.v 1) (.c 1 (.a (.v 1) (.n 1)) (.v 0) .o)) rfl hlt z1)))) (bb (dU (bE λz1=>bj.go (.c _ (.c _ .o)) (.c 1 (.v 1) (.v 0) (.c 1 (.a (.v 0) (.n 1)) (.v 1) .o)) rfl hp2 z1)))),I.1,I.2,I.3,I.4,by rw[cN];exact cT,I.6.to (cV nn g2) hp2,(I.7.trans u2).set (.inr (bI _)) (bU I.8 u2.2),bU I.8 u2.2,by rw[eW];exact aB (jn I.9) hp1,I.10.more hr⟩
end
noncomputable abbrev gO(e:Nat×Int×Int):Nat×Int:=(e.1,e.2.2)
theorem Sd{k:Nat}{s:Int}{K:List (Nat×Int)}:ft ((k,s)::K) k=s::ft K k:=congrArg (yd _) (List.filter_cons_of_pos (p:=λe:Nat×Int=>decide (e.1=k)) (decide_eq_true rfl))
theorem Gm{j k:Nat}{s:Int}{K:List (Nat×Int)}(q:j≠k):ft ((j,s)::K) k=ft K k:=congrArg (yd _) (List.filter_cons_of_neg (p:=λe:Nat×Int=>decide (e.1=k)) λh=>q (of_decide_eq_true h))
theorem Se{k:Nat}{h s:Int}:∀{K:List (Nat×Int×Int)},et K k=some (h,s)-> ∃bJ,ft (K.map gO) k=s::bJ:=by
 intro K
 induction K with
 |nil=>
  intro e;exact nomatch e
 |cons iI K ih=>
  obtain⟨j,a,b⟩:=iI;intro e;by_cases q:j=k
  ·subst q;rw[nX]at e;cases e;exact⟨_,Sd⟩
  ·rw[nY q]at e;obtain⟨bJ,hp⟩:=ih e;exact⟨bJ,(Gm q).trans hp⟩
theorem Sf{k:Nat}:∀{K:List (Nat×Int×Int)},et K k=none->ft (K.map gO) k=[]:=by
 intro K
 induction K with
 |nil=>
  intro _;exact rfl
 |cons iI K ih=>
  obtain⟨j,a,b⟩:=iI;intro e;by_cases q:j=k
  ·subst q;rw[nX]at e;exact nomatch e
  ·rw[nY q]at e;exact(Gm q).trans (ih e)
theorem Sg(hd:Nat->ba):∀(fds:List cQ)(t:nW)(st:List UInt8×List (Nat×Int)),t.parts.flatten=st.1->st.2=t.fW.map gO->(fds.foldl (io hd) t).parts.flatten=(fds.foldl (im hd) st).1:=by
 intro fds
 induction fds with
 |nil=>
  intro t st h _;exact h
 |cons f r ih=>
  intro t st aa h2;have key:(io hd t f).parts.flatten=(im hd st f).1/\ (im hd st f).2=(io hd t f).fW.map gO:=by
   unfold io im;cases az:et t.fW f.k with
   |some x=>
    obtain⟨bJ,hp⟩:=Se (h:=x.1) (s:=x.2) az;rw[h2,hp];exact⟨by rw[vb,aa];exact congrArg _ (dK _),rfl⟩
   |none=>
    rw[h2,Sf az];exact⟨by rw[vb,vb,aa];show _++(_++[])++(_++[])=_;rw[dK,dK],by rw[cN,aa];rfl⟩
  exact ih _ _ key.1 key.2
theorem xe(hd:Nat->ba)(fds:List cQ):(cY hd fds).parts.flatten=(cy hd fds).1:=Sg hd fds _ _ rfl rfl
noncomputable def ic(v:Int)(r:List UInt8):Option (List UInt8):=if v=4 then(dc 1 r).bind λx=>(dc 1 x.2).bind λy=>if x.1=4/\ y.1=0 then some y.2 else none else some r
noncomputable def ji(v:Int)(r:List UInt8):Option (Int×List UInt8):=if v=1 then dc 1 r else eB false r
noncomputable def fY(v:Int)(r:List UInt8):Option (Int×Int×Int×List UInt8):=(eB false r).bind λx=>(eB true x.2).bind λy=>(ji v y.2).bind λz=>some (x.1,y.1,z.1,z.2)
noncomputable abbrev mN(v s:Int):Prop:=(v=1 \/v=3 \/v=4)/\ s=0
noncomputable def gv(r:List UInt8):Option (Int×Int×Int×List UInt8):=(dc 1 r).bind λv=>(dc 1 v.2).bind λs=>(if mN v.1 s.1 then some s.2 else none).bind λcu=>(ic v.1 cu).bind (fY v.1)
noncomputable def hA(X:Option (Int×Int×Int×List UInt8))(Y:Option (Int×Int×Int×List Op)):Prop:=match X with
 |none=>Y=none
 |some x=>∃y,dC x.1 x.2.1 x.2.2.2 y/\ Y=y.map λops=>(x.1,x.2.1,x.2.2.1,strip ops)
noncomputable abbrev AL(r:List UInt8):Option (Int×Int×Int×List Op)->Prop:=hA (gv r)
theorem hA.uniq{X:Option (Int×Int×Int×List UInt8)}{Y Y':Option (Int×Int×Int×List Op)}(h:hA X Y)(h':hA X Y'):Y=Y':=by
 cases X with
 |none=>exact h.trans h'.symm
 |some x=>
  obtain⟨y,a,rfl⟩:=h;obtain⟨y',a',rfl⟩:=h';rw[a.uniq a']
theorem xf{σ:ah}{a b c d:Int}:g5 (.tup [.int a,.int b]) (.tup [.int c,.int d]) σ=some (decide (a=c/\ b=d)):=by
 unfold g5;exact congrArg some (decide_eq_decide.mpr ⟨λh=>by injection h with h;injection h with aa h;injection aa with aa;injection h with h2 h;injection h2 with h2;exact⟨aa,h2⟩,λzz=>zz.elim λh h'=>by rw[h,h']⟩)
noncomputable def St(xs:List UInt8)(e:Nat)(p:Int)(R:Option (List UInt8)):Prop:=(p= -1/\ R=none) \/ ∃k:Nat,p=k/\ k<=e/\ R=some (aR xs k e)
theorem St.p{xs:List UInt8}{e:Nat}{p:Int}{R:Option (List UInt8)}(h:St xs e p R):p= -1 \/(0<=p/\ p<=e):=h.imp (·.1) λzz=>zz.elim λ_w zz=>zz.elim λh zz=>zz.elim λaz _w=>h▸⟨cD _,aX.mpr az⟩
theorem St.left{xs:List UInt8}{e:Nat}{p:Int}{R:Option (List UInt8)}(h:St xs e p R)(h0:0<=p):R=some (aR xs p.toNat e):=h.elim (λh=>absurd (h.1▸h0) (by decide)) λzz=>zz.elim λk zz=>zz.elim λh zz=>zz.elim λ_w hR=>by rw[h,fc];exact hR
theorem St.nil{xs:List UInt8}{e:Nat}{p:Int}{R:Option (List UInt8)}(h:St xs e p R)(h0:¬0<=p):R=none:=h.elim (·.2) λzz=>zz.elim λk zz=>zz.elim λh zz=>zz.elim λ_w _w=>absurd (h▸cD k) h0
theorem St.no{xs:List UInt8}{e:Nat}:St xs e (-1) none:=.inl ⟨rfl,rfl⟩
noncomputable abbrev Go(R R':Option (List UInt8))(f:List UInt8->Option (Int×List UInt8))(v:Int):Prop:=R.bind f=R'.map (Prod.mk v)
theorem Go.then{R R':Option (List UInt8)}{f:List UInt8->Option (Int×List UInt8)}{v:Int}{β:Type}{F:Int×List UInt8->Option β}(h:Go R R' f v):R.bind (λr=>(f r).bind F)=R'.bind λr=>F (v,r):=by
 rw[<-WU,h];cases R'<;>rfl
section
variable{n:Nat}{σ:ah}{Q:cR}{E:Nat->ah->Prop}{xs:List UInt8}{sp e:Nat}{p:Int}{R:Option (List UInt8)}
theorem qD{k:Nat}(w:σ.bg)(g:σ.get sp=de p e)(ak:xs.length<=100000)(he:e<=xs.length)(S:St xs e p R)(az:k<=4)
  (h:∀v p' R' σ',Go R R' (dc k) v->St xs e p' R'->aw [sp] σ σ'->σ'.get sp=de p' e->Q (.int v) σ'):bH fn bk bl (n+1) 55 [.bytes xs,.loc sp,.int k] σ Q E:=by
 refine qw w g (aB ak (by decide)) (aX.mpr he) (aB az (by decide)) (λσ' h0 aa u g'=>?_) (λσ' hn u g'=>h 0 (-1) none σ' ?_ .no u g')
 ·obtain⟨q,rfl⟩:=iy h0;have aa:q+k<=e:=aX.mp aa;refine h _ ((q+k:Nat):Int) (some (aR xs (q+k) e)) σ' ?_ (.inr ⟨_,rfl,aa,rfl⟩) u g';rw[S.left h0];exact sg he aa
 ·show R.bind _=none;rcases S with⟨_,rfl⟩|⟨q,rfl,hq,rfl⟩
  ·rfl
  ·exact xb he hq λh=>hn ⟨cD _,aX.mpr h⟩
theorem AM{s:Bool}(w:σ.bg)(g:σ.get sp=de p e)(ak:xs.length<=100000)(he:e<=xs.length)(S:St xs e p R)
  (h:∀v p' R' σ',Go R R' (eB s) v->St xs e p' R'->dJ v->aw [sp] σ σ'->σ'.get sp=de p' e->Q (.int v) σ'):bH fn bk bl (n+2) 56 [.bytes xs,.loc sp,.bool s] σ Q E:=by
 refine AH w g (aB ak (by decide)) he S.p (λv p' σ' h0 hr aa h2 ae u g'=>h v p' (some (aR xs p' e)) σ' (by rw[S.left h0];exact hr) (.inr ⟨_,rfl,h2,rfl⟩) ae u g') (λv σ' hr ae u g'=>h v (-1) none σ' ?_ .no ae u g');by_cases h0:0<=p
 ·rw[S.left h0];exact hr h0
 ·rw[S.nil h0];rfl
end
section
variable{n:Nat}{σ:ah}{Q:cR}{E:Nat->ah->Prop}{xs:List UInt8}{sp e:Nat}{p:Int}{R:Option (List UInt8)}
noncomputable def AN(X:Option (Int×Int×Int×List UInt8))(e:Nat)(p':Int)(y:Int×Int×Int×List Op):Prop:=(p'=e/\ hA X (some y)) \/(p'= -1/\ hA X none)
inductive xg (σ:ah) (xs:List UInt8) (sp e:Nat) (p:Int) (v:Int) (R:Option (List UInt8)) (ρ:aQ):Prop
 |mk (w:σ.bg) (g:σ.get sp=de p e) (S:St xs e p R) (r0:ρ 0=some (.bytes xs)) (bN:ρ 1=some (.loc sp)) (cu:ρ 2=some (.int v))
theorem Sh{ρ:aQ}{v:Int}{P:cq}(H:xg σ xs sp e p v R ρ)(ak:xs.length<=100000)(he:e<=xs.length)
  (h:∀(c d a:Int) (k:Nat) (ops:List Op) (p':Int) σ',AN (R.bind (fY v)) e p' (c,d,a,ops)->dJ c->dJ d->σ.next<=k->σ'.get k=.list (ops.map Op.v)->aw [sp] σ σ'->σ'.get sp=de p' e->(P.V (.tup [.int c,.int d,.int a,.loc k]) σ').P):
  (sB (TT (n+4)) (aG (aG (aG k2.body))) P ρ σ).P:=by
 nomatch H.4,H.5;refine AM H.1 H.2 ak he H.3 λc p4 si aJ e1 S4 bc u1 g1=>?_;nomatch H.4,H.5;refine AM u1.1 g1 ak he S4 λd p5 R5 aC e2 r8 bd u2 g2=>?_;have U2:=u1.trans u2;have last:∀{a:Int}{p6:Int}{R6:Option (List UInt8)}{aU:ah}{Q:cR}{E:Nat->ah->Prop},Go R5 R6 (ji v) a->St xs e p6 R6->aw [sp] aC aU->aU.get sp=de p6 e->(∀k ops p' σ',AN (R.bind (fY v)) e p' (c,d,a,ops)->σ.next<=k->σ'.get k=.list (ops.map Op.v)->aw [sp] σ σ'->σ'.get sp=de p' e->Q (.loc k) σ')->bH fn bk bl (n+4) 58 [.bytes xs,.loc sp,.int c,.int d] aU Q E:=λ{a p6 R6 aU _w _w} e3 mK u3 g3 aZ=>by
  have X1:R.bind (fY v)=si.bind λr=>(eB true r).bind λy=>(ji v y.2).bind λz=>some (c,y.1,z.1,z.2):=e1.then;have X2:_=R5.bind λr=>(ji v r).bind λz=>some (c,d,z.1,z.2):=X1.trans e2.then;have X:R.bind (fY v)=R6.bind λr=>some (c,d,a,r):=X2.trans e3.then;have U3:=U2.trans u3;refine Gj u3.1 g3 ak he mK.p bd (λops k c9 h6 hR az lN u4 eN=>?_) (λops k c9 hR az lN u4 eN=>?_)
  ·refine aZ k _ e c9 (.inl ⟨rfl,?_⟩) (aB U3.2 az) lN (U3.trans u4) eN;rw[X,mK.left h6];exact⟨_,hR,rfl⟩
  ·refine aZ k ops (-1) c9 (.inr ⟨rfl,?_⟩) (aB U3.2 az) lN (U3.trans u4) eN;rw[X];by_cases h6:0<=p6
   ·rw[mK.left h6];exact⟨_,hR h6,rfl⟩
   ·rw[mK.nil h6];rfl
 by_cases ai:v=1
 ·nomatch H.4,H.5,H.6,ai;refine qD (k:=1) u2.1 g2 ak he r8 (by decide) λa p6 R6 aU e3 mK u3 g3=>?_;nomatch H.4,H.5;refine last (by unfold ji;rw[Go];simp only[if_pos ai];exact e3) mK u3 g3 λk ops p' σ' a b dL lk e'=>?_;exact h c d _ k ops p' σ' a bc bd b dL lk e'
 ·nomatch H.4,H.5,H.6,ai;refine AM u2.1 g2 ak he r8 λa p6 R6 aU e3 mK _w u3 g3=>?_;nomatch H.4,H.5;refine last (by unfold ji;rw[Go];simp only[if_neg ai];exact e3) mK u3 g3 λk ops p' σ' a b dL lk e'=>?_;exact h c d _ k ops p' σ' a bc bd b dL lk e'
theorem Si{ρ:aQ}{v:Int}{P:cq}(H:xg σ xs sp e p v R ρ)(ak:xs.length<=100000)(he:e<=xs.length)
  (h:∀p' σ',aw [sp] σ σ'->xg σ' xs sp e p' v (R.bind (ic v)) ρ->(sB (TT (n+4)) (aG (aG (aG k2.body))) P ρ σ').P):(sB (TT (n+4)) (aG (aG k2.body)) P ρ σ).P:=by
 unfold ic at h;by_cases ai:v=4
 ·simp only[if_pos ai]at h;nomatch H.4,H.5,H.6,ai;refine qD (k:=1) H.1 H.2 ak he H.3 (by decide) λa p4 si aJ e1 S4 u1 g1=>?_;nomatch H.4,H.5;refine qD (k:=1) u1.1 g1 ak he S4 (by decide) λb p5 R5 aC e2 r8 u2 g2=>?_;have U:=u1.trans u2;rw[e1.then,(e2.then (F:=λy=>if a=4/\ y.1=0 then some y.2 else none):(si.bind λr=>(dc 1 (a,r).snd).bind λy=>if(a,r).fst=4/\ y.fst=0 then some y.snd else none)=_)]at h;by_cases hab:a=4/\ b=0
  ·simp only[if_pos hab]at h;refine Ask.run λd=>Ask.back (a:=sB (TT (n+4)) (aG (aG (aG k2.body))) P _ _) (d xf (nL hab)) (h p5 aC U ⟨U.1,g2,?_,H.4,H.5,H.6⟩);cases R5<;>exact r8
  ·simp only[if_neg hab]at h;refine Ask.run λd=>Ask.back (a:=sB (TT (n+4)) (aG (aG (aG k2.body))) P _ _) (d xf (rT hab) H.5 g2 (of_decide_eq_true rfl)) (h (-1) _ (U.set (.inl (.head _)) (U.1.lt g2 (aA rfl))) ⟨U.1.set (U.1.lt g2 (aA rfl)),cT,?_,H.4,H.5,H.6⟩);cases R5<;>exact .no
 ·simp only[if_neg ai]at h;refine Ask.run λd=>Ask.back (a:=sB (TT (n+4)) (aG (aG (aG k2.body))) P _ _) (d H.6 (decide_eq_false ai) rfl) (h p σ (.refl H.1) ⟨H.1,H.2,?_,H.4,H.5,H.6⟩);rw[show R.bind (λr=>some r)=R from by cases R<;>rfl]at ⊢;exact H.3
theorem ul{v:Int}:kj v [.int 1,.int 3,.int 4]=some (decide (v∈([1,3,4]:List Int))):=Aq [1,3,4]
theorem xh{v:Int}:v∈([1,3,4]:List Int)↔v=1 \/v=3 \/v=4:=by simp only[gA,el,or_false]
theorem Sj{p:Nat}(w:σ.bg)(g:σ.get sp=de p e)(ak:xs.length<=100000)(he:e<=xs.length)(hpe:p<=e)
  (h:∀(c d a:Int) (k:Nat) (ops:List Op) (p':Int) σ',AN (gv (aR xs p e)) e p' (c,d,a,ops)->dJ c->dJ d->σ.next<=k->σ'.get k=.list (ops.map Op.v)->aw [sp] σ σ'->σ'.get sp=de p' e->Q (.tup [.int c,.int d,.int a,.loc k]) σ'):
  bH fn bk bl (n+5) 59 [.bytes xs,.loc sp] σ Q E:=by
 refine bz rfl ?_;nomatch w;refine qD (k:=1) w g ak he (.inr ⟨p,rfl,hpe,rfl⟩) (by decide) λv p1 R1 aJ e1 S1 u1 g1=>?_;nomatch w;refine qD (k:=1) u1.1 g1 ak he S1 (by decide) λs p2 R2 aC e2 S2 u2 g2=>?_;have U:=u1.trans u2;have X:gv (aR xs p e)=R2.bind λr=>(if mN v s then some r else none).bind λcu=>(ic v cu).bind (fY v):=(show gv (aR xs p e)=R1.bind λr=>(dc 1 r).bind λs=>(if mN v s.1 then some s.2 else none).bind λcu=>(ic v cu).bind (fY v)from e1.then (R:=some _)).trans e2.then;have fin:∀{ρ:aQ}{p3:Int}{R3:Option (List UInt8)}{aU:ah},aw [sp] σ aU->xg aU xs sp e p3 v R3 ρ->gv (aR xs p e)=R3.bind (λcu=>(ic v cu).bind (fY v))->(sB (TT (n+4)) (aG (aG k2.body)) (g9 Q E) ρ aU).P:=λu3 H e3=>
  Si H ak he λp' σ' u4 H4=>Sh H4 ak he λc d a k ops p' σ' q bc bd az lN u5 n1=>h c d a k ops p' σ' (by rw[e3,<-WU];exact q) bc bd (aB (u3.trans u4).2 az) lN ((u3.trans u4).trans u5) n1
 have ltS:=u2.1.lt g2 (aA rfl);by_cases ai:v∈([1,3,4]:List Int)
 ·by_cases ar:s=0
  ·simp only[if_pos (show mN v s from⟨xh.mp ai,ar⟩)]at X;exact Ask.run λd=>Ask.back (a:=sB (TT (n+4)) (aG (aG k2.body)) (g9 Q E) _ _) (d rfl rfl ul (nL ai) rfl (nL ar)) (fin U ⟨U.1,g2,S2,rfl,rfl,rfl⟩ (X.trans (by cases R2<;>rfl)))
  ·simp only[if_neg (λh:mN v s=>ar h.2)]at X;refine Ask.run λd=>Ask.back (a:=sB (TT (n+4)) (aG (aG k2.body)) (g9 Q E) _ _) (d rfl rfl ul (nL ai) rfl (rT ar) rfl g2 (of_decide_eq_true rfl)) (fin (U.set (.inl (.head _)) ltS) ⟨U.1.set ltS,cT,.no,rfl,rfl,rfl⟩ (X.trans (by cases R2<;>rfl)))
 ·simp only[if_neg (λh:mN v s=>ai (xh.mpr h.1))]at X;refine Ask.run λd=>Ask.back (a:=sB (TT (n+4)) (aG (aG k2.body)) (g9 Q E) _ _) (d rfl rfl ul (rT ai) rfl rfl g2 (of_decide_eq_true rfl)) (fin (U.set (.inl (.head _)) ltS) ⟨U.1.set ltS,cT,.no,rfl,rfl,rfl⟩ (X.trans (by cases R2<;>rfl)))
end
theorem Sk{xs:List UInt8}:∀(n i:Nat),findAt xs n i= -1 \/ ∃j:Nat,findAt xs n i=j/\ i<=j/\ j<i+n:=by
 intro n
 induction n with
 |zero=>
  intro i;exact .inl rfl
 |succ n ih=>
  intro i;rw[vo];cases h:xs[i]? with
  |none=>exact .inl rfl
  |some c=>
   dsimp only;by_cases hc:c=0
   ·rw[if_pos hc];exact .inr ⟨i,rfl,bI _,jp (mY n)⟩
   ·rw[if_neg hc];rcases ih (i+1)with h|⟨j,h,aa,h2⟩
    ·exact .inl h
    ·exact .inr ⟨j,h,u8 aa,by exact(dP λaq=>bj.go (.c _ (.c _ (.c _ .o))) (.c 1 (.a (.v 1) (.n 1)) (.a (.a (.v 0) (.n 1)) (.v 2)) (.c 1 (.a (.v 0) (.a (.v 2) (.n 1))) (.v 1) .o)) rfl h2 aq)⟩
theorem Sl{xs:List UInt8}{n i:Nat}(h:xs[i]?=some 0):findAt xs (n+1) i=i:=by
 rw[vo,h];rfl
theorem Sm{xs:List UInt8}{n i:Nat}{c:UInt8}(h:xs[i]?=some c)(hc:c≠0):findAt xs (n+1) i= -1 \/ ∃j:Nat,findAt xs (n+1) i=j/\ i<j/\ j<i+(n+1):=by
 rw[vo,h];dsimp only;rw[if_neg hc];rcases Sk (xs:=xs) n (i+1)with h|⟨j,h,aa,h2⟩
 ·exact .inl h
 ·exact .inr ⟨j,h,aa,by exact(dP λaq=>bj.go (.c _ (.c _ (.c _ .o))) (.c 1 (.a (.v 1) (.n 1)) (.a (.a (.v 0) (.n 1)) (.v 2)) (.c 1 (.a (.v 0) (.a (.v 2) (.n 1))) (.v 1) .o)) rfl h2 aq)⟩
theorem Sn{xs:List UInt8}(h:xs≠[]):pI xs≠"":=λe=>h (by
 have:=congrArg String.toList e
 rw[pI,Vb]at this
 exact ml.mp this)
section
variable{n:Nat}{σ:ah}{Q:cR}{E:Nat->ah->Prop}{xs:List UInt8}{l p e:Nat}
theorem xi(w:σ.bg)(O:eD σ l xs p e)(hS:∀(v:Int) σ',dc 1 (aR xs p e)=some (v,aR xs (p+1) e)->aw [l] σ σ'->eD σ' l xs (p+1) e->Q (.int v) σ')(hF:dc 1 (aR xs p e)=none->E 0 σ):bH fn bk bl (n+2) 3 [.loc l] σ Q E:=by
 refine xa w O (λc hl aa σ' u g=>hS _ σ' (by rw[hl];exact xd) u (O.to g aa)) λhn=>hF (by rw[hn];rfl)
noncomputable abbrev xj(r:List UInt8):Prop:=∀z b7,dc 1 r=some (z,b7)->z≠0
theorem So(w:σ.bg)(O:eD σ l xs p e)
  (hZ:∀σ',dc 1 (aR xs p e)=some (0,aR xs (p+1) e)->aw [l] σ σ'->eD σ' l xs (p+1) e->Q (.str "") σ')
  (hN:∀s σ',xj (aR xs p e)->s≠""->aw [l] σ σ'->Q (.str s) σ')(hF:xj (aR xs p e)->E 0 σ):bH fn bk bl (n+2) 8 [.loc l] σ Q E:=by
 refine bz rfl ?_;have g:=O.1;have hlt:=w.lt g (aA rfl);have ak:=O.2;have he:=O.3;have hp:=O.4;have c:[(0:UInt8)]=[0]/\ 0<=(p:Int)/\ (p:Int)<=e/\ (e:Int)<=xs.length/\ xs.length<=1000000:=⟨rfl,cD _,aX.mpr hp,aX.mpr he,by exact(aB ak (by decide))⟩;have e1:findAt xs ((e:Int)-(p:Int)).toNat ((p:Int)).toNat=findAt xs (e-p) p:=by rw[fc,<-HL hp,fc]
 by_cases hpe:p=e
 ·have z:findAt xs ((e:Int)-(p:Int)).toNat ((p:Int)).toNat<0:=by rw[e1,hpe,oo];exact(show(-1:Int)<0 by decide)
  nomatch g,c,z;exact hF λz r h=>by rw[uh (bb hpe.symm)]at h;exact nomatch h
 have hlt':p<e:=WT hp hpe;obtain⟨dN,hc,hl⟩:=ui he hlt';obtain⟨m,en⟩:∃m,e-p=m+1:=⟨e-p-1,by exact(qO (bb (bF (dU (bE λz1=>bj.go (.c _ (.c _ (.c _ .o))) (.c 1 (.a (.v 1) (.n 1)) (.v 0) (.c 1 (.a (.v 2) (.n 1)) (.n 1) (.c 1 (.v 0) (.a (.v 2) (.v 1)) .o))) rfl hlt' z1 (bb (bF (dU (bE λz2=>bj.go (.c _ (.c _ .o)) (.c 1 (.v 1) (.v 0) (.c 1 (.a (.v 0) (.n 1)) (.v 1) .o)) rfl hp z2)))))))) (bb (dU (bE λz1=>bj.go (.c _ (.c _ (.c _ .o))) (.c 1 (.a (.v 1) (.n 1)) (.v 0) (.c 1 (.a (.v 2) (.n 1)) (.n 1) (.c 1 (.v 0) (.a (.v 2) (.v 1)) .o))) rfl hlt' z1 (bb (bF (dU (bE λz2=>bj.go (.c _ (.c _ .o)) (.c 1 (.v 1) (.v 0) (.c 1 (.a (.v 0) (.n 1)) (.v 1) .o)) rfl hp z2))))))))⟩;rw[en]at e1;by_cases hz:dN=0
 ·subst hz;rw[Sl hc]at e1;have aq:¬findAt xs ((e:Int)-(p:Int)).toNat ((p:Int)).toNat<0:=by rw[e1];exact a6.mpr (cD _)
  nomatch g,c,aq;rw[e1,show(p:Int)-(p:Int)=((0:Nat):Int)from VN _];refine w9 (k:=0) O (λaa=>?_) (λh=>absurd hp h);have hl0:"latin-1"="latin-1"/\ ((xs.drop p).take 0).length<=1000000:=⟨rfl,du _⟩;nomatch hl0;rw[lA];exact hZ _ (by rw[hl];exact xd) ((aw.refl w).set (.inl (.head _)) hlt) (O.to cT hlt')
 ·have no:xj (aR xs p e):=λz r h=>by
   rw[hl,xd]at h;cases h;exact λq=>hz (It.mp (na.mp q))
  rcases Sm (n:=m) hc hz with z|⟨j,z,j1,j2⟩
  ·rw[z]at e1;have aq:findAt xs ((e:Int)-(p:Int)).toNat ((p:Int)).toNat<0:=by rw[e1];decide
   nomatch g,c,aq;exact hF no
  ·rw[z]at e1;have aq:¬findAt xs ((e:Int)-(p:Int)).toNat ((p:Int)).toNat<0:=by rw[e1];exact a6.mpr (cD _)
   nomatch g,c,aq;rw[e1,<-HL (dA j1)];refine w9 (k:=j-p) O (λaa=>?_) (λh=>absurd (by exact(bE λaq=>bj.go (.c _ (.c _ (.c _ (.c _ (.c _ (.c _ .o)))))) (.c 1 (.a (.v 3) (.n 1)) (.v 2) (.c 1 (.a (.v 4) (.n 1)) (.a (.v 1) (.a (.v 3) (.n 1))) (.c 1 (.a (.v 0) (.n 1)) (.a (.v 1) (.v 5)) (.c 1 (.a (.v 2) (.v 1)) (.v 0) (.c 1 (.a (.v 5) (.v 1)) (.v 4) .o))))) rfl (bb (bF en)) j2 (dP h) (bb (dU hp)) (bb (dU (dA j1))))) h);have hl0:"latin-1"="latin-1"/\ ((xs.drop p).take (j-p)).length<=1000000:=⟨rfl,aB (yG ..) (by exact(bE λaq=>bj.go (.c _ (.c _ (.c _ (.c _ .o)))) (.c 1 (.v 0) (.n 100000) (.c 1 (.v 1) (.v 0) (.c 1 (.a (.v 2) (.v 3)) (.v 1) (.c 1 (.a (.n 1000000) (.n 1)) (.v 3) .o)))) rfl ak he aa aq))⟩;have hne:(xs.drop p).take (j-p)≠[]:=λh=>by
    have:=congrArg qM h;rw[l7,oy,HU]at this;exact cn (Wc.mpr ⟨I9 j1,I9 (bU j1 (aB (aB (bb (Nat.add_sub_cancel' (dA j1)).symm) aa) O.3))⟩) this
   nomatch hl0;rw[lA];exact hN _ _ no (Sn hne) ((aw.refl w).set (.inl (.head _)) hlt)
end
section
variable{n:Nat}{σ:ah}{Q:cR}{E:Nat->ah->Prop}{xs:List UInt8}{l p e:Nat}{ax:af}
inductive AO(σ:ah)(xs:List UInt8)(l p e:Nat)(ax:af)(v:Int)(ρ:aQ):Prop
 |mk (w:σ.bg) (O:eD σ l xs p e) (r0:ρ 0=some (.loc l)) (bN:ρ 1=some ax) (cu:ρ 2=some (.int v))
theorem Sp{ρ:aQ}{v:Int}{P:cq}(H:AO σ xs l p e ax v ρ)
  (hS:∀(c d a:Int) (k cl:Nat) (ops:List Op) σ',hA (fY v (aR xs p e)) (some (c,d,a,ops))->dJ c->dJ d->σ.next<=cl->σ'.get cl=ez c d a (.loc k)->σ.next<=k->σ'.get k=.list (ops.map Op.v)->aw [l] σ σ'->(P.V (.loc cl) σ').P)
  (hF:∀ρ' σ',aw [l] σ σ'->hA (fY v (aR xs p e)) none->(P.E 0 ρ' σ').P):
  (sB (TT (n+8)) (aG (aG (aG pK.body))) P ρ σ).P:=by
 nomatch H.3,H.2.1;refine gS H.1 H.2 (λc p1 aJ e1 aa h1e bc u1 g1=>?_) λaJ e1 u1=>hF _ _ u1 (by rw[fY,e1];rfl);have X1:fY v (aR xs p e)=(eB true (aR xs p1 e)).bind λy=>(ji v y.2).bind λz=>some (c,y.1,z.1,z.2):=by rw[fY,e1];rfl
 have O1:=H.2.to g1 h1e;nomatch H.3,g1;refine uk u1.1 O1 (λd p2 aC e2 h2 h2e bd u2 g2=>?_) λaC e2 u2=>hF _ _ (u1.trans u2) (by rw[X1,e2];rfl);have X2:fY v (aR xs p e)=(ji v (aR xs p2 e)).bind λz=>some (c,d,z.1,z.2):=by rw[X1,e2];rfl
 have O2:=O1.to g2 h2e;have U2:=u1.trans u2;have fin:∀{a:Int}{p3:Nat}{aU:ah}{ρ':aQ},ji v (aR xs p2 e)=some (a,aR xs p3 e)->aw [l] aC aU->eD aU l xs p3 e->ρ' 0=some (.loc l)->ρ' 1=some ax->ρ' 5=some (.loc (aU.next+1))->
   (sB (TT (n+8)) [.assign (.attr (.var 5) 7) (.call 39 [(.var 0),(.var 5),(.var 1)]),.ret (.var 5)] P ρ' (((aU.push (.list [])).push (.inst 2 [])).set (aU.next+1) (ez c d a (.loc aU.next)))).P:=by
  intro a p3 aU ρ' e3 u3 O3 r0 bN qv;have hl3:=u3.1.lt O3.1 (aA rfl);have U3:=U2.trans u3;have X3:fY v (aR xs p e)=some (c,d,a,aR xs p3 e):=by rw[X2,e3];rfl
  have u4:aw [l] aU (((aU.push (.list [])).push (.inst 2 [])).set (aU.next+1) (ez c d a (.loc aU.next))):=(((aw.refl u3.1).push).push).set (.inr (gh _)) (b9 _);have hnl:aU.next+1≠l:=cn (bX hl3)
  have eN:(((aU.push (.list [])).push (.inst 2 [])).set (aU.next+1) (ez c d a (.loc aU.next))).get l=eC xs p3 e:=cV hnl.symm (dw hnl.symm (dw (bq hl3) O3.1));have c4:=@cT ((aU.push (.list [])).push (.inst 2 [])) (aU.next+1) (ez c d a (.loc aU.next));generalize (((aU.push (.list [])).push (.inst 2 [])).set (aU.next+1) (ez c d a (.loc aU.next)))=c9 at*;nomatch r0,bN,qv;refine Gl u4.1 (O3.to eN O3.4) c4 hnl bd (λops k dy hR az lN u5=>?_) (λdy hR u5=>hF _ dy ((U3.trans u4).trans u5) (by rw[X3];exact⟨_,hR,rfl⟩));have c5:=u5.at u4.1 c4 (aA rfl) (cI hnl);nomatch qv,c5;exact hS c d a k (aU.next+1) _ _ (by rw[X3];exact⟨_,hR,rfl⟩) bc bd (l8 U3.2) cT (aB U3.2 (aB u4.2 az)) (cV (cn (bU (u4.1.lt c4 (aA rfl)) az)) lN) (((U3.trans u4).trans u5).set (.inr (l8 U3.2)) (u5.1.lt c5 (aA rfl)))
 by_cases ai:v=1
 ·nomatch H.5,ai,H.3,g2;refine xi u2.1 O2 (λa aU e3 u3 O3=>?_) λhn=>hF _ _ U2 (by rw[X2,ji,if_pos ai,hn];rfl);nomatch H.3;refine wX bx ?_;exact fin (by rw[ji,if_pos ai];exact e3) u3 O3 H.3 H.4 rfl
 ·nomatch H.5,ai,H.3,g2;refine gS u2.1 O2 (λa p3 aU e3 h3 h3e _w u3 g3=>?_) λaU e3 u3=>hF _ _ (U2.trans u3) (by rw[X2,ji,if_neg ai,e3];rfl);nomatch H.3;refine wX bx ?_;exact fin (by rw[ji,if_neg ai];exact e3) u3 (O2.to g3 h3e) H.3 H.4 rfl
theorem Sq{v:Int}{r:List UInt8}(h:¬v=4):ic v r=some r:=if_neg h
theorem Sr{ρ:aQ}{v:Int}{P:cq}(H:AO σ xs l p e ax v ρ)
  (hN:∀q σ',ic v (aR xs p e)=some (aR xs q e)->aw [l] σ σ'->AO σ' xs l q e ax v ρ->(sB (TT (n+8)) (aG (aG (aG pK.body))) P ρ σ').P)
  (hF:∀ρ' σ',aw [l] σ σ'->ic v (aR xs p e)=none->(P.E 0 ρ' σ').P):(sB (TT (n+8)) (aG (aG pK.body)) P ρ σ).P:=by
 by_cases ai:v=4
 ·nomatch H.5,ai,H.3,H.2.1;refine xi H.1 H.2 (λa aJ e1 u1 O1=>?_) λhn=>hF _ _ (.refl H.1) (by rw[ic,if_pos ai,hn];rfl);have X1:ic v (aR xs p e)=(dc 1 (aR xs (p+1) e)).bind λy=>if a=4/\ y.1=0 then some y.2 else none:=by rw[ic,if_pos ai,e1];rfl
  nomatch H.3,O1.1;refine xi u1.1 O1 (λb aC e2 u2 O2=>?_) λhn=>hF _ _ u1 (by rw[X1,hn];rfl);have X2:ic v (aR xs p e)=if a=4/\ b=0 then some (aR xs (p+1+1) e)else none:=by rw[X1,e2];rfl
  have U:=u1.trans u2;by_cases hab:a=4/\ b=0
  ·rw[if_pos hab]at X2;exact Ask.run λd=>Ask.back (a:=sB (TT (n+8)) (aG (aG (aG pK.body))) P _ _) (d xf (nL hab)) (hN _ _ X2 U ⟨U.1,O2,H.3,H.4,H.5⟩)
  ·rw[if_neg hab]at X2;exact Ask.run λd=>Ask.back (a:=P.E 0 ρ aC) (d xf (rT hab) H.4) (hF _ _ U X2)
 ·exact Ask.run λd=>Ask.back (a:=sB (TT (n+8)) (aG (aG (aG pK.body))) P _ _) (d H.5 (decide_eq_false ai) rfl) (hN p σ (Sq ai) (.refl H.1) H)
theorem Ss(w:σ.bg)(O:eD σ l xs p e)
  (hS:∀(c d a:Int) (ops:List Op) (k cl:Nat) σ',AL (aR xs p e) (some (c,d,a,ops))->dJ c->dJ d->σ.next<=cl->σ'.get cl=ez c d a (.loc k)->σ.next<=k->σ'.get k=.list (ops.map Op.v)->aw [l] σ σ'->Q (.loc cl) σ')
  (hF:∀σ',AL (aR xs p e) none->aw [l] σ σ'->E 0 σ'):bH fn bk bl (n+9) 40 [.loc l,ax] σ Q E:=by
 refine bz rfl ?_;nomatch O.1;refine xi w O (λv aJ e1 u1 O1=>?_) λhn=>hF _ (show hA (gv _) none by rw[gv,hn];rfl) (.refl w);have X1:gv (aR xs p e)=(dc 1 (aR xs (p+1) e)).bind λs=>(if mN v s.1 then some s.2 else none).bind λcu=>(ic v cu).bind (fY v):=by rw[gv,e1];rfl
 by_cases ai:v∈([1,3,4]:List Int)
 ·have bad:xj (aR xs (p+1) e)->AL (aR xs p e) none:=λno=>by
   show hA (gv _) none;rw[X1];cases hr:dc 1 (aR xs (p+1) e)with
   |none=>rfl
   |some z=>
    have:=no z.1 z.2 hr;show hA (nj (if mN v z.1 then _ else _) _) none;rw[if_neg λh=>this h.2];rfl
  refine Ask.run λd=>?_;refine d rfl ul (nL ai) rfl O1.1 rfl ?_;refine So u1.1 O1 (λaC e2 u2 O2=>?_) (λs aC no ar u2=>?_) λno=>hF _ (bad no) u1
  ·have X2:gv (aR xs p e)=(ic v (aR xs (p+1+1) e)).bind (fY v):=by
    rw[X1,e2];show nj (if mN v 0 then _ else _) _=_;rw[if_pos ⟨xh.mp ai,rfl⟩];rfl
   have U:=u1.trans u2;refine Ask.run λd=>Ask.back (a:=sB (TT (n+8)) (aG (aG pK.body)) (g9 Q E) _ _) (d (nL rfl)) (Sr (ax:=ax) ⟨U.1,O2,rfl,rfl,rfl⟩ (λq aU e3 u3 H3=>?_) λρ' aU u3 e3=>hF _ (show hA (gv _) none by rw[X2,e3];rfl) (U.trans u3));have X3:gv (aR xs p e)=fY v (aR xs q e):=by rw[X2,e3];rfl
   exact Sp H3 (λc d a k cl ops c9 q bc bd a1 a2 a3 a4 u4=>hS c d a ops k cl c9 (show hA (gv _) _ by rw[X3];exact q) bc bd (aB (U.trans u3).2 a1) a2 (aB (U.trans u3).2 a3) a4 ((U.trans u3).trans u4)) λρ' c9 u4 q=>hF _ (show hA (gv _) _ by rw[X3];exact q) ((U.trans u3).trans u4)
  ·nomatch ar;exact hF _ (bad no) (u1.trans u2)
 ·refine Ask.run λd=>?_;refine d rfl ul (rT ai) rfl rfl (hF _ (show hA (gv _) none from ?_) u1);rw[X1];cases dc 1 (aR xs (p+1) e)with
  |none=>rfl
  |some z=>
   show hA (nj (if mN v z.1 then _ else _) _) none;rw[if_neg λh=>ai (xh.mpr h.1)];rfl
end
open Classical in
noncomputable def iO(c d:Int)(r:List UInt8):Option (List Op):=if h:∃x,dC c d r x then h.choose else none
theorem dC.eq{c d:Int}{r:List UInt8}{x:Option (List Op)}(h:dC c d r x):iO c d r=x:=
 (dif_pos ⟨x,h⟩).trans ((WV ⟨x,h⟩).uniq h)
noncomputable def fZ(r:List UInt8):Option ba:=(gv r).bind λx=>(iO x.1 x.2.1 x.2.2.2).map λops=>⟨x.1,x.2.1,x.2.2.1,strip ops⟩
theorem hA.eq{r:List UInt8}{X:Option (Int×Int×Int×List Op)}(h:hA (gv r) X):fZ r=X.map λx=>⟨x.1,x.2.1,x.2.2.1,x.2.2.2⟩:=by
 unfold fZ;generalize gv r=z at h;cases z with
 |none=>rw[show X=none from h];rfl
 |some x=>
  obtain⟨y,hR,hX⟩:=h;rw[hX];show(iO _ _ _).map _=_;rw[hR.eq];cases y<;>rfl
noncomputable def mk(xs:List UInt8)(a:Nat):Int:=le ((xs.drop (a+4)).take 4)
noncomputable def n8(xs:List UInt8)(a:Nat):Option Nat:=(dc 4 (aR xs a xs.length)).bind λx=>if 4<=x.1/\ (a:Int)+4+x.1<=xs.length then some (a+4+x.1.toNat)else none
noncomputable abbrev gT:=Nat×Nat
inductive fB (xs:List UInt8):Nat->Option (List gT)->Prop
 |fin:fB xs xs.length (some [])
 |bad {a:Nat} (h:a<xs.length) (e:n8 xs a=none):fB xs a none
 |more {a b:Nat} {X:Option (List gT)} (h:a<xs.length) (e:n8 xs a=some b) (t:fB xs b X):fB xs a (X.map ((a,b)::·))
theorem fB.uniq{xs:List UInt8}{a:Nat}{X Y:Option (List gT)}(h:fB xs a X):fB xs a Y->X=Y:=by
 induction h generalizing Y with
 |fin=>
  intro k;cases k with
  |fin=>rfl
  |bad h' _=>exact absurd h' (lV _)
  |more h' _ _=>exact absurd h' (lV _)
 |bad h e=>
  intro k;cases k with
  |fin=>exact absurd h (lV _)
  |bad _ _=>rfl
  |more _ e' _=>rw[e]at e';cases e'
 |more h e t ih=>
  intro k;cases k with
  |fin=>exact absurd h (lV _)
  |bad _ e'=>rw[e]at e';cases e'
  |more _ e' t'=>rw[e]at e';cases e';rw[ih t']
open Classical in
noncomputable def Gn(xs:List UInt8):Option (List gT):=if h:∃x,fB xs 0 x then h.choose else none
theorem fB.eq{xs:List UInt8}{x:Option (List gT)}(h:fB xs 0 x):Gn xs=x:=(dif_pos ⟨x,h⟩).trans ((WV ⟨x,h⟩).uniq h)
structure eE where
 m:Int
 h:ba
 b:Int
 s:Int
 ops:List Op
noncomputable abbrev d9:Int:=4294967295
noncomputable def iP(H:List (Nat×ba))(m:Int):Option ba:=(H.find? λe=>decide ((e.1:Int)=m)).map (·.2)
noncomputable def dM(xs:List UInt8):List gT->Option (List (Nat×ba))
 |[]=>some []
 |t::r=>if mk xs t.1=d9 then(fZ (aR xs (t.1+8) t.2)).bind λh=>(dM xs r).map ((t.1,h)::·)else dM xs r
noncomputable def gb(xs:List UInt8)(H:List (Nat×ba))(t:gT):Option eE:=(iP H (mk xs t.1)).bind λh=>
 (dc 4 (aR xs (t.1+8) t.2)).bind λb=>(dc 4 b.2).bind λs=>(iO h.c h.d s.2).map λops=>⟨mk xs t.1,h,b.1,s.1,strip ops⟩
noncomputable def fu(xs:List UInt8)(H:List (Nat×ba)):List gT->Option (List eE)
 |[]=>some []
 |t::r=>if mk xs t.1=d9 then fu xs H r else(gb xs H t).bind λx=>(fu xs H r).map (x::·)
open Classical in
noncomputable def gw(xs:List UInt8):Option (List eE):=(Gn xs).bind λes=>(dM xs es).bind λH=>fu xs H es
noncomputable def mO(ms:List Int)(m:Int):Int:=((indexOf m ms).getD 0:Nat)
noncomputable def eE.row(ms:List Int)(r:eE):lG:=⟨mO ms r.m,r.h.c,r.h.d,r.h.r,r.h.ops,r.b,r.s,r.ops⟩
noncomputable def jj(rs:List eE):List lG:=rs.map (eE.row (rs.map (·.m)))
theorem idx_eq{x k:Int}{xs:List Int}(e:x=k):indexOf k (x::xs)=some 0:=if_pos e
theorem qE{x k:Int}{xs:List Int}(e:¬x=k):indexOf k (x::xs)=(indexOf k xs).map (· +1):=if_neg e
theorem xk{k:Int}{ys:List Int}:∀{xs:List Int}{j:Nat},indexOf k xs=some j->indexOf k (xs++ys)=some j:=by
 intro xs
 induction xs with
 |nil=>
  intro _ h;exact nomatch h
 |cons x xs ih=>
  intro j h;by_cases e:x=k
  ·rw[idx_eq e]at h;exact(idx_eq e).trans h
  ·rw[qE e]at h;refine(qE e).trans ?_;show(indexOf k (xs++ys)).map _=_;cases ak:indexOf k xs with
   |none=>rw[ak]at h;exact nomatch h
   |some i=>rw[ak]at h;rw[ih ak];exact h
theorem xl{k:Int}:∀{xs:List Int},k∈xs-> ∃j,indexOf k xs=some j
 |x::xs,h=>by
  by_cases e:x=k
  ·exact⟨0,idx_eq e⟩
  ·obtain⟨j,a8⟩:=xl ((gA.mp h).resolve_left λq=>e q.symm);exact⟨j+1,by rw[qE e,a8];rfl⟩
theorem AP{rs:List eE}{x:eE}:jj (rs++[x])=jj rs++[x.row (rs.map (·.m)++[x.m])]:=by
 unfold jj;rw[cN,cN];refine congrArg (· ++[eE.row (rs.map (·.m)++[x.m]) x]) (uP λr hr=>?_);obtain⟨j,a8⟩:=xl (k:=r.m) (xs:=rs.map (·.m)) (iS.mpr ⟨r,hr,rfl⟩);have e:mO (rs.map (·.m)++[x].map (·.m)) r.m=mO (rs.map (·.m)) r.m:=by unfold mO;rw[a8,xk a8]
 unfold eE.row;rw[e]
section
variable{n:Nat}{σ:ah}{Q:cR}{E:Nat->ah->Prop}{xs:List UInt8}{l:Nat}
theorem Gp{a e:Nat}(g:σ.get l=.inst 0 [])(aa:a<=e)(h2:e<=xs.length)(ak:xs.length<=100000)(h:Q .none (σ.set l (eC xs a e))):bH fn bk bl (n+1) 0 [.loc l,.bytes xs,.int a,.int e] σ Q E:=by
 refine bz rfl ?_;have f4:=aB ak (show 100000<=1000000 by decide);nomatch cD a,aX.mpr aa,f4,aX.mpr h2,g;rw[lA,lA];exact h
theorem xm{p e:Nat}(w:σ.bg)(O:eD σ l xs p e)
  (hS:∀v σ',dc 4 (aR xs p e)=some (v,aR xs (p+4) e)->v=le ((xs.drop p).take 4)->0<=v->aw [l] σ σ'->eD σ' l xs (p+4) e->Q (.int v) σ')(hF:dc 4 (aR xs p e)=none->E 0 σ):bH fn bk bl (n+2) 5 [.loc l] σ Q E:=
 xc (k:=4) rfl (by decide) w O (λv hr aa h2 σ' u g'=>hS v σ' hr (congrArg kX (cW (hr.symm.trans (sg O.3 aa)))) h2.1 u (O.to g' aa)) hF
end
noncomputable abbrev dH:=Nat×Nat×Nat
noncomputable abbrev qF(xs:List UInt8)(t:dH):af:=.tup [.int t.1,.int (mk xs t.1),.loc t.2.2]
noncomputable abbrev cz(t:dH):gT:=(t.1,t.2.1)
inductive jD (xs:List UInt8) (B:Nat) (ts:List dH):Prop
 |mk (lo:∀t∈ts,B<t.2.2) (f1:∀t∈ts,t.1+8<=t.2.1) (f2:∀t∈ts,t.2.1<=xs.length) (ord:ts.Pairwise λt u=>t.1<u.1/\ t.2.2<u.2.2)
theorem AQ{xs:List UInt8}{a:Nat}{v:Int}{r:List UInt8}(h:dc 4 (aR xs a xs.length)=some (v,r)):n8 xs a=if 4<=v/\ (a:Int)+4+v<=xs.length then some (a+4+v.toNat)else none:=by
 unfold n8;rw[h];rfl
inductive Gq (σ:ah) (xs:List UInt8) (a:Nat) (ts:List dH) (ρ:aQ) (aj:ah):Prop
 |mk (r0:ρ 0=some (.bytes xs)) (bN:ρ 1=some (.loc σ.next)) (cu:ρ 2=some (.int a)) (aM:a<=xs.length) (g:aj.get σ.next=.list (ts.map (qF xs))) (ga:∀t∈ts,aj.get t.2.2=eC xs (t.1+8:Nat) t.2.1) (E:jD xs σ.next ts) (fk:∀t∈ts,t.1<a) (bS:∀t∈ts,t.2.2<aj.next) (len:ts.length<=a) (u:aw [] σ aj) (n:σ.next<aj.next) (R:∀X,fB xs a X->fB xs 0 (X.map (ts.map cz++·)))
section
variable{n:Nat}{σ:ah}{Q:cR}{E:Nat->ah->Prop}{xs:List UInt8}
theorem Su(w:σ.bg)(ak:xs.length<=100000)
  (hS:∀(ts:List dH) σ',fB xs 0 (some (ts.map cz))->jD xs σ.next ts->σ'.get σ.next=.list (ts.map (qF xs))->(∀t∈ts,σ'.get t.2.2=eC xs (t.1+8:Nat) t.2.1)->ts.length<=xs.length->aw [] σ σ'->Q (.loc σ.next) σ')
  (hF:∀σ',fB xs 0 none->aw [] σ σ'->E 0 σ'):bH fn bk bl (n+3) 41 [.bytes xs] σ Q E:=by
 refine bz rfl ?_;have f4:=aB ak (show 100000<=1000000 by decide);nomatch w;refine lB (λ(a:Nat×List dH) ρ aj=>Gq σ xs a.1 a.2 ρ aj) (λa=>xs.length-a.1) (0,[]) ⟨rfl,rfl,rfl,du _,bx,(λ_w h=>nomatch h),⟨(λ_w h=>nomatch h),(λ_w h=>nomatch h),(λ_w h=>nomatch h),.nil⟩,(λ_w h=>nomatch h),(λ_w h=>nomatch h),du _,.push (.refl w),b9 _,λX hX=>by cases X<;>exact hX⟩ ?_;intro⟨a,ts⟩ ρ aj I;replace I:Gq σ xs a ts ρ aj:=I;by_cases hlt:a<xs.length
 ·have bM:(a:Int)<(xs.length:Int):=dR.mpr hlt;have u:=I.11;nomatch I.1,I.2,I.3,f4,bM;refine Gp bx I.4 (bI _) ak ?_;have u1:aw [] aj ((aj.push (.inst 0 [])).set aj.next (eC xs a xs.length)):=((aw.refl u.1).push).set (.inr (bI _)) (b9 _);have O1:eD ((aj.push (.inst 0 [])).set aj.next (eC xs a xs.length)) aj.next xs a xs.length:=⟨cT,ak,bI _,I.4⟩
  nomatch cT;generalize ((aj.push (.inst 0 [])).set aj.next (eC xs a xs.length))=Yc at*;refine xm u1.1 O1 (λv aC hr _w hv0 u2 O2=>?_) (λhr=>hF _ (I.13 none (.bad hlt (by unfold n8;rw[hr];rfl))) (u.trans u1));have V2:aw [] aj aC:=u1.over u2 (ik (bI _));have U2:=u.trans V2;have no:¬(4<=v/\ (a:Int)+4+v<=xs.length)->E 0 aC:=λh=>hF _ (I.13 none (.bad hlt ((AQ hr).trans (if_neg h)))) U2;by_cases ai:v<4
  ·nomatch I.1,I.3,f4,ai;exact no λh=>a6.mpr h.1 ai
  by_cases he:(xs.length:Int)<(a:Int)+4+v
  ·nomatch I.1,I.3,f4,ai,he;exact no λh=>a6.mpr h.2 he
  have hnx:n8 xs a=some (a+4+v.toNat):=(AQ hr).trans (if_pos ⟨a6.mp ai,a6.mp he⟩);obtain⟨m,rfl⟩:=iy hv0;rw[fc]at hnx;have hb1:a+8<=a+4+m:=fH (aX.mp (a6.mp ai)) (a+4);have hb2:a+4+m<=xs.length:=aX.mp (a6.mp he);have gl2:=V2.aV u.1 I.5 (aA rfl);have ga2:∀t∈ts,aC.get t.2.2=eC xs (t.1+8:Nat) t.2.1:=λt ht=>V2.aV u.1 (I.6 t ht) (aA rfl);nomatch I.1,I.2,I.3,f4,ai,he;refine Gp (a:=a+4) (e:=a+4+m) bx (c8 ..) hb2 ak ?_;have u3:aw [] aC ((aC.push (.inst 0 [])).set aC.next (eC xs (a+4:Nat) (a+4+m:Nat))):=((aw.refl u2.1).push).set (.inr (bI _)) (b9 _);have O3:eD ((aC.push (.inst 0 [])).set aC.next (eC xs (a+4:Nat) (a+4+m:Nat))) aC.next xs (a+4) (a+4+m):=⟨cT,ak,hb2,c8 ..⟩
  have gl3:=u3.aV u2.1 gl2 (aA rfl);have n3:((aC.push (.inst 0 [])).set aC.next (eC xs (a+4:Nat) (a+4+m:Nat))).next=aC.next+1:=rfl
  nomatch I.2,I.3,gl3,cT;generalize ((aC.push (.inst 0 [])).set aC.next (eC xs (a+4:Nat) (a+4+m:Nat)))=aU at*;refine xm u3.1 O3 (λv2 c9 hr2 hv2 _w u4 O4=>?_) (λhr2=>absurd hr2 (by rw[sg (p:=a+4) (k:=4) hb2 hb1];exact B5));have V4:aw [] aC c9:=u3.over u4 (ik (bI _));have gl4:=V4.aV u2.1 gl2 (aA rfl);have c5:(ts.map (qF xs)).length<1000000:=j4 (by have:=I.10;exact(dP λaq=>bj.go (.c _ (.c _ (.c _ .o))) (.c 1 (.v 0) (.n 100000) (.c 1 (.a (.v 1) (.n 1)) (.v 0) (.c 1 (.v 2) (.v 1) (.c 1 (.n 1000000) (.v 2) .o)))) rfl ak hlt this aq));have nlt:aC.next<c9.next:=bU (bU (b9 _) (bb n3.symm)) u4.2
  have s2:σ.next<aC.next:=bU I.12 V2.2
  have l2':∀t∈ts,t.2.2<aC.next:=λt ht=>bU (I.9 t ht) V2.2
  have ab:a<a+4+m:=bU (jp (by decide)) hb1;nomatch gl4,c5;refine⟨(a+4+m,ts++[(a,a+4+m,aC.next)]),WW hlt ab,I.1,I.2,rfl,hb2,?_,?_,⟨db I.7.1 s2,db I.7.2 hb1,db I.7.3 hb2,uB.mpr ⟨I.7.4,xK _ _,λt ht b ae=>bW.mp ae▸⟨I.8 t ht,l2' t ht⟩⟩⟩,db (λt ht=>gB (I.8 t ht) ab) ab,db (λt ht=>gB (l2' t ht) nlt) nlt,by rw[eW];exact cM I.10 ab,(U2.trans V4).set (.inr (bI _)) (gB s2 nlt),gB s2 nlt,λX hX=>?_⟩
  ·rw[hv2,cN];exact cT
  ·exact db (λt ht=>cV (cn (I.7.1 t ht)) (V4.aV u2.1 (ga2 t ht) (aA rfl))) (cV (cn s2) O4.1)
  ·have:=I.13 _ (.more hlt hnx hX);rw[cN];cases X with
   |none=>exact this
   |some y=>show fB xs 0 (some (_++[_]++y));rw[cG];exact this
 ·have hae:xs.length=a:=qO (bE hlt) I.4;have bM:¬(a:Int)<(xs.length:Int):=λh=>hlt (dR.mp h);have fin:=I.13 (some []) (hae▸.fin);rw[yo,dK]at fin;nomatch I.1,I.2,I.3,f4,bM;exact hS ts aj fin I.7 I.5 I.6 (aB I.10 I.4) I.11
end
noncomputable abbrev gd:=Nat×Nat×ba
noncomputable abbrev mE(e:gd):Int×af:=((e.1:Int),.loc e.2.1)
noncomputable abbrev gU(e:gd):Nat×ba:=(e.1,e.2.2)
noncomputable def n9(K:List gd)(m:Int):Option gd:=K.find? λe=>decide ((e.1:Int)=m)
theorem Gr{m:Int}{e:gd}{K:List gd}(h:(e.1:Int)=m):n9 (e::K) m=some e:=sy (p:=λe:gd=>decide ((e.1:Int)=m)) (decide_eq_true h)
theorem Gs{m:Int}{e:gd}{K:List gd}(h:¬(e.1:Int)=m):n9 (e::K) m=n9 K m:=qT (p:=λe:gd=>decide ((e.1:Int)=m)) λq=>h (of_decide_eq_true q)
theorem Gu{m:Int}:∀{K:List gd},dX m (K.map mE)=(n9 K m).map λe=>.loc e.2.1:=by
 intro K
 induction K with
 |nil=>
  exact rfl
 |cons e K ih=>
  by_cases h:(e.1:Int)=m
  ·rw[Gr h];exact if_pos h
  ·rw[Gs h];exact(if_neg h).trans ih
theorem Gv{m:Int}:∀{K:List gd},iP (K.map gU) m=(n9 K m).map (·.2.2):=by
 intro K
 induction K with
 |nil=>
  exact rfl
 |cons e K ih=>
  by_cases h:(e.1:Int)=m
  ·rw[Gr h];exact congrArg (a7 _) (sy (p:=λe:Nat×ba=>decide ((e.1:Int)=m)) (decide_eq_true h))
  ·rw[Gs h];exact(congrArg (a7 _) (qT (p:=λe:Nat×ba=>decide ((e.1:Int)=m)) λq=>h (of_decide_eq_true q))).trans ih
theorem AR{m:Int}{K:List gd}{e:gd}(h:n9 K m=some e):e∈K/\ (e.1:Int)=m:=
 ⟨WX h,of_decide_eq_true (WY (p:=λe:gd=>decide ((e.1:Int)=m)) h)⟩
theorem Gw{k:Int}{v:af}:∀{es:List (Int×af)},(∀e∈es,e.1≠k)->hY k v es=es++[(k,v)]:=by
 intro es
 induction es with
 |nil=>
  intro _;exact rfl
 |cons e es ih=>
  intro h;exact(if_neg (h e (.head _))).trans (congrArg _ (ih λf hf=>h f (.tail _ hf)))
inductive mD (bT:ah) (xs:List UInt8) (eL B:Nat) (ts:List dH):Prop
 |mk (ak:xs.length<=100000) (E:jD xs eL ts) (l:eL<B) (fE:∀t∈ts,t.2.2<B) (len:ts.length<=100000) (s:bT.next<=eL)
theorem jD.inj{xs:List UInt8}{B:Nat}{ts:List dH}(h:jD xs B ts):∀t∈ts,∀u∈ts,t.2.2=u.2.2->t=u:=by
 intro t ht u hu e;obtain⟨i,ao,rfl⟩:=vc.mp ht;obtain⟨j,a8,rfl⟩:=vc.mp hu;have o:=uD.mp h.4;rcases B0 i j with q|q|q
 ·exact absurd e (bq (o i j ao a8 q).2)
 ·subst q;rfl
 ·exact absurd e (cn (o j i a8 ao q).2)
theorem jD.after{xs:List UInt8}{B:Nat}{ts dn rt:List dH}{t:dH}(h:jD xs B ts)(e:ts=dn++t::rt):∀u∈rt,t.1<u.1/\ t.2.2<u.2.2:=
 (VR.mp (uB.mp (e▸h.4)).2.1).1
inductive xn (bT:ah) (xs:List UInt8) (eL B:Nat) (ts:List dH) (r:List af) (ρ:aQ) (aj:ah) (dn rt:List dH) (K:List gd):Prop
 |mk (e:ts=dn++rt) (r:r=rt.map (qF xs)) (bN:ρ 1=some (.loc eL)) (cu:ρ 2=some (.loc B)) (lJ:ρ 3=some (.loc (B+1))) (q:dM xs (ts.map cz)=(dM xs (rt.map cz)).map (K.map gU++·)) (jd:aj.get B=.bZ (K.map mE)) (lN:∀e∈K,lF aj (B+2) e.2.1 e.2.2) (bd:∀e∈K,dJ e.2.2.d) (uc:K.Pairwise λe f=>e.2.1<f.2.1) (lt:∀e∈K,e.2.1<aj.next) (key:∀e∈K,∀t∈rt,e.1<t.1) (len:K.length+rt.length<=ts.length) (ga:∀t∈ts,(mk xs t.1≠d9 \/t∈rt)->aj.get t.2.2=eC xs (t.1+8:Nat) t.2.1) (ge:aj.get eL=.list (ts.map (qF xs))) (lK:aj.get (B+1)=.list []) (u:aw [] bT aj) (n:B+2<=aj.next)
section
variable{n:Nat}{xs:List UInt8}
theorem Sv{bT aj:ah}{eL B:Nat}{ts dn rt:List dH}{K:List gd}{v:af}{r:List af}{ρ:aQ}{V:eH}{X:Nat->cX}(F:mD bT xs eL B ts)(I:xn bT xs eL B ts (v::r) ρ aj dn rt K)
  (hF:∀ρ' σ',dM xs (ts.map cz)=none->aw [] bT σ'->(X 0 ρ' σ').P):
  (iX (.tup [4,5,6]) v ρ λρ=>sB (TT (n+9)) [.ite (.cmp .eq (.var 5) (.fz 0)) [.assign (.sub (.var 2) (.var 4)) (.call 40 [(.var 6),(.var 4)])] []] ⟨dY λρ' bP=>∃dn rt K,xn bT xs eL B ts r ρ' bP dn rt K,dY λρ' bP=>∃dn rt K,xn bT xs eL B ts r ρ' bP dn rt K,V,X⟩ ρ aj).P:=by
 have ir:=I.2;cases rt with
 |nil=>exact nomatch ir
 |cons t rt=>
  obtain⟨rfl,rfl⟩:=jM ir;have ht:t∈ts:=I.1▸fK _ (.head _);have aft:=F.2.after I.1;have e':ts=dn++[t]++rt:=by rw[cG];exact I.1
  have lo:=F.2.1 t ht;have fE:=F.4 t ht;have rt':∀u,u∈rt->u∈t::rt:=λ_w h=>.tail _ h;have hl:=I.13;rw[mi]at hl;by_cases hm:mk xs t.1=d9
  ·nomatch hm,I.cu;refine Ss (n:=n) I.17.1 ⟨I.14 t ht (.inr (.head _)),F.1,F.2.3 t ht,F.2.2 t ht⟩ (λc d a ops k cl aC hR bc bd hcl gcl az gk2 u2=>?_) (λaC hR u2=>?_)
   ·have aZ:=hR.eq;have nB:B≠t.2.2:=cn fE;have gd2:=u2.at I.17.1 I.7 (aA rfl) (cI nB);have c5:(K.map mE).length<1000000:=j4 (by have:=F.5;exact(dP λaq=>bj.go (.c _ (.c _ (.c _ .o))) (.c 1 (.a (.v 1) (.a (.v 2) (.n 1))) (.v 0) (.c 1 (.v 0) (.n 100000) (.c 1 (.n 1000000) (.v 1) .o))) rfl hl this aq));have hcl2:=aB I.18 hcl;have hk2:=aB I.18 az;have clk:=u2.1.lt gcl (aA rfl);have U0:aw [] bT (aC.set B (.bZ (hY (t.1:Int) (af.loc cl) (K.map mE)))):=(I.17.over u2 (ik (dA (cM F.6 lo)))).set (.inr (dA (cM F.6 F.3))) (u2.1.lt gd2 (aA rfl));have at2:∀{j o},aj.get j=o->o≠.dead->j≠t.2.2->j≠B->(aC.set B (.bZ (hY (t.1:Int) (af.loc cl) (K.map mE)))).get j=o:=λg h a b=>cV b (u2.at I.17.1 g h (cI a));have big:∀{j},B+2<=j->j≠t.2.2/\ j≠B:=λh=>⟨cn (bU fE (aB (c8 B 2) h)),cn (bU (jp (by decide)) h)⟩;nomatch I.4,gd2,c5;refine⟨dn++[t],rt,K++[(t.1,cl,⟨c,d,a,ops⟩)],e',rfl,I.3,I.4,I.5,?_,?_,?_,db I.9 bd,?_,?_,?_,by rw[eW];exact aB (bb (oJ ..)) hl,?_,at2 I.15 (aA rfl) (bq lo) (bq F.3),at2 I.16 (aA rfl) (cn (bX fE)) (cn (b9 _)),U0,aB I.18 u2.2⟩
    ·rw[I.6];show a7 _ (if mk xs t.1=d9 then(fZ (aR xs (t.1+8) t.2.1)).bind _ else _)=_;rw[if_pos hm,aZ,cN];show a7 _ (a7 _ (dM xs (rt.map cz)))=_;rw[yH];exact congrArg (a7 · _) (funext λz=>(cG (K.map gU) [(t.1,_)] z).symm)
    ·rw[Gw (λp hp=>by
      obtain⟨f,hf,rfl⟩:=iS.mp hp
      exact WZ (dR.mpr (I.12 f hf t (.head _)))),cN];exact cT
    ·refine db (P:=λe:gd=>lF _ (B+2) e.2.1 e.2.2) (λf hf=>?_) ⟨hcl2,k,hk2,cV (big hcl2).2 gcl,cV (big hk2).2 gk2⟩;obtain⟨ol,l,g1,g2⟩:=(I.8 f hf).2;exact⟨(I.8 f hf).1,ol,l,at2 g1 (aA rfl) (big (I.8 f hf).1).1 (big (I.8 f hf).1).2,at2 g2 (aA rfl) (big l).1 (big l).2⟩
    ·exact uB.mpr ⟨I.10,xK _ _,λf hf b ae=>bW.mp ae▸bU (I.11 f hf) hcl⟩
    ·exact db (λf hf=>bU (I.11 f hf) u2.2) clk
    ·exact db (λf hf u hu=>I.12 f hf u (rt' u hu)) λu hu=>(aft u hu).1
    ·intro u hu h;have ne:u≠t:=λq=>h.elim (λh=>h (q▸hm)) λh=>lV _ (q▸(aft u h).1:t.1<t.1);exact at2 (I.14 u hu (h.imp id (rt' u))) (aA rfl) (λq=>ne (F.2.inj u hu t ht q)) (bq (F.4 u hu))
   ·have aZ:=hR.eq;refine hF _ aC ?_ (I.17.over u2 (ik (dA (cM F.6 lo))));rw[I.6];show a7 _ (if mk xs t.1=d9 then(fZ (aR xs (t.1+8) t.2.1)).bind _ else _)=_;rw[if_pos hm,aZ];rfl
  ·have hm':¬mk xs t.1=4294967295:=hm;nomatch hm';exact⟨dn++[t],rt,K,e',rfl,I.3,I.4,I.5,I.6.trans (congrArg (a7 _) (if_neg hm)),I.7,I.8,I.9,I.10,I.11,λf hf u hu=>I.12 f hf u (rt' u hu),u8 hl,λu hu h=>I.14 u hu (h.imp id (rt' u)),I.15,I.16,I.17,I.18⟩
end
noncomputable def sj(σ:ah)(B:Nat)(cl:Int->Nat)(f:Nat)(r:eE):Prop:=B<=f/\ ∃ol,B<=ol/\ σ.get f=gQ (cl r.m) r.b r.s ol/\ σ.get ol=.list (r.ops.map Op.v)/\ lF σ B (cl r.m) r.h
theorem sj.up{σ σ':ah}{B:Nat}{cl:Int->Nat}{f:Nat}{r:eE}(x:sj σ B cl f r)(w:σ.bg){M:List Nat}(u:aw M σ σ')(hM:∀m∈M,m<B):sj σ' B cl f r:=by
 obtain⟨lo,ol,b,g1,g2,c⟩:=x;exact⟨lo,ol,b,u.at w g1 (aA rfl) (kK hM lo),u.at w g2 (aA rfl) (kK hM b),c.up w u hM⟩
noncomputable def um(K:List gd)(m:Int):Nat:=((n9 K m).map (·.2.1)).getD 0
inductive xo (bT:ah) (xs:List UInt8) (eL B:Nat) (ts:List dH) (K:List gd) (r:List af) (ρ:aQ) (aj:ah) (dn rt:List dH) (fs:List Nat) (rs:List eE):Prop
 |mk (e:ts=dn++rt) (r:r=rt.map (qF xs)) (bN:ρ 1=some (.loc eL)) (cu:ρ 2=some (.loc B)) (lJ:ρ 3=some (.loc (B+1))) (q:fu xs (K.map gU) (ts.map cz)=(fu xs (K.map gU) (rt.map cz)).map (rs++·)) (jd:aj.get B=.bZ (K.map mE)) (lN:∀e∈K,lF aj (B+2) e.2.1 e.2.2) (ge:aj.get eL=.list (ts.map (qF xs))) (lK:aj.get (B+1)=.list (fs.map .loc)) (d1:dO (sj aj (B+2) (um K)) fs rs) (dY:∀r∈rs,∃e,n9 K r.m=some e) (len:rs.length+rt.length<=ts.length) (ga:∀t∈rt,mk xs t.1≠d9->aj.get t.2.2=eC xs (t.1+8:Nat) t.2.1) (u:aw [] bT aj) (n:B+2<=aj.next)
section
variable{n:Nat}{xs:List UInt8}
noncomputable abbrev Sw:List C:=[.ite (.cmp .eq (.var 5) (.fz 0)) [.cont] [],
   .ite (.cmp .iV (.var 5) (.var 2)) [.raise 0 [(.lit (.str "a frame's entry without its head")),(.var 4)]] [],
   .assign (.tup [(.var 7),(.var 8)]) (.tup [(.aS (.var 6) 4 []),(.aS (.var 6) 4 [])]),
   .expr (.aS (.var 3) 9 [(.new 3 [(.idx (.var 2) (.var 5)),(.var 7),(.var 8),(.call 39 [(.var 6),(.idx (.var 2) (.var 5)),(.var 4)])])])]
theorem Sx{bT aj:ah}{eL B:Nat}{ts dn rt:List dH}{K:List gd}{fs:List Nat}{rs:List eE}{v:af}{r:List af}{ρ:aQ}{V:eH}{X:Nat->cX}(F:mD bT xs eL B ts)(bd:∀e∈K,dJ e.2.2.d)(I:xo bT xs eL B ts K (v::r) ρ aj dn rt fs rs)
  (hF:∀ρ' σ',fu xs (K.map gU) (ts.map cz)=none->aw [] bT σ'->(X 0 ρ' σ').P):
  (iX (.tup [4,5,6]) v ρ λρ=>sB (TT (n+9)) Sw ⟨dY λρ' bP=>∃dn rt fs rs,xo bT xs eL B ts K r ρ' bP dn rt fs rs,dY λρ' bP=>∃dn rt fs rs,xo bT xs eL B ts K r ρ' bP dn rt fs rs,V,X⟩ ρ aj).P:=by
 have ir:=I.2;cases rt with
 |nil=>exact nomatch ir
 |cons t rt=>
  obtain⟨rfl,rfl⟩:=jM ir;have ht:t∈ts:=I.1▸fK _ (.head _);have aft:=F.2.after I.1;have e':ts=dn++[t]++rt:=by rw[cG];exact I.1
  have lo:=F.2.1 t ht;have fE:=F.4 t ht;have hl:=I.13;rw[mi]at hl;have u:=I.15;by_cases hm:mk xs t.1=d9
  ·nomatch hm;exact⟨dn++[t],rt,fs,rs,e',rfl,I.3,I.4,I.5,I.6.trans (congrArg (a7 _) (if_pos hm)),I.7,I.8,I.9,I.10,I.11,I.12,u8 hl,λu hu h=>I.14 u (.tail _ hu) h,I.15,I.16⟩
  have hm':¬mk xs t.1=4294967295:=hm;have O:eD aj t.2.2 xs (t.1+8) t.2.1:=⟨I.14 t (.head _) hm,F.1,F.2.3 t ht,F.2.2 t ht⟩;have q1:fu xs (K.map gU) (ts.map cz)=((gb xs (K.map gU) (cz t)).bind λx=>(fu xs (K.map gU) (rt.map cz)).map (x::·)).map (rs++·):=I.6.trans (congrArg (a7 _) (if_neg hm));have no:gb xs (K.map gU) (cz t)=none->fu xs (K.map gU) (ts.map cz)=none:=λh=>by rw[q1,h];rfl
  cases az:n9 K (mk xs t.1)with
  |none=>
   have hki:(!(dX (mk xs t.1) (K.map mE)).isSome)=true:=by rw[Gu,az];rfl
   nomatch hm',I.4,I.7,hki;exact hF _ aj (no (by rw[gb,Gv,az];rfl)) u
  |some ke=>
   have hkI:dX (mk xs t.1) (K.map mE)=some (.loc ke.2.1):=by rw[Gu,az];rfl
   have hki:(!(dX (mk xs t.1) (K.map mE)).isSome)=false:=by rw[hkI];rfl
   have hkm:=(AR az).1;have sd:=I.8 ke hkm;have hcm:um K (mk xs t.1)=ke.2.1:=by unfold um;rw[az];rfl
   have q2:gb xs (K.map gU) (cz t)=(dc 4 (aR xs (t.1+8) t.2.1)).bind λb=>(dc 4 b.2).bind λs=>(iO ke.2.2.c ke.2.2.d s.2).map λops=>⟨mk xs t.1,ke.2.2,b.1,s.1,strip ops⟩:=by rw[gb,Gv,az];rfl
   have lift:∀{σ':ah},aw [t.2.2] aj σ'->aw [] bT σ':=λx=>u.over x (ik (dA (cM F.6 lo)));nomatch hm',I.4,I.7,hki,O.1;refine xm u.1 O (λv1 aJ hr1 _w _w u1 O1=>?_) λhr1=>hF _ aj (no (by rw[q2,hr1];rfl)) u;have q3:gb xs (K.map gU) (cz t)=(dc 4 (aR xs (t.1+8+4) t.2.1)).bind λs=>(iO ke.2.2.c ke.2.2.d s.2).map λops=>⟨mk xs t.1,ke.2.2,v1,s.1,strip ops⟩:=by rw[q2,hr1];rfl
   nomatch O1.1;refine xm u1.1 O1 (λv2 aC hr2 _w _w u2 O2=>?_) λhr2=>hF _ aJ (no (by rw[q3,hr2];rfl)) (lift u1);have q4:gb xs (K.map gU) (cz t)=(iO ke.2.2.c ke.2.2.d (aR xs (t.1+8+4+4) t.2.1)).map λops=>⟨mk xs t.1,ke.2.2,v1,v2,strip ops⟩:=by rw[q3,hr2];rfl
   have u12:=u1.trans u2;have nB:∀{j},B<=j->j∉[t.2.2]:=λh=>cI (cn (bU fE h));have gf2:=u12.at u.1 I.10 (aA rfl) (nB (gh B));have gd2:=u12.at u.1 I.7 (aA rfl) (nB (bI B));have M1:∀m∈[t.2.2],m<B+2:=λm hm=>bW.mp hm▸bU fE (c8 B 2);refine ao λG z=>?_;obtain⟨ol,hol,gc,_⟩:=(sd.up u.1 u12 M1).2;refine z ?_;clear z G;have hcl:ke.2.1≠t.2.2:=λq=>lV _ (bU fE (aB (c8 B 2) (q▸sd.1)));nomatch I.4,I.5,gf2,gd2,hkI;refine Gl (n:=n+2) u2.1 O2 gc hcl (bd ke hkm) (λops k aU hR hk3 gk3 u3=>?_) (λaU hR u3=>hF _ aU (no (by rw[q4,hR.eq];rfl)) (lift (u12.trans u3)));have q5:gb xs (K.map gU) (cz t)=some ⟨mk xs t.1,ke.2.2,v1,v2,strip ops⟩:=by rw[q4,hR.eq];rfl
   have u13:=u12.trans u3;have n13:=aB I.16 u13.2;have vx:=aB (aB I.16 u12.2) hk3;nomatch u13;refine Az bx ?_;have u4:aw [] aU ((aU.push (.inst 3 [])).set aU.next (gQ ke.2.1 v1 v2 k)):=((aw.refl u3.1).push).set (.inr (bI _)) (b9 _);have eN:=@cT (aU.push (.inst 3 [])) aU.next (gQ ke.2.1 v1 v2 k)
   have fR:aU.next<((aU.push (.inst 3 [])).set aU.next (gQ ke.2.1 v1 v2 k)).next:=b9 _
   generalize ((aU.push (.inst 3 [])).set aU.next (gQ ke.2.1 v1 v2 k))=c9 at*;have u14:aw [t.2.2] aj c9:=u13.nM u4;have gf4:=u14.at u.1 I.10 (aA rfl) (nB (gh B));have c5:(fs.map af.loc).length<1000000:=j4 (I.11.length▸cM (aB (c8 _ _) (aB I.13 F.5)) (by decide));have U5:aw [t.2.2,B+1] aj (c9.set (B+1) (.list (fs.map .loc++[.loc aU.next]))):=(u14.mono λl hl=>.inl (bW.mp hl▸.head _)).set (.inl (.tail _ (.head _))) (u14.1.lt gf4 (aA rfl));have M2:∀m∈[t.2.2,B+1],m<B+2:=uf (M1 _ (.head _)) (b9 _);have nB1:∀{j},B+2<=j->j≠B+1:=λh=>cn h;nomatch gf4,c5;refine⟨dn++[t],rt,fs++[aU.next],rs++[⟨mk xs t.1,ke.2.2,v1,v2,strip ops⟩],e',rfl,I.3,I.4,I.5,?_,U5.at u.1 I.7 (aA rfl) (cS (cn fE) (bq (b9 B))),λf hf=>(I.8 f hf).up u.1 U5 M2,U5.at u.1 I.9 (aA rfl) (cS (bq lo) (bq (bX F.3))),by rw[cN];exact cT,dO.snoc ⟨n13,k,vx,?_,cV (nB1 vx) (u4.aV u3.1 gk3 (aA rfl)),by rw[hcm];exact sd.up u.1 U5 M2⟩ (I.11.imp λa b x=>x.up u.1 U5 M2),db I.12 ⟨ke,az⟩,by rw[eW];exact aB (bb (oJ ..)) hl,λu' hu h=>?_,u.over U5 (c1.mpr ⟨.inr (dA (cM F.6 lo)),ik (dA (cM F.6 (bX F.3)))⟩),aB I.16 U5.2⟩
   ·rw[q1,q5];show a7 _ (a7 _ (fu xs (K.map gU) (rt.map cz)))=_;rw[yH];exact congrArg (a7 · _) (funext λz=>(cG rs [_] z).symm)
   ·exact U5.at u.1 (I.14 u' (.tail _ hu) h) (aA rfl) (cS (cn (aft u' hu).2) (bq (bX (F.4 u' (e'▸fK _ hu)))))
   ·rw[hcm];exact cV (nB1 n13) eN
end
section
variable{n:Nat}{σ:ah}{Q:cR}{E:Nat->ah->Prop}{xs:List UInt8}
theorem Sy(w:σ.bg)(ak:xs.length<=100000)
  (hS:∀(fs:List Nat) (rs:List eE) (cl:Int->Nat) (l B:Nat) σ',gw xs=some rs->σ'.get l=.list (fs.map .loc)->dO (sj σ' B cl) fs rs->(∀r∈rs,∀b7∈rs,cl r.m=cl b7.m->r.m=b7.m)->rs.length<=100000->aw [] σ σ'->Q (.loc l) σ')
  (hF:∀σ',gw xs=none->aw [] σ σ'->E 0 σ'):bH fn bk bl (n+10) 42 [.bytes xs] σ Q E:=by
 refine bz rfl ?_;nomatch w;refine Su (n:=n+6) w ak (λts aJ hE He g ga hl u1=>?_) λaJ hE u1=>hF aJ (by rw[gw,hE.eq];rfl) u1;have w1:=u1.1;have dv:=w1.lt g (aA rfl);have u2:aw [] aJ ((aJ.push (.bZ (([]:List Int).zip []))).push (.list [])):=((aw.refl w1).push).push;have g2:=u2.aV w1 g (aA rfl);have RFs:mD σ xs σ.next aJ.next ts:=⟨ak,He,dv,λt ht=>w1.lt (ga t ht) (aA rfl),aB hl ak,bI _⟩
 nomatch g2;refine kA (λr ρ aj=>∃dn rt K,xn σ xs σ.next aJ.next ts r ρ aj dn rt K) ?_ ?_ ?_
 ·refine⟨[],ts,[],rfl,rfl,rfl,rfl,rfl,?_,dw pi bx,(λ_w h=>nomatch h),(λ_w h=>nomatch h),.nil,(λ_w h=>nomatch h),(λ_w h=>nomatch h),bb (jl _),λt ht _w=>u2.aV w1 (ga t ht) (aA rfl),g2,bx,u1.trans u2,bI _⟩;cases dM xs (ts.map cz)<;>rfl
 ·exact λv r ρ aj zz=>zz.elim λdn zz=>zz.elim λrt zz=>zz.elim λK I=>⟨I.15,Sv RFs I λρ' σ' hH u=>hF σ' (by rw[gw,hE.eq];exact congrArg (nj · _) hH) u⟩
 intro ρ aj zz;refine ao λG_ fin_=>zz.elim λdn zz=>zz.elim λrt zz=>zz.elim λK I=>fin_ ?_;clear fin_ G_ zz;refine⟨I.15,?_⟩;obtain rfl:=ml.mp I.2.symm;have hH:dM xs (ts.map cz)=some (K.map gU):=I.6.trans (congrArg some (dK _));have R1:gw xs=fu xs (K.map gU) (ts.map cz):=by rw[gw,hE.eq];show nj (dM _ _) _=_;rw[hH];rfl
 nomatch I.3,I.15;refine kA (λr ρ aj=>∃dn rt fs rs,xo σ xs σ.next aJ.next ts K r ρ aj dn rt fs rs) ?_ ?_ ?_
 ·refine⟨[],ts,[],[],rfl,rfl,I.3,I.4,I.5,?_,I.7,I.8,I.15,I.16,.nil,(λ_w h=>nomatch h),bb (jl _),λt ht h=>I.14 t ht (.inl h),I.17,I.18⟩;cases fu xs (K.map gU) (ts.map cz)<;>rfl
 ·exact λv r ρ aj zz=>zz.elim λdn zz=>zz.elim λrt zz=>zz.elim λfs zz=>zz.elim λrs J=>⟨J.9,Sx RFs I.9 J λρ' σ' hH u=>hF σ' (R1.trans hH) u⟩
 intro ρ' bP zz;refine ao λG_ fin_=>zz.elim λdn' zz=>zz.elim λrt zz=>zz.elim λfs zz=>zz.elim λrs J=>fin_ ?_;clear fin_ G_ zz;refine⟨J.9,?_⟩;obtain rfl:=ml.mp J.2.symm;have hR:gw xs=some rs:=R1.trans (J.6.trans (congrArg some (dK _)));nomatch J.5;refine hS fs rs (um K) _ _ bP hR J.10 J.11 (λr hr b7 hr' hcl=>?_) (aB (aB (c8 ..) J.13) RFs.5) J.15;obtain⟨e,he⟩:=J.12 r hr;obtain⟨e',he'⟩:=J.12 b7 hr';have aa:=AR he;have h2:=AR he';unfold um at hcl;rw[he,he']at hcl;have hcl:e.2.1=e'.2.1:=hcl;obtain⟨i,ao,rfl⟩:=vc.mp aa.1;obtain⟨j,a8,rfl⟩:=vc.mp h2.1;have uc:=uD.mp I.10;rcases B0 i j with h|h|h
 ·exact absurd hcl (bq (uc i j ao a8 h))
 ·subst h;exact aa.2.symm.trans h2.2
 ·exact absurd hcl (cn (uc j i a8 ao h))
end
theorem Gx{k y:Int}:∀{xs:List Int},indexOf k (xs++[y])=match indexOf k xs with|some j=>some j|none=>if y=k then some xs.length else none:=by
 intro xs
 induction xs with
 |nil=>
  by_cases h:y=k
  ·exact(idx_eq h).trans (if_pos h).symm
  ·exact(qE h).trans (if_neg h).symm
 |cons x xs ih=>
  by_cases e:x=k
  ·rw[idx_eq e]at ⊢;exact idx_eq e
  ·rw[qE e]at ⊢;refine(qE e).trans ?_;show(indexOf k (xs++[y])).map _=_;rw[ih];cases indexOf k xs with
   |some j=>rfl
   |none=>
    by_cases h:y=k
    ·show a7 _ (if y=k then _ else _)=if y=k then _ else _
     rw[if_pos h,if_pos h];rfl
    ·show a7 _ (if y=k then _ else _)=if y=k then _ else _
     rw[if_neg h,if_neg h];rfl
theorem Sz{acc:List af}:eI acc 0=acc.head?:=by cases acc<;>rfl
section
variable{n:Nat}{σ:ah}{Q:cR}{E:Nat->ah->Prop}{xs:List UInt8}
noncomputable abbrev un(fs:List Nat):List af:=(cE (fs.map af.loc).length).zipWith (λ(k:Nat) v=>af.tup [.int (k:Int),v]) (fs.map .loc)
theorem xp{fs:List Nat}:(un fs).length=fs.length:=by rw[II,nd,cF,sI]
theorem SA{fs:List Nat}{i:Nat}(h:i<fs.length):(un fs).drop i=af.tup [.int (i:Int),.loc fs[i]]::(un fs).drop (i+1):=by
 rw[oH (xp.symm▸h),List.getElem_zipWith,IG,B2]
theorem Gy{α:Type}{l:List α}{i:Nat}(ao:i<=l.length)(e:[]=l.drop i):i=l.length:=qO ao (WP.mp e.symm)
theorem Gz{α:Type}{l r:List α}{x:α}{i:Nat}(e:x::r=l.drop i):i<l.length:=dP λh=>by rw[BB h]at e;exact nomatch e
inductive SB (fs:List Nat) (ms:List Int) (m:Int) (r acc:List af) (i:Nat):Prop
 |mk (ao:i<=fs.length) (e:r=(un fs).drop i) (al:acc.length<=i) (eF:acc.head?=(indexOf m (ms.take i)).map λ(j:Nat)=>af.int (j:Int))
theorem SC{T:Tab}{ρ:aQ}{l B f0:Nat}{fs:List Nat}{rs:List eE}{r0:eE}{cl:Int->Nat}{F:List af->ah->Ask}(g:σ.get l=.list (fs.map .loc))(d1:dO (sj σ B cl) fs rs)(inj:∀r∈rs,∀b7∈rs,cl r.m=cl b7.m->r.m=b7.m)(hl:rs.length<=100000)(hr:r0∈rs)(h3:ρ 3=some (.loc f0)){b s:Int}{ol:Nat}(lK:σ.get f0=gQ (cl r0.m) b s ol)
  (h:∀acc,eI acc 0=some (.int (mO (rs.map (·.m)) r0.m))->(F acc σ).P):
  rh ⟨un fs,some (l,.list (fs.map .loc))⟩ (λv σ Q=>iX (.tup [101,102]) v ρ.low λρ'=>oW T [(.cmp .is (.attr (.var 102) 8) (.attr (.var 3) 8))] (cc T (.var 101) (ri Q) iB) (rj Q) iB [] ρ' σ) F σ:=by
 have hfl:=d1.length;refine⟨λr acc aj=>aj=σ/\ ∃i,SB fs (rs.map (·.m)) r0.m r acc i,⟨rfl,0,du _,rfl,bI _,rfl⟩,?_,?_⟩
 ·intro v r acc aj zz;refine ao λG_ fin_=>zz.elim λe zz=>zz.elim λi I=>fin_ ?_;clear fin_ G_ zz;subst e;refine⟨g,?_⟩;have hif:i<fs.length:=xp▸Gz I.2;have ee:=I.2;rw[SA hif]at ee;obtain⟨rfl,rfl⟩:=jM ee;have hir:i<rs.length:=hfl▸hif;refine ao λG z=>?_;obtain⟨_,ol',_,g1,_,bM⟩:=d1.get hif hir;obtain⟨_,_,g2,_⟩:=bM.2;refine z ?_;clear z G;have him:i<(rs.map (·.m)).length:=by rw[cF];exact hir
  have cz:indexOf r0.m ((rs.map (·.m)).take (i+1))=match indexOf r0.m ((rs.map (·.m)).take i)with|some j=>some j|none=>if rs[i].m=r0.m then some i else none:=by
   rw[ye him,Gx,l7,qZ (dA him),B2]
  have eF:=I.4;have nb:vl (ez rs[i].h.c rs[i].h.d rs[i].h.r (.loc (bM.2.choose))):=trivial;by_cases hm:rs[i].m=r0.m
  ·have hc:cl rs[i].m=cl r0.m:=congrArg cl hm;nomatch h3,g1,lK,g2,hc;refine⟨cM I.3 (aB (aB hir hl) (by decide)),rfl,i+1,hif,rfl,by rw[eW];exact jn I.3,?_⟩;rw[cz];cases ak:indexOf r0.m ((rs.map (·.m)).take i)with
   |some j=>
    rw[ak]at eF;cases acc with
    |nil=>exact nomatch eF
    |cons a t=>exact eF
   |none=>
    rw[ak]at eF;cases acc with
    |nil=>show some _=a7 _ (if rs[i].m=r0.m then _ else _);rw[if_pos hm];rfl
    |cons a t=>exact nomatch eF
  ·have hc:¬cl rs[i].m=cl r0.m:=λz=>hm (inj _ (rc hir) _ hr z);nomatch h3,g1,lK,g2,hc;refine⟨rfl,i+1,hif,rfl,l8 I.3,?_⟩;rw[cz,eF];cases ak:indexOf r0.m ((rs.map (·.m)).take i)with
   |some j=>rfl
   |none=>show none=a7 _ (if rs[i].m=r0.m then _ else _);rw[if_neg hm];rfl
 ·intro acc aj zz;refine ao λG_ fin_=>zz.elim λe zz=>zz.elim λi I=>fin_ ?_;clear fin_ G_ zz;subst e;refine⟨g,?_⟩;have hif:i=fs.length:=(Gy (xp.symm▸I.1) I.2).trans xp;have eF:=I.4;obtain⟨j,a8⟩:=xl (k:=r0.m) (xs:=rs.map (·.m)) (iS.mpr ⟨r0,hr,rfl⟩);rw[Ic (by rw[cF,hif,hfl];exact bI _),a8]at eF;refine h _ ?_;rw[Sz,eF,mO,a8];rfl
theorem GA{rs:List eE}:(jj rs).length=rs.length:=cF _
theorem SD{rs:List eE}{i:Nat}(h:i<rs.length):(jj rs).take (i+1)=(jj rs).take i++[rs[i].row (rs.map (·.m))]:=by
 rw[ye (GA.symm▸h)];exact congrArg (λz=>_++[z]) (B2 _)
inductive SE (σ:ah) (l:Nat) (fs:List Nat) (rs:List eE) (r:List af) (ρ:aQ) (aj:ah) (i:Nat) (vs:List af):Prop
 |mk (ao:i<=(fs.map af.loc).length) (e:r=(fs.map af.loc).drop i) (bN:ρ 1=some (.loc l)) (cu:ρ 2=some (.loc σ.next)) (g:aj.get σ.next=.list vs) (eO:dO (jh σ 0) vs ((jj rs).take i)) (u:aw [] σ aj) (n:σ.next<aj.next)
theorem xq(w:σ.bg)(ak:xs.length<=100000)
  (hS:∀(rs:List eE) vs k σ',gw xs=some rs->σ'.get k=.list vs->dO (jh σ' 0) vs (jj rs)->aw [] σ σ'->Q (.loc k) σ')
  (hN:∀σ',gw xs=none->aw [] σ σ'->Q .none σ'):bH fn bk bl (n+11) 61 [.bytes xs] σ Q E:=by
 refine bz rfl ?_;nomatch w;refine Sy (n:=n) w ak (λfs rs cl l B aJ hR g d1 inj hl u1=>?_) (λaJ hR u1=>?_)
 ·have w1:=u1.1;have hfl:=d1.length;have nl:=bq (w1.lt g (aA rfl));nomatch g,nl;have no:∀{x:Nat},x∉([]:List Nat):=el;refine kA (λr ρ aj=>∃i vs,SE aJ l fs rs r ρ aj i vs) ⟨0,[],du _,rfl,rfl,rfl,bx,.nil,.push (.refl w1),b9 _⟩ ?_ ?_
  ·intro v r ρ aj zz;refine ao λG_ fin_=>zz.elim λi zz=>zz.elim λvs I=>fin_ ?_;clear fin_ G_ zz;have u:=I.7;refine⟨u.aV w1 g (aA rfl),?_⟩;have ao:=Gz I.2;have hif:i<fs.length:=cF af.loc▸ao;have ee:=I.2;rw[oH ao,B2]at ee;obtain⟨rfl,rfl⟩:=jM ee;have hir:i<rs.length:=hfl▸hif;obtain⟨_,ol,_,g1,g2,bM⟩:=d1.get hif hir;obtain⟨al,_,g3,eN⟩:=bM.2;have cK:=u.aV w1 g (aA rfl);have hg1:=u.aV w1 g1 (aA rfl);have hg3:=u.aV w1 g3 (aA rfl);nomatch I.3,cK;refine SC (B:=B) (rs:=rs) (f0:=fs[i]) (r0:=rs[i]) cK (d1.imp λa b x=>x.up w1 u λ_w h=>nomatch h) inj hl (rc hir) rfl hg1 λacc aM=>?_;have u2:aw [] aj (aj.push (.list acc)):=(aw.refl u.1).push;have c5:vs.length<1000000:=by
    have:=I.6.length;rw[l7]at this;exact cM (this▸HJ i _) (bU hir (aB hl (by decide)))
   have cw:=u2.aV u.1 hg1 (aA rfl);have k3:=u2.aV u.1 hg3 (aA rfl);have kv:=u2.aV u.1 I.5 (aA rfl);nomatch aM,I.3,I.4,cw,k3,kv,c5;refine⟨i+1,vs++[_],ao,rfl,I.3,I.4,cT,?_,(u.trans u2).set (.inr (bI _)) (bX I.8),bX I.8⟩;rw[SD hir];exact dO.snoc ⟨al,ol,du _,du _,rfl,eN,g2⟩ I.6
  ·intro ρ aj zz;refine ao λG_ fin_=>zz.elim λi zz=>zz.elim λvs I=>fin_ ?_;clear fin_ G_ zz;refine⟨I.7.aV w1 g (aA rfl),?_⟩;have hif:=Gy I.1 I.2;have eO:=I.6;rw[Ic (by rw[hif,GA,cF,hfl];exact bI _)]at eO;nomatch I.4;exact hS rs vs _ aj hR I.5 (eO.imp λa b x=>x.up w1 I.7 λ_w h=>nomatch h) (u1.trans I.7)
 ·exact⟨rfl,hN aJ hR u1⟩
end
noncomputable abbrev pl(t:dH):af:=.tup [.int t.1,.loc t.2.2]
inductive GB (σ:ah) (xs:List UInt8) (a:Nat) (ts:List dH) (ρ:aQ) (aj:ah):Prop
 |mk (r0:ρ 0=some (.bytes xs)) (bN:ρ 1=some (.loc σ.next)) (cu:ρ 2=some (.int a)) (aM:a<=xs.length) (g:aj.get σ.next=.list (ts.map pl)) (ga:∀t∈ts,aj.get t.2.2=de (t.1+4:Nat) t.2.1) (E:jD xs σ.next ts) (fk:∀t∈ts,t.1<a) (bS:∀t∈ts,t.2.2<aj.next) (len:ts.length<=a) (u:aw [] σ aj) (n:σ.next<aj.next) (R:∀X,fB xs a X->fB xs 0 (X.map (ts.map cz++·)))
section
variable{n:Nat}{σ:ah}{xs:List UInt8}
theorem SG{ρ:aQ}{P:cq}(w:σ.bg)(ak:xs.length<=100000)(r0:ρ 0=some (.bytes xs))
  (hN:∀(ts:List dH) ρ' σ',fB xs 0 (some (ts.map cz))->jD xs σ.next ts->σ'.get σ.next=.list (ts.map pl)->(∀t∈ts,σ'.get t.2.2=de (t.1+4:Nat) t.2.1)->ts.length<=xs.length->ρ' 0=some (.bytes xs)->ρ' 1=some (.loc σ.next)->aw [] σ σ'->(sB (TT (n+5)) (aG (aG ta.body)) P ρ' σ').P)
  (hV:∀σ',fB xs 0 none->aw [] σ σ'->(P.V .none σ').P):(sB (TT (n+5)) ta.body P ρ σ).P:=by
 have f4:=aB ak (show 100000<=1000000 by decide);have hx':xs.length<=900000:=aB ak (by decide);nomatch r0;refine lB (λ(a:Nat×List dH) ρ aj=>GB σ xs a.1 a.2 ρ aj) (λa=>xs.length-a.1) (0,[]) ⟨r0,rfl,rfl,du _,bx,(λ_w h=>nomatch h),⟨(λ_w h=>nomatch h),(λ_w h=>nomatch h),(λ_w h=>nomatch h),.nil⟩,(λ_w h=>nomatch h),(λ_w h=>nomatch h),du _,.push (.refl w),b9 _,λX hX=>by cases X<;>exact hX⟩ ?_;intro⟨a,ts⟩ ρ aj I;replace I:GB σ xs a ts ρ aj:=I;by_cases hlt:a<xs.length
 ·have bM:(a:Int)<(xs.length:Int):=dR.mpr hlt;have u:=I.11;have u1:aw [] aj (aj.push (de a xs.length)):=(aw.refl u.1).push;nomatch I.1,I.2,I.3,f4,bM;refine qw (k:=4) u1.1 bx hx' (qL _) (by decide) (λaC h0 aa u2 g2=>?_) (λaC hno u2 g2=>?_)
  ·have h4:a+4<=xs.length:=aX.mp aa;rw[fc];have hv0:=(AI (show 4<=8 by decide) (yG 4 (xs.drop a))).1;have hnx:=AQ (sg (p:=a) (bI _) h4);have V2:aw [] aj aC:=u1.over u2 (ik (bI _));have U2:=u.trans V2;have c2:¬(xs.length:Int)<(a:Int)+4:=a6.mpr aa;generalize le ((xs.drop a).take 4)=v at*;by_cases h5:(a:Int)+4+v<(a:Int)+8
   ·nomatch I.1,I.3,f4,c2,h5;exact hV aC (I.13 none (.bad hlt (hnx.trans (if_neg (by exact(λaq=>bp.go (.c _ (.c _ .o)) (.c 1 (.a (.a (.a (.v 0) (.n 4)) (.v 1)) (.n 1)) (.a (.v 0) (.n 8)) (.c 1 (.n 4) (.v 1) .o)) rfl h5 aq.1)))))) U2
   by_cases h6:(xs.length:Int)<(a:Int)+4+v
   ·nomatch I.1,I.3,f4,c2,h5,h6;exact hV aC (I.13 none (.bad hlt (hnx.trans (if_neg λh=>a6.mpr h.2 h6)))) U2
   have hnx:=hnx.trans (if_pos ⟨by exact(a6.mp λaq=>bp.go (.c _ (.c _ .o)) (.c 1 (.a (.v 1) (.n 8)) (.a (.a (.v 1) (.n 4)) (.v 0)) (.c 1 (.a (.v 0) (.n 1)) (.n 4) .o)) rfl (a6.mp h5) aq),a6.mp h6⟩);obtain⟨m,rfl⟩:=iy hv0;rw[fc]at hnx;have hb1:a+8<=a+4+m:=aX.mp (a6.mp h5);have hb2:a+4+m<=xs.length:=aX.mp (a6.mp h6);have gl2:=V2.aV u.1 I.5 (aA rfl);have s2:σ.next<aC.next:=bU I.12 V2.2
   have gl3:(aC.push (de ((a:Int)+4) ((a:Int)+4+m))).get σ.next=.list (ts.map pl):=dw (bq s2) gl2
   have c5:(ts.map pl).length<1000000:=j4 (by have:=I.10;exact(dP λaq=>bj.go (.c _ (.c _ (.c _ .o))) (.c 1 (.v 0) (.n 100000) (.c 1 (.a (.v 1) (.n 1)) (.v 0) (.c 1 (.v 2) (.v 1) (.c 1 (.n 1000000) (.v 2) .o)))) rfl ak hlt this aq));have l2':∀t∈ts,t.2.2<aC.next:=λt ht=>bU (I.9 t ht) V2.2
   have ab:a<a+4+m:=bU (jp (by decide)) hb1;nomatch I.1,I.2,I.3,f4,c2,h5,h6,gl3,c5;refine⟨(a+4+m,ts++[(a,a+4+m,aC.next)]),WW hlt ab,I.1,I.2,rfl,hb2,by rw[cN];exact cT,?_,⟨db I.7.1 s2,db I.7.2 hb1,db I.7.3 hb2,uB.mpr ⟨I.7.4,xK _ _,λt ht b ae=>bW.mp ae▸⟨I.8 t ht,l2' t ht⟩⟩⟩,db (λt ht=>gB (I.8 t ht) ab) ab,db (λt ht=>bX (l2' t ht)) (b9 _),by rw[eW];exact cM I.10 ab,U2.push.set (.inr (bI _)) (bX s2),bX s2,λX hX=>?_⟩
   ·exact db (λt ht=>cV (cn (I.7.1 t ht)) (dw (bq (l2' t ht)) (V2.aV u.1 (I.6 t ht) (aA rfl)))) (cV (cn s2) bx)
   ·have:=I.13 _ (.more hlt hnx hX);rw[cN];cases X with
    |none=>exact this
    |some y=>show fB xs 0 (some (_++[_]++y));rw[cG];exact this
  ·have h4:¬a+4<=xs.length:=λh=>hno ⟨cD _,aX.mpr h⟩;have c2:(xs.length:Int)<(a:Int)+4:=dR.mpr (dP h4);nomatch I.1,I.3,f4,c2;exact hV aC (I.13 none (.bad hlt (by rw[n8,xb (bI _) I.4 h4];rfl))) (u.trans (u1.over u2 (ik (bI _))))
 ·have hae:xs.length=a:=qO (bE hlt) I.4;have bM:¬(a:Int)<(xs.length:Int):=λh=>hlt (dR.mp h);have fin:=I.13 (some []) (hae▸.fin);rw[yo,dK]at fin;exact Ask.run λd=>Ask.back (a:=sB (TT (n+5)) (aG (aG ta.body)) P _ _) (d I.3 I.1 f4 (decide_eq_false bM)) (hN ts ρ aj fin I.7 I.5 I.6 (aB I.10 I.4) I.1 I.2 I.11)
end
noncomputable abbrev Lt:=Nat×ba×Nat
noncomputable abbrev lO(e:Lt):Int×af:=((e.1:Int),ai e.2)
noncomputable abbrev lP(e:Lt):Nat×ba:=(e.1,e.2.1)
noncomputable def mP(K:List Lt)(m:Int):Option Lt:=K.find? λe=>decide ((e.1:Int)=m)
theorem AS{m:Int}{e:Lt}{K:List Lt}(h:(e.1:Int)=m):mP (e::K) m=some e:=sy (p:=λe:Lt=>decide ((e.1:Int)=m)) (decide_eq_true h)
theorem AT{m:Int}{e:Lt}{K:List Lt}(h:¬(e.1:Int)=m):mP (e::K) m=mP K m:=qT (p:=λe:Lt=>decide ((e.1:Int)=m)) λq=>h (of_decide_eq_true q)
theorem xr{m:Int}:∀{K:List Lt},dX m (K.map lO)=(mP K m).map λe=>ai e.2:=by
 intro K
 induction K with
 |nil=>
  exact rfl
 |cons e K ih=>
  by_cases h:(e.1:Int)=m
  ·rw[AS h];exact if_pos h
  ·rw[AT h];exact(if_neg h).trans ih
theorem GC{m:Int}:∀{K:List Lt},iP (K.map lP) m=(mP K m).map (·.2.1):=by
 intro K
 induction K with
 |nil=>
  exact rfl
 |cons e K ih=>
  by_cases h:(e.1:Int)=m
  ·rw[AS h];exact congrArg (a7 _) (sy (p:=λe:Nat×ba=>decide ((e.1:Int)=m)) (decide_eq_true h))
  ·rw[AT h];exact(congrArg (a7 _) (qT (p:=λe:Nat×ba=>decide ((e.1:Int)=m)) λq=>h (of_decide_eq_true q))).trans ih
theorem GD{m:Int}{K:List Lt}{e:Lt}(h:mP K m=some e):e∈K/\ (e.1:Int)=m:=
 ⟨WX h,of_decide_eq_true (WY (p:=λe:Lt=>decide ((e.1:Int)=m)) h)⟩
theorem GE{e:Lt}:∀{K:List Lt},e∈K-> ∃e',mP K (e.1:Int)=some e'
 |f::K,h=>by
  by_cases q:(f.1:Int)=e.1
  ·exact⟨f,AS q⟩
  ·obtain⟨x,ak⟩:=GE ((gA.mp h).resolve_left λz=>q (z▸rfl));exact⟨x,(AT q).trans ak⟩
theorem jD.before{xs:List UInt8}{B:Nat}{ts dn rt:List dH}{t:dH}(h:jD xs B ts)(e:ts=dn++t::rt):∀u∈dn,u.1<t.1/\ u.2.2<t.2.2:=
 λu hu=>(uB.mp (e▸h.4)).2.2 u hu t (.head _)
noncomputable def uo(aj:ah)(xs:List UInt8)(t:dH):Prop:=(mk xs t.1≠d9/\ aj.get t.2.2=de (t.1+8:Nat) t.2.1) \/(mk xs t.1=d9/\ ((aj.get t.2.2=de t.2.1 t.2.1/\ fZ (aR xs (t.1+8) t.2.1)≠none) \/(aj.get t.2.2=de (-1) t.2.1/\ fZ (aR xs (t.1+8) t.2.1)=none)))
theorem uo.xt{σ aj:ah}{xs:List UInt8}{t:dH}(h:uo aj xs t)(f:∀p,aj.get t.2.2=de p t.2.1->σ.get t.2.2=de p t.2.1):uo σ xs t:=
 h.imp (λh=>⟨h.1,f _ h.2⟩) λh=>⟨h.1,h.2.imp (λq=>⟨f _ q.1,q.2⟩) λq=>⟨f _ q.1,q.2⟩⟩
inductive xu (bT:ah) (xs:List UInt8) (eL B:Nat) (ts:List dH) (r:List af) (ρ:aQ) (aj:ah) (dn rt:List dH) (K:List Lt):Prop
 |mk (e:ts=dn++rt) (r:r=rt.map pl) (r0:ρ 0=some (.bytes xs)) (bN:ρ 1=some (.loc eL)) (dh:ρ 4=some (.loc B)) (qv:ρ 5=some (.loc (B+1))) (AA:ρ 6=some (.loc (B+2))) (jd:aj.get B=.bZ (K.map lO)) (cw:∀e∈K,B+3<=e.2.2) (cJ:∀e∈K,aj.get e.2.2=.list (e.2.1.ops.map Op.v)) (bd:∀e∈K,dJ e.2.1.d) (src:∀e∈K,∃t∈dn,mk xs t.1=d9/\ t.1=e.1) (all:∀t∈dn,mk xs t.1=d9-> ∃e∈K,e.1=t.1) (hd:∀H,dM xs (ts.map cz)=some H-> ∃H',dM xs (rt.map cz)=some H'/\ H=K.map lP++H') (sp:∀t∈dn,uo aj xs t) (Yd:∀t∈rt,aj.get t.2.2=de (t.1+4:Nat) t.2.1) (len:K.length+rt.length<=ts.length) (ge:aj.get eL=.list (ts.map pl)) (n1:aj.get (B+1)=.list []) (n2:aj.get (B+2)=.list []) (u:aw [] bT aj) (n:B+3<=aj.next)
section
variable{n:Nat}{xs:List UInt8}
theorem SH{bT aj:ah}{eL B:Nat}{ts dn rt:List dH}{K:List Lt}{v:af}{r:List af}{ρ:aQ}{V:eH}{X:Nat->cX}(F:mD bT xs eL B ts)(I:xu bT xs eL B ts (v::r) ρ aj dn rt K):
  (iX (.tup [2,7]) v ρ λρ=>sB (TT (n+5)) [.ite (.cmp .eq (.call 55 [(.var 0),(.var 7),(.lit (.int 4))]) (.lit (.int 4294967295))) [.assign (.sub (.var 4) (.var 2)) (.call 59 [(.var 0),(.var 7)])] []] ⟨dY λρ' bP=>∃dn rt K,xu bT xs eL B ts r ρ' bP dn rt K,dY λρ' bP=>∃dn rt K,xu bT xs eL B ts r ρ' bP dn rt K,V,X⟩ ρ aj).P:=by
 have ir:=I.2;cases rt with
 |nil=>exact nomatch ir
 |cons t rt=>
  obtain⟨rfl,rfl⟩:=jM ir;have ht:t∈ts:=I.1▸fK _ (.head _);have aft:=F.2.after I.1;have bef:=F.2.before I.1;have e':ts=dn++[t]++rt:=by rw[cG];exact I.1
  have lo:=F.2.1 t ht;have fE:=F.4 t ht;have hl:=I.17;rw[mi]at hl;have u:=I.21;have f1:=F.2.2 t ht;have f2:=F.2.3 t ht;nomatch I.3;refine qw (k:=4) u.1 (I.16 t (.head _)) (aB F.1 (by decide)) (aX.mpr f2) (by decide) (λaJ h0 aa u1 g1=>?_) (λaJ hno u1 g1=>absurd ⟨cD _,aX.mpr f1⟩ hno);have em:le ((xs.drop ((t.1+4:Nat):Int).toNat).take 4)=mk xs t.1:=by rw[fc];rfl
  have g1:aJ.get t.2.2=de (t.1+8:Nat) t.2.1:=g1;rw[em];have nB:B≠t.2.2:=cn fE;have gd1:=u1.at u.1 I.8 (aA rfl) (cI nB);have s0:bT.next<=t.2.2:=dA (cM F.6 lo)
  have dnB:∀t'∈dn,t'.2.2<B:=λt' h=>F.4 t' (I.1▸mc _ h);have rtB:∀t'∈rt,t'.2.2<B:=λt' h=>F.4 t' (I.1▸fK _ (.tail _ h));by_cases hm:mk xs t.1=d9
  ·nomatch hm,I.3;refine Sj (n:=n) u1.1 g1 F.1 f2 f1 λc d a k ops p' aC hR bc bd az gk2 u2 g2=>?_;have u12:=u1.trans u2;have gd2:=u2.at u1.1 gd1 (aA rfl) (cI nB);have c5:(K.map lO).length<1000000:=j4 (by have:=F.5;exact(dP λaq=>bj.go (.c _ (.c _ (.c _ .o))) (.c 1 (.a (.v 1) (.a (.v 2) (.n 1))) (.v 0) (.c 1 (.v 0) (.n 100000) (.c 1 (.n 1000000) (.v 1) .o))) rfl hl this aq));have hk2:=aB I.22 (aB u1.2 az);have U0:aw [] bT (aC.set B (.bZ (hY (t.1:Int) (ai (⟨c,d,a,ops⟩,k)) (K.map lO)))):=(u.over u12 (ik s0)).set (.inr (dA (cM F.6 F.3))) (u2.1.lt gd2 (aA rfl));have at2:∀{j o},aj.get j=o->o≠.dead->j≠t.2.2->j≠B->(aC.set B (.bZ (hY (t.1:Int) (ai (⟨c,d,a,ops⟩,k)) (K.map lO)))).get j=o:=λg h a b=>cV b (u12.at u.1 g h (cI a));have big:∀{j},B+3<=j->j≠t.2.2/\ j≠B:=λh=>⟨cn (bU fE (aB (c8 B 3) h)),cn (bU (jp (by decide)) h)⟩;have fZ:(p'=(t.2.1:Int)/\ fZ (aR xs (t.1+8) t.2.1)=some ⟨c,d,a,ops⟩) \/(p'= -1/\ fZ (aR xs (t.1+8) t.2.1)=none):=hR.imp (λh=>⟨h.1,h.2.eq⟩) λh=>⟨h.1,h.2.eq⟩;nomatch I.5,gd2,c5;refine⟨dn++[t],rt,K++[(t.1,⟨c,d,a,ops⟩,k)],e',rfl,I.3,I.4,I.5,I.6,I.7,?_,db I.9 hk2,db (P:=λe:Lt=>_) (λf hf=>at2 (I.10 f hf) (aA rfl) (big (I.9 f hf)).1 (big (I.9 f hf)).2) (cV (big hk2).2 gk2),db I.11 bd,db (P:=λe:Lt=>_) (λf hf=>(I.12 f hf).elim λt' zz=>zz.elim λh' q=>⟨t',mc _ h',q⟩) ⟨t,fK _ (.head _),hm,rfl⟩,db (P:=λt':dH=>_) (λt' h' q=>(I.13 t' h' q).elim λf zz=>zz.elim λhf z=>⟨f,mc _ hf,z⟩) λ_w=>⟨_,fK _ (.head _),rfl⟩,λH hH=>?_,db (λt' h'=>(I.15 t' h').xt λp g=>at2 g (aA rfl) (bq (bef t' h').2) (bq (dnB t' h'))) (.inr ⟨hm,?_⟩),λt' h'=>at2 (I.16 t' (.tail _ h')) (aA rfl) (cn (aft t' h').2) (bq (rtB t' h')),by rw[eW];exact aB (bb (oJ ..)) hl,at2 I.18 (aA rfl) (bq lo) (bq F.3),at2 I.19 (aA rfl) (cn (bX fE)) (cn (b9 _)),at2 I.20 (aA rfl) (cn (bX (bX fE))) (cn (bX (b9 _))),U0,aB I.22 u12.2⟩
   ·rw[Gw (λp hp=>by
     obtain⟨f,hf,rfl⟩:=iS.mp hp
     obtain⟨t',h',_,q⟩:=I.12 f hf
     exact WZ (dR.mpr (q▸(bef t' h').1))),cN];exact cT
   ·obtain⟨H',aa,h2⟩:=I.14 H hH;have aa:(if mk xs t.1=d9 then(Mine.Tactic.fZ (aR xs (t.1+8) t.2.1)).bind λh=>(dM xs (rt.map cz)).map ((t.1,h)::·)else dM xs (rt.map cz))=some H':=aa;rw[if_pos hm]at aa;rcases fZ with⟨_,h⟩|⟨_,h⟩
    ·rw[h]at aa;cases aZ:dM xs (rt.map cz)with
     |none=>rw[aZ]at aa;exact nomatch aa
     |some z=>
      rw[aZ]at aa;refine⟨z,rfl,?_⟩;rw[h2,<-cW aa,cN,cG];rfl
    ·rw[h]at aa;exact nomatch aa
   ·rcases fZ with⟨rfl,h⟩|⟨rfl,h⟩
    ·exact .inl ⟨cV nB.symm g2,by rw[h];exact B5⟩
    ·exact .inr ⟨cV nB.symm g2,h⟩
  ·have hm':¬mk xs t.1=4294967295:=hm;have at1:∀{j o},aj.get j=o->o≠.dead->j≠t.2.2->aJ.get j=o:=λg h a=>u1.at u.1 g h (cI a);nomatch hm';refine⟨dn++[t],rt,K,e',rfl,I.3,I.4,I.5,I.6,I.7,gd1,I.9,λf hf=>at1 (I.10 f hf) (aA rfl) (cn (bU fE (aB (c8 B 3) (I.9 f hf)))),I.11,λf hf=>(I.12 f hf).elim λt' zz=>zz.elim λh' q=>⟨t',mc _ h',q⟩,db I.13 λq=>absurd q hm,λH hH=>?_,db (λt' h'=>(I.15 t' h').xt λp g=>at1 g (aA rfl) (bq (bef t' h').2)) (.inl ⟨hm,g1⟩),λt' h'=>at1 (I.16 t' (.tail _ h')) (aA rfl) (cn (aft t' h').2),u8 hl,at1 I.18 (aA rfl) (bq lo),at1 I.19 (aA rfl) (cn (bX fE)),at1 I.20 (aA rfl) (cn (bX (bX fE))),u.over u1 (ik s0),aB I.22 u1.2⟩;obtain⟨H',aa,h2⟩:=I.14 H hH;exact⟨H',(if_neg hm).symm.trans aa,h2⟩
end
theorem xv{xs:List UInt8}{t:gT}{es:List gT}(h:mk xs t.1=d9):dM xs (t::es)=(fZ (aR xs (t.1+8) t.2)).bind λh=>(dM xs es).map ((t.1,h)::·):=if_pos h
theorem AU{xs:List UInt8}{t:gT}{es:List gT}(h:¬mk xs t.1=d9):dM xs (t::es)=dM xs es:=if_neg h
theorem SI{xs:List UInt8}:∀{es:List gT},(∀t∈es,mk xs t.1=d9->fZ (aR xs (t.1+8) t.2)≠none)-> ∃H,dM xs es=some H:=by
 intro es
 induction es with
 |nil=>
  intro _;exact⟨[],rfl⟩
 |cons t es ih=>
  intro h;obtain⟨H,hH⟩:=ih λt' ht'=>h t' (.tail _ ht');by_cases hm:mk xs t.1=d9
  ·rw[xv hm];cases aZ:fZ (aR xs (t.1+8) t.2)with
   |none=>exact absurd aZ (h t (.head _) hm)
   |some x=>exact⟨(t.1,x)::H,by rw[hH];rfl⟩
  ·exact⟨H,(AU hm).trans hH⟩
theorem GF{xs:List UInt8}{t:gT}(hm:mk xs t.1=d9)(h:fZ (aR xs (t.1+8) t.2)=none):∀{es:List gT},t∈es->dM xs es=none
 |u::es,ht=>by
  rcases gA.mp ht with rfl|ht
  ·rw[xv hm,h];rfl
  ·have ih:=GF hm h ht;by_cases hu:mk xs u.1=d9
   ·rw[xv hu,ih];cases fZ (aR xs (u.1+8) u.2)<;>rfl
   ·exact(AU hu).trans ih
theorem ints_snoc{ms:List Int}{m:Int}:intsOf (ms.map af.int++[.int m])=some (ms++[m]):=Fu ms m
inductive sk (xs:List UInt8) (B:Nat) (ts:List dH) (K:List Lt):Prop
 |mk (cw:∀e∈K,B+3<=e.2.2) (bd:∀e∈K,dJ e.2.1.d) (src:∀e∈K,∃t∈ts,mk xs t.1=d9/\ t.1=e.1) (all:∀t∈ts,mk xs t.1=d9-> ∃e∈K,e.1=t.1) (hd:∀H,dM xs (ts.map cz)=some H->H=K.map lP)
theorem sk.sd{xs:List UInt8}{B:Nat}{ts:List dH}{K:List Lt}(L:sk xs B ts K){t:dH}(ht:t∈ts)(hm:Mine.Tactic.mk xs t.1=d9):(!(dX (t.1:Int) (K.map lO)).isSome)=false:=by
 obtain⟨e,he,q⟩:=L.4 t ht hm;obtain⟨x,ak⟩:=GE he;rw[xr,<-q,ak];rfl
theorem jD.SJ{xs:List UInt8}{B:Nat}{ts:List dH}(h:jD xs B ts):∀t∈ts,∀u∈ts,t.1=u.1->t=u:=by
 intro t ht u hu e;obtain⟨i,ao,rfl⟩:=vc.mp ht;obtain⟨j,a8,rfl⟩:=vc.mp hu;have o:=uD.mp h.4;rcases B0 i j with q|q|q
 ·exact absurd e (bq (o i j ao a8 q).1)
 ·subst q;rfl
 ·exact absurd e (cn (o j i a8 ao q).1)
theorem sk.d4{xs:List UInt8}{eL B:Nat}{ts:List dH}{K:List Lt}(L:sk xs B ts K)(He:jD xs eL ts){t:dH}(ht:t∈ts)(hm:¬Mine.Tactic.mk xs t.1=d9):(!(dX (t.1:Int) (K.map lO)).isSome)=true:=by
 rw[xr];cases h:mP K (t.1:Int)with
 |none=>rfl
 |some e=>
  obtain⟨he,q⟩:=GD h;obtain⟨t',ht',hm',q'⟩:=L.3 e he;exact absurd (He.SJ t' ht' t ht (q'.trans (na.mp q))▸hm') hm
inductive xw (bT:ah) (xs:List UInt8) (eL B:Nat) (ts:List dH) (K:List Lt) (r:List af) (ρ:aQ) (aj:ah) (dn rt:List dH) (ms:List Int) (vs:List af):Prop
 |mk (e:ts=dn++rt) (r:r=rt.map pl) (r0:ρ 0=some (.bytes xs)) (dh:ρ 4=some (.loc B)) (qv:ρ 5=some (.loc (B+1))) (AA:ρ 6=some (.loc (B+2))) (jd:aj.get B=.bZ (K.map lO)) (cJ:∀e∈K,aj.get e.2.2=.list (e.2.1.ops.map Op.v)) (ge:aj.get eL=.list (ts.map pl)) (n1:aj.get (B+1)=.list (ms.map .int)) (n2:aj.get (B+2)=.list vs) (Ye:ms.length<=dn.length) (ll:vs.length<=dn.length) (good:∀t∈dn,mk xs t.1=d9->fZ (aR xs (t.1+8) t.2.1)≠none) (row:∀H,dM xs (ts.map cz)=some H-> ∃rs,fu xs H (ts.map cz)=(fu xs H (rt.map cz)).map (rs++·)/\ dO (jh aj (B+3)) vs (jj rs)/\ rs.map (·.m)=ms) (sp:∀t∈rt,uo aj xs t) (u:aw [] bT aj) (n:B+3<=aj.next)
theorem SK{xs:List UInt8}{K:List Lt}{t:gT}{e:Lt}(h:mP K (mk xs t.1)=some e):gb xs (K.map lP) t=(some (aR xs (t.1+8) t.2)).bind λr=>(dc 4 r).bind λb=>(dc 4 b.2).bind λs=>(iO e.2.1.c e.2.1.d s.2).map λops=>⟨mk xs t.1,e.2.1,b.1,s.1,strip ops⟩:=by rw[gb,GC,h];rfl
section
variable{n:Nat}{xs:List UInt8}
noncomputable abbrev SL:List C:=w5 (w6 (aG (aG (aG (aG ta.body)))))
theorem SM{bT aj:ah}{eL B:Nat}{ts dn rt:List dH}{K:List Lt}{ms:List Int}{vs:List af}{v:af}{r:List af}{ρ:aQ}{V:eH}{X:Nat->cX}(F:mD bT xs eL B ts)(L:sk xs B ts K)(I:xw bT xs eL B ts K (v::r) ρ aj dn rt ms vs)
  (hV:∀σ',(∀H,dM xs (ts.map cz)=some H->fu xs H (ts.map cz)=none)->aw [] bT σ'->(V .none σ').P):
  (iX (.tup [2,7]) v ρ λρ=>sB (TT (n+5)) SL ⟨dY λρ' bP=>∃dn rt ms vs,xw bT xs eL B ts K r ρ' bP dn rt ms vs,dY λρ' bP=>∃dn rt ms vs,xw bT xs eL B ts K r ρ' bP dn rt ms vs,V,X⟩ ρ aj).P:=by
 have ir:=I.2;cases rt with
 |nil=>exact nomatch ir
 |cons t rt=>
  obtain⟨rfl,rfl⟩:=jM ir;have ht:t∈ts:=I.1▸fK _ (.head _);have aft:=F.2.after I.1;have e':ts=dn++[t]++rt:=by rw[cG];exact I.1
  have lo:=F.2.1 t ht;have fE:=F.4 t ht;have u:=I.17;have f1:=F.2.2 t ht;have f2:=F.2.3 t ht;have u0:aw [] aj (aj.push (de ((t.1:Int)+4) ((t.1:Int)+8))):=(aw.refl u.1).push;have h8:(t.1:Int)+8<=xs.length:=aX.mpr (aB f1 f2);have e8:(t.1:Int)+4+(4:Nat)<=(t.1:Int)+8:=by rw[oh];exact qL _
  nomatch I.3;refine qw (k:=4) u0.1 bx (aB F.1 (by decide)) h8 (by decide) (λaJ h0 aa u1 _w=>?_) (λaJ hno u1 _w=>absurd ⟨cD (t.1+4),e8⟩ hno);have em:le ((xs.drop ((t.1+4:Nat):Int).toNat).take 4)=mk xs t.1:=by rw[fc];rfl
  have V1:aw [] aj aJ:=u0.over u1 (ik (bI _));have U1:=u.trans V1;have gd1:=V1.aV u.1 I.7 (aA rfl);have dl:dn.length<ts.length:=by rw[I.1,bR];exact jp (mY _)
  replace em:le ((xs.drop ((t.1:Int)+4).toNat).take 4)=mk xs t.1:=em;rw[em];by_cases hm:mk xs t.1=d9
  ·have az:=L.sd ht hm;have sp:=(I.16 t (.head _)).elim (λh=>absurd hm h.1) (·.2);rcases sp with⟨gs,aZ⟩|⟨gs,aZ⟩
   ·have gs1:=V1.aV u.1 gs (aA rfl);have pos:¬(t.2.1:Int)<0:=a6.mpr (cD _);nomatch I.4,gd1,az,gs1,pos;refine⟨dn++[t],rt,ms,vs,e',rfl,I.3,I.4,I.5,I.6,gd1,λf hf=>V1.aV u.1 (I.8 f hf) (aA rfl),V1.aV u.1 I.9 (aA rfl),V1.aV u.1 I.10 (aA rfl),V1.aV u.1 I.11 (aA rfl),by rw[eW];exact l8 I.12,by rw[eW];exact l8 I.13,db I.14 λ_w=>aZ,λH hH=>?_,λt' h'=>(I.16 t' (.tail _ h')).xt λp g=>V1.aV u.1 g (aA rfl),U1,aB I.18 V1.2⟩;obtain⟨rs,a1,a2,a3⟩:=I.15 H hH;exact⟨rs,a1.trans (congrArg (a7 _) (if_pos hm)),a2.imp λx y z=>z.up u.1 V1 (λ_w h=>nomatch h),a3⟩
   ·have gs1:=V1.aV u.1 gs (aA rfl);nomatch I.4,gd1,az,gs1;exact hV aJ (λH hH=>absurd hH (by rw[GF (t:=cz t) hm aZ (iS.mpr ⟨t,ht,rfl⟩)];exact cU)) U1
  ·have az:=L.d4 F.2 ht hm;have no:gb xs (K.map lP) (cz t)=none-> ∀H,dM xs (ts.map cz)=some H->fu xs H (ts.map cz)=none:=λh H hH=>by
    obtain⟨rs,a1,_⟩:=I.15 H hH;rw[a1,L.5 H hH];show a7 _ (if mk xs t.1=d9 then _ else(gb xs (K.map lP) (cz t)).bind _)=_;rw[if_neg hm,h];rfl
   cases hl:mP K (mk xs t.1)with
   |none=>
    have hkm:(!(dX (mk xs t.1) (K.map lO)).isSome)=true:=by rw[xr,hl];rfl
    nomatch I.4,gd1,az,hkm;exact hV aJ (no (by rw[gb,GC,hl];rfl)) U1
   |some ke=>
    have hkI:dX (mk xs t.1) (K.map lO)=some (ai ke.2):=by rw[xr,hl];rfl
    have hkm:(!(dX (mk xs t.1) (K.map lO)).isSome)=false:=by rw[hkI];rfl
    have hke:=(GD hl).1;have bd:=L.2 ke hke;have Y:=SK (t:=cz t) hl;have g51:=V1.aV u.1 I.10 (aA rfl);have c5:(ms.map af.int).length<1000000:=j4 (cM I.12 (gB dl (cM F.5 (by decide))));have gs1:=V1.aV u.1 ((I.16 t (.head _)).elim (·.2) λh=>absurd h.1 hm) (aA rfl);have nB:B≠t.2.2:=cn fE;have nB1:B+1≠t.2.2:=cn (bX fE);have nB2:B+2≠t.2.2:=cn (bX (bX fE));have U2:aw [B+1] aj (aJ.set (B+1) (.list (ms.map .int++[.int (mk xs t.1)]))):=(V1.mono λ_w h=>nomatch h).set (.inl (.head _)) (V1.1.lt g51 (aA rfl));nomatch I.4,I.5,I.3,gd1,az,hkm,g51,c5;have g52:=@cT aJ (B+1) (.list (ms.map .int++[.int (mk xs t.1)]));have gs2:(aJ.set (B+1) (.list (ms.map .int++[.int (mk xs t.1)]))).get t.2.2=de (t.1+8:Nat) t.2.1:=cV nB1.symm gs1;generalize (aJ.set (B+1) (.list (ms.map .int++[.int (mk xs t.1)])))=aC at*;refine qD (k:=4) U2.1 gs2 F.1 f2 (.inr ⟨_,rfl,f1,rfl⟩) (by decide) λb p1 R1 aU e1 S1 u3 g3=>?_;nomatch I.3;refine qD (k:=4) u3.1 g3 F.1 f2 S1 (by decide) λs p2 R2 c9 e2 S2 u4 eN=>?_;have u24:=u3.trans u4;have Y1:gb xs (K.map lP) (cz t)=R1.bind λr=>(dc 4 r).bind λs=>(iO ke.2.1.c ke.2.1.d s.2).map λops=>⟨mk xs t.1,ke.2.1,b,s.1,strip ops⟩:=Y.trans e1.then;have Y2:gb xs (K.map lP) (cz t)=R2.bind λr=>(iO ke.2.1.c ke.2.1.d r).map λops=>⟨mk xs t.1,ke.2.1,b,s,strip ops⟩:=Y1.trans e2.then;have U4:aw [t.2.2,B+1] aj c9:=(U2.mono λl hl=>.inl (.tail _ hl)).over u24 λl hl=>.inl (bW.mp hl▸.head _);have gd4:=U4.at u.1 I.7 (aA rfl) (cS nB (bq (b9 B)));have g54:=u24.at U2.1 g52 (aA rfl) (cI nB1);have g64:=U4.at u.1 I.11 (aA rfl) (cS nB2 (cn (b9 _)));obtain⟨j,a8⟩:=xl (k:=mk xs t.1) (xs:=ms++[mk xs t.1]) (fK _ (.head _));have c7:(ms.map af.int++[af.int (mk xs t.1)]).length<=1000000:=by rw[eW];exact c5
    have c6:vs.length<1000000:=cM I.13 (gB dl (cM F.5 (by decide)));have pos:¬(t.2.1:Int)<0:=a6.mpr (cD _);have cw:=L.1 ke hke;have AV:∀l∈[t.2.2,B+1,B+2],l∈([]:List Nat) \/bT.next<=l:=c1.mpr ⟨.inr (dA (cM F.6 lo)),c1.mpr ⟨.inr (dA (cM F.6 (bX F.3))),ik (dA (cM F.6 (bX (bX F.3))))|>λh l hl=>h l hl⟩⟩
    nomatch I.4,I.3,gd4,hkI;refine Gj (n:=n+1) u4.1 eN F.1 f2 S2.p bd (λops k dy h6 hR hk5 gk5 u5 g55=>?_) (λops k dy hR hk5 gk5 u5 g55=>?_)
    ·have gd5:=u5.at u4.1 gd4 (aA rfl) (cI nB);have gm5:=u5.at u4.1 g54 (aA rfl) (cI nB1);have gr5:=u5.at u4.1 g64 (aA rfl) (cI nB2);have Y3:gb xs (K.map lP) (cz t)=some ⟨mk xs t.1,ke.2.1,b,s,strip ops⟩:=by rw[Y2,S2.left h6];show a7 _ (iO _ _ _)=_;rw[hR.eq];rfl
     have nk:=aB (aB I.18 U4.2) hk5;have U5:aw [t.2.2,B+1,B+2] aj (dy.set (B+2) (.list (vs++[.tup [.int j,ai ke.2,.int b,.int s,.loc k]]))):=((U4.mono λl hl=>.inl ((gA.mp hl).elim (λq=>q▸.head _) λq=>bW.mp q▸.tail _ (.head _))).over u5 λl hl=>.inl (bW.mp hl▸.head _)).set (.inl (.tail _ (.tail _ (.head _)))) (u5.1.lt gr5 (aA rfl));have n3:∀{c},c≠t.2.2->c≠B+1->c≠B+2->c∉[t.2.2,B+1,B+2]:=λh h' h'' q=>(gA.mp q).elim h (cS h' h'');have M3:∀m∈[t.2.2,B+1,B+2],m<B+3:=c1.mpr ⟨bU fE (c8 B 3),uf (bX (b9 _)) (b9 _)⟩;nomatch I.4,I.5,I.6,gd5,gm5,gr5,hkI,ints_snoc,a8,c7,c6,g55,pos;refine⟨dn++[t],rt,ms++[mk xs t.1],vs++[_],e',rfl,I.3,I.4,I.5,I.6,cV (bq (bX (b9 B))) gd5,λf hf=>U5.at u.1 (I.8 f hf) (aA rfl) (kK M3 (L.1 f hf)),U5.at u.1 I.9 (aA rfl) (n3 (bq lo) (bq (bX F.3)) (bq (bX (bX F.3)))),by rw[cN];exact cV (bq (b9 _)) gm5,cT,by rw[eW,eW];exact jn I.12,by rw[eW,eW];exact jn I.13,db I.14 λq=>absurd q hm,λH hH=>?_,λt' h'=>(I.16 t' (.tail _ h')).xt λp g=>U5.at u.1 g (aA rfl) (n3 (cn (aft t' h').2) (bq (bX (F.4 t' (I.1▸fK _ (.tail _ h'))))) (bq (bX (bX (F.4 t' (I.1▸fK _ (.tail _ h'))))))),u.over U5 AV,aB I.18 U5.2⟩;obtain⟨rs,a1,a2,a3⟩:=I.15 H hH;refine⟨rs++[⟨mk xs t.1,ke.2.1,b,s,strip ops⟩],?_,?_,by rw[cN,a3];rfl⟩
     ·rw[a1];show a7 _ (if mk xs t.1=d9 then _ else(gb xs H (cz t)).bind λx=>(fu xs H (rt.map cz)).map (x::·))=_;rw[if_neg hm,L.5 H hH,Y3];show a7 _ (a7 _ (fu xs (K.map lP) (rt.map cz)))=_;rw[yH];exact congrArg (a7 · _) (funext λz=>(cG rs [_] z).symm)
     ·rw[AP,a3];refine dO.snoc ⟨ke.2.2,k,cw,nk,?_,U5.at u.1 (I.8 ke hke) (aA rfl) (kK M3 cw),cV (cn nk) gk5⟩ (a2.imp λx y z=>z.up u.1 U5 M3);show _=af.tup [.int (mO (ms++[mk xs t.1]) (mk xs t.1)),_,_,_,_];rw[mO,a8];rfl
    ·have gd5:=u5.at u4.1 gd4 (aA rfl) (cI nB);have gm5:=u5.at u4.1 g54 (aA rfl) (cI nB1);have gr5:=u5.at u4.1 g64 (aA rfl) (cI nB2);have Y3:gb xs (K.map lP) (cz t)=none:=by
      rw[Y2];by_cases h6:0<=p2
      ·rw[S2.left h6];show a7 _ (iO _ _ _)=_;rw[(hR h6).eq];rfl
      ·rw[S2.nil h6];rfl
     have U5:aw [t.2.2,B+1,B+2] aj (dy.set (B+2) (.list (vs++[.tup [.int j,ai ke.2,.int b,.int s,.loc k]]))):=((U4.mono λl hl=>.inl ((gA.mp hl).elim (λq=>q▸.head _) λq=>bW.mp q▸.tail _ (.head _))).over u5 λl hl=>.inl (bW.mp hl▸.head _)).set (.inl (.tail _ (.tail _ (.head _)))) (u5.1.lt gr5 (aA rfl));nomatch I.4,I.5,I.6,gd5,gm5,gr5,hkI,ints_snoc,a8,c7,c6,g55;exact hV _ (no Y3) (u.over U5 AV)
end
section
variable{n:Nat}{σ:ah}{Q:cR}{E:Nat->ah->Prop}{xs:List UInt8}
theorem AW(w:σ.bg)(ak:xs.length<=100000)
  (hS:∀(rs:List eE) vs k σ',gw xs=some rs->σ'.get k=.list vs->dO (jh σ' 0) vs (jj rs)->aw [] σ σ'->Q (.loc k) σ')
  (hN:∀σ',gw xs=none->aw [] σ σ'->Q .none σ'):bH fn bk bl (n+6) 60 [.bytes xs] σ Q E:=by
 refine bz rfl ?_;refine SG (n:=n) w ak rfl (λts RI aJ hE He g ga hl r0 bN u1=>?_) λaJ hE u1=>hN aJ (by rw[gw,hE.eq];rfl) u1;have w1:=u1.1;have dv:=w1.lt g (aA rfl);have u2:aw [] aJ (((aJ.push (.bZ (([]:List Int).zip []))).push (.list [])).push (.list [])):=(((aw.refl w1).push).push).push;have RFs:mD σ xs σ.next aJ.next ts:=⟨ak,He,dv,λt ht=>w1.lt (ga t ht) (aA rfl),aB hl ak,bI _⟩
 have g2:=u2.aV w1 g (aA rfl);nomatch r0,bN,g2;refine kA (λr ρ aj=>∃dn rt K,xu σ xs σ.next aJ.next ts r ρ aj dn rt K) ?_ ?_ ?_
 ·exact⟨[],ts,[],rfl,rfl,r0,bN,rfl,rfl,rfl,dw (bq (bX (b9 _))) (dw (bq (b9 _)) bx),(λ_w h=>nomatch h),(λ_w h=>nomatch h),(λ_w h=>nomatch h),(λ_w h=>nomatch h),(λ_w h=>nomatch h),λH hH=>⟨H,hH,rfl⟩,(λ_w h=>nomatch h),λt ht=>u2.aV w1 (ga t ht) (aA rfl),bb (jl _),g2,dw (bq (b9 _)) bx,bx,u1.trans u2,bI _⟩
 ·exact λv r ρ aj zz=>zz.elim λdn zz=>zz.elim λrt zz=>zz.elim λK I=>⟨I.18,SH RFs I⟩
 intro ρ aj zz;refine ao λG_ fin_=>zz.elim λdn zz=>zz.elim λrt zz=>zz.elim λK I=>fin_ ?_;clear fin_ G_ zz;refine⟨I.18,?_⟩;obtain rfl:=ml.mp I.2.symm;obtain rfl:=(dK dn).symm.trans I.1.symm;have L:sk xs aJ.next dn K:=⟨I.9,I.11,I.12,I.13,λH hH=>by
  obtain⟨H',aa,h2⟩:=I.14 H hH
  rw[<-cW aa,dK]at h2;exact h2⟩
 have R1:gw xs=(dM xs (dn.map cz)).bind λH=>fu xs H (dn.map cz):=by rw[gw,hE.eq];rfl
 nomatch I.4,I.18;refine kA (λr ρ aj=>∃dn' rt ms vs,xw σ xs σ.next aJ.next dn K r ρ aj dn' rt ms vs) ?_ ?_ ?_
 ·exact⟨[],dn,[],[],rfl,rfl,I.3,I.5,I.6,I.7,I.8,I.10,I.18,I.19,I.20,du _,du _,(λ_w h=>nomatch h),λH hH=>⟨[],by cases fu xs H (dn.map cz)<;>rfl,.nil,rfl⟩,I.15,I.21,I.22⟩
 ·refine λv r ρ aj zz=>zz.elim λdn' zz=>zz.elim λrt zz=>zz.elim λms zz=>zz.elim λvs J=>⟨J.9,SM RFs L J λσ' hH u=>hN σ' ?_ u⟩;rw[R1];cases aZ:dM xs (dn.map cz)with
  |none=>rfl
  |some H=>exact hH H aZ
 intro ρ' bP zz;refine ao λG_ fin_=>zz.elim λdn' zz=>zz.elim λrt zz=>zz.elim λms zz=>zz.elim λvs J=>fin_ ?_;clear fin_ G_ zz;refine⟨J.9,?_⟩;obtain rfl:=ml.mp J.2.symm;obtain rfl:=(dK dn').symm.trans J.1.symm;obtain⟨H,hH⟩:=SI (xs:=xs) (es:=dn'.map cz) λt ht hm=>by
  obtain⟨t',ht',rfl⟩:=iS.mp ht;exact J.14 t' ht' hm
 obtain⟨rs,a1,a2,_⟩:=J.15 H hH;nomatch J.6;refine hS rs vs _ bP (by rw[R1,hH];exact a1.trans (congrArg some (dK _))) J.11 (a2.imp λa b zz=>zz.elim λal zz=>zz.elim λol zz=>zz.elim λ_w zz=>zz.elim λ_w z=>⟨al,ol,du _,du _,z⟩) J.17
end
noncomputable def GG(r:lG):Dat:=.tuple [.int r.wZ,.tuple [.int r.c,.int r.d,.int r.r,.list (r.wY.map ua)],.int r.b,.int r.s,.list (r.ops.map ua)]
theorem SN{σ:ah}{B:Nat}{v:af}{r:lG}(h:jh σ B v r):deep σ 7 v=some (GG r):=by
 obtain⟨al,ol,_,_,rfl,g1,g2⟩:=h;exact Ay (jg rfl (jg (Ay (jg rfl (jg rfl (jg rfl (jg (Ax g1) rfl))))) (jg rfl (jg rfl (jg (Ax g2) rfl)))))
theorem GI{σ:ah}{B:Nat}{vs:List af}{rs:List lG}(h:dO (jh σ B) vs rs):d5 (deep σ 7) vs=some (rs.map GG):=by
 induction h with
 |nil=>rfl
 |cons a _ ih=>exact jg (SN a) ih
theorem uq{σ:ah}{a b B B':Nat}{vs us:List af}{rs:List lG}(g1:σ.get a=.list vs)(g2:σ.get b=.list us)(aa:dO (jh σ B) vs rs)(h2:dO (jh σ B') us rs):g5 (.loc a) (.loc b) σ=some true:=by
 unfold g5;rw[nR g1,nR g2,GI aa,GI h2];exact congrArg some (@decide_eq_true _ (YL _) rfl)
theorem pn{x:Int}(h0:0<=x)(aa:x<256):((dp x).toNat:Int)=x:=by
 unfold dp;rw[Nat.toUInt8,UInt8.toNat_ofNat',Nat.mod_eq_of_lt (Wx h0|>.mpr aa)];exact gD h0
theorem SO(v:Int):0<=v%128/\ v%128<128:=⟨fJ _ (by decide),fw _ (by decide)⟩
theorem SP{s:Bool}{r:List UInt8}:∀{n:Nat}(v:Int),v.natAbs<n->s=true \/0<=v-> ∃t w c,ip (a9 s v++r)=some (t,w,c,r)/\ (if s&&decide (c.toNat>63)then t-w else t)=v:=by
 intro n
 induction n with
 |zero=>exact λ_w h=>absurd h (pB _)
 |succ n ih=>
 intro v hn h;have m:=SO v;by_cases ai:(lim s<=v) \/v< -64
 ·rw[wL ai];have hl:=Ar s;have aa:=pn (x:=v%128+128) (fM m.1 (by decide)) (dk (A9 m.2 _) (by decide));have h2:¬dp (v%128+128)<128:=λq=>absurd (se.mp q) (by exact(λaq=>bp.go (.c _ (.c _ .o)) (.c 1 (.n 0) (.v 1) (.c 1 (.a (.v 1) (.n 128)) (.v 0) (.c 1 (.a (.v 0) (.n 1)) (.n 128) .o))) rfl m.1 (aP (bF aa)) aq));obtain⟨t,w,c,e,q⟩:=ih (v/128) (bU (less ai) (lW hn)) (h.imp id λh=>IW h (by decide));refine⟨_,128*w,c,by show ip (_::(a9 s (v/128)++r))=_;rw[F7,if_neg h2,e],?_⟩;by_cases hc:(s&&decide (c.toNat>63))=true
  ·rw[if_pos hc]at q ⊢;rw[aa,Hc,Ja,Int.add_sub_assoc,<-WF,q];exact W0 v 128
  ·rw[if_neg hc]at q ⊢;rw[aa,Hc,Ja,q];exact W0 v 128
 ·rw[tV ai];have aa:=pn (x:=v%128) m.1 (bG m.2 (by decide));refine⟨_,128,dp (v%128),AF (se.mpr (eZ (aP aa) m.2)),?_⟩;rw[aa,Ja];cases s with
  |false=>
   have hl:lim false=128:=rfl;have h:=h.resolve_left ci;exact jE h (eR.mp λz=>ai (.inl z))
  |true=>
   have hl:lim true=64:=rfl;by_cases hc:(dp (v%128)).toNat>63
   ·rw[if_pos (show(true&&decide _)=true from decide_eq_true hc),mod_eq (bG (by decide) (a6.mp λz=>ai (.inr z))) (eR.mp λn=>?_),uv];have n64:v<64:=eR.mp λz=>ai (.inl z);exact absurd (dR.mpr hc) (a6.mpr (bG (aP (aa.trans (jE n (kP n64 (by decide))))) (ut n64)))
   ·rw[if_neg (show¬(true&&decide _)=true from λq=>hc (of_decide_eq_true q))];have n64:v<64:=eR.mp λz=>ai (.inl z);refine jE (a6.mp λn=>hc ?_) (kP n64 (by decide));have n0:=a6.mp λz=>ai (.inr z);exact dR.mp (dk (by decide) (bG (Hd n0 128) (aP (aa.trans (mod_eq (bG (by decide) n0) n)).symm)))
theorem SQ{s:Bool}{r:List UInt8}(v:Int)(h:s=true \/0<=v):∃t w c,ip (a9 s v++r)=some (t,w,c,r)/\ (if s&&decide (c.toNat>63)then t-w else t)=v:=SP v (b9 _) h
theorem AX{s:Bool}{r:List UInt8}{v:Int}(h:s=true \/0<=v):eB s (a9 s v++r)=some (v,r):=by
 obtain⟨t,w,c,e,q⟩:=SQ (r:=r) v h;rw[eB,e];exact congrArg some (congrArg (·,r) q)
theorem kN{r:List UInt8}{v:Int}(h:0<=v):eB false (a9 false v++r)=some (v,r):=AX (.inr h)
theorem SR(v p:Int)(hp:0<=p):v%p+v/p%256*p=v%(p*256):=by
 rw[yF v p,yF (v/p),yF v (p*256),<-WS hp,Int.sub_mul,lY (v/p) p,Int.mul_right_comm,lY 256 p];exact(kY (a6.mp λaq=>bp.go (.c _ (.c _ (.c _ (.c _ (.c _ (.c _ .o)))))) (.c 1 (.a (.v 5) (.n 1)) (.a (.v 3) (.v 0)) (.c 1 (.v 4) (.a (.v 5) (.v 1)) (.c 1 (.a (.v 3) (.v 2)) (.v 4) (.c 1 (.a (.v 0) (.v 1)) (.v 2) .o)))) rfl aq (aP (bF (dB _ _))) (aP (dB _ _)) (aP (dB _ _))) (a6.mp λaq=>bp.go (.c _ (.c _ (.c _ (.c _ (.c _ (.c _ .o)))))) (.c 1 (.a (.a (.v 3) (.v 4)) (.n 1)) (.v 0) (.c 1 (.v 1) (.a (.v 3) (.v 5)) (.c 1 (.v 5) (.a (.v 4) (.v 2)) (.c 1 (.a (.v 0) (.v 2)) (.v 1) .o)))) rfl aq (aP (bF (dB _ _))) (aP (bF (dB _ _))) (aP (dB _ _))))
theorem GJ{v:Int}:∀{k:Nat},le (bO v k)=v%256^k:=by
 intro k
 induction k with
 |zero=>
  exact(Int.emod_one v).symm
 |succ k ih=>
  have e:bO v (k+1)=bO v k++[dp (v/256^k%256)]:=by
   unfold bO;rw[WQ,cN];rfl
  rw[e,F9,ih,fq,pn (fJ _ (by decide)) (fw _ (by decide)),SR _ _ (fG (BX (by decide)))];rfl
theorem qG{r:List UInt8}{v:Int}(k:Nat):dc k (bO v k++r)=some (v%256^k,r):=by
 have hl:=@fq v k;rw[dc,if_pos (by rw[bR,hl];exact c8 ..),Xa hl,Jb hl,GJ]
theorem AY{x d:Int}(h:x.fmod d=0):x.fdiv d*d=x:=by
 have:=Int.fmod_add_mul_fdiv x d;rw[h,qK,lY]at this;exact this
theorem iq{c d:Int}{x:UInt8}{r b7:List UInt8}{ss:List fX}{f:List Int->Op}{vs:List Int}(ak:df 64 x.toNat=false)(k:pk x pj=some (ss,f))(h:gu c d ss r=some (vs,b7)):eX c d (x::r)=some (f vs,b7):=by
 have n:¬64<=x.toNat:=λq=>VE (ak.symm.trans (j9.mpr q));refine(if_neg λq=>n (aB (by decide) q)).trans ((if_neg λq=>n (aB (by decide) q)).trans ((if_neg n).trans ?_));rw[k];show a7 _ (gu c d ss r)=_;rw[h];rfl
theorem lQ{c d:Int}{s:fX}{r b7:List UInt8}{v:Int}(h:hx c d s r=some (v,b7)):gu c d [s] r=some ([v],b7):=by
 show(hx c d s r).bind _=_;rw[h];rfl
theorem SS{c d:Int}{s s':fX}{r b7 r'':List UInt8}{v v':Int}(h:hx c d s r=some (v,b7))(h':hx c d s' b7=some (v',r'')):gu c d [s,s'] r=some ([v,v'],r''):=by
 show(hx c d s r).bind _=_;rw[h];show a7 _ (gu c d [s'] b7)=_;rw[lQ h'];rfl
theorem qH{c d a:Int}{s':fX}{ys r r'':List UInt8}{v':Int}(h:0<=a)(h':hx c d s' (ys++r)=some (v',r'')):gu c d [.u,s'] ((a9 false a++ys)++r)=some ([a,v'],r''):=by
 rw[cG];exact SS (s:=.u) (kN h) h'
theorem mulM{f:Option (Int×List UInt8)}{m v w:Int}{r:List UInt8}(h:f=some (v,r))(e:v*m=w):f.map (λy=>(y.1*m,y.2))=some (w,r):=by rw[h,<-e];rfl
theorem GK{c d x:Int}{r:List UInt8}(h0:0<=x.fdiv d)(h:x.fmod d=0):hx c d .d (a9 false (x.fdiv d)++r)=some (x,r):=mulM (kN h0) (AY h)
theorem xx{c d x:Int}{r:List UInt8}(h:x.fmod d=0):hx c d .s (a9 true (x.fdiv d)++r)=some (x,r):=mulM (AX (.inl rfl)) (AY h)
theorem AZ{x:Int}{k:Nat}(h0:0<=x)(aa:x<256)(h:x<k):¬k<=(dp x).toNat:=λq=>by have:=pn h0 aa;exact bp.go (.c _ (.c _ (.c _ .o))) (.c 1 (.a (.v 0) (.n 1)) (.v 2) (.c 1 (.v 1) (.v 0) (.c 1 (.v 2) (.v 1) .o))) rfl h (aP this) (aX.mpr q)
theorem A0{x:Int}{k:Nat}(aa:x<256)(h:(k:Int)<=x):k<=(dp x).toNat:=by have:=pn (bG (cD k) h) aa;exact(bE λaq=>bp.go (.c _ (.c _ (.c _ .o))) (.c 1 (.v 1) (.v 0) (.c 1 (.v 0) (.v 2) (.c 1 (.a (.v 2) (.n 1)) (.v 1) .o))) rfl h (aP (bF this)) (aX.mpr aq))
theorem SU{c d a:Int}{r:List UInt8}(h0:0<=a)(aa:a<64):eX c d (dp (192+a)::r)=some (.rest a,r):=by
 refine(if_pos (A0 (dk (gY aa _) (by decide)) (bG (by decide) (Jc h0 _)))).trans (congrArg (λz=>some (Op.rest z,r)) ?_);rw[pn (fM (by decide) h0) (dk (gY aa _) (by decide))];exact(kY (a6.mp λaq=>bp.go (.c _ (.c _ .o)) (.c 1 (.a (.v 0) (.n 1)) (.v 1) (.c 1 (.a (.v 1) (.n 192)) (.a (.n 192) (.v 0)) .o)) rfl aq (aP (dB _ _))) (a6.mp λaq=>bp.go (.c _ (.c _ .o)) (.c 1 (.a (.v 1) (.n 1)) (.v 0) (.c 1 (.a (.n 192) (.v 0)) (.a (.v 1) (.n 192)) .o)) rfl aq (aP (bF (dB _ _)))))
theorem SV{c d a x:Int}{r:List UInt8}(h0:0<=a)(aa:a<64)(h2:0<=x.fdiv d)(h3:x.fmod d=0):eX c d (dp (128+a)::(a9 false (x.fdiv d)++r))=some (.off a x,r):=by
 refine(if_neg (AZ (fM (by decide) h0) (dk (gY aa _) (by decide)) (dk (gY aa _) (by decide)))).trans ((if_pos (A0 (dk (gY aa _) (by decide)) (bG (by decide) (Jc h0 _)))).trans ?_);rw[kN h2,pn (fM (by decide) h0) (dk (gY aa _) (by decide))];show some (Op.off (128+a-128) (x.fdiv d*d),r)=_;rw[AY h3,show 128+a-128=a by exact(kY (a6.mp λaq=>bp.go (.c _ (.c _ .o)) (.c 1 (.a (.v 0) (.n 1)) (.v 1) (.c 1 (.a (.v 1) (.n 128)) (.a (.n 128) (.v 0)) .o)) rfl aq (aP (dB _ _))) (a6.mp λaq=>bp.go (.c _ (.c _ .o)) (.c 1 (.a (.v 1) (.n 1)) (.v 0) (.c 1 (.a (.n 128) (.v 0)) (.a (.v 1) (.n 128)) .o)) rfl aq (aP (bF (dB _ _)))))]
theorem SW{c d a:Int}{r:List UInt8}(h0:0<=a)(aa:a<64):eX c d (dp (64+a)::r)=some (.dG (a*c),r):=by
 refine(if_neg (AZ (fM (by decide) h0) (dk (gY aa _) (by decide)) (dk (gY aa _) (by decide)))).trans ((if_neg (AZ (fM (by decide) h0) (dk (gY aa _) (by decide)) (dk (gY aa _) (by decide)))).trans ((if_pos (A0 (dk (gY aa _) (by decide)) (bG (by decide) (Jc h0 _)))).trans (congrArg (λz=>some (Op.dG (z*c),r)) ?_)));rw[pn (fM (by decide) h0) (dk (gY aa _) (by decide))];exact(kY (a6.mp λaq=>bp.go (.c _ (.c _ .o)) (.c 1 (.a (.v 0) (.n 1)) (.v 1) (.c 1 (.a (.v 1) (.n 64)) (.a (.n 64) (.v 0)) .o)) rfl aq (aP (dB _ _))) (a6.mp λaq=>bp.go (.c _ (.c _ .o)) (.c 1 (.a (.v 1) (.n 1)) (.v 0) (.c 1 (.a (.n 64) (.v 0)) (.a (.v 1) (.n 64)) .o)) rfl aq (aP (bF (dB _ _)))))
theorem SX{k:Int}(h0:0<=k)(aa:k<256):[dp k]=bO k 1:=by
 show _=[dp (k/1%256)];rw[WL,pf h0 aa]
theorem SY{c d:Int}{o:Op}{r:List UInt8}(hr:o.gG)(hf:o.fits c d):eX c d (o.wr c d++r)=some (o.nT c,r):=by
 cases o with
 |dG t=>
  obtain⟨_,h2,h3⟩:=hf;show eX c d ((if t.fdiv c<64 then[dp (64+t.fdiv c)]else if t.fdiv c<256 then[2,dp (t.fdiv c)]else if t.fdiv c<65536 then 3::bO (t.fdiv c) 2 else 4::bO (t.fdiv c) 4)++r)=some (.dG ((t.fdiv c).fmod 4294967296*c),r);rw[lC _ (by decide)];generalize t.fdiv c=k at*;have big:∀{m:Int},k<m->m<=4294967296->k%m=k%4294967296:=λa b=>by rw[jE h3 a,jE h3 (dk a b)]
  by_cases cw:k<64
  ·rw[if_pos cw,jE h3 (bG cw (by decide))];exact SW h3 cw
  rw[if_neg cw];by_cases cJ:k<256
  ·rw[if_pos cJ,SX h3 cJ];exact iq (x:=2) rfl rfl (lQ (mulM (qG 1) (congrArg (· *c) (big cJ (by decide)))))
  rw[if_neg cJ];by_cases k3:k<65536
  ·rw[if_pos k3];exact iq (x:=3) rfl rfl (lQ (mulM (qG 2) (congrArg (· *c) (big k3 (by decide)))))
  rw[if_neg k3];exact iq (x:=4) rfl rfl (lQ (mulM (qG 4) rfl))
 |loc v=>
  show _=some (Op.loc (v.fmod 4294967296),r);rw[lC _ (by decide)];exact iq (x:=1) rfl rfl (lQ (qG 4))
 |rest a=>
  have hr:0<=a:=hr;show eX c d ((if a<64 then[dp (192+a)]else 6::a9 false a)++r)=_;by_cases h:a<64
  ·rw[if_pos h];exact SU hr h
  ·rw[if_neg h];exact iq (x:=6) rfl rfl (lQ (kN hr))
 |iM|rem|res=>rfl
 |kB a=>exact iq (x:=7) rfl rfl (lQ (kN hr))
 |same a=>exact iq (x:=8) rfl rfl (lQ (kN hr))
 |kD a=>exact iq (x:=13) rfl rfl (lQ (kN hr))
 |kC a b=>exact iq (x:=9) rfl rfl (qH hr.1 (kN hr.2))
 |hh a x=>
  show eX c d ((if 0<=x then 12::(a9 false a++a9 false x)else 18::(a9 false a++a9 true (x.fdiv d)))++r)=_;by_cases h:0<=x
  ·rw[if_pos h];exact iq (x:=12) rfl rfl (qH hr (kN h))
  ·rw[if_neg h];exact iq (x:=18) rfl rfl (qH hr (xx (hf.resolve_left h).2))
 |ig x=>
  show eX c d ((if 0<=x then 14::a9 false x else 19::a9 true (x.fdiv d))++r)=_;by_cases h:0<=x
  ·rw[if_pos h];exact iq (x:=14) rfl rfl (lQ (kN h))
  ·rw[if_neg h];exact iq (x:=19) rfl rfl (lQ (xx (hf.resolve_left h).2))
 |off a x=>exact SV hr hf.2.2.1 hf.2.2.2 hf.2.1
 |hi a x=>
  show eX c d ((if 0<=x.fdiv d then 5::(a9 false a++a9 false (x.fdiv d))else 17::(a9 false a++a9 true (x.fdiv d)))++r)=_;by_cases h:0<=x.fdiv d
  ·rw[if_pos h];exact iq (x:=5) rfl rfl (qH hr (GK h hf.2))
  ·rw[if_neg h];exact iq (x:=17) rfl rfl (qH hr (xx hf.2))
 |val a x=>
  show eX c d ((if 0<=x.fdiv d then 20::(a9 false a++a9 false (x.fdiv d))else 21::(a9 false a++a9 true (x.fdiv d)))++r)=_;by_cases h:0<=x.fdiv d
  ·rw[if_pos h];exact iq (x:=20) rfl rfl (qH hr (GK h hf.2))
  ·rw[if_neg h];exact iq (x:=21) rfl rfl (qH hr (xx hf.2))
theorem GL{c d:Int}:∀k,dC c d (gy k 0) (some (gy k .iM))
 |0=>.nil
 |k+1=>dC.more (r:=0::gy k 0) (o:=.iM) rfl (GL k)
theorem SZ{c d:Int}{k:Nat}:∀{ops:List Op},(∀o∈ops,o.gG/\ o.fits c d)->dC c d (da c d ops++gy k 0) (some (ops.map (Op.nT c)++gy k .iM)):=by
 intro ops
 induction ops with
 |nil=>
  intro _;exact GL k
 |cons o ops ih=>
  intro h;show dC c d ((o.wr c d++da c d ops)++gy k 0) _;rw[cG];exact dC.more (SY (h o (.head _)).1 (h o (.head _)).2) (ih λo ho=>h o (.tail _ ho))
theorem GM{l:List Op}:∀k,strip (l++gy k .iM)=strip l
 |0=>congrArg strip (dK l)
 |k+1=>by rw[List.replicate_succ',<-cG,FS rfl,GM k]
theorem S0{c d:Int}{k:Nat}{ops:List Op}(h:∀o∈ops,o.gG/\ o.fits c d):(iO c d (da c d ops++gy k 0)).map strip=some (nU c ops):=by
 rw[(SZ h).eq];exact congrArg some (GM k)
noncomputable def kO(b:List UInt8):List UInt8:=bO b.length 4++b
theorem qI{b:List UInt8}:(kO b).length=4+b.length:=by rw[kO,bR,fq]
inductive A1 (xs:List UInt8) (a:Nat) (b:List UInt8):Prop
 |mk (lt:a<xs.length) (iK:n8 xs a=some (a+4+b.length)) (AV:mk xs a=le (b.take 4)) (lf:aR xs (a+8) (a+4+b.length)=b.drop 4)
theorem A1.of{xs pre b rest:List UInt8}(ak:xs=pre++(kO b++rest))(h:4<=b.length)(h':b.length<4294967296):A1 xs pre.length b:=by
 have hl:xs.length=pre.length+(4+b.length+rest.length):=by rw[ak,bR,bR,qI]
 have d:xs.drop (pre.length+4)=b++rest:=by rw[ak,<-I6,Xb,kO,cG,Jb fq]
 have e:aR xs pre.length xs.length=bO b.length 4++(b++rest):=by rw[aR,Bu,ak,Xb,kO,cG]
 refine⟨by exact(dP λaq=>bj.go (.c _ (.c _ (.c _ (.c _ .o)))) (.c 1 (.n 4) (.v 2) (.c 1 (.a (.v 1) (.a (.a (.n 4) (.v 2)) (.v 3))) (.v 0) (.c 1 (.v 0) (.v 1) .o))) rfl h (bb (bF hl)) aq),?_,?_,?_⟩
 ·rw[n8,e,qG,show(b.length:Int)%256^4=b.length from jE (cD _) (dR.mpr h')];exact if_pos ⟨aX.mpr h,show((pre.length+4+b.length:Nat):Int)<=xs.length from aX.mpr (by rw[hl,lU pre.length];exact fH (c8 _ _) _)⟩
 ·rw[Mine.Tactic.mk,d,List.take_append_of_le_length h]
 ·rw[aR,WO,<-I6 (i:=4),d,List.drop_append_of_le_length h,show pre.length+4+b.length-(pre.length+4+4)=(b.drop 4).length by rw[oy];exact(qO (bE λaq=>bj.go (.c _ (.c _ (.c _ (.c _ .o)))) (.c 1 (.a (.v 3) (.n 1)) (.v 2) (.c 1 (.v 0) (.a (.v 3) (.n 4)) (.c 1 (.a (.v 2) (.a (.a (.v 1) (.n 4)) (.n 4))) (.a (.a (.v 1) (.n 4)) (.v 0)) .o))) rfl aq (bb (bF (dU (bE λz1=>bj.go (.c _ .o) (.c 1 (.n 4) (.v 0) (.c 1 (.a (.v 0) (.n 1)) (.n 4) .o)) rfl h z1)))) (bb (dU (bE λz1=>bj.go (.c _ (.c _ .o)) (.c 1 (.n 4) (.v 0) (.c 1 (.a (.a (.a (.v 1) (.n 4)) (.v 0)) (.n 1)) (.a (.a (.v 1) (.n 4)) (.n 4)) .o)) rfl h z1)))) (bE λaq=>bj.go (.c _ (.c _ (.c _ (.c _ .o)))) (.c 1 (.a (.v 2) (.n 1)) (.v 1) (.c 1 (.a (.a (.v 3) (.n 4)) (.v 0)) (.a (.v 2) (.a (.a (.v 3) (.n 4)) (.n 4))) (.c 1 (.a (.v 1) (.n 4)) (.v 0) .o))) rfl aq (bb (bF (dU (bE λz1=>bj.go (.c _ (.c _ .o)) (.c 1 (.n 4) (.v 0) (.c 1 (.a (.a (.a (.v 1) (.n 4)) (.v 0)) (.n 1)) (.a (.a (.v 1) (.n 4)) (.n 4)) .o)) rfl h z1)))) (bb (dU (bE λz1=>bj.go (.c _ .o) (.c 1 (.n 4) (.v 0) (.c 1 (.a (.v 0) (.n 1)) (.n 4) .o)) rfl h z1))))),List.take_left]
inductive bu where
 |head (H:ba)
 |d4 (H:ba) (p:Nat) (f:cQ)
noncomputable def bu.S3(p:bu):Bool:=@bu.rec (λ_w=>Bool) (λ_w=>true) (λ_w _w _w=>false) p
theorem S5{H G:ba}{p:Nat}{f:cQ}{C:Prop}(e:bu.d4 H p f=.head G):C:=ci (congrArg bu.S3 e)
noncomputable def bu.b:bu->List UInt8
 |.head H=>je (ph H.c H.d H.r++da H.c H.d H.ops)
 |.d4 H p f=>je (bO p 4++(bO f.b 4++(bO f.s 4++da H.c H.d f.ops)))
noncomputable def j5(H:ba):ba:=⟨H.c,H.d,H.r,nU H.c H.ops⟩
noncomputable def bu.Good:bu->Prop
 |.head H=>iN H
 |.d4 H p f=>p<4294967295/\ hj f.ops/\ ∀o∈f.ops,o.fits H.c H.d
noncomputable def bu.lR(H:ba)(p:Nat)(f:cQ):eE:=⟨p,j5 H,f.b%4294967296,f.s%4294967296,nU H.c f.ops⟩
noncomputable abbrev iK(a:Nat)(p:bu):Nat:=a+4+p.b.length
noncomputable def xy(a:Nat):List bu->List gT
 |[]=>[]
 |p::r=>(a,iK a p)::xy (iK a p) r
noncomputable def jk(a:Nat):List bu->List (Nat×ba)
 |[]=>[]
 |.head H::r=>(a,j5 H)::jk (iK a (.head H)) r
 |.d4 H p f::r=>jk (iK a (.d4 H p f)) r
noncomputable def iu:List bu->List eE
 |[]=>[]
 |.head _::r=>iu r
 |.d4 H p f::r=>bu.lR H p f::iu r
noncomputable def j6(pts:List bu):List (List UInt8):=pts.map λp=>kO p.b
theorem bu.len{p:bu}(g:p.Good):8<=p.b.length/\ p.b.length<=1200:=by
 cases p with
 |head H=>
  have aa:=ba.r2 (show iN H from g).1;rw[show H.B=kO (bu.head H).b from rfl,qI]at aa;refine⟨?_,by exact(aB (va _ _) aa)⟩;rw[bu.b,r1,bR];exact aB (aB (show 8<=_ from by rw[ph,bR];exact c8 ..) (c8 ..)) (c8 ..)
 |d4 H p f=>
  have aa:=r3 (H:=H) (p:=(p:Int)) (f:=f) g.2.1;rw[show hk H p f=kO (bu.d4 H p f).b from rfl,qI]at aa;refine⟨?_,by exact(aB (va _ _) aa)⟩;rw[bu.b,r1,bR,bR,fq,fq];exact(bE λaq=>bj.go (.c _ (.c _ .o)) (.c 1 (.a (.a (.a (.n 4) (.a (.n 4) (.v 0))) (.v 1)) (.n 1)) (.n 8) .o) rfl aq)
theorem GN{H:ba}{p:Nat}{f:cQ}:∃k,(bu.d4 H p f).b=bO p 4++(bO f.b 4++(bO f.s 4++(da H.c H.d f.ops++gy k 0))):=
 ⟨_,by rw[bu.b,je,cG,cG,cG]⟩
theorem S6{p:Nat}(h:p<4294967295):((p:Int)%256^4)=p:=jE (cD _) (dR.mpr (bX h))
theorem A2{H:ba}{p:Nat}{f:cQ}(h:p<4294967295):le ((bu.d4 H p f).b.take 4)=p:=by
 obtain⟨k,e⟩:=@GN H p f;rw[e,Xa fq,GJ,S6 h]
theorem GO{c d:Int}{k:Nat}{ops:List Op}{α:Type}{F:List Op->α}(h:∀o∈ops,o.gG/\ o.fits c d):(iO c d (da c d ops++gy k 0)).map (λy=>F (strip y))=some (F (nU c ops)):=by
 have e:(iO c d (da c d ops++gy k 0)).map (λy=>F (strip y))=((iO c d (da c d ops++gy k 0)).map strip).map F:=(yH F strip _).symm;rw[e,S0 h];rfl
theorem S7{T:List UInt8}:gv (4::0::4::0::T)=fY 4 T:=rfl
theorem S8{c d r:Int}{Z:List UInt8}(hc:0<=c)(hr:0<=r):fY 4 (a9 false c++(a9 true d++(a9 false r++Z)))=some (c,d,r,Z):=by
 rw[fY,kN hc];show(eB true _).bind _=_;rw[AX (.inl rfl)];show(ji 4 _).bind _=_;rw[show∀r,ji 4 r=eB false r from λ_w=>rfl,kN hr];rfl
theorem S9{H:ba}(g:iN H):fZ ((bu.head H).b.drop 4)=some (j5 H):=by
 have e:∃k,(bu.head H).b.drop 4=4::0::4::0::(a9 false H.c++(a9 true H.d++(a9 false H.r++(da H.c H.d H.ops++gy k 0)))):=
  ⟨_,by rw[bu.b,je,ph,cG,cG,cG,cG];rfl⟩
 obtain⟨k,e⟩:=e;rw[fZ,e,S7,S8 g.1.1 g.1.5];exact GO (F:=λops=>(⟨H.c,H.d,H.r,ops⟩:ba)) λo ho=>⟨g.1.7.1 o ho,g.2 o ho⟩
theorem Ta{xs:List UInt8}{HH:List (Nat×ba)}{t:gT}{H:ba}{p:Nat}{f:cQ}(g:(bu.d4 H p f).Good)(hm:mk xs t.1=p)(hL:aR xs (t.1+8) t.2=(bu.d4 H p f).b.drop 4)(az:iP HH p=some (j5 H)):gb xs HH t=some (bu.lR H p f):=by
 obtain⟨k,e⟩:=@GN H p f;rw[gb,hm,az,hL,e,Jb fq,Ig,qG,Ig];dsimp only;rw[qG];exact GO (F:=λops=>(⟨p,j5 H,f.b%256^4,f.s%256^4,ops⟩:eE)) λo ho=>⟨g.2.1.1 o ho,g.2.2 o ho⟩
inductive lS (xs:List UInt8):Nat->List bu->Prop
 |nil:lS xs xs.length []
 |cons {a:Nat} {p:bu} {r:List bu} (g:p.Good) (h:A1 xs a p.b) (t:lS xs (iK a p) r):lS xs a (p::r)
theorem Tb{xs:List UInt8}:∀(pts:List bu)(pre:List UInt8),(∀p∈pts,p.Good)->xs=pre++(j6 pts).flatten->lS xs pre.length pts:=by
 intro pts
 induction pts with
 |nil=>
  intro pre _ ak;rw[show pre=xs from(ak.trans (dK pre)).symm];exact .nil
 |cons p pts ih=>
  intro pre g ak;have ak:xs=pre++(kO p.b++(j6 pts).flatten):=ak;have ih:=ih (pre++kO p.b) (λq hq=>g q (.tail _ hq)) (ak.trans (cG ..).symm);rw[bR,qI,<-lU]at ih;have hl:=bu.len (g p (.head _));exact .cons (g p (.head _)) (.of ak (aB (by decide) hl.1) (cM hl.2 (by decide))) ih
theorem lS.en{xs:List UInt8}{a:Nat}{pts:List bu}(h:lS xs a pts):fB xs a (some (xy a pts)):=by
 induction h with
 |nil=>exact .fin
 |cons g h t ih=>exact .more h.1 h.2 ih
theorem GP{p:Nat}(h:p<4294967295):¬(p:Int)=d9:=λq=>lV _ (na.mp (show(p:Int)=((4294967295:Nat):Int)from q)▸h)
theorem lS.dM{xs:List UInt8}{a:Nat}{pts:List bu}(h:lS xs a pts):Mine.Tactic.dM xs (xy a pts)=some (jk a pts):=by
 induction h with
 |nil=>rfl
 |@cons a p r g h t ih=>
  cases p with
  |head H=>refine(xv (t:=(a,_)) (h.3.trans rfl)).trans ?_;rw[ih,h.4,S9 g];rfl
  |d4 H p f=>exact(AU (t:=(a,_)) (h.3.trans (A2 g.1)▸GP g.1)).trans ih
theorem lS.fu{xs:List UInt8}{HH:List (Nat×ba)}{a:Nat}{pts:List bu}(h:lS xs a pts)(az:∀H p f,bu.d4 H p f∈pts->iP HH p=some (j5 H)):Mine.Tactic.fu xs HH (xy a pts)=some (iu pts):=by
 induction h with
 |nil=>rfl
 |@cons a p r g h t ih=>
  have ih:=ih λH p f q=>az H p f (.tail _ q);cases p with
  |head H=>exact(if_pos (h.3.trans rfl)).trans ih
  |d4 H p f=>
   refine(if_neg (h.3.trans (A2 g.1)▸GP g.1)).trans ?_;rw[ih,Ta g (h.3.trans (A2 g.1)) h.4 (az H p f (.head _))];rfl
theorem Tc{pts:List bu}(g:∀p∈pts,p.Good)(az:∀H p f,bu.d4 H p f∈pts->iP (jk 0 pts) p=some (j5 H)):gw (j6 pts).flatten=some (iu pts):=by
 have A:lS (j6 pts).flatten 0 pts:=Tb pts [] g rfl;rw[gw,A.en.eq];show(dM _ _).bind _=_;rw[A.dM];exact A.fu az
theorem A3(p q:List bu):j6 (p++q)=j6 p++j6 q:=cN
theorem GQ:∀(p q:List bu)(a:Nat),jk a (p++q)=jk a p++jk (a+(j6 p).flatten.length) q:=by
 intro p
 induction p with
 |nil=>
  intro q a;exact rfl
 |cons x p ih=>
  intro q a;have e:iK a x+(j6 p).flatten.length=a+(j6 (x::p)).flatten.length:=by
   show _=a+(kO x.b++(j6 p).flatten).length;rw[bR,qI,<-lU,<-lU]
  have ih:=ih q (iK a x);rw[e]at ih;cases x with
  |head H=>exact congrArg ((a,j5 H)::·) ih
  |d4 H s f=>exact ih
theorem xz:∀(p q:List bu),iu (p++q)=iu p++iu q
 |[],q=>rfl
 |.head H::p,q=>xz p q
 |.d4 H s f::p,q=>congrArg (bu.lR H s f::·) (xz p q)
theorem A4{m:Int}{e:Nat×ba}{K:List (Nat×ba)}(h:(e.1:Int)=m):iP (e::K) m=some e.2:=congrArg (a7 _) (sy (p:=λe:Nat×ba=>decide ((e.1:Int)=m)) (decide_eq_true h))
theorem xA{m:Int}{e:Nat×ba}{K:List (Nat×ba)}(h:¬(e.1:Int)=m):iP (e::K) m=iP K m:=congrArg (a7 _) (qT (p:=λe:Nat×ba=>decide ((e.1:Int)=m)) λq=>h (of_decide_eq_true q))
theorem A5{q:List (Nat×ba)}{m:Int}{h:ba}:∀{p:List (Nat×ba)},iP p m=some h->iP (p++q) m=some h
 |x::p,e=>by
  by_cases z:(x.1:Int)=m
  ·exact(A4 z).trans ((A4 z).symm.trans e)
  ·exact(xA z).trans (A5 ((xA z).symm.trans e))
theorem Td{m:Nat}{h:ba}:∀{p:List (Nat×ba)},(∀x∈p,x.1<m)->iP (p++[(m,h)]) m=some h:=by
 intro p
 induction p with
 |nil=>
  intro _;exact A4 rfl
 |cons x p ih=>
  intro e;exact(xA λz=>absurd (e x (.head _)) (na.mp z▸lV _)).trans (ih λx ak=>e x (.tail _ ak))
theorem GR{m:Int}{h:ba}:∀{p:List (Nat×ba)},iP p m=some h-> ∃x∈p,(x.1:Int)=m
 |x::p,e=>by
  by_cases z:(x.1:Int)=m
  ·exact⟨x,.head _,z⟩
  ·obtain⟨y,hy,z⟩:=GR ((xA z).symm.trans e);exact⟨y,.tail _ hy,z⟩
theorem Te{k:Int}:∀{xs:List Int},k∉xs->indexOf k xs=none:=by
 intro xs
 induction xs with
 |nil=>
  intro _;exact rfl
 |cons x xs ih=>
  intro h;exact(qE λe=>h (by rw[e];exact .head _)).trans (by rw[ih λq=>h (.tail _ q)];rfl)
theorem Tf{j k:Nat}{a b:Int}:∀{K:List (Nat×Int×Int)}{x:Int×Int},et (K++[(j,a,b)]) k=some x->et K k=some x \/(j=k/\ (a,b)=x):=by
 intro K
 induction K with
 |nil=>
  intro x e;by_cases q:j=k
  ·subst q;exact .inr ⟨rfl,cW (nX.symm.trans e)⟩
  ·exact nomatch(nY q).symm.trans e
 |cons iI K ih=>
  obtain⟨i,c,d⟩:=iI;intro x e;by_cases q:i=k
  ·subst q;exact .inl (nX.trans (nX.symm.trans e))
  ·exact(ih ((nY q).symm.trans e)).imp (nY q).trans id
inductive sl (hd:Nat->ba) (t:nW) (pts:List bu):Prop
 |mk (parts:t.parts=j6 pts) (good:∀p∈pts,p.Good) (i9:∀H p f,bu.d4 H p f∈pts->iP (jk 0 pts) p=some (j5 H)) (fW:∀k x,et t.fW k=some x-> ∃sn hn:Nat,x.2=sn/\ x.1=hn/\ iP (jk 0 pts) sn=some (j5 (hd k))/\ indexOf sn ((iu pts).map (·.m))=some hn) (rows:t.rows=jj (iu pts)) (marks:∀r∈iu pts,r.m<t.parts.flatten.length) (DQ:∀e∈jk 0 pts,e.1<t.parts.flatten.length)
theorem GS{H:ba}{p:Nat}{f:cQ}{ms:List Int}{h:Nat}(e:indexOf (p:Int) ms=some h):(bu.lR H p f).row ms=r9 H h f:=by
 show(⟨mO ms p,_,_,_,_,f.b%4294967296,f.s%4294967296,_⟩:lG)=⟨h,_,_,_,_,f.b.fmod 4294967296,f.s.fmod 4294967296,_⟩;rw[mO,e,lC _ (by decide),lC _ (by decide)];rfl
inductive xB (hd:Nat->ba) (f:cQ):Prop
 |mk (g:iN (hd f.k)) (ok:hj f.ops) (ql:∀o∈f.ops,o.fits (hd f.k).c (hd f.k).d)
theorem sl.step{hd:Nat->ba}{t:nW}{pts:List bu}(I:sl hd t pts){f:cQ}(F:xB hd f)(hl:t.parts.flatten.length<=1000000):∃pts',sl hd (io hd t f) pts':=by
 unfold io;have lR:∀{p:Nat}{q:List bu},iu (q++[.d4 (hd f.k) p f])=iu q++[bu.lR (hd f.k) p f]:=xz _ _;have lt:∀{P Q:List (List UInt8)},P.flatten.length<=(P++Q).flatten.length:=λ{P Q}=>by rw[vb,bR];exact c8 ..
 cases az:et t.fW f.k with
 |some x=>
  refine ao λG z=>?_;obtain⟨sn,hn,e1,e2,h3,h4⟩:=I.4 _ _ az;obtain⟨e0,he0,he1⟩:=GR h3;refine z ?_;clear z G;have hp:=I.7 e0 he0;have hp:sn<t.parts.flatten.length:=na.mp he1▸hp;have hH:jk 0 (pts++[.d4 (hd f.k) sn f])=jk 0 pts:=(GQ ..).trans (dK _);dsimp only;rw[e1,e2];have jd:(bu.d4 (hd f.k) sn f).Good:=⟨by exact(aB (aB hp hl) (by decide)),F.2,F.3⟩;refine⟨pts++[.d4 (hd f.k) sn f],by rw[A3,I.1];rfl,db I.2 jd,λH p f' hp=>?_,λk x hks=>?_,?_,λr hr=>?_,λe he=>?_⟩
  ·rw[hH];rcases lZ.mp hp with hp|hp
   ·exact I.3 H p f' hp
   ·cases bW.mp hp;exact h3
  ·refine ao λG z=>?_;obtain⟨sn',hn',e1,e2,e3,e4⟩:=I.4 k x hks;refine z ?_;clear z G;refine⟨sn',hn',e1,e2,hH▸e3,?_⟩;rw[lR,cN];exact xk e4
  ·rw[lR,AP,I.5];exact congrArg (_++[·]) (GS (xk h4)).symm
  ·rw[lR]at hr;exact dk ((lZ.mp hr).elim (I.6 r) λh=>bW.mp h▸dR.mpr hp) (aX.mpr lt)
  ·exact bU (I.7 e (hH▸he)) lt
 |none=>
  obtain⟨N,hN⟩:∃N,t.parts.flatten.length=N:=⟨_,rfl⟩;have Im:=I.6;have Ih:=I.7;rw[hN]at hl Im Ih;dsimp only;rw[hN];have jd:(bu.d4 (hd f.k) N f).Good:=⟨by exact(cM hl (by decide)),F.2,F.3⟩;have w7:(bu.head (hd f.k)).Good:=F.1;have hH:jk 0 (pts++[.head (hd f.k)]++[.d4 (hd f.k) N f])=jk 0 pts++[(N,j5 (hd f.k))]:=by
   rw[cG,GQ,jl,<-I.1,hN];rfl
  have hX:iu (pts++[.head (hd f.k)]++[.d4 (hd f.k) N f])=iu pts++[bu.lR (hd f.k) N f]:=by rw[lR,xz];exact congrArg (· ++_) (dK _)
  have hB:t.parts++[(hd f.k).B]++[hk (hd f.k) (N:Int) f]=j6 (pts++[.head (hd f.k)]++[.d4 (hd f.k) N f]):=by
   rw[A3,A3,<-I.1];rfl
  have hL:N<(t.parts++[(hd f.k).B]++[hk (hd f.k) (N:Int) f]).flatten.length:=by
   refine bU ?_ lt;rw[vb,bR,hN];refine jp ?_;show 0<(kO (bu.head (hd f.k)).b++[]).length;rw[dK,qI];exact bU (by decide) (c8 ..)
  have hnew:iP (jk 0 pts++[(N,j5 (hd f.k))]) (N:Int)=some (j5 (hd f.k)):=Td Ih;have hrl:t.rows.length=((iu pts).map (·.m)).length:=by rw[I.5,jj,cF,cF]
  have hidx:indexOf (N:Int) ((iu pts).map (·.m)++[(N:Int)])=some t.rows.length:=by
   rw[Gx,Te λh=>by
    obtain⟨r,hr,e⟩:=iS.mp h
    exact absurd (Im r hr) (e▸TM _)]
   exact(if_pos rfl).trans (congrArg some hrl.symm)
  refine⟨pts++[.head (hd f.k)]++[.d4 (hd f.k) N f],hB,db (db I.2 w7) jd,λH p f' hp=>?_,λk x hks=>?_,?_,λr hr=>?_,λe he=>?_⟩
  ·rw[hH];rcases lZ.mp hp with hp|hp
   ·rcases lZ.mp hp with hp|hp
    ·exact A5 (I.3 H p f' hp)
    ·exact S5 (bW.mp hp)
   ·cases bW.mp hp;exact hnew
  ·rw[hH,hX,cN];rcases Tf hks with h|⟨h,q⟩
   ·refine ao λG z=>?_;obtain⟨sn',hn',e1,e2,e3,e4⟩:=I.4 k x h;refine z ?_;clear z G;exact⟨sn',hn',e1,e2,A5 e3,xk e4⟩
   ·subst h q;exact⟨N,_,rfl,rfl,hnew,hidx⟩
  ·rw[hX,AP,<-I.5];exact congrArg (_++[·]) (GS hidx).symm
  ·rw[hX]at hr;exact(lZ.mp hr).elim (λh=>kP (Im r h) (dR.mpr hL)) λh=>bW.mp h▸dR.mpr hL
  ·rw[hH]at he;exact(lZ.mp he).elim (λh=>gB (Ih e h) hL) λh=>bW.mp h▸hL
theorem A6{P:List (List UInt8)}{b:List UInt8}:(P++[b]).flatten.length=P.flatten.length+b.length:=by
 rw[vb,bR];exact congrArg (λz=>_+qM z) (dK b)
theorem Tg{hd:Nat->ba}{t:nW}{f:cQ}(F:xB hd f):(io hd t f).parts.flatten.length<=t.parts.flatten.length+2400:=by
 have aa:=ba.r2 F.1.1;have h2:=λp=>r3 (H:=hd f.k) (p:=p) F.2;unfold io;cases et t.fW f.k with
 |some x=>rw[A6];exact fH (aB (h2 _) (by decide)) _
 |none=>rw[A6,A6,lU];exact fH (eY aa (h2 _)) _
theorem Th{hd:Nat->ba}:∀(fds:List cQ)(t:nW)(pts:List bu),sl hd t pts->(∀f∈fds,xB hd f)->t.parts.flatten.length+2400*fds.length<=1000000->
  ∃pts',sl hd (fds.foldl (io hd) t) pts'/\ (fds.foldl (io hd) t).parts.flatten.length<=t.parts.flatten.length+2400*fds.length:=by
 intro fds
 induction fds with
 |nil=>
  intro t pts I _ _;exact⟨pts,I,bI _⟩
 |cons f r ih=>
  intro t pts I g hl;have F:=g f (.head _);rw[mi]at hl;obtain⟨p1,I1⟩:=I.step F (aB (c8 _ _) hl);have aa:=Tg (t:=t) F;obtain⟨p2,I2,h2⟩:=ih (io hd t f) p1 I1 (λx ak=>g x (.tail _ ak)) (by exact(bE λaq=>bj.go (.c _ (.c _ (.c _ .o))) (.c 1 (.a (.v 0) (.m 2400 (.a (.v 1) (.n 1)))) (.n 1000000) (.c 1 (.v 2) (.a (.v 0) (.n 2400)) (.c 1 (.a (.n 1000000) (.n 1)) (.a (.v 2) (.m 2400 (.v 1))) .o))) rfl hl aa aq));exact⟨p2,I2,by rw[Ij,mi];exact(bE λaq=>bj.go (.c _ (.c _ (.c _ (.c _ .o)))) (.c 1 (.v 1) (.a (.v 0) (.n 2400)) (.c 1 (.v 3) (.a (.v 1) (.m 2400 (.v 2))) (.c 1 (.a (.a (.v 0) (.m 2400 (.a (.v 2) (.n 1)))) (.n 1)) (.v 3) .o))) rfl aa h2 aq)⟩
inductive Ti (hd:Nat->ba) (fds:List cQ):Prop
 |mk (rs:∃rs,gw (cY hd fds).parts.flatten=some rs/\ jj rs=(cY hd fds).rows) (len:(cY hd fds).parts.flatten.length<=24000) (parts:∀b∈(cY hd fds).parts,12<=b.length/\ b.length<=1300)
theorem GT{hd:Nat->ba}{fds:List cQ}(g:∀f∈fds,xB hd f)(hl:fds.length<=10):Ti hd fds:=by
 obtain⟨pts,I,h⟩:=Th (hd:=hd) fds ⟨[],[],[]⟩ [] ⟨rfl,(λ_w h=>nomatch h),(λ_w _w _w h=>nomatch h),(λ_w _w h=>nomatch h),rfl,(λ_w h=>nomatch h),(λ_w h=>nomatch h)⟩ g (show 0+2400*fds.length<=_ by exact(bE λaq=>bj.go (.c _ .o) (.c 2400 (.v 0) (.n 10) (.c 1 (.a (.n 1000000) (.n 1)) (.a (.n 0) (.m 2400 (.v 0))) .o)) rfl hl aq));have h:(cY hd fds).parts.flatten.length<=0+2400*fds.length:=h;have I:sl hd (cY hd fds) pts:=I;refine⟨⟨iu pts,?_,I.5.symm⟩,by exact(bE λaq=>bj.go (.c _ (.c _ .o)) (.c 2400 (.v 0) (.n 10) (.c 1 (.v 1) (.a (.n 0) (.m 2400 (.v 0))) (.c 1 (.a (.n 24000) (.n 1)) (.v 1) .o))) rfl hl h aq),λb ae=>?_⟩
 ·rw[I.1];exact Tc I.2 I.3
 ·rw[I.1]at ae;obtain⟨p,hp,rfl⟩:=iS.mp ae;have:=bu.len (I.2 p hp);rw[qI];exact⟨(fH this.1 _),(aB (fH this.2 _) (by decide))⟩
theorem GU{α β:Type}{f:α->β}{lo ao:Option Int}{xs:List α}:cut lo ao (xs.map f)=(cut lo ao xs).map f:=by
 unfold cut;rw[cF,Uy,Uz]
theorem Tj{α:Type}{lo ao:Option Int}{xs:List α}{x:α}(h:x∈cut lo ao xs):x∈xs:=V0 (V3 h)
theorem xC{α:Type}{lo ao:Option Int}{xs:List α}:(cut lo ao xs).length<=xs.length:=by
 unfold cut;rw[l7,oy];exact aB (HI ..) (Uv ..)
theorem Tl{k:Nat}:∀{l:List (List UInt8)},(∀x∈l,x.length<=k)->l.flatten.length<=l.length*k:=by
 intro l
 induction l with
 |nil=>
  intro _;exact du _
 |cons x l ih=>
  intro h;rw[yk,bR,mi,Nat.succ_mul,uR];exact eY (ih λy hy=>h y (.tail _ hy)) (h x (.head _))
theorem GV{lo ao:Option Int}{bJ:List (List UInt8)}:bytesOf (cut lo ao (bJ.map .bytes))=some (cut lo ao bJ):=(congrArg bytesOf GU).trans (wP _)
section
variable{n:Nat}{σ:ah}{Q:cR}{E:Nat->ah->Prop}{lw ls:Nat}
theorem Tm{ρ:aQ}{lp:Nat}{pick:Int}{inner:List UInt8}{bJ:List (List UInt8)}{P:cq}(w:σ.bg)(g:σ.get lp=.list (bJ.map .bytes))(hp:bJ.length<=20)(ae:∀b∈bJ,b.length<=1300)(ao:inner.length<=3000)
  (bN:ρ 1=some (.loc lp))(cu:ρ 2=some (.int pick))(lJ:ρ 3=some (.bytes inner))(h:∀σ',aw [] σ σ'->(P.V (.bool true) σ').P):(sB (TT (n+11)) (aG (aG (aG (aG rl.body)))) P ρ σ).P:=by
 have bM:∀lo ao,(cut lo ao bJ).length<=20:=λlo ao=>aB xC hp;have c2:∀lo ao,(cut lo ao bJ).flatten.length<=26000:=λlo ao=>aB (Tl (k:=1300) λb hb'=>ae b (Tj hb')) (TH 1300 (bM lo ao));have j:∀lo ao,([]:List UInt8)=[]/\ (cut lo ao bJ).flatten.length<=1000000/\ (cut lo ao (bJ.map af.bytes)).length<=1000000:=λlo ao=>⟨rfl,aB (c2 lo ao) (by decide),by rw[GU,cF];exact aB (bM lo ao) (by decide)⟩;have f1:(bJ.map af.bytes).length<=1000000:=by rw[cF];exact aB hp (by decide)
 have f4:inner.length<=1000000:=aB ao (by decide);have ja:=j none (some pick);have a1:=c2 none (some pick);have ka:=@GV none (some pick) bJ;nomatch bN,cu,lJ,g,ja,ka,f1,f4;refine nP (σ:=σ.push _) w.push (by decide) (by decide) λaJ u1=>?_;have U1:aw [] σ aJ:=((aw.refl w).push).trans u1;have g1:=U1.aV w g (aA rfl);have jb:=j (some (pick+1)) none;have a2:=c2 (some (pick+1)) none;have kb:=@GV (some (pick+1)) none bJ;have l4:=@fq (inner.length:Int) (4:Int).toNat;generalize (cut none (some pick) bJ).flatten=A at*;generalize bO (inner.length:Int) (4:Int).toNat=L at*;have l4:L.length=4:=l4;have f6:A.length+L.length<=1000000:=by exact(aB (eY a1 (bb l4)) (by decide))
 have e7:(A++L).length=A.length+L.length:=bR;have f7:(A++L).length+inner.length<=1000000:=by exact(bE λaq=>bj.go (.c _ (.c _ (.c _ (.c _ .o)))) (.c 1 (.v 2) (.n 3000) (.c 1 (.v 0) (.n 26000) (.c 1 (.v 1) (.n 4) (.c 1 (.v 3) (.a (.v 0) (.v 1)) (.c 1 (.a (.n 1000000) (.n 1)) (.a (.v 3) (.v 2)) .o))))) rfl ao a1 (bb l4) (bb e7) aq)
 have e8:(A++L++inner).length=(A++L).length+inner.length:=bR;have f8:(A++L++inner).length+(cut (some (pick+1)) none bJ).flatten.length<=1000000:=by exact(bE λaq=>bj.go (.c _ (.c _ (.c _ (.c _ (.c _ (.c _ .o)))))) (.c 1 (.v 3) (.n 3000) (.c 1 (.v 4) (.n 26000) (.c 1 (.v 1) (.n 26000) (.c 1 (.v 0) (.n 4) (.c 1 (.v 2) (.a (.v 1) (.v 0)) (.c 1 (.v 5) (.a (.v 2) (.v 3)) (.c 1 (.a (.n 1000000) (.n 1)) (.a (.v 5) (.v 4)) .o))))))) rfl ao a2 a1 (bb l4) (bb e7) (bb e8) aq)
 have e9:(A++L++inner++(cut (some (pick+1)) none bJ).flatten).length=(A++L++inner).length+(cut (some (pick+1)) none bJ).flatten.length:=bR;have f9:(A++L++inner++(cut (some (pick+1)) none bJ).flatten).length<=100000:=by exact(bE λaq=>bj.go (.c _ (.c _ (.c _ (.c _ (.c _ (.c _ (.c _ .o))))))) (.c 1 (.v 3) (.n 3000) (.c 1 (.v 5) (.n 26000) (.c 1 (.v 1) (.n 26000) (.c 1 (.v 0) (.n 4) (.c 1 (.v 2) (.a (.v 1) (.v 0)) (.c 1 (.v 4) (.a (.v 2) (.v 3)) (.c 1 (.v 6) (.a (.v 4) (.v 5)) (.c 1 (.a (.n 100000) (.n 1)) (.v 6) .o)))))))) rfl ao a2 a1 (bb l4) (bb e7) (bb e8) (bb e9) aq)
 have ux:aw [] σ (aJ.push (.list (cut (some (pick+1)) none (bJ.map af.bytes)))):=U1.push;have w1:=ux.1;nomatch bN,cu,lJ,g1,jb,kb,f1,f4,f6,f7,f8;generalize A++L++inner++(cut (some (pick+1)) none bJ).flatten=X at*;generalize aJ.push (.list (cut (some (pick+1)) none (bJ.map af.bytes)))=aj at*;refine xq (n:=n) w1 f9 (λrs vs k aJ hR g eO u1=>?_) (λaJ hR u1=>?_)
 ·nomatch bN;refine AW (n:=n+5) u1.1 f9 (λrs' vs' k' aC hR' g' ra' u2=>?_) (λaC hR' u2=>?_)
  ·cases hR.symm.trans hR';have e:g5 (.loc k) (.loc k') aC=some true:=uq (u2.aV u1.1 g (aA rfl)) g' (eO.imp λa b x=>x.up u1.1 u2 λ_w h=>nomatch h) ra';nomatch e;exact h aC ((ux.trans u1).trans u2)
  ·exact nomatch hR.symm.trans hR'
 ·nomatch bN;refine AW (n:=n+5) u1.1 f9 (λrs' vs' k' aC hR' g' ra' u2=>?_) (λaC hR' u2=>?_)
  ·exact nomatch hR.symm.trans hR'
  ·nomatch bN;exact h aC ((ux.trans u1).trans u2)
theorem GW{lp:Nat}{bJ:List (List UInt8)}(w:σ.bg)(W:cL σ lw ls)(g:σ.get lp=.list (bJ.map .bytes))(hlp:lp≠lw)(hp0:0<bJ.length)(hp:bJ.length<=20)(ae:∀b∈bJ,12<=b.length/\ b.length<=1300)
  (h:∀σ',cL σ' lw ls->aw [lw] σ σ'->Q (.bool true) σ'):bH fn bk bl (n+12) 62 [.loc lw,.loc lp] σ Q E:=by
 refine bz rfl ?_;have f1:(bJ.map af.bytes).length<=1000000:=by rw[cF];exact aB hp (by decide)
 nomatch g,f1;have di:(bJ.map af.bytes).length=bJ.length:=cF _;refine hs w W (by exact(bG (aX.mpr hp0) (aX.mpr (bb (bF di))))) (by exact(eZ (bG (aX.mpr (bb di)) (aX.mpr hp)) (by decide))) λpick aJ p0 p1 W1 u1=>?_;have g1:=u1.at w g (aA rfl) (cI hlp);obtain⟨b,hbm,cK⟩:=wJ (f:=af.bytes) (xs:=bJ) p0 (by exact(bG p1 (aX.mpr (bb di)))) (by exact(fG (dk p1 (aX.mpr f1))));have hbl:=ae b (oi hbm);have f6:b.length<=1000000:=aB hbl.2 (by decide);have il:(cut (some 4) none b).length<=1300:=aB xC hbl.2;have i0:0<(cut (some 4) none b).length:=by
  show 0<((b.drop (jm b.length 4)).take (b.length-jm b.length 4)).length;rw[show jm b.length 4=min 4 b.length from I8 _ 4,l7,oy,sI];exact I9 (cM (HJ 4 _) (bU (by decide) hbl.1))
 have f7:(cut (some 4) none b).length<=1000000:=aB il (by decide);nomatch g1,cK,f6,f7;generalize cut (some 4) none b=inner at*;refine hs u1.1 W1 (aX.mpr i0) (eZ (aX.mpr il) (by decide)) λat' aC a0 a1 W2 u2=>?_;nomatch g1;refine hs u2.1 W2 (by decide) (by decide) λway aU y0 y1 W3 u3=>?_;nomatch g1;refine hs u3.1 W3 (by decide) (by decide) λfr c9 aq z1 W4 u4=>?_;have U4:=((u1.trans u2).trans u3).trans u4;have W5:=W4.push (o:=.list [.int fr]) u4.1;have u5:aw [lw] σ (c9.push (.list [.int fr])):=U4.push;have cl:∀lo ao,(cut lo ao inner).length<=1300:=λlo ao=>aB xC il;have yl:(iz [fr]).length=1:=rfl;have z:(∀n∈[fr],0<=n/\ n<256)/\ [af.int fr].length<=1000000:=⟨λn hn=>bW.mp hn▸⟨aq,z1⟩,of_decide_eq_true rfl⟩;have fin:∀(lo ao lo' hi':Option Int)(y:List UInt8)(ρ':aQ),y.length<=1->ρ' 1=some (.loc lp)->ρ' 2=some (.int pick)->ρ' 3=some (.bytes (cut lo ao inner++y++cut lo' hi' inner))->(sB (TT (n+11)) (aG (aG (aG (aG rl.body)))) (g9 Q E) ρ' (c9.push (.list [.int fr]))).P:=λlo ao lo' hi' y ρ' hy bN cu lJ=>
  Tm u5.1 (u5.at w g (aA rfl) (cI hlp)) hp (λb hb'=>(ae b hb').2) (by rw[bR,bR];exact aB (eY (eY (cl lo ao) hy) (cl lo' hi')) (by decide)) bN cu lJ λσ' u'=>h σ' (W5.nV u5.1 u') (u5.nM u')
 have s1:∀lo ao(y:List UInt8),y.length<=1->(cut lo ao inner).length+y.length<=1000000:=λlo ao y hy=>by have:=cl lo ao;exact(aB (eY this hy) (by decide))
 have s2:∀lo ao lo' hi'(y:List UInt8),y.length<=1->(cut lo ao inner++y).length+(cut lo' hi' inner).length<=1000000:=λlo ao lo' hi' y hy=>by rw[bR];exact aB (eY (eY (cl lo ao) hy) (cl lo' hi')) (by decide)
 by_cases h2:way=2
 ·have e1:=s1 none (some at') [] (du _);have e2:=s2 none (some at') (some (at'+1)) none [] (du _);have aa:¬way=1:=by exact(λaq=>bp.go (.c _ .o) (.c 1 (.n 2) (.v 0) (.c 1 (.v 0) (.n 1) .o)) rfl (aP (bF h2)) (aP aq))
  exact Ask.run λd=>Ask.back (a:=sB (TT (n+11)) (aG (aG (aG (aG rl.body)))) (g9 Q E) _ _) (d bx rfl z rfl rfl rfl f7 rfl (decide_eq_true h2) e1 rfl rfl (decide_eq_false aa) rfl f7 e2) (fin _ _ _ _ _ _ (du _) rfl rfl rfl)
 ·by_cases aa:way=1
  ·have e1:=s1 none (some at') (iz [fr]) (bI _);have e2:=s2 none (some at') (some at') none (iz [fr]) (bI _);exact Ask.run λd=>Ask.back (a:=sB (TT (n+11)) (aG (aG (aG (aG rl.body)))) (g9 Q E) _ _) (d bx rfl z rfl rfl rfl f7 rfl (decide_eq_false h2) rfl e1 rfl rfl (decide_eq_true aa) rfl f7 e2) (fin _ _ _ _ _ _ (bI _) rfl rfl rfl)
  ·have e1:=s1 none (some at') (iz [fr]) (bI _);have e2:=s2 none (some at') (some (at'+1)) none (iz [fr]) (bI _);exact Ask.run λd=>Ask.back (a:=sB (TT (n+11)) (aG (aG (aG (aG rl.body)))) (g9 Q E) _ _) (d bx rfl z rfl rfl rfl f7 rfl (decide_eq_false h2) rfl e1 rfl rfl (decide_eq_false aa) rfl f7 e2) (fin _ _ _ _ _ _ (bI _) rfl rfl rfl)
end
noncomputable abbrev pp(x:Int):af:=.tup [.str "advance",.tup [.int x]]
section
variable{n:Nat}{σ:ah}{Q:cR}{E:Nat->ah->Prop}{x:Int}
theorem GX{c ol:Nat}(w:σ.bg)(ho:σ.get ol=.list [pp x])(hE:∀σ',aw [] σ σ'->E 1 σ'):bH fn bk bl (n+6) 29 [.loc c,.loc ol] σ Q E:=by
 refine bz rfl ?_;nomatch w;refine qm w λaJ u1 W1=>?_;have ho1:=u1.aV w ho (aA rfl);nomatch ho1;refine rU ⟨ho1,?_⟩;nomatch ho1;refine bz rfl ?_;nomatch ho1;refine bz rfl ?_;have k:g6 "advance" mq=none:=rfl;nomatch k;exact hE aJ u1
theorem Tn{c d:Int}{cl ol:Nat}(w:σ.bg)(a:σ.get cl=ez c d 1 (.loc ol))(b:σ.get ol=.list [pp x])(hc:0<=c/\ c<1000)(hd: -1000<d/\ d<1000)(hE:∀σ',aw [] σ σ'->E 1 σ'):bH fn bk bl (n+7) 31 [.loc cl] σ Q E:=by
 have C20:=nQ (x:=c) (bG (by decide) hc.1) (bG hc.2 (by decide));have D20:=nQ (x:=d) (bG (by decide) hd.1) (bG hd.2 (by decide));have R20:=nQ (x:=1) (by decide) (by decide);refine bz rfl ?_;have dv:=a6.mpr hc.1;nomatch dv,a;refine qm w λaJ u1 W1=>?_;have a1:=u1.aV w a (aA rfl);have b1:=u1.aV w b (aA rfl);have K:∀{aj m ys},dq aJ aj σ.next (σ.next+1) m ys->aj.get cl=ez c d 1 (.loc ol):=λW=>W.1.at W1.1.1 a1 (aA rfl) (cI (bq (bX (w.lt a (aA rfl)))))
 have up:∀{aj m ys},dq aJ aj σ.next (σ.next+1) m ys->aw [] σ aj:=λW=>u1.over W.1 (ik (gh _))
 nomatch W1.2;refine lD W1 (by decide) λaC W2=>?_;nomatch W2.2;refine eQ W2 (by decide) λaU W3=>?_;nomatch W3.2;refine w_text W3 (by decide) λc9 W4=>?_;nomatch W4.2;refine eQ W4 (by decide) λdy W5=>?_;nomatch W5.2;refine eQ W5 (by decide) λqp W6=>?_;nomatch W6.2,K W6;refine ii W6 (by decide) hc.1 C20.2 λwO W7=>?_;nomatch W7.2,K W7;refine tY W7 (by decide) D20.1 D20.2 λQW W8=>?_;nomatch W8.2,K W8;refine ii W8 (by decide) (by decide) R20.2 λQX W9=>?_;nomatch W9.2,K W9;exact GX W9.1.1 (W9.1.at W1.1.1 b1 (aA rfl) (cI (bq (bX (w.lt b (aA rfl)))))) λt8 uA=>hE _ ((up W9).trans uA)
theorem To{c d b s p:Int}{cl ol f ol':Nat}(w:σ.bg)(a0:σ.get cl=ez c d 1 (.loc ol))(a:σ.get f=gQ cl b s ol')(b':σ.get ol'=.list [pp x])(hE:∀σ',aw [] σ σ'->E 1 σ'):bH fn bk bl (n+7) 32 [.loc f,.int p] σ Q E:=by
 refine bz rfl ?_;nomatch w;refine qm w λaJ u1 W1=>?_;have old:∀{j o},σ.get j=o->o≠.dead-> ∀{aj m ys},dq aJ aj σ.next (σ.next+1) m ys->aj.get j=o:=λg g' _w _w _w W=>W.1.at W1.1.1 (u1.aV w g g') g' (cI (bq (bX (w.lt g g'))))
 have K:=λ{aj m ys}=>@old _ _ a (aA rfl) aj m ys;nomatch W1.2;refine lD W1 (by decide) λaC W2=>?_;nomatch W2.2,K W2;refine lD W2 (by decide) λaU W3=>?_;nomatch W3.2,K W3;refine lD W3 (by decide) λc9 W4=>?_;nomatch W4.2,K W4;exact GX W4.1.1 (old b' (aA rfl) W4) λt8 uA=>hE _ ((u1.over W4.1 (ik (gh _))).trans uA)
theorem Tp{L f cl ol ol':Nat}{c d b s:Int}(w:σ.bg)(hL:σ.get L=.list [.loc f])(hf:σ.get f=gQ cl b s ol')(hcl:σ.get cl=ez c d 1 (.loc ol))(hc:0<=c/\ c<1000)(hd: -1000<d/\ d<1000)(ae:σ.get ol=.list [pp x] \/(σ.get ol=.list []/\ σ.get ol'=.list [pp x]))
  (hE:∀σ',aw [] σ σ'->E 1 σ'):bH fn bk bl (n+8) 33 [.loc L] σ Q E:=by
 refine bz rfl ?_;have hLn:L≠σ.next:=bq (w.lt hL (aA rfl))
 nomatch hL,hLn;have u0:aw [] σ (σ.push (.list [])):=(aw.refl w).push;have hL1:=u0.aV w hL (aA rfl);have hf1:=u0.aV w hf (aA rfl);have g0:=@bx σ (.list []);have hlt:σ.next<(σ.push (.list [])).next:=b9 _
 generalize (σ.push (.list []))=aJ at*;refine rU ⟨hL1,?_⟩;nomatch g0;refine⟨λr acc aj=>r=[]/\ acc=[]/\ aj=aJ,⟨rfl,rfl,rfl⟩,?_,?_⟩
 ·exact λv r acc aj h=>nomatch h.1
 rintro acc bP ⟨_,rfl,rfl⟩
 refine⟨g0,?_⟩;have q1:((bP.push (.list ([]:List af))).push (.list [])).get bP.next=.list (([]:List Int).map .int):=dw (bq (b9 _)) bx
 have u2:aw [] bP ((bP.push (.list ([]:List af))).push (.list [])):=(aw.refl u0.1).push.push;have cS:σ.next<((bP.push (.list ([]:List af))).push (.list [])).next:=bX (bX hlt)
 nomatch FJ q1 bx;generalize ((bP.push (.list ([]:List af))).push (.list []))=aC at*;have U2:=u0.trans u2;have g2:=u2.aV u0.1 g0 (aA rfl);have f2:=U2.aV w hf (aA rfl);have m2:f≠aC.next:=bq (u2.1.lt f2 (aA rfl))
 have m4:aC.next≠σ.next:=cn cS
 have m3:f≠σ.next:=λe=>by rw[e,g2]at f2;exact aA rfl f2
 nomatch(rfl:([]:List Int)=[]),g2,f2,m2,m3,m4;have u4:aw [] σ ((aC.push (.list [.int ([]:List UInt8).length])).set σ.next (.list ([]++[.tup [.loc cl,.int ([]:List UInt8).length]]))):=U2.push.set (.inr (bI _)) (bX cS);have p4:((aC.push (.list [.int ([]:List UInt8).length])).set σ.next (.list ([]++[.tup [.loc cl,.int ([]:List UInt8).length]]))).get aC.next=.list [.int 0]:=cV m4 bx
 generalize ((aC.push (.list [.int ([]:List UInt8).length])).set σ.next (.list ([]++[.tup [.loc cl,.int ([]:List UInt8).length]])))=c9 at*;rcases ae with ae|⟨ae,hb'⟩
 ·exact Tn u4.1 (u4.aV w hcl (aA rfl)) (u4.aV w ae (aA rfl)) hc hd λσ' u'=>hE _ (u4.trans u')
 have ok:(⟨c,d,1,[]⟩:ba).Ok:=⟨hc.1,hc.2,hd.1,hd.2,of_decide_eq_true rfl,of_decide_eq_true rfl,⟨(λ_w h=>nomatch h),(λ_w h=>nomatch h),du _⟩⟩;refine FG (H:=⟨c,d,1,[]⟩) u4.1 ⟨ol,u4.aV w hcl (aA rfl),u4.aV w ae (aA rfl)⟩ ok (λ_w dy u5=>?_) (λnf σ' u'=>nf (λ_w h=>nomatch h)|>.elim);have hBl:=ba.r2 ok;have U5:=u4.trans u5;have c3:([]:List UInt8).length+(ba.B ⟨c,d,1,[]⟩).length<=1000000:=by show 0+_<=_;exact(aB (fH hBl _) (by decide))
 have p5:=u5.aV u4.1 p4 (aA rfl);nomatch c3,p5;exact To U5.1 (U5.aV w hcl (aA rfl)) (U5.aV w hf (aA rfl)) (U5.aV w hb' (aA rfl)) λqp u6=>hE _ (U5.trans u6)
end
noncomputable def xD(o:Op)(a x:Int):Prop:=o=.dG x \/o=.off a x \/o=.hi a x \/o=.val a x \/o=.hh a x \/o=.ig x
section
variable{n:Nat}{σ:ah}{Q:cR}{E:Nat->ah->Prop}
theorem GY{o:Op}{a x c d:Int}(ar:xD o a x)(hc:ij c)(hd:ij d)(aa:o.fits c d->Q (.bool true) σ)(h0:¬o.fits c d->Q (.bool false) σ):bH fn bk bl (n+1) 63 [o.v,.int c,.int d] σ Q E:=by
 refine bz rfl ?_;obtain⟨bM,c2⟩:=hc;obtain⟨fp,lu⟩:=hd;rcases ar with rfl|rfl|rfl|rfl|rfl|rfl
 ·by_cases z:c=0
  ·nomatch z;exact h0 λf=>f.1 z
  by_cases m:x.fmod c=0
  ·by_cases p:0<=x.fdiv c
   ·nomatch z,m,p;exact aa ⟨z,m,p⟩
   ·nomatch z,m,p;exact h0 λf=>p f.2.2
  ·nomatch z,m;exact h0 λf=>m f.2.1
 ·by_cases z:d=0
  ·nomatch z;exact h0 λf=>f.1 z
  by_cases m:x.fmod d=0
  ·by_cases k:63<a
   ·nomatch z,m,k;exact h0 λf=>a6.mpr (ut f.2.2.1) k
   by_cases p:0<=x.fdiv d
   ·nomatch z,m,k,p;exact aa ⟨z,m,Int.lt_add_one_of_le (a6.mp k),p⟩
   ·nomatch z,m,k,p;exact h0 λf=>p f.2.2.2
  ·nomatch z,m;exact h0 λf=>m f.2.1
 iterate 2
  ·by_cases z:d=0
   ·nomatch z;exact h0 λf=>f.1 z
   by_cases m:x.fmod d=0
   ·by_cases p:0<=x.fdiv d
    ·nomatch z,m,p;exact aa ⟨z,m⟩
    ·nomatch z,m,p;exact aa ⟨z,m⟩
   ·nomatch z,m;exact h0 λf=>m f.2
 iterate 2
  ·by_cases l:0<=x
   ·nomatch l;exact aa (.inl l)
   by_cases z:d=0
   ·nomatch l,z;exact h0 λf=>(f.resolve_left l).1 z
   by_cases m:x.fmod d=0
   ·by_cases p:0<=x.fdiv d
    ·nomatch l,z,m,p;exact aa (.inr ⟨z,m⟩)
    ·nomatch l,z,m,p;exact aa (.inr ⟨z,m⟩)
   ·nomatch l,z,m;exact h0 λf=>m (f.resolve_left l).2
theorem Tq{x c d:Int}(h:Q (.bool false) σ):bH fn bk bl (n+1) 63 [pp x,.int c,.int d] σ Q E:=by
 refine bz rfl ?_;nomatch h
theorem GZ:gw []=some []:=by
 rw[gw,(show fB [] 0 (some [])from .fin).eq];rfl
end
inductive mQ (c d:Int) (v:af) (ρ:aQ):Prop
 |mk (bN:ρ 1=some (.int c)) (cu:ρ 2=some (.int d)) (F0:ρ 7=some v)
noncomputable abbrev qJ:List C:=w5 (w6 (aG (aG (aG (aG (aG jP.body))))))
section
variable{n:Nat}{σ:ah}{ρ:aQ}{P:cq}{c d:Int}
theorem G1{v:af}(w:σ.bg)(hf:∀{σ:ah} {Q:cR} {E:Nat->ah->Prop},Q (.bool false) σ->bH fn bk bl (n+11) 63 [v,.int c,.int d] σ Q E)(H:mQ c d v ρ)(w4:ρ 10=some (.bytes []))
  (hN:∀ρ' σ',mQ c d v ρ'->aw [] σ σ'->(P.N ρ' σ').P):(sB (TT (n+11)) (aG qJ) P ρ σ).P:=by
 nomatch H.1,H.2,H.3;refine hf ?_;nomatch w4;have u0:aw [] σ (σ.push (.list [])):=(aw.refl w).push;refine xq (n:=n) u0.1 (du _) (λrs' vs k aJ hR g1 eO u1=>?_) (λaJ hR u1=>nomatch GZ.symm.trans hR);cases GZ.symm.trans hR;have e:g5 (.loc k) (.loc σ.next) aJ=some true:=uq (B':=0) g1 (u1.aV u0.1 bx (aA rfl)) eO .nil;nomatch e;exact hN _ aJ ⟨H.1,H.2,H.3⟩ (u0.trans u1)
theorem Tr{o:Op}{X:List UInt8}{a b:Nat}{am x:Int}{eF bh:List Op}{rs:List eE}(w:σ.bg)(six:xD o am x)(ff:o.fits c d)(hc:ij c)(hd:ij d)(oka:hj eF)(okb:hj bh)(ga:σ.get a=.list (eF.map Op.v))(ky:σ.get b=.list (bh.map Op.v))(ca:∀o∈eF,∀t,o=.dG t->c≠0)(cb:∀o∈bh,∀t,o=.dG t->c≠0)
  (ak:X.length<=100000)(hR:gw X=some rs)(hrow:jj rs=[⟨0,c,d,1,nU c eF,4096,16,nU c bh⟩])(H:mQ c d o.v ρ)(kL:ρ 8=some (.loc a))(kM:ρ 9=some (.loc b))(w4:ρ 10=some (.bytes X))
  (hN:∀ρ' σ',mQ c d o.v ρ'->aw [] σ σ'->(P.N ρ' σ').P):(sB (TT (n+11)) (aG qJ) P ρ σ).P:=by
 nomatch H.1,H.2,H.3;refine GY (n:=n+10) six hc hd (λ_w=>?_) (λnf=>absurd ff nf);have u0:aw [] σ (σ.push (.list [])):=(aw.refl w).push;nomatch H.1,H.2,kL;refine wS (n:=n+10) u0.1 (u0.aV w ga (aA rfl)) oka hc ca λk aJ u1 az lN=>?_;have U1:=u0.trans u1;nomatch H.1,kM;refine wS (n:=n+10) u1.1 (U1.aV w ky (aA rfl)) okb hc cb λcJ aC u2 hk2 gk2=>?_;have U2:=U1.trans u2;have gk':=u2.aV u1.1 lN (aA rfl);nomatch w4;have u3:aw [] aC (aC.push (.list [.tup [.int 0,.tup [.int c,.int d,.int 1,.loc k],.int 4096,.int 16,.loc cJ]])):=(aw.refl u2.1).push;refine xq (n:=n) u3.1 ak (λrs' vs k' aU hR' g1 eO u4=>?_) (λaU hR' u4=>nomatch hR.symm.trans hR');cases hR.symm.trans hR';rw[hrow]at eO;have u34:=u3.trans u4;have e:g5 (.loc k') (.loc aC.next) aU=some true:=uq g1 (u4.aV u3.1 bx (aA rfl)) eO (.cons ⟨k,cJ,du _,du _,rfl,u34.aV u2.1 gk' (aA rfl),u34.aV u2.1 gk2 (aA rfl)⟩ .nil);nomatch e;exact hN _ aU ⟨H.1,H.2,H.3⟩ (U2.trans u34)
theorem G2{v:af}{a b:Nat}(w:σ.bg)(H:mQ c d v ρ)(kL:ρ 8=some (.loc a))(kM:ρ 9=some (.loc b))
  (h:∀(cl f L:Nat) σ' (Q:cR) (E:kZ),aw [] σ σ'->σ'.get cl=ez c d 1 (.loc a)->σ'.get f=gQ cl 4096 16 b->σ'.get L=.list [.loc f]->
   (∀X aC,(sB (TT (n+11)) (aG qJ) P (ρ.set 10 (.bytes X)) aC).P->Q (.bytes X) aC)->(∀aC,(sB (TT (n+11)) (aG qJ) P (ρ.set 10 (.bytes [])) aC).P->E 1 aC)->bH fn bk bl (n+11) 33 [.loc L] σ' Q E):(sB (TT (n+11)) qJ P ρ σ).P:=by
 nomatch H.1,H.2,kL;refine wX bx ?_;have u1:aw [] σ ((σ.push (.inst 2 [])).set σ.next (ez c d 1 (.loc a))):=((aw.refl w).push).set (.inr (bI _)) (b9 _);have g1:=@cT (σ.push (.inst 2 [])) σ.next (ez c d 1 (.loc a))
 generalize ((σ.push (.inst 2 [])).set σ.next (ez c d 1 (.loc a)))=aJ at*;nomatch kM;refine Az bx ?_;have u2:aw [] aJ ((aJ.push (.inst 3 [])).set aJ.next (gQ σ.next 4096 16 b)):=((aw.refl u1.1).push).set (.inr (bI _)) (b9 _);have g2:=@cT (aJ.push (.inst 3 [])) aJ.next (gQ σ.next 4096 16 b)
 generalize ((aJ.push (.inst 3 [])).set aJ.next (gQ σ.next 4096 16 b))=aC at*;have u3:aw [] aC (aC.push (.list [.loc aJ.next])):=(aw.refl u2.1).push;nomatch u3;refine h σ.next aJ.next aC.next _ _ _ ((u1.trans u2).trans u3) (u3.aV u2.1 (u2.aV u1.1 g1 (aA rfl)) (aA rfl)) (u3.aV u2.1 g2 (aA rfl)) bx (λX aC z=>?_) λaC z=>?_
 ·exact z
 ·exact⟨rfl,z⟩
end
section
variable{n:Nat}{c d:Int}
noncomputable def Turn(n:Nat)(c d:Int)(v:af):Prop:=∀(σ:ah)(ρ:aQ)(P:cq)(a b:Nat)(la lb:List af),((la=[v]/\ lb=[]) \/(la=[]/\ lb=[v]))->σ.bg->σ.get a=.list la->σ.get b=.list lb->mQ c d v ρ->ρ 8=some (.loc a)->ρ 9=some (.loc b)->
 (∀ρ' σ',mQ c d v ρ'->aw [] σ σ'->(P.N ρ' σ').P)->(sB (TT (n+11)) qJ P ρ σ).P
theorem G3{σ:ah}{ρ:aQ}{P:cq}{o:Op}{a b:Nat}{am x:Int}{eF bh:List Op}(w:σ.bg)(six:xD o am x)(hall:∀p:Op->Prop,p o->(∀y∈eF,p y)/\ ∀y∈bh,p y)(hex:(∀p:Op->Prop,(∀y∈eF,p y)/\ (∀y∈bh,p y)->p o))(hl:eF.length<=20/\ bh.length<=20)(hr:o.gG)(ar:o.small)(hc:0<=c/\ c<1000)(hd: -1000<d/\ d<1000)
  (ga:σ.get a=.list (eF.map Op.v))(ky:σ.get b=.list (bh.map Op.v))(H:mQ c d o.v ρ)(kL:ρ 8=some (.loc a))(kM:ρ 9=some (.loc b))
  (hN:∀ρ' σ',mQ c d o.v ρ'->aw [] σ σ'->(P.N ρ' σ').P):(sB (TT (n+11)) qJ P ρ σ).P:=by
 have oka:hj eF:=⟨(hall _ hr).1,(hall _ ar).1,hl.1⟩;have okb:hj bh:=⟨(hall _ hr).2,(hall _ ar).2,hl.2⟩;have ok:(⟨c,d,1,eF⟩:ba).Ok:=⟨hc.1,hc.2,hd.1,hd.2,of_decide_eq_true rfl,of_decide_eq_true rfl,oka⟩;have hc6:ij c:=⟨by exact(bG (by decide) hc.1),by exact(bG hc.2 (by decide))⟩;have hd6:ij d:=⟨by exact(bG (by decide) hd.1),by exact(bG hd.2 (by decide))⟩;refine G2 w H kL kM λcl f L aJ Q E u1 gc lK gL kQ kE=>?_;have ga1:=u1.aV w ga (aA rfl);have gb1:=u1.aV w ky (aA rfl);refine FN (n:=n+3) (L:=L) (fs:=[f]) (fds:=[⟨0,4096,16,bh⟩]) (hd:=λ_w=>⟨c,d,1,eF⟩) (cl:=λ_w=>cl) u1.1 gL (.cons ⟨b,lK,gb1⟩ .nil) (λg cK=>⟨a,gc,ga1⟩) (λg cK=>by
   rw[bW.mp cK]
   exact⟨ok,okb⟩) (λg cK g' hg' _w=>by
   rw[bW.mp cK,bW.mp hg']) (of_decide_eq_true rfl) (λhf aC u2=>kQ _ _ ?_) (λnf aC u2=>kE _ ?_)
 ·have fab:=hf _ (.head _);have ff:=hex (λy=>y.fits c d) fab;have R:=GT (hd:=λ_w=>⟨c,d,1,eF⟩) (fds:=[⟨0,4096,16,bh⟩]) (λf hf=>by
   rw[bW.mp hf]
   exact⟨⟨ok,fab.1⟩,okb,fab.2⟩) (of_decide_eq_true rfl)
  obtain⟨rs,aa,h2⟩:=R.1;have h3:=R.2;rw[xe]at aa h3;have U2:=u1.trans u2;have ca:∀l:List Op,(∀y∈l,y.fits c d)-> ∀y∈l,∀t,y=.dG t->c≠0:=λl h y hy t e=>(e▸h y hy:(Op.dG t).fits c d).1;exact Tr (n:=n) u2.1 six ff hc6 hd6 oka okb (U2.aV w ga (aA rfl)) (U2.aV w ky (aA rfl)) (ca eF fab.1) (ca bh fab.2) (aB h3 (by decide)) aa h2 ⟨H.1,H.2,H.3⟩ kL kM rfl λρ' σ' T u=>hN ρ' σ' T (U2.trans u)
 ·have ff:¬o.fits c d:=λz=>nf λf hf=>by
   rw[bW.mp hf];exact hall _ z
  exact G1 (n:=n) (v:=o.v) (c:=c) (d:=d) u2.1 (λ{σ Q E} z=>GY (n:=n+10) six hc6 hd6 (λy=>absurd y ff) λ_w=>z) ⟨H.1,H.2,H.3⟩ rfl λρ' σ' T u=>hN ρ' σ' T ((u1.trans u2).trans u)
theorem so{o:Op}{am x:Int}(six:xD o am x)(hr:o.gG)(ar:o.small)(hc:0<=c/\ c<1000)(hd: -1000<d/\ d<1000):Turn n c d o.v:=by
 rintro σ ρ P a b la lb (⟨rfl,rfl⟩|⟨rfl,rfl⟩) w ga ky H kL kM hN
 ·exact G3 (eF:=[o]) (bh:=[]) w six (λp h=>⟨λy hy=>bW.mp hy▸h,(λ_w h=>nomatch h)⟩) (λp h=>h.1 _ (.head _)) ⟨of_decide_eq_true rfl,of_decide_eq_true rfl⟩ hr ar hc hd ga ky H kL kM hN
 ·exact G3 (eF:=[]) (bh:=[o]) w six (λp h=>⟨(λ_w h=>nomatch h),λy hy=>bW.mp hy▸h⟩) (λp h=>h.2 _ (.head _)) ⟨of_decide_eq_true rfl,of_decide_eq_true rfl⟩ hr ar hc hd ga ky H kL kM hN
theorem Ts{x:Int}(hc:0<=c/\ c<1000)(hd: -1000<d/\ d<1000):Turn n c d (pp x):=by
 intro σ ρ P a b la lb hab w ga ky H kL kM hN;refine G2 w H kL kM λcl f L aJ Q E u1 gc lK gL kQ kE=>Tp (n:=n+3) (x:=x) u1.1 gL lK gc hc hd ?_ λaC u2=>kE _ (G1 (n:=n) (v:=pp x) (c:=c) (d:=d) u2.1 (λ{σ Q E} z=>Tq z) ⟨H.1,H.2,H.3⟩ rfl λρ' σ' T u=>hN ρ' σ' T ((u1.trans u2).trans u));rcases hab with⟨rfl,rfl⟩|⟨rfl,rfl⟩
 ·exact .inl (u1.aV w ga (aA rfl))
 ·exact .inr ⟨u1.aV w ga (aA rfl),u1.aV w ky (aA rfl)⟩
end
section
variable{n:Nat}{σ:ah}{lw ls:Nat}{c d:Int}{P:cq}{ρ:aQ}
theorem Tt{v:af}(w:σ.bg)(T:Turn n c d v)(H:mQ c d v ρ)(h:∀σ',aw [] σ σ'->(P.V (.bool true) σ').P):(sB (TT (n+11)) (aG (aG (aG (aG (aG jP.body))))) P ρ σ).P:=by
 nomatch H.3;have u0:aw [] σ ((((σ.push (.list [v])).push (.list [])).push (.list [])).push (.list [v])):=((((aw.refl w).push).push).push).push;refine rU ⟨trivial,T _ _ _ σ.next (σ.next+1) _ _ (.inl ⟨rfl,rfl⟩) u0.1 (dw (bq (bX (bX (b9 _)))) (dw (bq (bX (b9 _))) (dw (bq (b9 _)) bx))) (dw (bq (bX (b9 _))) (dw (bq (b9 _)) bx)) ⟨H.1,H.2,H.3⟩ rfl rfl λkq aC H2 u2=>?_⟩;refine⟨trivial,T _ _ _ (σ.next+1+1) (σ.next+1+1+1) _ _ (.inr ⟨rfl,rfl⟩) u2.1 (u2.aV u0.1 (dw (bq (b9 _)) bx) (aA rfl)) (u2.aV u0.1 bx (aA rfl)) ⟨H2.1,H2.2,H2.3⟩ rfl rfl λEj aU H3 u3=>?_⟩;refine⟨trivial,?_⟩;exact h aU ((u0.trans u2).trans u3)
noncomputable def G4:List String:=["advance_loc","offset","offset_extended","val_offset","def_cfa","def_cfa_offset","advance"]
inductive si (ρ:aQ) (c d:Int) (nm:String) (am x:Int):Prop
 |mk (bN:ρ 1=some (.int c)) (cu:ρ 2=some (.int d)) (dh:ρ 4=some (.str nm)) (qv:ρ 5=some (.int am)) (AA:ρ 6=some (.int x))
theorem Tu{am x:Int}(w:σ.bg)(hr:0<=am/\ am<=70000)(ak:fU x)(hc:0<=c/\ c<1000)(hd: -1000<d/\ d<1000)(h:∀σ',aw [] σ σ'->(P.V (.bool true) σ').P):∀nm∈G4,si ρ c d nm am x->(sB (TT (n+11)) (aG (aG (aG (aG jP.body)))) P ρ σ).P:=by
 have aM:fU am:=fU.of (by exact⟨(bG (by decide) hr.1),(bG hr.2 (by decide))⟩);have fin:∀{v:af}{nm:String},si ρ c d nm am x->Turn n c d v->(sB (TT (n+11)) (aG (aG (aG (aG (aG jP.body))))) P (ρ.set 7 v) σ).P:=λH T=>Tt w T ⟨H.1,H.2,rfl⟩ h;refine c1.mpr ⟨λH=>?_,c1.mpr ⟨λH=>?_,c1.mpr ⟨λH=>?_,c1.mpr ⟨λH=>?_,c1.mpr ⟨λH=>?_,c1.mpr ⟨λH=>?_,c1.mpr ⟨λH=>?_,λ_w h=>nomatch h⟩⟩⟩⟩⟩⟩⟩
 ·exact Ask.run λq=>Ask.back (a:=sB (TT (n+11)) (aG (aG (aG (aG (aG jP.body))))) P _ _) (q H.3 H.3 rfl rfl H.5) (fin H (so (o:=.dG x) (am:=am) (.inl rfl) trivial (lE ak) hc hd))
 ·exact Ask.run λq=>Ask.back (a:=sB (TT (n+11)) (aG (aG (aG (aG (aG jP.body))))) P _ _) (q H.3 H.3 rfl rfl H.4 H.5) (fin H (so (o:=.off am x) (.inr (.inl rfl)) hr.1 (kJ aM ak) hc hd))
 ·exact Ask.run λq=>Ask.back (a:=sB (TT (n+11)) (aG (aG (aG (aG (aG jP.body))))) P _ _) (q H.3 H.3 rfl rfl H.4 H.5) (fin H (so (o:=.hi am x) (.inr (.inr (.inl rfl))) hr.1 (kJ aM ak) hc hd))
 ·exact Ask.run λq=>Ask.back (a:=sB (TT (n+11)) (aG (aG (aG (aG (aG jP.body))))) P _ _) (q H.3 H.3 rfl rfl H.4 H.5) (fin H (so (o:=.val am x) (.inr (.inr (.inr (.inl rfl)))) hr.1 (kJ aM ak) hc hd))
 ·exact Ask.run λq=>Ask.back (a:=sB (TT (n+11)) (aG (aG (aG (aG (aG jP.body))))) P _ _) (q H.3 H.3 rfl rfl H.4 H.5) (fin H (so (o:=.hh am x) (.inr (.inr (.inr (.inr (.inl rfl))))) hr.1 (kJ aM ak) hc hd))
 ·exact Ask.run λq=>Ask.back (a:=sB (TT (n+11)) (aG (aG (aG (aG (aG jP.body))))) P _ _) (q H.3 H.3 rfl rfl H.5) (fin H (so (o:=.ig x) (am:=am) (.inr (.inr (.inr (.inr (.inr rfl))))) trivial (lE ak) hc hd))
 ·exact Ask.run λq=>Ask.back (a:=sB (TT (n+11)) (aG (aG (aG (aG (aG jP.body))))) P _ _) (q H.3 H.3 rfl rfl H.5) (fin H (Ts (x:=x) hc hd))
noncomputable def Tv:List Int:=[4,0,1,3]
noncomputable def Tw:List Int:=[-4,0,8,1,-3]
noncomputable def Tx:List Int:=[0,4,-4,8,-8,6,-3,24,252,1024,25769803776,-25769803776]
theorem TA{Q:cR}{E:Nat->ah->Prop}(w:σ.bg)(W:cL σ lw ls)(h:∀σ',cL σ' lw ls->aw [lw] σ σ'->Q (.bool true) σ'):bH fn bk bl (n+12) 64 [.loc lw] σ Q E:=by
 refine bz rfl ?_;nomatch w;refine mI (xs:=Tv) (λv=>0<=v/\ v<1000) (by decide) rfl (by decide) (by decide) w W λc i1 aJ hc g1 W1 u1=>?_;have g1:eI [.int 4,.int 0,.int 1,.int 3] i1=some (af.int c):=g1;nomatch g1;refine mI (xs:=Tw) (λv=> -1000<v/\ v<1000) (by decide) rfl (by decide) (by decide) u1.1 W1 λd i2 aC hd g2 W2 u2=>?_;have g2:eI [.int (-4),.int 0,.int 8,.int 1,.int (-3)] i2=some (af.int d):=g2;nomatch g2;refine hs u2.1 W2 (by decide) (by decide) λi3 aU p0 p1 W3 u3=>?_;obtain⟨nm,hnm,g3⟩:=wJ (f:=af.str) (xs:=G4) p0 p1 (by exact(fG (dk p1 (by decide))));have g3:eI [.str "advance_loc",.str "offset",.str "offset_extended",.str "val_offset",.str "def_cfa",.str "def_cfa_offset",.str "advance"] i3=some (af.str nm):=g3;nomatch g3;refine j0 u3.1 W3 λam i4 c9 ham eN W4 u4=>?_;nomatch eN;refine mI (xs:=Tx) fU (by decide) rfl (by decide) (by decide) u4.1 W4 λx i5 dy ak n1 W5 u5=>?_;have n1:eI [.int 0,.int 4,.int (-4),.int 8,.int (-8),.int 6,.int (-3),.int 24,.int 252,.int 1024,.int 25769803776,.int (-25769803776)] i5=some (af.int x):=n1;have U5:=(((u1.trans u2).trans u3).trans u4).trans u5;exact Ask.run λq=>Ask.back (a:=sB (TT (n+11)) (aG (aG (aG (aG jP.body)))) (g9 Q E) _ _) (q n1) (Tu u5.1 ham ak hc hd (λσ' u=>h σ' (W5.nV u5.1 u) (U5.nM u)) nm (oi hnm) ⟨rfl,rfl,rfl,rfl,rfl⟩)
end
theorem TB{hd:Nat->ba}{fds:List cQ}:0<(cY hd fds).parts.length \/fds=[]:=by
 rcases I4 fds with rfl|⟨l,f,rfl⟩
 ·exact .inr rfl
 ·refine .inl ?_;rw[I5,cY,IZ];show 0<(io hd _ f).parts.length;unfold io;cases et _ f.k with
  |some x=>exact(bR (as:=_) (bs:=[_])).symm▸mY _
  |none=>exact(bR (as:=_) (bs:=[_])).symm▸mY _
section
variable{n:Nat}{σ:ah}{lw ls:Nat}{P:cq}{ρ:aQ}
theorem TC(w:σ.bg)(W:cL σ lw ls)(bN:ρ 1=some (.loc lw))(h:∀σ',(P.V (.bool true) σ').P):(sB (TT (n+12)) (aG y9.body) P ρ σ).P:=by
 nomatch bN;refine RM (n:=n+6) w W λaJ lf ld lp hd cl fds T W1 u1=>?_;refine ao λG z=>?_;obtain⟨fs,lK,d1⟩:=T.3;obtain⟨vs,B,jd,eO⟩:=T.7;refine z ?_;clear z G;have gp:=T.8;have w1:=u1.1;have R:=GT (hd:=hd) (fds:=fds) (λf hf=>⟨(T.5 f hf).1,(T.5 f hf).2.1,(T.5 f hf).2.2⟩) T.2;obtain⟨rs,hR,hrow⟩:=R.1;have hl:=R.2;have hpn:0<(cY hd fds).parts.length:=(@TB hd fds).resolve_right T.1;have hp20:=T.9;have raw:dO (jh aJ 0) vs (jj rs):=hrow.symm▸eO.imp λa b zz=>zz.elim λal zz=>zz.elim λol zz=>zz.elim λ_w zz=>zz.elim λ_w z=>⟨al,ol,du _,du _,z⟩;have hne:lp≠lw:=λq=>by
  obtain⟨ns,p,x,W⟩:=W1;have:=gp.symm.trans (q▸W.1);cases aZ:(cY hd fds).parts with
  |nil=>rw[aZ]at hpn;exact absurd hpn (lV 0)
  |cons a l=>rw[aZ]at this;exact ci (congrArg AE this)
 nomatch bN;refine FN (n:=n+4) w1 lK d1 T.4 (λf hf=>⟨(T.5 f hf).1.1,(T.5 f hf).2.1⟩) T.6 T.2 (λ_w aC u2=>?_) (λnf aC u2=>absurd (λf hf=>⟨(T.5 f hf).1.2,(T.5 f hf).2.2⟩) nf);have gp2:=u2.aV w1 gp (aA rfl);have f2:((cY hd fds).parts.map af.bytes).length<=1000000:=by rw[cF];exact aB hp20 (by decide)
 have j:([]:List UInt8)=[]/\ (cY hd fds).parts.flatten.length<=1000000/\ ((cY hd fds).parts.map af.bytes).length<=1000000:=⟨rfl,aB hl (by decide),f2⟩;have ak:(cy hd fds).1.length<=100000:=xe hd fds▸aB hl (by decide);have ne:(cy hd fds).1=(cY hd fds).parts.flatten:=(xe hd fds).symm;rw[xe]at hR;have kb:=wP (cY hd fds).parts;nomatch gp2,kb,j,ne;refine xq (n:=n+1) u2.1 ak (λrs' us k aU hR' g3 ra3 u3=>?_) (λaU hR' u3=>nomatch hR.symm.trans hR');cases hR.symm.trans hR';have U3:=u2.trans u3;have k3:g5 (.loc k) (.loc ld) aU=some true:=uq g3 (U3.aV w1 jd (aA rfl)) ra3 (raw.imp λa b x=>x.up w1 U3 λ_w h=>nomatch h);nomatch k3;refine AW (n:=n+6) u3.1 ak (λrs' us' k' c9 hR' eN ra4 u4=>?_) (λc9 hR' u4=>nomatch hR.symm.trans hR');cases hR.symm.trans hR';have U4:=U3.trans u4;have k4:g5 (.loc k') (.loc ld) c9=some true:=uq eN (U4.aV w1 jd (aA rfl)) ra4 (raw.imp λa b x=>x.up w1 U4 λ_w h=>nomatch h);have W4:=W1.nV w1 U4;have g4':=U4.aV w1 gp (aA rfl);nomatch k4,bN;refine GW (n:=n) u4.1 W4 g4' hne hpn hp20 R.3 λdy W5 u5=>?_;nomatch bN;refine GW (n:=n) u5.1 W5 (u5.at u4.1 g4' (aA rfl) (cI hne)) hne hpn hp20 R.3 λqp W6 u6=>?_;nomatch bN;refine TA (n:=n) u6.1 W6 λwO W7 u7=>?_;exact h wO
theorem TF{ns:List Int}{Q:cR}{E:Nat->ah->Prop}(w:σ.bg)(hl:ns.length<=63)(h:∀σ',Q (.bool true) σ'):bH fn bk bl (n+13) 65 [.np ns] σ Q E:=by
 refine bz rfl ?_;have f1:ns.length<=1000000:=aB hl (by decide);have hc:(cut none (some 63) ns).length<=63:=aB xC hl;nomatch f1;have u0:aw [] σ (σ.push (.list ((cut none (some 63) ns).map .int))):=(aw.refl w).push;refine rX (M:=[]) (cut none (some 63) ns) af.int (λx=>.int (x.fmod 2147483647)) rfl u0.1 (aB hc (by decide)) (λaj u=>u.aV u0.1 bx (aA rfl)) (λx ak aj u Q' h'=>?_) (λaC u2=>?_)
 ·nomatch u;exact h' _ u
 ·have em:(cut none (some 63) ns).map (λx=>af.int (x.fmod 2147483647))=((cut none (some 63) ns).map λx=>x.fmod 2147483647).map af.int:=oF.symm;rw[em];have W:cL ((aC.push (.list (((cut none (some 63) ns).map λx=>x.fmod 2147483647).map af.int))).push (.list [.loc aC.next,.int 0,.int 11])) (aC.next+1) aC.next:=
   ⟨_,0,11,⟨bx,dw (bq (b9 _)) bx,bq (b9 _),by rw[cF];exact hc,by decide⟩⟩
  exact Ask.run λd=>Ask.back (a:=sB (TT (n+12)) (aG y9.body) (g9 Q E) _ _) d (TC (n:=n) u2.1.push.push W rfl h)
end
theorem tR(ns:List Int)(hl:ns.length<=63):bH fn bk bl 100 65 [.np ns] ⟨0,λ_w=>.dead⟩ (λv _w=>v=.bool true) λ_w _w=>False:=TF (n:=87) (λ_w _w=>rfl) hl λ_w=>rfl
end
end
end Mine.Tactic
theorem PySem.Challenge.cw_pq1141_01_holds : PySem.Challenge.rw_pq1141_01.Holds :=
  have said:=PySem.W.Fast.te9446332074065402090▸Mine.Tactic.said_l
  ⟨said,Mine.Tactic.Qa (λb=>b.casesOn Mine.Tactic.runA_false Mine.Tactic.runA_true) (λb=>b.casesOn Mine.Tactic.runB_false Mine.Tactic.runB_true) (Mine.Tactic.asks Mine.Tactic.tR) (row_said said)⟩
