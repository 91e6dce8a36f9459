import PyProof.Rows.All
import Wide.All
import OpenK.AllK
import Wide.FinOn
import PySem.Challenge.RW_nz0028_01
set_option Elab.async false
set_option maxRecDepth 100000
set_option linter.all false
set_option genSizeOf false
set_option genInjectivity false
set_option backward.match.sparseCases false
set_option tactic.hygienic false
set_option genCtorIdx false
set_option bootstrap.genMatcherCode false
open And renaming intro->yR,left->MX,elim->qex
open Array renaming size_push->cn,getElem?_toList->sD,mk->zR,toList->NX
open Bool renaming true->Z,false_ne_true->ia,false->ua,and_eq_true_iff->Aa,and_eq_true->Ad,noConfusion->Bd,not_eq_true'->Se,eq_iff_iff->Fh,false_eq_true->dk,eq_false_iff->Ys,not_eq_true->lu,or_false->wA,true_and->xA,or_eq_true_iff->xI,and_false->cW,false_or->OX
open Classical renaming byContradiction->aa
open Decidable renaming byContradiction->qey,rec->qez
open Eq renaming trans->dn
open Exists renaming elim->tD
open ForInStep renaming yield->vf
open Iff renaming trans->qdp
open Int renaming ofNat->jb,natCast_nonneg->wf,ofNat_lt->oi,not_lt->Wi,lt_of_lt_of_le->Ar,rec->Pt,negSucc_lt_zero->DK,toNat_of_nonneg->EK,add_sub_cancel->TK,toNat_natCast->gR,add_zero->o5,le_of_lt->u5,ofNat_le->v5,zero_add->w5,not_le->qbe
open Int.ofNat renaming inj->Ju
open List renaming casesOn->ma,mem_cons_of_mem->oa,mem_cons_self->sa,length_map->ya,length_append->Ha,replicate->Ia,prefix_refl->Ja,range->Ka,getElem?_append_right->La,mem_of_getElem?->Ma,mem_singleton->Ra,getElem?_eq_getElem->Wa,getElem?_append_left->Xa,mem_cons->fb,getElem?_eq_some_iff->wb,length_set->yb,length_range->Ab,size_toArray->Hb,length_filter_le->Qb,mem_map->Rb,not_mem_nil->Tb,map_cons->Vb,append_nil->Wb,mem_append->Xb,mem_range->bc,rec->gc,getElem?_toArray->jc,length_cons->mc,forall_mem_cons->Ac,cons_ne_nil->Bc,getElem!_eq_getElem?_getD->Cc,append_assoc->Dc,getElem?_map->Ec,nodup_cons->Fc,prefix_append->Hc,lookup_cons->Mc,getElem?_eq_none->Rc,mem_filter->Vc,getElem?_set_ne->Xc,all_eq_true->md,tail_eq_of_cons_eq->wd,mem_append_right->Ld,map_map->Qd,head_eq_of_cons_eq->Xd,getElem?_set_self->je,isEmpty_iff->Be,mem_append_left->Je,getElem?_replicate->Te,getElem?_range->bf,map_congr_left->fg,length_eq_zero_iff->jg,eq_nil_of_length_eq_zero->rg,pairwise_cons->zg,length_replicate->Mg,getElem?_eq_none_iff->dh,filter_eq_nil_iff->ai,nodup_append->di,length_singleton->Ii,filter_cons->Ri,length->nj,filterMap_cons->Fj,getElem_of_mem->Gj,replicate_succ->Hj,getElem?_zip_eq_some->bl,getElem?_set->jl,reverse_cons->ll,cons_append->Km,length_drop->Mm,mem_singleton_self->Nm,find?_cons->qn,forIn_cons->tn,contains_iff_mem->fo,pairwise_append->Oo,any_cons->bq,findIdx?_cons->kr,getElem?_take->lr,ext_getElem?->ft,map_nil->gt,getElem_mem->mu,length_take->nu,mem_flatMap->ou,count_cons->Ww,forIn_nil->Fx,findIdx?_eq_none_iff->az,all_cons->yA,drop_nil->zA,eq_of_mem_replicate->AA,cons->HA,pairwise_singleton->JA,range_succ_eq_map->vD,take_of_length_le->wD,toArray->xD,findIdx?_toArray->ID,lookup->MF,range'->NF,range_eq_range'->QF,length_reverse->zI,getElem?_drop->GK,zip_cons_cons->HK,filter_congr->fL,flatMap_cons->gL,push_toArray->jL,getElem_inj->iR,map_reverse->jR,mem_reverse->kR,length_nil->HR,map_append->IR,of_mem_zip->JR,nodup_nil->lW,take_nil->UX,map_set->U3
open List.IsPrefix renaming subset->Kh
open List.Pairwise renaming filter->C5
open List.Perm renaming append_left->qeC,cons->qeD,eq_of_pairwise->qeE,swap->qeF
open List.cons renaming inj->FK,injEq->qeG
open Nat renaming casesOn->Sa,le_trans->Za,le_of_ble_eq_true->gb,lt_of_le_of_lt->ib,lt_of_lt_of_le->rb,le_refl->Gb,beq->Ub,succ_ne_zero->Zb,blt->ac,lt_irrefl->dc,ne_of_lt->ic,succ->nc,le_add_right->Nc,eq_of_beq_eq_true->Uc,lt_succ_self->pd,zero_le->td,blt_eq->ud,le_of_lt->vd,le_of_eq->Fd,le_succ_of_le->Kd,not_lt->Ud,lt_add_of_pos_right->Yd,le_succ->se,le_add_left->Ve,not_lt_zero->We,succ_le_succ->sf,le_of_lt_succ->Qf,le_of_succ_le->Sf,lt_succ_of_lt->Tf,le_of_not_lt->ng,lt_of_succ_lt_succ->Eg,ne_of_beq_eq_false->Fg,lt_succ_of_le->Rg,ble->fh,sub_self->gh,succ_pos->jh,zero_add->kh,add_comm->pi,ne_of_gt->qi,add_le_add_left->Zj,lt_or_ge->ck,add_le_add->Kk,eq_or_lt_of_le->Lk,lt_of_le_of_ne->Nk,rec->un,add_assoc->qr,add_sub_cancel->Br,sub_add_cancel->Cr,lt_trans->Qt,succ_ne_self->Lu,zero_lt_succ->Mu,le_antisymm->ax,mul_comm->JD,ble_eq_true_of_le->RF,le_of_sub_eq_zero->TF,lt_of_sub_eq_succ->UF,mul_le_mul_right->AI,not_succ_le_zero->BI,pow_le_pow_right->CI,add_right_comm->lL,not_le->mL,succ_lt_succ->LR,mul_succ->E5,pow_succ->F5,sub_succ->G5,succ_add->H5,log2_lt->qab,one_mul->qac,one_pos->qad,two_pos->qae,beq_eq->qbg,max_le->qbh,sub->qfu
open Nat.succ renaming inj->Jh
open Ne renaming symm->cq
open Option renaming some->J,none->Y,bind_eq_some_iff->Fa,isSome_iff_exists->Na,bind_assoc->Va,map_bind->Tc,map_eq_some_iff->ef,map_map->pf,bind_map->xh,isNone_iff_eq_none->ik,map_some->Vm,map->Op,rec->Pp,some_ne_none->KD,casesOn->nR
open Option.some renaming inj->ba,injEq->Bj
open Prod renaming fst->oj,snd->WF
open Prod.mk renaming inj->Ta,injEq->pR
open PyProof.Rows renaming IntsAre->Xi,subscriptTail_builtin->cr,reads_list_at->XJ,add_int->qaf,floordiv_int->qag,getItem_tuple->qah,isub_int->qai,len_tuple->qaj,mod_int'->qak,neg_int->qal,sub_int->qam,subscriptTail->qen
open PyProof.Rows.F renaming plain_set_update_loop->nn,entry_set_update_loop->LF
open PySem renaming wpAny_bind->ga,wpAny_pure->ta,Value->wa,Addr->Ca,wpAny_mono->Da,Shared->Ea,wpAny->Qa,model->bb,Heap->qb,World->zb,Str->Bb,wpAny_ite_false->Jb,wpAny_holding->Kb,Around->Yb,wpAny_standAt->lc,eval->yc,codeAny_mono->Oc,Comprehension->gd,NameKind->xd,strKind->ee,FuncData->te,Operator->He,wpAny_of_eq->af,wpAny_callSpecial?_slot->jf,sizeLine_eq->zf,wpAny_field->Af,DictEntry->Cf,wpAny_call_entry->Kf,PyData->Vf,rawInt->ag,codeAny_builtin->cg,compareOp->dg,callEnv->gg,intKind->ig,backTo->og,wpAny_seqItems->Ig,codeAny_of_tree->Ug,pushCells->ah,codeAny->ch,wpAny_askSetting->Hh,behindInMarks->Uh,callEnvC->Wh,wpAny_onRaise->Zh,wpAny_ite_split->li,wpAny_pyIter_tuple->Di,wpAny_setField_rec->Ei,Program->Zi,holding->dj,spliced->kj,wpAny_newObj_type->lj,wpAny_setState_of->mj,Env->zj,cellsFrom->Lj,wpAny_rule->Xj,Builtin->Yj,plainId_quiet->ak,standAt->bk,Tok->jk,importedModules->Uk,valueAt->Wl,Sem->Yl,binaryOp->gm,intKind_is->xm,wpAny_setField->Jm,Pos->Om,IsRangeIter->gn,fastTable_eq_tree->kn,wpAny_assignInOrder_more->Zn,wpAny_assignInOrder_none->ao,wpAny_isInstance->Mo,builtinsNs->ip,pyNext->Dp,setAddHashed->Ep,wpAny_call->Np,letOwnedTupleGo->Sp,pushCells_keeps->Tp,theTreesLotGoes->Up,wpAny_updateSeq->Vp,CmpOp->yr,Result->Dr,wpAny_ite_true->Xs,swapsWith->Jt,treeTable->Ot,pairTrees_cons_walk->bu,wpAny_setEntries_of->ku,arm_execs_nil->pu,execs->uu,methodCallPos->yu,swappedStores->Du,wpAny_attempt->Gu,pyIter->qw,wpAny_Constant_str->Vw,foldedSetIterable->mx,setItem->ux,wpAny_typeOf->Dx,Stmt->dz,noteFrame->Qz,truthy->pA,wpAny_noted->FA,wpAny_point->GA,wpAny_loadPart'->qD,Obj->yD,operate->CD,relabel->DD,IsZip->HD,exec->iE,isSubtype_type->xE,wpAt_of_wpAny->XF,assignInOrder->II,wpAny_release->xK,Flow->PK,IsRange->UK,Keyword->eL,argsOk->yL,nsFind->qO,wpAny_alloc'->YQ,builtinLookup_eq_fast->uR,GenState->FR,bindName->oS,codeAny_call_builtin->ES,subscripted->qV,wpAny_letGo->SV,wpAny_loadName_local->UV,wpAny_loadName_free->GX,wpAny_setItem_pairs->HX,closureFor->rY,denote->BY,methodCall->EZ,setsByText->Z0,wpAny_Constant_int->U2,wpAny_load->V2,wpAny_pyIter_range->W2,wpAny_unpack_tuple->X2,Const->O3,Model->X3,forTurn->C4,getItem->F4,hashInt->G4,hashStr->H4,newList->P4,setNext->V4,wpAny_pyIter_list->b5,wpAny_pyIter_slot->c5,call->J5,arm_assign_Tuple->R5,checkBuiltinCall->I6,pickOrder->f9,seqIndex?->w9,storeName->H9,wpAny_getItem_of->V9,wpAny_setScan_of->W9,typeLookup_type->qaO,wpAny_Dict_walk->qaW,wpAny_operating->qaX,wpAny_specialOf->qaY,Data->qbb,SetTable->qbj,bindC->qbn,bindL->qbo,compTurn->qbr,constantsAlone->qbt,entryFor->qby,entryFor_alias->qbz,field->qbD,firstArgMember->qbE,isSubtype_stop->qcu,markedBehindIn->qcy,newFunctionEnv->qcD,newTuple->qcE,recursionLimit->qcQ,runOwn->qcU,setAddHashedIn->qcZ,wpAny_fieldsOf->qdi,wpAny_newTuple->qdj,wpAny_runValue->qdk,arm_eval_Call->qdw,codeAny_block->qdK,comprehension->qdM,evalPairs_nil->qdP,foldedForSure->qdT,wpAny_newList->qew,callType_new->qeN,callerA->qeO,firstIterPos->qeT,name_of_addr->qfb,release->qff,setAddByScan->qfh,Reads->qfy,interactive->qfA,keywordEach->qfB,wpAny_alloc->qfC
open PySem.Around renaming under_plainId->Fe
open PySem.BindsTo renaming of_eq->dR
open PySem.Builtin.Frozenset renaming newClass->BR,updateFrom->DR
open PySem.Builtin.List renaming listTooLong->yj,listExtendWith->Wp,listLengthHint->Xp,listSameRef->Zs,listFitsIndex->X9
open PySem.Builtin.Range renaming rangeSize->Xg,small->d5
open PySem.Builtin.SmallTypes renaming nextOf->rd,ownedTupleIsFree->yg,ownedTupleHandOut->fk
open PySem.Builtin.Tuple renaming tupleExact->ur
open PySem.Calls renaming loadGlobal_builtin->xZ,loadGlobal_global->K4,evalArgs_plain->qbB
open PySem.Challenge renaming pw_nz0028_01->Lh,rw_nz0028_01->Mh
open PySem.Code renaming builtin->N3
open PySem.Env renaming kindOf->mn,blockKind->P3
open PySem.Expr renaming Starred->jd,Name->eR
open PySem.F renaming plain_extend_loop->xf,slot_tuple_iterator_next->Ef,called_set->vh,slot_zip_next->fi,slot_list_extend->Pk,args_tuple_iterator_next_1->Yo,entry_tuple_iterator_next->Qp,entry_extend_loop->Yw,args_zip_next_1->Hx,plain_list_iadd->Ix,entry_zip_next->cz,plain_set_new->Q3,slot_set_iter->R3
open PySem.Heap renaming get?_push_of_some->Ba,get?_push_size->Oa,lt_size->qc,get?_update_self->Qc,size_push->ie,SameBut->ff,get?_update_other->gf,dictOf_iff->Mf,IsTuple->uD,ExtBut->n5,get?->qbd
open PySem.Heap.IsTuple renaming push->bo
open PySem.Heap.SameBut renaming update->zd,refl->Y9
open PySem.NameKind renaming free->Ic,cell->Gd
open PySem.Obj renaming data_mapFields->Ce,isFreed_of_fields->Si,mapSeq->Yi,mapFields->bm,cls_mapFields->Rt,putNameByArray->nL,putName_eq->WX,cls->qfv
open PySem.PyData renaming eqv->Yc,eqvAll->yd,int->qg,depthAll->zh,canLayAll0->Th,weightAll->jt,weight->Gx,tuple->BA,list->zD,canLay0->qR,keyHash->rR,depth->nW,strOk->oW
open PySem.SeqAt renaming shaped->YX,eqv_refl->qbi
open PySem.SetTable renaming below->Uf
open PySem.Shared renaming heap->BD
open PySem.Stmt renaming casesOn->b4
open PySem.Str renaming ofString->Gg
open PySem.Value renaming ref->Jc,type->uf,builtin->Ti,isStrOf->Ui,int->cm,isInt->Ho,none->fq,bool->K5,str->qav
open PySem.Value.type renaming inj->qdu
open PySem.W renaming Frag->Ue,emptyDict->Gf,findIn->Tk,boot_heap->Zl,dictOf->qm,through->xx,ks_superIn->yE,SharedT->oL,typeIn->IQ,callWith_of->uS,lookIn->yZ,namesBound->MZ,stepOk->A1,staticsOk->F9,gensDone->qcm,laidKept->qcw,stepT->qda,fencedOpening->qdS,instObj->qeW,topFrom->qfs,defOf->qfz
open PySem.W.Fast renaming tw10156331382660048174->Wm,tw11892475500146522536->Xm,tw6613529449190102663->jn,canonicalQ_eq->sr,te10156331382660048174->qan,te10254737850608025244->qao,te11612656972197000677->qap,te11892475500146522536->qaq,te4187177175401517315->qar,te6613529449190102663->qas,te9446332074065402090->qat,tw4187177175401517315->qau
open PySem.W.Hook renaming says->fR,obs->gW,val->iW
open PySem.W.RowW renaming records->AD
open PySem.W.S renaming signatureZ_eq->Zw
open PySem.W.Upd renaming head->qeJ
open PySem PySem.W PySem.Calls PyProof.Rows
namespace Mine.Internal
noncomputable section
@[elab_as_elim] theorem U {α:Sort u} {motive:α->Prop} {a b:α} (h:a=b) (x:motive b):motive a:=h▸x
@[elab_as_elim] theorem Ed {α:Sort u} {motive:α->Prop} {a b:α} (h:b=a) (x:motive b):motive a:=h▸x
theorem Vg{c d:Type}{o:Option c}{f:c->Option d}{b:d}{P:Prop}(e:o.bind f=J b)(k:∀a,o=J a->f a=J b->P):P:=by
 obtain⟨a,g,h⟩:=Fa.mp e;exact k a g h
theorem Hs{c d:Type}{o:Option c}{f:c->d}{b:d}{P:Prop}(e:o.map f=J b)(k:∀a,o=J a->f a=b->P):P:=by
 obtain⟨a,g,h⟩:=ef.mp e;exact k a g h
theorem Gc{c:Sort _}{d:Sort _}{a b:c}(f:c->d)(h:a=b):f a=f b:=congrArg f h
theorem Dd{c:Prop}{h:Decidable c}(a:c){b:Sort _}{t e:b}:ite c t e=t:=if_pos a
theorem fe{c:Prop}{h:Decidable c}(a:¬c){b:Sort _}{t e:b}:ite c t e=e:=if_neg a
theorem zc{a b:Prop}(h:a)(n:¬a):b:=absurd h n
theorem Nl{p:Prop} [Decidable p](h:decide p=Z):p:=of_decide_eq_true h
set_option maxHeartbeats 0
abbrev P0:Zi:=Lh
abbrev tx:OpenRow:=Mh.row
noncomputable def qv:Zi:=view Lh [32]
noncomputable def cs:List Bb:=["_wall","least","greatest","size","size_domains","next_from","has","has_domains","values","up_to","from_on","without","meet","negation","struck","said_of","Store","Propagator","standing","Placing","Cardinality","_law_draw","_law_domain","_law_tuples","_law_keeps","_law_made","_law_left","_law_is_asked_right"]
noncomputable def Eo(c:String->Option Yj)(p:Zi)(w:zb)(a:Nat)(b:Option wa)(z:Nat)(j:oL)(q:Thread):Option oL:=match z,j,q with|0,u,y=>Y|n+1,s,t=>match xx t with|true=>J s|false=>match A1 a b t with|false=>Y|true=>match qda (BY c) p w s t with|some (d,e)=>Eo c p w a b n d e|none=>Y
theorem rK{d:String->Option Yj}{p:Zi}{w:zb}{a:Nat}{b:Option wa}:∀{n:Nat}{s c:oL}{t:Thread},
 Eo d p w a b n s t=J c->topRun d p w a b n s.abs t=J c.abs:=by
 intro n
 induction n with
 |zero=>
  rintro _ _ _ h;cases h
 |succ n k=>
  rintro s c t h;replace h:(match xx t with|true=>J s|false=>match A1 a b t with|false=>Y|true=>match qda (BY d) p w s t with|some (c,e)=>Eo d p w a b n c e|none=>Y)=J c:=h;unfold topRun
  induction f:xx t with
  |true=>rw[f]at h;obtain rfl:=ba h;rfl|false=>
   rw[f]at h
   induction g:A1 a b t with
   |false=>rw[g]at h;cases h|true=>
    rw[g]at h
    induction e:qda (BY d) p w s t with
    |none=>rw[e]at h;cases h|some r=>obtain⟨i,j⟩:=r;rw[e]at h;rw[stepT_spec e];exact k h
noncomputable def Eu(tb:String->Option Yj)(p:Zi)(w:zb)(n₀:Nat)(ann:Option wa)(z:Nat)(j:oL)(q:Thread):Option oL:=match z,j,q with|0,u,y=>Y|n+1,s,t=>match xx t with|true=>J s|false=>match jn n₀ ann t with|false=>Y|true=>match Wm (Xm tb) p w s t with|some (s',t')=>Eu tb p w n₀ ann n s' t'|none=>Y
theorem AF{tb p w n₀ ann}:∀n s t,Eo tb p w n₀ ann n s t=Eu tb p w n₀ ann n s t:=by
 intro n
 induction n with
 |zero=>
  rintro _ _;exact rfl
 |succ n c=>
  rintro s t;show(match xx t with|true=>J s|false=>match A1 n₀ ann t with|false=>Y|true=>match qda (BY tb) p w s t with|some (a,b)=>Eo tb p w n₀ ann n a b|none=>Y)=(match xx t with|true=>J s|false=>match jn n₀ ann t with|false=>Y|true=>match Wm (Xm tb) p w s t with|some (a,b)=>Eu tb p w n₀ ann n a b|none=>Y)
  rw[<-qas,<-qan,<-qaq]
  induction xx t<;>simp only
  induction A1 n₀ ann t<;>simp only
  induction qda (BY tb) p w s t<;>simp only
  exact c _ _
noncomputable def tW(P:Params):BT:=(Zl P).objs.toList.zipIdx.foldl (λt x=>t.ins x.2 x.1) .nil
set_option maxHeartbeats 200000
section
theorem ja{a:Type}{P:Prop}{x:a}(h:(Y:Option a)=J x):P:=nomatch h
set_option genCtorIdx true in
inductive V where
 |none|bool (b:Bool)|int (i:Int)|str (s:Bb)|t (xs:List V)|ref (i:Nat)|k (v:wa)|rng (a b:Int)|iset (xs:List Int)
 deriving Inhabited
inductive O where
 |list (xs:List V)|idict (es:List (Int×V))|h (es:List (Bb×V))|inst (c d:Nat)
 deriving Inhabited
noncomputable abbrev St:=List O
noncomputable abbrev Me:=List (Option V)
inductive CT where
 |x (i:Nat)|t (is:List Nat)
mutual
inductive X where
 |x (i:Nat)|k (v:wa)|none|bool (b:Bool)|int (i:Int)|str (s:Bb)|attr (o:X) (n:Bb)|sub (o i:X)|cut (o:X) (k:Int)|bin (op:He) (a b:X)|neg (a:X)|cmp (op:yr) (a b:X)|cmp2 (op1 op2:yr) (a b c:X)|ite (t:B) (a b:X)|t (xs:List X)|list (xs:List X)|dict (ks vs:List X)|comp (k:Nat) (iter:X) (tgt:CT) (ifs:List B) (rest:List G) (elt:X)|call (f:X) (args:List X)|meth (o:X) (n:Bb) (args:List X)|sup (i:Nat) (f:Nat) (args:List X)
inductive B where
 |and (a b:B)|or (a b:B)|not (a:B)|wK (x:X)
inductive G where
 |mk (iter:X) (tgt:CT) (ifs:List B)
end
inductive T where
 |x (i:Nat)|t (ts:List T)|attr (o:X) (n:Bb)|sub (o i:X)
inductive S where
 |assign (t:T) (e:X)|aug (o i:X) (op:He) (e:X)|expr (e:X)|ifs (t:B) (a b:List S)|whil (t:B) (b:List S)|fors (t:CT) (e:X) (b:List S)|forz (t:CT) (es:List X) (b:List S)|ret (e:X)
inductive Fl where
 |next|ret (v:V)
structure Fn where
 params:Nat
 slots:Nat
 body:List S
structure Bh where
 meth:Nat->Bb->Option Nat
 init:Nat->Option Nat
 attr:Nat->Bb->Bool
 sup:Nat->Option Nat
 scr:Nat->Option (List Int)
noncomputable abbrev Bh.w(t:Bh)(a:Nat->Option (List Int)):Bh:=⟨t.meth,t.init,t.attr,t.sup,a⟩
inductive It where
 |st (xs:List V)|dyn (i:Nat)
noncomputable def oh(z:V):Option Int:=match z with|.int k=>J k|_=>Y
noncomputable def gp(z:V):Option Bool:=match z with|.bool b=>J b|_=>Y
noncomputable def zx(z:V):Option (List V):=match z with|.t a=>J a|_=>Y
noncomputable def tw(z:V):Option Nat:=match z with|.ref i=>J i|_=>Y
noncomputable def jK(z:V):Option Bb:=match z with|.str s=>J s|_=>Y
noncomputable def c8(z:O):Option (List V):=match z with|.list a=>J a|_=>Y
noncomputable def qfg(z:O):Option (List (Bb×V)):=match z with|.h a=>J a|_=>Y
noncomputable def W7(z:O):Option (Nat×Nat):=match z with|.inst c d=>J (c,d)|_=>Y
def tc(a:St)(i:Nat):Option (List V):=(a[i]?).bind c8
def Vq(a:St)(i:Nat):Option (List (Bb×V)):=(a[i]?).bind qfg
def wi(a:St)(i:Nat):Option (Nat×Nat):=(a[i]?).bind W7
noncomputable def one{b:Type}(z:List b):Option b:=match z with|[a]=>J a|_=>Y
noncomputable def two{c:Type}(z:List c):Option (c×c):=match z with|[a,b]=>J (a,b)|_=>Y
noncomputable def Ge(b:Bool):Option Unit:=if b then J ()else Y
noncomputable def ut(a:Int)(n:Nat):List V:=(Ka n).map λ(i:Nat)=>V.int (a+(i:Int))
def Jo(a b:Int):List V:=ut a (b - a).toNat
noncomputable def Wo(a b:Int):Bool:=decide (-1000<a/\a<1000/\ -1000<b/\b<1000)
def zm(b:It)(i:Nat)(c:St):Option (Option V):=match b with|.st a=>J a[i]?|.dyn l=>(tc c l).map λa=>a[i]?
noncomputable def G9(f:V->St->Option (List V×St))(k:Nat->St->Option (List V×St))(i:Nat)(a:St)(z:Option V):Option (List V×St):=match z with|Y=>J ([],a)|some v=>(f v a).bind λp=>(k (i+1) p.2).map λq=>(p.1++q.1,q.2)
noncomputable def Ro(q:Nat)(d:It)(g:Nat)(l:(V->St->Option (List V×St)))(m:St):Option (List V×St):=match q,d,g,l,m with|0,u,y,z,j=>Y|n+1,b,i,f,a=>(zm b i a).bind (G9 f (λi a=>Ro n b i f a) i a)
noncomputable def fD(k:Me->St->Option (Fl×Me×St))(p:Fl×Me×St):Option (Fl×Me×St):=match p.1 with|.next=>k p.2.1 p.2.2|.ret u=>J p
noncomputable def tX(f:V->Me->St->Option (Fl×Me×St))(k:Nat->Me->St->Option (Fl×Me×St))(i:Nat)(a:Me)(b:St)(z:Option V):Option (Fl×Me×St):=match z with|Y=>J (.next,a,b)|some v=>(f v a b).bind (fD (k (i+1)))
noncomputable def Gq(d:Nat)(g:It)(l:Nat)(m:(V->Me->St->Option (Fl×Me×St)))(o:Me)(r:St):Option (Fl×Me×St):=match d,g,l,m,o,r with|0,u,y,z,j,q=>Y|n+1,c,i,f,b,a=>(zm c i a).bind (tX f (λi b a=>Gq n c i f b a) i b a)
noncomputable def LB(q:Nat)(d:(Me->St->Option (Bool×St)))(g:(Me->St->Option (Fl×Me×St)))(l:Me)(m:St):Option (Fl×Me×St):=match q,d,g,l,m with|0,u,y,z,j=>Y|n+1,t,f,a,b=>(t a b).bind λp=>match p.1 with|false=>J (.next,a,p.2)|true=>(f a p.2).bind (fD (LB n t f))
noncomputable def xe(j:List Nat)(q:List V)(d:Me):Option Me:=match j,q,d with|[],[],a=>J a|i::is,v::b,a=>if i<a.length then xe is b (a.set i (J v))else Y|u,y,z=>Y
def ql(z:CT)(y:V)(u:Me):Option Me:=match z,y,u with|.x i,v,a=>if i<a.length then J (a.set i (J v))else Y|.t is,v,a=>(zx v).bind λb=>xe is b a
noncomputable def free(a:Me)(i:Nat):Bool:=match a[i]? with|some Y=>Z|_=>ua
noncomputable def Dk(j:List Nat)(q:List V)(d:Me):Option Me:=match j,q,d with|[],[],a=>J a|i::is,v::b,a=>if free a i then Dk is b (a.set i (J v))else Y|u,y,z=>Y
def Kj(z:CT)(y:V)(u:Me):Option Me:=match z,y,u with|.x i,v,a=>if free a i then J (a.set i (J v))else Y|.t is,v,a=>(zx v).bind λb=>Dk is b a
noncomputable def Td(n:Nat):Bool:=ac n 4096
noncomputable def Ol(n:Nat)(k:Int):Option Nat:=if 0<=k then J k.toNat else if -(n:Int)<=k then J (k+n).toNat else Y
def I4(a:List V)(k:Int):Option V:=(Ol a.length k).bind λi=>a[i]?
noncomputable def Qm(z:List (Int×V))(y:Int):Option V:=match z,y with|[],u=>Y|(k,v)::r,x=>if k=x then J v else Qm r x
noncomputable def Pf(z:List (Bb×V))(y:Bb):Option V:=match z,y with|[],u=>Y|(k,v)::r,x=>if k=x then J v else Pf r x
noncomputable def jw(z:List (Int×V))(y:Int)(u:V):List (Int×V):=match z,y,u with|[],x,w=>[(x,w)]|(k,v)::r,x,w=>if k=x then(k,w)::r else(k,v)::jw r x w
noncomputable def Gh(z:List (Bb×V))(y:Bb)(u:V):List (Bb×V):=match z,y,u with|[],x,w=>[(x,w)]|(k,v)::r,x,w=>if k=x then(k,w)::r else(k,v)::Gh r x w
def qdc(k:V)(z:O):Option V:=match z with|.list a=>(oh k).bind (I4 a)|.idict a=>(oh k).bind (Qm a)|.h a=>(jK k).bind (Pf a)|.inst u y=>Y
def eD(o k:V)(a:St):Option V:=match o with|.t b=>(oh k).bind (I4 b)|.ref i=>(a[i]?).bind (qdc k)|_=>Y
noncomputable def A9(a:List V)(v:V)(i:Nat):Option (List V):=if i<a.length then J (a.set i v)else Y
def aV(k v:V)(j:O):Option O:=match j with|.list a=>((oh k).bind (Ol a.length)).bind λi=>(A9 a v i).map .list|.idict a=>(oh k).bind λk=>(Ge (Td a.length)).map λu=>.idict (jw a k v)|.h a=>(jK k).bind λk=>(Ge (Td a.length)).map λu=>.h (Gh a k v)|.inst y z=>Y
def Ci(o k v:V)(a:St):Option St:=(tw o).bind λi=>((a[i]?).bind (aV k v)).map (a.set i)
noncomputable def hH(z:V):Option V:=match z with|.k u=>Y|v=>J v
def Ni(W:Bh)(o:V)(n:Bb)(a:St):Option V:=((tw o).bind (wi a)).bind λp=>(Vq a p.2).bind λb=>(Ge (W.attr p.1 n)).bind λu=>(Pf b n).bind hH
def Qn(W:Bh)(o:V)(n:Bb)(v:V)(a:St):Option St:=((tw o).bind (wi a)).bind λp=>(Vq a p.2).bind λb=>(Ge (W.attr p.1 n&&ac b.length 900)).map λu=>a.set p.2 (.h (Gh b n v))
def gj(a:List V)(b:St):Option (V×St):=(Ge (Td a.length)).map λu=>(.ref b.length,b++[.list a])
def Bp(a:List V)(b:St):Option (V×St):=(Ge (Td a.length)).map λu=>(.t a,b)
def xC(a b:Int):Option (List V):=(Ge (Wo a b)).map λu=>Jo a b
def fj(v:V)(c:St):Option It:=match v with|.t a=>J (.st a)|.rng a b=>(xC a b).map .st|.ref i=>(tc c i).map λu=>.dyn i|_=>Y
noncomputable def US(x y:Int):Option Int:=if 0<=x/\x<1000/\0<y/\y<1000 then J (x.fdiv y)else Y
noncomputable def Nz(x y:Int):Option Int:=if y=0 then Y else J (x.fmod y)
noncomputable def rU(x y:Int):Option Int:=if 0<=y/\y<=20/\0<=x/\x<=2 then J (x^y.toNat)else Y
def R4(f:Int->Int->Option Int)(a b:V)(c:St):Option (V×St):=(oh a).bind λx=>(oh b).bind λy=>(f x y).map λz=>(.int z,c)
def UR(a b:V)(c:St):Option (V×St):=match a with|.int x=>(oh b).map λy=>(.int (x+y),c)|.t d=>(zx b).bind λe=>Bp (d++e) c|.ref i=>(tc c i).bind λd=>((tw b).bind (tc c)).bind λe=>gj (d++e) c|_=>Y
def bU(a b:V)(c:St):Option (V×St):=(((tw a).bind (tc c)).bind one).bind λx=>(oh b).bind λk=>(Ge (decide (0<=k/\k<4096))).bind λu=>gj (Ia k.toNat x) c
def lS(d:He)(a b:V)(c:St):Option (V×St):=match d with|.Add=>UR a b c|.Sub=>R4 (λx y=>J (x - y)) a b c|.FloorDiv=>R4 US a b c|.Mod=>R4 Nz a b c|.Pow=>R4 rU a b c|.Mult=>bU a b c|_=>Y
noncomputable def Ip(s:Bb):Bool:=s.cps.toList.all λn=>ac n 0x110000
theorem iK{s:Bb}(h:Ip s=Z):oW s=Z:=by
 unfold Ip at h;unfold oW;rw[md]at h;refine U (propext Array.all_eq_true') ?_;intro x a;have:=h x (by simpa using a)
 simpa [ud]using this
noncomputable def om(f:V->Option Vf)(z:List V):Option (List Vf):=match z with|[]=>J []|x::a=>(f x).bind λd=>(om f a).map λx=>d::x
def fB(z:V):Option Vf:=match z with|.none=>J .none|.bool b=>J (.bool b)|.int i=>J (.int i)|.str s=>if Ip s then J (.str s)else Y|_=>Y
noncomputable def nv(z:Nat)(y:V)(j:St):Option Vf:=match z,y,j with|0,v,u=>fB v|n+1,v,a=>match v with|.t b=>(om (λx=>nv n x a) b).map .tuple|.ref i=>(tc a i).bind λb=>(om (λx=>nv n x a) b).map .list|v=>fB v
def c7(n:Nat)(a:List V)(b:St):Option (List Vf):=om (λx=>nv n x b) a
def Jv{c:Type}(f:Int->Int->c)(a b:V):Option c:=(oh a).bind λx=>(oh b).map (f x)
def u4(a b:V)(c:St):Option Bool:=(nv 6 a c).bind λd=>(nv 6 b c).map λe=>Yc d e
noncomputable def jH(z:V):Option Bool:=match z with|.none=>J Z|.t u=>J ua|.ref u=>J ua|.bool u=>J ua|.int u=>J ua|_=>Y
def qeX(a b:V):Option Bool:=match b with|.none=>jH a|_=>Y
def fZ(a b:V):Option Bool:=match b with|.none=>(jH a).map (λx=> !x)|.bool y=>(gp a).map (λx=>x !=y)|_=>Y
def uT(e:Vf)(a:List V)(b:St):Option Bool:=(c7 5 a b).map λc=>c.any λd=>Yc d e
def qeV(a:V)(b:St)(z:O):Option Bool:=match z with
 |.idict c=>(oh a).map λk=>(Qm c k).isSome|.list c=>match a with|.int k=>uT (.int k) c b|.t d=>(nv 5 (.t d) b).bind λe=>uT e c b|_=>Y
 |_=>Y
def qaA(a b:V)(c:St):Option Bool:=(tw b).bind λi=>(c[i]?).bind (qeV a c)
def lq(d:yr)(a b:V)(c:St):Option Bool:=match d with|.Lt=>Jv (λx y=>decide (x<y)) a b|.LtE=>Jv (λx y=>decide (x<=y)) a b|.Gt=>Jv (λx y=>decide (y<x)) a b|.GtE=>Jv (λx y=>decide (y<=x)) a b|.Eq=>u4 a b c|.NotEq=>(u4 a b c).map (λx=> !x)|.Is=>qeX a b|.IsNot=>fZ a b|.In=>qaA a b c|.NotIn=>(oh a).bind λk=>(qaA (.int k) b c).map λx=> !x
noncomputable def ki(z:List V):Option (List Int):=match z with|[]=>J []|v::r=>(oh v).bind λi=>(ki r).map λx=>i::x
noncomputable def uo(x:Int)(z:List Int):List Int:=match z with|[]=>[x]|y::r=>if x<=y then x::y::r else y::uo x r
noncomputable def Yq(z:List Int):List Int:=match z with|[]=>[]|x::r=>uo x (Yq r)
noncomputable def Hg(a:List Int):List Int:=([0,1,2]:List Int).filter λk=>a.contains k
def QP(v:V)(c:St):Option (List V):=match v with|.t a=>J a|.rng a b=>xC a b|.ref i=>tc c i|_=>Y
def N1(v:V)(a:St):Option (List V):=match v with|.t b=>J b|.ref i=>tc a i|_=>Y
def EW(v:V)(c:St):Option (List V):=match v with|.rng a b=>xC a b|.ref i=>tc c i|_=>Y
set_option genCtorIdx true in
inductive Bi where
 |len|max|min|sum|sorted|range|tuple|list|set
noncomputable def QD(z:wa):Option Bi:=match z with|.builtin n=>if n="len"then J .len else if n="max"then J .max else if n="min"then J .min else if n="sum"then J .sum else if n="sorted"then J .sorted else Y|.type n=>if n="range"then J .range else if n="tuple"then J .tuple else if n="list"then J .list else if n="set"then J .set else Y|_=>Y
def nZ(b:St)(z:V):Option Int:=match z with|.t a=>J a.length|.iset a=>J (Hg a).length|.ref i=>(tc b i).map λa=>(a.length:Int)|_=>Y
def qcS(b:Int):Option V:=(Ge (Wo 0 b)).map λu=>.rng 0 b
def qcT(a b:Int):Option V:=(Ge (Wo a b)).map λu=>.rng a b
def l9(z:List V):Option V:=match z with|[b]=>(oh b).bind qcS|[a,b]=>(oh a).bind λa=>(oh b).bind (qcT a)|_=>Y
def B9(is:List Int):Option V:=(Ge (is.all λi=>decide (0<=i)&&decide (i<=2))).map λu=>.iset is
def cQ(is:List Int):Option (List V):=(Ge (ac is.length 60)).map λu=>(Yq is).map V.int
def D9(z:O):Option (List V):=match z with|.list a=>(ki a).bind cQ|.idict a=>cQ (a.map λx=>x.1)|_=>Y
def rX(a:St)(z:V):Option (List V):=match z with|.iset b=>J ((Hg b).map V.int)|.ref i=>(a[i]?).bind D9|_=>Y
noncomputable def mD(a:St)(v:Option V):Option (V×St):=v.map λv=>(v,a)
def qaD(f:Int->Int->Int)(p:V×V):Option V:=(Jv f p.1 p.2).map .int
def tR(b:Bi)(a:List V)(c:St):Option (V×St):=match b with|.len=>mD c (((one a).bind (nZ c)).map .int)|.max=>mD c ((two a).bind (qaD max))|.min=>mD c ((two a).bind (qaD min))|.sum=>mD c (((((one a).bind tw).bind (tc c)).bind ki).map λis=>.int is.sum)|.sorted=>((one a).bind (rX c)).bind λd=>gj d c|.range=>mD c (l9 a)|.tuple=>((one a).bind λx=>QP x c).bind λd=>Bp d c|.list=>((one a).bind zx).bind λd=>gj d c|.set=>mD c ((((one a).bind λx=>N1 x c).bind ki).bind B9)
def qdx(f:wa)(a:List V)(c:St):Option (V×St):=(QD f).bind λb=>tR b a c
set_option genCtorIdx true in
inductive Lm where
 |append|extend|insert|index|count
noncomputable def au(n:Bb):Option Lm:=if n="append"then J .append else if n="extend"then J .extend else if n="insert"then J .insert else if n="index"then J .index else if n="count"then J .count else Y
def T7(is:List Int)(k:Int):Option Int:=(Ge (is.contains k&&is.all (λi=>decide (-1000<i)&&decide (i<1000))&&ac is.length 60)).map λu=>(is.idxOf k:Int)
def qcs(a:List V)(k:Int)(v:V):Option (List V):=(Ge (decide (0<=k/\k<=a.length)&&Td a.length)).map λu=>a.take k.toNat++v::a.drop k.toNat
def qaG(m:Lm)(a:List V)(d:St)(b:List V):Option (List V):=match m with|.append=>(one a).bind λv=>(Ge (Td b.length)).map λu=>b++[v]|.extend=>((one a).bind λx=>EW x d).bind λc=>(Ge (Td (b.length+c.length))).map λu=>b++c|.insert=>(two a).bind λp=>(oh p.1).bind λk=>qcs b k p.2|_=>Y
def qeY(m:Lm)(a:List V)(b:List V):Option V:=match m with|.index=>((one a).bind oh).bind λk=>(ki b).bind λis=>(T7 is k).map .int|.count=>((one a).bind oh).bind λk=>(ki b).map λis=>.int (is.count k)|_=>Y
noncomputable def uZ(z:Lm):Bool:=match z with|.index=>ua|.count=>ua|_=>Z
def OT(m:Lm)(i:Nat)(a:List V)(b:St)(c:List V):Option (V×St):=match uZ m with|true=>(qaG m a b c).map λd=>(.none,b.set i (.list d))|false=>(qeY m a c).map λv=>(v,b)
def RT(i:Nat)(n:Bb)(a:List V)(b:St):Option (V×St):=(au n).bind λm=>(tc b i).bind (OT m i a b)
section
variable (W:Bh) (R:Nat->List V->St->Option (V×St))
noncomputable def GE(a:St)(p:V×St):Option (V×St):=match p.1 with|.none=>J (.ref (a.length+1),p.2)|_=>Y
def fG(f:V)(b:List V)(c:St):Option (V×St):=match f with
 |.k (.ref a)=>match W.init a with|some g=>(R g (.ref (c.length+1)::b) (c++[.h [],.inst a c.length])).bind (GE c)|Y=>R a b c
 |.k v=>qdx v b c|_=>Y
inductive dW where
 |fn (f:Nat) (o:V)|lm (i:Nat)
noncomputable def JE(c:Nat)(n:Bb)(o:V)(z:Option V):Option dW:=match z with|Y=>(W.meth c n).map λf=>.fn f o|some u=>Y
def qcR(n:Bb)(a:St)(i:Nat)(z:O):Option dW:=match z with|.inst c d=>(Vq a d).bind λb=>JE W c n (.ref i) (Pf b n)|.list u=>J (.lm i)|_=>Y
def du(o:V)(n:Bb)(a:St):Option dW:=(tw o).bind λi=>(a[i]?).bind (qcR W n a i)
def my(c:dW)(n:Bb)(a:List V)(b:St):Option (V×St):=match c with|.fn f o=>R f (o::a) b|.lm i=>RT i n a b
def a7(a:List V)(k:Int)(b:St):Option (V×St):=(Ge (decide (0<=k/\k<1000))).bind λu=>gj (a.take k.toNat) b
def MS(v:V)(k:Int)(b:St):Option (V×St):=match v with|.k (.ref a)=>(W.scr a).bind λc=>a7 (c.map V.int) k b|.ref i=>(tc b i).bind λc=>a7 c k b|_=>Y
def N9(f:Nat)(a:St)(j:Nat):Option Nat:=(wi a j).bind λp=>(Vq a p.2).bind λu=>if W.sup p.1=J f then J j else Y
def oG(k x:V)(b:St):Option (V×St):=(oh k).map λa=>(.ref b.length,b++[.idict [(a,x)]])
def pG(k l x y:V)(c:St):Option (V×St):=(jK k).bind λa=>(jK l).bind λb=>if a=b then Y else J (.ref c.length,c++[.h [(a,x),(b,y)]])
def qG(c b:List V)(a:St):Option (V×St):=match c with
 |[]=>(match b with|[]=>J (.ref a.length,a++[.idict []])|_=>Y)
 |[k]=>(one b).bind λx=>oG k x a|[k,l]=>(two b).bind λp=>pG k l p.1 p.2 a|_=>Y
noncomputable def Zk(a:Me)(i:Nat):Option V:=(a[i]?).bind id
noncomputable def ln{a:Type}(b:Bool)(x y:Option a):Option a:=match b with|true=>x|false=>y
mutual
noncomputable def evX(z:X)(d:Me)(g:St):Option (V×St):=match z,d,g with
 |.x i,h,e=>(Zk h i).map λv=>(v,e)|.k v,y,e=>J (.k v,e)|.none,y,e=>J (.none,e)|.bool b,y,e=>J (.bool b,e)|.int i,y,e=>J (.int i,e)|.str s,y,e=>J (.str s,e)|.attr o n,h,e=>(evX o h e).bind λp=>(Ni W p.1 n p.2).map λv=>(v,p.2)|.sub o i,h,e=>(evX o h e).bind λp=>(evX i h p.2).bind λq=>(eD p.1 q.1 q.2).map λv=>(v,q.2)|.cut o k,h,e=>(evX o h e).bind λp=>MS W p.1 k p.2|.bin c a b,h,e=>(evX a h e).bind λp=>(evX b h p.2).bind λq=>lS c p.1 q.1 q.2|.neg a,h,e=>(evX a h e).bind λp=>(oh p.1).map λi=>(.int (-i),p.2)|.cmp c a b,h,e=>(evX a h e).bind λp=>(evX b h p.2).bind λq=>(lq c p.1 q.1 q.2).map λr=>(.bool r,q.2)|.cmp2 f j a b c,h,e=>(evX a h e).bind λp=>(evX b h p.2).bind λq=>(lq f p.1 q.1 q.2).bind λr=>
  ln r ((evX c h q.2).bind λu=>(lq j q.1 u.1 u.2).map λr=>(.bool r,u.2)) (J (.bool ua,q.2))
 |.ite t a b,h,e=>(Yt t h e).bind λp=>ln p.1 (evX a h p.2) (evX b h p.2)|.t a,h,e=>(Mi a h e).bind λp=>Bp p.1 p.2|.list a,h,e=>(Mi a h e).bind λp=>gj p.1 p.2|.dict a b,h,e=>(Mi a h e).bind λp=>(Mi b h p.2).bind λq=>qG p.1 q.1 q.2|.comp k a f j rest l,h,e=>(evX a h e).bind λp=>(fj p.1 p.2).bind λm=>
  (Ro 5000 m 0 (λv e=>(Kj f v (h++Ia k Y)).bind λb=>(oy j b e).bind λq=>ln q.1 (evRest rest (λh e=>evX l h e) b q.2) (J ([],q.2))) p.2).bind λq=>gj q.1 q.2
 |.call f a,h,e=>(evX f h e).bind λp=>(Mi a h p.2).bind λq=>fG W R p.1 q.1 q.2|.meth o n a,h,e=>(evX o h e).bind λp=>(du W p.1 n p.2).bind λc=>(Mi a h p.2).bind λq=>my R c n q.1 q.2|.sup i f a,h,e=>(((Zk h i).bind tw).bind (N9 W f e)).bind λj=>(Mi a h e).bind λq=>R f (.ref j::q.1) q.2
noncomputable def Mi(z:List X)(y:Me)(j:St):Option (List V×St):=match z,y,j with|[],u,a=>J ([],a)|x::c,b,a=>(evX x b a).bind λp=>(Mi c b p.2).map λq=>(p.1::q.1,q.2)
noncomputable def Yt(z:B)(y:Me)(u:St):Option (Bool×St):=match z,y,u with|.and a b,c,d=>(Yt a c d).bind λp=>ln p.1 (Yt b c p.2) (J (ua,p.2))|.or a b,c,d=>(Yt a c d).bind λp=>ln p.1 (J (Z,p.2)) (Yt b c p.2)|.not a,c,d=>(Yt a c d).map λp=>(!p.1,p.2)|.wK x,c,d=>(evX x c d).bind λp=>(gp p.1).map λb=>(b,p.2)
noncomputable def oy(z:List B)(y:Me)(j:St):Option (Bool×St):=match z,y,j with|[],u,a=>J (Z,a)|t::c,b,a=>(Yt t b a).bind λp=>ln p.1 (oy c b p.2) (J (ua,p.2))
noncomputable def evRest(z:List G)(y:(Me->St->Option (V×St)))(u:Me)(j:St):Option (List V×St):=match z,y,u,j with
 |[],a,e,b=>(a e b).map λp=>([p.1],p.2)|.mk c f g::h,a,e,b=>(evX c e b).bind λp=>(fj p.1 p.2).bind λi=>
  Ro 5000 i 0 (λv b=>(Kj f v e).bind λd=>(oy g d b).bind λq=>ln q.1 (evRest h a d q.2) (J ([],q.2))) p.2
end
mutual
noncomputable def JK(z:T)(y:V)(j:Me)(d:St):Option (Me×St):=match z,y,j,d with|.x i,v,a,b=>(Ge (ac i a.length)).map λu=>(a.set i (J v),b)|.t c,v,a,b=>(zx v).bind λe=>eK c e a b|.attr o n,v,a,b=>(evX W R o a b).bind λp=>(Qn W p.1 n v p.2).map λb=>(a,b)|.sub o i,v,a,b=>(evX W R o a b).bind λp=>(evX W R i a p.2).bind λq=>(Ci p.1 q.1 v q.2).map λb=>(a,b)
noncomputable def eK(q:List T)(d:List V)(f:Me)(g:St):Option (Me×St):=match q,d,f,g with|[],[],a,b=>J (a,b)|t::c,v::e,a,b=>(JK t v a b).bind λp=>eK c e p.1 p.2|u,y,z,j=>Y
end
def ZV(z:List (List V)):Option (List V):=match z with|[b,a,c]=>(Ge (decide (b.length=a.length/\a.length=c.length))).map λu=>(b.zip (a.zip c)).map λp=>V.t [p.1,p.2.1,p.2.2]|_=>Y
noncomputable def Wn(z:List V):Option (List (List V)):=match z with|[]=>J []|v::r=>(zx v).bind λa=>(Wn r).map λx=>a::x
noncomputable def BL(a:He)(x y:Int):Option Int:=match a with|.Add=>J (x+y)|.Sub=>J (x - y)|_=>Y
noncomputable def tG(z:V):Option Unit:=match z with|.none=>J ()|.bool u=>J ()|_=>Y
noncomputable def pJ(p:Me×St):Fl×Me×St:=(.next,p.1,p.2)
mutual
noncomputable def gE(d:S)(f:Me)(g:St):Option (Fl×Me×St):=match d,f,g with
 |.assign t e,c,h=>(evX W R e c h).bind λp=>(JK W R t p.1 c p.2).map pJ|.aug o i b e,c,h=>(evX W R o c h).bind λp=>(evX W R i c p.2).bind λq=>(eD p.1 q.1 q.2).bind λa=>(evX W R e c q.2).bind λu=>
  (oh a).bind λx=>(oh u.1).bind λy=>(BL b x y).bind λz=>(Ci p.1 q.1 (.int z) u.2).map λh=>(.next,c,h)
 |.expr e,c,h=>(evX W R e c h).bind λp=>(tG p.1).map λj=>(.next,c,p.2)|.ifs t a b,c,h=>(Yt W R t c h).bind λp=>ln p.1 (vv a c p.2) (vv b c p.2)|.whil t b,c,h=>LB 5000 (Yt W R t) (λc h=>vv b c h) c h|.fors t e b,c,h=>(evX W R e c h).bind λp=>(fj p.1 p.2).bind λi=>Gq 5000 i 0 (λv c h=>(ql t v c).bind λa=>vv b a h) c p.2|.forz t j b,c,h=>(Mi W R j c h).bind λp=>((Wn p.1).bind ZV).bind λi=>Gq 5000 (.st i) 0 (λv c h=>(ql t v c).bind λa=>vv b a h) c p.2|.ret e,c,h=>(evX W R e c h).map λp=>(.ret p.1,c,p.2)
noncomputable def vv(z:List S)(y:Me)(u:St):Option (Fl×Me×St):=match z,y,u with|[],a,b=>J (.next,a,b)|s::c,a,b=>(gE s a b).bind (fD (vv c))
end
noncomputable def GY(p:Fl×Me×St):V×St:=match p.1 with|.ret v=>(v,p.2.2)|.next=>(.none,p.2.2)
def zP(b:Fn)(a:List V)(c:St):Option (V×St):=
 (Ge (Ub a.length b.params)).bind λu=>(vv W R b.body (a.map J++Ia (b.slots - b.params) Y) c).map GY
end
noncomputable def vl(W:Bh)(b:Nat->Option Fn)(j:Nat)(q:Nat)(d:List V)(f:St):Option (V×St):=match j,q,d,f with|0,u,y,z=>Y|n+1,a,c,e=>(b a).bind λg=>zP W (vl W b n) g c e
end
noncomputable def i8:List (Nat×List (String×Nat)):=[(256,[("new_var",127),("size",134),("dom",141),("low",155),("high",162),("has",169),("value",183),("width",190),("holds",197),("enter",204),("strike",211),("decide",218),("fail",225),("push",232)]),(357,[("members_at",328),("place",335),("fill",342),("move_along",349),("reached",354)]),(435,[("want",384),("options_of",389),("propagate",396),("strike_once",401),("confined",408),("lacking",413),("strike_option",418),("check",425),("told",432)])]
noncomputable def T5:List (Nat×List String):=[(256,["domains","firsts","trail","marks","news","speaker","is_failed","clash"]),(357,["able","lows","highs","at","counts"]),(435,["number","scope","strength","taken","rows","wanted","lows","highs","has_twins"])]
noncomputable def vB:List (Nat×Nat):=[(256,120),(357,323),(435,377)]
noncomputable def H1:List (Nat×Nat):=[(435,274)]
def Vv:List (Nat×List (Bb×Nat)):=i8.map λp=>(p.1,p.2.map λq=>(Gg q.1,q.2))
def jq:List (Nat×List Bb):=T5.map λp=>(p.1,p.2.map Gg)
def wx(scr:Nat->Option (List Int)):Bh where
 meth:=λc n=>match Vv.lookup c with|some ms=>ms.lookup n|none=>Y
 init:=λc=>vB.lookup c
 attr:=λc n=>match jq.lookup c with|some ns=>ns.contains n|none=>ua
 sup:=λc=>H1.lookup c
 scr:=scr
def db:Bh:=wx λu=>Y
set_option maxHeartbeats 200000
set_option genCtorIdx true in
inductive W where
 |none|bool (b:Bool)|int (i:Int)|str (s:Bb)|k (v:wa)|rng (a b:Int)|iset (xs:List Int)|t (xs:List W)|l (xs:List W)|dic (ks:List Int) (vs:List W)|ref (i:Nat)|fld (i:Nat) (n:Bb)|o (w:W)
structure OF where
 cls:Option Nat
 fs:List (Bb×W)
noncomputable abbrev ub:=List OF
noncomputable abbrev fc:=List (Option W)
inductive SF where
 |q (t:T) (e:X)|aug (o:X) (n:Bb) (i:X) (op:He) (e:X)|expr (e:X)|app (o:X) (m:Bb) (e:X)|ins (o k e:X)|ifs (t:B) (a b:List SF)|whil (t:B) (b:List SF)|fors (t:CT) (e:X) (b:List SF)|forz (t:CT) (es:List X) (b:List SF)|ret (e:X)|frz (i:Nat)|blk (i:Nat)
inductive fW where
 |next|ret (w:W)
set_option genCtorIdx true in
inductive Md where
 |all|pure|sub
structure Qg where
 params:Nat
 slots:Nat
 mode:Md
 body:List SF
abbrev jo:=Option (W×ub)
abbrev lR:=Option (List W×ub)
abbrev G3:=Option (Bool×ub)
abbrev a4:=Option (fc×ub)
abbrev al:=Option (fW×fc×ub)
abbrev Yp:=Nat->List W->ub->jo
noncomputable def de(z:List (Bb×W))(y:Bb):Option W:=match z,y with|[],u=>Y|(k,v)::r,x=>if k=x then J v else de r x
noncomputable def jj(z:List (Bb×W))(y:Bb)(u:W):List (Bb×W):=match z,y,u with|[],x,w=>[(x,w)]|(k,v)::r,x,w=>if k=x then(k,w)::r else(k,v)::jj r x w
noncomputable def Ey(j:List Int)(q:List W)(d:Int):Option W:=match j,q,d with|k::a,v::b,x=>if k=x then J v else Ey a b x|u,y,z=>Y
noncomputable def RJ(z:List Int)(y:Int):List Int:=match z,y with|[],x=>[x]|k::a,x=>if k=x then k::a else k::RJ a x
noncomputable def PJ(j:List Int)(q:List W)(d:Int)(f:W):List W:=match j,q,d,f with|k::b,v::a,x,w=>if k=x then w::a else v::PJ b a x w|u,y,z,w=>[w]
noncomputable def Ua(z:W):Option Int:=match z with|.int k=>J k|_=>Y
noncomputable def br(z:W):Option Bb:=match z with|.str k=>J k|_=>Y
noncomputable def Li(z:W):Option Bool:=match z with|.bool b=>J b|_=>Y
noncomputable def lg(z:W):Option (List W):=match z with|.t a=>J a|_=>Y
noncomputable def Bk(z:W):Option Nat:=match z with|.ref i=>J i|_=>Y
noncomputable def Hl(z:W):Option (List W):=match z with|.l a=>J a|_=>Y
noncomputable def tK(z:W):Option W:=match z with|.o c=>J c|_=>Y
noncomputable def yT(z:W):Bool:=match z with|.o u=>Z|_=>ua
noncomputable def qaB(z:W):Bool:=match z with|.k u=>Z|_=>ua
noncomputable def nb(z:W):Bool:=match z with|.fld u y=>ua|.o u=>ua|_=>Z
noncomputable def EA(z:List W):Bool:=match z with|[]=>Z|w::a=>nb w&&EA a
def kf(w:W):Option W:=(Ge (nb w)).map λu=>w
def Ur(a:List W):Option (List W):=(Ge (EA a)).map λu=>a
def ii(a:ub)(i:Nat)(n:Bb):Option W:=(a[i]?).bind λo=>de o.fs n
def pj(w:W)(a:ub):Option W:=match w with|.o c=>J c|.fld i n=>(ii a i n).bind tK|w=>J w
def Pe(w:W)(a:ub):Option (List W):=(pj w a).bind Hl
def sE(a:List W)(k:Int):Option W:=(Ol a.length k).bind λi=>a[i]?
noncomputable def lO(o:OF):Option (List (Bb×W)):=match o.cls with|none=>J o.fs|some u=>Y
def cF(a:ub)(i:Nat)(n:Bb):Option W:=((a[i]?).bind lO).bind λb=>(de b n).bind kf
def qdb(a:W)(c:ub)(z:W):Option W:=match z with|.t b=>(Ua a).bind (sE b)|.l b=>(Ua a).bind (sE b)|.dic b d=>(Ua a).bind (Ey b d)|.ref i=>(br a).bind (cF c i)|_=>Y
def oV(o b:W)(a:ub):Option W:=(pj o a).bind (qdb b a)
noncomputable def X0(a:List W)(v:W)(i:Nat):Option (List W):=if i<a.length then J (a.set i v)else Y
def lP(k:Int)(v:W)(z:W):Option W:=match z with|.l a=>(Ol a.length k).bind λi=>(X0 a v i).map .l|.dic a b=>(Ge (Td a.length)).map λu=>.dic (RJ a k) (PJ a b k v)|_=>Y
def Fm(a:ub)(i:Nat)(n:Bb)(w:W):ub:=match a[i]? with|some o=>a.set i ⟨o.cls,jj o.fs n w⟩|none=>a
def qbG(i:Nat)(n:Bb)(w:W):Option W:=ln (yT w) (J (.fld i n)) (ln (qaB w) Y (J w))
def Mx(V:Bh)(n:Bb)(a:ub)(i:Nat):Option W:=(a[i]?).bind λo=>o.cls.bind λc=>(Ge (V.attr c n)).bind λu=>(de o.fs n).bind (qbG i n)
def TJ(a:List (Bb×W))(n:Bb)(w:W):Option (List (Bb×W)):=ln (match de a n with|some w=>yT w|none=>ua) Y (J (jj a n w))
def Do(V:Bh)(n:Bb)(w:W)(a:ub)(i:Nat):Option ub:=(a[i]?).bind λo=>o.cls.bind λc=>(Ge (V.attr c n&&ac o.fs.length 900)).bind λu=>(TJ o.fs n w).map λb=>a.set i ⟨J c,b⟩
noncomputable def Dl(z:List W):Option (List Int):=match z with|[]=>J []|w::r=>(Ua w).bind λi=>(Dl r).map λx=>i::x
noncomputable def Oe(f:W->Option Vf)(z:List W):Option (List Vf):=match z with|[]=>J []|x::a=>(f x).bind λd=>(Oe f a).map λx=>d::x
def aE(z:W):Option Vf:=match z with|.none=>J .none|.bool b=>J (.bool b)|.int i=>J (.int i)|.str s=>if Ip s then J (.str s)else Y|_=>Y
noncomputable def Zd(z:Nat)(y:W):Option Vf:=match z,y with|0,w=>aE w|n+1,w=>match w with|.t a=>(Oe (Zd n) a).map .tuple|.l a=>(Oe (Zd n) a).map .list|.o w=>(Hl w).bind λa=>(Oe (Zd n) a).map .list|w=>aE w
noncomputable def Hz(z:W):Option Bool:=match z with|.none=>J Z|.t u=>J ua|.l u=>J ua|.ref u=>J ua|.bool u=>J ua|.int u=>J ua|_=>Y
def qaC(a b:W):Option Bool:=match b with|.none=>Hz a|_=>Y
def Oh(a b:W):Option Bool:=match b with|.none=>(Hz a).map (λx=> !x)|.bool y=>(Li a).map (λx=>x !=y)|_=>Y
def qcq(e:Vf)(a:List W):Option Bool:=(Oe (Zd 5) a).map λb=>b.any λd=>Yc d e
def OW(a:W)(z:W):Option Bool:=match z with
 |.dic b u=>(Ua a).map λk=>decide (k∈b)|.l b=>match a with|.int k=>qcq (.int k) b|.t c=>(Zd 5 (.t c)).bind λe=>qcq e b|_=>Y
 |_=>Y
def qcr(a b:W)(c:ub):Option Bool:=(pj b c).bind (OW a)
def vE{c:Type}(f:Int->Int->c)(a b:W):Option c:=(Ua a).bind λx=>(Ua b).map (f x)
def w4(a b:W):Option Bool:=(Zd 6 a).bind λd=>(Zd 6 b).map λe=>Yc d e
def bM(d:yr)(a b:W)(c:ub):Option Bool:=match d with|.Lt=>vE (λx y=>decide (x<y)) a b|.LtE=>vE (λx y=>decide (x<=y)) a b|.Gt=>vE (λx y=>decide (y<x)) a b|.GtE=>vE (λx y=>decide (y<=x)) a b|.Eq=>w4 a b|.NotEq=>(w4 a b).map (λx=> !x)|.Is=>qaC a b|.IsNot=>Oh a b|.In=>qcr a b c|.NotIn=>(Ua a).bind λk=>(qcr (.int k) b c).map λx=> !x
def So(a:List W)(b:ub):jo:=(Ge (Td a.length)).map λu=>(.l a,b)
def fH(a:List W)(b:ub):jo:=(Ge (Td a.length)).map λu=>(.t a,b)
def aY(a b:W)(c:ub):jo:=match a with|.int x=>(Ua b).map λy=>(.int (x+y),c)|.t d=>(lg b).bind λe=>fH (d++e) c|a=>(Pe a c).bind λd=>(Pe b c).bind λe=>So (d++e) c
def T4(f:Int->Int->Option Int)(a b:W)(c:ub):jo:=(Ua a).bind λx=>(Ua b).bind λy=>(f x y).map λz=>(.int z,c)
def nY(d:He)(a b:W)(c:ub):jo:=match d with|.Add=>aY a b c|.Sub=>T4 (λx y=>J (x - y)) a b c|.FloorDiv=>T4 US a b c|.Mod=>T4 Nz a b c|.Pow=>T4 rU a b c|_=>Y
noncomputable def uP(a b:Int):List W:=(Ka (b - a).toNat).map λ(i:Nat)=>W.int (a+(i:Int))
def FH(a b:Int):Option (List W):=(Ge (Wo a b)).map λu=>uP a b
def fu(w:W)(c:ub):Option (List W):=match w with|.t a=>J a|.rng a b=>FH a b|w=>Pe w c
def qeo(w:W)(a:ub):Option (List W):=match w with|.t b=>J b|w=>Pe w a
def Bl(a:List W):Option (List W):=(Ge (ac a.length 4900)).map λu=>a
def zN(z:W):Option (List W):=match z with|.t c=>J c|.rng a b=>FH a b|.l c=>J c|_=>Y
def By(w:W):Option (List W):=(zN w).bind Bl
def oZ(w:W)(b:ub):Option Int:=match w with|.t a=>J a.length|.iset a=>J (Hg a).length|w=>(Pe w b).map λa=>(a.length:Int)
def m9(b:Int):Option W:=(Ge (Wo 0 b)).map λu=>.rng 0 b
def n9(a b:Int):Option W:=(Ge (Wo a b)).map λu=>.rng a b
def R0(z:List W):Option W:=match z with|[b]=>(Ua b).bind m9|[a,b]=>(Ua a).bind λa=>(Ua b).bind (n9 a)|_=>Y
def pX(is:List Int):Option W:=(Ge (is.all λi=>decide (0<=i)&&decide (i<=2))).map λu=>.iset is
def dQ(is:List Int):Option (List W):=(Ge (ac is.length 60)).map λu=>(Yq is).map W.int
def XC(z:W):Option (List W):=match z with|.l a=>(Dl a).bind dQ|.dic b u=>dQ b|.iset a=>J ((Hg a).map W.int)|_=>Y
noncomputable def Bx(a:ub)(w:Option W):jo:=w.map λw=>(w,a)
def qaE(f:Int->Int->Int)(p:W×W):Option W:=(vE f p.1 p.2).map .int
def i4(b:Bi)(a:List W)(c:ub):jo:=match b with|.len=>Bx c (((one a).bind λx=>oZ x c).map .int)|.max=>Bx c ((two a).bind (qaE max))|.min=>Bx c ((two a).bind (qaE min))|.sum=>Bx c ((((one a).bind λx=>Pe x c).bind Dl).map λis=>.int is.sum)|.sorted=>(((one a).bind λx=>pj x c).bind XC).bind λd=>So d c|.range=>Bx c (R0 a)|.tuple=>((one a).bind λx=>fu x c).bind λd=>fH d c|.list=>((one a).bind lg).bind λd=>So d c|.set=>Bx c ((((one a).bind λx=>qeo x c).bind Dl).bind pX)
def qeZ(m:Lm)(a:List W)(b:List W):Option W:=match m with|.index=>((one a).bind Ua).bind λk=>(Dl b).bind λis=>(T7 is k).map .int|.count=>((one a).bind Ua).bind λk=>(Dl b).map λis=>.int (is.count k)|_=>Y
def qaF(o:W)(n:Bb)(a:List W)(b:ub):jo:=(au n).bind λm=>(Pe o b).bind λc=>Bx b (qeZ m a c)
section
variable (V:Bh) (Q:Nat->Option (List Int)) (R:Yp)
def Z6(k:Int)(b:ub)(z:W):jo:=match z with|.k (.ref a)=>(Q a).bind λc=>(Ge (decide (0<=k/\k<1000))).bind λu=>So ((c.map W.int).take k.toNat) b|_=>Y
noncomputable def aH(i:Nat)(p:W×ub):jo:=match p.1 with|.none=>J (.ref i,p.2)|_=>Y
def gG(c:List W)(d:ub)(z:W):jo:=match z with
 |.k (.ref a)=>(Ur c).bind λc=>match V.init a with|some g=>(R g (.ref d.length::c) (d++[⟨J a,[]⟩])).bind (aH d.length)|none=>R a c d
 |.k v=>(QD v).bind λb=>i4 b c d|_=>Y
noncomputable def UW(c:Nat)(n:Bb)(z:Option W):Option Nat:=match z with|none=>V.meth c n|some u=>Y
noncomputable def Ux(a:ub)(i:Nat):Option (Nat×List (Bb×W)):=(a[i]?).bind λo=>o.cls.map λc=>(c,o.fs)
inductive GD where
 |fn (f i:Nat)|lm (o:W)
def yU(n:Bb)(w:W)(a:ub):Option GD:=match w with|.ref i=>(Ux a i).bind λp=>(UW V p.1 n (de p.2 n)).map λf=>.fn f i|o=>(Pe o a).map λu=>.lm o
def qbx(c:GD)(n:Bb)(a:List W)(b:ub):jo:=match c with|.fn f i=>R f (.ref i::a) b|.lm o=>qaF o n a b
noncomputable def I1(f:Nat)(a:ub)(j:Nat):Option Nat:=(Ux a j).bind λp=>if V.sup p.1=J f then J j else Y
def qM(d e:List W)(c:ub):jo:=(two d).bind λk=>(two e).bind λv=>(br k.1).bind λa=>(br k.2).bind λb=>if a=b then Y else J (.ref c.length,c++[⟨Y,[(a,v.1),(b,v.2)]⟩])
noncomputable def Em(j:List Nat)(q:List W)(d:fc):Option fc:=match j,q,d with|[],[],a=>J a|i::is,v::b,a=>if i<a.length then Em is b (a.set i (J v))else Y|u,y,z=>Y
def Ox(z:CT)(y:W)(u:fc):Option fc:=match z,y,u with|.x i,v,a=>if i<a.length then J (a.set i (J v))else Y|.t is,v,a=>(lg v).bind λb=>Em is b a
noncomputable def xq(a:fc)(i:Nat):Bool:=match a[i]? with|some Y=>Z|_=>ua
noncomputable def Ul(j:List Nat)(q:List W)(d:fc):Option fc:=match j,q,d with|[],[],a=>J a|i::is,v::b,a=>if xq a i then Ul is b (a.set i (J v))else Y|u,y,z=>Y
def Yu(z:CT)(y:W)(u:fc):Option fc:=match z,y,u with|.x i,v,a=>if xq a i then J (a.set i (J v))else Y|.t is,v,a=>(lg v).bind λb=>Ul is b a
noncomputable def Zr(f:W->ub->lR)(z:List W)(y:ub):lR:=match z,y with|[],a=>J ([],a)|x::b,a=>(f x a).bind λp=>(Zr f b p.2).map λq=>(p.1++q.1,q.2)
noncomputable def Jw(k:fc->ub->al)(p:fW×fc×ub):al:=match p.1 with|.next=>k p.2.1 p.2.2|.ret u=>J p
noncomputable def Pv(f:W->fc->ub->al)(z:List W)(y:fc)(u:ub):al:=match z,y,u with|[],a,b=>J (.next,a,b)|x::c,a,b=>(f x a b).bind (Jw (Pv f c))
noncomputable def Qv(t:fc->ub->G3)(f:fc->ub->al)(z:Nat)(j:fc)(q:ub):al:=match z,j,q with|0,u,y=>Y|n+1,a,b=>(t a b).bind λp=>match p.1 with|false=>J (.next,a,p.2)|true=>(f a p.2).bind (Jw (Qv t f n))
noncomputable def Ke(a:fc)(i:Nat):Option W:=(a[i]?).bind id
mutual
noncomputable def fX(z:X)(d:fc)(g:ub):jo:=match z,d,g with
 |.x i,h,e=>(Ke h i).map λw=>(w,e)|.k v,y,e=>J (.k v,e)|.none,y,e=>J (.none,e)|.bool b,y,e=>J (.bool b,e)|.int i,y,e=>J (.int i,e)|.str s,y,e=>J (.str s,e)|.attr o n,h,e=>(fX o h e).bind λp=>((Bk p.1).bind (Mx V n p.2)).map λv=>(v,p.2)|.sub o i,h,e=>(fX o h e).bind λp=>(fX i h p.2).bind λq=>(oV p.1 q.1 q.2).map λv=>(v,q.2)|.cut o k,h,e=>(fX o h e).bind λp=>Z6 Q k p.2 p.1|.bin c a b,h,e=>(fX a h e).bind λp=>(fX b h p.2).bind λq=>nY c p.1 q.1 q.2|.neg a,h,e=>(fX a h e).bind λp=>(Ua p.1).map λi=>(.int (-i),p.2)|.cmp c a b,h,e=>(fX a h e).bind λp=>(fX b h p.2).bind λq=>(bM c p.1 q.1 q.2).map λr=>(.bool r,q.2)|.cmp2 f j a b c,h,e=>(fX a h e).bind λp=>(fX b h p.2).bind λq=>(bM f p.1 q.1 q.2).bind λr=>
  ln r ((fX c h q.2).bind λu=>(bM j q.1 u.1 u.2).map λr=>(.bool r,u.2)) (J (.bool ua,q.2))
 |.ite t a b,h,e=>(fT t h e).bind λp=>ln p.1 (fX a h p.2) (fX b h p.2)|.t a,h,e=>(zG a h e).bind λp=>fH p.1 p.2|.list a,h,e=>(zG a h e).bind λp=>So p.1 p.2|.dict b f,h,e=>(zG b h e).bind λp=>(zG f h p.2).bind λq=>qM p.1 q.1 q.2|.comp k b j l rest m,h,e=>(fX b h e).bind λp=>(By p.1).bind λa=>
  (Zr (λv e=>(Yu j v (h++Ia k Y)).bind λf=>(EM l f e).bind λq=>ln q.1 (xG rest (λh e=>(fX m h e).bind λr=>(kf r.1).map λw=>(w,r.2)) f q.2) (J ([],q.2))) a p.2).bind λq=>So q.1 q.2
 |.call f a,h,e=>(fX f h e).bind λp=>(C7 a h p.2).bind λq=>gG V R q.1 q.2 p.1|.meth o n a,h,e=>(fX o h e).bind λp=>(yU V n p.1 p.2).bind λc=>(zG a h p.2).bind λq=>qbx R c n q.1 q.2|.sup i f a,h,e=>(((Ke h i).bind Bk).bind (I1 V f e)).bind λj=>(zG a h e).bind λp=>R f (.ref j::p.1) p.2
noncomputable def zG(z:List X)(y:fc)(j:ub):lR:=match z,y,j with|[],u,a=>J ([],a)|x::c,b,a=>(fX x b a).bind λp=>(kf p.1).bind λw=>(zG c b p.2).map λq=>(w::q.1,q.2)
noncomputable def C7(z:List X)(y:fc)(j:ub):lR:=match z,y,j with|[],u,a=>J ([],a)|x::c,b,a=>(fX x b a).bind λp=>(C7 c b p.2).map λq=>(p.1::q.1,q.2)
noncomputable def fT(z:B)(y:fc)(u:ub):G3:=match z,y,u with|.and a b,c,d=>(fT a c d).bind λp=>ln p.1 (fT b c p.2) (J (ua,p.2))|.or a b,c,d=>(fT a c d).bind λp=>ln p.1 (J (Z,p.2)) (fT b c p.2)|.not a,c,d=>(fT a c d).map λp=>(!p.1,p.2)|.wK x,c,d=>(fX x c d).bind λp=>(Li p.1).map λb=>(b,p.2)
noncomputable def EM(z:List B)(y:fc)(j:ub):G3:=match z,y,j with|[],u,a=>J (Z,a)|t::c,b,a=>(fT t b a).bind λp=>ln p.1 (EM c b p.2) (J (ua,p.2))
noncomputable def xG(z:List G)(y:(fc->ub->jo))(u:fc)(j:ub):lR:=match z,y,u,j with
 |[],a,e,b=>(a e b).map λp=>([p.1],p.2)|.mk c f g::h,a,e,b=>(fX c e b).bind λp=>(By p.1).bind λi=>
  Zr (λv b=>(Yu f v e).bind λd=>(EM g d b).bind λq=>ln q.1 (xG h a d q.2) (J ([],q.2))) i p.2
end
def FM(a b:X)(c:fc)(d:ub):jo:=(fX V Q R a c d).bind λp=>(kf p.1).bind λw=>(fX V Q R b c p.2).bind λq=>(Ua q.1).bind λk=>(Ge (decide (0<=k/\k<4096))).map λu=>(.o (.l (Ia k.toNat w)),q.2)
def A7(k v:X)(b:fc)(c:ub):jo:=(fX V Q R k b c).bind λp=>(Ua p.1).bind λa=>(fX V Q R v b p.2).bind λq=>(kf q.1).map λw=>(.o (.dic [a] [w]),q.2)
def IM(e:X)(a:fc)(b:ub):jo:=(fX V Q R e a b).bind λp=>(kf p.1).map λw=>(w,p.2)
noncomputable def Bt(b:He)(z:X):Option X:=match z with
 |.list [a]=>(match b with|.Mult=>J a|_=>Y)
 |_=>Y
def fV(z:X)(y:fc)(j:ub):jo:=match z,y,j with
 |.list a,f,d=>(zG V Q R a f d).bind λp=>(Ge (Td p.1.length)).map λu=>(.o (.l p.1),p.2)|.dict a b,f,d=>(match a,b with|[],[]=>J (.o (.dic [] []),d)|[k],[v]=>A7 V Q R k v f d|a,b=>IM V Q R (.dict a b) f d)
 |.bin e a b,f,d=>(match Bt e a with|some c=>FM V Q R c b f d|none=>IM V Q R (.bin e a b) f d)
 |e,f,d=>IM V Q R e f d
noncomputable def qay(z:List X)(y:fc)(j:ub):lR:=match z,y,j with|[],u,a=>J ([],a)|x::c,b,a=>(fV V Q R x b a).bind λp=>(qay c b p.2).map λq=>(p.1::q.1,q.2)
def Yz(j:Nat)(d v:W)(e:fc)(b:ub)(z:W):a4:=match z with|.o c=>(Ua d).bind λk=>(lP k v c).map λc=>(e.set j (J (.o c)),b)|.ref i=>(br d).bind λs=>((b[i]?).bind lO).bind λa=>(Ge (Td a.length)).bind λu=>(TJ a s v).map λa=>(e,b.set i ⟨Y,a⟩)|_=>Y
def gw(n:Bb)(b v:W)(a:ub)(i:Nat):Option ub:=((ii a i n).bind tK).bind λc=>(Ua b).bind λk=>(lP k v c).map λc=>Fm a i n (.o c)
def Bm(V:Bh)(n:Bb)(a:ub)(w:W):Option Nat:=(Bk w).bind λi=>(Mx V n a i).bind λu=>((ii a i n).bind tK).map λu=>i
def nT(o e:X)(v:W)(a:fc)(b:ub):a4:=match o with|.x j=>(fX V Q R e a b).bind λp=>(Ke a j).bind (Yz j p.1 v a p.2)|.attr o n=>(fX V Q R o a b).bind λp=>(Bm V n p.2 p.1).bind λi=>(fX V Q R e a p.2).bind λq=>(gw n q.1 v q.2 i).map λb=>(a,b)|_=>Y
mutual
noncomputable def fP(z:T)(y:W)(j:fc)(q:ub):a4:=match z,y,j,q with|.x i,v,a,b=>(Ge (ac i a.length)).map λu=>(a.set i (J v),b)|.t c,v,a,b=>(lg v).bind λd=>B7 c d a b|.attr o n,v,a,b=>(fX V Q R o a b).bind λp=>((Bk p.1).bind (Do V n v p.2)).map λb=>(a,b)|.sub o e,v,a,b=>(kf v).bind λv=>nT V Q R o e v a b
noncomputable def B7(q:List T)(d:List W)(f:fc)(g:ub):a4:=match q,d,f,g with|[],[],a,b=>J (a,b)|t::c,v::e,a,b=>(fP t v a b).bind λp=>B7 c e p.1 p.2|u,y,z,j=>Y
end
noncomputable def TY(p:fc×ub):fW×fc×ub:=(.next,p.1,p.2)
def wv(z:W):Option (List W):=match z with|.rng a b=>FH a b|.l a=>J a|_=>Y
def rZ(m:Lm)(v:W)(a:List W):Option (List W):=match m with|.append=>(Ge (Td a.length)).map λu=>a++[v]|.extend=>(wv v).bind λb=>(Ge (Td (a.length+b.length))).map λu=>a++b|_=>Y
def oN(k:Int)(v:W)(a:List W):Option (List W):=(Ge (decide (0<=k/\k<=a.length)&&Td a.length)).map λu=>a.take k.toNat++v::a.drop k.toNat
def ls(w:W):Option (List W):=(tK w).bind Hl
def gY(m:Bb)(o e:X)(a:fc)(d:ub):al:=match o with|.x j=>((Ke a j).bind ls).bind λb=>(fX V Q R e a d).bind λp=>(kf p.1).bind λv=>(au m).bind λm=>(rZ m v b).map λc=>(.next,a.set j (J (.o (.l c))),p.2)|.attr o n=>(fX V Q R o a d).bind λq=>(Bm V n q.2 q.1).bind λi=>((ii q.2 i n).bind ls).bind λu=>(fX V Q R e a q.2).bind λp=>(kf p.1).bind λv=>(au m).bind λm=>((ii p.2 i n).bind ls).bind λb=>(rZ m v b).map λc=>(.next,a,Fm p.2 i n (.o (.l c)))|_=>Y
def ZY(o k e:X)(a:fc)(b:ub):al:=match o with|.x j=>((Ke a j).bind ls).bind λc=>(fX V Q R k a b).bind λq=>(Ua q.1).bind λk=>(fX V Q R e a q.2).bind λp=>(kf p.1).bind λv=>(oN k v c).map λd=>(.next,a.set j (J (.o (.l d))),p.2)|_=>Y
noncomputable def BF(e:X):Option (List X):=match e with|.t a=>J a|_=>Y
def hY(t:T)(e:X)(a:fc)(b:ub):al:=match t with
 |.t c=>(match BF e with|some d=>(qay V Q R d a b).bind λp=>(Ge (Td p.1.length)).bind λu=>(B7 V Q R c p.1 a p.2).map TY|none=>(IM V Q R e a b).bind λp=>(fP V Q R (.t c) p.1 a p.2).map TY)
 |t=>(fV V Q R e a b).bind λp=>(fP V Q R t p.1 a p.2).map TY
def jY(n:Bb)(i e:X)(d:He)(a:fc)(b:ub)(j:Nat):al:=(fX V Q R i a b).bind λq=>(oV (.fld j n) q.1 q.2).bind λc=>(fX V Q R e a q.2).bind λr=>
 (Ua c).bind λx=>(Ua r.1).bind λy=>(BL d x y).bind λz=>(gw n q.1 (.int z) r.2 j).map λb=>(.next,a,b)
noncomputable def uG(z:W):Option Unit:=match z with|.none=>J ()|.bool u=>J ()|_=>Y
noncomputable def O0(z:W):Option W:=match z with|.o c=>J c|.fld u y=>Y|w=>J w
def qbC(e:X)(a:fc)(b:ub):jo:=match e with|.x i=>((Ke a i).bind O0).map λw=>(w,b)|e=>IM V Q R e a b
noncomputable def fm(z:List W):Option (List (List W)):=match z with|[]=>J []|w::a=>(lg w).bind λb=>(fm a).map λx=>b::x
def uA(z:List (List W)):Option (List W):=match z with|[b,a,c]=>(Ge (decide (b.length=a.length/\a.length=c.length))).map λu=>(b.zip (a.zip c)).map λp=>W.t [p.1,p.2.1,p.2.2]|_=>Y
variable (O:Nat->fc->ub->al)
mutual
noncomputable def fS(z:SF)(y:fc)(q:ub):al:=match z,y,q with|.q t e,d,f=>hY V Q R t e d f|.aug o n i a e,d,f=>(fX V Q R o d f).bind λp=>(Bm V n p.2 p.1).bind λj=>jY V Q R n i e a d p.2 j|.expr e,d,f=>(fX V Q R e d f).bind λp=>(uG p.1).map λu=>(.next,d,p.2)|.app o m e,d,f=>gY V Q R m o e d f|.ins o k e,d,f=>ZY V Q R o k e d f|.ifs t a b,d,f=>(fT V Q R t d f).bind λp=>ln p.1 (kJ a d p.2) (kJ b d p.2)|.whil t b,d,f=>Qv (fT V Q R t) (λd f=>kJ b d f) 5000 d f|.fors t e b,d,f=>(fX V Q R e d f).bind λp=>(By p.1).bind λc=>Pv (λv d f=>(Ox t v d).bind λa=>kJ b a f) c d p.2|.forz t g b,d,f=>(zG V Q R g d f).bind λp=>(((fm p.1).bind uA).bind Bl).bind λc=>Pv (λv d f=>(Ox t v d).bind λa=>kJ b a f) c d p.2|.ret e,d,f=>(qbC V Q R e d f).map λp=>(.ret p.1,d,p.2)|.frz i,d,f=>((Ke d i).bind tK).map λc=>(.next,d.set i (J c),f)|.blk i,d,f=>O i d f
noncomputable def kJ(z:List SF)(y:fc)(u:ub):al:=match z,y,u with|[],a,b=>J (.next,a,b)|s::c,a,b=>(fS s a b).bind (Jw (kJ c))
end
noncomputable def j7(p:fW×fc×ub):W×ub:=match p.1 with|.ret w=>(w,p.2.2)|.next=>(.none,p.2.2)
end
noncomputable def Mv(j:SF):Bool:=match j with|.whil u y=>Z|.fors u y z=>Z|.forz u y z=>Z|_=>ua
section
variable (V:Bh) (P:Nat->Option SF) (Q:Nat->Option (List Int)) (R:Yp)
noncomputable def Ee(q:Nat)(d:Nat)(f:fc)(g:ub):al:=match q,d,f,g with|0,y,z,j=>Y|n+1,i,a,b=>(P i).bind λs=>(Ge (Mv s)).bind λu=>fS V Q R (Ee n) s a b
def Vo(b:Qg)(a:List W)(c:ub):jo:=
 (Ge (Ub a.length b.params)).bind λu=>(kJ V Q R (Ee V P Q R 4) b.body (a.map J++Ia (b.slots - b.params) Y) c).map j7
end
mutual
noncomputable def Hd(z:W):Bool:=match z with|.t a=>Ob a|.l a=>Ob a|.dic u a=>Ob a|.ref u=>ua|_=>Z
noncomputable def Ob(z:List W):Bool:=match z with|[]=>Z|x::a=>Hd x&&Ob a
end
noncomputable def i9(a:ub)(p:W×ub):jo:=match p.2 with|[]=>J (p.1,a)|_=>Y
def aP(z:W):Bool:=match z with|.o c=>Hd c|w=>Hd w
noncomputable def Jf(z:List (Bb×W)):Bool:=match z with|[]=>Z|p::a=>aP p.2&&Jf a
noncomputable def oe(z:ub):Bool:=match z with|[]=>Z|o::os=>Jf o.fs&&oe os
def wl(m:Nat)(z:W):Option W:=match z with|.ref i=>if m<=i then J (.ref (i - m))else Y|w=>(Ge (Hd w)).map λu=>w
noncomputable def jB(m:Nat)(z:List W):Option (List W):=match z with|[]=>J []|w::a=>(wl m w).bind λv=>(jB m a).map λx=>v::x
def qft(m:Nat)(a:ub)(p:W×ub):jo:=(Ge (Hd p.1&&oe (p.2.take (a.length - m)))).map λu=>(p.1,a.take m++p.2.take (a.length - m))
noncomputable def uq(z:List W):Option Nat:=match z with|.ref i::u=>J i|_=>Y
def J9(run:List W->ub->jo)(a:List W)(b:ub):jo:=
 (uq a).bind λm=>(Ge (decide (m<=b.length))).bind λu=>(jB m a).bind λc=>(Ge (oe (b.drop m))).bind λu=>(run c (b.drop m)).bind (qft m b)
def zt(d:Md)(run b:List W->ub->jo)(a:List W)(c:ub):jo:=match d with|.all=>run a c|.pure=>(Ge (Ob a)).bind λu=>(b a []).bind (i9 c)|.sub=>J9 run a c
noncomputable def Nb(V:Bh)(P:Nat->Option SF)(b:Nat->Option Qg):Nat->(Nat->Option (List Int))->Yp
 |0,y,z,j,q=>Y|n+1,Q,a,c,e=>(b a).bind λd=>zt d.mode (Vo V P Q (Nb V P b n Q) d) (Vo V P (λu=>Y) (Nb V P b n λu=>Y) d) c e
mutual
noncomputable def bT(c:Nat->S)(z:SF):Option S:=match z with|.q t e=>J (.assign t e)|.aug o n i a e=>J (.aug (.attr o n) i a e)|.expr e=>J (.expr e)|.app o m e=>J (.expr (.meth o m [e]))|.ins o k e=>J (.expr (.meth o "insert" [k,e]))|.ifs t a b=>J (.ifs t (tv c a) (tv c b))|.whil t b=>J (.whil t (tv c b))|.fors t e b=>J (.fors t e (tv c b))|.forz t a b=>J (.forz t a (tv c b))|.ret e=>J (.ret e)|.frz u=>Y|.blk i=>J (c i)
noncomputable def tv(a:Nat->S)(z:List SF):List S:=match z with|[]=>[]|s::b=>match bT a s with|some c=>c::tv a b|none=>tv a b
end
noncomputable def A4(P:Nat->Option SF)(z:Nat)(y:Nat):S:=match z,y with|0,u=>.expr .none|n+1,i=>((P i).bind (bT (A4 P n))).getD (.expr .none)
def B4(P:Nat->Option SF)(a:Qg):Fn:=⟨a.params,a.slots,tv (A4 P 4) a.body⟩
noncomputable def V5:SF:=.fors (.x 5) (.sub (.attr (.x 0) "able") (.x 1)) [.q (.sub (.x 2) (.x 5)) (.t [(.x 1),(.neg (.int 1))]),.app (.x 3) "append" (.x 5)]
noncomputable def W5:SF:=.whil (.wK (.cmp .Lt (.x 4) (.call (.k (.builtin "len")) [(.x 3)]))) [.q (.t [(.x 6),(.x 4)]) (.t [(.sub (.x 3) (.x 4)),(.bin .Add (.x 4) (.int 1))]),.ifs (.wK (.cmp .Lt (.sub (.attr (.x 0) "counts") (.x 6)) (.sub (.attr (.x 0) "highs") (.x 6)))) [.aug (.x 0) "counts" (.x 6) .Add (.int 1),.blk 3353,.ret .none] [],.blk 3354]
noncomputable def X5:SF:=.whil (.wK (.cmp .GtE (.x 6) (.int 0))) [.q (.t [(.x 7),(.x 8)]) (.sub (.x 2) (.x 6)),.q (.sub (.attr (.x 0) "at") (.x 7)) (.x 6),.q (.x 6) (.x 8)]
noncomputable def Y5:SF:=.fors (.x 7) (.meth (.x 0) "members_at" [(.x 6)]) [.blk 3355]
noncomputable def Z5:SF:=.fors (.x 5) (.sub (.attr (.x 0) "able") (.x 7)) [.ifs (.wK (.cmp .NotIn (.x 5) (.x 2))) [.q (.sub (.x 2) (.x 5)) (.t [(.x 7),(.x 6)]),.app (.x 3) "append" (.x 5)] []]
noncomputable def a6:SF:=.whil (.wK (.cmp .Lt (.x 4) (.call (.k (.builtin "len")) [(.x 3)]))) [.q (.t [(.x 5),(.x 4)]) (.t [(.sub (.x 3) (.x 4)),(.bin .Add (.x 4) (.int 1))]),.blk 3422]
noncomputable def b6:SF:=.fors (.x 6) (.call (.k (.type "range")) [(.call (.k (.builtin "len")) [(.attr (.x 0) "at")])]) [.q (.x 7) (.sub (.attr (.x 0) "at") (.x 6)),.ifs (.and (.wK (.cmp .In (.x 5) (.sub (.attr (.x 0) "able") (.x 6)))) (.wK (.cmp .NotIn (.x 7) (.x 2)))) [.q (.sub (.x 2) (.x 7)) (.t [(.x 6),(.x 5)]),.app (.x 3) "append" (.x 7),.ifs (.wK (.cmp .Gt (.sub (.attr (.x 0) "counts") (.x 7)) (.sub (.attr (.x 0) "lows") (.x 7)))) [.frz 2,.expr (.meth (.x 0) "move_along" [(.x 7),(.x 1),(.x 2)]),.ret .none] []] []]
noncomputable def c6:SF:=.whil (.wK (.cmp .NotEq (.x 1) (.x 2))) [.q (.t [(.x 4),(.x 1)]) (.sub (.x 3) (.x 1)),.q (.sub (.attr (.x 0) "at") (.x 4)) (.x 1)]
noncomputable def d6:SF:=.whil (.wK (.cmp .Lt (.x 4) (.call (.k (.builtin "len")) [(.x 3)]))) [.q (.t [(.x 6),(.x 4),(.x 7)]) (.t [(.sub (.x 3) (.x 4)),(.bin .Add (.x 4) (.int 1)),(.list [])]),.ifs (.and (.not (.wK (.x 5))) (.wK (.cmp .Lt (.sub (.attr (.x 0) "counts") (.x 6)) (.sub (.attr (.x 0) "highs") (.x 6))))) [.q (.x 5) (.bool Z),.app (.x 7) "extend" (.comp 2 (.call (.k (.type "range")) [(.call (.k (.builtin "len")) [(.attr (.x 0) "lows")])]) (.x 11) [(.wK (.cmp .Gt (.sub (.attr (.x 0) "counts") (.x 11)) (.sub (.attr (.x 0) "lows") (.x 11))))] [] (.x 11))] [],.blk 3542,.frz 7,.blk 3543]
noncomputable def f6:SF:=.fors (.x 9) (.meth (.x 0) "members_at" [(.x 6)]) [.app (.x 7) "extend" (.sub (.attr (.x 0) "able") (.x 9))]
noncomputable def i6:SF:=.fors (.x 8) (.x 7) [.ifs (.wK (.cmp .NotIn (.x 8) (.x 2))) [.q (.sub (.x 2) (.x 8)) (.bool Z),.app (.x 3) "append" (.x 8)] []]
noncomputable def j6:SF:=.forz (.t [5,6,7]) [(.x 2),(.x 3),(.x 4)] [.expr (.meth (.x 0) "want" [(.x 5),(.call (.k (.builtin "max")) [(.x 6),(.int 0)]),(.x 7)])]
noncomputable def l6:SF:=.fors (.x 5) (.call (.k (.type "range")) [(.call (.k (.builtin "len")) [(.attr (.x 0) "taken")])]) [.q (.x 6) (.meth (.x 4) "place" [(.x 5)]),.ifs (.wK (.cmp .IsNot (.x 6) .none)) [.q (.x 2) (.sub (.attr (.x 0) "taken") (.x 5)),.ret (.meth (.x 1) "fail" [(.bin .Add (.meth (.x 0) "confined" [(.x 1),(.x 4),(.x 6)]) (.call (.k (.ref 309)) [(.x 2),(.meth (.x 1) "dom" [(.x 2)])]))])] []]
noncomputable def n6:SF:=.fors (.x 7) (.call (.k (.type "range")) [(.call (.k (.builtin "len")) [(.attr (.x 0) "wanted")])]) [.blk 4013]
noncomputable def rW:SF:=.whil (.wK (.cmp .Lt (.sub (.attr (.x 4) "counts") (.x 7)) (.sub (.attr (.x 0) "lows") (.x 7)))) [.q (.x 8) (.meth (.x 4) "fill" [(.x 7)]),.ifs (.wK (.cmp .IsNot (.x 8) .none)) [.ret (.meth (.x 1) "fail" [(.meth (.x 0) "lacking" [(.x 4),(.x 8)])])] []]
noncomputable def sW:SF:=.fors (.x 7) (.call (.k (.type "range")) [(.bin .Add (.call (.k (.builtin "len")) [(.attr (.x 0) "wanted")]) (.int 1))]) [.ifs (.not (.wK (.meth (.x 0) "strike_option" [(.x 1),(.x 4),(.x 7)]))) [.ret (.bool ua)] []]
noncomputable def o6:SF:=.fors (.x 5) (.x 3) [.blk 4082]
noncomputable def u6:SF:=.fors (.x 6) (.meth (.x 2) "members_at" [(.x 5)]) [.app (.x 4) "extend" (.call (.k (.ref 309)) [(.sub (.attr (.x 0) "taken") (.x 6)),(.meth (.x 1) "dom" [(.sub (.attr (.x 0) "taken") (.x 6))])])]
noncomputable def v6:SF:=.fors (.x 4) (.call (.k (.type "range")) [(.call (.k (.builtin "len")) [(.attr (.x 0) "taken")])]) [.ifs (.wK (.cmp .NotIn (.sub (.attr (.x 1) "at") (.x 4)) (.x 2))) [.app (.x 3) "extend" (.comp 2 (.x 2) (.x 6) [] [] (.t [(.sub (.attr (.x 0) "taken") (.x 4)),(.str "!="),(.sub (.attr (.x 0) "wanted") (.x 6))]))] []]
noncomputable def w6:SF:=.fors (.x 9) (.x 6) [.q (.x 10) (.sub (.attr (.x 0) "taken") (.x 9)),.q (.x 12) (.comp 2 (.call (.k (.ref 61)) [(.meth (.x 1) "dom" [(.x 10)])]) (.x 14) [(.wK (.cmp .NotIn (.x 14) (.attr (.x 0) "wanted")))] [] (.x 14)),.blk 4182]
noncomputable def A6:SF:=.fors (.x 11) (.ite (.wK (.cmp .Lt (.x 3) (.call (.k (.builtin "len")) [(.attr (.x 0) "wanted")]))) (.list [(.sub (.attr (.x 0) "wanted") (.x 3))]) (.x 12)) [.ifs (.not (.wK (.meth (.x 1) "strike" [(.t [(.x 10),(.str "!="),(.x 11)]),(.x 8)]))) [.ret (.bool ua)] []]
noncomputable def B6:SF:=.forz (.t [2,3,4]) [(.sub (.attr (.x 0) "rows") (.int 0)),(.sub (.attr (.x 0) "rows") (.int 1)),(.sub (.attr (.x 0) "rows") (.int 2))] [.ifs (.not (.wK (.cmp2 .LtE .LtE (.x 3) (.meth (.call (.k (.type "list")) [(.x 1)]) "count" [(.x 2)]) (.x 4)))) [.ret (.bool ua)] []]
noncomputable def C6:SF:=.fors (.x 2) (.x 0) [.q (.x 1) (.comp 3 (.x 1) (.x 4) [] [.mk (.x 2) (.x 5) []] (.bin .Add (.x 4) (.t [(.x 5)])))]
def qeM:List (Nat×SF):=[(3351,V5),(3352,W5),(3353,X5),(3354,Y5),(3355,Z5),(3421,a6),(3422,b6),(3491,c6),(3541,d6),(3542,f6),(3543,i6),(3771,j6),(4011,l6),(4012,n6),(4013,rW),(4014,sW),(4081,o6),(4082,u6),(4131,v6),(4181,w6),(4182,A6),(4251,B6),(4561,C6)]
def Ib(i:Nat):Option SF:=qeM.lookup i
noncomputable def qdU:Qg:=⟨1,1,.pure,[.ret (.sub (.sub (.x 0) (.int 0)) (.int 0))]⟩
noncomputable def qdV:Qg:=⟨1,1,.pure,[.ret (.sub (.sub (.x 0) (.neg (.int 1))) (.int 1))]⟩
noncomputable def qdW:Qg:=⟨1,1,.pure,[.ret (.call (.k (.builtin "sum")) [(.comp 3 (.x 0) (.t [2,3]) [] [] (.bin .Add (.bin .Sub (.x 3) (.x 2)) (.int 1)))])]⟩
noncomputable def qdX:Qg:=⟨2,4,.pure,[.fors (.t [2,3]) (.x 0) [.ifs (.wK (.cmp .LtE (.x 1) (.x 3))) [.ret (.call (.k (.builtin "max")) [(.x 2),(.x 1)])] []],.ret .none]⟩
noncomputable def qdY:Qg:=⟨2,2,.pure,[.ret (.cmp .Eq (.call (.k (.ref 47)) [(.x 0),(.x 1)]) (.x 1))]⟩
noncomputable def qdZ:Qg:=⟨1,4,.pure,[.q (.x 1) (.list []),.fors (.t [2,3]) (.x 0) [.app (.x 1) "extend" (.call (.k (.type "range")) [(.x 2),(.bin .Add (.x 3) (.int 1))])],.ret (.x 1)]⟩
noncomputable def qea:Qg:=⟨2,2,.pure,[.ret (.call (.k (.type "tuple")) [(.comp 3 (.x 0) (.t [3,4]) [(.wK (.cmp .LtE (.x 3) (.x 1)))] [] (.t [(.x 3),(.call (.k (.builtin "min")) [(.x 4),(.x 1)])]))])]⟩
noncomputable def qeb:Qg:=⟨2,2,.pure,[.ret (.call (.k (.type "tuple")) [(.comp 3 (.x 0) (.t [3,4]) [(.wK (.cmp .GtE (.x 4) (.x 1)))] [] (.t [(.call (.k (.builtin "max")) [(.x 3),(.x 1)]),(.x 4)]))])]⟩
noncomputable def qec:Qg:=⟨2,2,.pure,[.ret (.bin .Add (.call (.k (.ref 66)) [(.x 0),(.bin .Sub (.x 1) (.int 1))]) (.call (.k (.ref 71)) [(.x 0),(.bin .Add (.x 1) (.int 1))]))]⟩
noncomputable def qed:Qg:=⟨2,7,.pure,[.q (.t [(.x 2),(.x 3),(.x 4)]) (.t [(.list []),(.int 0),(.int 0)]),.whil (.and (.wK (.cmp .Lt (.x 3) (.call (.k (.builtin "len")) [(.x 0)]))) (.wK (.cmp .Lt (.x 4) (.call (.k (.builtin "len")) [(.x 1)])))) [.q (.t [(.x 5),(.x 6)]) (.t [(.call (.k (.builtin "max")) [(.sub (.sub (.x 0) (.x 3)) (.int 0)),(.sub (.sub (.x 1) (.x 4)) (.int 0))]),(.call (.k (.builtin "min")) [(.sub (.sub (.x 0) (.x 3)) (.int 1)),(.sub (.sub (.x 1) (.x 4)) (.int 1))])]),.ifs (.wK (.cmp .LtE (.x 5) (.x 6))) [.app (.x 2) "append" (.t [(.x 5),(.x 6)])] [],.ifs (.wK (.cmp .Lt (.sub (.sub (.x 0) (.x 3)) (.int 1)) (.sub (.sub (.x 1) (.x 4)) (.int 1)))) [.q (.x 3) (.bin .Add (.x 3) (.int 1))] [.q (.x 4) (.bin .Add (.x 4) (.int 1))]],.ret (.call (.k (.type "tuple")) [(.x 2)])]⟩
noncomputable def qee:Qg:=⟨1,4,.pure,[.q (.t [(.x 1),(.x 2),(.x 3)]) (.x 0),.ifs (.wK (.cmp .Eq (.x 2) (.str "<="))) [.ret (.t [(.x 1),(.str ">="),(.bin .Add (.x 3) (.int 1))])] [],.ifs (.wK (.cmp .Eq (.x 2) (.str ">="))) [.ret (.t [(.x 1),(.str "<="),(.bin .Sub (.x 3) (.int 1))])] [],.ret (.ite (.wK (.cmp .Eq (.x 2) (.str "="))) (.t [(.x 1),(.str "!="),(.x 3)]) (.t [(.x 1),(.str "="),(.x 3)]))]⟩
noncomputable def qef:Qg:=⟨2,4,.pure,[.q (.t [(.x 2),(.x 3)]) (.t [(.sub (.x 0) (.int 1)),(.sub (.x 0) (.int 2))]),.ifs (.wK (.cmp .Eq (.x 2) (.str "<="))) [.ret (.call (.k (.ref 66)) [(.x 1),(.x 3)])] [],.ifs (.wK (.cmp .Eq (.x 2) (.str ">="))) [.ret (.call (.k (.ref 71)) [(.x 1),(.x 3)])] [],.ret (.ite (.wK (.cmp .Eq (.x 2) (.str "="))) (.call (.k (.ref 85)) [(.x 1),(.t [(.t [(.x 3),(.x 3)])])]) (.call (.k (.ref 78)) [(.x 1),(.x 3)]))]⟩
noncomputable def E7:Qg:=⟨2,3,.pure,[.q (.x 2) (.call (.k (.ref 99)) [(.x 0),(.x 1)]),.ifs (.wK (.cmp .Eq (.x 2) (.x 1))) [.ret (.int 1)] [],.ret (.ite (.wK (.cmp .Eq (.x 2) (.t []))) (.neg (.int 1)) (.int 0))]⟩
noncomputable def qbI:Qg:=⟨1,1,.sub,[.q (.attr (.x 0) "domains") (.list []),.q (.attr (.x 0) "firsts") (.list []),.q (.attr (.x 0) "trail") (.list []),.q (.attr (.x 0) "marks") (.list []),.q (.attr (.x 0) "news") (.dict [] []),.q (.attr (.x 0) "speaker") (.neg (.int 1)),.q (.attr (.x 0) "is_failed") (.bool ua),.q (.attr (.x 0) "clash") (.t [])]⟩
noncomputable def qbJ:Qg:=⟨2,2,.sub,[.app (.attr (.x 0) "domains") "append" (.x 1),.app (.attr (.x 0) "firsts") "append" (.x 1),.ifs (.wK (.cmp .Eq (.x 1) (.t []))) [.expr (.meth (.x 0) "fail" [(.t [])])] [],.ret (.bin .Sub (.call (.k (.builtin "len")) [(.attr (.x 0) "domains")]) (.int 1))]⟩
noncomputable def qbK:Qg:=⟨1,1,.all,[.ret (.call (.k (.builtin "len")) [(.attr (.x 0) "domains")])]⟩
noncomputable def qbL:Qg:=⟨2,2,.all,[.ret (.sub (.attr (.x 0) "domains") (.x 1))]⟩
noncomputable def qbM:Qg:=⟨2,2,.all,[.ret (.call (.k (.ref 28)) [(.sub (.attr (.x 0) "domains") (.x 1))])]⟩
noncomputable def qbN:Qg:=⟨2,2,.all,[.ret (.call (.k (.ref 35)) [(.sub (.attr (.x 0) "domains") (.x 1))])]⟩
noncomputable def qbO:Qg:=⟨3,3,.all,[.ret (.call (.k (.ref 54)) [(.sub (.attr (.x 0) "domains") (.x 1)),(.x 2)])]⟩
noncomputable def qbP:Qg:=⟨2,2,.all,[.ret (.sub (.sub (.sub (.attr (.x 0) "domains") (.x 1)) (.int 0)) (.int 0))]⟩
noncomputable def qbQ:Qg:=⟨2,2,.all,[.ret (.call (.k (.ref 40)) [(.sub (.attr (.x 0) "domains") (.x 1))])]⟩
noncomputable def qbR:Qg:=⟨2,2,.sub,[.ret (.call (.k (.ref 106)) [(.x 1),(.sub (.attr (.x 0) "domains") (.sub (.x 1) (.int 0)))])]⟩
noncomputable def qbS:Qg:=⟨4,7,.all,[.q (.x 4) (.sub (.x 1) (.int 0)),.q (.x 5) (.sub (.attr (.x 0) "domains") (.x 4)),.q (.x 6) (.call (.k (.ref 99)) [(.x 1),(.x 5)]),.ifs (.wK (.cmp .Eq (.x 6) (.t []))) [.ret (.meth (.x 0) "fail" [(.bin .Add (.ite (.wK (.cmp .Is (.x 2) .none)) (.t []) (.x 2)) (.t [(.call (.k (.ref 92)) [(.x 1)])]))])] [],.ifs (.wK (.cmp .Eq (.x 6) (.x 5))) [.ret (.bool Z)] [],.app (.attr (.x 0) "trail") "append" (.t [(.x 4),(.x 5),(.x 1),(.x 2),(.x 3)]),.q (.sub (.attr (.x 0) "domains") (.x 4)) (.x 6),.q (.sub (.attr (.x 0) "news") (.x 4)) (.bool Z),.ret (.bool Z)]⟩
noncomputable def qbT:Qg:=⟨3,3,.all,[.ret (.meth (.x 0) "enter" [(.x 1),(.call (.k (.type "tuple")) [(.x 2)]),(.attr (.x 0) "speaker")])]⟩
noncomputable def qbU:Qg:=⟨2,2,.sub,[.ret (.meth (.x 0) "enter" [(.x 1),.none,(.neg (.int 1))])]⟩
noncomputable def qbV:Qg:=⟨2,2,.all,[.q (.attr (.x 0) "is_failed") (.bool Z),.q (.attr (.x 0) "clash") (.call (.k (.type "tuple")) [(.x 1)]),.ret (.bool ua)]⟩
noncomputable def qbW:Qg:=⟨1,1,.sub,[.app (.attr (.x 0) "marks") "append" (.call (.k (.builtin "len")) [(.attr (.x 0) "trail")])]⟩
noncomputable def qbX:Qg:=⟨3,3,.all,[.q (.attr (.x 0) "number") (.neg (.int 1)),.q (.attr (.x 0) "scope") (.call (.k (.type "tuple")) [(.x 1)]),.q (.attr (.x 0) "strength") (.x 2)]⟩
noncomputable def qbY:Qg:=⟨2,2,.all,[.ret (.cmp .Eq (.call (.k (.builtin "len")) [(.x 1)]) (.call (.k (.builtin "len")) [(.attr (.x 0) "scope")]))]⟩
noncomputable def qbZ:Qg:=⟨1,1,.all,[.ret (.t [])]⟩
noncomputable def F7:Qg:=⟨2,7,.pure,[.q (.t [(.x 2),(.x 3)]) (.t [(.list [(.t [(.x 0),(.str ">="),(.call (.k (.ref 28)) [(.x 1)])]),(.t [(.x 0),(.str "<="),(.call (.k (.ref 35)) [(.x 1)])])]),(.bin .Sub (.call (.k (.ref 28)) [(.x 1)]) (.int 1))]),.fors (.t [4,5]) (.x 1) [.fors (.x 6) (.call (.k (.type "range")) [(.bin .Add (.x 3) (.int 1)),(.x 4)]) [.app (.x 2) "append" (.t [(.x 0),(.str "!="),(.x 6)])],.q (.x 3) (.x 5)],.ret (.x 2)]⟩
noncomputable def qca:Qg:=⟨4,4,.all,[.q (.attr (.x 0) "able") (.x 1),.q (.attr (.x 0) "lows") (.x 2),.q (.attr (.x 0) "highs") (.x 3),.q (.attr (.x 0) "at") (.bin .Mult (.list [(.neg (.int 1))]) (.call (.k (.builtin "len")) [(.x 1)])),.q (.attr (.x 0) "counts") (.bin .Mult (.list [(.int 0)]) (.call (.k (.builtin "len")) [(.x 2)]))]⟩
noncomputable def qcb:Qg:=⟨2,2,.all,[.ret (.comp 2 (.call (.k (.type "range")) [(.call (.k (.builtin "len")) [(.attr (.x 0) "at")])]) (.x 3) [(.wK (.cmp .Eq (.sub (.attr (.x 0) "at") (.x 3)) (.x 1)))] [] (.x 3))]⟩
noncomputable def qcc:Qg:=⟨2,9,.all,[.q (.t [(.x 2),(.x 3),(.x 4)]) (.t [(.dict [] []),(.list []),(.int 0)]),.blk 3351,.blk 3352,.ret (.call (.k (.builtin "sorted")) [(.x 3)])]⟩
noncomputable def G7:Qg:=⟨2,8,.all,[.q (.t [(.x 2),(.x 3),(.x 4)]) (.t [(.dict [(.x 1)] [(.t [(.neg (.int 1)),(.neg (.int 1))])]),(.list [(.x 1)]),(.int 0)]),.blk 3421,.ret (.call (.k (.builtin "sorted")) [(.x 3)])]⟩
noncomputable def H7:Qg:=⟨4,5,.all,[.aug (.x 0) "counts" (.x 1) .Sub (.int 1),.aug (.x 0) "counts" (.x 2) .Add (.int 1),.blk 3491]⟩
noncomputable def I7:Qg:=⟨2,10,.all,[.q (.t [(.x 2),(.x 3),(.x 4),(.x 5)]) (.t [(.dict [(.x 1)] [(.bool Z)]),(.list [(.x 1)]),(.int 0),(.bool ua)]),.blk 3541,.ret (.t [(.call (.k (.builtin "sorted")) [(.x 2)]),(.x 5)])]⟩
noncomputable def qcd:Qg:=⟨5,8,.sub,[.expr (.sup 0 274 [(.x 1),(.str "values")]),.q (.attr (.x 0) "taken") (.call (.k (.type "tuple")) [(.x 1)]),.q (.attr (.x 0) "rows") (.t [(.call (.k (.type "tuple")) [(.x 2)]),(.call (.k (.type "tuple")) [(.x 3)]),(.call (.k (.type "tuple")) [(.x 4)])]),.q (.attr (.x 0) "wanted") (.list []),.q (.attr (.x 0) "lows") (.list []),.q (.attr (.x 0) "highs") (.list []),.blk 3771,.q (.attr (.x 0) "has_twins") (.cmp .Lt (.call (.k (.builtin "len")) [(.call (.k (.type "set")) [(.x 1)])]) (.call (.k (.builtin "len")) [(.attr (.x 0) "taken")]))]⟩
noncomputable def qce:Qg:=⟨4,5,.all,[.ifs (.wK (.cmp .In (.x 1) (.attr (.x 0) "wanted"))) [.q (.x 4) (.meth (.attr (.x 0) "wanted") "index" [(.x 1)]),.q (.t [(.sub (.attr (.x 0) "lows") (.x 4)),(.sub (.attr (.x 0) "highs") (.x 4))]) (.t [(.call (.k (.builtin "max")) [(.sub (.attr (.x 0) "lows") (.x 4)),(.x 2)]),(.call (.k (.builtin "min")) [(.sub (.attr (.x 0) "highs") (.x 4)),(.x 3)])])] [.app (.attr (.x 0) "wanted") "append" (.x 1),.app (.attr (.x 0) "lows") "append" (.x 2),.app (.attr (.x 0) "highs") "append" (.x 3)]]⟩
noncomputable def qcf:Qg:=⟨3,4,.all,[.q (.x 3) (.comp 2 (.call (.k (.type "range")) [(.call (.k (.builtin "len")) [(.attr (.x 0) "wanted")])]) (.x 5) [(.wK (.meth (.x 1) "has" [(.x 2),(.sub (.attr (.x 0) "wanted") (.x 5))]))] [] (.x 5)),.ret (.ite (.wK (.cmp .Gt (.meth (.x 1) "width" [(.x 2)]) (.call (.k (.builtin "len")) [(.x 3)]))) (.bin .Add (.x 3) (.list [(.call (.k (.builtin "len")) [(.attr (.x 0) "wanted")])])) (.x 3))]⟩
noncomputable def J7:Qg:=⟨2,3,.all,[.q (.x 2) (.neg (.int 1)),.whil (.wK (.cmp .Lt (.x 2) (.call (.k (.builtin "len")) [(.attr (.x 1) "trail")]))) [.q (.x 2) (.call (.k (.builtin "len")) [(.attr (.x 1) "trail")]),.ifs (.not (.wK (.meth (.x 0) "strike_once" [(.x 1)]))) [.ret (.bool ua)] [],.ifs (.not (.wK (.attr (.x 0) "has_twins"))) [.ret (.bool Z)] []],.ret (.bool Z)]⟩
noncomputable def K7:Qg:=⟨2,9,.all,[.ifs (.wK (.cmp .NotEq (.comp 2 (.call (.k (.type "range")) [(.call (.k (.builtin "len")) [(.attr (.x 0) "wanted")])]) (.x 10) [(.wK (.cmp .Gt (.sub (.attr (.x 0) "lows") (.x 10)) (.sub (.attr (.x 0) "highs") (.x 10))))] [] (.x 10)) (.list []))) [.ret (.meth (.x 1) "fail" [(.t [])])] [],.q (.x 3) (.comp 2 (.attr (.x 0) "taken") (.x 10) [] [] (.meth (.x 0) "options_of" [(.x 1),(.x 10)])),.q (.x 4) (.call (.k (.ref 357)) [(.x 3),(.bin .Add (.attr (.x 0) "lows") (.list [(.int 0)])),(.bin .Add (.attr (.x 0) "highs") (.list [(.bin .Add (.call (.k (.builtin "len")) [(.attr (.x 0) "taken")]) (.int 1))]))]),.blk 4011,.blk 4012,.blk 4014,.ret (.bool Z)]⟩
noncomputable def qcg:Qg:=⟨4,7,.all,[.q (.x 4) (.list []),.blk 4081,.ret (.x 4)]⟩
noncomputable def qch:Qg:=⟨3,5,.all,[.q (.x 3) (.list []),.blk 4131,.ret (.x 3)]⟩
noncomputable def L7:Qg:=⟨4,13,.all,[.q (.t [(.x 4),(.x 5)]) (.meth (.x 2) "reached" [(.x 3)]),.q (.x 6) (.comp 2 (.call (.k (.type "range")) [(.call (.k (.builtin "len")) [(.attr (.x 0) "taken")])]) (.x 14) [(.and (.wK (.cmp .In (.x 3) (.sub (.attr (.x 2) "able") (.x 14)))) (.wK (.cmp .NotIn (.sub (.attr (.x 2) "at") (.x 14)) (.x 4))))] [] (.x 14)),.ifs (.wK (.cmp .Eq (.x 6) (.list []))) [.ret (.bool Z)] [],.ifs (.wK (.x 5)) [.q (.x 7) (.comp 2 (.call (.k (.type "range")) [(.call (.k (.builtin "len")) [(.attr (.x 0) "wanted")])]) (.x 14) [(.and (.wK (.cmp .NotIn (.x 14) (.x 4))) (.wK (.cmp .Gt (.sub (.attr (.x 0) "lows") (.x 14)) (.int 0))))] [] (.x 14)),.q (.x 8) (.meth (.x 0) "lacking" [(.x 2),(.x 7)])] [.q (.x 8) (.meth (.x 0) "confined" [(.x 1),(.x 2),(.x 4)])],.blk 4181,.ret (.bool Z)]⟩
noncomputable def qci:Qg:=⟨2,5,.sub,[.blk 4251,.ret (.bool Z)]⟩
noncomputable def qcj:Qg:=⟨1,1,.sub,[.ret (.bin .Add (.t [(.str "cardinality"),(.attr (.x 0) "taken")]) (.attr (.x 0) "rows"))]⟩
noncomputable def qck:Qg:=⟨2,2,.all,[.q (.sub (.x 0) (.str "at")) (.bin .Add (.sub (.x 0) (.str "at")) (.int 1)),.ifs (.wK (.cmp .Gt (.sub (.x 0) (.str "at")) (.call (.k (.builtin "len")) [(.sub (.x 0) (.str "cells"))]))) [.ret (.int 0)] [],.ret (.bin .Mod (.sub (.sub (.x 0) (.str "cells")) (.bin .Sub (.sub (.x 0) (.str "at")) (.int 1))) (.x 1))]⟩
noncomputable def N7:Qg:=⟨1,3,.pure,[.q (.x 1) (.list []),.fors (.x 2) (.x 0) [.ifs (.and (.wK (.cmp .NotEq (.x 1) (.list []))) (.wK (.cmp .Eq (.sub (.sub (.x 1) (.neg (.int 1))) (.int 1)) (.bin .Sub (.x 2) (.int 1))))) [.q (.sub (.x 1) (.neg (.int 1))) (.t [(.sub (.sub (.x 1) (.neg (.int 1))) (.int 0)),(.x 2)])] [.app (.x 1) "append" (.t [(.x 2),(.x 2)])]],.ret (.call (.k (.type "tuple")) [(.x 1)])]⟩
noncomputable def RY:Qg:=⟨1,3,.pure,[.q (.x 1) (.list [(.t [])]),.frz 1,.blk 4561,.ret (.x 1)]⟩
noncomputable def SY:Qg:=⟨2,2,.pure,[.ret (.cmp .Eq (.comp 4 (.x 1) (.t [3,4,5]) [(.not (.wK (.cmp2 .LtE .LtE (.x 4) (.call (.k (.builtin "len")) [(.comp 2 (.x 0) (.x 7) [(.wK (.cmp .Eq (.x 7) (.x 3)))] [] (.x 7))]) (.x 5))))] [] (.x 3)) (.list []))]⟩
noncomputable def nJ:Qg:=⟨2,5,.all,[.q (.x 2) (.call (.k (.ref 256)) []),.q (.x 3) (.call (.k (.type "tuple")) [(.comp 2 (.x 0) (.x 6) [] [] (.meth (.x 2) "new_var" [(.call (.k (.ref 451)) [(.x 6)])]))]),.q (.x 4) (.comp 2 (.call (.k (.type "range")) [(.int 3)]) (.x 6) [] [] (.call (.k (.type "tuple")) [(.comp 2 (.x 1) (.x 8) [] [] (.sub (.x 8) (.x 6)))])),.ret (.t [(.x 2),(.call (.k (.ref 435)) [(.x 3),(.sub (.x 4) (.int 0)),(.sub (.x 4) (.int 1)),(.sub (.x 4) (.int 2))])])]⟩
noncomputable def qcl:Qg:=⟨1,1,.all,[.ret (.comp 2 (.call (.k (.type "range")) [(.meth (.x 0) "size" [])]) (.x 2) [] [] (.comp 4 (.meth (.x 0) "dom" [(.x 2)]) (.t [4,5]) [] [.mk (.call (.k (.type "range")) [(.x 4),(.bin .Add (.x 5) (.int 1))]) (.x 6) []] (.x 6)))]⟩
noncomputable def O7:Qg:=⟨3,5,.sub,[.q (.x 3) (.call (.k (.ref 471)) [(.x 0)]),.q (.x 4) (.comp 2 (.x 2) (.x 6) [(.wK (.cmp .Eq (.comp 2 (.call (.k (.type "range")) [(.call (.k (.builtin "len")) [(.x 6)])]) (.x 8) [(.wK (.cmp .NotIn (.sub (.x 6) (.x 8)) (.sub (.x 3) (.x 8))))] [] (.x 8)) (.list [])))] [] (.x 6)),.ifs (.wK (.cmp .IsNot (.meth (.x 1) "propagate" [(.x 0)]) (.cmp .NotEq (.x 4) (.list [])))) [.ret (.bool ua)] [],.ifs (.wK (.cmp .Eq (.x 4) (.list []))) [.ret (.attr (.x 0) "is_failed")] [],.ret (.cmp .Eq (.call (.k (.ref 471)) [(.x 0)]) (.comp 2 (.call (.k (.type "range")) [(.call (.k (.builtin "len")) [(.x 3)])]) (.x 6) [] [] (.call (.k (.builtin "sorted")) [(.call (.k (.type "set")) [(.comp 2 (.x 4) (.x 8) [] [] (.sub (.x 8) (.x 6)))])])))]⟩
noncomputable def oJ:Qg:=⟨1,16,.all,[.q (.x 1) (.dict [(.str "cells"),(.str "at")] [(.cut (.x 0) 16),(.int 0)]),.q (.x 2) (.bin .Add (.int 1) (.call (.k (.ref 444)) [(.x 1),(.int 3)])),.q (.x 3) (.comp 2 (.call (.k (.type "range")) [(.x 2)]) (.x 17) [] [] (.bin .Add (.int 1) (.call (.k (.ref 444)) [(.x 1),(.int 7)]))),.q (.x 5) (.comp 2 (.x 3) (.x 17) [] [] (.comp 2 (.call (.k (.type "range")) [(.int 3)]) (.x 19) [(.wK (.cmp .Eq (.bin .Mod (.bin .FloorDiv (.x 17) (.bin .Pow (.int 2) (.x 19))) (.int 2)) (.int 1)))] [] (.x 19))),.q (.x 4) (.call (.k (.ref 444)) [(.x 1),(.int 3)]),.q (.x 6) (.list []),.fors (.x 7) (.call (.k (.type "range")) [(.int 2)]) [.q (.x 8) (.call (.k (.ref 444)) [(.x 1),(.int 3)]),.app (.x 6) "append" (.t [(.x 4),(.x 8),(.bin .Add (.x 8) (.call (.k (.ref 444)) [(.x 1),(.int 3)]))])],.q (.x 9) (.list [(.t [(.x 4),(.call (.k (.builtin "max")) [(.sub (.sub (.x 6) (.int 0)) (.int 1)),(.sub (.sub (.x 6) (.int 1)) (.int 1))]),(.call (.k (.builtin "min")) [(.sub (.sub (.x 6) (.int 0)) (.int 2)),(.sub (.sub (.x 6) (.int 1)) (.int 2))])])]),.ifs (.wK (.cmp .Eq (.call (.k (.ref 444)) [(.x 1),(.int 2)]) (.int 1))) [.q (.x 10) (.t [(.bin .Mod (.bin .Add (.x 4) (.int 1)) (.int 3)),(.int 0),(.call (.k (.ref 444)) [(.x 1),(.int 3)])]),.ins (.x 6) (.int 1) (.x 10),.app (.x 9) "append" (.x 10)] [],.frz 6,.frz 9,.q (.x 11) (.comp 2 (.call (.k (.ref 456)) [(.x 5)]) (.x 17) [(.wK (.call (.k (.ref 461)) [(.x 17),(.x 6)]))] [] (.x 17)),.q (.x 12) (.t [(.call (.k (.ref 444)) [(.x 1),(.x 2)]),(.sub (.list [(.str "<="),(.str ">="),(.str "!="),(.str "=")]) (.call (.k (.ref 444)) [(.x 1),(.int 4)])),(.call (.k (.ref 444)) [(.x 1),(.int 3)])]),.fors (.x 13) (.t [(.x 6),(.x 9)]) [.q (.t [(.x 14),(.x 15)]) (.call (.k (.ref 466)) [(.x 5),(.x 13)]),.ifs (.wK (.cmp .NotEq (.meth (.x 15) "told" []) (.bin .Add (.t [(.str "cardinality"),(.call (.k (.type "tuple")) [(.call (.k (.type "range")) [(.x 2)])])]) (.call (.k (.type "tuple")) [(.comp 2 (.call (.k (.type "range")) [(.int 3)]) (.x 17) [] [] (.call (.k (.type "tuple")) [(.comp 2 (.x 13) (.x 19) [] [] (.sub (.x 19) (.x 17)))]))])))) [.ret (.bool ua)] [],.ifs (.wK (.cmp .NotEq (.comp 2 (.call (.k (.ref 456)) [(.x 5)]) (.x 17) [(.wK (.cmp .IsNot (.meth (.x 15) "check" [(.x 17)]) (.cmp .In (.x 17) (.x 11))))] [] (.x 17)) (.list []))) [.ret (.bool ua)] [],.ifs (.not (.wK (.call (.k (.ref 476)) [(.x 14),(.x 15),(.x 11)]))) [.ret (.bool ua)] [],.ifs (.and (.not (.wK (.attr (.x 14) "is_failed"))) (.wK (.cmp .Eq (.meth (.x 14) "holds" [(.x 12)]) (.int 0)))) [.expr (.meth (.x 14) "push" []),.expr (.meth (.x 14) "decide" [(.x 12)]),.ifs (.not (.wK (.call (.k (.ref 476)) [(.x 14),(.x 15),(.x 11)]))) [.ret (.bool ua)] []] []],.ret (.bool Z)]⟩
def MY:List (Nat×Qg):=[(28,qdU),(35,qdV),(40,qdW),(47,qdX),(54,qdY),(61,qdZ),(66,qea),(71,qeb),(78,qec),(85,qed),(92,qee),(99,qef),(106,E7),(120,qbI),(127,qbJ),(134,qbK),(141,qbL),(155,qbM),(162,qbN),(169,qbO),(183,qbP),(190,qbQ),(197,qbR),(204,qbS),(211,qbT),(218,qbU),(225,qbV),(232,qbW),(274,qbX),(288,qbY),(295,qbZ),(309,F7),(323,qca),(328,qcb),(335,qcc),(342,G7),(349,H7),(354,I7),(377,qcd),(384,qce),(389,qcf),(396,J7),(401,K7),(408,qcg),(413,qch),(418,L7),(425,qci),(432,qcj),(444,qck),(451,N7),(456,RY),(461,SY),(466,nJ),(471,qcl),(476,O7),(481,oJ)]
def pc(a:Nat):Option Qg:=MY.lookup a
def RM:List (Nat×Fn):=MY.map λp=>(p.1,B4 Ib p.2)
def rT(a:Nat):Option Fn:=RM.lookup a
section
variable {x:V} {v:wa} {X:List V} {T:List wa} {i:Nat} {a:Ca} {o:O}
noncomputable abbrev pg:Zi:=Lh
noncomputable abbrev iu(T:List wa)(n:Nat):yD:={cls:=.type "tuple",data:=.seq T.toArray n}
def Ih(o:yD):Prop:=match o.data with|.seq u y=>o.cls=.type "tuple"|.fields u=>o.cls=.type "range"|.set .. =>True|_=>False
noncomputable def kB(k:Int)(o:Option jk):List (Int×wa):=match o with|some t=>[(k,.int k t)]|none=>[]
noncomputable def nX(k:Nat)(o:Option jk):List Nat:=match o with|some u=>[k]|none=>[]
def B5(w:zb)(h:qb)(a:Ca)(b c d:Option jk):Prop:=∃e,h.get? a=J {cls:=.type "set",dict:=Y,data:=.set (kB 0 b++(kB 1 c++kB 2 d)).toArray e ⟨7,(nX 0 b++(nX 1 c++nX 2 d)).toArray,#[],0,!w.params.followText "set-order",0,Z⟩,slots:= #[]}
class Av where
 av:Ca->Prop
variable [av:Av]
mutual
inductive VR(w:zb)(ρ:List Ca)(h:qb):V->wa->Prop
 |none:VR w ρ h .none .none|bool (b:Bool):VR w ρ h (.bool b) (.bool b)|int (i:Int) (t:jk):VR w ρ h (.int i) (.int i t)|str (x:Bb) (t:jk):VR w ρ h (.str x) (.str x t)|ref {i:Nat} {a:Ca}:ρ[i]?=J a->VR w ρ h (.ref i) (.ref a)|k (v:wa):VR w ρ h (.k v) v|rng {a:Ca} {lo hi:Int} {t u v:jk}:UK h a lo hi 1 t u v->VR w ρ h (.rng lo hi) (.ref a)|iset {a:Ca} {X:List Int} {o0 o1 o2:Option jk}:o0.isSome=X.contains 0->o1.isSome=X.contains 1->o2.isSome=X.contains 2->B5 w h a o0 o1 o2->VR w ρ h (.iset X) (.ref a)|t {a:Ca} {X:List V} {T:List wa} {n:Nat}:¬Av.av a->h.get? a=J (iu T n)->X.length<=4096->ue w ρ h X T->VR w ρ h (.t X) (.ref a)
inductive ue(w:zb)(ρ:List Ca)(h:qb):List V->List wa->Prop
 |nil:ue w ρ h [] []|cons {x:V} {X:List V} {v:wa} {T:List wa}:VR w ρ h x v->ue w ρ h X T->ue w ρ h (x::X) (v::T)
end
section
variable {w:zb} {ρ W:List Ca} {h S:qb}
theorem VR.mono(d:ρ<+:W)(c:∀a o,h.get? a=J o->Ih o->S.get? a=J o)(q:VR w ρ h x v):VR w W S x v:=
 VR.rec (motive_1:=λx v u=>VR w W S x v) (motive_2:=λX T u=>ue w W S X T) .none (λb=>.bool b) (λi t=>.int i t) (λx t=>.str x t) (λe=>.ref (by
  obtain⟨t,rfl⟩:=d;refine U (Xa (wb.mp e).1) ?_;exact e)) (λv=>.k v) (λe=>.rng (c _ _ e rfl)) (λb f g e=>.iset b f g (tD e λj x=>⟨j,c _ _ x trivial⟩)) (λb e l u r=>.t b (c _ _ e rfl) l r) .nil (λu u a r=>.cons a r) q
def qds(w:zb)(ρ:List Ca)(h:qb)(z:V)(y:wa):Prop:=match z,y with|.none,v=>v=.none|.bool b,v=>v=.bool b|.int i,v=>∃t,v=.int i t|.str x,v=>∃t,v=.str x t|.ref i,v=>∃a,v=.ref a/\ρ[i]?=J a|.k c,v=>v=c|.rng lo b,v=>∃a t u s,v=.ref a/\UK h a lo b 1 t u s|.iset X,v=>∃a b c d,v=.ref a/\b.isSome=X.contains 0/\c.isSome=X.contains 1/\d.isSome=X.contains 2/\B5 w h a b c d|.t X,v=>∃a T n,v=.ref a/\¬Av.av a/\h.get? a=J (iu T n)/\X.length<=4096/\ue w ρ h X T
theorem VR.wF(r:VR w ρ h x v):qds w ρ h x v:=
 VR.rec (motive_1:=λx v u=>qds w ρ h x v) (motive_2:=λu u u=>True) rfl (λu=>rfl) (λu t=>⟨t,rfl⟩) (λu t=>⟨t,rfl⟩) (λe=>⟨_,rfl,e⟩) (λu=>rfl) (λe=>⟨_,_,_,_,rfl,e⟩) (λa b c d=>⟨_,_,_,_,rfl,a,b,c,d⟩) (λa b c d u=>⟨_,_,_,rfl,a,b,c,d⟩) trivial (λu u u u=>trivial) r
theorem ue.ind{P:List V->List wa->Prop}(b:P [] [])(c:∀x X v T,VR w ρ h x v->ue w ρ h X T->P X T->P (x::X) (v::T))(r:ue w ρ h X T):P X T:=
 ue.rec (motive_1:=λu u u=>True) (motive_2:=λx v u=>P x v) trivial (λu=>trivial) (λu u=>trivial) (λu u=>trivial) (λu=>trivial) (λu=>trivial) (λu=>trivial) (λu u u u=>trivial) (λu u u u u=>trivial) b (λa t u d=>c _ _ _ _ a t d) r
theorem ue.mono(b:ρ<+:W)(c:∀a o,h.get? a=J o->Ih o->S.get? a=J o)(q:ue w ρ h X T):ue w W S X T:=
 q.ind (P:=λX T=>ue w W S X T) .nil λu u u u a u d=>.cons (a.mono b c) d
theorem ue.length(r:ue w ρ h X T):X.length=T.length:=by
 induction X generalizing T with
 |nil=>cases r;rfl|cons x X b=>cases r with|cons _ r=>simp[b r]
theorem ue.append{b:List V}{c:List wa}(r:ue w ρ h X T)(q:ue w ρ h b c):ue w ρ h (X++b) (T++c):=by
 induction X generalizing T with
 |nil=>cases r;exact q|cons x X d=>cases r with|cons a r=>exact .cons a (d r)
theorem ue.one(r:VR w ρ h x v):ue w ρ h [x] [v]:=.cons r .nil
theorem ue.get(r:ue w ρ h X T)(e:X[i]?=J x):∃v,T[i]?=J v/\VR w ρ h x v:=by
 induction X generalizing T i with
 |nil=>simp at e|cons y X c=>
  refine aa λb=>?_;cases r with
  |cons a r=>
   refine b ?_;clear b
   induction i using Sa with
   |zero=>simp at e;subst e;exact⟨_,rfl,a⟩|succ i=>simpa using c r (by simpa using e)
theorem ue.none_of(r:ue w ρ h X T)(e:X[i]?=Y):T[i]?=Y:=by
 rw[dh]at e|-;exact Ed r.length e
theorem ue.set(r:ue w ρ h X T)(i:Nat)(q:VR w ρ h x v):ue w ρ h (X.set i x) (T.set i v):=by
 induction X generalizing T i with
 |nil=>cases r;exact .nil|cons y X b=>
  cases r with
  |cons a r=>
   induction i using Sa with
   |zero=>exact .cons q r|succ i=>exact .cons a (b r i)
theorem ue.take(r:ue w ρ h X T)(i:Nat):ue w ρ h (X.take i) (T.take i):=by
 induction X generalizing T i with
 |nil=>cases r;simp;exact .nil|cons y X b=>
  cases r with
  |cons a r=>
   induction i using Sa with
   |zero=>exact .nil|succ i=>exact .cons a (b r i)
theorem ue.drop(r:ue w ρ h X T)(i:Nat):ue w ρ h (X.drop i) (T.drop i):=by
 induction X generalizing T i with
 |nil=>cases r;simp;exact .nil|cons y X b=>
  cases r with
  |cons a r=>
   induction i using Sa with
   |zero=>exact .cons a r|succ i=>exact b r i
end
class inductive SE(w:zb)(ρ:List Ca)(h:qb):List (Bb×V)->List Cf->Prop
 |nil:SE w ρ h [] []|cons {k:Bb} {x:V} {t:jk} {v:wa} {es ents}:VR w ρ h x v->SE w ρ h es ents->SE w ρ h ((k,x)::es) (⟨H4 w k,.str k t,v⟩::ents)
def OR(w:zb)(ρ:List Ca)(h:qb)(z:O)(y:Ca):Prop:=match z,y with|.list X,a=>∃T n,h.get? a=J (listOf T.toArray n)/\X.length<=4096/\ue w ρ h X T|.idict c,a=>∃o b,h.get? a=J o/\o.IsDictOf (ig pg w) b/\b.map (λx=>x.1)=c.map (λx=>x.1)/\ue w ρ h (c.map λx=>x.2) (b.map λx=>x.2)/\c.length<=4096|.h c,a=>∃b n,h.get? a=J (qm b n)/\SE w ρ h c b/\(c.map λx=>x.1).Nodup/\c.length<=4096|.inst c d,a=>∃b,ρ[d]?=J b/\h.get? a=J (qeW c b)
structure R(w:zb)(Q:qb)(ρ:List Ca)(N:St)(h:qb):Prop where
 len:ρ.length=N.length
 nodup:ρ.Nodup
 fresh:∀a∈ρ,Q.get? a=Y
 avl:∀a,Av.av a->∃o,h.get? a=J o/\Ih o
 wK:∀a o,Q.get? a=J o->h.get? a=J o
 obj:∀(i:Nat)(o:O)(a:Ca),N[i]?=J o->ρ[i]?=J a->OR w ρ h o a
structure Kp(eo:Ca->Prop)(ρ:List Ca)(h S:qb)(W:List Ca):Prop where
 pre:ρ<+:W
 fresh:∀a∈W,a∈ρ\/h.get? a=Y
 keep:∀a o,h.get? a=J o->a∉ρ->¬eo a->S.get? a=J o
 imm:∀a o,h.get? a=J o->Ih o->S.get? a=J o
 live:∀a,(h.get? a).isSome=Z->(S.get? a).isSome=Z
variable {w:zb} {Q h S K:qb} {ρ W L:List Ca} {N I:St} {eo:Ca->Prop}
theorem Kp.refl:Kp eo ρ h h ρ:=⟨Ja _,λu h=>.inl h,λu u e u u=>e,λu u e u=>e,λu e=>e⟩
theorem Kp.trans(x:Kp eo ρ h S W)(y:Kp eo W S K L):Kp eo ρ h K L where
 pre:=x.pre.trans y.pre
 fresh a ha:=by
  rcases y.fresh a ha with q|q
  ·exact x.fresh a q
  ·refine .inr ?_
   induction e:h.get? a with
   |none=>rfl|some o=>have:=x.live a (by refine U e ?_;rfl);rw[q]at this;exact zc this ia
 keep a o e n1 n2:=y.keep a o (x.keep a o e n1 n2) (λq=>by
  rcases x.fresh a q with q|q
  ·exact n1 q
  ·rw[q]at e;exact ja e) n2
 imm a o e i:=y.imm a o (x.imm a o e i) i
 live a e:=y.live a (x.live a e)
theorem Kp.weaken{b:Ca->Prop}(x:Kp eo ρ h S W)(c:∀a,eo a->b a):Kp b ρ h S W:=
 ⟨x.pre,x.fresh,λa o e d f=>x.keep a o e d λq=>f (c a q),x.imm,x.live⟩
theorem Kp.vr(k:Kp eo ρ h S W)(r:VR w ρ h x v):VR w W S x v:=r.mono k.pre k.imm
theorem Kp.vrs{x:List V}{v:List wa}(k:Kp eo ρ h S W)(r:ue w ρ h x v):ue w W S x v:=r.mono k.pre k.imm
theorem SE.mono(d:ρ<+:W)(e:∀a o,h.get? a=J o->Ih o->S.get? a=J o){c:List (Bb×V)}{b:List Cf}(r:SE w ρ h c b):SE w W S c b:=by
 induction r with
 |nil=>exact .nil|cons a u f=>exact .cons (a.mono d e) f
theorem Dm(b:ρ<+:W)(e:ρ[i]?=J a):W[i]?=J a:=by
 obtain⟨t,rfl⟩:=b;refine U (Xa (wb.mp e).1) ?_;exact e
theorem OR.mono(f:ρ<+:W)(j:∀a o,h.get? a=J o->Ih o->S.get? a=J o)(g:∀x,h.get? a=J x->S.get? a=J x)(r:OR w ρ h o a):OR w W S o a:=by
 induction o with
 |list X=>obtain⟨T,n,e,l,q⟩:=r;exact⟨T,n,g _ e,l,q.mono f j⟩|idict m=>obtain⟨o,b,e,d,k,q,l⟩:=r;exact⟨o,b,g _ e,d,k,q.mono f j,l⟩|h m=>obtain⟨b,n,e,q,d,l⟩:=r;exact⟨b,n,g _ e,q.mono f j,d,l⟩|inst c d=>obtain⟨b,e,q⟩:=r;exact⟨b,Dm f e,g _ q⟩
theorem OR.get(r:OR w ρ h o a):∃x,h.get? a=J x/\¬Ih x:=by
 induction o with
 |list X=>obtain⟨T,n,e,_⟩:=r;exact⟨_,e,by simp[Ih]⟩|idict c=>
  refine aa λb=>?_;obtain⟨o,f,e,⟨g,j,_,d,_⟩,_⟩:=r;exact b (⟨_,e,by simp[Ih,d]⟩)
 |h c=>obtain⟨b,n,e,_⟩:=r;exact⟨_,e,by simp[Ih]⟩|inst c d=>obtain⟨b,e,q⟩:=r;exact⟨_,q,by simp[Ih]⟩
theorem R.at(r:R w Q ρ N h)(e:N[i]?=J o):∃a,ρ[i]?=J a/\OR w ρ h o a:=by
 have b:i<ρ.length:=by refine U r.len ?_;exact((wb.mp e).1)
 exact⟨ρ[i],Wa b,r.obj i o _ e (Wa b)⟩
theorem R.mem(r:R w Q ρ N h)(d:a∈ρ):∃(i:Nat)(o:O),ρ[i]?=J a/\N[i]?=J o/\OR w ρ h o a:=by
 refine aa λe=>?_;obtain⟨i,b,rfl⟩:=Gj d;refine e ?_;have c:i<N.length:=by refine Ed r.len ?_;exact b
 exact⟨i,N[i],Wa b,Wa c,r.obj i _ _ (Wa c) (Wa b)⟩
theorem R.live(r:R w Q ρ N h)(b:a∈ρ):∃x,h.get? a=J x/\¬Ih x:=by
 refine aa λc=>?_;obtain⟨i,o,_,_,q⟩:=r.mem b;exact c q.get
theorem R.notIn(r:R w Q ρ N h){o:yD}(e:h.get? a=J o)(i:Ih o):a∉ρ:=λc=>by
 obtain⟨x,b,d⟩:=r.live c;rw[e]at b;obtain rfl:=ba b;exact d i
theorem R.notAv(r:R w Q ρ N h)(e:h.get? a=Y):¬Av.av a:=λq=>by obtain⟨o,b,_⟩:=r.avl a q;rw[e]at b;exact ja b
theorem R.wI(r:R w Q ρ N h)(b:∀a o,h.get? a=J o->S.get? a=J o):R w Q ρ N S:=
 ⟨r.len,r.nodup,r.fresh,λa c=>(by obtain⟨o,d,e⟩:=r.avl a c;exact⟨o,b a o d,e⟩),λa o e=>b a o (r.wK a o e),λi o a d f=>(r.obj i o a d f).mono (Ja _) (λa o e u=>b a o e) (b a)⟩
theorem Kp.wI(b:∀a o,h.get? a=J o->S.get? a=J o):Kp eo ρ h S ρ:=
 ⟨Ja _,λu h=>.inl h,λa o e u u=>b a o e,λa o e u=>b a o e,λa e=>by
  obtain⟨o,c⟩:=Na.mp e;refine U (b a o c) ?_;rfl⟩
theorem R.beside(r:R w Q ρ N h){wr:Ca->Prop}(b:∀a o,¬wr a->h.get? a=J o->S.get? a=J o)(c:∀a,wr a->a∉ρ/\Q.get? a=Y/\∀o,h.get? a=J o->¬Ih o):R w Q ρ N S:=
 ⟨r.len,r.nodup,r.fresh,λa f=>(by obtain⟨o,d,e⟩:=r.avl a f;exact⟨o,b a o (λq=>(c a q).2.2 o d e) d,e⟩),λa o e=>b a o (λq=>by rw[(c a q).2.1]at e;exact ja e) (r.wK a o e),λi o a g d=>
  (r.obj i o a g d).mono (Ja _) (λa o e q=>b a o (λz=>(c a z).2.2 o e q) e) λx e=>b a x (λq=>(c a q).1 (Ma d)) e⟩
theorem Kp.beside{wr:Ca->Prop}(b:∀a o,¬wr a->h.get? a=J o->S.get? a=J o)(c:∀a,wr a->(∀o,h.get? a=J o->¬Ih o/\eo a/\(S.get? a).isSome=Z)):Kp eo ρ h S ρ:=
 ⟨Ja _,λu h=>.inl h,λa o e u f=>b a o (λq=>f (c a q o e).2.1) e,λa o e i=>b a o (λq=>(c a q o e).1 i) e,λa e=>by
  obtain⟨o,d⟩:=Na.mp e;by_cases q:wr a
  ·exact(c a q o d).2.2
  ·refine U (b a o q d) ?_;rfl⟩
theorem R.upd(r:R w Q ρ N h)(m:ρ[i]?=J a)(f:∀b x,b≠a->h.get? b=J x->S.get? b=J x)(k:OR w ρ S o a):R w Q ρ (N.set i o) S/\Kp eo ρ h S ρ:=by
 have n:a∈ρ:=Ma m;refine aa λs=>?_;obtain⟨E,g,t⟩:=r.live n;refine s ?_;have c:∀b x,h.get? b=J x->Ih x->S.get? b=J x:=λb x e A=>f b x (λq=>by subst q;rw[e]at g;obtain rfl:=ba g;exact t A) e;refine⟨⟨by refine U yb ?_;exact r.len,r.nodup,r.fresh,λb Q=>(by obtain⟨o,k,d⟩:=r.avl b Q;exact⟨o,c b o k d,d⟩),λb x e=>f b x (λq=>by subst q;rw[r.fresh b n]at e;exact ja e) (r.wK b x e),λj p b d l=>?_⟩,
  Ja _,λu h=>.inl h,λb x e B u=>f b x (λq=>B (q▸n)) e,c,λb e=>?_⟩
 ·by_cases q:i=j
  ·subst q
   rw[m]at l;obtain rfl:=ba l;rw[jl]at d;simp only[if_true]at d
   split at d<;>(first|exact ja d|obtain rfl:=ba d)
   exact k
  ·rw[Xc q]at d
   have y:b≠a:=λz=>by
    subst z;obtain⟨F,C⟩:=wb.mp m;obtain⟨G,D⟩:=wb.mp l;exact q ((iR r.nodup).mp (C.trans D.symm))
   exact(r.obj j p b d l).mono (Ja _) c λx e=>f b x y e
 ·by_cases q:b=a
  ·refine aa λs=>?_
   subst q;obtain⟨x,d,_⟩:=k.get;refine s ?_;refine U d ?_;rfl
  ·obtain⟨x,d⟩:=Na.mp e
   refine U (f b x q d) ?_;rfl
theorem R.new(r:R w Q ρ N h)(d:∀b x,h.get? b=J x->S.get? b=J x)(s:h.get? a=Y)(t:OR w (ρ++[a]) S o a):R w Q (ρ++[a]) (N++[o]) S/\Kp eo ρ h S (ρ++[a]):=by
 have z:Q.get? a=Y:=by
  induction e:Q.get? a with
  |none=>rfl|some x=>have:=r.wK a x e;rw[s]at this;exact ja this
 have m:a∉ρ:=λq=>by obtain⟨x,g,_⟩:=r.live q;rw[s]at g;exact ja g
 refine⟨⟨by simp[r.len],?_,?_,λb Q=>(by obtain⟨o,t,c⟩:=r.avl b Q;exact⟨o,d b o t,c⟩),λb x e=>d b x (r.wK b x e),λj p b c l=>?_⟩,Hc _ _,λb f=>?_,λb x e u u=>d b x e,λb x e u=>d b x e,λb e=>?_⟩
 ·exact U (propext di) (⟨r.nodup,by simp,λx g y k=>by rw[Ra]at k;subst k;exactλq=>m (q▸g)⟩)
 ·intro b f
  rcases Xb.mp f with q|q
  ·exact r.fresh b q
  ·rw[Ra]at q;subst q;exact z
 ·by_cases q:j<N.length
  ·rw[Xa q]at c
   rw[Xa (by refine U r.len ?_;exact q)]at l;exact(r.obj j p b c l).mono (Hc _ _) (λb x e u=>d b x e) λx e=>d b x e
  ·rw[La (ng q)]at c
   rw[La (by refine U r.len ?_;exact ng q),r.len]at l;refine aa λn=>?_
   induction p:j - N.length using Sa with
   |zero=>refine n ?_;clear n;rw[p]at c l;simp at c l;subst c l;exact t|succ k=>refine n ?_;clear n;rw[p]at c;simp at c
 ·rcases Xb.mp f with q|q
  ·exact .inl q
  ·rw[Ra]at q;subst q;exact .inr s
 ·obtain⟨x,g⟩:=Na.mp e
  refine U (d b x g) ?_;rfl
end
section
variable {i n k:Nat} {c a:Ca} {P:Prop} {b:Bool} {r:Om}
theorem Cn{m:X3}{A:Yb}{F:Type}{t:Yl F}{O:F->Ea->Prop}{R:wa->Ea->Prop}{s:Ea}(h:∀(q:F->Ea->Prop)(G:wa->Ea->Prop),(∀a s',O a s'->q a s')->Qa m A t q G s):Qa m A t O R s:=h O R λq q h=>h
variable [e:Av]
noncomputable def xc(m:List Bb)(q:Bb):Option Nat:=match m,q with|[],G=>Y|y::G,x=>match xc G x with|some i=>J (i+1)|none=>if y=x then J 0 else Y
theorem UC{y x:Bb}{m:List Bb}(h:xc (y::m) x=J i):(∃G,xc m x=J G/\i=G+1)\/(y=x/\i=0):=by
 replace h:(match xc m x with|some i=>J (i+1)|none=>if y=x then J 0 else Y)=J i:=h
 induction O:xc m x with
 |some G=>rw[O]at h;exact .inl ⟨G,rfl,(ba h).symm⟩|none=>
  rw[O]at h;by_cases q:y=x
  ·exact .inr ⟨q,(ba ((Dd q).symm.trans h)).symm⟩
  ·exact ja ((fe q).symm.trans h)
theorem Tj{N:List Bb}{x:Bb}:{i:Nat}->xc N x=J i->N[i]?=J x:=by
 induction N with
 |nil=>exactλh=>ja h|cons y m O=>
  intro i h;rcases UC h with⟨q,G,rfl⟩|⟨rfl,rfl⟩
  ·exact O G
  ·rfl
theorem Qy{N:List Bb}{x:Bb}(h:xc N x=J i):i<N.length:=(wb.mp (Tj h)).1
theorem Wk:∀(N own:List Bb)(x:Bb),xc (N++own) x=match xc own x with|some i=>J (N.length+i)|none=>xc N x:=by
 intro N
 induction N with
 |nil=>
  rintro own x;show xc own x=_;induction xc own x with
  |none=>rfl|some i=>exact Gc J (kh i).symm
 |cons y m ih=>
  rintro own x;have R:∀q:List Bb,xc (y::q) x=match xc q x with|some i=>J (i+1)|none=>if y=x then J 0 else Y:=λG=>rfl
  refine U Km (U (R _) (U (R _) (U (ih own x) ?_)))
  induction O:xc own x with
  |some i=>simp only[mc,Bj];lia|none=>rfl
structure KX(L:Ca)(ρ:List Ca)(h u:qb)(B:List Ca):Prop extends Kp (λa=>a=L) ρ h u B where
 ns:∀m,h.Ns L m->u.Ns L m
structure Lc(w:zb)(W:qb)(X:zj)(E:Ca->Prop)(N:List Bb)(lo:Nat)(D:Me)(ρ:List Ca)(h:qb):Prop where
 kind:X.scope.kind=.function
 globals:X.globals=mainGlobals
 builtins:X.builtins=ip
 len:D.length=N.length
 ns:∃m,h.Ns X.locals m/\∀(x:Bb)(i:Nat)(v:V),xc N x=J i->X.kindOf x=J .local->D[i]?=J (J v)->∃S,m x=J S/\VR w ρ h v S
 cells:∀(x:Bb)(i:Nat)(v:V),xc N x=J i->(X.kindOf x=J .cell\/X.kindOf x=J .free)->D[i]?=J (J v)->∃c S,X.cells.lookup x=J c/\h.IsCell c (J S)/\VR w ρ h v S
 loc:X.locals∉ρ/\W.get? X.locals=Y/\E X.locals
 has:∀x k,(x,k)∈X.scope.names->k=.cell\/k=.free->∃c v,X.cells.lookup x=J c/\h.IsCell c v
 apart:X.cells.Pairwise λx y=>x.2≠y.2
 own:∀(x:Bb)(i:Nat),xc N x=J i->lo<=i->X.kindOf x=J .local\/(X.kindOf x=J .cell/\∃c v,X.cells.lookup x=J c/\h.IsCell c v/\W.get? c=Y/\E c)
 eoh:∀a,E a->W.get? a=Y
 eol:∀a,E a->(h.get? a).isSome=Z
section
variable {w:zb} {W h u h'':qb} {ρ B g:List Ca} {K Q:St} {E:Ca->Prop} {L:Ca} {X:zj} {N:List Bb} {lo:Nat} {D:Me}
theorem KX.refl:KX L ρ h h ρ:=⟨Kp.refl,λm n=>n⟩
theorem KX.trans(x:KX L ρ h u B)(y:KX L B u h'' g):KX L ρ h h'' g:=⟨x.toKp.trans y.toKp,λm n=>y.ns m (x.ns m n)⟩
theorem KX.wI(q:∀a o,h.get? a=J o->u.get? a=J o):KX L ρ h u ρ:=⟨Kp.wI q,λm n=>n.keeps q⟩
theorem bJ{v:Option wa}(x:h.IsCell c v):∃o,h.get? c=J o/\¬Ih o:=by
 obtain⟨o,m,q⟩:=x;exact⟨o,m,by simp[Ih,q]⟩
theorem OR.notCell{o:O}(m:OR w ρ h o a){v:Option wa}:¬h.IsCell a v:=λx1=>by
 obtain⟨x,q,G⟩:=x1
 induction o with
 |list xs=>obtain⟨vs,n,R,_⟩:=m;rw[q]at R;obtain rfl:=ba R;cases G|idict es=>obtain⟨o,x3,R,⟨x4,ep,_,d',_⟩,_⟩:=m;rw[q]at R;obtain rfl:=ba R;rw[G]at d';cases d'|h es=>obtain⟨x2,n,R,_⟩:=m;rw[q]at R;obtain rfl:=ba R;cases G|inst c G=>obtain⟨dx,_,R⟩:=m;rw[q]at R;obtain rfl:=ba R;cases G
theorem R.cellNot(m:R w W ρ K h){v:Option wa}(x:h.IsCell c v):c∉ρ:=λq=>by
 obtain⟨i,o,_,_,G⟩:=m.mem q;exact G.notCell x
theorem Mn{m:Bb->Option wa}{v:Option wa}(n:h.Ns L m):¬h.IsCell L v:=λO=>by
 obtain⟨o,q,G⟩:=O;obtain⟨o',es,ep,R,d',_⟩:=n;rw[q]at R;obtain rfl:=ba R;rw[G]at d';cases d'
theorem Lc.kx(G:Lc w W X E N lo D ρ h)(O:R w W ρ K h)(k:KX X.locals ρ h u B):Lc w W X E N lo D B u:=by
 refine aa λnq=>?_;obtain⟨x1,hm,hv⟩:=G.ns;refine nq ?_;have x3:∀c v,h.IsCell c v->u.IsCell c v:=λc v x=>by
  have hn:=O.cellNot x;obtain⟨o,m,q⟩:=x;exact⟨o,k.keep c o m hn λx2=>Mn hm (v:=v) ⟨o,by refine Ed x2 ?_;exact m,q⟩,q⟩
 refine⟨G.kind,G.globals,G.builtins,G.len,⟨x1,k.ns x1 hm,λx i v a b c=>?_⟩,λx i v a b c=>?_,⟨λx2=>?_,G.loc.2⟩,λx k a b=>?_,G.apart,λx i a b=>?_,G.eoh,λa m=>k.live a (G.eol a m)⟩
 ·refine aa λnq=>?_
  obtain⟨S,q,q2⟩:=hv x i v a b c;exact nq (⟨S,q,k.vr q2⟩)
 ·refine aa λnq=>?_
  obtain⟨c,S,q,q2,q3⟩:=G.cells x i v a b c;exact nq (⟨c,S,q,x3 _ _ q2,k.vr q3⟩)
 ·refine aa λnq=>?_
  rcases k.fresh _ x2 with x2|x2
  ·exact nq (G.loc.1 x2)
  ·refine nq ?_
   obtain⟨o,_,_,m,_⟩:=hm;rw[x2]at m;exact ja m
 ·refine aa λnq=>?_
  obtain⟨c,v,q,q2⟩:=G.has x k a b;exact nq (⟨c,v,q,x3 _ _ q2⟩)
 ·refine aa λnq=>?_
  rcases G.own x i a b with x2|⟨x2,c,v,q,q2,q3⟩
  ·exact nq (.inl x2)
  ·exact nq (.inr ⟨x2,c,v,q,x3 _ _ q2,q3⟩)
theorem Lc.wI(m:Lc w W X E N lo D ρ h)(q:R w W ρ K h)(G:∀a o,h.get? a=J o->u.get? a=J o):Lc w W X E N lo D ρ u:=m.kx q (KX.wI G)
theorem R.new'(m:R w W ρ K h){o:O}(G:∀b x,h.get? b=J x->u.get? b=J x)(hn:h.get? a=Y)(ho:OR w (ρ++[a]) u o a):R w W (ρ++[a]) (K++[o]) u/\KX L ρ h u (ρ++[a]):=
 qex (λx y=>⟨x,y,λq n=>n.keeps G⟩) (m.new (eo:=λa=>a=L) G hn ho)
theorem R.upd'(m:R w W ρ K h){o:O}(ea:ρ[i]?=J a)(hk:ff a h u)(ho:OR w ρ u o a)(hL:L∉ρ):R w W ρ (K.set i o) u/\KX L ρ h u ρ:=
 qex (λx y=>⟨x,y,λG n=>n.sameBut hk λq=>hL (q▸Ma ea)⟩) (m.upd (eo:=λa=>a=L) ea (λb x n G=>(hk.2 b n).trans G) ho)
end
def Ah(s s':Ea):Prop:=s'={s with heap:=s'.heap,toks:=s'.toks}
theorem Ah.trans{s s' m:Ea}(a:Ah s s')(b:Ah s' m):Ah s m:=by
 unfold Ah at a b|-;rw[a]at b;exact b
inductive PR{F I:Type}(Rel:List Ca->qb->F->I->Prop)(w:zb)(W:qb)(L:Ca)(ρ:List Ca)(s:Ea)(Q:St)(v:F)(S:I)(s':Ea):Prop
 |mk (B:List Ca):Ah s s'->KX L ρ s.heap s'.heap B->R w W B Q s'.heap->Rel B s'.heap v S->PR Rel w W L ρ s Q v S s'
noncomputable abbrev RB:List Ca->qb->Bool->Bool->Prop:=λm m b q=>q=b
abbrev PV(w:zb)(W:qb)(L:Ca)(ρ:List Ca)(s:Ea)(Q:St)(v:V)(S:wa)(s':Ea):Prop:=PR (VR w) w W L ρ s Q v S s'
abbrev qfx(w:zb)(W:qb)(L:Ca)(ρ:List Ca)(s:Ea)(Q:St)(q:List V)(m:List wa)(s':Ea):Prop:=PR (ue w) w W L ρ s Q q m s'
abbrev PB(w:zb)(W:qb)(L:Ca)(ρ:List Ca)(s:Ea)(Q:St)(b:Bool)(m:Bool)(s':Ea):Prop:=PR RB w W L ρ s Q b m s'
noncomputable abbrev No:wa->Ea->Prop:=λm m=>False
structure Dg(n:Nat)(A:Yb):Prop where
 hh:A.handled=Y
 depth:A.depth+3*n+10<=900
 units:A.units+20*n+200<=9900
theorem Dg.u64{A:Yb}(a:Dg n A):A.units+100<cLine:=by have:=a.units;have:=cLine_is;lia
theorem Dg.room{A:Yb}(a:Dg n A):A.depth<qcQ:=by have:=a.depth;have:qcQ=1000:=rfl;lia
theorem ab{F I:Type}{o:Option F}{f:F->Option I}{b:I}(m:o.bind f=J b)(k:∀a,o=J a->f a=J b->P):P:=by
 obtain⟨a,q,G⟩:=Fa.mp m;exact k a q G
theorem qe{F I:Type}{o:Option F}{f:F->I}{b:I}(m:o.map f=J b)(k:∀a,o=J a->f a=b->P):P:=by
 obtain⟨a,q,G⟩:=ef.mp m;exact k a q G
theorem Iq{F I l:Type}{o:Option F}{f:F->I×l}{v:I}{G:l}{P:I->l->Prop}(m:o.map f=J (v,G))(h:∀a,o=J a->P (f a).1 (f a).2):P v G:=by
 induction o with
 |none=>exact ja m|some a=>
  have q:f a=(v,G):=ba m;obtain⟨rfl,rfl⟩:(f a).1=v/\(f a).2=G:=⟨Gc oj q,Gc WF q⟩;exact h a rfl
theorem yf{m:Unit}(h:Ge b=J m):b=Z:=by induction b<;>first|rfl|exact ja h
def Ga{F I:Type}(m:List Ca->qb->F->I->Prop)(w:zb)(W:qb)(A:Yb)(L:Ca)(ρ:List Ca)(s:Ea)(t:Yl I)(o:Option (F×St)):Prop:=
 ∀v Q,o=J (v,Q)->Qa (bb pg w) A t (PR m w W L ρ s Q v) No s
def et{F I:Type}(q:List Ca->qb->F->I->Prop)(w:zb)(W:qb)(A:Yb)(X:zj)(E:Ca->Prop)(N:List Bb)(lo:Nat)(D:Me)(t:Yl I)(m:St->Option (F×St)):Prop:=
 ∀ρ K s,R w W ρ K s.heap->Lc w W X E N lo D ρ s.heap->Ga q w W A X.locals ρ s t (m K)
abbrev uc(w:zb)(W:qb)(A:Yb)(X:zj)(E:Ca->Prop)(N:List Bb)(lo:Nat)(D:Me)(t:Yl wa)(m:St->Option (V×St)):Prop:=et (VR w) w W A X E N lo D t m
abbrev Vi(w:zb)(W:qb)(A:Yb)(X:zj)(E:Ca->Prop)(N:List Bb)(lo:Nat)(D:Me)(t:Yl (List wa))(m:St->Option (List V×St)):Prop:=et (ue w) w W A X E N lo D t m
abbrev Yg(w:zb)(W:qb)(A:Yb)(X:zj)(E:Ca->Prop)(N:List Bb)(lo:Nat)(D:Me)(t:Yl Bool)(m:St->Option (Bool×St)):Prop:=et RB w W A X E N lo D t m
section
variable {w:zb} {W:qb} {A:Yb} {L:Ca} {ρ C:List Ca} {s s':Ea} {Q:St}
theorem PR.after{F I:Type}{m:List Ca->qb->F->I->Prop}{s1:Ea}(t:Ah s s1)(k:KX L ρ s.heap s1.heap C){v:F}{S:I}(x:PR m w W L C s1 Q v S s'):PR m w W L ρ s Q v S s':=by
 obtain⟨B,q,G,O,R⟩:=x;exact⟨B,t.trans q,k.trans G,O,R⟩
variable {F I l d κ:Type} {R1:List Ca->qb->F->I->Prop} {z:List Ca->qb->l->d->Prop} {f:Yl I} {t:I->Yl d} {T:Yl d} {o:Option (F×St)} {x y:Option (l×St)} {p:Option κ}
abbrev A5(w:zb)(A:Yb)(s:Ea)(f:Yl I)(t:I->Yl d)(T:Yl d):Prop:=∀m,Qa (bb pg w) A f (λb s1=>Qa (bb pg w) A (t b) m No s1) No s->Qa (bb pg w) A T m No s
theorem Ga.bind{k:F×St->Option (l×St)}(O:Ga R1 w W A L ρ s f o)(ht:∀b a C s1 j,KX L ρ s.heap s1.heap C->R w W C j s1.heap->R1 C s1.heap a b->Ga z w W A L C s1 (t b) (k (a,j)))(hT:A5 w A s f t T):Ga z w W A L ρ s T (o.bind k):=
 λv Q m=>ab m λp e1 e2=>hT _ (Da (O p.1 p.2 e1) (λb s1 q=>by
  obtain⟨C,t1,k1,r1,x1⟩:=q;exact Da (ht b p.1 C s1 p.2 k1 r1 x1 v Q e2) (λc G q=>PR.after t1 k1 q) λG G x=>x) λG G x=>x)
theorem Ga.map{m:κ->l×St}(h:∀a,p=J a->Qa (bb pg w) A T (PR z w W L ρ s (m a).2 (m a).1) No s):Ga z w W A L ρ s T (p.map m):=
 λq q G=>Iq (P:=λv O=>Qa (bb pg w) A T (PR z w W L ρ s O v) No s) G h
theorem Ga.opt{k:κ->Option (l×St)}(h:∀a,p=J a->Ga z w W A L ρ s T (k a)):Ga z w W A L ρ s T (p.bind k):=λm m q=>ab q λa G O=>h a G _ _ O
theorem Ga.okb{c:Bool}{k:Unit->Option (l×St)}(h:c=Z->Ga z w W A L ρ s T (k ())):Ga z w W A L ρ s T ((Ge c).bind k):=Ga.opt λm q=>h (yf q)
theorem Ga.ifB{c:Bool}(m:c=Z->Ga z w W A L ρ s T x)(q:c=ua->Ga z w W A L ρ s T y):Ga z w W A L ρ s T (ln c x y):=by
 induction c with
 |true=>exact m rfl|false=>exact q rfl
theorem Ga.ret{v:l}{G:St}(h:Qa (bb pg w) A T (PR z w W L ρ s G v) No s):Ga z w W A L ρ s T (J (v,G)):=λm m q=>by
 obtain⟨rfl,rfl⟩:=Ta (ba q);exact h
theorem Ga.no:Ga z w W A L ρ s T Y:=λm m q=>ja q
theorem Ga.of{q:Yl d}(h:Ga z w W A L ρ s q x)(hT:∀m,Qa (bb pg w) A q m No s->Qa (bb pg w) A T m No s):Ga z w W A L ρ s T x:=λv Q m=>hT _ (h v Q m)
end
variable {w:zb} {W:qb} {L:Ca} {ρ C:List Ca} {K j Q:St} {s s1:Ea} {v:V} {S:wa} {A:Yb} {X:zj} {E:Ca->Prop} {N:List Bb} {lo:Nat} {D:Me}
theorem PV.same{q:Nat}(m:R w W ρ K s.heap)(x:VR w ρ s.heap v S):PV w W L ρ s K v S {s with toks:=q}:=⟨ρ,rfl,.refl,m,x⟩
theorem PV.wU(m:R w W ρ K s.heap)(x:VR w ρ s.heap v S):PV w W L ρ s K v S s:=⟨ρ,rfl,.refl,m,x⟩
theorem PB.wU(m:R w W ρ K s.heap):PB w W L ρ s K b b s:=⟨ρ,rfl,.refl,m,rfl⟩
theorem PR.id{F I:Type}{G:List Ca->qb->F->I->Prop}{x:F}{y:I}(m:R w W ρ K s.heap)(q:G ρ s.heap x y):PR G w W L ρ s K x y s:=⟨ρ,rfl,.refl,m,q⟩
theorem P2{x:Bb}(hs:xc N x=J i)(R:X.kindOf x=J .local\/X.kindOf x=J .cell\/X.kindOf x=J .free)(hd:(x==("__debug__":Bb))=ua)(x1:(x==("__classdict__":Bb))=ua):
 uc w W A X E N lo D (yc (.Name x r) X) (λK=>(Zk D i).map λv=>(v,K)):=λρ K s q G=>Ga.map λv O=>wpAny_Name (by
 refine aa λnq=>?_;obtain⟨_,e1,rfl⟩:=Fa.mp O;refine nq ?_;rcases R with R|R|R
 ·refine aa λnq=>?_
  obtain⟨m,x2,hv⟩:=G.ns;obtain⟨S,q1,q2⟩:=hv x i _ hs R e1;exact nq (UV G.kind R x2 q1 (PV.wU q q2))
 ·obtain⟨c,S,q1,q2,m⟩:=G.cells x i _ hs (.inl R) e1
  exact wpAny_loadName_cell G.kind R q1 q2 (PV.wU q m)
 ·obtain⟨c,S,q1,q2,m⟩:=G.cells x i _ hs (.inr R) e1
  exact GX G.kind R q1 q2 (PV.wU q m) x1) hd
theorem bZ{i:Int}:uc w W A X E N lo D (yc (.Constant (.int i) k r) X) (λK=>J (.int i,K)):=λm m m q m=>Ga.ret (U2 (PV.same q (.int _ _)))
theorem C1{i:Bb}:uc w W A X E N lo D (yc (.Constant (.str i) k r) X) (λK=>J (.str i,K)):=λm m m q m=>Ga.ret (Vw (PV.same q (.str _ _)))
theorem rS{i:Bool}:uc w W A X E N lo D (yc (.Constant (.bool i) k r) X) (λK=>J (.bool i,K)):=λm m m q m=>Ga.ret (wpAny_Constant_bool (PV.wU q (.bool _)))
theorem iU:uc w W A X E N lo D (yc (.Constant .none k r) X) (λK=>J (.none,K)):=λm m m q m=>Ga.ret (wpAny_Constant_none (PV.wU q .none))
theorem Rw{F I:Type}{z:List Ca->qb->F->I->Prop}{f m:Yl wa}{O G:St->Option (V×St)}{q:V×St->V×St->Option (F×St)}{t:wa->wa->Yl I}{T:Yl I}
 (hf:uc w W A X E N lo D f O)(hg:uc w W A X E N lo D m G)
 (ht:∀a b e bv ρ K s τ,R w W ρ K s.heap->Lc w W X E N lo D ρ s.heap->VR w ρ s.heap e a->VR w ρ s.heap bv b->Ga z w W A X.locals ρ s (t a b) (q (e,τ) (bv,K)))
 (hT:∀(x3:I->Ea->Prop) s,Qa (bb pg w) A f (λa s1=>Qa (bb pg w) A m (λb s2=>Qa (bb pg w) A (t a b) x3 No s2) No s1) No s->Qa (bb pg w) A T x3 No s):
 et z w W A X E N lo D T (λK=>(O K).bind λp=>(G p.2).bind (q p)):=λρ K s x4 x5 v Q x6=>ab x6 λp e1 e2=>ab e2 λx8 e3 e4=>hT _ _ (Da (hf ρ K s x4 x5 p.1 p.2 e1) (λa s1 p1=>by
 obtain⟨C,t1,k1,r1,x1⟩:=p1;have E1:=x5.kx x4 k1;refine Da (hg C p.2 s1 r1 E1 x8.1 x8.2 e3) (λb s2 p2=>?_) λx7 x7 x=>x;obtain⟨x9,t2,k2,r2,x2⟩:=p2;exact Da (ht a b p.1 x8.1 x9 x8.2 s2 p.2 r2 (E1.kx r1 k2) (k2.vr x1) x2 v Q e4) (λc s3 p3=>PR.after t1 k1 (PR.after t2 k2 p3)) λx7 x7 x=>x) λx7 x7 x=>x)
theorem Js{F I x1 x2:Type}{R1:List Ca->qb->x1->x2->Prop}{z:List Ca->qb->F->I->Prop}{f:Yl x2}{m:St->Option (x1×St)}{q:x1×St->Option (F×St)}{t:x2->Yl I}{T:Yl I}
 (hf:et R1 w W A X E N lo D f m)
 (ht:∀a e ρ K s,R w W ρ K s.heap->Lc w W X E N lo D ρ s.heap->R1 ρ s.heap e a->Ga z w W A X.locals ρ s (t a) (q (e,K)))
 (hT:∀s,A5 w A s f t T):
 et z w W A X E N lo D T (λK=>(m K).bind q):=λρ K s G O=>(hf ρ K s G O).bind (λb a C s1 j k r1 x=>ht b a C j s1 r1 (O.kx G k) x) (hT s)
end
section
variable {i m:Nat} {N:List V} {O:List wa} {d:Vf} {K:yr} {b:Bool}
variable [I:Av]
theorem xB{v:V}{i:Int}(h:oh v=J i):v=.int i:=by induction v using V.casesOn<;>first|exact ja h|exact Gc V.int (ba h)
theorem gv{v:V}{i:Bool}(h:gp v=J i):v=.bool i:=by induction v using V.casesOn<;>first|exact ja h|exact Gc V.bool (ba h)
theorem Sh{v:V}(h:tw v=J i):v=.ref i:=by induction v using V.casesOn<;>first|exact ja h|exact Gc V.ref (ba h)
theorem Vl{v:V}{i:List V}(h:zx v=J i):v=.t i:=by induction v using V.casesOn<;>first|exact ja h|exact Gc V.t (ba h)
theorem dD{v:V}{i:Bb}(h:jK v=J i):v=.str i:=by induction v using V.casesOn<;>first|exact ja h|exact Gc V.str (ba h)
theorem GB{T:St}(h:tc T i=J N):T[i]?=J (.list N):=by
 refine Vg h λo e c=>?_
 induction o with
 |list f=>exact e.trans (Gc _ (Gc _ (ba c)))|_=>exact ja c
variable {w:zb} {S h:qb} {L:Ca} {X:List Ca} {T G:St} {s:Ea} {v u:V} {W a Q:wa} {A:Yb} {n:Nat}
theorem VR.wZ(x:VR w X h v W){i:Int}(e:oh v=J i):∃t,W=.int i t:=(xB e▸x:VR w X h (.int i) W).wF
theorem R.list(r:R w S X T h){W:wa}(e:tc T i=J N)(x:VR w X h (.ref i) W):
 ∃a O m,W=.ref a/\X[i]?=J a/\h.get? a=J (listOf O.toArray m)/\N.length<=4096/\ue w X h N O:=by
 refine aa λf=>?_;obtain⟨a,g,c⟩:=x.wF;obtain⟨O,m,z⟩:=r.obj i _ a (GB e) c;exact f (⟨a,O,m,g,c,z⟩)
theorem ve{a:Ca}(e:h.get? a=J (listOf O.toArray m)):h.IsList a O.toArray:=⟨_,e,rfl,_,rfl⟩
theorem gB(x:VR w X h v W)(e:fB v=J d):(∃as,qfy h W d as)/\d.canLay0=Z/\d.depth=0:=by
 have y:=x.wF;refine aa λnq=>?_
 induction v using V.casesOn with
 |none=>refine nq ?_;clear nq;exact ba e▸y▸⟨⟨_,.none⟩,rfl,rfl⟩|bool b=>refine nq ?_;clear nq;exact ba e▸y▸⟨⟨_,.bool b⟩,rfl,rfl⟩|int i=>refine nq ?_;clear nq;obtain⟨t,rfl⟩:=y;exact ba e▸⟨⟨_,.int i t⟩,rfl,rfl⟩|str s=>
  refine nq ?_;clear nq;obtain⟨t,rfl⟩:=y;replace e:(if Ip s=Z then J (Vf.str s)else Y)=J d:=e
  split at e
  ·rename_i c;exact ba e▸⟨⟨_,.str s t⟩,iK c,rfl⟩
  ·exact ja e
 |_=>refine nq ?_;clear nq;exact ja e
def OK(w:zb)(X:List Ca)(h:qb)(n:Nat)(f:V->Option Vf):Prop:=∀v W d,VR w X h v W->f v=J d->(∃as,qfy h W d as)/\d.canLay0=Z/\d.depth<=n
theorem Mr{f:V->Option Vf}(j:OK w X h n f){c:List wa}(x:ue w X h N c):∀{g},om f N=J g->(∃as,ReadsAll h c g as)/\Th g=Z/\zh g<=n:=
 x.ind (P:=λN c=>∀{g},om f N=J g->(∃as,ReadsAll h c g as)/\Th g=Z/\zh g<=n)
  (λe=>ba e▸⟨⟨_,.nil⟩,rfl,td _⟩) λu u u u a u t u e=>by
   refine aa λk=>(Vg e λd l o=>?_);refine Hs o λg p z=>?_;subst z;obtain⟨⟨_,q⟩,r,y⟩:=j _ _ _ a l;obtain⟨⟨_,B⟩,C,D⟩:=t p;exact k (⟨⟨_,.cons q B⟩,Aa.mpr ⟨r,C⟩,qbh.mpr ⟨y,D⟩⟩)
theorem su(r:R w S X T h):∀n:Nat,OK w X h n λv=>nv n v T:=by
 intro n
 induction n with
 |zero=>
  exactλu u u x e=>have z:=gB x e;⟨z.1,z.2.1,Fd z.2.2⟩
 |succ n o=>
  exactλv W d x e=>by
   have p:fB v=J d->(∃as,qfy h W d as)/\d.canLay0=Z/\d.depth<=n+1:=λe=>have z:=gB x e;⟨z.1,z.2.1,Za (Fd z.2.2) (td _)⟩;refine aa λc=>?_
   induction v using V.casesOn with
   |t N=>
    refine c ?_;clear c;refine aa λc=>?_;refine Hs e λq f y=>?_;subst y;obtain⟨a,O,m,rfl,_,g,_,z⟩:=x.wF;obtain⟨⟨_,j⟩,k,l⟩:=Mr (o) z f;refine c ?_;clear c;exact⟨⟨_,reads_tuple_at g rfl rfl j⟩,k,sf l⟩
   |ref i=>
    refine c ?_;clear c;refine aa λc=>(Vg e λN t B=>?_);refine Hs B λq f y=>?_;subst y;obtain⟨a,O,m,rfl,_,g,_,z⟩:=r.list t x;obtain⟨⟨_,j⟩,k,l⟩:=Mr (o) z f;refine c ?_;clear c;exact⟨⟨_,XJ g rfl rfl j⟩,k,sf l⟩
   |_=>refine c ?_;clear c;exact p e
theorem pk(c:d.canLay0=Z)(e:d.depth<=6):YX d=Z:=by
 simp only[YX,c,xA,decide_eq_true_eq];lia
def qbk(w:zb)(X:List Ca)(h:qb)(z:List V)(y:List wa):Prop:=match z,y with|[],O=>O=[]|x::N,O=>∃u c,O=u::c/\VR w X h x u/\ue w X h N c
theorem ue.wF(q:ue w X h N O):qbk w X h N O:=q.ind rfl λy y u c a t y=>⟨u,c,rfl,a,t⟩
theorem Fy{g:Type} [DecidableEq g]{look:List (g×V)->g->Option V}(o:∀k,look [] k=Y)(t:∀p r k,look (p::r) k=if p.1=k then J p.2 else look r k){j:List (g×V)}{f:List (g×wa)}(l:f.map (λx=>x.1)=j.map λx=>x.1)(r:ue w X h (j.map λx=>x.2) (f.map λx=>x.2))(k:g):
 (look j k=Y/\Wl f k=Y)\/∃x W,look j k=J x/\Wl f k=J W/\VR w X h x W:=by
 induction j generalizing f with
 |nil=>induction f using ma with|nil=>exact .inl ⟨o k,rfl⟩|cons u y=>exact zc l (Bc _ _)
 |cons p j y=>
  induction f using ma with
  |nil=>exact zc l.symm (Bc _ _)|cons q f=>
   refine aa λz=>?_;obtain⟨_,_,e,a,b⟩:=r.wF;cases e;refine z ?_;have B:Wl (q::f) k=if q.1=k then J q.2 else Wl f k:=by
    unfold Wl;refine U qn ?_;by_cases c:q.1=k
    ·refine U (Dd c) (U (decide_eq_true c) ?_);rfl
    ·exact U (fe c) (U (decide_eq_false c) rfl)
   refine U B (U (t _ _ _) (U (Xd l:q.1=p.1) ?_));by_cases c:p.1=k
   ·exact U (Dd c) (U (Dd c) (.inr ⟨_,_,rfl,rfl,a⟩))
   ·exact U (fe c) (U (fe c) (y (wd l) b))
theorem Ov{e:List (Int×V)}{c:List (Int×wa)}(f:c.map (λx=>x.1)=e.map λx=>x.1)(g:ue w X h (e.map λx=>x.2) (c.map λx=>x.2))(k:Int):
 (Qm e k=Y/\Wl c k=Y)\/∃x W,Qm e k=J x/\Wl c k=J W/\VR w X h x W:=Fy (look:=Qm) (λu=>rfl) (λu u u=>rfl) f g k
theorem GJ{e:List (Int×V)}{c:List (Int×wa)}(j:c.map (λx=>x.1)=e.map λx=>x.1)(l:ue w X h (e.map λx=>x.2) (c.map λx=>x.2))(k:Int):(Wl c k).isSome=(Qm e k).isSome:=by
 rcases Ov j l k with⟨f,g⟩|⟨x,W,f,g,_⟩<;>refine U f (U g ?_)<;>rfl
theorem R.notMods(r:R w S X T h)(c:S.get? sysModules≠Y){a:Ca}(e:a∈X):(a==sysModules)=ua:=
 beq_eq_false_iff_ne.mpr λq=>c (q▸r.fresh _ e)
theorem Rv{a:Ca}{o:yD}{c:List (Int×wa)}(e:h.get? a=J o)(d:o.IsDictOf (ig pg w) c):h.MapOf (ig pg w) a (Wl c):=
 (Mf.mpr ⟨o,e,d⟩).mapOf
abbrev RX(w:zb)(S:qb)(A:Yb)(L:Ca)(X:List Ca)(T:St)(s:Ea)(K:yr)(a Q:wa)(o:Option Bool):Prop:=∀b,o=J b->Qa (bb pg w) A (dg K a Q) (PV w S L X s T (.bool b)) No s
theorem wu{f:Int->Int->Bool}(c:VR w X s.heap v a)(g:VR w X s.heap u Q)(h:∀i j t e,Qa (bb pg w) A (dg K (.int i t) (.int j e)) (PV w S L X s T (.bool (f i j))) No s):RX w S A L X T s K a Q (Jv f v u):=λb e=>by
 refine Vg e λi k l=>?_;refine Hs l λj o z=>?_;subst z;obtain⟨_,rfl⟩:=c.wZ k;obtain⟨_,rfl⟩:=g.wZ o;exact h _ _ _ _
theorem BW(g:Dg n A)(r:R w S X T s.heap)(t:VR w X s.heap v a)(B:VR w X s.heap u Q):RX w S A L X T s .Eq a Q (u4 v u T)/\RX w S A L X T s .NotEq a Q ((u4 v u T).map λx=> !x):=by
 have c:∀b,u4 v u T=J b->Qa (bb pg w) A (dg .Eq a Q) (PV w S L X s T (.bool b)) No s/\Qa (bb pg w) A (dg .NotEq a Q) (PV w S L X s T (.bool !b)) No s:=λb e=>by
  refine Vg e λd f x=>?_;refine Hs x λC y z=>?_;subst z;obtain⟨⟨_,j⟩,k,l⟩:=su r 6 _ _ _ t f;obtain⟨⟨_,o⟩,p,q⟩:=su r 6 _ _ _ B y;exact⟨eq_dataH j o (pk k l) (pk p q) (ib (by lia) g.u64) (PV.wU r (.bool _)),ne_dataH j o (pk k l) (pk p q) (ib (by lia) g.u64) (PV.wU r (.bool _))⟩
 exact⟨λb e=>(c b e).1,λb e=>by
  refine Hs e λy f z=>?_;subst z;exact(c _ f).2⟩
theorem kN(p:Dg n A)(r:R w S X T s.heap){c:Ca}(f:s.heap.get? c=J (listOf O.toArray m))(z:ue w X s.heap N O){as:List Ca}(g:qfy s.heap a d as)(j:d.canLay0=Z)(q:d.depth<=5)(e:uT d N T=J b):
 Qa (bb pg w) A (dg .In a (.ref c)) (PV w S L X s T (.bool b)) No s/\Qa (bb pg w) A (dg .NotIn a (.ref c)) (PV w S L X s T (.bool !b)) No s:=by
 refine aa λt=>?_;refine Hs e λx B y=>?_;subst y;obtain⟨⟨_,k⟩,l,C⟩:=Mr (su r 5) z B;refine t ?_;have o:A.units+1+min (zh x) d.depth<cLine:=ib (Kk (Zj (Gb 1) _) (Za (Nat.min_le_right _ _) q)) (ib (Qf (by lia:A.units+1+5<A.units+100+1)) p.u64);exact⟨SeqAt.in_list_reads (XJ f rfl rfl k) g l j o (PV.wU r (.bool _)),SeqAt.notIn_list_reads (XJ f rfl rfl k) g l j o (PV.wU r (.bool _))⟩
theorem PW(hm:S.get? sysModules≠Y)(B:Dg n A)(r:R w S X T s.heap)(q:VR w X s.heap v a)(C:VR w X s.heap u Q)(e:qaA v u T=J b):
 Qa (bb pg w) A (dg .In a Q) (PV w S L X s T (.bool b)) No s/\(∀k,v=.int k->Qa (bb pg w) A (dg .NotIn a Q) (PV w S L X s T (.bool !b)) No s):=by
 refine aa λf=>(Vg e λi e1 e2=>(Vg e2 λo D g=>?_));rw[Sh e1]at C;obtain⟨c,rfl,x⟩:=C.wF;refine f ?_;clear f;refine aa λf=>?_
 induction o with
 |list N=>
  refine f ?_;clear f;refine aa λf=>?_;obtain⟨O,m,l,_,p⟩:=r.obj i _ c D x;refine f ?_;clear f
  induction v using V.casesOn with
  |int k=>
   obtain⟨t,rfl⟩:=q.wF;exact(kN B r l p (.int k t) rfl (td _) g).imp_right λz y y=>z
  |t ys=>
   refine aa λf=>(Vg g λd z j=>?_);obtain⟨⟨_,E⟩,F,P⟩:=su r 5 _ _ _ q z;refine f ?_;clear f;exact⟨(kN B r l p E F P j).1,λy h=>nomatch h⟩
  |_=>exact ja g
 |idict es=>
  refine f ?_;clear f;refine aa λf=>?_;refine Hs g λk z j=>?_;subst j;obtain⟨t,rfl⟩:=q.wZ z;obtain⟨o,x1,l,E,p,q4,q5⟩:=r.obj i _ c D x;refine f ?_;clear f;have F:Ho k (.int k t)=Z:=decide_eq_true rfl;have P:=r.notMods hm (Ma x);exact Ed (GJ p q4 _) (⟨wpAny_in_of (knd:=ig pg w) (k:=k) F P (Rv l E) (PV.same r (.bool _)),λy y=>wpAny_notIn_of (knd:=ig pg w) (k:=k) F P (Rv l E) (PV.same r (.bool _))⟩)
 |_=>refine f ?_;clear f;exact ja g
theorem OB(c:VR w X s.heap v a)(e:jH v=J b):b=(a== .none):=by
 have y:=c.wF
 induction v using V.casesOn with
 |none=>rw[(y:a=.none)];exact(ba e).symm|bool=>exact y▸(ba e).symm|int=>obtain⟨_,rfl⟩:=y;exact(ba e).symm|ref=>obtain⟨_,rfl,_⟩:=y;exact(ba e).symm|t=>obtain⟨_,_,_,rfl,_⟩:=y;exact(ba e).symm|_=>exact ja e
theorem XD{I j:V}{a Q:wa}(o:S.get? sysModules≠Y)(l:Dg n A)(r:R w S X T s.heap)(c:VR w X s.heap I a)(f:VR w X s.heap j Q)
 (e:lq K I j T=J b):Qa (bb pg w) A (dg K a Q) (PV w S L X s T (.bool b)) No s:=by
 induction K with
 |Lt=>exact wu c f (λu u u u=>lt_int (PV.wU r (.bool _))) b e|LtE=>exact wu c f (λu u u u=>le_int (PV.wU r (.bool _))) b e|Gt=>exact wu c f (λu u u u=>gt_int (PV.wU r (.bool _))) b e|GtE=>exact wu c f (λu u u u=>ge_int (PV.wU r (.bool _))) b e|Eq=>exact(BW l r c f).1 b e|NotEq=>exact(BW l r c f).2 b e|In=>exact(PW o l r c f e).1|NotIn=>
  refine Vg e λk g p=>?_;refine Hs p λb q z=>?_;subst z;exact(PW o l r (xB g▸c) f q).2 k rfl
 |Is=>
  induction j using V.casesOn with
  |none=>rw[OB c e,(f.wF:Q=.none)];exact is_none (PV.wU r (.bool _))|_=>exact ja e
 |IsNot=>
  induction j using V.casesOn with
  |none=>
   refine aa λk=>?_;refine Hs e λb g z=>?_;subst z;refine k ?_;rw[OB c g,(f.wF:Q=.none)];exact isNot_none (PV.wU r (.bool _))
  |bool y=>
   refine Hs e λx g z=>?_;subst z;rw[((gv g▸c:VR w X s.heap (.bool x) a).wF:a=.bool x),(f.wF:Q=.bool y)];exact wpAny_isNot_plain rfl (by
    have:(!(K5 x==K5 y))=(x !=y):=by induction x<;>induction y<;>rfl
    refine U this ?_;exact PV.wU r (.bool _))
  |_=>exact ja e
end
section
variable {o o':yD} {D:Ca} {i k tk':Nat} {G:Type} {N F:List V} {T:Yl wa} {vs:List wa}
variable [K:Av]
noncomputable abbrev hE:qb:={}
theorem LG(a:Ca):hE.get? a=Y:=by simp[qbd]
noncomputable def Ai(h:qb)(L:Ca):List (Ca×yD):=(Ka h.objs.size).filterMap λa=>if a=L then Y else(h.get? a).map λo=>(a,o)
theorem we{h:qb}{L:Ca}{a:Ca}:(a,o)∈Ai h L↔a≠L/\h.get? a=J o:=by
 unfold Ai;refine U (propext List.mem_filterMap) ?_
 constructor
 ·rintro⟨b,_,e⟩
  split at e
  ·exact ja e
  ·rename_i n
   induction q:h.get? b with
   |none=>rw[q]at e;exact ja e|some o'=>rw[q]at e;obtain⟨rfl,rfl⟩:=Ta (ba e);exact⟨n,q⟩
 ·rintro⟨n,e⟩
  exact⟨a,bc.mpr (qc e),by refine U (fe n) (U e ?_);rfl⟩
theorem cj{h:qb}{L:Ca}{m}(n:h.Ns L m):Fr hE L h m:=⟨n,λb o e=>(by rw[LG]at e;exact ja e),td _⟩
theorem ug{h:qb}{L:Ca}:News hE L h (Ai h L):=λp c=>by
 obtain⟨a,o⟩:=p;obtain⟨n,e⟩:=we.mp c;exact⟨e,n,LG _⟩
theorem Tq{h:qb}{L:Ca}:(Ai h L).Pairwise λp q=>p.1≠q.1:=by
 unfold Ai;refine U (propext List.pairwise_filterMap) ((List.nodup_range (n:=h.objs.size)).imp λ{a b} e p c q d=>?_);replace c:(if a=L then Y else(h.get? a).map λo=>(a,o))=J p:=c;replace d:(if b=L then Y else(h.get? b).map λo=>(b,o))=J q:=d
 split at c
 ·exact ja c
 split at d
 ·exact ja d
 induction f:h.get? a with
 |none=>rw[f]at c;exact ja c|some j=>
  induction g:h.get? b with
  |none=>rw[g]at d;exact ja d|some l=>rw[f]at c;rw[g]at d;obtain rfl:=ba c;obtain rfl:=ba d;exact e
theorem G2:{d:List (Ca×yD)}->(d.Pairwise λp q=>p.1≠q.1)->(D,o)∈d->∃f,Upd D o o' d f/\(D,o')∈f/\∀p∈d,p.1≠D->p∈f:=by
 intro d
 induction d with
 |nil=>
  rintro _ m;cases m
 |cons p r x=>
  rintro j m;rw[zg]at j;rcases fb.mp m with e|e
  ·subst e
   exact⟨(D,o')::r,.head λq g=>(j.1 q g).symm,sa,λq g n=>by
    rcases fb.mp g with e|e
    ·subst e;exact zc rfl n
    ·exact oa _ e⟩
  ·refine aa λl=>?_
   obtain⟨O,c,a,b⟩:=x j.2 e;refine l ?_;clear l;exact⟨p::O,.tail (j.1 _ e) c,oa _ a,λq g n=>by
    rcases fb.mp g with e|e
    ·subst e;exact sa
    ·exact oa _ (b q e n)⟩
theorem Fu{h:qb}{L:Ca}(e:h.get? D=J o)(n:D≠L):∃c,Upd D o o' (Ai h L) c/\(D,o')∈c/\∀p∈Ai h L,p.1≠D->p∈c:=
 G2 Tq (we.mpr ⟨n,e⟩)
theorem RZ{h:qb}{L:Ca}{m m'}(a:h.Ns L m)(b:h.Ns L m'):m=m':=by
 refine aa λg=>?_;obtain⟨o,r,O,e,d,_,q⟩:=a;obtain⟨o',j,l,c,f,_,p⟩:=b;refine g ?_;rw[e]at c;obtain rfl:=ba c;rw[d]at f;cases f
 funext x;exact Ed (q _) (Ed (p _) rfl)
structure Um(W:qb)(L:Ca)(ρ:List Ca)(h:qb):Prop where
 ns:∃m,h.Ns L m
 out:L∉ρ
 wK:W.get? L=Y
theorem Bg{h:qb}{L:Ca}{m}(n:h.Ns L m)(e:h.get? L=J o):¬Ih o:=by
 refine aa λf=>?_;obtain⟨o',g,j,c,d,_⟩:=n;refine f ?_;rw[e]at c;obtain rfl:=ba c;simp[Ih,d]
section
variable {w:zb} {W h S:qb} {ρ E:List Ca} {Q X:St} {L:Ca} {B:zj} {z:Ca->Prop} {u:List Bb} {lo:Nat} {y:Me}
theorem Lc.lok(c:Lc w W B z u lo y ρ h):Um W B.locals ρ h:=⟨c.ns.elim λm a=>⟨m,a.1⟩,c.loc.1,c.loc.2.1⟩
theorem KX.ofNs{m}(e:h.Ns L m)(c:S.Ns L m):∀d,h.Ns L d->S.Ns L d:=λd q=>by refine U (RZ q e) ?_;exact c
theorem Kp.ofBut(d:∀a o,a≠L->h.get? a=J o->S.get? a=J o){m}(g:h.Ns L m)(f:S.Ns L m):Kp (λa=>a=L) ρ h S ρ:=
 ⟨Ja _,λc h=>.inl h,λa o e c n=>d a o n e,λa o e i=>d a o (λq=>by subst q;exact Bg g e i) e,λa e=>by
  obtain⟨o,j⟩:=Na.mp e;by_cases q:a=L
  ·subst q;obtain⟨o',_,_,l,_⟩:=f;refine U l ?_;rfl
  ·refine U (d a o q j) ?_;rfl⟩
theorem KX.ofBut(e:∀a o,a≠L->h.get? a=J o->S.get? a=J o){m}(d:h.Ns L m)(c:S.Ns L m):KX L ρ h S ρ:=⟨Kp.ofBut e d c,KX.ofNs d c⟩
theorem R.ofBut(r:R w W ρ Q h)(l:Um W L ρ h)(c:∀a o,a≠L->h.get? a=J o->S.get? a=J o):R w W ρ Q S:=by
 obtain⟨m,d⟩:=l.ns;exact r.beside (wr:=λa=>a=L) (λa o n e=>c a o n e) λa q=>by subst q;exact⟨l.out,l.wK,λo e=>Bg d e⟩
theorem R.newL(r:R w W ρ Q h)(l:Um W L ρ h){a:Ca}{o:O}{m}(hn:h.Ns L m)(x1:S.Ns L m)(hk:∀b x,b≠L->h.get? b=J x->S.get? b=J x)(ha:h.get? a=Y)(ho:OR w (ρ++[a]) S o a):
 R w W (ρ++[a]) (Q++[o]) S/\KX L ρ h S (ρ++[a]):=by
 have k:KX L ρ h S ρ:=KX.ofBut hk hn x1;have r':R w W ρ Q S:=r.ofBut l hk;have x2:W.get? a=Y:=by
  induction e:W.get? a with
  |none=>rfl|some x=>have:=r.wK a x e;rw[ha]at this;exact ja this
 have P:a∉ρ:=λq=>by obtain⟨x,hx,_⟩:=r.live q;rw[ha]at hx;exact ja hx
 refine⟨⟨by simp[r.len],?_,?_,r'.avl,r'.wK,λj p b d g=>?_⟩,⟨Hc _ _,λb f=>?_,λb x e c n2=>k.keep b x e c n2,k.imm,k.live⟩,k.ns⟩
 ·exact U (propext di) (⟨r.nodup,by simp,λx hx c hy=>by rw[Ra]at hy;subst hy;exactλq=>P (q▸hx)⟩)
 ·intro b f
  rcases Xb.mp f with q|q
  ·exact r.fresh b q
  ·rw[Ra]at q;subst q;exact x2
 ·by_cases q:j<Q.length
  ·rw[Xa q]at d
   rw[Xa (by refine U r.len ?_;exact q)]at g;exact(r'.obj j p b d g).mono (Hc _ _) (λb x e c=>e) λx e=>e
  ·rw[La (ng q)]at d
   rw[La (by refine U r.len ?_;exact ng q),r.len]at g;refine aa λe=>?_
   induction p:j - Q.length using Sa with
   |zero=>refine e ?_;clear e;rw[p]at d g;simp at d g;subst d g;exact ho|succ c=>refine e ?_;clear e;rw[p]at d;simp at d
 ·rcases Xb.mp f with q|q
  ·exact .inl q
  ·rw[Ra]at q;subst q;exact .inr ha
theorem R.updL(r:R w W ρ Q h)(l:Um W L ρ h){a:Ca}{o:O}{m}(ea:ρ[i]?=J a)(hn:h.Ns L m)(P:S.Ns L m)(hk:∀b x,b≠L->b≠a->h.get? b=J x->S.get? b=J x)(ho:OR w ρ S o a):
 R w W ρ (Q.set i o) S/\KX L ρ h S ρ:=by
 have ha:a∈ρ:=Ma ea;refine aa λnq=>?_;obtain⟨xa,x1,x2⟩:=r.live ha;refine nq ?_;clear nq;have f:∀b x,h.get? b=J x->Ih x->S.get? b=J x:=λb x e im=>
  hk b x (λq=>by subst q;exact Bg hn e im) (λq=>by subst q;rw[e]at x1;obtain rfl:=ba x1;exact x2 im) e
 refine⟨⟨by refine U yb ?_;exact r.len,r.nodup,r.fresh,λb W=>(by obtain⟨o,ho,c⟩:=r.avl b W;exact⟨o,f b o ho c,c⟩),λb x e=>hk b x (λq=>by subst q;rw[l.wK]at e;exact ja e) (λq=>by subst q;rw[r.fresh b ha]at e;exact ja e) (r.wK b x e),λj p b g e2=>?_⟩,
  ⟨Ja _,λc h=>.inl h,λb x e n1 n2=>hk b x n2 (λq=>n1 (q▸ha)) e,f,λb e=>?_⟩,KX.ofNs hn P⟩
 ·by_cases q:i=j
  ·subst q
   rw[ea]at e2;obtain rfl:=ba e2;rw[jl]at g;simp only[if_true]at g
   split at g<;>(first|exact ja g|obtain rfl:=ba g)
   exact ho
  ·rw[Xc q]at g
   have x3:b≠a:=λd=>by
    subst d;obtain⟨h1,h2⟩:=wb.mp ea;obtain⟨h3,h4⟩:=wb.mp e2;exact q ((iR r.nodup).mp (h2.trans h4.symm))
   exact(r.obj j p b g e2).mono (Ja _) f λx e=>hk b x (λd=>by subst d;exact l.out (Ma e2)) x3 e
 ·obtain⟨x,d⟩:=Na.mp e
  by_cases q:b=a
  ·subst q
   obtain⟨x,d,_⟩:=ho.get;refine U d ?_;rfl
  ·by_cases g:b=L
   ·subst g;obtain⟨o',_,_,j,_⟩:=P;refine U j ?_;rfl
   ·refine U (hk b x g q d) ?_;rfl
theorem Fr.now{m}(c:Fr hE L h m):h.Ns L m:=c.ns
theorem News.keepAll(c:News hE L S (Ai h L)):∀b x,b≠L->h.get? b=J x->S.get? b=J x:=λb x n e=>(c (b,x) (we.mpr ⟨n,e⟩)).1
theorem News.keepAll1{p:Ca×yD}(c:News hE L S (p::Ai h L)):∀b x,b≠L->h.get? b=J x->S.get? b=J x:=λb x n e=>(c (b,x) (oa _ (we.mpr ⟨n,e⟩))).1
theorem News.keepUpd{d:List (Ca×yD)}(c:News hE L S d)(q:∀p∈Ai h L,p.1≠D->p∈d):∀b x,b≠L->b≠D->h.get? b=J x->S.get? b=J x:=λb x n f e=>(c (b,x) (q _ (we.mpr ⟨n,e⟩) f)).1
theorem Fb(h:qb):h.get? h.objs.size=Y:=by
 induction e:h.get? h.objs.size with
 |none=>rfl|some o=>exact zc (qc e) (dc _)
end
inductive PS(w:zb)(W:qb)(L:Ca)(ρ:List Ca)(s:Ea)(X:St)(s':Ea):Prop
 |mk (E:List Ca):Ah s s'->KX L ρ s.heap s'.heap E->R w W E X s'.heap->PS w W L ρ s X s'
variable {w:zb} {W h:qb} {L:Ca} {ρ:List Ca} {Q X:St} {s:Ea} {v:V} {t:wa} {A:Yb} {n:Nat}
theorem Qi{n:Nat}(h:Td n=Z):n<4096:=gb h
theorem Q4{p:Prop} [Decidable p]{c:Unit}(h:Ge (decide p)=J c):p:=Nl (yf h)
theorem El{c:Prop} [Decidable c]{x d:G}(e:(if c then J x else Y)=J d):c/\x=d:=by
 by_cases h:c
 ·rw[Dd h]at e;exact⟨h,ba e⟩
 ·rw[fe h]at e;exact ja e
theorem Bo{P:V->St->Prop}(e:Bp N Q=J (v,X))(h:N.length<4096->P (.t N) Q):P v X:=Iq e λc d=>h (Qi (yf d))
theorem Ao{P:V->St->Prop}(e:gj N Q=J (v,X))(h:N.length<4096->P (.ref Q.length) (Q++[.list N])):P v X:=Iq e λc d=>h (Qi (yf d))
abbrev WV(w:zb)(W:qb)(L:Ca)(ρ:List Ca)(s:Ea)(A:Yb)(T:Yl wa)(v:V)(c:St):Prop:=Qa (bb pg w) A T (PV w W L ρ s c v) No s
theorem YN{o:Option G}{f:G->V×St}(e:o.map f=J (v,X))(h:∀a,o=J a->WV w W L ρ s A T (f a).1 (f a).2):Qa (bb pg w) A T (PV w W L ρ s X v) No s:=Iq (P:=WV w W L ρ s A T) e h
theorem jO(e:Bp N Q=J (v,X))(h:N.length<4096->WV w W L ρ s A T (.t N) Q):Qa (bb pg w) A T (PV w W L ρ s X v) No s:=Bo (P:=WV w W L ρ s A T) e h
theorem NZ(e:gj N Q=J (v,X))(h:N.length<4096->WV w W L ρ s A T (.ref Q.length) (Q++[.list N])):Qa (bb pg w) A T (PV w W L ρ s X v) No s:=Ao (P:=WV w W L ρ s A T) e h
theorem ue.line(x:ue w ρ h N vs)(c:N.length<4096):vs.length<=PySem.sizeLine:=by refine Ed x.length (U zf ?_);lia
theorem yi(x:ue w ρ h N vs):{is:List Int}->ki N=J is->Xi vs is:=
 x.ind (P:=λN vs=>{is:List Int}->ki N=J is->Xi vs is) (λe=>ba e▸.nil) λc c c c a c g c e=>by
  refine Vg e λi j l=>?_;refine Hs l λis m d=>?_;subst d;obtain⟨f,rfl⟩:=a.wZ j;exact .cons _ f (g m)
theorem ir{is:List Int}(x:Xi vs is):ue w ρ h (is.map V.int) vs:=by
 induction x with
 |nil=>exact .nil|cons i c d e=>exact .cons (.int i c) e
theorem fU(r:R w W ρ Q s.heap)(x:ue w ρ s.heap N vs)(e:Bp N Q=J (v,X)):
 Qa (bb pg w) A (qcE vs) (PV w W L ρ s X v) No s:=
 jO e λf=>qdj (
  have d:∀a o,s.heap.get? a=J o->(s.heap.push (iu vs 0)).get? a=J o:=λa o e=>Ba _ e
  ⟨ρ,rfl,KX.wI d,r.wI d,.t (n:=0) (r.notAv (Fb _)) (Oa _ rfl) (vd f) (x.mono (Ja _) λa o e c=>d a o e)⟩) (x.line f)
theorem Ir{a:Ca}(r:R w W ρ Q h):(ρ++[a])[Q.length]?=J a:=by refine Ed r.len ?_;exact List.getElem?_concat_length
theorem dU(r:R w W ρ Q s.heap)(x:ue w ρ s.heap N vs)(e:gj N Q=J (v,X)):
 Qa (bb pg w) A (P4 vs) (PV w W L ρ s X v) No s:=
 NZ e λf=>qew (
  have g:∀a o,s.heap.get? a=J o->(s.heap.push (listOf vs.toArray 0)).get? a=J o:=λa o e=>Ba _ e;have c:=r.new' (L:=L) (a:=s.heap.objs.size) (o:=.list N) g (Fb _) ⟨vs,0,Oa _ rfl,vd f,x.mono (Hc _ _) λa o e d=>g a o e⟩
  ⟨_,rfl,c.2,c.1,.ref (Ir r)⟩) (x.line f)
theorem Jq{a:Ca}{S:qb}{m}(r:R w W ρ Q s.heap)(l:Um W L ρ s.heap)(f:s.heap.Ns L m)(d:S.Ns L m)(g:∀b x,b≠L->s.heap.get? b=J x->S.get? b=J x)
 (j:s.heap.get? a=Y)(p:S.get? a=J (listOf vs.toArray k))(x:ue w ρ s.heap N vs)(e:gj N Q=J (v,X)):
 PV w W L ρ s X v (.ref a) {s with heap:=S,toks:=tk'}:=
 Ao (P:=λv X=>PV w W L ρ s X v (.ref a) {s with heap:=S,toks:=tk'}) e λq=>
  have c:=r.newL l (a:=a) (o:=.list N) f d g j ⟨vs,_,p,vd q,x.mono (Hc _ _) (KX.ofBut (ρ:=ρ) g f d).imm⟩
  ⟨_,rfl,c.2,c.1,.ref (Ir r)⟩
theorem eU{a:Ca}{S:qb}{m}(r:R w W ρ Q s.heap)(l:Um W L ρ s.heap)(g:s.heap.Ns L m)(c:S.Ns L m)(d:∀b x,b≠L->s.heap.get? b=J x->S.get? b=J x)
 (j:s.heap.get? a=Y)(p:S.get? a=J (iu vs k))(x:ue w ρ s.heap N vs)(e:Bp N Q=J (v,X)):
 PV w W L ρ s X v (.ref a) {s with heap:=S,toks:=tk'}:=
 Bo (P:=λv X=>PV w W L ρ s X v (.ref a) {s with heap:=S,toks:=tk'}) e λq=>
  have f:KX L ρ s.heap S ρ:=KX.ofBut d g c
  ⟨ρ,rfl,f,r.ofBut l d,.t (r.notAv j) p (vd q) (x.mono (Ja _) f.imm)⟩
theorem lf{a:Ca}(e:h.get? a=J (iu vs k)):IsTup h a vs.toArray:=⟨_,e,rfl,_,rfl⟩
theorem ue.replicate{x:V}{c:wa}(q:VR w ρ h x c):∀k,ue w ρ h (Ia k x) (Ia k c):=by
 intro k
 induction k with
 |zero=>
  exact .nil
 |succ k d=>
  exact U Hj (U Hj (.cons q (d)))
theorem SM(c:wa):∀(k:Nat)(d:Array wa),List.foldl (λe f=>e++f) d (Ia k #[c])=(d.toList++Ia k c).toArray:=by
 intro k
 induction k with
 |zero=>
  rintro d;simp
 |succ k e=>
  rintro d;refine U Hj (U List.foldl_cons (U (e _) ?_));simp[Hj]
theorem sz{x:Int}(h0:0<=x)(h1:x<1000):(if(x==0)=Z then 0 else x.natAbs.log2/30+1)<=1:=by
 split
 ·exact td _
 ·rename_i q
  have:x.natAbs<2^10:=by lia
  have:=(qab (by simp at q;lia)).mpr this
  lia
theorem KE(q:ue w ρ h N []):N=[]:=rg q.length
theorem pH{l:List G}{a:G}(e:one l=J a):l=[a]:=by
 induction l using ma with
 |nil=>exact ja e|cons a l=>
  induction l using ma with
  |nil=>exact ba e▸rfl|cons=>exact ja e
omit [K:Av]in
theorem nI{l:List G}{p:G×G}(e:two l=J p):l=[p.1,p.2]:=by
 induction l using ma with
 |nil=>exact ja e|cons a l=>
  induction l using ma with
  |nil=>exact ja e|cons b l=>
   induction l using ma with
   |nil=>exact ba e▸rfl|cons=>exact ja e
variable {K I:V} {a b:wa} {C:He}
theorem Wz{f:Int->Int->Option Int}(l:VR w ρ s.heap K a)(m:VR w ρ s.heap I b)(h:∀i j c g d,f i j=J d->Qa (bb pg w) A (gm C (.int i c) (.int j g)) (PV w W L ρ s Q (.int d)) No s)(e:R4 f K I Q=J (v,X)):Qa (bb pg w) A (gm C a b) (PV w W L ρ s X v) No s:=by
 refine aa λj=>(Vg e λx p e=>(Vg e λd q e=>?_));obtain⟨c,rfl⟩:=l.wZ p;obtain⟨g,rfl⟩:=m.wZ q;replace h:=h x d c g;generalize gm C _ _=T at h j;exact j (YN e h)
theorem OD(r:R w W ρ Q s.heap)(l:Um W L ρ s.heap)(p:VR w ρ s.heap (.t N) a)(q:VR w ρ s.heap (.t F) b)(e:Bp (N++F) Q=J (v,X)):Qa (bb pg w) A (gm .Add a b) (PV w W L ρ s X v) No s:=by
 refine aa λO=>?_;obtain⟨m,x⟩:=l.ns;obtain⟨_,_,_,rfl,na,ea,la,f⟩:=p.wF;obtain⟨_,_,_,rfl,nb,eb,lb,g⟩:=q.wF;refine O ?_;refine add_tuples (cj x) ug (lf ea) (lf eb) (λc=>Bo (P:=λv j=>PV w W L ρ s j v _ s) e λd=>PV.wU r ?_) (λd c=>Bo (P:=λv j=>PV w W L ρ s j v _ s) e λd=>PV.wU r ?_) (λd d S F' j=>eU r l x F'.ns (News.keepAll1 j) (Fb _) (j _ sa).1 (f.append g) e) (Bo (P:=λd d=>_) e λj=>(f.append g).line j |> λc=>by rw[Ha]at c;exact c)
 ·exact U (KE (show ue w ρ s.heap N []from c▸f)) q
 ·exact U (KE (show ue w ρ s.heap F []from c▸g)) (U (Wb _) p)
theorem OA(r:R w W ρ Q s.heap)(l:Um W L ρ s.heap)(p:VR w ρ s.heap (.ref i) a)(q:tc Q i=J N){j:Nat}(x:VR w ρ s.heap (.ref j) b)(O:tc Q j=J F)(e:gj (N++F) Q=J (v,X)):Qa (bb pg w) A (gm .Add a b) (PV w W L ρ s X v) No s:=by
 refine aa λnq=>?_;obtain⟨m,d⟩:=l.ns;obtain⟨_,_,_,rfl,_,q1,_,f⟩:=r.list q p;obtain⟨_,_,_,rfl,_,p1,_,g⟩:=r.list O x;exact nq (add_lists (cj d) ug (ve q1) (ve p1) (λS F' c=>Jq r l d F'.ns (News.keepAll1 c) (Fb _) (c _ sa).1 (f.append g) e) (Ao (P:=λc c=>_) e λhl=>(f.append g).line hl |> λc=>by rw[Ha]at c;exact c))
theorem bY(r:R w W ρ Q s.heap)(l:Um W L ρ s.heap)(g:VR w ρ s.heap K a)(m:VR w ρ s.heap I b)(e:UR K I Q=J (v,X)):Qa (bb pg w) A (gm .Add a b) (PV w W L ρ s X v) No s:=by
 refine aa λf=>?_
 induction K using V.casesOn with
 |int x=>
  refine f ?_;clear f;obtain⟨c,rfl⟩:=g.wF;exact YN e λd j=>by
   obtain⟨p,rfl⟩:=m.wZ j;exact qaf (PV.same r (.int _ _))
 |t N=>
  refine f ?_;clear f;refine aa λf=>(Vg e λF c e=>(f ?_));clear f;exact OD r l g (Vl c▸m) e
 |ref i=>
  refine f ?_;clear f;refine aa λf=>(Vg e λN c e=>(Vg e λF d e=>(Vg d λj p q=>?_)));refine f ?_;clear f;exact OA r l g c (Sh p▸m) q e
 |_=>refine f ?_;clear f;exact ja e
theorem LZ(r:R w W ρ Q s.heap)(l:Um W L ρ s.heap)(P:VR w ρ s.heap K a)(xb:VR w ρ s.heap I b)(e:bU K I Q=J (v,X)):Qa (bb pg w) A (gm .Mult a b) (PV w W L ρ s X v) No s:=by
 refine aa λnq=>(Vg e λx e1 e=>(Vg e λk e2 e=>(Vg e λc e3 e=>?_)));refine Vg e1 λN e4 e5=>(Vg e4 λi e6 j=>?_);rw[pH e5]at j;have hk:=Q4 e3;obtain⟨a',vs,m1,rfl,_,p,la,q3⟩:=r.list j (Sh e6▸P);obtain⟨d,rfl⟩:=xb.wZ e2;obtain⟨m,q⟩:=l.ns;obtain⟨f,us,rfl,a1,g⟩:=q3.wF;refine nq ?_;rw[(g.wF:us=[])]at p;refine mul_list (cj q) ug p (by lia) (by lia) (by simp;lia) λS F' O=>(Jq r l q F'.ns (News.keepAll1 O) (Fb _) (vs:=Ia k.toNat _) (k:=0) ?_ (ue.replicate a1 _) e);have:=(O _ sa).1;rw[SM]at this;exact this
theorem oY{K I:V}{a b:wa}(m:Dg n A)(r:R w W ρ Q s.heap)(l:Um W L ρ s.heap)(g:VR w ρ s.heap K a)(j:VR w ρ s.heap I b)
 (e:lS C K I Q=J (v,X)):Qa (bb pg w) A (gm C a b) (PV w W L ρ s X v) No s:=by
 induction C with
 |Add=>exact bY r l g j e|Sub=>exact Wz g j (λc c c c c h=>by refine Ed (ba h) ?_;exact qam (PV.same r (.int _ _))) e|FloorDiv=>
  exact Wz g j (λx d c c c h=>by
   obtain⟨q,rfl⟩:=El h;refine qag (by omega) (PV.same r (.int _ _)) (.inl ?_);have f:=sz (u5 q.2.2.1) q.2.2.2;simp only[Yj.divisionGoesByPylong];refine U (decide_eq_false (by omega)) ?_;rfl) e
 |Mod=>
  exact Wz g j (λx d c c f h=>by
   replace h:(if d=0 then Y else J (x.fmod d))=J f:=h;by_cases q:d=0
   ·rw[Dd q]at h;exact ja h
   ·rw[fe q]at h;refine Ed (ba h) ?_;exact qak q (PV.same r (.int _ _))) e
 |Pow=>
  exact Wz g j (λx d c c c h=>by
   obtain⟨q,rfl⟩:=El h;exact pow_int_small q.1 (by omega) (by omega) (PV.same r (.int _ _))) e
 |Mult=>exact LZ r l g j e|_=>exact ja e
end
section
variable {T:List (Bb×V)} {X:List Cf} {m i c d:Nat} {x I:V} {y o:wa} {nm:Bb}
variable [F:Av]
structure Jk(hb:qb)(K:Ue)(Q:Bh):Prop where
 kin:K.In hb
 get:∀c n,Q.attr c n=Z->Tk K (.ref c) "__getattribute__"=J (J (.builtin "object.__getattribute__"))/\hasDictIn K c=Z/\(∃a,Tk K (.ref c) n=J a/\noGet K a=Z)
 set:∀c n,Q.attr c n=Z->Tk K (.ref c) "__setattr__"=J (J (.builtin "object.__setattr__"))/\plainOver K c=Z/\takerIn K c n=J Y
 mods:hb.get? sysModules≠Y
 statics:hb.NoLimit
 scr:∀a xs,Q.scr a=J xs->xs.length<=4096/\∃vs,hb.IsList a vs.toArray/\Xi vs xs
variable {w:zb} {hb h:qb} {L:Ca} {S:List Ca} {O N:St} {s:Ea} {v:V} {P:wa} {A:Yb} {n:Nat} {K:Ue} {Q:Bh}
theorem R.kin(r:R w hb S O h)(B:Jk hb K Q):K.In h:=λa o e=>r.wK a o (B.kin a o e)
theorem Cj(a b:Bb)(t:jk):(qav a t).isStr b=decide (a=b):=by
 show(a==b)=_
 by_cases e:a=b
 ·subst e;simp
 ·simp[e]
theorem SE.find(q:SE w S h T X)(k:Bb):
 (Pf T k=Y/\X.find? (λx=>x.key.isStr k)=Y)\/∃x e,Pf T k=J x/\X.find? (λx=>x.key.isStr k)=J e/\VR w S h x e.val:=by
 induction q with
 |nil=>exact .inl ⟨rfl,rfl⟩| @cons b x t v T X a u l=>
  by_cases e:b=k
  ·subst e
   exact .inr ⟨x,⟨H4 w b,.str b t,v⟩,(Dd rfl:(if b=b then J x else _)=J x),by simp[qn,Cj],a⟩
  ·refine aa λj=>?_
   rcases l with⟨f,g⟩|⟨p,r,f,g,z⟩
   ·refine j ?_
    exact .inl ⟨((fe e).trans f:(if b=k then J x else Pf T k)=_),by simp[qn,Cj,e,g]⟩
   ·refine j ?_
    exact .inr ⟨p,r,((fe e).trans f:(if b=k then J x else Pf T k)=_),by simp[qn,Cj,e,g],z⟩
theorem SE.noRef(q:SE w S h T X):X.any (λx=>x.refKey)=ua:=by
 induction q with
 |nil=>rfl|cons a u b=>simp only[bq,b,wA];rfl
theorem SE.length(q:SE w S h T X):T.length=X.length:=by
 induction q with
 |nil=>rfl|cons a u b=>simp[b]
theorem SE.wJ(q:SE w S h T X)(k:Bb):
 (Pf T k=Y/\yZ k (qm X m)=J Y)\/∃x y,Pf T k=J x/\yZ k (qm X m)=J (J y)/\VR w S h x y:=by
 refine aa λf=>?_;rcases q.find k with⟨a,b⟩|⟨x,e,a,b,g⟩
 ·exact f (.inl ⟨a,by simp[yZ,b,q.noRef]⟩)
 ·exact f (.inr ⟨x,e.val,a,by simp[yZ,b],g⟩)
theorem SE.put(q:SE w S h T X)(k:Bb)(t:jk)(a:VR w S h x y):
 (∃i,X.findIdx? (λx=>x.key.isStr k)=J i/\SE w S h (Gh T k x) (X.modify i λe=>{e with val:=y}))\/(X.findIdx? (λx=>x.key.isStr k)=Y/\SE w S h (Gh T k x) (X++[⟨H4 w k,.str k t,y⟩])):=by
 induction q with
 |nil=>exact .inr ⟨rfl,.cons a .nil⟩| @cons f l u v T X b p r=>
  by_cases e:f=k
  ·subst e
   exact .inl ⟨0,by simp[kr,Cj],by show SE w S h (if f=f then(f,x)::T else _) _;exact U (Dd rfl) (SE.cons a p)⟩
  ·rcases r with⟨i,g,j⟩|⟨g,j⟩
   ·refine .inl ⟨i+1,by simp[kr,Cj,e,g],?_⟩
    show SE w S h (if f=k then _ else(f,l)::Gh T k x) _
    exact U (fe e) (.cons b j)
   ·refine .inr ⟨by simp[kr,Cj,e,g],?_⟩
    show SE w S h (if f=k then _ else(f,l)::Gh T k x) _
    exact U (fe e) (.cons b j)
theorem Oy(k:Bb)(x:V):∀T:List (Bb×V),(Gh T k x).map (λx=>x.1)=if k∈T.map λx=>x.1 then T.map λx=>x.1 else T.map (λx=>x.1)++[k]:=by
 intro T
 induction T with
 |nil=>
  exact rfl
 |cons b T f=>
  obtain⟨a,g⟩:=b;by_cases e:a=k
  ·subst e
   show(if a=a then(a,x)::T else _).map (λx=>x.1)=_
   exact U (Dd rfl) (Dd sa).symm
  ·show(if a=k then _ else(a,g)::Gh T k x).map (λx=>x.1)=if k∈a::T.map λx=>x.1 then _ else _
   refine U (fe e) ?_;show a::(Gh T k x).map (λx=>x.1)=_
   refine U f ?_;by_cases c:k∈T.map λx=>x.1
   ·exact U (Dd c) (Dd (oa _ c)).symm
   ·exact U (fe c) (fe λz=>(fb.mp z).elim (λz=>e z.symm) c).symm
theorem nw{k:Bb}(d:(T.map λx=>x.1).Nodup):((Gh T k x).map λx=>x.1).Nodup:=by
 refine U (Oy _ _ _) ?_
 split
 ·exact d
 ·rename_i q
  exact U (propext di) (⟨d,by simp,λa ha b hb=>by rw[Ra]at hb;subst hb;exactλz=>q (z▸ha)⟩)
theorem sC(k:Bb)(x:V)(T:List (Bb×V)):(Gh T k x).length<=T.length+1:=by
 have:=Gc nj (Oy k x T);rw[ya]at this;refine U this ?_;split<;>simp
theorem uB(q:VR w S h x y)(a:∀v,x≠ .k v):handedIn y=Z:=by
 have z:=q.wF
 induction x using V.casesOn with
 |k c=>exact zc rfl (a c)|none=>rw[(z:y=_)];rfl|bool=>rw[(z:y=_)];rfl|int=>obtain⟨_,rfl⟩:=z;rfl|str=>obtain⟨_,rfl⟩:=z;rfl|ref=>obtain⟨_,rfl,_⟩:=z;rfl|rng=>obtain⟨_,_,_,_,rfl,_⟩:=z;rfl|iset=>obtain⟨_,_,_,_,rfl,_⟩:=z;rfl|t=>obtain⟨_,_,_,rfl,_⟩:=z;rfl
theorem pN(e:wi O i=J (c,d)):O[i]?=J (.inst c d):=by
 refine aa λa=>(Vg e λo f b=>(a ?_));clear a;refine aa λa=>?_
 induction o with
 |inst=>refine a ?_;clear a;obtain⟨rfl,rfl⟩:=Ta (ba b);exact f|_=>refine a ?_;clear a;exact ja b
theorem V0(e:Vq O i=J T):O[i]?=J (.h T):=by
 refine Vg e λo b a=>?_
 induction o with
 |h=>obtain rfl:=ba a;exact b|_=>exact ja a
theorem MJ(e:hH x=J v):x=v/\∀c,x≠ .k c:=by
 induction x using V.casesOn<;>first|exact ja e|exact⟨ba e,λu q=>V.noConfusion q⟩
inductive jW [F:Av](w:zb)(h:qb)(S:List Ca)(i:Nat)(c:Nat)(d:Nat)(T:List (Bb×V))(P:wa):Prop
 |mk:∀a dx X m,P=.ref a->S[i]?=J a->S[d]?=J dx->h.get? a=J (qeW c dx)->h.get? dx=J (qm X m)->SE w S h T X->(T.map λx=>x.1).Nodup->T.length<=4096->W.InstAt h a (qeW c dx) c (J (qm X m))->jW w h S i c d T P
theorem R.inst(r:R w hb S O h){P:wa}(k:wi O i=J (c,d))(l:Vq O d=J T)(x:VR w S h (.ref i) P):
 jW w h S i c d T P:=by
 refine aa λp=>?_;obtain⟨a,rfl,b⟩:=x.wF;obtain⟨e,f,g⟩:=r.obj _ _ a (pN k) b;obtain⟨X,m,j,q,t,u⟩:=r.obj _ _ e (V0 l) f;exact p (⟨a,e,X,m,rfl,b,f,g,j,q,t,u,⟨g,rfl,rfl,j⟩⟩)
theorem oE{t:Bool}(B:Jk hb K Q)(r:R w hb S O s.heap)(z:VR w S s.heap I o)(e:Ni Q I nm O=J v):
 Qa (bb pg w) A (getAttr o nm t) (PV w hb L S s O v) No s:=by
 refine ab e λp l e=>ab l λi C D=>ab e λT E e=>ab e λu W e=>ab e λx g e6=>?_;clear e l;obtain⟨rfl,hc⟩:=MJ e6;obtain⟨a,dx,X,m,rfl,_,_,_,_,p2,_,_,b⟩:=r.inst D E (Sh C▸z);have G:=B.get _ _ (yf W);refine aa λf=>?_;obtain⟨a',g3,g4⟩:=G.2.2;refine f (aa λf=>?_);rcases p2.wJ (m:=m) nm with⟨j,q⟩|⟨x,y,j,q,k⟩
 ·refine f ?_
  rw[j]at g;exact ja g
 ·refine f ?_
  rw[<-(ba (g.symm.trans j):_=x)]at k;exact get_value (r.kin B) b G.1 (findObj_own G.2.1 g3 g4 q) (uB k hc) (PV.same r k)
theorem jQ{l:List (Ca×yD)}(e:l.Pairwise λp q=>p.1≠q.1){p:Ca×yD}(m:p∈l):∃b a,l=b++p::a/\(∀q∈b,q.1≠p.1)/\(∀q∈a,q.1≠p.1):=by
 refine aa λg=>?_;obtain⟨b,a,rfl⟩:=List.append_of_mem m;refine g ?_;rw[Oo]at e;exact⟨b,a,rfl,λq f=>e.2.2 q f p sa,λq f=>((zg.mp e.2.1).1 q f).symm⟩
inductive I5(w:zb)(S:List Ca)(h:qb)(nm:Bb)(t:jk)(x:V)(y:wa)(T:List (Bb×V))(X:List Cf)(m:Nat):Prop
 |mk (ents':List Cf) (m':Nat):yD.putName nm (rR w.params nm) (.str nm t) y (qm X m)=qm ents' m'->SE w S h (Gh T nm x) ents'->I5 w S h nm t x y T X m
theorem SE.putE{t:jk}(f:SE w S h T X)(g:VR w S h x y):I5 w S h nm t x y T X m:=by
 refine aa λe=>?_;rcases f.put nm t g with⟨i,a,b⟩|⟨a,b⟩
 ·refine e ?_
  exact⟨_,m,by refine U WX ?_;simp only[nL,ID,a];simp,b⟩
 ·refine e ?_
  exact⟨_,m+1,by refine U WX ?_;simp only[nL,ID,a];rfl,by
   refine U (show rR w.params nm=H4 w nm from rfl) ?_
   simpa using b⟩
theorem JN{k:qb}{j:Ca}{o l:yD}{g f:List (Ca×yD)}(p:Ai h L=g++(j,o)::f)(a:News hE L k (g++(j,l)::f)):∀b z,b≠L->b≠j->h.get? b=J z->k.get? b=J z:=λb z r t e=>by
 refine(a (b,z) ?_).1;rcases Xb.mp (p▸we.mpr ⟨r,e⟩:(b,z)∈g++(j,o)::f)with q|q
 ·exact Je _ q
 ·rcases fb.mp q with q|q
  ·exact zc (Gc oj q) t
  ·exact Ld _ (oa _ q)
theorem qP(h:T.length<900):(Gh T nm x).length<=900:=Za (sC nm x T) h
theorem jF(B:Jk hb K Q)(r:R w hb S O s.heap)(l:Um hb L S s.heap)(xo:VR w S s.heap I o)(xv:VR w S s.heap x y)(e:Qn Q I nm x O=J N):
 Qa (bb pg w) A (setAttr o nm y) (λu=>PS w hb L S s N) No s:=by
 refine ab e λp C e=>ab C λi e1 e2=>ab e λT e3 e=>qe e λu e4 e=>?_;clear C;refine aa λnq=>?_;subst e;have G:=Aa.mp (yf e4);have k:T.length<900:=gb G.2;obtain⟨a,dx,X,m,rfl,_,ed,hx,hd,p2,p3,p4,f⟩:=r.inst e2 e3 (Sh e1▸xo);obtain⟨g1,g2,g3⟩:=B.set _ _ G.1;obtain⟨mm,W⟩:=l.ns;obtain⟨pre,post,C,q1,q2⟩:=jQ Tq (we.mpr ⟨(λq=>l.out (q▸Ma ed):dx≠L),hd⟩);have hl:(yZ nm (qm X m)).isSome=Z:=by
  rcases p2.wJ (m:=m) nm with⟨_,b⟩|⟨_,_,_,b,_⟩<;>refine U b ?_ <;>rfl
 obtain⟨g,m',D,E⟩:=p2.putE (m:=m) (nm:=nm) (t:=s.toks+1) xv;refine nq ?_;refine set_plain (r.kin B) f g1 (osa_dict (s:={s with toks:=s.toks+1}) (pre:=pre) (post:=post) (od':=qm g m') (cj W) (C▸ug) (r.kin B) f rfl g2 g3 (B.get _ _ G.1).2.1 hl q1 q2 D rfl (by refine Ed E.length ?_;exact Za (qP k) (by decide)) λh' F' N'=>?_);have j:=JN C N';have z:=r.updL l (o:=.h (Gh T nm x)) ed W F'.ns j ⟨g,m',(N' _ (Ld _ sa)).1,E.mono (Ja _) λb z e im=>j b z (λq=>Bg W (q▸e) im) (λq=>nomatch (by rw[q,hd]at e;obtain rfl:=ba e;exact im:Ih (qm X m))) e,nw p3,Za (qP k) (by exact Ve _ _)⟩;exact⟨_,rfl,z.2,z.1⟩
end
section
variable {es:List (Bb×V)} {k:Int} {m:Nat} {P D:Type} {S:List V} {t:jk} {T:qb} {ob:yD}
variable [C:Av]
variable {w:zb} {X h:qb} {L:Ca} {ρ:List Ca} {W E:St} {s:Ea} {v:V} {N:wa} {A:Yb} {n:Nat} {K:Ue} {B:Bh}
inductive kW [C:Av](w:zb)(h:qb)(ρ:List Ca)(es:List (Bb×V))(ents:List Cf):Prop
 |mk:∀kvs,Pairs (ee pg w) ents kvs->kvs.map (λx=>x.1)=es.map (λx=>x.1)->ue w ρ h (es.map λx=>x.2) (kvs.map λx=>x.2)->(∀e∈ents,∃k,(ee pg w).is k e.key=Z/\e.hash=(ee pg w).hash k)->kW w h ρ es ents
theorem SE.pairs{b:List Cf}(q:SE w ρ h es b):
 kW w h ρ es b:=by
 induction q with
 |nil=>exact⟨[],.nil,rfl,.nil,λe d=>by cases d⟩| @cons k x t v es b a u l=>
  obtain⟨f,p,r,z,O⟩:=l;have g:(ee pg w).is k (.str k t)=Z:=by show Ui k (.str k t)=Z;simp[Ui]
  refine⟨(k,v)::f,.cons g rfl p,by simp[r],.cons a z,λe d=>?_⟩;rcases fb.mp d with q|q
  ·subst q;exact⟨k,g,rfl⟩
  ·exact O e q
theorem zB{k:Bb}{y:wa}(e:Ui k y=Z):∃t,y=.str k t:=by
 induction y<;>simp[Ui]at e
 subst e;exact⟨_,rfl⟩
theorem q9:∀{d:List Cf}{f:List (Bb×wa)},Pairs (ee pg w) d f->f.map (λx=>x.1)=es.map (λx=>x.1)->ue w ρ h (es.map λx=>x.2) (f.map λx=>x.2)->
 (∀e∈d,∃k,(ee pg w).is k e.key=Z/\e.hash=(ee pg w).hash k)->SE w ρ h es d:=by
 induction es with
 |nil=>intro d f p g l _;induction f using ma with|nil=>cases p;exact .nil|cons u z=>simp at g
 |cons p es ih=>
  intro d f q g l O;obtain⟨k,x⟩:=p
  induction f using ma with
  |nil=>simp at g|cons kv f=>
   obtain⟨k',y⟩:=kv;simp only[Vb,qeG]at g;obtain⟨rfl,g⟩:=g;cases q with
   | @cons e u x1 z a b c=>
    refine aa λR=>?_;cases l with
    |cons l r=>
    refine R ?_;clear R;obtain⟨x2,x3,N⟩:=e
    dsimp only at a b
    subst b;obtain⟨k2,z1,z2⟩:=O _ sa;have:k2=k':=wa.isStrOf_inj _ _ _ z1 a;subst this;obtain⟨t,rfl⟩:=zB a
    dsimp only at z2
    subst z2;exact .cons l (ih c g r λe he=>O e (oa _ he))
theorem SE.isDict{a:List Cf}(q:SE w ρ h es a)(d:(es.map λx=>x.1).Nodup):
 ∃b,(qm a m).IsDictOf (ee pg w) b/\b.map (λx=>x.1)=es.map (λx=>x.1)/\ue w ρ h (es.map λx=>x.2) (b.map λx=>x.2):=by
 refine aa λg=>?_;obtain⟨b,l,f,p,r⟩:=q.pairs;refine g ?_;exact⟨b,⟨a.toArray,m,⟨rfl,rfl,rfl⟩,rfl,λe u=>r e (by simpa using u),by simpa using l,by refine U f ?_;exact d⟩,f,p⟩
theorem rG{o:yD}{b:List (Bb×wa)}(q:o.IsDictOf (ee pg w) b)(z:b.map (λx=>x.1)=es.map λx=>x.1)(O:ue w ρ h (es.map λx=>x.2) (b.map λx=>x.2)):
 ∃a m,o=qm a m/\SE w ρ h es a:=by
 refine aa λR=>?_;obtain⟨f,m,⟨l,c2,c3⟩,d,k,p,_⟩:=q;obtain⟨x1,r,u,g⟩:=o
 dsimp only at l c2 c3 d
 subst l c2 c3 d;exact R (⟨f.toList,m,by rfl,q9 p z O λe he=>k e (by simpa using he)⟩)
theorem CE{a:List (Bb×wa)}(b:a.map (λx=>x.1)=es.map λx=>x.1)(d:ue w ρ h (es.map λx=>x.2) (a.map λx=>x.2))(k:Bb):
 (Pf es k=Y/\Wl a k=Y)\/∃x N,Pf es k=J x/\Wl a k=J N/\VR w ρ h x N:=Fy (look:=Pf) (λu=>rfl) (λu u u=>rfl) b d k
theorem Gw [DecidableEq P](f:List (P×V)->P->V->List (P×V))(h0:∀k x,f [] k x=[(k,x)])(h1:∀p r k x,f (p::r) k x=if p.1=k then(p.1,x)::r else p::f r k x)
 {k:P}{x:V}{y:wa}(a:VR w ρ h x y):∀{es:List (P×V)}{d:List (P×wa)},(d.map λx=>x.1).Nodup->d.map (λx=>x.1)=es.map (λx=>x.1)->ue w ρ h (es.map λx=>x.2) (d.map λx=>x.2)->
 (stored d k y).map (λx=>x.1)=(f es k x).map (λx=>x.1)/\ue w ρ h ((f es k x).map λx=>x.2) ((stored d k y).map λx=>x.2):=by
 intro es
 induction es with
 |nil=>intro d _ l O;induction d using ma with|nil=>refine U (h0 _ _) ?_;exact⟨rfl,.cons a .nil⟩|cons u j=>exact zc l (Bc _ _)
 |cons p es ih=>
  intro d r l O
  induction d using ma with
  |nil=>exact zc l.symm (Bc _ _)|cons g d=>
   have u:g.1=p.1:=Xd l;have R:=wd l;have r:=Fc.mp r;refine aa λnq=>?_;obtain⟨_,_,q,b,c⟩:=O.wF;cases q;obtain⟨i1,i2⟩:=ih r.2 R c;refine nq (U (h1 _ _ _ _) (Ed u ?_));by_cases e:g.1=k
   ·refine U (Dd e) ?_
    have hn:d.map (λg=>if g.1=k then(g.1,y)else g)=d:=
     (fg λz hz=>fe λq=>r.1 (Rb.mpr ⟨z,hz,q.trans e.symm⟩)).trans (List.map_id d)
    have:stored (g::d) k y=(g.1,y)::d:=by
     simp only[stored,bq,e,decide_true,Bool.true_or,if_true,Vb,hn]
    exact U this (⟨Gc (λx=>g.1::x) R,.cons a c⟩)
   ·refine U (fe e) ?_
    have:stored (g::d) k y=g::stored d k y:=by
     simp only[stored,bq,e,decide_false,OX,Vb,if_false,Km]
     split<;>rfl
    exact U this (⟨by exact U Vb (U Vb (U i1 (U u rfl))),.cons b i2⟩)
theorem QJ(k:Int)(x:V):∀es:List (Int×V),(jw es k x).length<=es.length+1:=by
 intro es
 induction es with
 |nil=>
  exact Gb 1
 |cons p es a=>
  refine U (show jw (p::es) k x=if p.1=k then(p.1,x)::es else p::jw es k x from rfl) ?_
  split
  ·exact se _
  ·exact sf (a)
inductive At(n:Nat)(k:Int)(j:Nat):Prop
 |fwd:0<=k->k.toNat=j->At n k j|back:k<0-> -(n:Int)<=k->(k+n).toNat=j->At n k j
theorem Ms{n:Nat}{j:Nat}(e:Ol n k=J j):At n k j:=by
 unfold Ol at e;by_cases h:0<=k
 ·rw[Dd h]at e;exact .fwd h (ba e)
 ·rw[fe h]at e
  have:=El e;exact .back (qbe.mp h) this.1 this.2
theorem At.seq{n:Nat}{j:Nat}(e:At n k j)(h:j<n):w9 k n=J j:=by
 refine aa λa=>?_
 induction e with
 |fwd b q=>refine a ?_;clear a;subst q;simp[w9,Wi.mpr b];lia|back b d q=>refine a ?_;clear a;subst q;simp[w9,b];lia
theorem At.rng{n:Nat}{j:Nat}(e:At n k j)(h:j<n)(b:n<=4096): -(2^63:Int)<=k/\k<2^63:=by
 induction e with
 |fwd a q=>lia|back a d q=>lia
theorem Gn(k:Int)(t:jk):(ig pg w).is k (.int k t)=Z:=by show Ho k (.int k t)=Z;simp[Ho]
theorem Ek(k:Bb)(t:jk):(ee pg w).is k (.str k t)=Z:=by show Ui k (.str k t)=Z;simp[Ui]
section
variable {F Q:Expr} {I G:V} {o i:wa}
inductive QR(s:Ea)(o:wa):Prop
 |t:s.TypeIs o "tuple"->QR s o|list:s.TypeIs o "list"->QR s o|dict:s.TypeIs o "dict"->QR s o
abbrev pL(w:zb)(X:qb)(A:Yb)(L:Ca)(ρ:List Ca)(W:St)(s:Ea)(o i:wa)(v:V):Prop:=QR s o/\Qa (bb pg w) A (F4 o i) (PV w X L ρ s W v) No s
theorem pV(r:R w X ρ W s.heap)(l:VR w ρ s.heap (.t S) o)(e:I4 S k=J v):pL w X A L ρ W s o (.int k t) v:=ab e λj p b=>by
 have a:=Ms p;refine aa λq=>?_;obtain⟨c,O,m,rfl,_,d,lo,f⟩:=l.wF;obtain⟨y,u,z⟩:=f.get b;refine q ?_;have g:=(wb.mp b).1;have X:=a.rng g lo;exact⟨.t ⟨_,d,rfl⟩,qah (lf d) X.1 X.2 (by refine U Hb (Ed f.length ?_);exact a.seq g) (by refine U jc ?_;exact u) (PV.wU r z)⟩
theorem nQ{c:Ca}(r:R w X ρ W s.heap)(q:OR w ρ s.heap (.list S) c)(e:I4 S k=J v):pL w X A L ρ W s (.ref c) (.int k t) v:=ab e λj z l=>by
 have a:=Ms z;refine aa λb=>?_;obtain⟨vs,m,d,O,f⟩:=q;obtain⟨y,p,u⟩:=f.get l;refine b ?_;have X:=a.rng ((wb.mp l).1) O;refine⟨.list ⟨_,d,rfl⟩,?_⟩;refine aa λb=>?_
 induction a with
 |fwd g q=>refine b ?_;exact wpAny_getItem_list (ve d) g X.2 (by refine U q (U jc ?_);exact p) (PV.wU r u)|back g h1 q=>refine b ?_;exact wpAny_getItem_list_neg (ve d) g (by refine U Hb (Ed f.length ?_);exact h1) X.1 (by refine U Hb (Ed f.length (U q (U jc ?_)));exact p) (PV.wU r u)
theorem lK{es:List (Int×V)}{c:Ca}(r:R w X ρ W s.heap)(q:OR w ρ s.heap (.idict es) c)(e:Qm es k=J v):pL w X A L ρ W s (.ref c) (.int k t) v:=by
 refine aa λa=>?_;obtain⟨O,p,d,f,u,z,q5⟩:=q;refine a (aa λa=>?_);rcases Ov u z k with⟨b,g⟩|⟨x,y,b,g,l⟩
 ·exact a (ja (b.symm.trans e))
 ·refine a ?_
  rw[ba (b.symm.trans e)]at l;exact⟨.dict ⟨_,d,f.choose_spec.choose_spec.1.1⟩,V9 (Gn k t) (Rv d f) g (PV.same r l)⟩
theorem mK{k:Bb}{c:Ca}(r:R w X ρ W s.heap)(q:OR w ρ s.heap (.h es) c)(e:Pf es k=J v):pL w X A L ρ W s (.ref c) (.str k t) v:=by
 refine aa λa=>?_;obtain⟨d,m,f,p,u,q4⟩:=q;obtain⟨z,O,d2,d3⟩:=p.isDict (m:=m) u;refine a (aa λa=>?_);rcases CE d2 d3 k with⟨b,g⟩|⟨x,y,b,g,l⟩
 ·exact a (ja (b.symm.trans e))
 ·refine a ?_
  rw[ba (b.symm.trans e)]at l;exact⟨.dict ⟨_,f,rfl⟩,V9 (Ek k t) ((Mf.mpr ⟨_,f,O⟩).mapOf) g (PV.same r l)⟩
theorem Gv(r:R w X ρ W s.heap)(p:VR w ρ s.heap I o)(g:VR w ρ s.heap G i)(e:eD I G W=J v):pL w X A L ρ W s o i v:=by
 refine aa λa=>?_
 induction I using V.casesOn with
 |t S=>
  refine a ?_;clear a;refine ab e λk l b=>?_;obtain⟨t,rfl⟩:=g.wZ l;exact pV r p b
 |ref j=>
  refine a ?_;clear a;refine ab e λob l b=>?_;obtain⟨c,rfl,u⟩:=p.wF;have q:=r.obj _ _ c l u;refine aa λa=>?_
  induction ob with
  |list S=>
   refine a ?_;clear a;refine ab b λk d f=>?_;obtain⟨t,rfl⟩:=g.wZ d;exact nQ r q f
  |idict es=>
   refine a ?_;clear a;refine ab b λk d f=>?_;obtain⟨t,rfl⟩:=g.wZ d;exact lK r q f
  |h es=>
   refine a ?_;clear a;refine ab b λk d f=>?_;obtain⟨t,rfl⟩:=(dD d▸g:VR w ρ s.heap (.str k) i).wF;exact mK r q f
  |_=>refine a ?_;clear a;exact ja b
 |_=>refine a ?_;clear a;exact ja e
theorem D1(r:R w X ρ W s.heap)(b:VR w ρ s.heap I o)(d:VR w ρ s.heap G i)(e:eD I G W=J v)(a:qV Q ua o i=CD [o,i] (F4 o i)):Qa (bb pg w) A (qen F Q o i) (PV w X L ρ s W v) No s:=by
 refine kba_turn (value':=.Name "x" default) (λu=>rfl) ?_;obtain⟨f,z⟩:=Gv (A:=A) (L:=L) r b d e
 induction f with
 |t hT=>exact cr hT (id:="tuple.__getitem__") PySem.F.slot_tuple_getitem.lookup z a|list hT=>exact cr hT (id:="list.__getitem__") PySem.F.slot_list_getitem.lookup z a|dict hT=>exact cr hT (id:="dict.__getitem__") slot_dict_getitem.lookup z a
end
theorem tI{a:Ca}{b:Array wa}(f:Array wa->Array wa)(e:h.get? a=J (listOf b m)):∃d,(h.update a (Yi f)).get? a=J (listOf (f b) d):=by
 have:=Qc (Yi f) e (by rfl);exact⟨_,this⟩
variable {I G x:V} {o i y:wa} {c:Ca} {j:Nat}
theorem Aq(a:ff c h T)(d:h.get? c=J ob)(f:¬Ih ob):∀b z,h.get? b=J z->Ih z->T.get? b=J z:=λb z e g=>(a.2 b λq=>f (ba (d.symm.trans (q▸e))▸g)).trans e
theorem Dt{a:Array wa}:¬Ih (listOf a m):=by simp[Ih]
theorem TB{a:List Cf}:¬Ih (qm a m):=by simp[Ih]
theorem PS.upd{b:Nat}{ob:O}{a:yD}(r:R w X ρ W s.heap)(l:Um X L ρ s.heap)(d:ρ[j]?=J c)(g:s.heap.get? c=J a)(e:ff c s.heap T)(f:OR w ρ T ob c):PS w X L ρ s (W.set j ob) {s with heap:=T,toks:=b}:=
 have z:=r.upd' (L:=L) d e f l.out
 ⟨ρ,rfl,z.2,z.1⟩
theorem UP(r:R w X ρ W s.heap)(l:Um X L ρ s.heap)(ec:ρ[j]?=J c)(q:OR w ρ s.heap (.list S) c)(xv:VR w ρ s.heap x y){p:Nat}(e1:Ol S.length k=J p)(hp:p<S.length):
 Qa (bb pg w) A (ux (.ref c) (.int k t) y) (λu=>PS w X L ρ s (W.set j (.list (S.set p x)))) No s:=by
 have a:=Ms e1;refine aa λO=>?_;obtain⟨f,m,b,lx,e⟩:=q;refine O ?_;clear O;have d:=a.rng hp lx;have go:∀T,(∃g,T.get? c=J (listOf (f.toArray.setIfInBounds p y) g))->ff c s.heap T->PS w X L ρ s (W.set j (.list (S.set p x))) {s with heap:=T}:=λT ⟨g,e'⟩ sb=>
  PS.upd r l ec b sb ⟨f.set p y,g,by exact U e' (U (List.setIfInBounds_toArray _ _ _) rfl),by refine U yb ?_;exact lx,(e.set p xv).mono (Ja _) (Aq sb b Dt)⟩
 induction a with
 |fwd u q=>subst q;exact ki_setAt b u d.2 (by refine U Hb (Ed e.length ?_);lia) (go _ (tI _ b) (zd ..))|back u h1 q=>
  refine ki_setBack b u (by refine U Hb (Ed e.length ?_);exact h1) d.1 (go _ ?_ (zd ..));have:=tI (λz=>z.setIfInBounds (k+f.toArray.size).toNat y) b;rw[Hb,<-e.length,q]at this|-;exact this
theorem WG{es:List P}{a:List D}(h:a.length=es.length)(b:es.length<4096):a.length<=sizeLine:=by refine U h (U zf ?_);lia
theorem Nv{b:Type}{es:List (P×D)}{a:List (P×b)}(h:a.map (λx=>x.1)=es.map λx=>x.1):a.length=es.length:=by have:=Gc nj h;rwa [ya,ya]at this
theorem Ez{a:List (Int×wa)}(q:ob.IsDictOf (ig pg w) a):¬Ih ob:=by
 refine aa λb=>?_;obtain⟨_,_,_,d,_⟩:=q;refine b ?_;simp[Ih,d]
theorem bK{es:List (Int×V)}(r:R w X ρ W s.heap)(l:Um X L ρ s.heap)(p:ρ[j]?=J c)(q:OR w ρ s.heap (.idict es) c)(z:VR w ρ s.heap x y)(e:es.length<4096):
 Qa (bb pg w) A (ux (.ref c) (.int k t) y) (λu=>PS w X L ρ s (W.set j (.idict (jw es k x)))) No s:=by
 refine aa λa=>?_;obtain⟨O,x1,b,d,f,q4,q5⟩:=q;refine a (HX (Gn k t) (Mf.mpr ⟨O,b,d⟩) (λT hd g=>?_) (WG (Nv f) e));refine aa λa=>?_;obtain⟨o2,e2,d2⟩:=Mf.mp hd;refine a ?_;have st:=Gw jw (λu u=>rfl) (λu u u u=>rfl) z d.choose_spec.choose_spec.2.2.2.2 f q4 (k:=k);exact PS.upd r l p b g ⟨o2,_,e2,d2,st.1,st.2.mono (Ja _) (Aq g b (Ez d)),Za (QJ k x es) e⟩
theorem cK{k:Bb}(r:R w X ρ W s.heap)(l:Um X L ρ s.heap)(ec:ρ[j]?=J c)(q:OR w ρ s.heap (.h es) c)(xv:VR w ρ s.heap x y)(g:es.length<4096):
 Qa (bb pg w) A (ux (.ref c) (.str k t) y) (λu=>PS w X L ρ s (W.set j (.h (Gh es k x)))) No s:=by
 refine aa λb=>?_;obtain⟨p,m,d,q2,z,q4⟩:=q;obtain⟨x1,O,d2,d3⟩:=q2.isDict (m:=m) z;refine b (HX (Ek k t) (Mf.mpr ⟨_,d,O⟩) (λT hd sb=>?_) (WG (Nv d2) g));refine aa λb=>?_;have st:=Gw Gh (λu u=>rfl) (λu u u u=>rfl) xv O.choose_spec.choose_spec.2.2.2.2 d2 d3 (k:=k);obtain⟨o2,u,e⟩:=Mf.mp hd;obtain⟨a,m',rfl,f⟩:=rG e st.1 (st.2.mono (Ja _) (Aq sb d TB));exact b (PS.upd r l ec d sb ⟨a,m',u,f,nw z,Za (sC k x es) g⟩)
theorem Py(r:R w X ρ W s.heap)(l:Um X L ρ s.heap)(xo:VR w ρ s.heap I o)(xi:VR w ρ s.heap G i)(xv:VR w ρ s.heap x y)(e:Ci I G x W=J E):
 Qa (bb pg w) A (ux o i y) (λu=>PS w X L ρ s E) No s:=by
 refine ab e λj e1 e=>qe e λob e2 e=>ab e2 λx1 e3 O=>?_;subst e;clear e2;obtain⟨c,rfl,ec⟩:=(Sh e1▸xo:VR w ρ s.heap (.ref j) o).wF;have q:=r.obj _ _ c e3 ec;refine aa λa=>?_
 induction x1 with
 |list S=>
  refine a ?_;clear a;refine ab O λp b d=>ab b λk f g=>qe d λys e9 x2=>?_;obtain⟨t,rfl⟩:=xi.wZ f;have z:=El e9;exact Ed x2 (Ed z.2 (UP r l ec q xv g z.1))
 |idict es=>
  refine a ?_;clear a;refine ab O λk b d=>qe d λu f g=>?_;obtain⟨t,rfl⟩:=xi.wZ b;exact Ed g (bK r l ec q xv (Qi (yf f)))
 |h es=>
  refine a ?_;clear a;refine ab O λk b d=>qe d λu f g=>?_;obtain⟨t,rfl⟩:=(dD b▸xi:VR w ρ s.heap (.str k) i).wF;exact Ed g (cK r l ec q xv (Qi (yf f)))
 |_=>refine a ?_;clear a;exact ja O
end
section
variable {Q:qb} {vs:List wa} {O:List V} {a:Ca} {k tk' i:Nat} {is:List Int} {t u:jk} {o:wa} {b:Int}
variable [G:Av]
variable {w:zb} {W h:qb} {L:Ca} {ρ:List Ca} {S X:St} {s:Ea} {v:V} {I:wa} {A:Yb} {n:Nat} {K:Ue} {N:Bh}
theorem PV.wI{d:Nat}{x:V}{y:wa}(r:R w W ρ S s.heap)(c:∀a o,s.heap.get? a=J o->Q.get? a=J o)(q:VR w ρ Q x y):PV w W L ρ s S x y {s with heap:=Q,toks:=d}:=
 ⟨ρ,rfl,KX.wI c,r.wI c,q⟩
theorem Iy(r:R w W ρ S s.heap)(c:∀b x,s.heap.get? b=J x->Q.get? b=J x)
 (d:s.heap.get? a=Y)(f:Q.get? a=J (listOf vs.toArray k))(x:ue w ρ s.heap O vs)(e:gj O S=J (v,X)):
 PV w W L ρ s X v (.ref a) {s with heap:=Q,toks:=tk'}:=
 Ao (P:=λv X=>PV w W L ρ s X v (.ref a) {s with heap:=Q,toks:=tk'}) e λg=>
  have z:=r.new' (L:=L) (a:=a) (o:=.list O) c d ⟨vs,_,f,vd g,x.mono (Hc _ _) λa o e u=>c a o e⟩
  ⟨_,rfl,z.2,z.1,.ref (Ir r)⟩
theorem Jy(r:R w W ρ S s.heap)(c:∀b x,s.heap.get? b=J x->Q.get? b=J x)
 (d:s.heap.get? a=Y)(f:Q.get? a=J (iu vs k))(x:ue w ρ s.heap O vs)(e:Bp O S=J (v,X)):
 PV w W L ρ s X v (.ref a) {s with heap:=Q,toks:=tk'}:=
 Bo (P:=λv X=>PV w W L ρ s X v (.ref a) {s with heap:=Q,toks:=tk'}) e λg=>
  PV.wI r c (.t (r.notAv d) f (vd g) (x.mono (Ja _) λa o e u=>c a o e))
theorem xk{h:qb}(c:∀b x,h.get? b=J x->Q.get? b=J x)(e:Q.get? a=Y):h.get? a=Y:=by
 induction q:h.get? a with
 |none=>rfl|some o=>rw[c a o q]at e;exact ja e.symm
theorem tt(x:Xi vs is):vs.length=is.length:=by
 induction x with
 |nil=>rfl|cons u y z c=>simp[c]
theorem ue.fit(q:ue w ρ h O vs)(c:O.length<=4096):vs.toArray.size<=sizeLine:=by refine U Hb (Ed q.length (U zf ?_));lia
theorem ue.int(q:ue w ρ h O vs):VR w ρ h (.int O.length) (.int vs.toArray.size t):=by refine U Hb (Ed q.length ?_);exact .int _ _
theorem EB(r:R w W ρ S s.heap)(e:tc S i=J O)(x:VR w ρ s.heap (.ref i) o):
 Qa (bb pg w) A (call (.builtin "len") [o]) (PV w W L ρ s S (.int O.length)) No s:=by
 refine aa λd=>?_;obtain⟨a,vs,m,rfl,_,f,g,c⟩:=r.list e x;refine d ?_;exact call_len_list (ve f) (by refine U Hb (Ed c.length ?_);lia) (PV.same r c.int)
theorem AE(r:R w W ρ S s.heap)(x:VR w ρ s.heap (.t O) o):
 Qa (bb pg w) A (call (.builtin "len") [o]) (PV w W L ρ s S (.int O.length)) No s:=by
 refine aa λc=>?_;obtain⟨a,vs,m,rfl,_,e,l,q⟩:=x.wF;refine c ?_;exact qaj (lf e) (by refine U Hb (Ed q.length ?_);lia) (PV.same r q.int)
theorem VJ(r:R w W ρ S s.heap):
 Qa (bb pg w) A (call (.type "range") [.int b t]) (PV w W L ρ s S (.rng 0 b)) No s:=
 call_range_1 (PV.wI r (λa o e=>Ba _ e) (.rng (Oa _ rfl)))
theorem WJ{a:Int}(r:R w W ρ S s.heap):
 Qa (bb pg w) A (call (.type "range") [.int a t,.int b u]) (PV w W L ρ s S (.rng a b)) No s:=
 call_range_2 (PV.wI r (λa o e=>Ba _ e) (.rng (Oa _ rfl)))
theorem BZ{a:Int}(c:Dg n A)(r:R w W ρ S s.heap):
 Qa (bb pg w) A (call (.builtin "max") [.int a t,.int b u]) (PV w W L ρ s S (.int (max a b))) No s:=
 max_two_ints c.hh λQ e d=>PV.wI r d (by
  split
  ·exact U (show max a b=b from by lia) (.int _ _)
  ·refine U (show max a b=a from by lia) ?_;exact .int _ _)
theorem GZ{a:Int}(c:Dg n A)(r:R w W ρ S s.heap):
 Qa (bb pg w) A (call (.builtin "min") [.int a t,.int b u]) (PV w W L ρ s S (.int (min a b))) No s:=
 min_two_ints c.hh λQ e d=>PV.wI r d (by
  split
  ·exact U (show min a b=b from by lia) (.int _ _)
  ·refine U (show min a b=a from by lia) ?_;exact .int _ _)
theorem G1(l:Dg n A)(r:R w W ρ S s.heap)(e:tc S i=J O)(p:ki O=J is)(x:VR w ρ s.heap (.ref i) o):
 Qa (bb pg w) A (call (.builtin "sum") [o]) (PV w W L ρ s S (.int is.sum)) No s:=by
 refine aa λq=>?_;obtain⟨a,vs,m,rfl,_,y,D,z⟩:=r.list e x;have c:=yi z p;obtain⟨d,f⟩:=c.allInts.items;refine q ?_;have g:=ve y;rw[f]at g;refine sum_intListG l.hh g λQ E F B=>PV.wI r B ?_;have j:=nums_intItems d;rw[<-f]at j;have:preSum (numAt d) d.size=is.sum:=by
  rw[preSum_eq,<-j,show vs.toArray.toList=vs from rfl,c.numsOf,wD];have:=tt c;have C:=Gc Array.size f;simp[intItems]at C
  lia
 exact U this (.int _ _)
theorem qA(r:R w W ρ S s.heap)(x:VR w ρ s.heap (.t O) o)(e:Bp O S=J (v,X)):
 Qa (bb pg w) A (call (.type "tuple") [o]) (PV w W L ρ s X v) No s:=jO e λu=>by
 refine aa λc=>?_;obtain⟨a,vs,m,rfl,d,e,l,q⟩:=x.wF;exact c (call_tuple_tup (lf e) (PV.wU r x))
theorem Ax(r:R w W ρ S s.heap)(e:tc S i=J O)(x:VR w ρ s.heap (.ref i) o)(f:Bp O S=J (v,X)):
 Qa (bb pg w) A (call (.type "tuple") [o]) (PV w W L ρ s X v) No s:=by
 refine aa λg=>?_;obtain⟨a,vs,m,rfl,_,j,l,c⟩:=r.list e x;refine g ?_;exact call_tuple_list (ve j) (λQ d=>Jy (vs:=vs) (k:=0) (tk':=s.toks) r (λb x e=>Ba _ (d b x e)) (xk d (Fb Q)) (Oa _ rfl) c f) (c.fit l)
theorem HB(r:R w W ρ S s.heap)(x:VR w ρ s.heap (.t O) o)(e:gj O S=J (v,X)):
 Qa (bb pg w) A (call (.type "list") [o]) (PV w W L ρ s X v) No s:=by
 refine aa λc=>?_;obtain⟨a,vs,m,rfl,j,d,l,q⟩:=x.wF;exact c (call_list_seq a (T:="tuple") (.inr rfl) d rfl rfl (λQ p f g=>Iy (tk':=s.toks) r f (Fb _) g q e) (q.fit l))
theorem Bq(x:Int):∀l,(uo x l).Perm (x::l):=by
 intro l
 induction l with
 |nil=>
  exact .refl _
 |cons y r c=>
  show(if x<=y then x::y::r else y::uo x r).Perm _
  by_cases q:x<=y
  ·rw[Dd q]
  ·exact U (fe q) (((c).cons y).trans (.swap x y r))
theorem qF:∀l,(Yq l).Perm l:=by
 intro l
 induction l with
 |nil=>
  exact .refl _
 |cons x r c=>
  exact(Bq x _).trans ((c).cons x)
theorem Iv(x:Int):∀l:List Int,l.Pairwise (λx y=>x<=y)->(uo x l).Pairwise (λx y=>x<=y):=by
 intro l
 induction l with
 |nil=>
  rintro _;exact JA _ _
 |cons y r d=>
  rintro h;have Q:=zg.mp h;show(if x<=y then x::y::r else y::uo x r).Pairwise _
  by_cases q:x<=y
  ·exact U (Dd q) (zg.mpr ⟨λz c=>(fb.mp c).elim (λe=>e▸q) λe=>Int.le_trans q (Q.1 z e),h⟩)
  ·exact U (fe q) (zg.mpr ⟨λz c=>(fb.mp ((Bq x r).mem_iff.mp c)).elim (λe=>e▸u5 (qbe.mp q)) (Q.1 z),d Q.2⟩)
theorem jA:∀l:List Int,(Yq l).Pairwise (λx y=>x<=y):=by
 intro l
 induction l with
 |nil=>
  exact .nil
 |cons x r c=>
  exact Iv x _ (c)
theorem Zq{l c:List Int}(p:c.Perm l)(q:c.Pairwise λx y=>x<=y):c=Yq l:=
 qeE (le:=λx y=>x<=y) (λa b u u d e=>Int.le_antisymm d e) q (jA l) (p.trans (qF l).symm)
theorem Ew(r:R w W ρ S s.heap)(l:Um W L ρ s.heap)(e:tc S i=J O)(j:ki O=J is)(x:VR w ρ s.heap (.ref i) o)(c:is.length<60)
 (p:gj ((Yq is).map V.int) S=J (v,X)):Qa (bb pg w) A (call (.builtin "sorted") [o]) (PV w W L ρ s X v) No s:=by
 refine aa λy=>?_;obtain⟨a,vs,m,rfl,_,z,q2,B⟩:=r.list e x;have d:=yi B j;obtain⟨mm,f⟩:=l.ns;refine y ?_;refine sorted_N (cj f) ug (ve z) d (by refine U (tt d) ?_;lia) λQ C D e' E g F P T=>?_;have:=Zq P T;subst this;have hg:s.heap.get? (s.heap.objs.size+1)=Y:=by
  induction q:s.heap.get? (s.heap.objs.size+1)with
  |none=>rfl|some u=>exact zc (qc q) (Ud.mpr (se _))
 exact Jq (tk':=s.toks) r l f E.ns (News.keepAll1 g) hg (g _ sa).1 (ir F) p
theorem uJ{k:Int}{v:wa}(h:Ho k v=Z):∃t,v=.int k t:=by
 induction v<;>simp[Ho]at h
 exact⟨_,by exact U h rfl⟩
theorem Dq{c:List (Int×wa)}:{vs:List wa}->vs.length=c.length->(∀(j:Nat)(v:wa),vs[j]?=J v->∃k x,c[j]?=J (k,x)/\(ig pg w).is k v=Z)->Xi vs (c.map λx=>x.1):=by
 induction c with
 |nil=>intro vs e _;refine U (rg e) ?_;exact .nil|cons f c g=>
  intro vs e d
  induction vs using ma with
  |nil=>exact zc e.symm (Zb _)|cons v vs=>
   obtain⟨k,x,l,m⟩:=d 0 v rfl;obtain⟨t,rfl⟩:=uJ m;have:f=(k,x):=ba l;exact U this (.cons _ _ (g (Jh e) λj v q=>d (j+1) v q))
theorem Dw{m:List (Int×V)}(AK:Dg n A)(hm:W.get? sysModules≠Y)(r:R w W ρ S s.heap)(l:Um W L ρ s.heap)(e:S[i]?=J (.idict m))(x:VR w ρ s.heap (.ref i) o)(C:m.length<60)
 (en:gj ((Yq (m.map λx=>x.1)).map V.int) S=J (v,X)):Qa (bb pg w) A (call (.builtin "sorted") [o]) (PV w W L ρ s X v) No s:=by
 refine aa λnq=>?_;obtain⟨a,rfl,E⟩:=x.wF;obtain⟨o',kvs,q1,q2,F,q4,q5⟩:=r.obj _ _ a e E;obtain⟨mm,P⟩:=l.ns;obtain⟨y,ep,d⟩:=q2;refine nq ?_;have f:=Nv F;refine kdu_sorted (kdl_dict (knd:=ig pg w) (kvs:=kvs) (ep:=ep) (r.notMods hm (Ma E))) AK.hh (cj P) ug ⟨o',y,q1,d⟩ (by refine U f (U zf ?_);lia) λD Q T vs F' N' hD z hv=>?_;refine ksk_lsort (A:=A.in1) (s:={s with heap:=Q,toks:=T}) (news':=λo=>(D,o)::Ai s.heap L) (its:=vs.toArray) F' N' (λo=>qeJ λp c=>ic (hD p c)) rfl (Dq z hv:Xi vs (kvs.map λx=>x.1)) (by refine U (ya _) ?_;lia) λx1 x2 c x3 p g i' u p' B u=>?_;have:=Zq p' B;subst this;have hg:s.heap.get? D=Y:=by
  induction q:s.heap.get? D with
  |none=>rfl|some ob=>
   by_cases j:D=L
   ·exact zc j (g _ sa).2.1
   ·exact zc (hD _ (we.mpr ⟨j,q⟩)) (dc _)
 rw[F]at i';exact Jq (tk':=T) r l P p.ns (News.keepAll1 g) hg (g _ sa).1 (ir i') en
end
section
variable {a:Ca} {k:Int} {x:V} {t:jk}
variable [I:Av]
variable {w:zb} {Q h:qb} {L:Ca} {X:List Ca} {T N:St} {s:Ea} {v:V} {O:wa} {A:Yb} {n:Nat} {K:Ue} {P:Bh}
theorem Sj{i:Nat}{d:List V}{vs:List wa}{k:Nat}{c:qb}{tk':Nat}{m}(r:R w Q X T s.heap)(l:Um Q L X s.heap)(g:X[i]?=J a)(j:s.heap.Ns L m)(f:c.Ns L m)
 (p:∀b x,b≠L->b≠a->s.heap.get? b=J x->c.get? b=J x)(y:c.get? a=J (listOf vs.toArray k))(B:d.length<=4096)(x:ue w X s.heap d vs):
 PV w Q L X s (T.set i (.list d)) .none .none {s with heap:=c,toks:=tk'}:=
 have z:=r.updL l (o:=.list d) g j f p ⟨vs,k,y,B,x.mono (Ja _) (λb z e u=>p b z (λq=>Bg j (q▸e) u) (λq=>r.notIn e u (q▸Ma g)) e:∀b z,s.heap.get? b=J z->Ih z->c.get? b=J z)⟩
 ⟨X,rfl,z.2,z.1,.none⟩
theorem Um.ne(l:Um Q L X h){i:Nat}(b:X[i]?=J a):a≠L:=λq=>l.out (q▸Ma b)
theorem HI{i:Nat}{c:List V}{o y:wa}(r:R w Q X T s.heap)(l:Um Q L X s.heap)(e:tc T i=J c)(q:VR w X s.heap (.ref i) o)(u:VR w X s.heap x y)(z:c.length<4096):
 Qa (bb pg w) A (call (.builtin "list.append") [o,y]) (PV w Q L X s (T.set i (.list (c++[x]))) .none) No s:=by
 refine aa λB=>?_;obtain⟨a,vs,m,rfl,f,C,D,g⟩:=r.list e q;obtain⟨mm,j⟩:=l.ns;obtain⟨d,b,E,F⟩:=Fu (o':=listOf (vs.toArray.push y) (m+1)) C (l.ne f);refine B ?_;exact append_K (cj j) ug b (λS G p=>Sj (tk':=s.toks) r l f j G.ns (News.keepUpd p F) (vs:=vs++[y]) ((p _ E).1.trans (by exact U (jL _ _) rfl)) (by refine U Ha ?_;exact z) (g.append (ue.one u))) (g.fit D)
theorem kH{xs:List V}{b c:Array wa}(h:b.size+c.size<=4096):¬(!b.isEmpty&&yj (b.size+c.size))=Z:=by
 have:yj (b.size+c.size)=ua:=by
  simp only[yj,decide_eq_false_iff_not,zf];lia
 exact U this (U (cW _) ia)
theorem yv{i j:Nat}{xs g:List V}{o y:wa}(r:R w Q X T s.heap)(l:Um Q L X s.heap)(e:tc T i=J xs)(e2:tc T j=J g)(xo:VR w X s.heap (.ref i) o)(xy:VR w X s.heap (.ref j) y)(hl:xs.length+g.length<4096):
 Qa (bb pg w) A (call (.builtin "list.extend") [o,y]) (PV w Q L X s (T.set i (.list (xs++g))) .none) No s:=by
 refine aa λnq=>?_;obtain⟨a,vs,m,rfl,B,q1,q2,p⟩:=r.list e xo;obtain⟨b,u,m2,rfl,eb,p1,p2,D⟩:=r.list e2 xy;obtain⟨mm,C⟩:=l.ns;refine nq ?_;have E:vs.toArray.size+u.toArray.size<=4096:=by refine U Hb (U Hb (Ed p.length (Ed D.length ?_)));exact vd hl
 have hz:vs.toArray.size+u.toArray.size<=sizeLine+1:=Za E (by refine U zf ?_;exact Ve _ _);have d:(xs++g).length<=4096:=by refine U Ha ?_;exact vd hl
 by_cases F:u=[]
 ·obtain⟨f,c,G,S⟩:=Fu (o':=listOf vs.toArray m) q1 (l.ne B)
  exact kxn_extend (cj C) ug (we.mpr ⟨l.ne eb,p1⟩) F c (kH (xs:=[]) E) (p.fit q2) hz λh' W z=>Sj (tk':=s.toks) r l B C W.ns (News.keepUpd z S) (vs:=vs) (z _ G).1 d (U (KE (show ue w X s.heap g []from F▸D)) (U (Wb _) p))
 ·obtain⟨f,c,G,S⟩:=Fu (o':=listOf (vs++u).toArray (m+1)) q1 (l.ne B)
  exact kl_extend (cj C) ug (we.mpr ⟨l.ne eb,p1⟩) rfl (λq=>F (rg q)) c (kH (xs:=[]) E) (p.fit q2) hz λh' W z=>Sj (tk':=s.toks) r l B C W.ns (News.keepUpd z S) (vs:=vs++u) (z _ G).1 d (p.append D)
theorem sJ{i:Nat}{c:List V}{o y:wa}(r:R w Q X T s.heap)(l:Um Q L X s.heap)(e:tc T i=J c)(u:VR w X s.heap (.ref i) o)(z:VR w X s.heap x y)
 (B:0<=k)(W:k<=c.length)(hl:c.length<4096):
 Qa (bb pg w) A (call (.builtin "list.insert") [o,.int k t,y]) (PV w Q L X s (T.set i (.list (c.take k.toNat++x::c.drop k.toNat))) .none) No s:=by
 refine aa λC=>?_;obtain⟨a,vs,m,rfl,j,D,E,f⟩:=r.list e u;obtain⟨mm,p⟩:=l.ns;have d:kl_ins vs.toArray.toList k y=vs.take k.toNat++y::vs.drop k.toNat:=by
  unfold kl_ins;simp only[Wi.mpr B,if_false,Nat.min_eq_left (by refine Ed f.length ?_;omega:k.toNat<=vs.length)]
 obtain⟨g,b,F,G⟩:=Fu (o':=listOf (vs.take k.toNat++y::vs.drop k.toNat).toArray (m+1)) D (l.ne j);refine C ?_;exact kl_insert (cj p) ug (by simp only[X9,Ad,decide_eq_true_eq];omega) d b (f.fit E) λh' S q=>Sj (tk':=s.toks) r l j p S.ns (News.keepUpd q G) (vs:=_) (q _ F).1 (by refine U Ha (U mc (U nu (U Mm ?_)));omega) ((f.take _).append (.cons z (f.drop _)))
theorem ON:∀is:List Int,is.all (λi=>decide (-1000<i)&&decide (i<1000))=Z->Th (is.map qg)=Z/\zh (is.map qg)=0/\jt (is.map qg)<=is.length*12:=by
 intro is
 induction is with
 |nil=>
  rintro _;simp[Th,zh,jt]
 |cons i is ih=>
  rintro h;simp only[yA,Ad,decide_eq_true_eq]at h;refine aa λnq=>?_;obtain⟨a,b,c⟩:=ih h.2;refine nq ?_;have hw:Gx (.int i)<=11:=by
   simp only[Gx]
   split
   ·exact td _
   ·rename_i q
    have:i.natAbs<2^10:=by lia
    have:=(qab (by simp at q;lia)).mpr this;exact Tf (by assumption)
  simp only[Vb,Th,zh,jt,qR,nW,a,b,mc];refine⟨rfl,rfl,?_⟩
  lia
theorem mN{i:Nat}{b:List V}{is:List Int}{o:wa}(r:R w Q X T s.heap)(e:tc T i=J b)(c:ki b=J is)(d:VR w X s.heap (.ref i) o)
 (f:is.contains k=Z)(g:is.all (λi=>decide (-1000<i)&&decide (i<1000))=Z)(u:is.length<60):
 Qa (bb pg w) A (call (.builtin "list.index") [o,.int k t]) (PV w Q L X s T (.int (is.idxOf k))) No s:=by
 refine aa λj=>?_;obtain⟨a,y,m,rfl,z,l,B,p⟩:=r.list e d;obtain⟨q,c2,c3⟩:=ON is g;refine j (index_list_ints (ve l) (yi p c) ?_ (fo.mp f) (PV.same r (.int _ _)));simp only[Vf.layable0,qR,q,nW,c2,Gx,xA,Ad,decide_eq_true_eq];exact⟨by decide,decide_eq_true (Za c3 (show is.length*12<=1048576 by lia))⟩
theorem hM{i:Nat}{b:List V}{is:List Int}{o:wa}(r:R w Q X T s.heap)(e:tc T i=J b)(c:ki b=J is)(d:VR w X s.heap (.ref i) o):
 Qa (bb pg w) A (call (.builtin "list.count") [o,.int k t]) (PV w Q L X s T (.int (is.count k))) No s:=by
 refine aa λf=>?_;obtain⟨a,l,m,rfl,p,g,q,j⟩:=r.list e d;exact f (count_list_ints (ve g) (yi j c) (PV.same r (.int _ _)))
theorem nB{p:Zi}{f S:Ca}{fp wr:List Ca}{k:Nat}{g:Nat->wa->Prop}{St:Nat->qb->Prop}{Rr:Dr->Ea->Prop}(W:Walks p w A.in1 f fp wr k g St)(hS:S∉fp)(C:wa)(c0:List wa)(hz:c0.length+k<=4096):
 ∀(d i:Nat)(s:Ea)(l:List wa)(c:Nat),k - i=d->i<=k->St i s.heap->s.heap.get? S=J (listOf (c0++l).toArray c)->l.length=i->(∀j v,l[j]?=J v->g j v)->
 (∀r tk m c',(∀b o,b≠S->b∉wr->s.heap.get? b=J o->r.get? b=J o)->r.get? S=J (listOf (c0++m).toArray c')->m.length=k->(∀j v,m[j]?=J v->g j v)->Rr (.ok (.ret C)) {s with heap:=r,toks:=tk})->
 ch (bb p w) A (.builtin "list.extend.loop" ⟨[.ref S,.ref f,C],[]⟩) Rr s:=by
 have D:S∉wr:=λh=>hS (W.sub _ h);intro d
 induction d with
 |zero=>
  intro i s l c hd hi y z B hP hR;have:i=k:=ax hi (TF hd);subst this;exact cg Yw (U (Fe xf _) (ga (W.done s _ _ y λr tk E=>ta (hR r tk l c (λb o u q e=>E b o q e) (E S _ D z) B hP))))
 |succ d ih=>
  intro i s l c hd hi y z B hP hR;have u:i<k:=UF hd;have x5:(c0++l).length<=4096:=by refine U Ha (U B ?_);exact Za (Zj hi _) hz
  refine cg Yw (U (Fe xf _) (ga (W.item i s _ _ u y λv h1 tk hp F E=>?_)));have G:=E S _ D z;refine ga (Vp G rfl (ta ⟨ak xf _,ih (i+1) _ (l++[v]) (c+1) (by refine U (G5 _ _) (U hd ?_);rfl) u (W.frame _ _ _ F λb R o e=>(gf _ _ λq:S=b=>hS (q▸R)).trans e) ?_ (by refine U Ha (U B ?_);rfl) (λj x q=>?_) λr x1 m c' x2 R x3 x4=>hR r x1 m c' (λb o n1 n2 e=>x2 b o n1 n2 ((gf _ _ (cq n1)).trans (E b o n2 e))) R x3 x4⟩) ?_ ?_)
  ·refine(Qc (Yi λx=>x.push v) G rfl).trans ?_
   simp[Yi]
  ·rcases ck j l.length with b|b
   ·rw[Xa b]at q;exact hP j x q
   ·rw[La b]at q
    induction e:j - l.length using Sa with
    |zero=>
     rw[e]at q;exact Ed (ba q) (U (show j=i from ax (B▸TF e) (B▸b)) hp)
    |succ t=>rw[e]at q;exact ja q
  ·refine U Hb (U zf ?_);lia
  ·refine U (cn _) (U Hb (U zf ?_));lia
end
section
variable {a b:Int}
variable [I:Av]
def dq(a b:Int)(c:List wa):Prop:=c.length=(b - a).toNat/\∀(j:Nat)(x:wa),c[j]?=J x->∃t,x=cm (a+(j:Int)*1) t
variable {w:zb} {X h:qb} {L:Ca} {W:List Ca} {Q N:St} {s:Ea} {v:V} {O:wa} {A:Yb} {n:Nat} {K:Ue} {P:Bh}
theorem To(a b:Int):Xg a b 1=((b - a).toNat:Int):=by
 simp only[Xg,show(1:Int)>0 from by decide,if_true,Int.ediv_one]
 split<;>lia
theorem Al{prog:Zi}{Rr:Dr->Ea->Prop}{r S:Ca}{t u v:jk}{c0:List wa}{c:Nat}{res:wa}(hh:A.handled=Y)(C:UK s.heap r a b 1 t u v)(D:s.heap.get? S=J (listOf c0.toArray c))
 (ha: -1000<a)(x1:a<1000)(x2: -1000<b)(G:b<1000)(hz:c0.length+(b - a).toNat<=4096)
 (hR:∀p z g m,(∀b o,b≠S->s.heap.get? b=J o->p.get? b=J o)->p.get? S=J (listOf (c0++g).toArray m)->g.length=(b - a).toNat->(∀(j:Nat)(x:wa),g[j]?=J x->∃t,x=cm (a+(j:Int)*1) t)->Rr (.ok (.ret res)) {s with heap:=p,toks:=z}):
 Qa (bb prog w) A.in1 (Wp (.ref S) (.ref r) res)
  (λe d=>match e with|.done f=>Rr (.ok f) d|.again m=>m.quiet=Z/\ch (bb prog w) A m Rr d) (λe d=>Rr (.error e) d) s:=by
 have E:S≠r:=λe=>by rw[e,C]at D;simp at D
 have l:S≠s.heap.objs.size:=ic (qc D:S<s.heap.objs.size);have R:=To a b;have B:∀(h:qb)(i z:Nat),gn h s.heap.objs.size (a+((0:Nat):Int)*1) (((b - a).toNat:Int) - ((0:Nat):Int)) 1->(∀b o,b≠S->s.heap.get? b=J o->h.get? b=J o)->
  h.get? S=J (listOf c0.toArray i)->ch (bb prog w) A (.builtin "list.extend.loop" ⟨[.ref S,.ref s.heap.objs.size,res],[]⟩) Rr {s with heap:=h,toks:=z}:=by
  intro h i z f hk d;refine nB (Walks.range (prog:=prog) (w:=w) (A:=A.in1) hh s.heap.objs.size a 1 (b - a).toNat) (λk=>l (Ra.mp k):S∉[s.heap.objs.size]) res c0 hz (b - a).toNat 0 {s with heap:=h,toks:=z} [] i rfl (td _) f (by simpa using d) rfl (λj v q=>by simp at q) λp q g m y F hl hP=>(hR p q g m (λb o X e=>y b o X (λk=>?_) (hk b o X e)) F hl hP);exact zc (qc e) (by refine U (Ra.mp k) ?_;exact dc _)
 unfold Wp;refine ga (Dx (T:="range") ⟨_,C,rfl⟩ ?_);have h1:Zs (.ref S) (.ref r)=ua:=by simp[Zs,E]
 simp only[h1,(by decide:(uf "range"==uf "list")=ua),(by decide:(uf "range"==uf "tuple")=ua),wA,dk,if_false];refine ga (W2 C (small_one (by lia) (by lia) (by lia) (by lia):d5 a b 1=Z) ?_);refine ga (Kb (wpAny_hint_range (n:=(b - a).toNat) (Ba _ C) R (by lia) ?_));have f:gn (s.heap.push {cls:=.type "range_iterator",data:=.fields #[ag a,ag (Xg a b 1),ag 1]}) s.heap.objs.size (a+((0:Nat):Int)*1) (((b - a).toNat:Int) - ((0:Nat):Int)) 1:=by
  show gn _ _ _ _ _;refine U R ?_;simpa using Oa _ rfl
 have d:=Ba {cls:=.type "range_iterator",data:=.fields #[ag a,ag (Xg a b 1),ag 1]} D;have F:c0.toArray.size<=4096:=by refine U Hb ?_;lia
 have x3:sizeLine=16777216:=zf;have q:c0.toArray.size<=sizeLine:=by lia
 refine li (λy=>?_) λy=>ta ⟨ak xf _,B _ c _ f (λb o y e=>Ba _ e) d⟩;refine ga (Xj (ga ?_));refine ga (Vp d rfl ?_ q (by refine U (cn _) ?_;exact Rg (by assumption)));have k:=Qc (Yi λx=>x.push fq) d rfl;refine Vp k rfl ?_ (by refine U (cn _) ?_;lia) (by refine U Array.size_pop (U (cn _) ?_);exact Kd (by assumption));refine ta ⟨ak xf _,B _ _ _ ?_ (λb o X e=>?_) ((Qc (Yi λx=>x.pop) k rfl).trans (by simp[Yi];rfl))⟩
 ·exact(gf _ _ l).trans ((gf _ _ l).trans f)
 ·exact(gf _ _ (cq X)).trans ((gf _ _ (cq X)).trans (Ba _ e))
theorem dq.of{c:List wa}(d:c.length=(b - a).toNat)(e:∀(j:Nat)(x:wa),c[j]?=J x->∃t,x=cm (a+(j:Int)*1) t):dq a b c:=⟨d,e⟩
theorem wE(a:Int)(k:Nat):ut a (k+1)=.int a::ut (a+1) k:=by
 unfold ut;exact U vD (U Vb (U Qd (congr (Gc _ (Gc V.int (o5 a))) (fg λi u=>Gc V.int (show a+((i+1:Nat):Int)=a+1+i by lia)))))
theorem uK(k:Nat):∀(c:List wa)(a:Int),c.length=k->(∀(j:Nat)(x:wa),c[j]?=J x->∃t,x=cm (a+(j:Int)*1) t)->ue w W h (ut a k) c:=by
 induction k with
 |zero=>exactλc a d u=>by refine U (rg d) ?_;exact .nil|succ k g=>
  intro c a d f
  induction c using ma with
  |nil=>exact zc d.symm (Zb _)|cons x c=>
   obtain⟨t,rfl⟩:=f 0 x rfl;refine U (wE _ _) (U (show a+((0:Nat):Int)*1=a by lia) ?_);exact .cons (.int _ t) (g c (a+1) (Jh d) λj y q=>by
    obtain⟨t,e⟩:=f (j+1) y q;exact⟨t,by exact U e (U (show a+((j+1:Nat):Int)*1=a+1+(j:Int)*1 by lia) rfl)⟩)
theorem Xy{c:List wa}(q:dq a b c):ue w W h (Jo a b) c:=uK _ c a q.1 q.2
theorem Zt{i:Nat}{g:List V}{o y:wa}(AK:Dg n A)(r:R w X W Q s.heap)(l:Um X L W s.heap)(e:tc Q i=J g)(xo:VR w W s.heap (.ref i) o)(xy:VR w W s.heap (.rng a b) y)
 (ha: -1000<a)(k:a<1000)(p: -1000<b)(c:b<1000)(hl:g.length+(Jo a b).length<4096):
 Qa (bb pg w) A (call (.builtin "list.extend") [o,y]) (PV w X L W s (Q.set i (.list (g++Jo a b))) .none) No s:=by
 refine aa λB=>?_;obtain⟨ad,vs,m,rfl,F,G,q2,S⟩:=r.list e xo;obtain⟨ra,t,u,v',rfl,hr⟩:=xy.wF;have T:(Jo a b).length=(b - a).toNat:=by unfold Jo ut;exact U (ya _) (U Ab rfl)
 have hv:=S.length;obtain⟨mm,hn⟩:=l.ns;refine B (Np (ES Pk.plain PySem.F.entry_list_extend (Pk.check _ _ _ _ _ _ _ _ ⟨_,G,rfl⟩ (PySem.F.args_list_extend_2 _ _) ?_)));refine Da (Al (Rr:=λq C=>∃r,q=.ok (.ret r)/\PV w X L W s (Q.set i (.list (g++Jo a b))) .none r C) AK.hh hr G ha k p c (by lia) λh' tk d c' hk hS D hP=>⟨.none,rfl,?_⟩) (λE C z=>?_) λe C z=>by obtain⟨_,q,_⟩:=z;cases q
 rotate_left
 ·induction E with|done f=>obtain⟨j,q,z⟩:=z;cases q;exact z|again c'=>exact⟨z.1,Oc z.2 λq s2 z2=>by obtain⟨j,f,x⟩:=z2;subst f;exact x⟩
 exact Sj (tk':=tk) r l F hn (by
  refine aa λB=>?_;obtain⟨f,j,q,x,e2⟩:=hn;refine B ?_;exact⟨f,j,q,hk _ _ (cq (l.ne F)) x,e2⟩) (λb x j f e=>hk b x f e) (vs:=vs++d) hS (by refine U Ha ?_;exact vd hl) (S.append (Xy ⟨D,hP⟩))
end
section
variable [N:Av]
variable {w:zb} {T h:qb} {L:Ca} {W:List Ca} {Q X:St} {s:Ea} {v:V} {O:wa} {A:Yb} {n:Nat} {K:Ue} {P:Bh}
inductive cL(s:Ea)(a b:Int)(q:Dr)(s':Ea):Prop
 |mk:∀(h':qb)(tk:Nat)(acc':List wa)(c':Nat),q=.ok (.ret (.ref s.heap.objs.size))->s'={s with heap:=h',toks:=tk}->((∀b o,s.heap.get? b=J o->h'.get? b=J o))->h'.get? s.heap.objs.size=J (listOf acc'.toArray c')->dq a b acc'->cL s a b q s'
theorem fx{prog:Zi}{E:wa->Ea->Prop}{d:List wa->Ea->Prop}{r:Ca}{a b:Int}{t u v:jk}(R:A.handled=Y)(hr:UK s.heap r a b 1 t u v)
 (ha: -1000<a)(z:a<1000)(B: -1000<b)(m:b<1000)
 (G:∀k l e,(∀b o,s.heap.get? b=J o->k.get? b=J o)->dq a b e->d e {s with heap:=k,toks:=l}):
 Qa (bb prog w) A (collect (.ref r)) d E s:=by
 unfold collect;refine ga (qdk (cg entry_proto_collect' (U (Fe PySem.F.plain_proto_collect _) (ga (lj (ta ⟨ak Ix _,cg entry_list_iadd' ?_⟩))))));refine U (Fe Ix _) ?_;have C:=Al (prog:=prog) (w:=w) (A:=A) (s:={s with heap:=s.heap.push {cls:=.type "list",data:=.seq ([]:List wa).toArray}}) (S:=s.heap.objs.size) (c0:=[]) (c:=0) (res:=.ref s.heap.objs.size)
  (Rr:=λ(q:Dr)(D:Ea)=>cL s a b q D)
  R (Ba _ hr) (Oa _ rfl:(s.heap.push {cls:=.type "list",data:=.seq ([]:List wa).toArray}).get? s.heap.objs.size=J (listOf ([]:List wa).toArray 0)) ha z B m (by simp;lia)
  (λk l g F p i f j=>⟨k,l,g,F,rfl,rfl,λb o e=>p b o (ic (qc e)) (Ba _ e),by simpa using i,f,j⟩)
 refine Da C (λo D x=>?_) λe D x=>?_
 ·induction o with
  |done f=>
   obtain⟨k,l,g,F,e,rfl,p,i,j⟩:=x;cases e;exact ga (V2 i (ta (G k l g p j)))
  |again f=>
   refine⟨x.1,Oc x.2 λq I y=>?_⟩;obtain⟨k,l,g,F,rfl,rfl,p,i,j⟩:=y;exact ga (V2 i (ta (G k l g p j)))
 ·obtain⟨_,_,_,_,f,_⟩:=x
  cases f
theorem Zm(r:Ca)(a b:Int)(t u v:jk)(q: -1000<a)(g:a<1000)(i: -1000<b)(e:b<1000):
 Meets (Yj.«tuple.__new__» ⟨[.type "tuple",.ref r],[]⟩)
  (λA R s=>A.handled=Y/\UK s.heap r a b 1 t u v/\∀(f:qb)(j:Nat)(c:List wa),(∀b o,s.heap.get? b=J o->f.get? b=J o)->dq a b c->
   R (.ok (.ret (.ref f.objs.size))) {s with heap:=f.push {cls:=.type "tuple",data:=.seq c.toArray},toks:=j}):=
 .of_wp λm w A R s h=>by
  refine aa λx=>?_;obtain⟨y,o,h⟩:=h;refine x ?_;have p:=sub_tuple_self;have k:=init_tuple_lookup;have z:=madeHere_tuple;have hT:s.TypeIs (.ref r) "range":=⟨_,o,rfl⟩;have l:A.in1.handled=Y:=y
  wp_delta
  refine ga ?_
  wp_delta
  refine ta (Jb rfl (ga (af (by assumption) (Jb rfl (Jb rfl (ga (af (by assumption) (ga (af (by assumption) (Xs rfl (ga ?_)))))))))))
  wp_delta
  refine Xs rfl (ta (ga ?_))
  wp_delta
  refine Jb rfl (Jb rfl (Jb rfl (ta (Xs rfl (ga ?_)))))
  wp_delta
  refine ga ?_
  with_reducible apply Dx hT
  refine ta (Jb rfl (ga ?_))
  with_reducible apply fx l o q g i e
  intro f j c B d;show Qa _ _ (ur c.toArray>>=λv=>ret v) _ _ _
  unfold ur;refine ga (lj ?_ (show c.toArray.size<=sizeLine by have:=d.1;refine U Hb (U zf ?_);lia));exact ta ⟨_,rfl,h f j c B d⟩
theorem Pw{a b:Int}{o:wa}(l:Dg n A)(r:R w T W Q s.heap)(x:VR w W s.heap (.rng a b) o)(m: -1000<a)(f:a<1000)(g: -1000<b)(c:b<1000)(e:Bp (Jo a b) Q=J (v,X)):
 Qa (bb pg w) A (call (.type "tuple") [o]) (PV w T L W s X v) No s:=by
 refine aa λp=>?_;obtain⟨q,t,u,y,rfl,z⟩:=x.wF;refine p ?_;refine qeN PySem.F.called_tuple (by decide) (PySem.F.typeCall_tuple_1 _) (PySem.F.newCall_tuple_1 _) (λd=>PySem.F.args_object_init_2 d _) PySem.F.entry_tuple_new
  (Zm q a b t u y m f g c) ⟨l.hh,z,λC B i j d=>⟨⟨_,Oa _ rfl,rfl⟩,?_⟩⟩
 exact Jy (vs:=i) (k:=0) (tk':=B) r (λb x e=>Ba _ (j b x e)) (xk j (Fb _)) (Oa _ rfl) (Xy d) e
end
section
variable {e:Expr}
structure Gl where
 glob:Bb->Option wa
 sup:Option Nat
structure Sc where
 kinds:List (Bb×xd)
 sl:List Bb
noncomputable def Am(x:Bb):Bool:= !(x==("__debug__":Bb))&& !(x==("__classdict__":Bb))
noncomputable def vJ:xd->Bool
 |.local|.cell|.free=>Z|_=>ua
def Vs(f:Sc)(x:Bb):Option Nat:=(f.kinds.lookup x).bind λk=>(Ge (vJ k&&Am x)).bind λu=>xc f.sl x
noncomputable def Wv(z:Expr):Option Bb:=match z with|.Name x u=>J x|_=>Y
theorem Ll{x:Bb}(h:Wv e=J x):∃p,e=.Name x p:=by
 induction e using Expr.casesOn<;>first|exact ja h|exact⟨_,by exact U (ba h) rfl⟩
noncomputable def DF(z:Expr):Option (List Expr):=match z with|.Tuple f u y=>J f|_=>Y
theorem Nw{x:List Expr}(h:DF e=J x):∃k p,e=.Tuple x k p:=by
 induction e using Expr.casesOn<;>first|exact ja h|exact⟨_,_,by exact U (ba h) rfl⟩
noncomputable def qz(z:Expr):Option O3:=match z with|.Constant c u y=>J c|_=>Y
theorem mv{c:O3}(h:qz e=J c):∃k p,e=.Constant c k p:=by
 induction e using Expr.casesOn<;>first|exact ja h|exact⟨_,_,by exact U (ba h) rfl⟩
noncomputable def I9(z:O3):Option Bb:=match z with|.str a=>J a|_=>Y
noncomputable def aZ(z:O3):Option Int:=match z with|.int a=>J a|_=>Y
theorem lQ{c:O3}{a:Bb}(h:I9 c=J a):c=.str a:=by
 induction c<;>first|exact ja h|exact Ed (ba h) rfl
theorem rN{c:O3}{a:Int}(h:aZ c=J a):c=.int a:=by
 induction c<;>first|exact ja h|exact Ed (ba h) rfl
noncomputable def nF(z:Expr):Option (Option Expr×Option Expr×Option Expr):=match z with|.Slice a b c u=>J (a,b,c)|_=>Y
theorem oF{a b c:Option Expr}(h:nF e=J (a,b,c)):∃p,e=.Slice a b c p:=by
 induction e using Expr.casesOn<;>first|exact ja h|cases ba h;exact⟨_,rfl⟩
noncomputable def Pl:Expr->Bool
 |.Name .. |.Attribute .. |.Subscript .. =>Z|.Call (.Name ..) (u::y) z j=>Z|_=>ua
def l8(f:Sc)(e:Expr):Option Nat:=(Wv e).bind (Vs f)
noncomputable def Oz(f:Sc)(z:List Expr):Option (List Nat):=match z with|[]=>J []|e::g=>(l8 f e).bind λi=>(Oz f g).map λx=>i::x
def Xk(f:Sc)(e:Expr):Option CT:=match Wv e with|some x=>(Vs f x).map CT.x|none=>(DF e).bind λg=>(Oz f g).map CT.t
noncomputable def Wt(lo:Nat)(z:CT):Bool:=match z with|.x i=>decide (lo<=i)|.t is=>is.all λi=>decide (lo<=i)
noncomputable def Ft(f g:List (Bb×xd)):List (Bb×xd):=
 f.map λ(n,k)=>if(k== .free&&g.lookup n==J .cell)then(n,.cell)else(n,k)
noncomputable def Zg(f:List (Bb×xd)):List Bb:=(f.filter λx=>x.2== .local||x.2== .cell).map λx=>x.1
def fM(g:Sc)(f:Scope):Option Sc:=
 if f.kind== .function&& !f.isGenerator&& !f.isCoroutine&&f.names.all (λx=>(x.2== .local)==(f.names.lookup x.1==J .local))
  &&f.names.all (λx=> !(x.2== .free)||(g.kinds.lookup x.1==J .cell||g.kinds.lookup x.1==J .free))
  &&f.names.all (λx=>f.names.lookup x.1==J x.2)
  &&f.names.all (λx=> !(x.2== .globalExplicit))&&decide (f.names.map λx=>x.1).Nodup
 then J ⟨Ft f.names g.kinds,g.sl++Zg f.names⟩else Y
def B1(k:Option Expr):Option Bb:=(k.bind qz).bind I9
theorem iI{k:Option Expr}{a:Bb}(h:B1 k=J a):∃d p,k=J (.Constant (.str a) d p):=by
 refine aa λf=>(Vg h λc g i=>?_);refine Vg g λe z j=>?_;subst z;obtain⟨d,p,rfl⟩:=mv j;exact f (⟨d,p,by exact U (lQ i) rfl⟩)
def xp(e:Expr):Bool:=(Wv e).isSome
theorem Vr(h:xp e=Z):∃x p,e=.Name x p:=by
 obtain⟨x,h⟩:=Na.mp h;exact⟨x,Ll h⟩
def ym(e:Expr):Bool:=(nF e).isSome
def qbu(z:Option Expr×Option Expr×Option Expr):Option Int:=match z with|(Y,J e,Y)=>(qz e).bind aZ|_=>Y
def vY(e:Expr):Option Int:=(nF e).bind qbu
theorem KS{k:Int}(h:vY e=J k):∃d p q,e=.Slice Y (J (.Constant (.int k) d p)) Y q:=by
 refine aa λf=>?_;refine Vg h λz i g=>?_;obtain⟨a,b,c⟩:=z;obtain⟨q,rfl⟩:=oF i;refine f ?_;clear f
 induction a with
 |some u=>exact ja g|none=>induction b with
  |none=>exact ja g|some b=>induction c with
   |some u=>exact ja g|none=>
    refine aa λf=>(Vg (show(qz b).bind aZ=J k from g) λc j l=>?_);obtain⟨d,p,rfl⟩:=mv j;refine f ?_;clear f;exact⟨d,p,q,by exact U (rN l) rfl⟩
noncomputable def nt{W V:Type}(a:Option W)(f:W->Option V):Option V:=match a with|some x=>f x|none=>Y
noncomputable def Jr{W V T:Type}(a:Option W)(b:Option V)(f:W->V->Option T):Option T:=match a with
 |some x=>(match b with|some y=>f x y|none=>Y)
 |none=>Y
noncomputable def aG{W V T S:Type}(a:Option W)(b:Option V)(c:Option T)(f:W->V->T->Option S):Option S:=match a with
 |some x=>(match b with
  |some y=>(match c with|some z=>f x y z|none=>Y)
  |none=>Y)
 |none=>Y
def qbm{W V T S R:Type}(a:Option W)(b:Option V)(c:Option T)(d:Option S)(f:W->V->T->S->Option R):Option R:=match a with|some x=>aG b c d (f x)|none=>Y
section
variable {W V T S R:Type} {a:Option W} {b:Option V} {c:Option T} {d:Option S} {P:Prop}
theorem De{f:W->Option V}{r:V}(h:nt a f=J r)(k:∀x,a=J x->f x=J r->P):P:=by
 induction a with
 |none=>exact ja h|some x=>exact k x rfl h
theorem qd{f:W->V->Option T}{r:T}(h:Jr a b f=J r)(k:∀x y,a=J x->b=J y->f x y=J r->P):P:=by
 induction a with
 |none=>exact ja h|some x=>induction b with|none=>exact ja h|some y=>exact k x y rfl rfl h
theorem Ji{f:W->V->T->Option S}{r:S}(h:aG a b c f=J r)(k:∀x y z,a=J x->b=J y->c=J z->f x y z=J r->P):P:=by
 induction a with
 |none=>exact ja h|some x=>induction b with|none=>exact ja h|some y=>induction c with|none=>exact ja h|some z=>exact k x y z rfl rfl rfl h
theorem Wu{f:W->V->T->S->Option R}{r:R}(h:qbm a b c d f=J r)(k:∀x y z u,a=J x->b=J y->c=J z->d=J u->f x y z u=J r->P):P:=by
 induction a with
 |none=>exact ja h|some x=>exact Ji h λy z u=>k x y z u rfl
theorem ae{c:Bool}{a:Option W}{r:W}(h:(if c then a else Y)=J r)(k:c=Z->a=J r->P):P:=by
 induction c with
 |false=>exact ja h|true=>exact k rfl h
theorem Dj{c:Bool}{a:Option W}{r:W}(h:(if c then Y else a)=J r)(k:c=ua->a=J r->P):P:=by
 induction c with
 |false=>exact k rfl h|true=>exact ja h
end
mutual
noncomputable def Eh(g:Gl)(q:Nat)(d:Sc)(m:Expr):Option X:=match q,d,m with
 |0,u,j=>Y|n+1,h,e=>match e with
  |.Name x u=>if h.kinds.lookup x==J .globalImplicit then(if Am x then nt (g.glob x) λf=>J (.k f)else Y)else nt (Vs h x) (λi=>J (.x i))|.Constant c u j=>match c with|.none=>J .none|.bool b=>J (.bool b)|.int i=>J (.int i)|.str s=>J (.str s)|_=>Y
  |.Attribute o a u=>if Pl o then nt (Eh g n h o) λx=>J (.attr x a)else Y|.Subscript o i u=>if ym i then nt (vY i) (λk=>if xp o then nt (Eh g n h o) λx=>J (.cut x k)else Y)
   else Jr (Eh g n h o) (Eh g n h i) (λa b=>J (.sub a b))
  |.BinOp a i b u=>Jr (Eh g n h a) (Eh g n h b) (λx y=>J (.bin i x y))|.UnaryOp i a u=>(match i with|.USub=>nt (Eh g n h a) (λx=>J (.neg x))|_=>Y)|.Compare l p s u=>(match p with
   |[i]=>(match s with|[r]=>if Uh i r then Y else Jr (Eh g n h l) (Eh g n h r) (λx y=>J (.cmp i x y))|_=>Y)
   |_=>Y)
  |.IfExp t a b u=>aG (xV g n h t) (Eh g n h a) (Eh g n h b) (λx y z=>J (.ite x y z))|.Tuple i u j=>nt (yx g n h i) (λl=>J (.t l))|.List i u=>nt (yx g n h i) (λl=>J (.list l))|.Dict r i u=>(match r,i with|[],[]=>J (.dict [] [])|[k],[v]=>nt k (λk=>if xp k then Jr (Eh g n h k) (Eh g n h v) λx y=>J (.dict [x] [y])else Y)|[k,p],[v,s]=>Jr (B1 k) (B1 p) λa b=>Jr (Eh g n h v) (Eh g n h s) λy z=>if a=b then Y else J (.dict [.str a,.str b] [y,z])|u,j=>Y)
  |.ListComp s k i u=>(match k with
   |[]=>Y|p::rest=>if p.is_async==0 then Jr (Eh g n h p.iter) (fM h i) (λv j=>
    qbm (Xk j p.target) (zQ g n j p.ifs) (yV g n h.sl.length j rest) (Eh g n j s) λt w y x=>if Wt h.sl.length t then J (.comp (Zg i.names).length v t w y x)else Y)else Y)
  |.Call f i r j=>(match r with
   |[]=>(match f with|.Name x p=>Jr (Eh g n h (.Name x p)) (yx g n h i) (λf l=>(match f with|.k f=>J (.call (.k f) l)|_=>Y))|.Attribute o a k=>if Pl o&&(k.endLine==j.line)&&decide (i.length<29)then Jr (Eh g n h o) (yx g n h i) λx l=>J (.meth x a l)else Y|_=>Y)
   |_=>Y)
  |_=>Y
noncomputable def yx(g:Gl)(z:Nat)(j:Sc)(q:List Expr):Option (List X):=match z,j,q with|0,u,y=>Y|u+1,y,[]=>J []|n+1,f,e::h=>Jr (Eh g n f e) (yx g n f h) λx i=>J (x::i)
noncomputable def xV(g:Gl)(q:Nat)(d:Sc)(t:Expr):Option B:=match q,d,t with
 |0,u,j=>Y|n+1,h,e=>match e with
  |.UnaryOp f x u=>(match f with|.Not=>nt (xV g n h x) (λb=>J (.not b))|_=>Y)|.BoolOp f i u=>(match i with|[a,b]=>Jr (xV g n h a) (xV g n h b) (λx y=>(match f with|.And=>J (.and x y)|.Or=>J (.or x y)))|_=>Y)
  |.Compare l i k u=>(match i with
   |[f]=>(match k with|[r]=>if Uh f r then Y else Jr (Eh g n h l) (Eh g n h r) (λx y=>J (.wK (.cmp f x y)))|_=>Y)
   |[j,f]=>(match k with|[m,r]=>if Uh f r then Y else aG (Eh g n h l) (Eh g n h m) (Eh g n h r) (λx y z=>J (.wK (.cmp2 j f x y z)))|_=>Y)
   |_=>Y)
  |.Name x p=>nt (Eh g n h (.Name x p)) (λx=>J (.wK x))|.Attribute o a p=>nt (Eh g n h (.Attribute o a p)) (λx=>J (.wK x))|.Subscript o i p=>nt (Eh g n h (.Subscript o i p)) (λx=>J (.wK x))|.Call f as i p=>nt (Eh g n h (.Call f as i p)) (λx=>J (.wK x))|_=>Y
noncomputable def zQ(g:Gl)(z:Nat)(j:Sc)(q:List Expr):Option (List B):=match z,j,q with|0,u,y=>Y|u+1,y,[]=>J []|n+1,f,e::h=>Jr (xV g n f e) (zQ g n f h) λx i=>J (x::i)
noncomputable def yV(g:Gl)(j:Nat)(q:Nat)(d:Sc)(f:List gd):Option (List G):=match j,q,d,f with|0,u,y,z=>Y|u+1,y,z,[]=>J []|n+1,lo,h,i::k=>if i.is_async==0 then qbm (Eh g n h i.iter) (Xk h i.target) (zQ g n h i.ifs) (yV g n lo h k) λl t m r=>if Wt lo t then J (.mk l t m::r)else Y else Y
end
end
section
variable {o a b e:Expr} {W:Om} {F G:St->Option (V×St)} {E:yr} {D:List Expr} {s:Ea} {I:List Ca} {N:Yl wa} {L:Ca}
variable [z:Av]
variable {w:zb} {S:qb} {A:Yb} {X:zj} {Q:Ca->Prop} {O:List Bb} {lo:Nat} {P:Me} {K:Ue} {C:Bh} {n:Nat}
theorem Vu{a:Bb}(h:Pl o=Z)(N:Yl wa):attributeBase o a X N=N:=by
 induction o using Expr.casesOn with
 |Call f c d W=>
  induction f using Expr.casesOn<;>try (exact zc h ia)
  induction c using ma with
  |nil=>exact zc h ia|cons u y=>rfl
 |_=>first|exact zc h ia|rfl
theorem AL{a:Bb}(B:Jk S K C)(c:Pl o=Z)(d:uc w S A X Q O lo P (yc o X) F):
 uc w S A X Q O lo P (yc (.Attribute o a W) X) (λf=>(F f).bind λp=>(Ni C p.1 a p.2).map λv=>(v,p.2)):=
 Js (t:=λv=>getAttr v a Z) d (λu u u u u r u x=>Ga.map λu e=>oE B r x e) λu u h=>Attribute_any_ h (by exact U (arm_eval_Attribute _ _ _ _) (U (Vu c _) rfl))
theorem mQ{i:Expr}(c:∀a b,qV i ua a b=CD [a,b] (F4 a b))(d:uc w S A X Q O lo P (yc o X) F)(f:uc w S A X Q O lo P (yc i X) G):
 uc w S A X Q O lo P (yc (.Subscript o i W) X) (λg=>(F g).bind λp=>(G p.2).bind λq=>(eD p.1 q.1 q.2).map λv=>(v,q.2)):=
 Rw (t:=λa b=>qen o i a b) d f (λu u u u u u u u r u g h=>Ga.map λu e=>D1 r g h e (c _ _)) λu u h=>Subscript_ h
theorem EL{E:He}(d:Dg n A)(f:uc w S A X Q O lo P (yc a X) F)(g:uc w S A X Q O lo P (yc b X) G):
 uc w S A X Q O lo P (yc (.BinOp a E b W) X) (λc=>(F c).bind λp=>(G p.2).bind λq=>lS E p.1 q.1 q.2):=
 Rw (t:=λa b=>gm E a b) f g (λu u u u u u u u r c h i u u e=>oY d r c.lok h i e) λu u h=>wpAny_BinOp h
theorem iO(c:uc w S A X Q O lo P (yc a X) F):
 uc w S A X Q O lo P (yc (.UnaryOp .USub a W) X) (λd=>(F d).bind λp=>(oh p.1).map λi=>(.int (-i),p.2)):=
 Js (t:=λv=>unaryOp .USub v) c (λu u u u u r u x=>Ga.map λu e=>by
  obtain⟨_,rfl⟩:=x.wZ e;exact qal (PV.same r (.int _ _))) λu u h=>UnaryOp_ h
theorem qs{r:Expr}{t:Yl wa}(h:Uh E r=ua):qcy E r t=t:=by
 unfold qcy;exact U h rfl
theorem cM(c:S.get? sysModules≠Y)(d:Dg n A)(f:Uh E b=ua)(g:uc w S A X Q O lo P (yc a X) F)(i:uc w S A X Q O lo P (yc b X) G):
 uc w S A X Q O lo P (yc (.Compare a [E] [b] W) X) (λh=>(F h).bind λp=>(G p.2).bind λq=>(lq E p.1 q.1 q.2).map λv=>(.bool v,q.2)):=
 Rw (t:=λa b=>dg E a b) g i (λu u u u u u u u r u h j=>Ga.map λu e=>XD c d r h j e) λu u h=>by
  exact U (eval_Compare1 _ _ _ _ _) (U (qs f) (ga (Da h (λa l j=>ga (Kb (Da j (λb m k=>ga (lc (qaX k))) λu u x=>x))) λu u x=>x)))
theorem lH(h:∀x p,e≠ .Starred x p)(rest:List Expr):starEach (e::rest) X=(ua,yc e X)::starEach rest X:=by
 induction e using Expr.casesOn<;>first|rfl|exact zc rfl (h _ _)
theorem R2:Vi w S A X Q O lo P (kj (og W (starEach [] X))) (λc=>J ([],c)):=λu u u r u=>Ga.ret (wpAny_items_nil (PR.id r .nil))
theorem QV{G:St->Option (List V×St)}(h:∀x p,e≠ .Starred x p)(i:uc w S A X Q O lo P (yc e X) F)(j:Vi w S A X Q O lo P (kj (og W (starEach D X))) G):
 Vi w S A X Q O lo P (kj (og W (starEach (e::D) X))) (λd=>(F d).bind λp=>(G p.2).map λq=>(p.1::q.1,q.2)):=λI d s r c v k l=>ab l λp m t=>qe t λq y B=>wpAny_items_cons (Da (i I d s r c _ _ m) (λa s1 R=>by
 obtain⟨f,T,k1,r1,x1⟩:=R;refine Da (j f _ _ r1 (c.kx r k1) _ _ y) (λb s2 p2=>?_) λu u x=>x;obtain⟨g,t2,k2,r2,x2⟩:=p2;obtain⟨rfl,rfl⟩:=Ta B;exact⟨g,T.trans t2,k1.trans k2,r2,.cons (k2.vr x1) x2⟩) λu u x=>x) (lH h D)
theorem DQ{k:Nat}{G:St->Option (List V×St)}(c:Vi w S A X Q O lo P (kj (og W (starEach D X))) G):
 uc w S A X Q O lo P (yc (.Tuple D k W) X) (λd=>(G d).bind λp=>Bp p.1 p.2):=
 Js (t:=λd=>qcE d) c (λu u u u u r u x u u e=>fU r x e) λu u h=>by
  exact U (arm_eval_Tuple _ _ _ _) (ga (lc (ga h)))
theorem BJ{G:St->Option (List V×St)}(c:Vi w S A X Q O lo P (kj (og W (starEach D X))) G):
 uc w S A X Q O lo P (yc (.List D W) X) (λd=>(G d).bind λp=>gj p.1 p.2):=
 Js (t:=λd=>P4 d) c (λu u u u u r u x u u e=>dU r x e) λu u h=>by
  exact U (arm_eval_List _ _ _) (ga (lc (ga h)))
theorem Vn{b:Bool}{c:X3}{d:Bool->Ea->Prop}{f:wa->Ea->Prop}(h:d b s):Qa c A (pA (.bool b)) d f s:=λu u u=>h
theorem VR.bool_of{h:qb}{v:V}{c:wa}(x:VR w I h v c){i:Bool}(e:gp v=J i):c=.bool i:=(gv e▸x:VR w I h (.bool i) c).wF
theorem MI(c:isTrue e X (yc e X)=(do let v<-yc e X;bk e.pos;dj [v] (pA v)))(d:uc w S A X Q O lo P (yc e X) F):
 Yg w S A X Q O lo P (isTrue e X (yc e X)) (λf=>(F f).bind λp=>(gp p.1).map λb=>(b,p.2)):=
 Js (t:=λv=>bk e.pos>>=λu=>dj [v] (pA v)) d (λu u u u u r u x=>Ga.map λu e=>by
  refine U (x.bool_of e) ?_;exact ga (lc (Kb (Vn (PB.wU r))))) λu u h=>by
  exact U c (ga h)
theorem oO{F:St->Option (Bool×St)}(g:Yg w S A X Q O lo P (isTrue e X (yc e X)) F):
 Yg w S A X Q O lo P (isTrue (.UnaryOp .Not e W) X N) (λd=>(F d).map λp=>(!p.1,p.2)):=λI d s r c=>Ga.map λp e=>isTrue_not (Da (g I d s r c p.1 p.2 e) (λa k h=>by
 obtain⟨f,i,k1,j,rfl⟩:=h;exact⟨f,i,k1,j,rfl⟩) λu u x=>x)
theorem PB.be{f:Ea}{d:St}{b c:Bool}(p:PB w S L I s d b c f):c=b:=by obtain⟨_,_,_,_,e⟩:=p;exact e
theorem uL{F G:St->Option (Bool×St)}(l:Yg w S A X Q O lo P (isTrue a X (yc a X)) F)(m:Yg w S A X Q O lo P (isTrue b X (yc b X)) G):
 Yg w S A X Q O lo P (isTrue (.BoolOp .And [a,b] W) X N) (λg=>(F g).bind λp=>ln p.1 (G p.2) (J (ua,p.2))):=λI g s r c v h e=>ab e λp q f=>isTrue_and (Da (l I g s r c p.1 p.2 q) (λa y d=>by
 induction a with
 |false=>
  rw[<-PB.be d]at f d;obtain⟨rfl,rfl⟩:=Ta (ba f);exact d
 |true=>
  rw[<-PB.be d]at f;obtain⟨i,j,k1,t,_⟩:=d;exact isTrue_and (Da (m i p.2 _ t (c.kx r k1) v h f) (λb u k=>by
   induction b with
   |false=>exact PR.after j k1 k|true=>exact isTrue_and_nil (PR.after j k1 k)) λu u x=>x)) λu u x=>x)
theorem qU{F G:St->Option (Bool×St)}(l:Yg w S A X Q O lo P (isTrue a X (yc a X)) F)(m:Yg w S A X Q O lo P (isTrue b X (yc b X)) G):
 Yg w S A X Q O lo P (isTrue (.BoolOp .Or [a,b] W) X N) (λg=>(F g).bind λp=>ln p.1 (J (Z,p.2)) (G p.2)):=λI g s r c v h e=>ab e λp q f=>isTrue_or (Da (l I g s r c p.1 p.2 q) (λa y d=>by
 induction a with
 |true=>
  rw[<-PB.be d]at f d;obtain⟨rfl,rfl⟩:=Ta (ba f);exact d
 |false=>
  rw[<-PB.be d]at f;obtain⟨i,j,k1,t,_⟩:=d;exact isTrue_or (Da (m i p.2 _ t (c.kx r k1) v h f) (λb u k=>by
   induction b with
   |true=>exact PR.after j k1 k|false=>exact isTrue_or_nil (PR.after j k1 k)) λu u x=>x)) λu u x=>x)
theorem xN{t:Expr}{T:St->Option (Bool×St)}(i:Yg w S A X Q O lo P (isTrue t X (yc t X)) T)(j:uc w S A X Q O lo P (yc a X) F)(k:uc w S A X Q O lo P (yc b X) G):
 uc w S A X Q O lo P (yc (.IfExp t a b W) X) (λf=>(T f).bind λp=>ln p.1 (F p.2) (G p.2)):=
 Js (t:=λc=>if c then yc a X else yc b X) i (λc g I f s r d x=>Ga.ifB (λh=>by refine U (show c=Z from(x:c=g).trans h) ?_;exact j I f s r d) λh=>by refine U (show c=ua from(x:c=g).trans h) ?_;exact k I f s r d) λu u h=>by
  exact U (arm_eval_IfExp _ _ _ _ _) (ga h)
theorem ZA{a b:wa}{z g:V}{d:St}(h:S.get? sysModules≠Y)(i:Dg n A)(r:R w S I d s.heap)(j:VR w I s.heap z a)(k:VR w I s.heap g b):
 Ga RB w S A L I s (do bk W;let c<-CD [a,b] (dg E a b);dj [c] (pA c)) ((lq E z g d).map λr=>(r,d)):=Ga.map λt e=>ga (lc (ga (qaX (Da (XD h i r j k e) (λl v m=>by
 obtain⟨f,p,k5,q,u⟩:=m;rw[(u.wF:l=.bool t)];exact Kb (Vn ⟨f,p,k5,q,rfl⟩)) λu u x=>x))))
theorem dM(d:S.get? sysModules≠Y)(f:Dg n A)(g:Uh E b=ua)(i:uc w S A X Q O lo P (yc a X) F)(j:uc w S A X Q O lo P (yc b X) G):
 Yg w S A X Q O lo P (isTrue (.Compare a [E] [b] W) X N) (λh=>(F h).bind λp=>(G p.2).bind λq=>(lq E p.1 q.1 q.2).map λr=>(r,q.2)):=
 Rw (t:=λa b=>do bk W;let c<-CD [a,b] (dg E a b);dj [c] (pA c)) i j (λu u u u u u u u r u h k=>ZA d f r h k) λu u h=>by
  exact U (isTrue_Compare1 _ _ _ _ _ _) (U (qs g) (ga (Da h (λa l k=>ga (Kb k)) λu u x=>x)))
theorem cJ{c:Expr}{j i:yr}{d:St->Option (V×St)}(R:S.get? sysModules≠Y)(AK:Dg n A)(hk:Uh i c=ua)
 (hf:uc w S A X Q O lo P (yc a X) F)(hg:uc w S A X Q O lo P (yc b X) G)(hh:uc w S A X Q O lo P (yc c X) d):
 Yg w S A X Q O lo P (isTrue (.Compare a [j,i] [b,c] W) X N) (λB=>(F B).bind λp=>(G p.2).bind λq=>(lq j p.1 q.1 q.2).bind λr=>ln r ((d q.2).bind λu=>(lq i q.1 u.1 u.2).map λr=>(r,u.2)) (J (ua,q.2))):=
 Rw (t:=λa b=>do bk W;let x<-dj [a,b] (dg j a b);qff [a,b] [x];if<-dj [x,b] (pA x)then testChain W b [i] [yc c X]else pure ua) hf hg (λa b z bv I B s τ r f xa q=>Ga.opt λt1 e1 v p e=>ga (lc (ga (Kb (Da (XD (L:=X.locals) R AK r xa q e1) (λc' s3 p3=>by
  refine aa λnq=>?_;obtain⟨l,t3,m,r3,x3⟩:=p3;refine nq ?_;clear nq;rw[(x3.wF:c'=.bool t1)];refine ga (xK (ga (Kb (Vn ?_))))
  induction t1 with
  |false=>obtain⟨rfl,rfl⟩:=Ta (ba e);exact ta ⟨l,t3,m,r3,rfl⟩|true=>
   exact Da (((hh l B s3 r3 (f.kx r m)).bind (T:=testChain W b [i] [yc c X]) (k:=λu=>(lq i bv u.1 u.2).map λr=>(r,u.2)) (t:=λc=>do bk W;let x<-CD [b,c] (dg i b c);dj [x] (pA x)) (λc cv g s4 h u y x4=>ZA R AK y (u.vr (m.vr q)) x4) λg h=>ga (Kb h)) v p e) (λy y=>PR.after t3 m) λy y x=>x) λy y x=>x))))) λy y h=>by
  exact U (arm_isTrue_Compare _ _ _ _ _ _) (U (show markedEach [j,i] [b,c] (evalEach [b,c] X)=[yc b X,yc c X]from Gc (λx=>[yc b X,x]) (qs hk)) (ga (Da h (λa l g=>ga (Kb g)) λy y x=>x)))
end
section
variable {a:Ca} {r:X3} {f:wa} {m:Lm}
variable [B:Av]
section
variable {w:zb} {S h C:qb} {T:List Ca} {Q:St} {L:Ca}
theorem R.add(c:R w S T Q h){o:O}(ha:a∉T)(X:S.get? a=Y)(ho:OR w (T++[a]) h o a):R w S (T++[a]) (Q++[o]) h:=by
 refine⟨by simp[c.len],?_,?_,c.avl,c.wK,λj p b l P=>?_⟩
 ·exact U (propext di) (⟨c.nodup,by simp,λx k d e=>by rw[Ra]at e;subst e;exactλq=>ha (q▸k)⟩)
 ·intro b d
  refine aa λk=>?_;rcases Xb.mp d with q|q
  ·refine k ?_
   clear k;exact c.fresh b q
  ·refine k ?_
   clear k;rw[Ra]at q;subst q;exact X
 ·by_cases q:j<Q.length
  ·rw[Xa q]at l
   rw[Xa (by refine U c.len ?_;exact q)]at P;exact(c.obj j p b l P).mono (Hc _ _) (λb x e u=>e) λx e=>e
  ·rw[La (ng q)]at l
   rw[La (by refine U c.len ?_;exact ng q),c.len]at P;refine aa λk=>?_
   induction b:j - Q.length using Sa with
   |zero=>refine k ?_;clear k;rw[b]at l P;simp at l P;subst l P;exact ho|succ d=>refine k ?_;clear k;rw[b]at l;simp at l
theorem KX.add{c:List Ca}(k:KX L T h C c)(d:h.get? a=Y):KX L T h C (c++[a]):=
 ⟨⟨k.pre.trans (Hc _ _),λb S=>by
  rcases Xb.mp S with q|q
  ·exact k.fresh b q
  ·rw[Ra]at q;subst q;exact .inr d,k.keep,k.imm,k.live⟩,k.ns⟩
theorem Rd(b:R w S T Q h)(c:h.get? a=Y):S.get? a=Y:=by
 induction e:S.get? a with
 |none=>rfl|some x=>have:=b.wK a x e;rw[c]at this;exact ja this
theorem Hf(b:R w S T Q h)(d:h.get? a=Y):a∉T:=λq=>by obtain⟨x,c,_⟩:=b.live q;rw[d]at c;exact ja c
end
def Gi(w:zb)(S:qb)(D:Nat->List V->St->Option (V×St))(n:Nat):Prop:=
 ∀(A:Yb),Dg n A->∀f N W T Q s v G L,R w S T Q s.heap->L∉T->ue w T s.heap N W->D f N Q=J (v,G)->
  ch (bb pg w) A (.call (.ref f) ⟨W,[]⟩) (λq c=>∃b,q=.ok (.ret b)/\PV w S L T s G v b c) s
noncomputable def DB(K:Ue)(f:wa):Bool:=match f with|.ref u=>keepIn K f|.builtin u=>Z|.type u=>Z|_=>ua
structure Zp(S:qb)(K:Ue)(E:Bh):Prop where
 meth:∀c nm f,E.meth c nm=J f->Tk K (.ref c) "__getattribute__"=J (J (.builtin "object.__getattribute__"))/\Tk K (.ref c) "__getattr__"=J Y/\Tk K (.ref c) nm=J (J (.ref f))/\IQ K (.ref f)=J (.type "function")/\keepIn K (.ref f)=Z
 init:∀c f,E.init c=J f->makesIn K c=Z/\Tk K (.ref c) "__init__"=J (J (.ref f))/\IQ K (.ref f)=J (.type "function")
structure Zy(S:qb)(K:Ue)(g:Gl):Prop where
 glob:∀x v,g.glob x=J v->DB K v=Z/\∃m,S.Ns mainGlobals m/\(m x=J v\/(m x=Y/\∃mb,S.Ns ip mb/\mb x=J v))
variable {w:zb} {S:qb} {A:Yb} {F:zj} {z:Ca->Prop} {t:List Bb} {lo:Nat} {y:Me} {K:Ue} {E:Bh} {n:Nat} {g:Gl} {T:List Ca} {Q G:St} {s:Ea} {v:V} {L:Ca} {D:Nat->List V->St->Option (V×St)}
theorem Gm:{b:List Expr}->(∀e∈b,∀x p,e≠jd x p)->starEach b F=b.map λe=>(ua,yc e F):=by
 intro b
 induction b with
 |nil=>
  rintro _;exact rfl
 |cons e b c=>
  rintro h;refine U (lH (h e sa) _) (U (c λe d=>h e (oa _ d)) ?_);rfl
theorem wt(h:DB K f=Z)(d:qb)(X:K.In d):∃k,(k=Keeper.frame\/k=Keeper.machine\/k=Keeper.boundFrame)/\Looks r d (keeperOf f) k:=by
 induction f with
 |ref a=>exact keeps_K (f:=.ref a) h d X|builtin i=>exact⟨.machine,.inr (.inl rfl),λA b c s u q=>ta q⟩|type i=>exact⟨.machine,.inr (.inl rfl),λA b c s u q=>ta q⟩|_=>exact zc h ia
theorem kq{b:wa->Ea->Prop}{c:wa->Ea->Prop}{d:Om}{first:List wa}{j:List Expr}(l:DB K f=Z)(q:∀e∈j,∀x p,e≠jd x p)
 (h:Qa r A (kj (og d (starEach j F))) (λN k=>K.In k.heap/\Qa r A (call f (first++N)) c b k) b s):Qa r A (callWith d f first (og d (starEach j F)) []) c b s:=by
 have S:∀j:List Expr,og d (j.map λe=>(ua,yc e F))=j.map λe=>(ua,yc e F):=λj=>by
  unfold og;refine U Qd ?_;rfl
 rw[Gm q,S]at h|-
 induction j using ma with
 |nil=>
  refine uS (P:=K.In) rfl (wt l) ?_;unfold evalArgs;refine ga (Da h (λN k p=>ga (ta ?_)) λu u x=>x);exact Kb (ga (ta (ga (ta (ta p)))))
 |cons e j=>
  refine uS (P:=K.In) ?_ (wt l) ?_
  ·simp
  ·exact qbB h
structure Ij(w:zb)(S:qb):Prop where
 len:∀{n A L T Q s I o},Dg n A->R w S T Q s.heap->VR w T s.heap (.iset I) o->Qa (bb pg w) A (call (.builtin "len") [o]) (PV w S L T s Q (.int (Hg I).length)) No s
 sorted:∀{n A L T Q s I o v G},Dg n A->R w S T Q s.heap->Um S L T s.heap->VR w T s.heap (.iset I) o->gj ((Hg I).map V.int) Q=J (v,G)->Qa (bb pg w) A (call (.builtin "sorted") [o]) (PV w S L T s G v) No s
 ofTup:∀{n A L T Q s I is o},Dg n A->R w S T Q s.heap->VR w T s.heap (.t I) o->ki I=J is->is.all (λi=>decide (0<=i)&&decide (i<=2))=Z->Qa (bb pg w) A (call (.type "set") [o]) (PV w S L T s Q (.iset is)) No s
 ofList:∀{n A L T Q s i I is o},Dg n A->R w S T Q s.heap->VR w T s.heap (.ref i) o->tc Q i=J I->ki I=J is->is.all (λi=>decide (0<=i)&&decide (i<=2))=Z->Qa (bb pg w) A (call (.type "set") [o]) (PV w S L T s Q (.iset is)) No s
noncomputable def F6(b:Bi):wa:=match b with|.len=>.builtin "len"|.max=>.builtin "max"|.min=>.builtin "min"|.sum=>.builtin "sum"|.sorted=>.builtin "sorted"|.range=>.type "range"|.tuple=>.type "tuple"|.list=>.type "list"|.set=>.type "set"
theorem yN{d:Type}{c:Prop} [Decidable c]{a b:d}{x:Option d}(h:(if c then J a else x)=J b):(c/\a=b)\/x=J b:=by
 by_cases k:c
 ·rw[Dd k]at h;exact .inl ⟨k,ba h⟩
 ·rw[fe k]at h;exact .inr h
theorem DL{b:Bi}(h:QD f=J b):f=F6 b:=by
 induction f with
 |builtin n=>
  repeat (rcases yN h with⟨rfl,rfl⟩|h;exact rfl)
  exact ja h
 |type n=>
  repeat (rcases yN h with⟨rfl,rfl⟩|h;exact rfl)
  exact ja h
 |_=>exact ja h
theorem ue.one_of{h:qb}{N:List V}{W:List wa}(x:ue w T h N W){u:V}(e:Mine.Internal.one N=J u):∃o,W=[o]/\VR w T h u o:=by
 rw[pH e]at x;obtain⟨o,c,rfl,a,b⟩:=x.wF;exact⟨o,Gc _ b.wF,a⟩
theorem ue.two_of{h:qb}{N:List V}{W:List wa}(x:ue w T h N W){u:V×V}(e:two N=J u):∃o p,W=[o,p]/\VR w T h u.1 o/\VR w T h u.2 p:=by
 rw[nI e]at x;refine aa λj=>?_;obtain⟨o,k,rfl,a,c⟩:=x.wF;obtain⟨p,k,rfl,b,c⟩:=c.wF;exact j (⟨o,p,Gc (λd=>[o,p]++d) c.wF,a,b⟩)
section
variable {u:V} {o:wa} {N:List V} {W:List wa}
abbrev FD(w:zb)(S:qb)(A:Yb)(L:Ca)(T:List Ca)(s:Ea)(f:wa)(W:List wa)(b:Option (V×St)):Prop:=Ga (VR w) w S A L T s (call f W) b
theorem pS(j:Ij w S)(l:Dg n A)(b:R w S T Q s.heap)(x:ue w T s.heap N W):FD w S A L T s (.builtin "len") W (tR .len N Q):=
 Ga.map λv e=>qe e λk p O=>ab p λu P c=>by
  obtain⟨o,rfl,a⟩:=x.one_of P;refine Ed O (aa λd=>?_)
  induction u using V.casesOn with
  |t I=>refine d ?_;refine Ed (ba c) ?_;exact AE b a|iset I=>refine d ?_;refine Ed (ba c) ?_;exact j.len l b a|ref i=>refine d ?_;exact qe c λI q X=>X▸EB b q a|_=>refine d ?_;exact ja c
theorem HL{g:Int->Int->Int}(k:∀a b c u,Qa (bb pg w) A (call f [.int a c,.int b u]) (PV w S L T s Q (.int (g a b))) No s)(x:ue w T s.heap N W):FD w S A L T s f W (mD Q ((two N).bind (qaD g))):=
 Ga.map λv e=>ab e λp l O=>qe O λc P R=>ab P λi X e6=>qe e6 λj e7 e8=>by
  refine aa λd=>?_;obtain⟨o,q,rfl,a,b⟩:=x.two_of l;refine d ?_;clear d;obtain⟨_,rfl⟩:=a.wZ X;obtain⟨_,rfl⟩:=b.wZ e7;exact Ed R (Ed e8 (k _ _ _ _))
theorem tS(c:Dg n A)(b:R w S T Q s.heap)(x:ue w T s.heap N W):FD w S A L T s (.builtin "sum") W (tR .sum N Q):=
 Ga.map λv e=>qe e λis d j=>ab d λI k l=>ab k λi p q=>ab p λu O P=>by
  obtain⟨o,rfl,a⟩:=x.one_of O;rw[Sh P]at a;exact Ed j (G1 c b q l a)
theorem TD(X:Ij w S)(hm:S.get? sysModules≠Y)(P:Dg n A)(b:R w S T Q s.heap)(l:Um S L T s.heap)(x:ue w T s.heap N W):FD w S A L T s (.builtin "sorted") W (tR .sorted N Q):=
 Ga.opt λI e1=>ab e1 λu e3 j=>by
  obtain⟨o,rfl,a⟩:=x.one_of e3;intro v G e;refine aa λd=>?_
  induction u using V.casesOn with
  |iset ys=>refine d ?_;rw[<-ba j]at e;exact X.sorted P b l a e|ref i=>
   refine d (ab j λob q k=>(aa λd=>?_))
   induction ob with
   |list ys=>refine d ?_;exact ab k λis e6 e7=>qe e7 λc p O=>Ew b l (by unfold tc;refine U q ?_;rfl) e6 a (gb (yf p)) (by refine U O ?_;exact e)|idict es=>refine d ?_;exact qe k λc p O=>Dw P hm b l q a (by have:=gb (yf p);rwa [ya]at this) (by refine U O ?_;exact e)|_=>refine d ?_;exact ja k
  |_=>refine d ?_;exact ja j
theorem WI(d:R w S T Q s.heap)(x:ue w T s.heap N W):FD w S A L T s (.type "range") W (tR .range N Q):=
 Ga.map λv e=>by
  induction N using ma with
  |nil=>exact ja e|cons u N=>
   induction N using ma with
   |nil=>
    refine ab e λb l q=>qe q λj j O=>?_;obtain⟨o,rfl,a⟩:=x.one_of rfl;obtain⟨_,rfl⟩:=a.wZ l;exact O▸VJ d
   |cons u' N=>
    induction N using ma with
    |cons j k=>exact ja e|nil=>
     refine ab e λb l q=>ab q λc O k=>qe k λj j P=>?_;obtain⟨o,p,rfl,a,X⟩:=x.two_of rfl;obtain⟨_,rfl⟩:=a.wZ l;obtain⟨_,rfl⟩:=X.wZ O;exact P▸WJ d
theorem Ps{a b:Int}{I:List V}(e:xC a b=J I):(-1000<a/\a<1000/\ -1000<b/\b<1000)/\I=Jo a b:=qe e λu c d=>⟨Q4 c,d.symm⟩
theorem XI(l:Dg n A)(b:R w S T Q s.heap)(x:ue w T s.heap N W):FD w S A L T s (.type "tuple") W (tR .tuple N Q):=
 Ga.opt λI p=>ab p λu q d=>by
  obtain⟨o,rfl,a⟩:=x.one_of q;intro v G e;refine aa λc=>?_
  induction u using V.casesOn with
  |t j=>refine c ?_;exact qA b (ba d▸a) e|ref i=>refine c ?_;exact Ax b d a e|rng i j=>
   refine c (aa λc=>?_);obtain⟨k,rfl⟩:=Ps d;exact c (Pw l b a k.1 k.2.1 k.2.2.1 k.2.2.2 e)
  |_=>refine c ?_;exact ja d
theorem GL(b:R w S T Q s.heap)(x:ue w T s.heap N W):FD w S A L T s (.type "list") W (tR .list N Q):=
 Ga.opt λI c=>ab c λu d j=>by
  obtain⟨o,rfl,a⟩:=x.one_of d;intro v G e;exact HB b (Vl j▸a) e
theorem sS(k:Ij w S)(l:Dg n A)(b:R w S T Q s.heap)(x:ue w T s.heap N W):FD w S A L T s (.type "set") W (tR .set N Q):=
 Ga.map λv e=>ab e λis O P=>ab O λI X p=>ab X λu e5 d=>qe P λc q e8=>by
  obtain⟨o,rfl,a⟩:=x.one_of e5;refine Ed e8 (aa λj=>?_)
  induction u using V.casesOn with
  |t ys=>refine j ?_;exact k.ofTup l b a (ba d▸p) (yf q)|ref i=>refine j ?_;exact k.ofList l b a d p (yf q)|_=>refine j ?_;exact ja d
theorem G6(j:Ij w S)(k:S.get? sysModules≠Y)(d:Dg n A)(c:R w S T Q s.heap)(l:Um S L T s.heap)(x:ue w T s.heap N W):FD w S A L T s f W (qdx f N Q):=
 Ga.opt λb e=>by
  refine U (DL e) ?_
  induction b with
  |len=>exact pS j d c x|max=>exact HL (λu u u u=>BZ d c) x|min=>exact HL (λu u u u=>GZ d c) x|sum=>exact tS d c x|sorted=>exact TD j k d c l x|range=>exact WI c x|tuple=>exact XI d c x|list=>exact GL c x|set=>exact sS j d c x
end
noncomputable def UN(b:Lm):Bb:=match b with|.append=>"append"|.extend=>"extend"|.insert=>"insert"|.index=>"index"|.count=>"count"
theorem SN{b:Bb}(h:au b=J m):b=UN m:=by
 simp only[au]at h
 repeat' split at h
 all_goals first|exact ja h|exact(by assumption:b=_).trans (Gc UN (ba h))
section
variable {o:wa} {i:Nat} {N:List V} {W:List wa} {I:List V}
theorem FT(b:R w S T Q s.heap)(l:Um S L T s.heap)(q:tc Q i=J I)(d:VR w T s.heap (.ref i) o)(x:ue w T s.heap N W):FD w S A L T s (.builtin "list.append") (o::W) (OT .append i N Q I):=
 Ga.map λX e=>ab e λu j k=>qe k λc O P=>by
  obtain⟨p,rfl,a⟩:=x.one_of j;exact Ed P (HI b l q d a (Qi (yf O)))
theorem KT(X:Dg n A)(b:R w S T Q s.heap)(l:Um S L T s.heap)(q:tc Q i=J I)(O:VR w T s.heap (.ref i) o)(x:ue w T s.heap N W):FD w S A L T s (.builtin "list.extend") (o::W) (OT .extend i N Q I):=
 Ga.map λys e=>ab e λzs e1 e2=>ab e1 λu e5 k=>qe e2 λc P e4=>by
  obtain⟨p,rfl,a⟩:=x.one_of e5;refine Ed e4 (aa λd=>?_)
  induction u using V.casesOn with
  |ref j=>refine d ?_;clear d;exact yv b l q k O a (Qi (yf P))|rng lo hi=>
   refine d ?_;clear d;obtain⟨j,rfl⟩:=Ps k;exact Zt X b l q O a j.1 j.2.1 j.2.2.1 j.2.2.2 (Qi (yf P))
  |_=>refine d ?_;clear d;exact ja k
theorem NT(b:R w S T Q s.heap)(l:Um S L T s.heap)(q:tc Q i=J I)(j:VR w T s.heap (.ref i) o)(x:ue w T s.heap N W):FD w S A L T s (.builtin "list.insert") (o::W) (OT .insert i N Q I):=
 Ga.map λys e=>ab e λu O P=>ab P λk X e4=>qe e4 λc e5 e6=>by
  refine aa λnq=>?_;obtain⟨p,p',rfl,a,a'⟩:=x.two_of O;obtain⟨_,rfl⟩:=a.wZ X;refine nq ?_;have d:=Aa.mp (yf e5);have z1:=Nl d.1;exact Ed e6 (sJ b l q j a' z1.1 z1.2 (Qi d.2))
theorem MT(b:R w S T Q s.heap)(q:tc Q i=J I)(O:VR w T s.heap (.ref i) o)(x:ue w T s.heap N W):FD w S A L T s (.builtin "list.index") (o::W) (OT .index i N Q I):=
 Ga.map λv e=>ab e λk P X=>ab P λu e3 e4=>ab X λis e5 e6=>qe e6 λj e7 e8=>qe e7 λc e9 l=>by
  obtain⟨p,rfl,a⟩:=x.one_of e3;obtain⟨_,rfl⟩:=a.wZ e4;have d:=Aa.mp (yf e9);have z1:=Aa.mp d.1;exact Ed e8 (Ed l (mN b q e5 O z1.1 z1.2 (gb d.2)))
theorem HT(b:R w S T Q s.heap)(q:tc Q i=J I)(c:VR w T s.heap (.ref i) o)(x:ue w T s.heap N W):FD w S A L T s (.builtin "list.count") (o::W) (OT .count i N Q I):=
 Ga.map λv e=>ab e λk d j=>ab d λu l O=>qe j λis P X=>by
  obtain⟨p,rfl,a⟩:=x.one_of l;obtain⟨_,rfl⟩:=a.wZ O;exact Ed X (hM b q P c)
end
noncomputable def QT(b:Lm):String:=match b with|.append=>"list.append"|.extend=>"list.extend"|.insert=>"list.insert"|.index=>"list.index"|.count=>"list.count"
theorem eV(m:_):Slot "list" (UN m) (QT m):=match m with|.append=>PySem.F.slot_list_append|.extend=>Pk|.insert=>PySem.F.slot_list_insert|.index=>PySem.F.slot_list_index|.count=>PySem.F.slot_list_count
theorem BV(m:_):typeOf (Ti (QT m))=pure (uf "method_descriptor"):=match m with|.append=>PySem.F.type_list_append|.extend=>PySem.F.type_list_extend|.insert=>PySem.F.type_list_insert|.index=>PySem.F.type_list_index|.count=>PySem.F.type_list_count
theorem tZ{i:Nat}{o:wa}{N:List V}{W:List wa}(d:Dg n A)(b:R w S T Q s.heap)(l:Um S L T s.heap)(c:VR w T s.heap (.ref i) o)(x:ue w T s.heap N W):FD w S A L T s (.builtin (QT m)) (o::W) ((tc Q i).bind (OT m i N Q)):=
 Ga.opt λI q=>by
  induction m with
  |append=>exact FT b l q c x|extend=>exact KT d b l q c x|insert=>exact NT b l q c x|index=>exact MT b q c x|count=>exact HT b q c x
end
section
variable {f:wa} {W:List wa} {C:List V} {x D:Bb} {N:Om} {I:List Expr}
variable [q:Av]
theorem Dg.less{n m:Nat}{A:Yb}(a:Dg n A)(h:m<=n):Dg m A:=⟨a.hh,by have:=a.depth;lia,by have:=a.units;lia⟩
theorem qK(a:Ca)(rest:List wa):(N3 "type.__call__" ⟨.ref a::rest,[]⟩).weight=1:=by kernel_rfl
theorem vQ(a:Ca)(rest:List wa):(N3 "type.__call__" ⟨.ref a::rest,[]⟩).cUnits=1:=by kernel_rfl
theorem Dg.under{n:Nat}{A:Yb}(a:Dg (n+1) A)(b:Ca)(rest:List wa):Dg n (A.under (.builtin "type.__call__" ⟨.ref b::rest,[]⟩)):=
 ⟨a.hh,by show A.depth+_+_+_<=_;refine U (qK _ _) ?_;have:=a.depth;lia,by show A.units+_+_+_<=_;refine U (vQ _ _) ?_;have:=a.units;lia⟩
variable {w:zb} {P:qb} {A:Yb} {X:zj} {y:Ca->Prop} {r:List Bb} {lo:Nat} {u:Me} {K:Ue} {S:Bh} {n:Nat} {g:Gl} {F:List Ca} {Q E:St} {s:Ea} {v:V} {L:Ca} {z:Nat->List V->St->Option (V×St)}
theorem km{a:wa->Ea->Prop}(h:ch (bb pg w) A (.call f ⟨W,[]⟩) (λb e=>∃d,b=.ok (.ret d)/\a d e) s):Qa (bb pg w) A (call f W) a No s:=
 Np (Oc h λb e c=>by obtain⟨d,rfl,c⟩:=c;exact c)
theorem NE{F:List Ca}{a b c:Ca}(h:c∉F)(e:c≠a)(i:c≠b):c∉F++[a]++[b]:=λd=>by
 rcases Xb.mp d with d|d
 ·exact(Xb.mp d).elim h λd=>e (Ra.mp d)
 ·exact i (Ra.mp d)
theorem XN{Q:St}{p c:V×St}(h:GE Q p=J c):p.1=.none/\(.ref (Q.length+1),p.2)=c:=by
 obtain⟨a,b⟩:=p
 induction a using V.casesOn<;>first|exact ja h|exact⟨rfl,ba h⟩
theorem VT{a G:Nat}(B:Jk P K S)(CO:Zp P K S)(CF:Gi w P z n)(AK:Dg (n+1) A)(c:R w P F Q s.heap)(l:Um P L F s.heap)(x:ue w F s.heap C W)(hg:S.init a=J G):
 Ga (VR w) w P A L F s (call (.ref a) W) ((z G (.ref (Q.length+1)::C) (Q++[.h [],.inst a Q.length])).bind (GE Q)):=λv E e=>ab e λp hc hm=>by
 refine aa λnq=>?_;obtain⟨c1,c2,c3⟩:=CO.init _ _ hg;obtain⟨m,hn⟩:=l.ns;refine nq ?_;clear nq;refine km (make_K (cj hn) ug (c.kin B) c1 c2 c3 λj k T F' N' x1 t=>?_);have Nd:=N' _ (oa _ sa);have Nx:=N' _ sa;have dL:k≠L:=Nd.2.1;have xL:j≠L:=Nx.2.1;have free:∀b,b≠L->k<=b->s.heap.get? b=Y:=λb bL x2=>by
  induction d:s.heap.get? b with
  |none=>rfl|some o=>exact zc (rb (x1 _ (we.mpr ⟨bL,d⟩)) x2) (dc _)
 have xn:s.heap.get? j=Y:=free j xL (vd t);obtain⟨r1,k1⟩:=c.newL l (o:=.h []) hn F'.ns (λb h nb e=>(N' (b,h) (oa _ (oa _ (we.mpr ⟨nb,e⟩)))).1:∀b h,b≠L->s.heap.get? b=J h->T.get? b=J h) (free k dL (Gb _)) ⟨[],0,Nd.1,.nil,lW,td _⟩;have k2:=k1.add xn;have i:VR w (F++[k]++[j]) T (.ref (Q.length+1)) (.ref j):=.ref (by refine Ed c.len ?_;exact(La (by refine U Ha ?_;exact Gb _)).trans (by refine U Ha (U Ii (U (gh _) ?_));rfl));rw[show Q++[O.h [],O.inst a Q.length]=Q++[O.h []]++[O.inst a Q.length]from by refine U (Dc _ _ _) ?_;rfl]at hc;refine Oc (CF _ (AK.under a W) G _ (.ref j::W) _ _ {s with heap:=T} _ _ L (r1.add (o:=.inst a Q.length) (λd=>(Xb.mp d).elim (Hf c xn) λd=>dc _ (Ra.mp d▸t):j∉F++[k]) (Rd c xn) ⟨k,(by refine U (Dc _ _ _) (Ed c.len ?_);exact(La (Gb _)).trans (by refine U (gh _) ?_;rfl)),Nx.1⟩) (NE l.out dL.symm xL.symm) (.cons i (k2.vrs x)) hc) λd s' h=>?_;obtain⟨x5,rfl,x4,t3,k3,r3,x3⟩:=h;obtain⟨e0,e4⟩:=XN hm;obtain⟨rfl,rfl⟩:=Ta e4;rw[e0]at x3;exact⟨x3.wF,_,rfl,x4,t3,k2.trans k3,r3,k3.vr i⟩
theorem OL(B:Jk P K S)(d:Zp P K S)(h:Ij w P)(CF:Gi w P z n)(c:Dg (n+1) A)(b:R w P F Q s.heap)(l:Um P L F s.heap)(x:ue w F s.heap C W):
 Ga (VR w) w P A L F s (call f W) (fG S z (.k f) C Q):=by
 induction f with
 |ref a=>
  show Ga _ _ _ _ _ _ _ _ (match S.init a with|some g=>(z g (.ref (Q.length+1)::C) (Q++[.h [],.inst a Q.length])).bind (GE Q)|none=>z a C Q)
  induction i:S.init a with
  |some e=>exact VT B d CF c b l x i|none=>exactλv E e=>km (CF A (c.less (se n)) _ _ _ _ _ s _ _ L b l.out x e)
 |_=>exact G6 h B.mods c b l x
theorem As(k:Zy P K g)(l:g.glob x=J f)(p:X.kindOf x=J .globalImplicit)(t:(x==("__debug__":Bb))=ua):
 uc w P A X y r lo u (yc (.Name x N) X) (λQ=>J (.k f,Q)):=λF Q s a c=>Ga.ret (wpAny_Name (by
 refine U (loadName_read c.kind p) (aa λd=>?_);obtain⟨_,m,B,h⟩:=k.glob x f l;refine d ?_;have j:s.heap.Ns X.globals m:=by refine U c.globals ?_;exact B.keeps λb o e=>a.wK b o e
 refine aa λd=>?_;rcases h with h|⟨h,O,i,G⟩
 ·exact d (K4 j h (PV.wU a (.k f)))
 ·refine d ?_
  exact xZ j h (by refine U c.builtins ?_;exact i.keeps λb o e=>a.wK b o e) G (PV.wU a (.k f))) t)
theorem iz{s:Ea}{F:List Ca}{Q:St}{first:List wa}{G:St->Option (List V×St)}{k:List V×St->Option (V×St)}(B:Jk P K S)(j:DB K f=Z)(m:∀e∈I,∀x p,e≠jd x p)(o:Vi w P A X y r lo u (kj (og N (starEach I X))) G)(a:R w P F Q s.heap)(b:Lc w P X y r lo u F s.heap)
 (h:∀W C d i c,KX X.locals F s.heap i.heap d->R w P d c i.heap->Um P X.locals d i.heap->ue w d i.heap C W->Ga (VR w) w P A X.locals d i (call f (first++W)) (k (C,c))):
 Ga (VR w) w P A X.locals F s (callWith N f first (og N (starEach I X)) []) ((G Q).bind k):=λv E e=>ab e λp t O=>kq j m (Da (o F Q s a b _ _ t) (λW i T=>by
 obtain⟨d,t2,k2,l,x2⟩:=T;exact⟨l.kin B,Da (h W _ d i _ k2 l (b.kx a k2).lok x2 v E O) (λc c=>PR.after t2 k2) λc c x=>x⟩) λc c x=>x)
theorem ZI{p:Om}{G:St->Option (List V×St)}(B:Jk P K S)(i:Zp P K S)(d:Zy P K g)(j:Ij w P)(CF:Gi w P z n)(k:Dg (n+1) A)
 (h:g.glob x=J f)(l:X.kindOf x=J .globalImplicit)(m:(x==("__debug__":Bb))=ua)(o:∀e∈I,∀x p,e≠jd x p)(t:Vi w P A X y r lo u (kj (og N (starEach I X))) G):
 uc w P A X y r lo u (yc (.Call (.Name x p) I [] N) X) (λQ=>(G Q).bind λp=>fG S z (.k f) p.1 p.2):=λF Q s a b v E e=>Call_Name rfl (Da (As (w:=w) d h l m F Q s a b (.k f) Q rfl) (λO R T=>by
 obtain⟨x3,t1,k1,r1,x1⟩:=T;rw[(x1.wF:O=f)];exact Da (iz (s:=R) B (d.glob x f h).1 o t r1 (b.kx a k1) (λW C c s2 x4 k2 r2 l2 x2=>OL B i j CF k r2 l2 x2) v E e) (λc c=>PR.after t1 k1) λc c x=>x) λc c x=>x)
theorem aw(a:I.length<29)(b:∀e∈I,∀x p,e≠jd x p):methodCallForm (I.length+([]:List eL).length) (og N (starEach I X)) (backToKw N (qfB [] X))=Z:=by
 have P:og N (starEach I X)=I.map λe=>(ua,yc e X):=by
  refine U (Gm b) ?_;unfold og;refine U Qd ?_;rfl
 refine U P ?_;have c:(I.map λe=>(ua,yc e X)).all (λp=> !p.1)=Z:=md.mpr λp d=>by
  obtain⟨e,_,rfl⟩:=Rb.mp d
  rfl
 exact Aa.mpr ⟨Aa.mpr ⟨c,rfl⟩,decide_eq_true (Tf a)⟩
inductive MR(w:zb)(S:Bh)(D:Bb)(ov:V)(Q:St):dW->Prop
 |fn (i c d:Nat) (I:List (Bb×V)) (f:Nat):ov=.ref i->wi Q i=J (c,d)->Vq Q d=J I->Pf I D=Y->S.meth c D=J f->MR w S D ov Q (.fn f ov)|lm (i:Nat) (xs:List V):ov=.ref i->tc Q i=J xs->MR w S D ov Q (.lm i)
theorem rP{l:V}{c:dW}(e:du S l D Q=J c):MR w S D l Q c:=ab e λi o p=>ab p λt m j=>by
 have a:=Sh o
 induction t with
 |inst B d=>
  refine ab j λI G h=>?_
  induction k:Pf I D with
  |some b=>rw[k]at h;exact ja h|none=>
   rw[k]at h;refine qe h λf b O=>(Ed O (Ed a ?_));exact .fn i B d I f a (by unfold wi;refine U m ?_;rfl) G k b
 |list b=>refine Ed (ba j) ?_;exact .lm i b a (by unfold tc;refine U m ?_;rfl)|_=>exact ja j
theorem KJ{o:Expr}{ap:Om}{j:St->Option (V×St)}{G:St->Option (List V×St)}(B:Jk P K S)(CO:Zp P K S)(CF:Gi w P z n)(AK:Dg (n+1) A)
 (hp:Pl o=Z)(hl:(ap.endLine==N.line)=Z)(x3:I.length<29)(hn:∀e∈I,∀x p,e≠jd x p)(hF:uc w P A X y r lo u (yc o X) j)(hG:Vi w P A X y r lo u (kj (og N (starEach I X))) G):
 uc w P A X y r lo u (yc (.Call (.Attribute o D ap) I [] N) X) (λQ=>(j Q).bind λp=>(du S p.1 D p.2).bind λd=>(G p.2).bind λl=>my z d D l.1 l.2):=λF Q s O R=>by
 refine U (qdw _ _ _ _ _ _ _) (U (Vu hp _) ((hF F Q s O R).bind (t:=λv=>bk ap.atName>>=λa=>EZ o D ap N X v (I.length+([]:List eL).length) (og N (starEach I X)) (backToKw N (qfB [] X))) (λo' ov x9 s1 x4 k1 r1 x1=>Ga.opt λd hr=>?_) λb h=>ga h));have E1:=R.kx O k1;intro v E e;refine ga (lc ?_);unfold EZ;refine U (aw x3 hn) (U (by unfold yu;simp[hl]:yu Z o X ap N=pure N) (ga (Kb (aa λp=>?_))));cases (rP hr:MR w S D ov x4 d)with
 |fn i c' h y1 f l e1 e2 hs hm=>
  refine p ?_;clear p;rw[l]at x1;refine aa λp=>?_;obtain⟨k,dx,x8,m,rfl,_,_,_,_,p2,_,_,b⟩:=r1.inst e1 e2 x1;obtain⟨m1,m2,m3,m4,m5⟩:=CO.meth _ _ _ hm;refine p ?_;clear p;refine method_fn (r1.kin B) b m1 m2 m3 m4 ?_ (ga (ta (iz (f:=.ref f) (first:=[.ref k]) B m5 hn hG r1 E1 (λW C x5 s2 x6 k2 r2 l2 x2 v E e=>km (CF A (AK.less (se n)) f (ov::C) _ _ _ s2 _ _ X.locals r2 l2.out (.cons (l▸k2.vr x1) x2) e)) v E e)));refine aa λp=>?_;rcases p2.wJ (m:=m) D with⟨h1,h2⟩|⟨x,c,h1,h2,h3⟩
  ·refine p ?_
   clear p;simp[shadowIn,h2]
  ·refine p ?_
   clear p;rw[h1]at hs;exact ja hs.symm
 |lm i xs l e1=>
  refine p ?_;clear p;rw[l]at x1;refine ab e λb z1 z2=>(ab z2 λm m1 a=>(aa λp=>?_));obtain⟨k,y2,c,rfl,ea,q1,q2,q3⟩:=r1.list e1 x1;refine p ?_;clear p;exact getMethod_builtin (T:="list") ⟨_,q1,rfl⟩ PySem.F.plainAttrs_list (SN m1▸eV m) (BV m) (λh x7=>by cases x7;exact⟨_,q1,rfl⟩) (ga (ta (iz (f:=.builtin (QT m)) (first:=[.ref k]) B rfl hn hG r1 E1 (λW C x5 s2 x6 k2 r2 l2 x2=>Ga.opt λh m2=>by
   refine Ed (ba (m1.symm.trans m2)) ?_;exact tZ AK r2 l2 (k2.vr x1) x2) v E e)))
end
section
variable {D:Ca} {k:Int} {x:Bb} {p C:Om} {F:Ea} {N:Expr}
variable [u:Av]
section
variable {w:zb} {Q h h2 I:qb} {T W:List Ca} {S:St} {L:Ca}
theorem KX.but(k:KX L T h h2 W)(f:h.get? D=Y)(c:∀b x,b≠D->h2.get? b=J x->I.get? b=J x):KX L T h I W:=by
 have b:∀a o,h.get? a=J o->a≠D:=λa o e q=>by subst q;rw[f]at e;exact ja e
 refine⟨⟨k.pre,k.fresh,λa o e j l=>c a o (b a o e) (k.keep a o e j l),λa o e i=>c a o (b a o e) (k.imm a o e i),λa e=>?_⟩,λm n=>?_⟩
 ·obtain⟨o,r⟩:=Na.mp e
  obtain⟨B,d⟩:=Na.mp (k.live a e);refine U (c a B (b a o r) d) ?_;rfl
 ·refine aa λd=>?_
  obtain⟨R,_,_,r,_⟩:=id n;obtain⟨o,B,G,O,N⟩:=k.ns m n;exact d (⟨o,B,G,c L o (b L _ r) O,N⟩)
end
variable {w:zb} {Q:qb} {A:Yb} {X:zj} {eo:Ca->Prop} {z:List Bb} {lo:Nat} {E:Me} {K:Ue} {y:Bh} {n:Nat} {g:Gl} {T:List Ca} {S P:St} {s:Ea} {v:V} {L:Ca} {t:Nat->List V->St->Option (V×St)}
inductive VK [u:Av](w:zb)(k:Int)(v:V)(P:St)(σ1:St)(o':wa)(ρ1:List Ca)(h1:qb):Prop
 |mk:∀(a:Ca)(vs:List wa)(xs:List V),o'=.ref a->h1.IsList a vs.toArray->xs.length<=4096->ue w ρ1 h1 xs vs->(0<=k/\k<1000)->gj (xs.take k.toNat) σ1=J (v,P)->VK w k v P σ1 o' ρ1 h1
theorem NS{f:V}{o':wa}(B:Jk Q K y)(r:R w Q T S s.heap)(x1:VR w T s.heap f o')(e:MS y f k S=J (v,P)):VK w k v P S o' T s.heap:=by
 induction f using V.casesOn with
 |k c=>
  induction c with
  |ref a=>
   exact ab e λd j e=>ab e λb l N=>by
    refine aa λq=>?_;obtain⟨i,G,O,m⟩:=B.scr a d j;refine q ?_;exact⟨a,G,d.map V.int,x1.wF,(let ⟨o,e,c⟩:=O;⟨o,r.wK _ _ e,c⟩),by refine U (ya _) ?_;exact i,ir m,Q4 l,N⟩
  |_=>exact ja e
 |ref i=>
  exact ab e λd j e=>ab e λb l N=>by
   refine aa λq=>?_;obtain⟨a,G,m,rfl,ea,O,c,g3⟩:=r.list j x1;exact q (⟨a,G,d,rfl,ve O,c,g3,Q4 l,N⟩)
 |_=>exact ja e
theorem NJ(h:qb):h.get? (h.objs.size+1)=Y:=by
 induction q:h.get? (h.objs.size+1)with
 |none=>rfl|some a=>exact zc (qc q) (Ud.mpr (se _))
theorem lM(B:Jk Q K y){l R:Om}{kd:Nat}{c:St->Option (V×St)}(hf:uc w Q A X eo z lo E (yc (.Name x p) X) c):
 uc w Q A X eo z lo E (yc (.Subscript (.Name x p) (.Slice Y (J (.Constant (.int k) kd l)) Y R) C) X) (λS=>(c S).bind λp=>MS y p.1 k p.2):=λT S s r d v P e=>ab e λp e1 N=>wpAny_Subscript_list_slice (Da (hf T S s r d _ _ e1) (λo' i l=>by
 obtain⟨x2,t1,k1,m,x1⟩:=l;refine U (evalPart_none _) (U (evalPart_some _ _) (ta (U2 (aa λq=>?_))));obtain⟨a,G,xs,rfl,g1,g2,O,hk,e'⟩:=NS (s:=i) B m x1 N;refine q ?_;clear q;refine⟨a,G.toArray,Y,J k,rfl,g1,O.fit g2,.none,.int k _,?_⟩;obtain⟨j,rfl⟩:=Int.eq_ofNat_of_zero_le hk.1;refine U (slicePick_upto' _ _) ?_;have f:=Oa (i.heap.push {cls:=.type "slice",data:=.fields #[.none,.int (j:Int) i.toks,.none]}) (o:=listOf ((G.take j).toArray) 0) rfl;rw[ie]at f;exact PR.after t1 k1 (Iy (s:=i) (tk':=i.toks+1) m (λb x e=>Ba _ (Ba _ e)) (NJ i.heap) f (O.take j) e')) λf f x=>x) λf f=>rfl
theorem rm{b:Type} [DecidableEq b](a:PySem.KeyKind pg w b):Gf.IsDictOf a []:=⟨#[],0,⟨rfl,rfl,rfl⟩,rfl,λe c=>(nomatch c),.nil,.nil⟩
theorem bE:uc w Q A X eo z lo E (yc (.Dict [] [] C) X) (λS=>J (.ref S.length,S++[.idict []])):=λT S s r b=>Ga.ret (wpAny_Dict_empty (
 have c:=r.new' (L:=X.locals) (a:=s.heap.objs.size) (o:=.idict []) (λa o e=>Ba _ e:∀a o,s.heap.get? a=J o->(s.heap.push Gf).get? a=J o) (Fb _) ⟨Gf,[],Oa _ rfl,rm _,rfl,.nil,td _⟩
 ⟨_,rfl,c.2,c.1,.ref (Ir r)⟩))
theorem Ah.upd{s:Ea}{I:qb}{k:Nat}(a:Ah s F):Ah s {F with heap:=I,toks:=k}:=Ah.trans a rfl
theorem Ah.past{s:Ea}{I:qb}{k:Nat}(a:Ah {s with heap:=I,toks:=k} F):Ah s F:=Ah.trans (s':={s with heap:=I,toks:=k}) rfl a
theorem iB{o:O}{h2 I:qb}{W:List Ca}{c:St}{tk:Nat}(st:Ah s F)(r:R w Q T S s.heap)(f:s.heap.get? D=Y)(k:KX L T s.heap h2 W)(j:R w Q W c h2)(d:D∉W)(i:∀x,h2.get? D=J x->¬Ih x)
 (l:∀b x,b≠D->h2.get? b=J x->I.get? b=J x)(m:OR w (W++[D]) I o D):PV w Q L T s (c++[o]) (.ref c.length) (.ref D) {F with heap:=I,toks:=tk}:=
 have b:=Rd r f;have B:R w Q W c I:=j.beside (wr:=λa=>a=D) (λa o n e=>l a o n e) λa q=>q▸⟨d,b,i⟩
 ⟨_,st.upd,(k.but f l).add f,B.add d b m,.ref (Ir j)⟩
theorem KX.after_push{o:yD}{h2:qb}{W:List Ca}(k:KX L T (s.heap.push o) h2 W):KX L T s.heap h2 W:=(KX.wI λa a e=>Ba _ e).trans k
theorem ly{h2:qb}{W:List Ca}(r:R w Q T S s.heap)(l:Um Q L T s.heap)(k:KX L T (s.heap.push Gf) h2 W):s.heap.objs.size∉W/\h2.get? s.heap.objs.size=J Gf:=by
 have c:s.heap.get? s.heap.objs.size=Y:=Fb _;have b:(s.heap.push Gf).get? s.heap.objs.size=J Gf:=Oa _ rfl;refine aa λd=>?_;obtain⟨m,o,_,_,e,_⟩:=l.ns;refine d ?_;have a:s.heap.objs.size∉T:=Hf r c;exact⟨λq=>(k.fresh _ q).elim a λq=>(by rw[b]at q;exact ja q.symm),k.keep _ _ b a λq=>by rw[<-q,c]at e;exact ja e⟩
theorem wj{h2:qb}(e:h2.get? D=J Gf):∀x,h2.get? D=J x->¬Ih x:=λx q=>by
 refine Ed (ba (e.symm.trans q)) ?_;simp[Ih,Gf]
theorem cE{c G:St->Option (V×St)}(hf:uc w Q A X eo z lo E (yc (.Name x p) X) c)(hg:uc w Q A X eo z lo E (yc N X) G):
 uc w Q A X eo z lo E (yc (.Dict [J (.Name x p)] [N] C) X) (λS=>(c S).bind λp=>(G p.2).bind λq=>oG p.1 q.1 q.2):=λT S s r d v P e=>ab e λp e1 N=>ab N λq e3 e4=>YN e4 λa ea=>by
 have m:∀a o,s.heap.get? a=J o->(s.heap.push Gf).get? a=J o:=λa o e=>Ba _ e;refine qaW (knd:=ig pg w) rfl rfl (λq=>zc q (Bc _ _)) (gb rfl) (bu (Da (hf T S {s with heap:=s.heap.push Gf} (r.wI m) (d.wI r m) _ _ e1) (λkv s1 p1=>?_) λf f x=>x));obtain⟨B,t1,k1,r1,x1⟩:=p1;refine Da (hg B _ _ r1 ((d.wI r m).kx (r.wI m) k1) _ _ e3) (λR F p2=>qdP ?_) λf f x=>x;refine aa λO=>?_;obtain⟨W,t2,k2,r2,x2⟩:=p2;have l:=k1.trans k2;have i:=ly r d.lok l;obtain⟨j,rfl⟩:=x1.wZ ea;refine O (⟨[(a,R)],⟨Gn a j,rfl,trivial⟩,⟨Gf,_,_,i.2,(rm (ig pg w)).choose_spec.choose_spec⟩,λI hd sb=>?_⟩);refine aa λO=>?_;obtain⟨o,f1,d1⟩:=Mf.mp hd;refine O ?_;exact iB (h2:=F.heap) (tk:=F.toks+1) (t1.past.trans t2) r (Fb _) (KX.after_push l) r2 i.1 (wj i.2) (λb x n e=>(sb.2 b n).trans e)
  ⟨o,[(a,R)],f1,d1,rfl,.one (x2.mono (Hc _ _) (Aq sb i.2 (wj i.2 _ i.2))),gb rfl⟩
theorem dE{a b:Bb}{ka kb:Nat}{pa pb:Om}{O:Expr}{c G:St->Option (V×St)}(j:a≠b)(hf:uc w Q A X eo z lo E (yc O X) c)(hg:uc w Q A X eo z lo E (yc N X) G):
 uc w Q A X eo z lo E (yc (.Dict [J (.Constant (.str a) ka pa),J (.Constant (.str b) kb pb)] [O,N] C) X) (λS=>(c S).bind λp=>(G p.2).bind λq=>pG (.str a) (.str b) p.1 q.1 q.2):=λT S s r d v P e=>ab e λp O N=>ab N λq e3 R=>by
 replace R:(if a=b then Y else J (V.ref q.2.length,q.2++[.h [(a,p.1),(b,q.1)]]))=J (v,P):=R;rw[fe j]at R;have hk:∀a o,s.heap.get? a=J o->(s.heap.push Gf).get? a=J o:=λa o e=>Ba _ e;refine qaW (knd:=ee pg w) rfl rfl (λq=>zc q (Bc _ _)) (gb rfl) (bu (Vw ?_));have E1:=d.wI r hk;refine Da (hf T S {s with heap:=s.heap.push Gf,toks:=s.toks+1} (r.wI hk) E1 _ _ O) (λxl s1 p1=>bu (Vw ?_)) λf f x=>x;obtain⟨x3,t1,k1,r1,x1⟩:=p1;refine Da (hg x3 _ {s1 with toks:=s1.toks+1} r1 (E1.kx (r.wI hk) k1) _ _ e3) (λyl F p2=>qdP ?_) λf f x=>x;obtain⟨W,t2,k2,r2,x2⟩:=p2;have l:=k1.trans k2;have i:=ly r d.lok l;refine⟨[(a,xl),(b,yl)],⟨Ek a _,rfl,Ek b _,rfl,trivial⟩,⟨Gf,_,_,i.2,(rm (ee pg w)).choose_spec.choose_spec⟩,λI hd sb=>?_⟩;refine aa λnq=>?_;obtain⟨o,o1,d1⟩:=Mf.mp hd;have m:=Aq sb i.2 (wj i.2 _ i.2);rw[show merged ([]:List (Bb×wa)) [(a,xl),(b,yl)]=[(a,xl),(b,yl)] by simp[merged,stored,j]]at d1;obtain⟨B,m',rfl,x4⟩:=rG (w:=w) (ρ:=W++[s.heap.objs.size]) (h:=I) (es:=[(a,p.1),(b,q.1)]) d1 rfl (.cons ((k2.vr x1).mono (Hc _ _) m) (.one (x2.mono (Hc _ _) m)));obtain⟨rfl,rfl⟩:=Ta (ba R);refine nq ?_;exact iB (h2:=F.heap) (tk:=F.toks+2) (t1.past.trans t2.past) r (Fb _) (KX.after_push l) r2 i.1 (wj i.2) (λb x n e=>(sb.2 b n).trans e)
  ⟨B,m',o1,x4,by simp[j],gb rfl⟩
end
section
variable {x:Bb} {i:Nat} {T:wa}
variable [E:Av]
inductive PA(w:zb)(Q:qb)(X:zj)(N:Ca->Prop)(S:List Bb)(lo:Nat)(W:List Ca)(s:Ea)(I:St)(O:Me)(s':Ea):Prop
 |mk:Ah s s'->Kp N W s.heap s'.heap W->R w Q W I s'.heap->Lc w Q X N S lo O W s'.heap->PA w Q X N S lo W s I O s'
variable {w:zb} {Q:qb} {A:Yb} {X:zj} {N:Ca->Prop} {S:List Bb} {lo:Nat} {O:Me} {K:Ue} {G:Bh} {n:Nat} {g:Gl} {W:List Ca} {I F:St} {s:Ea} {v:V} {L:Ca}
theorem Xq{S:List Bb}{y:Bb}(a:xc S x=J i)(b:xc S y=J i):x=y:=ba ((Tj a).symm.trans (Tj b))
theorem Mz{j:Nat}{v v':V}{P:Prop}(e:(O.set i (J v))[j]?=J (J v'))(h1:i=j->v=v'->P)(h2:i≠j->O[j]?=J (J v')->P):P:=by
 rw[jl]at e
 split at e
 ·rename_i q
  split at e
  ·exact h1 q (ba (ba e))
  ·exact ja e
 ·rename_i q;exact h2 q e
theorem Lc.put{h:qb}(f:Lc w Q X N S lo O W s.heap)(p:Kp N W s.heap h W)(l:∀c v,s.heap.IsCell c v->∃e,h.IsCell c e)
 (q:∃m,h.Ns X.locals m/\∀(x:Bb)(j:Nat)(u:V),xc S x=J j->X.kindOf x=J .local->(O.set i (J v))[j]?=J (J u)->∃T,m x=J T/\VR w W h u T)
 (r:∀(x:Bb)(j:Nat)(u:V),xc S x=J j->(X.kindOf x=J .cell\/X.kindOf x=J .free)->(O.set i (J v))[j]?=J (J u)->∃c T,X.cells.lookup x=J c/\h.IsCell c (J T)/\VR w W h u T):Lc w Q X N S lo (O.set i (J v)) W h:=
 ⟨f.kind,f.globals,f.builtins,by refine U yb ?_;exact f.len,q,r,f.loc,λy k a b=>(by
  refine aa λd=>?_;obtain⟨c,v,z1,z2⟩:=f.has y k a b;obtain⟨e,o⟩:=l _ _ z2;refine d ?_;exact⟨c,e,z1,o⟩),f.apart,λy j a b=>(f.own y j a b).imp_right λd=>(by
  obtain⟨z,c,v,z1,z2,o⟩:=d;obtain⟨e,z4⟩:=l _ _ z2;exact⟨z,c,e,z1,z4,o⟩),f.eoh,λa e=>p.live a (f.eol a e)⟩
theorem bD(P:xc S x=J i)(hk:X.kindOf x=J .local)(r:R w Q W I s.heap)(f:Lc w Q X N S lo O W s.heap)(xv:VR w W s.heap v T):
 Qa (bb pg w) A (H9 X x T) (λd=>PA w Q X N S lo W s I (O.set i (J v))) No s:=by
 refine aa λk=>?_;obtain⟨m,C,hv⟩:=f.ns;refine k (wpAny_storeName_local hk C (λD hn l=>?_) (by simp[f.kind]));have p:∀a o,¬(a=X.locals)->s.heap.get? a=J o->D.get? a=J o:=λa o q e=>(l.2 a q).trans e;have t:Kp N W s.heap D W:=Kp.beside (wr:=λa=>a=X.locals) p λa q o e=>by
  refine aa λk=>?_;subst q;obtain⟨b,_,_,B,_⟩:=hn;refine k ?_;exact⟨Bg C e,f.loc.2.2,by refine U B ?_;rfl⟩
 have r':R w Q W I D:=r.beside (wr:=λa=>a=X.locals) p λa q=>by subst q;exact⟨f.loc.1,f.loc.2.1,λo e=>Bg C e⟩
 have d:∀c v,s.heap.IsCell c v->D.IsCell c v:=λc v x=>x.sameBut l λq=>by subst q;exact Mn C x
 refine⟨rfl,t,r',f.put t (λc v x=>⟨v,d c v x⟩) ⟨_,hn,λy j u a b e=>Mz e (λq q2=>?_) λq B=>?_⟩ λy j u a b e=>Mz e (λq q2=>?_) λq B=>?_⟩
 ·exact U (Xq a (q▸P)) (Ed q2 (⟨T,by simp,t.vr xv⟩))
 ·have:y≠x:=λz=>q (ba ((z▸P).symm.trans a))
  refine aa λk=>?_;obtain⟨h,z1,z2⟩:=hv y j u a b B;exact k (⟨h,by simp[this,z1],t.vr z2⟩)
 ·rw[Xq a (q▸P),hk]at b;rcases b with b|b<;>cases b
 ·obtain⟨c,h,z1,z2,z⟩:=f.cells y j u a b B
  exact⟨c,h,z1,d _ _ z2,t.vr z⟩
theorem vF{c:Ca}{v0:Option wa}(B:xc S x=J i)(hk:X.kindOf x=J .cell)(C:X.cells.lookup x=J c)(c2:s.heap.IsCell c v0)(c3:Q.get? c=Y)(c4:N c)(r:R w Q W I s.heap)(f:Lc w Q X N S lo O W s.heap)(xv:VR w W s.heap v T):
 Qa (bb pg w) A (H9 X x T) (λd=>PA w Q X N S lo W s I (O.set i (J v))) No s:=by
 refine aa λk=>?_;obtain⟨m,hm,hv⟩:=f.ns;refine k (wpAny_storeName_cell f.kind hk C c2 λD P h=>?_);have l:∀a o,¬(a=c)->s.heap.get? a=J o->D.get? a=J o:=λa o q e=>(h.2 a q).trans e;refine aa λk=>?_;obtain⟨oc,x1,x2⟩:=bJ c2;refine k ?_;have cI:∀o,s.heap.get? c=J o->¬Ih o:=λo e=>ba (x1.symm.trans e)▸x2;have p:Kp N W s.heap D W:=Kp.beside (wr:=λa=>a=c) l λa q o e=>by
  subst q;obtain⟨b,t,_⟩:=P;exact⟨cI o e,c4,by refine U t ?_;rfl⟩
 have r':R w Q W I D:=r.beside (wr:=λa=>a=c) l λa q=>by subst q;exact⟨r.cellNot c2,c3,cI⟩
 refine⟨rfl,p,r',f.put p (λc' v x=>?_) ⟨m,hm.sameBut h λq=>Mn (v:=v0) hm (q▸c2),λy j u a b e=>Mz e (λq q2=>?_) λq t=>?_⟩ λy j u a b e=>Mz e (λq q2=>?_) λq t=>?_⟩
 ·by_cases q:c'=c
  ·exact⟨_,q▸P⟩
  ·exact⟨v,x.sameBut h q⟩
 ·rw[Xq a (q▸B),hk]at b;cases b
 ·obtain⟨d,z1,z2⟩:=hv y j u a b t
  exact⟨d,z1,p.vr z2⟩
 ·exact U (Xq a (q▸B)) (Ed q2 (⟨c,T,C,P,p.vr xv⟩))
 ·refine aa λk=>?_
  obtain⟨c',d,z1,z2,z3⟩:=f.cells y j u a b t;refine k ?_;exact⟨c',d,z1,z2.sameBut h (λz=>by
   subst z;have:=qfb f.apart (mem_of_lookup z1) (mem_of_lookup C);exact q (ba ((this▸B).symm.trans a))),p.vr z3⟩
theorem cD(b:xc S x=J i)(h:lo<=i)(r:R w Q W I s.heap)(a:Lc w Q X N S lo O W s.heap)(e:VR w W s.heap v T):
 Qa (bb pg w) A (H9 X x T) (λu=>PA w Q X N S lo W s I (O.set i (J v))) No s:=by
 refine aa λf=>?_;rcases a.own x i b h with d|⟨d,c,l,j,c2,c3,k⟩
 ·exact f (bD b d r a e)
 ·exact f (vF b d j c2 c3 k r a e)
theorem lh{p:Om}(b:xc S x=J i)(c:lo<=i)(r:R w Q W I s.heap)(a:Lc w Q X N S lo O W s.heap)(d:VR w W s.heap v T):
 Qa (bb pg w) A (assign (.Name x p) X T) (λu=>PA w Q X N S lo W s I (O.set i (J v))) No s:=by
 refine U (arm_assign_Name _ _ _ _) ?_;unfold oS;exact ga (lc (ga (Kb (GA (ga (Da (cD b c r a d) (λu u h=>GA h) λu u x=>x))))))
theorem PA.after{s1 a:Ea}(t:Ah s s1)(k:Kp N W s.heap s1.heap W)(x:PA w Q X N S lo W s1 I O a):PA w Q X N S lo W s I O a:=by
 obtain⟨b,c,d,e⟩:=x;exact⟨t.trans b,k.trans c,d,e⟩
theorem Qu:∀{k:List (Bb×Om)}{is:List Nat}{h:List V}{d:List wa}{O f:Me}{s:Ea},(k.map λp=>xc S p.1)=is.map J->(∀i∈is,lo<=i)->R w Q W I s.heap->Lc w Q X N S lo O W s.heap->ue w W s.heap h d->xe is h O=J f->
 Qa (bb pg w) A (II (k.map λp=>assign (.Name p.1 p.2) X) d) (λu=>PA w Q X N S lo W s I f) No s:=by
 intro k
 induction k with
 |nil=>
  intro is h d O f s l m r b x e;refine aa λc=>?_
  induction is using ma with
  |cons y z=>refine c ?_;clear c;exact zc l.symm (Bc _ _)|nil=>
   refine c ?_;clear c;refine aa λc=>?_
   induction h using ma with
   |cons y z=>refine c ?_;clear c;exact ja e|nil=>refine c ?_;clear c;rw[<-ba e,(x.wF:d=[])];exact ao ⟨rfl,Kp.refl,r,b⟩
 |cons p k o=>
  intro is h d O f s l m r b x e;refine aa λc=>?_
  induction is using ma with
  |nil=>refine c ?_;clear c;exact zc l (Bc _ _)|cons i is=>
   refine c ?_;clear c;refine aa λc=>?_
   induction h using ma with
   |nil=>refine c ?_;clear c;exact ja e|cons v q=>
    refine c ?_;clear c;refine aa λc=>?_;obtain⟨a,as,rfl,t,y⟩:=x.wF;refine c ?_;clear c;replace e:(if i<O.length then xe is q (O.set i (J v))else Y)=J f:=e
    split at e
    ·exact Zn (Da (lh (Xd l) (m i sa) r b t) (λu s1 z=>by
      obtain⟨B,k1,C,D⟩:=z;exact Da (o (wd l) (λj P=>m j (oa _ P)) C D (k1.vrs y) e) (λu P j=>PA.after B k1 j) λu u x=>x) λu u x=>x)
    ·exact ja e
end
section
variable {i:Nat} {t:CT} {T:wa} {h h':qb} {I:Ca} {Q:It} {a b:Int}
variable [D:Av]
variable {w:zb} {G:qb} {A:Yb} {P:zj} {E:Ca->Prop} {lo:Nat} {S W:Me} {K:Ue} {C:Bh} {n:Nat} {g:Gl} {X:List Ca} {F B:St} {s:Ea} {v:V} {L:Ca} {N:Sc}
theorem Xl{x:Bb}(h:Vs N x=J i):xc N.sl x=J i:=ab h λu u h=>ab h λu u h=>h
theorem FG(h:free S i=Z):i<S.length:=by
 refine Nat.lt_of_not_le λl=>?_;unfold free at h;rw[Rc l]at h;exact ia h
theorem Oi{d:Type}{c:Prop} [Decidable c]{x:Option d}{y:d}(e:(if c then x else Y)=J y):c/\x=J y:=by
 by_cases h:c
 ·rw[Dd h]at e;exact⟨h,e⟩
 ·rw[fe h]at e;exact ja e
theorem aK:∀{is:List Nat}{c:List V}{S W:Me},Dk is c S=J W->xe is c S=J W:=by
 intro is
 induction is with
 |nil=>intro c S W h;induction c using ma<;>exact h|cons i is d=>
  intro c S W h
  induction c using ma with
  |nil=>exact h|cons v e=>
   have q:=Oi (x:=Dk is e (S.set i (J v))) h;exact(Dd (FG q.1)).trans (d q.2)
theorem nS(h:Kj t v S=J W):ql t v S=J W:=by
 induction t with
 |x i=>
  have q:=Oi (x:=J (S.set i (J v))) h;exact(Dd (FG q.1)).trans q.2
 |t is=>exact ab h λc d e=>Fa.mpr ⟨c,d,aK e⟩
theorem gO:∀{c:List Expr}{is:List Nat},Oz N c=J is->
 ∃d:List (Bb×Om),c=d.map (λp=>eR p.1 p.2)/\(d.map λp=>xc N.sl p.1)=is.map J:=by
 intro c
 induction c with
 |nil=>intro is h;exact⟨[],rfl,by refine Ed (ba h) ?_;rfl⟩|cons e c j=>
  intro is h;refine ab h λi q f=>qe f λy k l=>ab q λx m o=>(aa λr=>?_);obtain⟨d,u,f⟩:=j k;obtain⟨p,rfl⟩:=Ll m;refine r ?_;exact⟨(x,p)::d,by refine U u ?_;rfl,by exact Ed l (U Vb (U Vb (U f (U (Xl o) rfl))))⟩
theorem Gr(c:List (Bb×Om)):assignEach (c.map λp=>eR p.1 p.2) P=c.map λp=>(ua,assign (.Name p.1 p.2) P):=by
 induction c with
 |nil=>rfl|cons p c d=>refine U Vb (U Vb (Ed d ?_));rfl
theorem Fp:∀{is:List Nat}{c:List V}{S W:Me},xe is c S=J W->is.length=c.length:=by
 intro is
 induction is with
 |nil=>intro c S W h;induction c using ma with|nil=>rfl|cons u y=>exact ja h
 |cons i is d=>
  intro c S W h
  induction c using ma with
  |nil=>exact ja h|cons v e=>exact Gc nc (d (Oi (x:=xe is e (S.set i (J v))) h).2)
theorem jM{j:List (Bb×Om)}{is:List Nat}{q:List V}{k:Nat}{p:Om}(O:Dg n A)(y:(j.map λp=>xc N.sl p.1)=is.map J)(hg:Wt lo (.t is)=Z)(r:R w G X F s.heap)(c:Lc w G P E N.sl lo S X s.heap)(xv:VR w X s.heap (.t q) T)(e:xe is q S=J W):
 Qa (bb pg w) A (assign (.Tuple (j.map λp=>eR p.1 p.2) k p) P T) (λu=>PA w G P E N.sl lo X s F W) No s:=by
 refine aa λnq=>?_;obtain⟨a,vs,m,rfl,x1,ea,la,z⟩:=xv.wF;refine nq ?_;have l:j.length=is.length:=by have:=Gc nj y;rwa [ya,ya]at this
 refine U (R5 _ _ _ _ _) (U (Gr _) ?_);refine ga (lc (X2 O.hh (items:=vs.toArray) (lf ea) (by exact U (ya _) (U Hb (Ed z.length (U l (U (Fp e) rfl))))) ?_ λh' d=>?_))
 ·refine U (propext az) ?_
  intro x f;obtain⟨p,_,rfl⟩:=Rb.mp f
  rfl
 ·have f:∀a o,s.heap.get? a=J o->h'.get? a=J o:=λa o e=>d a o (ic (qc e)) e
  exact U Qd (Da (Qu (A:=A) (s:={s with heap:=h'}) y (λi hi=>Nl (md.mp hg i hi)) (r.wI f) (c.wI r f) (z.mono (Ja _) λa o e u=>f a o e) e) (λu s2 p2=>PA.after (s1:={s with heap:=h'}) rfl (Kp.wI f) p2) λu u x=>x)
theorem kM{d:Expr}(z:Dg n A)(f:Xk N d=J t)(j:Wt lo t=Z)(r:R w G X F s.heap)(c:Lc w G P E N.sl lo S X s.heap)(y:VR w X s.heap v T)(e:ql t v S=J W):
 Qa (bb pg w) A (assign d P T) (λu=>PA w G P E N.sl lo X s F W) No s:=by
 unfold Xk at f;refine aa λl=>?_
 induction m:Wv d with
 |some x=>
  refine l ?_;clear l;rw[m]at f;refine qe f λi q o=>?_;obtain⟨p,rfl⟩:=Ll m;rw[<-o]at e j;have u:=El (x:=S.set i (J v)) e;exact Ed u.2 (lh (Xl q) (Nl j) r c y)
 |none=>
  refine l ?_;clear l;rw[m]at f;refine ab f λes q o=>qe o λis u O=>?_;obtain⟨k,p,rfl⟩:=Nw q;rw[<-O]at e j;refine ab e λxs e1 e2=>?_;obtain⟨ns,rfl,h2⟩:=gO u;exact jM z h2 j r c (Vl e1▸y) e2
def sj(w:zb)(X:List Ca)(h:qb)(I:Ca)(i:Nat)(z:It):Prop:=match z with|.st c=>(∃t d m,h.get? t=J (iu d m)/\ue w X h c d/\h.IsTupleIter I t i)\/(∃a b,c=Jo a b/\i<=(b - a).toNat/\gn h I (a+(i:Int)) (((b - a).toNat:Int) - (i:Int)) 1)|.dyn l=>∃a,X[l]?=J a/\h.IsListIter I a i
theorem Dh(x:sj w X h I i Q):∃o,h.get? I=J o/\¬Ih o/\(∃j,o.data=.fields j):=by
 refine aa λf=>?_
 induction Q with
 |st k=>
  refine f (aa λf=>?_);rcases x with⟨t,j,m,_,_,o,e,c,d⟩|⟨a,b,_,_,e⟩
  ·exact f (⟨o,e,by simp[Ih,d,c],_,d⟩)
  ·exact f (⟨_,e,by simp[Ih],_,rfl⟩)
 |dyn l=>
  refine f (aa λf=>?_);obtain⟨a,_,o,e,c,d⟩:=x;exact f (⟨o,e,by simp[Ih,d,c],_,d⟩)
theorem OR.notFields{o:O}{a:Ca}(z:OR w X h o a){j:yD}(e:h.get? a=J j){k:Array wa}(d:j.data=.fields k):False:=by
 induction o with
 |list c=>obtain⟨k,n,f,_⟩:=z;rw[ba (e.symm.trans f)]at d;exact nomatch d|idict m=>obtain⟨o,c,f,⟨p,q,_,l,_⟩,_⟩:=z;rw[ba (e.symm.trans f),l]at d;exact nomatch d|h m=>obtain⟨c,n,f,_⟩:=z;rw[ba (e.symm.trans f)]at d;exact nomatch d|inst c l=>obtain⟨m,_,f⟩:=z;rw[ba (e.symm.trans f)]at d;exact nomatch d
theorem sj.notIn(x:sj w X h I i Q)(r:R w G X F h):I∉X:=λq=>by
 obtain⟨o,e,_,c,d⟩:=Dh x;obtain⟨j,f,_,_,z⟩:=r.mem q;exact z.notFields e d
theorem sj.keep{f:List Ca}(x:sj w X h I i Q)(q:X<+:f)(j:∀a o,h.get? a=J o->Ih o->h'.get? a=J o)(hI:∀o,h.get? I=J o->h'.get? I=J o):sj w f h' I i Q:=by
 induction Q with
 |st u=>
  refine aa λp=>?_;rcases x with⟨t,r,m,k,l,o,e,c,d⟩|⟨a,b,k,l,e⟩
  ·exact p (.inl ⟨t,r,m,j _ _ k rfl,l.mono q j,o,hI _ e,c,d⟩)
  ·exact p (.inr ⟨a,b,k,l,hI _ e⟩)
 |dyn l=>
  refine aa λp=>?_;obtain⟨a,k,o,e,c,d⟩:=x;exact p (⟨a,Dm q k,o,hI _ e,c,d⟩)
def Ok(I:Ca)(h h':qb):Prop:=∀b o,b≠I->h.get? b=J o->h'.get? b=J o
theorem DU(h:i<(b - a).toNat):(Jo a b)[i]?=J (.int (a+(i:Int))):=by
 simp[Jo,ut,h]
inductive VF(w:zb)(X:List Ca)(I:Ca)(i:Nat)(Q:It)(s:Ea)(o:Option V)(q:Option wa)(s':Ea):Prop
 |done:o=Y->q=Y->Ah s s'->Ok I s.heap s'.heap->VF w X I i Q s o q s'|item (v:V) (T:wa):o=J v->q=J T->Ah s s'->Ok I s.heap s'.heap->VR w X s'.heap v T->sj w X s'.heap I (i+1) Q->VF w X I i Q s o q s'
theorem yP(h:¬i<(b - a).toNat):(Jo a b)[i]?=Y:=by
 simp[Jo,ut];lia
theorem YE(j:Dg n A)(f:gn s.heap I (a+(i:Int)) (((b - a).toNat:Int) - (i:Int)) 1):
 Qa (bb pg w) A (Dp (.ref I)) (VF w X I i (.st (Jo a b)) s (Jo a b)[i]?) No s:=by
 by_cases c:i<(b - a).toNat
 ·refine wpAny_pyNext_range_item f (by lia) λh' d k=>.item _ _ (DU c) rfl rfl (λb o n e=>(k.2 b n).trans e) (.int _ _) (.inr ⟨a,b,rfl,c,?_⟩)
  refine U (show a+((i+1:Nat):Int)=a+(i:Int)+1 by lia) (U (show(((b - a).toNat:Int) - ((i+1:Nat):Int))=((b - a).toNat:Int) - (i:Int) - 1 by lia) ?_);exact d
 ·exact wpAny_pyNext_range_end j.hh f (by lia) λh' d=>.done (yP c) rfl rfl λb o n e=>d b o n e
theorem XB{c:yD}(e:h.get? I=J c)(f:¬Ih c)(k:Ok I h h'):∀a o,h.get? a=J o->Ih o->h'.get? a=J o:=λa o d j=>k a o (λq=>f (ba (e.symm.trans (q▸d))▸j)) d
theorem gH(y:Dg n A)(r:R w G X F s.heap)(x:sj w X s.heap I i Q){o:Option V}(e:zm Q i F=J o):
 Qa (bb pg w) A (Dp (.ref I)) (VF w X I i Q s o) No s:=by
 refine aa λc=>?_;obtain⟨oI,z,O,_⟩:=Dh x;refine c ?_;clear c;have d:=λh'=>XB (h':=h') z O
 induction Q with
 |st xs=>
  refine Ed (ba e) (aa λc=>?_);rcases x with⟨t,u,m,p,f,l⟩|⟨a,b,rfl,f,l⟩
  ·refine c ?_
   clear c
   induction q:xs[i]? with
   |none=>exact wpAny_pyNext_tuple_end y.hh l (items:=u.toArray) (lf p) (by refine U jc ?_;exact f.none_of q) λh' j=>.done rfl rfl rfl λb o n e=>j b o n e|some v=>
    refine aa λc=>?_;obtain⟨T,y1,y2⟩:=f.get q;refine c ?_;clear c;refine wpAny_pyNext_tuple_item l (items:=u.toArray) (lf p) (x:=T) (by refine U jc ?_;exact y1) λh' j hs=>?_;have k:Ok I s.heap h':=λb o n e=>(hs.2 b n).trans e;exact .item _ _ rfl rfl rfl k (y2.mono (Ja _) (d h' k)) (.inl ⟨t,u,m,d h' k _ _ p rfl,f.mono (Ja _) (d h' k),j⟩)
  ·refine c ?_
   clear c;exact YE y l
 |dyn l=>
  refine aa λc=>?_;obtain⟨a,p,f⟩:=x;refine c ?_;clear c;refine qe e λxs q0 q=>(Ed q (aa λc=>?_));obtain⟨u,m,q,q2,q3⟩:=r.obj l _ a (GB q0) p;refine c ?_;clear c
  induction q':xs[i]? with
  |none=>exact wpAny_pyNext_list_end y.hh f (ve q) (by refine U jc ?_;exact q3.none_of q') λh' j=>.done rfl rfl rfl λb o n e=>j b o n e|some v=>
   refine aa λc=>?_;obtain⟨T,y1,y2⟩:=q3.get q';refine c ?_;clear c;refine wpAny_pyNext_list_item f (ve q) (x:=T) (by refine U jc ?_;exact y1) λh' j hs=>?_;have k:Ok I s.heap h':=λb o n e=>(hs.2 b n).trans e;exact .item _ _ rfl rfl rfl k (y2.mono (Ja _) (d h' k)) ⟨a,p,j⟩
inductive WK [D:Av](w:zb)(X:List Ca)(s:Ea)(Q:It)(q:wa)(s':Ea):Prop
 |mk:q=.ref s.heap.objs.size->Ah s s'->(∀b o,s.heap.get? b=J o->s'.heap.get? b=J o)->sj w X s'.heap s.heap.objs.size 0 Q->WK w X s Q q s'
theorem Iz{x:wa}(r:R w G X F s.heap)(f:VR w X s.heap v x)(e:fj v F=J Q):
 Qa (bb pg w) A (qw x) (λq c=>WK w X s Q q c) No s:=by
 refine aa λc=>?_
 induction v using V.casesOn with
 |t p=>
  refine c ?_;clear c;refine aa λc=>?_;obtain⟨t,q,m,rfl,j,d,l,k⟩:=f.wF;refine c ?_;clear c;refine Ed (ba e) ?_;exact Di (lf d) ⟨rfl,rfl,λb o e=>Ba _ e,.inl ⟨t,q,m,Ba _ d,k.mono (Ja _) λa o e y=>Ba _ e,_,Oa _ rfl,rfl,rfl⟩⟩
 |rng a b=>
  refine c ?_;clear c;refine aa λc=>?_;obtain⟨y,t,u,z,rfl,l⟩:=f.wF;refine c ?_;clear c;refine qe e λp j k=>(aa λc=>?_);obtain⟨O,rfl⟩:=Ps j;refine c ?_;clear c;refine Ed k ?_;refine W2 l (small_one (by lia) (by lia) (by lia) (by lia)) ⟨rfl,rfl,λb o e=>Ba _ e,.inr ⟨a,b,rfl,td _,?_⟩⟩;show gn _ _ _ _ _
  refine U (To a b) ?_
  simpa using Oa s.heap (o:={cls:=.type "range_iterator",data:=.fields #[ag a,ag ((b - a).toNat:Int),ag 1]}) rfl
 |ref l=>
  refine c ?_;clear c;refine qe e λp j k=>(Ed k (aa λc=>?_));obtain⟨a,q,m,rfl,d,u,y,z⟩:=r.list j f;refine c ?_;clear c;exact b5 (ve u) ⟨rfl,rfl,λb o e=>Ba _ e,a,d,_,Oa _ rfl,rfl,rfl⟩
 |_=>refine c ?_;clear c;exact ja e
end
section
variable [X:Av]
noncomputable def An(b:zj)(z:List (Bb×xd))(y:List (Bb×Ca)):List (Bb×Ca):=match z,y with|[],a=>a|(n,k)::r,a=>An b r (if k== .free then(n,(b.cells.lookup n).getD 0)::a else a)
theorem YL(env:zj):∀(names:List (Bb×xd))(acc:List (Bb×Ca))(x:Bb)(c:Ca),(x,c)∈An env names acc->(x,c)∈acc\/((x,Ic)∈names/\c=(env.cells.lookup x).getD 0):=by
 intro names
 induction names with
 |nil=>
  rintro _ _ _ h;exact .inl h
 |cons pq0 r ih=>
  obtain⟨n,k⟩:=pq0;rintro acc x c h;rcases ih _ x c h with q|q
  ·split at q
   ·rename_i hk
    rcases fb.mp q with e|e
    ·obtain⟨rfl,rfl⟩:=Ta e
     have:k=.free:=by simpa using hk
     subst this;exact .inr ⟨sa,rfl⟩
    ·exact .inl e
   ·exact .inl q
  ·exact .inr ⟨oa _ q.1,q.2⟩
theorem VL(c:zj):∀(a:List (Bb×xd))(b:List (Bb×Ca))(p:Bb×Ca),p∈b->p∈An c a b:=by
 intro a
 induction a with
 |nil=>
  rintro _ _ h;exact h
 |cons d r e=>
  obtain⟨n,k⟩:=d;rintro b p h;exact e _ p (by split;exact oa _ h;exact h)
theorem WL(b:zj):∀(a:List (Bb×xd))(c:List (Bb×Ca))(x:Bb),(x,Ic)∈a->(x,(b.cells.lookup x).getD 0)∈An b a c:=by
 intro a
 induction a with
 |nil=>
  rintro _ _ _
  first|contradiction|exact ja (by assumption)
 |cons d r f=>
  obtain⟨n,k⟩:=d;rintro c x h;rcases fb.mp h with e|e
  ·obtain⟨rfl,rfl⟩:=Ta e
   exact VL b r _ _ (by exact sa)
  ·exact f _ x e
theorem VD(env:zj)(hp:env.cells.Pairwise λx y=>x.2≠y.2):∀(names:List (Bb×xd))(acc:List (Bb×Ca)),(names.map λx=>x.1).Nodup->(∀x k,(x,k)∈names->k=Ic->∃c,env.cells.lookup x=J c)->
 (∀p∈acc,env.cells.lookup p.1=J p.2/\p.1∉names.map λx=>x.1)->acc.Pairwise (λx y=>x.2≠y.2)->(An env names acc).Pairwise λx y=>x.2≠y.2:=by
 intro names
 induction names with
 |nil=>
  rintro _ _ _ _ h;exact h
 |cons pq0 r ih=>
  obtain⟨n,k⟩:=pq0;rintro acc nd hc ha h;rw[Vb,Fc]at nd;show(An env r (if k== .free then(n,(env.cells.lookup n).getD 0)::acc else acc)).Pairwise _
  split
  ·rename_i hk
   obtain⟨c,hcn⟩:=hc n k sa (by simpa using hk:k=.free);refine ih _ nd.2 (λx k hx=>hc x k (oa _ hx)) ?_ ?_
   ·intro p hp'
    rcases fb.mp hp' with e|e
    ·subst e;exact⟨by simp[hcn],nd.1⟩
    ·exact⟨(ha p e).1,λq=>(ha p e).2 (oa _ q)⟩
   ·refine zg.mpr ⟨λp hp'=>?_,h⟩
    obtain⟨e1,e2⟩:=ha p hp';intro e;have:=qfb hp (mem_of_lookup hcn) ((by refine Ed e ?_;simp[hcn]:p.2=c)▸mem_of_lookup e1);exact e2 (by refine Ed this ?_;exact sa)
  ·exact ih _ nd.2 (λx k hx=>hc x k (oa _ hx)) (λp hp'=>⟨(ha p hp').1,λq=>(ha p hp').2 (oa _ q)⟩) h
theorem WD(a:zj)(d:Scope)(f:∀x k,(x,k)∈d.names->k=Ic->∃c,a.cells.lookup x=J c):rY d a=pure (An a d.names []):=by
 unfold rY;have l:∀(b:List (Bb×xd))(e:List (Bb×Ca)),(∀x k,(x,k)∈b->k=Ic->∃c,a.cells.lookup x=J c)->
  (forIn b e λ(x:Bb×xd) r=>(do
   if x.2== .free then do
    let c<-cellOf a x.1
    pure (vf ((x.1,c)::r))
   else pure (vf r):Yl (ForInStep (List (Bb×Ca)))))=pure (An a b e):=by
  intro b
  induction b with
  |nil=>intro e _;rfl|cons p r i=>
   intro e f;obtain⟨n,k⟩:=p;refine U (tn _ _ _ _) ?_;by_cases j:k=.free
   ·subst j
    obtain⟨c,g⟩:=f n _ sa rfl;show _=pure (An a r ((n,(a.cells.lookup n).getD 0)::e))
    simp only[(by unfold cellOf;exact U g rfl:cellOf a n=pure c),beq_self_eq_true,if_true,g,Option.getD_some];exact i _ λx k h=>f x k (oa _ h)
   ·have c:(k==Ic)=ua:=by simpa using j
    show _=pure (An a r (if(k==Ic)=Z then(n,(a.cells.lookup n).getD 0)::e else e))
    simp only[c,dk,if_false];exact i _ λx k h=>f x k (oa _ h)
 exact(Gc (λm=>m>>=λc=>pure c) (l d.names [] f)).trans rfl
theorem Cg(h:qb)(o:yD):(h.push o).objs.size=h.objs.size+1:=ie ..
theorem Nn:∀(names:List (Bb×xd))(h:qb)(a:Ca),h.objs.size<=a->a<(ah h names).objs.size->((ah h names).get? a).isSome=Z:=by
 intro names
 induction names with
 |nil=>
  rintro h a h1 h2;exact zc h2 (Ud.mpr h1)
 |cons pq0 r ih=>
  obtain⟨n,k⟩:=pq0;rintro h a h1 h2;unfold ah at h2|-
  split
  ·rename_i hk
   rw[Dd hk]at h2;by_cases e:a=h.objs.size
   ·subst e
    refine U (Tp r _ _ _ (Oa h (o:={cls:=.type "cell",data:=.cell Y}) rfl)) ?_;rfl
   ·exact ih _ a (by refine U (Cg _ _) ?_;exact Nk h1 (cq e)) h2
  ·rename_i hk
   rw[fe hk]at h2;exact ih h a h1 h2
theorem vU:∀(a:List (Bb×xd))(h:qb),h.objs.size<=(ah h a).objs.size:=by
 intro a
 induction a with
 |nil=>
  rintro _;exact Gb _
 |cons b r c=>
  obtain⟨n,k⟩:=b;rintro h;unfold ah
  split
  ·exact Za (by refine U (Cg _ _) ?_;exact se _) (c _)
  ·exact c h
theorem qx:∀(b:List (Bb×xd))(h:qb)(a:Ca)(o:yD),(ah h b).get? a=J o->h.get? a=Y->o.data=.cell Y:=by
 intro b
 induction b with
 |nil=>
  rintro h a o e q;rw[show(ah h []).get? a=h.get? a from rfl,q]at e;exact ja e
 |cons f r g=>
  obtain⟨n,k⟩:=f;rintro h a o e q;unfold ah at e
  split at e
  ·by_cases z:a=h.objs.size
   ·subst z
    have:=Tp r _ _ _ (Oa h (o:={cls:=.type "cell",data:=.cell Y}) rfl);rw[this]at e;obtain rfl:=ba e;rfl
   ·refine g _ a o e ?_
    induction z2:(h.push {cls:=.type "cell",data:=.cell Y}).get? a with
    |none=>rfl|some i=>
     have d:=qc z2;rw[Cg]at d;have c:a<h.objs.size:=Nk (Nat.lt_succ_iff.mp d) z;unfold qbd at z2 q;rw[show(h.push {cls:=.type "cell",data:=.cell Y}).objs=h.objs.push {cls:=.type "cell",data:=.cell Y}from rfl,Array.getElem?_push_lt c]at z2;rw[Array.getElem?_eq_getElem c]at q;rw[z2]at q;exact ja q.symm
  ·exact g h a o e q
theorem Sk:∀(names:List (Bb×xd))(n:Nat)(acc:List (Bb×Ca)),∃new:List (Bb×Ca),Lj n names acc=new++acc/\(∀p∈new,n<=p.2/\(p.1,Gd)∈names)/\(∀x,(x,Gd)∈names->∃c,(x,c)∈new)/\new.Pairwise (λx y=>x.2≠y.2)/\
 (∀p∈new,p.2<n+(names.filter λx=>x.2== .cell).length):=by
 intro names
 induction names with
 |nil=>
  rintro n acc;exact⟨[],rfl,λp h=>(by cases h),λx h=>(by cases h),.nil,λp h=>(by cases h)⟩
 |cons pq0 r ih=>
  obtain⟨m,k⟩:=pq0;rintro n acc;unfold Lj
  split
  ·rename_i hk
   have hk':k=.cell:=by simpa using hk
   refine aa λnq=>?_;subst hk';obtain⟨new,e,h1,h2,h3,h4⟩:=ih (n+1) ((m,n)::acc);refine nq ?_;clear nq;refine⟨new++[(m,n)],by refine U e ?_;simp,λp hp=>?_,λx hx=>?_,?_,λp hp=>?_⟩
   ·refine aa λnq=>?_
    rcases Xb.mp hp with q|q
    ·refine nq ?_
     clear nq;have:=h1 p q;exact⟨Sf this.1,oa _ this.2⟩
    ·refine nq ?_
     clear nq;rw[Ra]at q;subst q;exact⟨Gb _,sa⟩
   ·rcases fb.mp hx with q|q
    ·cases q;exact⟨n,Ld _ sa⟩
    ·obtain⟨c,hc⟩:=h2 x q;exact⟨c,Je _ hc⟩
   ·refine Oo.mpr ⟨h3,by simp,λp hp q hq=>?_⟩
    rw[Ra]at hq;subst hq;have:=(h1 p hp).1;exact qi this
   ·have hl:((m,Gd)::r).filter (λx=>x.2== .cell)=(m,Gd)::r.filter (λx=>x.2== .cell):=by rfl
    refine U hl (U mc ?_);rcases Xb.mp hp with q|q
    ·exact rb (h4 p q) (Fd (by refine U (lL _ _ _) ?_;rfl))
    ·rw[Ra]at q;subst q;exact Yd (jh _)
  ·rename_i hk
   refine aa λnq=>?_;obtain⟨new,e,h1,h2,h3,h4⟩:=ih n acc;refine nq ?_;clear nq;refine⟨new,e,λp hp=>⟨(h1 p hp).1,oa _ (h1 p hp).2⟩,λx hx=>?_,h3,λp hp=>?_⟩
   ·rcases fb.mp hx with q|q
    ·obtain⟨rfl,rfl⟩:=Ta q;simp at hk
    ·exact h2 x q
   ·have hl:((m,k)::r).filter (λx=>x.2== .cell)=r.filter (λx=>x.2== .cell):=by simp at hk;simp[hk]
    exact U hl (h4 p hp)
theorem cw:∀(names:List (Bb×xd))(h:qb),(ah h names).objs.size=h.objs.size+(names.filter λx=>x.2== .cell).length:=by
 intro names
 induction names with
 |nil=>
  rintro _;exact rfl
 |cons pq0 r ih=>
  obtain⟨n,k⟩:=pq0;rintro h;unfold ah
  split
  ·rename_i hk
   refine U (ih _) (U (Cg _ _) ?_);have hk':k=.cell:=by simpa using hk
   subst hk';exact U (by rfl:((n,Gd)::r).filter (λx=>x.2== .cell)=(n,Gd)::r.filter λx=>x.2== .cell) (U mc (U (qr _ _ _) (U (pi 1 _) rfl)))
  ·rename_i hk
   exact U (ih _) (U (by simp at hk;simp[hk]:((n,k)::r).filter (λx=>x.2== .cell)=r.filter λx=>x.2== .cell) rfl)
theorem NB{e:Zi}{w:zb}{A:Yb}{E:wa->Ea->Prop}{b:Scope}{c:Ca}{g:List (Bb×Ca)}{d:Bb}{a:zj}{s:Ea}{Q:zj->Ea->Prop}
 (j:Q {scope:=b,locals:=s.heap.objs.size,globals:=c,cells:=Lj (s.heap.objs.size+1) b.names g,qual:=d,func:=Y,code:=a.code,frame:=a.frame,builtins:=a.builtins}
  {s with heap:=ah (s.heap.push {cls:=.type "dict",data:=.dict #[]}) b.names}):
 Qa (bb e w) A (qcD b c g [] d Y .none (J a)) Q E s:=by
 unfold qcD;refine ga (qfC (ga (wpAny_layCells _ (λh i f=>rfl) _ _ _ _ (U (show({s with heap:=s.heap.push {cls:=.type (if(J a).isSome=Z then "dict"else "frame"),data:=.dict #[]}}:Ea).heap.objs.size=s.heap.objs.size+1 from ie ..) (ga ?_)))));exact U Fx (ta (ta j))
end
section
variable {x:Bb} {P:Type}
variable [B:Av]
variable {w:zb} {S:qb} {A:Yb} {X:zj} {N:Ca->Prop} {lo:Nat} {Q I:Me} {K:Ue} {G:Bh} {n:Nat} {g:Gl} {O:List Ca} {F D:St} {s:Ea} {v:V} {L:Ca} {T W:Sc} {scope:Scope}
structure Hu(T:Sc)(scope:Scope)(W:Sc):Prop where
 kind:scope.kind=.function
 loc:∀x∈scope.names,x.2=.local->scope.names.lookup x.1=J .local
 free:∀x k,(x,k)∈scope.names->k=Ic->T.kinds.lookup x=J .cell\/T.kinds.lookup x=J .free
 wJ:∀x k,(x,k)∈scope.names->scope.names.lookup x=J k
 nd:(scope.names.map λx=>x.1).Nodup
 kinds:W.kinds=Ft scope.names T.kinds
 sl:W.sl=T.sl++Zg scope.names
theorem Wx(h:fM T scope=J W):Hu T scope W:=by
 refine ae h λq e=>?_;obtain rfl:=ba e;simp only[Ad,md,decide_eq_true_eq,beq_iff_eq]at q;refine aa λc=>?_;obtain⟨⟨⟨⟨⟨⟨⟨d,m⟩,o⟩,p⟩,f⟩,b⟩,r⟩,i⟩:=q;refine c ?_;refine⟨d,λx a j=>?_,λx k a l=>?_,λx k a=>b (x,k) a,i,rfl,rfl⟩
 ·have:=b x a;exact U this (U j rfl)
 ·subst l
  have:=f (x,Ic) a;simp only[beq_self_eq_true,Bool.not_true,OX,Bool.or_eq_true,beq_iff_eq]at this;exact this
theorem Sq{b a:List (Bb×xd)}:(Ft b a).lookup x=(b.lookup x).map λk=>if(k== .free&&a.lookup x==J .cell)then Gd else k:=by
 induction b with
 |nil=>rfl|cons p r d=>
  obtain⟨n,k⟩:=p;unfold Ft at d|-;refine U Vb ?_;by_cases e:(k==Ic&&a.lookup n==J Gd)=Z
  ·by_cases h:x=n
   ·refine aa λc=>?_
    subst h;refine c ?_;simp only[e,if_true,Mc,beq_self_eq_true,Vm]
   ·have S:(x==n)=ua:=by simpa using h
    simp only[e,if_true,Mc,S];exact d
  ·have c:(k==Ic&&a.lookup n==J Gd)=ua:=by simpa using e
   by_cases h:x=n
   ·subst h
    simp only[c,dk,if_false,Mc,beq_self_eq_true,Vm]
   ·have S:(x==n)=ua:=by simpa using h
    simp only[c,dk,if_false,Mc,S];exact d
theorem sx(a:X.scope.kind=.function)(b:X.scope.names=T.kinds):(DD scope X).names=Ft scope.names T.kinds:=by
 delta DD Ft
 simp only[a,beq_self_eq_true,Bool.and_true];refine fg λp u=>?_;unfold mn;exact U b rfl
theorem Pq{a:List (Bb×xd)}:x∈Zg a↔∃k,(x,k)∈a/\(k=.local\/k=.cell):=by
 unfold Zg;refine U (propext Rb) ?_
 constructor
 ·rintro⟨⟨y,k⟩,h,rfl⟩
  rw[Vc]at h;exact⟨k,h.1,by simpa using h.2⟩
 ·rintro⟨k,h,q⟩
  exact⟨(x,k),Vc.mpr ⟨h,by simpa using q⟩,rfl⟩
theorem WC{a:List Bb}:x∈a->∃i,xc a x=J i:=by
 induction a with
 |nil=>intro h;cases h|cons y r c=>
  intro h;show∃i,(match xc r x with|some i=>J (i+1)|none=>if y=x then J 0 else Y)=J i
  induction e:xc r x with
  |some i=>exact⟨i+1,rfl⟩|none=>
   rcases fb.mp h with q|q
   ·subst q;exact⟨0,by simp⟩
   ·obtain⟨i,b⟩:=c q;rw[e]at b;exact ja b
theorem Hp{a:List Bb}{i:Nat}(h:xc a x=J i):x∈a:=Ma (Tj h)
theorem DE{a b:List (Bb×P)}(h:∀p∈a,p.1≠x):(a++b).lookup x=b.lookup x:=by
 induction a with
 |nil=>rfl|cons p r c=>
  have:(x==p.1)=ua:=by simpa usingλq=>(h p sa) q.symm
  exact U Km (U Mc (U this (c λq d=>h q (oa _ d))))
theorem qh{l:List (Bb×P)}{c:P}(h:(x,c)∈l):∃a,l.lookup x=J a/\(x,a)∈l:=by
 induction l with
 |nil=>cases h|cons p r b=>
  by_cases q:x=p.1
  ·exact⟨p.2,by exact U Mc (U (show(x==p.1)=Z by simpa using q) rfl),by refine U q ?_;exact sa⟩
  ·rcases fb.mp h with e|e
   ·exact zc (by exact Ed e rfl) q
   ·obtain⟨a,d,f⟩:=b e
    exact⟨a,by refine U Mc (U (show(x==p.1)=ua by simpa using q) ?_);exact d,oa _ f⟩
noncomputable abbrev Xf(s:Ea)(scope:Scope):qb:=ah (s.heap.push {cls:=.type "dict",data:=.dict #[]}) scope.names
abbrev oo(s:Ea)(scope:Scope)(X:zj):zj:={scope:=DD scope X,locals:=s.heap.objs.size,globals:=X.globals,cells:=Lj (s.heap.objs.size+1) scope.names (An X scope.names []),qual:=X.qual,func:=Y,code:=X.code,frame:=X.frame,builtins:=X.builtins}
def ZD(s:Ea)(scope:Scope)(a:Ca):Prop:=s.heap.objs.size<=a/\a<(Xf s scope).objs.size
theorem Po(a:Ca)(o:yD)(e:s.heap.get? a=J o):(Xf s scope).get? a=J o:=Tp _ _ _ _ (Ba _ e)
theorem yk{h:qb}{a:Ca}(b:h.objs.size<=a):h.get? a=Y:=by
 induction e:h.get? a with
 |none=>rfl|some o=>exact zc (qc e) (Ud.mpr b)
theorem cB(C:Hu T scope W)(hk:X.scope.names=T.kinds)(r:R w S O F s.heap)(E:Lc w S X N T.sl lo Q O s.heap):
 Lc w S (oo s scope X) (ZD s scope) W.sl T.sl.length (Q++Ia (Zg scope.names).length Y) O (Xf s scope)/\(oo s scope X).scope.names=W.kinds/\rY scope X=pure (An X scope.names []):=by
 have hfree:∀x k,(x,k)∈scope.names->k=Ic->∃c v,X.cells.lookup x=J c/\s.heap.IsCell c v/\(X.kindOf x=J .cell\/X.kindOf x=J .free):=λx k hx hf=>by
  have hq:=C.free x k hx hf;have hq':X.kindOf x=J .cell\/X.kindOf x=J .free:=by unfold mn;refine U hk ?_;exact hq
  rcases hq with q|q
  ·obtain⟨c,v,h1,h2⟩:=E.has x .cell (by refine U hk ?_;exact mem_of_lookup q) (.inl rfl)
   exact⟨c,v,h1,h2,hq'⟩
  ·obtain⟨c,v,h1,h2⟩:=E.has x .free (by refine U hk ?_;exact mem_of_lookup q) (.inr rfl)
   exact⟨c,v,h1,h2,hq'⟩
 have hclos:=WD X scope λx k hx hf=>(hfree x k hx hf).elim λc z=>z.elim λu z=>⟨c,z.1⟩;have hnames:(DD scope X).names=W.kinds:=by exact U (sx E.kind hk) (U C.kinds rfl)
 refine⟨?_,hnames,hclos⟩;refine aa λnq=>?_;obtain⟨new,e1,n1,n2,n3,n4⟩:=Sk scope.names (s.heap.objs.size+1) (An X scope.names []);refine nq ?_;have hsz:(Xf s scope).objs.size=s.heap.objs.size+1+(scope.names.filter λx=>x.2== .cell).length:=by
  exact U (cw _ _) (U (Cg _ _) rfl)
 have hkeep:=Po (s:=s) (scope:=scope);have hCd:(Xf s scope).get? s.heap.objs.size=J {cls:=.type "dict",data:=.dict #[]}:=Tp _ _ _ _ (Oa _ rfl);have hcl:∀x c,(x,c)∈An X scope.names []->(x,Ic)∈scope.names/\X.cells.lookup x=J c:=λx c h=>by
  rcases YL X scope.names [] x c h with q|⟨q1,q2⟩
  ·cases q
  ·obtain⟨c',v,h1,_⟩:=hfree x _ q1 rfl
   exact⟨q1,by refine U h1 (U q2 (U h1 ?_));rfl⟩
 have hlook:∀x,(x,Ic)∈scope.names->∃c v,(Lj (s.heap.objs.size+1) scope.names (An X scope.names [])).lookup x=J c/\X.cells.lookup x=J c/\s.heap.IsCell c v/\(X.kindOf x=J .cell\/X.kindOf x=J .free):=λx hx=>by
  refine aa λnq=>?_;obtain⟨c,v,h1,h2,h3⟩:=hfree x _ hx rfl;obtain⟨c',q1,q2⟩:=qh (WL X scope.names [] x hx);refine nq ?_;have:=(hcl x c' q2).2;rw[h1]at this;obtain rfl:=ba this;refine⟨c,v,?_,h1,h2,h3⟩;rw[e1,DE λp hp q=>?_]
  ·exact q1
  ·have:=C.wJ _ _ (n1 p hp).2
   rw[q,C.wJ _ _ hx]at this;cases this
 have hown:∀x,(x,Gd)∈scope.names->∃c,(Lj (s.heap.objs.size+1) scope.names (An X scope.names [])).lookup x=J c/\s.heap.objs.size+1<=c/\c<(Xf s scope).objs.size/\(Xf s scope).IsCell c Y:=λx hx=>by
  refine aa λnq=>?_;obtain⟨c,hc⟩:=n2 x hx;obtain⟨c',q1,q2⟩:=qh (l:=new++An X scope.names []) (Je _ hc);refine nq ?_;have hc':(x,c')∈new:=by
   rcases Xb.mp q2 with q|q
   ·exact q
   ·have:=C.wJ _ _ (hcl x c' q).1
    rw[C.wJ _ _ hx]at this;cases this
  have hlt:c'<(Xf s scope).objs.size:=by refine U hsz ?_;exact n4 _ hc'
  refine⟨c',by refine U e1 ?_;exact q1,(n1 _ hc').1,hlt,?_⟩;obtain⟨o,ho⟩:=Na.mp (Nn scope.names (s.heap.push {cls:=.type "dict",data:=.dict #[]}) c' (by refine U (Cg _ _) ?_;exact(n1 _ hc').1) hlt);exact⟨o,ho,qx scope.names _ c' o ho (yk (by refine U (Cg _ _) ?_;exact(n1 _ hc').1))⟩
 have hkind:∀x k,(oo s scope X).kindOf x=J k->∃k0,(x,k0)∈scope.names/\(k=k0\/(k0=.free/\k=.cell)):=λx k hx=>by
  have:(DD scope X).names.lookup x=J k:=hx;rw[hnames,C.kinds,Sq]at this
  induction q:scope.names.lookup x with
  |none=>rw[q]at this;exact ja this|some k0=>
   rw[q]at this;simp only[Vm,Bj]at this;refine⟨k0,mem_of_lookup q,?_⟩
   split at this
   ·rename_i z;simp at z;exact .inr ⟨z.1,this.symm⟩
   ·exact .inl this.symm
 have hkind2:∀x k0,(x,k0)∈scope.names->k0=.local\/k0=.cell->(oo s scope X).kindOf x=J k0:=λx k0 hx hl=>by
  show(DD scope X).names.lookup x=J k0
  refine U hnames (U C.kinds (U Sq (U (C.wJ _ _ hx) ?_)));rcases hl with q|q<;>subst q<;>rfl
 have hmeown:∀x i v,xc W.sl x=J i->x∈Zg scope.names->(Q++Ia (Zg scope.names).length Y)[i]?≠J (J v):=λx i v hs hx q=>by
  rw[C.sl,Wk]at hs;obtain⟨j,hj⟩:=WC hx;rw[hj]at hs;simp only[Bj]at hs;subst hs;have hlen:=E.len;rw[La (by lia),Te]at q
  split at q<;>(first|exact ja q|cases q)
 have hmeout:∀x i v,xc W.sl x=J i->x∉Zg scope.names->(Q++Ia (Zg scope.names).length Y)[i]?=J (J v)->xc T.sl x=J i/\Q[i]?=J (J v):=λx i v hs hx q=>by
  rw[C.sl,Wk]at hs
  induction z:xc (Zg scope.names) x with
  |some j=>exact zc (Hp z) hx|none=>
   rw[z]at hs;have hs':xc T.sl x=J i:=hs;have:=Qy hs';rw[Xa (by refine U E.len ?_;exact this)]at q;exact⟨hs',q⟩
 refine⟨C.kind,E.globals,E.builtins,by refine U C.sl ?_;simp[E.len],⟨λu=>Y,⟨_,#[],0,hCd,rfl,λe he=>by simp at he,λx=>by rfl⟩,λx i v hs hl hm=>?_⟩,λx i v hs hl hm=>?_,⟨Hf r (Fb _),Rd r (Fb _),Gb _,by refine U hsz ?_;exact rb (pd _) (Nc _ _)⟩,λx k hx hl=>?_,?_,λx i hs hl=>?_,λa ha=>Rd r (yk ha.1),λa ha=>?_⟩
 ·refine aa λnq=>?_
  obtain⟨k0,h1,h2⟩:=hkind x _ hl;have:k0=.local:=by rcases h2 with q|⟨_,q⟩;exact q.symm;cases q
  subst this;exact nq (zc hm (hmeown x i v hs (Pq.mpr ⟨_,h1,.inl rfl⟩)))
 ·have hk0:∃k0,(x,k0)∈scope.names/\(k0=.cell\/k0=.free):=by
   rcases hl with hl|hl
   ·obtain⟨k0,h1,h2⟩:=hkind x _ hl
    rcases h2 with q|⟨q,_⟩
    ·exact⟨k0,h1,.inl q.symm⟩
    ·exact⟨k0,h1,.inr q⟩
   ·obtain⟨k0,h1,h2⟩:=hkind x _ hl
    rcases h2 with q|⟨_,q⟩
    ·exact⟨k0,h1,.inr q.symm⟩
    ·cases q
  refine aa λnq=>?_;obtain⟨k0,h1,h2⟩:=hk0;refine nq ?_;rcases h2 with q|q
  ·subst q;exact zc hm (hmeown x i v hs (Pq.mpr ⟨_,h1,.inr rfl⟩))
  ·refine aa λnq=>?_
   subst q;have hno:x∉Zg scope.names:=λz=>by
    obtain⟨k,z1,z2⟩:=Pq.mp z;have a:=C.wJ _ _ z1;rw[C.wJ _ _ h1]at a;obtain rfl:=ba a;rcases z2 with z2|z2<;>cases z2
   obtain⟨g1,g2⟩:=hmeout x i v hs hno hm;obtain⟨c,v0,c1,c2,c3,c4⟩:=hlook x h1;obtain⟨c',val,d1,d2,d3⟩:=E.cells x i v g1 c4 g2;refine nq ?_;rw[c2]at d1;obtain rfl:=ba d1;exact⟨c,val,c1,d2.keeps hkeep,d3.mono (Ja _) λa o e u=>hkeep a o e⟩
 ·have hx':(x,k)∈Ft scope.names T.kinds:=by refine Ed C.kinds (Ed hnames ?_);exact hx
  unfold Ft at hx';refine aa λnq=>?_;obtain⟨⟨y,k0⟩,h1,h2⟩:=Rb.mp hx';have hy:y=x/\(k0=.cell\/k0=.free):=by
   simp only at h2
   split at h2
   ·rename_i z;simp at z;obtain⟨rfl,rfl⟩:=Ta h2;exact⟨rfl,.inr z.1⟩
   ·obtain⟨rfl,rfl⟩:=Ta h2;exact⟨rfl,hl⟩
  obtain⟨rfl,hy⟩:=hy;refine nq ?_;rcases hy with q|q
  ·refine aa λnq=>?_
   subst q;obtain⟨c,c1,_,_,c2⟩:=hown y h1;exact nq (⟨c,Y,c1,c2⟩)
  ·refine aa λnq=>?_
   subst q;obtain⟨c,v0,c1,c2,c3,_⟩:=hlook y h1;exact nq (⟨c,v0,c1,c3.keeps hkeep⟩)
 ·show(Lj _ _ _).Pairwise _
  refine U e1 (U (propext Oo) (⟨n3,VD X E.apart scope.names [] C.nd (λx k hx hf=>(hfree x k hx hf).elim λc z=>z.elim λu z=>⟨c,z.1⟩) (λp hp=>by cases hp) .nil,λp hp q hq e=>?_⟩));refine aa λnq=>?_;obtain⟨y,c⟩:=q;obtain⟨h1,h2⟩:=hcl y c hq;obtain⟨c',v,h3,h4,_⟩:=hfree y _ h1 rfl;refine nq ?_;rw[h2]at h3;obtain rfl:=ba h3;have:=h4.lt;have h5:=(n1 p hp).1;rw[e]at h5;exact zc this (Ud.mpr (Sf h5))
 ·have hx:x∈Zg scope.names:=by
   rw[C.sl,Wk]at hs
   induction z:xc (Zg scope.names) x with
   |some j=>exact Hp z|none=>rw[z]at hs;exact zc (Qy (show xc T.sl x=J i from hs)) (Ud.mpr hl)
  refine aa λnq=>?_;obtain⟨k,z1,z2⟩:=Pq.mp hx;refine nq ?_;rcases z2 with z2|z2
  ·subst z2;exact .inl (hkind2 x _ z1 (.inl rfl))
  ·refine aa λnq=>?_
   subst z2;obtain⟨c,c1,c2,c3,c4⟩:=hown x z1;exact nq (.inr ⟨hkind2 x _ z1 (.inr rfl),c,Y,c1,c4,Rd r (yk (Sf c2)),Sf c2,c3⟩)
 ·by_cases q:a=s.heap.objs.size
  ·subst q;refine U hCd ?_;rfl
  ·exact Nn scope.names _ a (by refine U (Cg _ _) ?_;exact Nk ha.1 (cq q)) ha.2
end
section
variable {h G:qb}
variable [C:Av]
variable {w:zb} {S:qb} {A:Yb} {X:zj} {T:Ca->Prop} {O:List Bb} {lo:Nat} {W P:Me} {K:Ue} {E:Bh} {n:Nat} {g:Gl} {Q:List Ca} {I N:St} {s:Ea} {v:V} {L D:Ca}
class inductive ni(w:zb)(S:qb)(A:Yb)(X:zj)(T:Ca->Prop)(O:List Bb)(lo:Nat)(W:Me):List Expr->List (St->Option (Bool×St))->Prop
 |nil:ni w S A X T O lo W [] []|cons {e es F Fs}:Yg w S A X T O lo W (isTrue e X (yc e X)) F->ni w S A X T O lo W es Fs->ni w S A X T O lo W (e::es) (F::Fs)
noncomputable def GH(z:List (St->Option (Bool×St)))(y:St):Option (Bool×St):=match z,y with|[],I=>J (Z,I)|F::a,I=>(F I).bind λp=>ln p.1 (GH a p.2) (J (ua,p.2))
theorem xQ{a:Bool->Ea->Prop}{b:wa->Ea->Prop}{d:X3}{s:Ea}:{e:List Expr}->a ua s->Qa d A (forIn e ua λc r=>if r=Z then do let ok<-isTrue c X (yc c X);pure (vf ok)else pure (vf r)) a b s:=by
 intro e
 induction e with
 |nil=>
  rintro h;exact U Fx (ta h)
 |cons c e f=>
  rintro h;exact U (tn _ _ _ _) (ga (U (fe ia) (ta (f h))))
noncomputable def oA(X:zj)(a:List Expr):Yl Bool:=forIn a Z λc r=>if r=Z then do let ok<-isTrue c X (yc c X);pure (vf ok)else pure (vf r)
theorem yQ{i:List Expr}{j:List (St->Option (Bool×St))}(h:ni w S A X T O lo W i j):Yg w S A X T O lo W (oA X i) (GH j):=by
 induction h with
 |nil=>exactλQ I s r d=>Ga.ret (wpAny_tests_nil (PB.wU r))| @cons e i F j h y z=>
  intro Q I s r d;refine(h Q I s r d).bind (t:=λb=>forIn i b λc r=>if r=Z then do let ok<-isTrue c X (yc c X);pure (vf ok)else pure (vf r)) (λb m c o l k p x=>Ga.ifB (λq=>?_) λq=>?_) λf q=>?_
  ·exact U (show b=Z from(x:b=m).trans q) (z c l o p (d.kx r k))
  ·exact U (show b=ua from(x:b=m).trans q) (Ga.ret (xQ (PB.wU p)))
  ·unfold oA
   exact U (tn _ _ _ _) (ga (U (Dd rfl) (ga (Da q (λa o u=>ta u) λu u x=>x))))
inductive PM(w:zb)(S:qb)(X:zj)(T:Ca->Prop)(O:List Bb)(lo:Nat)(W:Me)(D:Ca)(acc:List wa)(Q:List Ca)(s:Ea)(N:St)(vs:List V)(s':Ea):Prop
 |mk (ρ':List Ca) (vals:List wa) (m':Nat):Ah s s'->Kp (λa=>T a\/a=D) Q s.heap s'.heap ρ'->R w S ρ' N s'.heap->Lc w S X T O lo W ρ' s'.heap->s'.heap.get? D=J (listOf (acc++vals).toArray m')->D∉ρ'->ue w ρ' s'.heap vs vals->PM w S X T O lo W D acc Q s N vs s'
theorem PM.after{b:List wa}{s1 i:Ea}{c:List Ca}{j:List V}(t:Ah s s1)(k:Kp T Q s.heap s1.heap c)(p:PM w S X T O lo W D b c s1 N j i):PM w S X T O lo W D b Q s N j i:=by
 obtain⟨f,e,l,m,o,r,a,d,n,x⟩:=p;exact⟨f,e,l,t.trans m,(k.weaken λu q=>.inl q).trans o,r,a,d,n,x⟩
structure TX(S:qb)(T:Ca->Prop)(D:Ca)(acc:List wa)(Q:List Ca)(h:qb):Prop where
 at_:∃m,h.get? D=J (listOf acc.toArray m)
 out:D∉Q
 own:¬T D
 wK:S.get? D=Y
def l5(w:zb)(S:qb)(A:Yb)(X:zj)(T:Ca->Prop)(O:List Bb)(lo:Nat)(W:Me)(D:Ca)(t:Yl Unit)(r:St->Option (List V×St)):Prop:=
 ∀Q I s a b N,R w S Q I s.heap->Lc w S X T O lo W Q s.heap->TX S T D a Q s.heap->a.length+b.length<=4096->r I=J (b,N)->Qa (bb pg w) A t (λu=>PM w S X T O lo W D a Q s N b) No s
theorem TX.kp{a:List wa}{b:List Ca}{c:Ca->Prop}(d:TX S T D a Q h)(k:Kp c Q h G b)(f:¬c D):TX S T D a b G:=by
 obtain⟨m,e⟩:=d.at_;exact⟨⟨m,k.keep _ _ e d.out f⟩,λq=>(by rcases k.fresh _ q with q|q;exact d.out q;rw[e]at q;exact ja q.symm),d.own,d.wK⟩
theorem Lc.kpD(f:Lc w S X T O lo W Q h)(hD:¬T D)(t:∀o,h.get? D=J o->¬Ih o/\(∀v,o.data≠ .cell v))(y:∀b o,b≠D->h.get? b=J o->G.get? b=J o):Lc w S X T O lo W Q G:=by
 refine aa λl=>?_;obtain⟨m,hm,hv⟩:=f.ns;refine l ?_;have u:∀b z,h.get? b=J z->Ih z->G.get? b=J z:=λb z e im=>y b z (λq=>(t z (q▸e)).1 im) e;have j:∀c v,h.IsCell c v->G.IsCell c v:=λc v B=>by obtain⟨o,e,d⟩:=B;exact⟨o,y c o (λq=>(t o (q▸e)).2 v d) e,d⟩
 exact⟨f.kind,f.globals,f.builtins,f.len,⟨m,(by
  refine aa λl=>?_;obtain⟨o,a,d,e,q⟩:=hm;refine l ?_;exact⟨o,a,d,y _ _ (λq=>hD (q▸f.loc.2.2)) e,q⟩),λx i v a b c=>(by
  refine aa λl=>?_;obtain⟨d,p,r⟩:=hv x i v a b c;refine l ?_;exact⟨d,p,r.mono (Ja _) u⟩)⟩,λx i v a b c=>(by
  refine aa λl=>?_;obtain⟨c,d,p,r,F⟩:=f.cells x i v a b c;refine l ?_;exact⟨c,d,p,j _ _ r,F.mono (Ja _) u⟩),f.loc,λx k a b=>(by
  refine aa λl=>?_;obtain⟨c,v,p,r⟩:=f.has x k a b;refine l ?_;exact⟨c,v,p,j _ _ r⟩),f.apart,λx i a b=>(f.own x i a b).imp_right λR=>by obtain⟨q,c,v,p,r,F⟩:=R;exact⟨q,c,v,p,j _ _ r,F⟩,f.eoh,λa e=>by
  obtain⟨o,ho⟩:=Na.mp (f.eol a e);refine U (y a o (λq=>hD (q▸e)) ho) ?_;rfl⟩
theorem KX.kp{c:List Ca}(b:Lc w S X T O lo W Q h)(k:KX X.locals Q h G c):Kp T Q h G c:=k.toKp.weaken λa q=>by subst q;exact b.loc.2.2
theorem WS{e:Expr}{F:St->Option (V×St)}(z:uc w S A X T O lo W (yc e X) F):
 l5 w S A X T O lo W D (do let _<-call (.builtin "list.append") [.ref D,<-yc e X];pure ()) (λI=>(F I).map λp=>([p.1],p.2)):=λQ I s B vs N r c d R e'=>qe e' λp e1 e2=>by
 obtain⟨rfl,rfl⟩:=Ta e2;refine ga (Da (z Q I s r c _ _ e1) (λa k p1=>?_) λu u x=>x);refine aa λu=>?_;obtain⟨f,t1,k1,r1,x1⟩:=p1;have j:=k1.kp c;have l:=d.kp j d.own;obtain⟨m,x⟩:=l.at_;refine u ?_;clear u;refine ga (append_at (s:=k) x (λG hs y=>ta ?_) (by refine U Hb (U zf ?_);exact Za (Za (Nc _ _) R) (by exact Ve _ _)));have t:∀b o,b≠D->k.heap.get? b=J o->G.get? b=J o:=λb o n e=>(hs.2 b n).trans e;have i:∀o,k.heap.get? D=J o->¬Ih o/\(∀v,o.data≠ .cell v):=λo e=>ba (x.symm.trans e)▸⟨Dt,λv q=>nomatch q⟩;have k2:Kp (λa=>T a\/a=D) f k.heap G f:=Kp.beside (wr:=λa=>a=D) (λa o n e=>t a o n e) λa q o e=>by subst q;exact⟨(i o e).1,.inr rfl,by refine U y ?_;rfl⟩
 exact⟨f,[a],m+1,t1.trans rfl,(j.weaken λa q=>.inl q).trans k2,r1.beside (wr:=λa=>a=D) (λa o n e=>t a o n e) λa q=>by subst q;exact⟨l.out,d.wK,λo e=>(i o e).1⟩,(c.kx r k1).kpD d.own i t,y.trans (by exact U (jL _ _) rfl),l.out,ue.one (k2.vr x1)⟩
theorem Lc.weaken(d:Lc w S X T O lo P Q h)(j:W.length=P.length)(f:∀(i:Nat)(v:V),W[i]?=J (J v)->P[i]?=J (J v)):Lc w S X T O lo W Q h:=by
 refine aa λk=>?_;obtain⟨m,e,l⟩:=d.ns;exact k (⟨d.kind,d.globals,d.builtins,j.trans d.len,⟨m,e,λx i v a b c=>l x i v a b (f i v c)⟩,λx i v a b c=>d.cells x i v a b (f i v c),d.loc,d.has,d.apart,d.own,d.eoh,d.eol⟩)
theorem TP{i:Nat}(h:free W i=Z):W.length=(W.set i (J v)).length/\∀(j:Nat)(x:V),W[j]?=J (J x)->(W.set i (J v))[j]?=J (J x):=
 ⟨(yb ..).symm,λj x q=>by
  have:i≠j:=λz=>by unfold free at h;rw[z,q]at h;exact zc h ia
  refine U (Xc this) ?_;exact q⟩
theorem dF:∀{is:List Nat}{b:List V}{W P:Me},Dk is b W=J P->W.length=P.length/\∀(j:Nat)(x:V),W[j]?=J (J x)->P[j]?=J (J x):=by
 intro is
 induction is with
 |nil=>intro b W P h;induction b using ma with|nil=>refine Ed (ba h) ?_;exact⟨rfl,λu u q=>q⟩|cons y z=>exact ja h
 |cons i is d=>
  intro b W P h
  induction b using ma with
  |nil=>exact ja h|cons v e=>
   have q:=Oi (x:=Dk is e (W.set i (J v))) h;have a:=TP (v:=v) q.1;have c:=d q.2;exact⟨a.1.trans c.1,λj x q=>c.2 j x (a.2 j x q)⟩
theorem FL{t:CT}(h:Kj t v W=J P):W.length=P.length/\∀(j:Nat)(x:V),W[j]?=J (J x)->P[j]?=J (J x):=by
 refine aa λa=>?_
 induction t with
 |x i=>
  refine a ?_;have q:=Oi (x:=J (W.set i (J v))) h;exact Ed (ba q.2) (TP q.1)
 |t is=>refine a ?_;exact ab h λc d b=>dF b
noncomputable def i7(a:Expr)(b:wa)(X:zj):Yl Unit:=do let _<-call (.builtin "list.append") [b,<-yc a X]
def innerT(e:Expr)(a:Nat)(d:Expr)(b:wa)(X:zj)(k:Yl Fin)(z:List gd):Yl Fin:=match z with
 |[]=>i7 d b X>>=λu=>k|c::y=>do
  let x<-yc c.iter X
  bk c.iter.pos
  if c.is_async !=0 then do
   let x<-foldedIterable c.iter x
   let it<-dj [x] (if c.is_async !=0 then asyncIter x else qw x)
   let _<-qcU (.compStart e (a+1) it b X) X
   k
  else do
   let x<-mx c.iter X x
   let it<-dj [x] (if c.is_async !=0 then asyncIter x else qw x)
   let _<-qcU (.compStart e (a+1) it b X) X
   k
theorem bB{f:Expr}{b rest:List gd}{c a:Expr}{e:List Expr}{d:Scope}{i:Om}{k j:wa}:
 qbr (.ListComp f (b++⟨c,a,e,0⟩::rest) d i) b.length k j X=(do
  bk a.pos
  match<-Dp k with
  |none=>pure (.done .next)|some v=>
   Sp c k v
   assign c X v
   let ok<-oA X e
   if ok=Z then innerT (.ListComp f (b++⟨c,a,e,0⟩::rest) d i) b.length f j X (again (.compLoop (.ListComp f (b++⟨c,a,e,0⟩::rest) d i) b.length k j X)) rest
   else again (.compLoop (.ListComp f (b++⟨c,a,e,0⟩::rest) d i) b.length k j X)):=by
 have l:(b++(⟨c,a,e,0⟩:gd)::rest)[b.length+1]?=rest.head?:=by
  refine U (La (by exact se _)) ?_
  induction rest using ma<;>simp
 unfold qbr;simp only[(by simp:(b++(⟨c,a,e,0⟩:gd)::rest)[b.length]?=J ⟨c,a,e,0⟩),l]
 induction rest using ma with
 |nil=>rfl|cons m o=>rfl
end
section
variable {h G:qb} {i:Nat} {F:It} {C:Expr}
variable [z:Av]
variable {w:zb} {P:qb} {A:Yb} {W:zj} {eo:Ca->Prop} {lo:Nat} {O u:Me} {K:Ue} {t:Bh} {n:Nat} {g:Gl} {X:List Ca} {N S:St} {s:Ea} {v:V} {L D I:Ca} {sc:Sc}
theorem AN(x:sj w X h I i F):∃o,h.get? I=J o/\(o.cls=.type "list_iterator"\/o.cls=.type "tuple_iterator"\/o.cls=.type "range_iterator"):=by
 induction F with
 |st j=>
  rcases x with⟨f,k,m,_,_,o,e,c,d⟩|⟨a,b,_,_,e⟩
  ·exact⟨o,e,.inr (.inl c)⟩
  ·exact⟨_,e,.inr (.inr rfl)⟩
 |dyn l=>
  obtain⟨a,_,o,e,c,d⟩:=x;exact⟨o,e,.inl c⟩
theorem sY{v:wa}(c:v=.type "list_iterator"\/v=.type "tuple_iterator"\/v=.type "range_iterator"):∃a,v=.type a/\(a="list_iterator"\/a="tuple_iterator"\/a="range_iterator"):=c.elim (λh=>⟨_,h,.inl rfl⟩) λc=>c.elim (λh=>⟨_,h,.inr (.inl rfl)⟩) λh=>⟨_,h,.inr (.inr rfl)⟩
theorem FB{B:X3}{E:wa->Ea->Prop}{val:wa}{Q:Unit->Ea->Prop}(x:sj w X s.heap I i F)(h:Q () s):Qa B A (Sp C (.ref I) val) Q E s:=by
 obtain⟨o,e,c⟩:=AN x;unfold Sp
 induction C using Expr.casesOn<;>first|exact ta h|skip
 all_goals
  induction val<;>first|exact ta h|skip
  refine ga (V2 e ?_);obtain⟨oc,od,dt,sl⟩:=o;refine af ?_ h;obtain⟨nm,hc,hn⟩:=sY c;cases hc
  induction dt<;>first|rfl|(rcases hn with rfl|rfl|rfl<;>rfl)
def GoodK(w:zb)(P:qb)(A:Yb)(W:zj)(eo:Ca->Prop)(d:List Bb)(lo:Nat)(O:Me)(D:Ca)(a:Yl Fin->Yl Fin)(r:St->Option (List V×St)):Prop:=
 ∀(k:Yl Fin) X N s b c S(Q:Fin->Ea->Prop)(E:wa->Ea->Prop),R w P X N s.heap->Lc w P W eo d lo O X s.heap->TX P eo D b X s.heap->b.length+c.length<=4096->r N=J (c,S)->
  (∀e,PM w P W eo d lo O D b X s S c e->Qa (bb pg w) A k Q E e)->Qa (bb pg w) A (a k) Q E s
theorem Oq(r:R w P X N h)(x:sj w X h I i F)(b:P.get? I=Y)(k:Ok I h G):R w P X N G:=by
 obtain⟨o,e,c,_⟩:=Dh x;exact r.beside (wr:=λa=>a=I) (λa o n e=>k a o n e) λa q=>by subst q;exact⟨x.notIn r,b,λf d=>ba (e.symm.trans d)▸c⟩
theorem Nq{a:List Bb}(E:Lc w P W eo a lo O X h)(x:sj w X h I i F)(hI:¬eo I)(k:Ok I h G):Lc w P W eo a lo O X G:=by
 obtain⟨o,e,b,f,d⟩:=Dh x;exact E.kpD hI (λj c=>by cases e.symm.trans c;exact⟨b,λv q=>by rw[d]at q;cases q⟩) k
structure Kl(eo:Ca->Prop)(X:List Ca)(h G:qb)(ρ':List Ca):Prop where
 pre:X<+:ρ'
 fresh:∀a∈ρ',a∈X\/h.get? a=Y
 keep:∀a o,h.get? a=J o->a∉X->¬eo a->G.get? a=J o
 imm:∀a o,h.get? a=J o->Ih o->G.get? a=J o
theorem Kl.before{eo:Ca->Prop}{X ρ1 ρ2:List Ca}{h1 h2:qb}(x:Kp eo X h h1 ρ1)(y:Kl eo ρ1 h1 h2 ρ2):Kl eo X h h2 ρ2 where
 pre:=x.pre.trans y.pre
 fresh a ha:=(y.fresh a ha).elim (x.fresh a) λq=>.inr (by
  induction e:h.get? a with
  |none=>rfl|some o=>have:=x.live a (by refine U e ?_;rfl);rw[q]at this;exact zc this ia)
 keep a o e n1 n2:=y.keep a o (x.keep a o e n1 n2) (λq=>(x.fresh a q).elim n1 λq=>by rw[q]at e;exact ja e) n2
 imm a o e i:=y.imm a o (x.imm a o e i) i
theorem RE(x:sj w X h I i F)(k:Ok I h G):∀b a,h.get? b=J a->Ih a->G.get? b=J a:=by
 obtain⟨o,e,c,_⟩:=Dh x;exact XB e c k
theorem Ks(x:sj w X h I i F)(k:Ok I h G):Kl (λa=>(eo a\/a=D)\/a=I) X h G X:=
 ⟨Ja _,λb h=>.inl h,λa o e b n=>k a o (λq=>n (.inr q)) e,RE x k⟩
theorem My{j:Nat}(x:sj w X h I i F)(k:Ok I h G)(c:sj w X G I j F):Kp (λa=>(eo a\/a=D)\/a=I) X h G X:=
 have b:=Ks (eo:=eo) (D:=D) x k
 ⟨b.pre,b.fresh,b.keep,b.imm,λa e=>by
  obtain⟨o,d⟩:=Na.mp e;by_cases q:a=I
  ·obtain⟨l,f,_⟩:=Dh c;refine U q (U f ?_);rfl
  ·refine U (k a o q d) ?_;rfl⟩
inductive XK [z:Av](w:zb)(P:qb)(W:zj)(eo:Ca->Prop)(lo:Nat)(O:Me)(D:Ca)(I:Ca)(sc:Sc)(X:List Ca)(s:Ea)(acc:List wa)(vs:List V)(S:St)(q:Dr)(s':Ea):Prop
 |mk (ρ':List Ca) (vals:List wa) (m':Nat):q=.ok .next->Ah s s'->Kl (λa=>(eo a\/a=D)\/a=I) X s.heap s'.heap ρ'->R w P ρ' S s'.heap->Lc w P W eo sc.sl lo O ρ' s'.heap->s'.heap.get? D=J (listOf (acc++vals).toArray m')->D∉ρ'->ue w ρ' s'.heap vs vals->XK w P W eo lo O D I sc X s acc vs S q s'
def BX(a:List (St->Option (Bool×St)))(b:St->Option (List V×St))(N:St):Option (List V×St):=(GH a N).bind λq=>ln q.1 (b q.2) (J ([],q.2))
def Px(a:CT)(O:Me)(c:Me->List (St->Option (Bool×St)))(d:Me->St->Option (List V×St))(v:V)(N:St):Option (List V×St):=(Kj a v O).bind λb=>BX (c b) (d b) N
theorem AV{B:List Bb}{l:List Expr}{Fs:List (St->Option (Bool×St))}{rr:St->Option (List V×St)}{T:Yl Fin->Yl Fin}(R:ni w P A W eo B lo O l Fs)(hK:GoodK w P A W eo B lo O D T rr):
 GoodK w P A W eo B lo O D (λk=>oA W l>>=λa=>if a=Z then T k else k) (BX Fs rr):=λk X N s x2 vs S Q E' r E d o e h=>ab e λp e1 y=>ga (Da (yQ R X N s r E _ _ e1) (λb s1 p1=>by
 obtain⟨x,t1,k1,r1,x1⟩:=p1;have E1:=E.kx r k1;have j:=k1.kp E;have d1:=d.kp j d.own
 induction b with
 |true=>
  rw[<-(x1:Z=p.1)]at y;exact hK k x p.2 s1 x2 vs S Q E' r1 E1 d1 o y λa q=>h a (q.after t1 j)
 |false=>
  rw[<-(x1:ua=p.1)]at y;obtain⟨rfl,rfl⟩:=Ta (ba y);obtain⟨m,hm⟩:=d1.at_;exact h s1 ⟨x,[],m,t1,j.weaken λa q=>.inl q,r1,E1,by refine U (Wb _) ?_;exact hm,d1.out,.nil⟩) λc c f=>f.elim)
theorem ZG{T:Expr}{pre rest:List gd}{B:Expr}{x3:List Expr}{l:Scope}{x8:Om}{b:CT}{Fs:Me->List (St->Option (Bool×St))}{rr:Me->St->Option (List V×St)}
 (AK:Dg n A)(ht:Xk sc C=J b)(hg:Wt lo b=Z)
 (x9:∀v y,Kj b v O=J y->ni w P A W eo sc.sl lo y x3 (Fs y)/\GoodK w P A W eo sc.sl lo y D (λk=>innerT (.ListComp T (pre++⟨C,B,x3,0⟩::rest) l x8) pre.length T (.ref D) W k rest) (rr y))
 (y1:I≠D)(x5:¬eo I)(y4:P.get? I=Y):
 ∀(k i:Nat)(X:List Ca)(N:St)(s:Ea)(j:List wa)(vs:List V)(S:St),R w P X N s.heap->Lc w P W eo sc.sl lo O X s.heap->TX P eo D j X s.heap->sj w X s.heap I i F->j.length+vs.length<=4096->
  Ro k F i (Px b O Fs rr) N=J (vs,S)->
  ch (bb pg w) A (.compLoop (.ListComp T (pre++⟨C,B,x3,0⟩::rest) l x8) pre.length (.ref I) (.ref D) W)
   (λq a=>XK w P W eo lo O D I sc X s j vs S q a) s:=by
 intro k
 induction k with
 |zero=>intro i X N s j vs S r E d x x6 e;exact ja e|succ k ih=>
  intro i X N s j vs S r E d x x6 e;refine ab e λo hi e=>Ug ?_;show Qa _ A ((qbr (.ListComp T (pre++⟨C,B,x3,0⟩::rest) l x8) pre.length (.ref I) (.ref D) W).onRaise λx=>do Qz x W;Up x) _ _ s
  refine FA (Cn λQ E0 hQ=>(U bB (ga (lc (ga (Da (gH AK r x hi) (λq s1 np=>?_) λc c f=>f.elim))))));obtain⟨m,hm⟩:=d.at_
  induction np with
  |done ho hq t1 k1=>
   rw[ho]at e;refine U hq ?_;obtain⟨rfl,rfl⟩:=Ta (ba e);exact ta (hQ _ _ ⟨X,[],m,rfl,t1,Ks x k1,Oq r x y4 k1,Nq E x x5 k1,by refine U (Wb _) ?_;exact k1 _ _ y1.symm hm,d.out,.nil⟩)
  |item v z9 ho hq t1 k1 xv x1=>
   rw[ho]at e;refine U hq (ab e λp e1 e2=>qe e2 λp2 hr e3=>ab e1 λy y2 hT=>?_);have r1:=Oq r x y4 k1;have z3:=My (eo:=eo) (D:=D) x k1 x1;have d1:TX P eo D j X s1.heap:=⟨⟨m,k1 _ _ y1.symm hm⟩,d.out,d.own,d.wK⟩;have hB:=x9 v y y2;refine ga (FB (s:=s1) x1 (ga (Da (kM AK ht hg r1 (Nq E x x5 k1) xv (nS y2)) (λc s2 p2=>?_) λc c f=>f.elim)));obtain⟨t2,k2,r2,E2⟩:=p2;have x2:sj w X s2.heap I (i+1) F:=x1.keep (Ja _) k2.imm λo e=>k2.keep I o e (x1.notIn r1) x5;have z6:p2.2=S:=Gc WF e3;have y5:vs=p.1++p2.1:=(Gc oj e3).symm;rw[y5,Ha]at x6;refine AV hB.1 hB.2 _ X N s2 j p.1 p.2 _ _ r2 E2 (d1.kp k2 d.own) (by lia) hT λs4 p4=>?_;obtain⟨y6,x7,m4,t4,f,r4,E4,z7,y7,y8⟩:=p4;have y9:=FL y2;have x4:sj w y6 s4.heap I (i+1) F:=x2.keep f.pre f.imm λo e=>f.keep I o e (x2.notIn r2) λq=>q.elim x5 y1;refine ta (hQ _ _ ⟨rfl,Oc (ih (i+1) y6 p.2 s4 (j++x7) p2.1 p2.2 r4 (E4.weaken y9.1 y9.2) ⟨⟨m4,z7⟩,y7,d.own,d.wK⟩ x4 (by refine U Ha (Ed y8.length ?_);lia) hr) λq s5 p5=>?_⟩);obtain⟨z8,y3,m5,g0,t5,kl,g5,g6,g7,g8,g9⟩:=p5;exact⟨z8,x7++y3,m5,g0,((t1.trans t2).trans t4).trans t5,Kl.before (z3.trans ((k2.weaken λa q=>.inl (.inl q)).trans (f.weaken λa q=>.inl q))) kl,z6▸g5,g6,by refine Ed (Dc _ _ _) ?_;exact g7,g8,y5▸(y8.mono kl.pre kl.imm).append g9⟩
end
section
variable {i:Nat} {B:It} {P Q W e:Expr} {S:List Expr} {T:Scope} {O:Om} {t:CT}
variable [q:Av]
variable {w:zb} {E:qb} {A:Yb} {X:zj} {N:Ca->Prop} {lo:Nat} {z u:Me} {K:Ue} {r:Bh} {n:Nat} {g:Gl} {G:List Ca} {C F:St} {s:Ea} {v:V} {L D I:Ca} {y:Sc}
theorem zJ{c:wa->Ea->Prop}{d:wa->Ea->Prop}(x:sj w G s.heap I i B)(h:d (.ref I) s):Qa (bb pg w) A (qw (.ref I)) d c s:=by
 refine aa λf=>?_
 induction B with
 |st j=>
  refine f (aa λf=>?_);rcases x with⟨t,k,m,_,_,e⟩|⟨a,b,_,_,e⟩
  ·exact f (wpAny_pyIter_tupleiter e h)
  ·exact f (wpAny_pyIter_rangeiter e h)
 |dyn l=>
  refine f (aa λf=>?_);obtain⟨a,_,e⟩:=x;exact f (wpAny_pyIter_listiter e h)
theorem oq{pre rest:List gd}{a:wa}{b:Dr->Ea->Prop}(x:sj w G s.heap I i B)
 (h:ch (bb pg w) A (.compLoop (.ListComp P (pre++⟨Q,W,S,0⟩::rest) T O) pre.length (.ref I) a X) b s):
 ch (bb pg w) A (.compStart (.ListComp P (pre++⟨Q,W,S,0⟩::rest) T O) pre.length (.ref I) a X) b s:=by
 refine Ug ?_;show Qa _ A ((compStart (.ListComp P (pre++⟨Q,W,S,0⟩::rest) T O) pre.length (.ref I) a X).onRaise λx=>do Qz x X;bk theWindowsPlace) _ _ s
 refine wpAny_notedAt ?_;unfold compStart;have c:(clausesOf (.ListComp P (pre++⟨Q,W,S,0⟩::rest) T O))[pre.length]?=J ⟨Q,W,S,0⟩:=by
  show(pre++(⟨Q,W,S,0⟩:gd)::rest)[pre.length]?=_
  simp
 simp only[c];refine ga (Hh (wpAny_ite ?_))
 split
 ·first
   |exact ga (ta (ta (yR rfl h)))|exact ta (yR rfl h)
 ·exact ga (Xj (ga (lc (ga (zJ x (ta (yR rfl h)))))))
theorem qJ{d:Nat}{m:List Bb}{a:St->Option (V×St)}(o:uc w E A X N m lo z (yc P X) a):
 GoodK w E A X N m lo z D (λk=>innerT e d P (.ref D) X k []) (λC=>(a C).map λp=>([p.1],p.2)):=λk G C s l x F b E' c f R hl e' hq=>
 ga (Da (WS o G C s l x F c f R hl e') (λh j p=>hq j p) λh h j=>j.elim)
theorem Pz(h:∀a b c,e≠ .Set a b c)(X:zj)(x:wa):mx e X x=pure x:=by
 induction e using Expr.casesOn<;>first|rfl|exact zc rfl (h _ _ _)
theorem IJ(h:A.handled=Y):A.mark Y=A:=by obtain⟨b,d,fr,c,a⟩:=A;subst h;rfl
theorem Kl.off{h p l:qb}{j:List Ca}(k2:∀b o,h.get? b=J o->p.get? b=J o)(hI:h.get? I=Y)(c:R w E G C h)(k:Kl (λa=>(N a\/a=D)\/a=I) G p l j)(r3:R w E j F l)(m:∀a,N a\/a=D->(l.get? a).isSome=Z):Kp (λa=>N a\/a=D) G h l j:=
 have b:∀a o,h.get? a=J o->a∉G->¬(N a\/a=D)->l.get? a=J o:=λa o e n1 n2=>k.keep a o (k2 a o e) n1 λd=>d.elim n2 ((λa o e d=>by rw[d,hI]at e;exact ja e:∀a o,h.get? a=J o->a≠I) a o e)
 ⟨k.pre,λa ha=>(k.fresh a ha).imp_right λd=>(by
  induction f:h.get? a with
  |none=>rfl|some o=>rw[k2 a o f]at d;exact ja d.symm),b,λa o e f=>k.imm a o (k2 a o e) f,λa e=>by
  obtain⟨o,ho⟩:=Na.mp e;by_cases f:a∈G
  ·obtain⟨x,hx,_⟩:=r3.live (Kh k.pre f)
   refine U hx ?_;rfl
  ·by_cases x:N a\/a=D
   ·exact m a x
   ·refine U (b a o ho f x) ?_;rfl⟩
theorem RV{o rest:List gd}{Fs:Me->List (St->Option (Bool×St))}{rr:Me->St->Option (List V×St)}{k:Yl Fin}{b:Fin->Ea->Prop}{E':wa->Ea->Prop}{p:List wa}{vs:List V}{x:wa}
 (AK:Dg n A)(ht:Xk y Q=J t)(hg:Wt lo t=Z)
 (x1:∀v a,Kj t v z=J a->ni w E A X N y.sl lo a S (Fs a)/\GoodK w E A X N y.sl lo a D (λk=>innerT (.ListComp P (o++⟨Q,W,S,0⟩::rest) T O) o.length P (.ref D) X k rest) (rr a))
 (c:R w E G C s.heap)(f:Lc w E X N y.sl lo z G s.heap)(d:TX E N D p G s.heap)(x3:p.length+vs.length<=4096)(xv:VR w G s.heap v x)(x4:fj v C=J B)(e:Ro 5000 B 0 (Px t z Fs rr) C=J (vs,F))
 (hq:∀a,PM w E X N y.sl lo z D p G s F vs a->Qa (bb pg w) A k b E' a):
 Qa (bb pg w) A (qw x) (λB s2=>Qa (bb pg w) A (do let _<-qcU (.compStart (.ListComp P (o++⟨Q,W,S,0⟩::rest) T O) o.length B (.ref D) X) X;k) b E' s2) E' s:=
 Da (Iz c xv x4) (λh s2 p2=>by
  obtain⟨x5,t2,k2,x2⟩:=p2;refine U x5 ?_;have j:s.heap.get? s.heap.objs.size=Y:=Fb _;refine aa λnq=>?_;obtain⟨m,hm⟩:=d.at_;refine nq ?_;have x6:¬N s.heap.objs.size:=λh=>by have:=f.eol _ h;rw[j]at this;exact zc this ia
  refine ga (wpAny_runOwn (U (IJ AK.hh) (oq x2 (Oc (ZG AK ht hg x1 (λh=>by rw[<-h,j]at hm;exact ja hm:s.heap.objs.size≠D) x6 (Rd c j) 5000 0 G C s2 p vs F (c.wI k2) (f.wI c k2) ⟨⟨m,k2 _ _ hm⟩,d.out,d.own,d.wK⟩ x2 x3 e) λh s3 p3=>?_))));obtain⟨x7,l,m3,rfl,t3,kl,g5,g6,g7,g8,g9⟩:=p3;exact hq _ ⟨x7,l,m3,t2.trans t3,kl.off k2 j c g5 (λa h=>h.elim (g6.eol a) λh=>by refine U h (U g7 ?_);rfl),g5,g6,g7,g8,g9⟩) λj j l=>l.elim
theorem uE{o rest:List gd}{R:gd}{Fi:St->Option (V×St)}{Fs:Me->List (St->Option (Bool×St))}{rr:Me->St->Option (List V×St)}
 (AK:Dg n A)(x2:∀a b c,W≠ .Set a b c)(ht:Xk y Q=J t)(hg:Wt lo t=Z)(hF:uc w E A X N y.sl lo z (yc W X) Fi)
 (c:∀v b,Kj t v z=J b->ni w E A X N y.sl lo b S (Fs b)/\GoodK w E A X N y.sl lo b D (λk=>innerT (.ListComp P ((o++[R])++⟨Q,W,S,0⟩::rest) T O) (o++[R]).length P (.ref D) X k rest) (rr b)):
 GoodK w E A X N y.sl lo z D (λk=>innerT (.ListComp P (o++R::⟨Q,W,S,0⟩::rest) T O) o.length P (.ref D) X k (⟨Q,W,S,0⟩::rest))
  (λC=>(Fi C).bind λp=>(fj p.1 p.2).bind λB=>Ro 5000 B 0 (Px t z Fs rr) p.2):=λk G C s x4 vs F f E' h j d b e hq=>ab e λp e1 e2=>ab e2 λB e3 e4=>ga (Da (hF G C s h j _ _ e1) (λa s1 p1=>by
 refine aa λnq=>?_;obtain⟨x5,t1,k1,r1,x1⟩:=p1;refine nq ?_;have x3:=k1.kp j;refine ga (lc ?_);show Qa _ _ (do
  let x<-mx W X a
  let B<-dj [x] (qw x)
  let _<-qcU (.compStart (.ListComp P (o++R::⟨Q,W,S,0⟩::rest) T O) (o.length+1) B (.ref D) X) X
  k) _ _ _
 refine U (Pz x2 _ _) (U (show o++R::⟨Q,W,S,0⟩::rest=(o++[R])++⟨Q,W,S,0⟩::rest by rw[Dc];rfl) (U (show o.length+1=(o++[R]).length by rw[Ha];rfl) ?_));exact ga (ta (ga (Kb (RV AK ht hg c r1 (j.kx h k1) (d.kp x3 d.own) b x1 e3 e4 λm l=>hq m (l.after t1 x3)))))) λl l m=>m.elim)
end
section
variable {B N W:Expr} {Q:List Expr} {X:Scope} {z:Om} {t:CT}
variable [o:Av]
variable {w:zb} {S:qb} {A:Yb} {T:zj} {u:Ca->Prop} {lo:Nat} {y r:Me} {K:Ue} {p:Bh} {n:Nat} {g:Gl} {E:List Ca} {x F:St} {s:Ea} {v:V} {L D I:Ca} {G sc':Sc}
inductive eW(w:zb)(S:qb)(D I C:Ca)(E:List Ca)(s:Ea)(vs:List V)(F:St)(q:Dr)(s':Ea):Prop
 |mk (ρ':List Ca) (vals:List wa) (m:Nat) (mC:Bb->Option wa):q=.ok .next->Ah s s'->Kl (λa=>a=D\/a=I) E s.heap s'.heap ρ'->R w S ρ' F s'.heap->s'.heap.Ns C mC->C∉ρ'->S.get? C=Y->s'.heap.get? D=J (listOf vals.toArray m)->D∉ρ'->ue w ρ' s'.heap vs vals->eW w S D I C E s vs F q s'
theorem gM{rest:List gd}{Fs:Me->List (St->Option (Bool×St))}{rr:Me->St->Option (List V×St)}{it:It}{O:List V}
 (AK:Dg n A)(C:Hu G X sc')(hk:T.scope.names=G.kinds)(ht:Xk sc' N=J t)(hg:Wt G.sl.length t=Z)
 (j:∀a c D,a.scope.names=sc'.kinds->∀v b,Kj t v (y++Ia (Zg X.names).length Y)=J b->
  ni w S A a c sc'.sl G.sl.length b Q (Fs b)/\GoodK w S A a c sc'.sl G.sl.length b D (λk=>innerT (.ListComp B (⟨N,W,Q,0⟩::rest) X z) 0 B (.ref D) a k rest) (rr b))
 (b:R w S E x s.heap)(c:Lc w S T u G.sl lo y E s.heap)(d:sj w E s.heap I 0 it)(hD:s.heap.get? D=J (listOf ([]:List wa).toArray 0))(x1:D∉E)(x2:S.get? D=Y)(x3:S.get? I=Y)(x5:I≠D)(x6:O.length<4096)
 (e:Ro 5000 it 0 (Px t (y++Ia (Zg X.names).length Y) Fs rr) x=J (O,F)):
 ch (bb pg w) A (.compStart (.ListComp B (⟨N,W,Q,0⟩::rest) X z) 0 (.ref I) (.ref D) (oo s X T)) (eW w S D I s.heap.objs.size E s O F) {s with heap:=Xf s X}:=by
 refine aa λnq=>?_;obtain⟨E4,i,_⟩:=cB (s:=s) C hk b c;refine nq ?_;have k:=Po (s:=s) (scope:=X);have l:∀a f,s.heap.get? a=J f->¬ZD s X a:=λa f e q=>Ud.mpr q.1 (qc e);have hI:∃f,s.heap.get? I=J f:=by obtain⟨f,e,_⟩:=Dh d;exact⟨f,e⟩
 have x4:sj w E (Xf s X) I 0 it:=d.keep (Ja _) (λa f e h=>k _ _ e) λf e=>k _ _ e;refine oq (pre:=[]) (s:={s with heap:=Xf s X}) x4 (Oc (ZG (pre:=[]) (sc:=sc') (s:={s with heap:=Xf s X}) AK ht hg (j (oo s X T) (ZD s X) D i) x5 (hI.elim λf e=>l I f e) x3 5000 0 E x [] O F (b.wI k) E4 ⟨⟨0,k _ _ hD⟩,x1,l D _ hD,x2⟩ x4 (by refine U HR (U (kh _) ?_);exact vd x6) e) λq s5 p5=>?_);refine aa λnq=>?_;obtain⟨x7,m,m5,hq,t5,P,g5,g6,g7,g8,g9⟩:=p5;obtain⟨mC,hC,_⟩:=g6.ns;refine nq ?_;exact⟨x7,m,m5,mC,hq,Ah.trans (s':={s with heap:=Xf s X}) rfl t5,⟨P.pre,λa ha=>(P.fresh a ha).imp_right λq=>(by
  induction h:s.heap.get? a with
  |none=>rfl|some f=>exact nomatch (k a f h).symm.trans q),λa f e n1 h=>P.keep a f (k a f e) n1 λq=>q.elim (λq=>q.elim (l a f e) λq=>h (.inl q)) λq=>h (.inr q),λa f e im=>P.imm a f (k a f e) im⟩,g5,hC,g6.loc.1,g6.loc.2.1,g7,g8,g9⟩
theorem HS{h m j:qb}{f:List Ca}(k:∀a b,h.get? a=J b->m.get? a=J b)(O:h.get? D=Y)(hI:h.get? I=Y)(P:L∉E)(i:Kl (λa=>a=D\/a=I) E m j f)(r5:R w S f F j):KX L E h j f:=
 have d:∀a b,h.get? a=J b->a∉E->j.get? a=J b:=λa b e l=>i.keep a b (k a b e) l ((λa b e q=>q.elim (λq=>by rw[q,O]at e;exact ja e) λq=>by rw[q,hI]at e;exact ja e:∀a b,h.get? a=J b->¬(a=D\/a=I)) a b e)
 ⟨⟨i.pre,λa ha=>(i.fresh a ha).imp_right λq=>(by
  induction c:h.get? a with
  |none=>rfl|some b=>exact nomatch (k a b c).symm.trans q),λa b e l c=>d a b e l,λa b e C=>i.imm a b (k a b e) C,λa e=>by
  obtain⟨b,ho⟩:=Na.mp e;by_cases C:a∈E
  ·obtain⟨c,hx,_⟩:=r5.live (Kh i.pre C)
   refine U hx ?_;rfl
  ·refine U (d a b ho C) ?_;rfl⟩,λm0 c=>by obtain⟨b,es,ep,e1,e2⟩:=c;exact⟨b,es,ep,d _ _ e1 P,e2⟩⟩
def kG(k:Nat)(t:CT)(y:Me)(b:St->Option (V×St))(c:Me->List (St->Option (Bool×St)))(d:Me->St->Option (List V×St))(x:St):Option (V×St):=(b x).bind λa=>(fj a.1 a.2).bind λe=>(Ro 5000 e 0 (Px t (y++Ia k Y) c d) a.2).bind λq=>gj q.1 q.2
theorem Xx{rest:List gd}{Fi:St->Option (V×St)}{Fs:Me->List (St->Option (Bool×St))}{rr:Me->St->Option (List V×St)}{use:Option (wa->Yl Unit)}{d:wa->Ea->Prop}
 (AK:Dg n A)(C:Hu G X sc')(hk:T.scope.names=G.kinds)(x5:∀b a c,W≠ .Set b a c)(ht:Xk sc' N=J t)(hg:Wt G.sl.length t=Z)(hF:uc w S A T u G.sl lo y (yc W T) Fi)
 (x3:∀a e D,a.scope.names=sc'.kinds->∀v c,Kj t v (y++Ia (Zg X.names).length Y)=J c->
  ni w S A a e sc'.sl G.sl.length c Q (Fs c)/\GoodK w S A a e sc'.sl G.sl.length c D (λk=>innerT (.ListComp B (⟨N,W,Q,0⟩::rest) X z) 0 B (.ref D) a k rest) (rr c))
 (f:R w S E x s.heap)(h:Lc w S T u G.sl lo y E s.heap)
 (e:kG (Zg X.names).length t y Fi Fs rr x=J (v,F))
 (x6:∀a s5 D c m,Ah s s5->KX T.locals E s.heap s5.heap a->R w S a F s5.heap->VR w a s5.heap v (.ref D)->c∉a->s.heap.get? c=Y->S.get? c=Y->s5.heap.Ns c m->compPost (bb pg w) A No use d (.ref D) c (.ok .next) s5):
 Qa (bb pg w) A (qdM (.ListComp B (⟨N,W,Q,0⟩::rest) X z) X T (qeT (⟨N,W,Q,0⟩::rest) z) (P4 []) ua (yc W T) use) d No s:=
 ab e λi e1 e=>ab e λit y2 e=>ab e λq y3 e=>Ao (P:=λj j=>_) e λx7=>by
 refine wpAny_comprehension_free (g:=⟨N,W,Q,0⟩) (gs:=rest) rfl (λl=>Pz x5 T l) (cB (s:=s) C hk f h).2.2 C.kind C.loc (Da (hF E x s f h _ _ e1) (λb s1 p1=>?_) λj j l=>l);obtain⟨z3,t1,k1,r1,x1⟩:=p1;have E1:=h.kx f k1;refine Da (Iz r1 x1 y2) (λq2 c p2=>?_) λj j l=>l;obtain⟨y4,t2,k2,x2⟩:=p2;refine U y4 (qew (NB ?_));have k3:∀b a,c.heap.get? b=J a->(c.heap.push (listOf ([]:List wa).toArray 0)).get? b=J a:=λb a e=>Ba _ e;have x4:∀b a,s1.heap.get? b=J a->(c.heap.push (listOf ([]:List wa).toArray 0)).get? b=J a:=λb a e=>k3 b a (k2 b a e);have x8:s1.heap.get? s1.heap.objs.size=Y:=Fb _;have m:c.heap.get? c.heap.objs.size=Y:=Fb _;have k:∀b,c.heap.get? b=Y->s1.heap.get? b=Y:=λb q=>by
  induction l:s1.heap.get? b with
  |none=>rfl|some a=>exact nomatch (k2 b a l).symm.trans q
 have x9:∀b,s1.heap.get? b=Y->s.heap.get? b=Y:=λb q=>by
  induction l:s.heap.get? b with
  |none=>rfl|some a=>have:=k1.live _ (by refine U l ?_;rfl);rw[q]at this;exact zc this ia
 have y5:s1.heap.objs.size≠c.heap.objs.size:=by obtain⟨a,ho,_⟩:=Dh x2;exact ic (qc ho)
 refine Oc (gM (s:={c with heap:=c.heap.push (listOf ([]:List wa).toArray 0)}) AK C hk ht hg x3 (r1.wI x4) (E1.wI r1 x4) (x2.keep (Ja _) (λb a e j=>k3 b a e) λa e=>k3 _ a e) (Oa _ rfl) (Hf r1 (k _ m)) (Rd r1 (k _ m)) (Rd r1 x8) y5 x7 y3) λq5 s5 p5=>?_;obtain⟨y6,y1,m5,mC,y7,t5,kl,g5,gC,y8,y9,g7,g8,g9⟩:=p5;refine U y7 ?_;have ev:=Ao (P:=λv τ=>V.ref q.2.length=v/\q.2++[O.list q.1]=τ) e λj=>⟨rfl,rfl⟩;exact x6 (y6++[c.heap.objs.size]) s5 _ _ mC ((t1.trans t2).trans t5.past) ((k1.trans (HS x4 (k _ m) x8 E1.loc.1 kl g5)).add (x9 _ (k _ m))) (ev.2▸g5.add g8 (Rd r1 (k _ m)) ⟨y1,m5,g7,vd x7,g9.mono (Hc _ _) λb a e j=>e⟩) (ev.1▸.ref (Ir g5)) (λq=>(Xb.mp q).elim y8 λq=>(by refine U (Cg _ _) ?_;exact Lu _:(c.heap.push (listOf ([]:List wa).toArray 0)).objs.size≠c.heap.objs.size) (Ra.mp q)) (x9 _ (k _ (yk (by refine U (Cg _ _) ?_;exact se _):c.heap.get? (c.heap.push (listOf ([]:List wa).toArray 0)).objs.size=Y))) y9 gC
theorem eJ{rest:List gd}{P:St->Option (V×St)}{Fs:Me->List (St->Option (Bool×St))}{rr:Me->St->Option (List V×St)}
 (AK:Dg n A)(C:Hu G X sc')(hk:T.scope.names=G.kinds)(j:∀a b c,W≠ .Set a b c)(ht:Xk sc' N=J t)(hg:Wt G.sl.length t=Z)(hF:uc w S A T u G.sl lo y (yc W T) P)
 (i:∀c e D,c.scope.names=sc'.kinds->∀v d,Kj t v (y++Ia (Zg X.names).length Y)=J d->
  ni w S A c e sc'.sl G.sl.length d Q (Fs d)/\GoodK w S A c e sc'.sl G.sl.length d D (λk=>innerT (.ListComp B (⟨N,W,Q,0⟩::rest) X z) 0 B (.ref D) c k rest) (rr d)):
 uc w S A T u G.sl lo y (yc (.ListComp B (⟨N,W,Q,0⟩::rest) X z) T) (kG (Zg X.names).length t y P Fs rr):=λE x s d f v F e=>by
 refine U (arm_eval_ListComp _ _ _ _ _) (Xx (use:=Y) AK C hk j ht hg hF i d f e λc s5 D R m t5 k5 r5 x5 c1 c2 c3 k=>⟨m,k,λh' l=>?_⟩);have O:∀b h,b≠R->s5.heap.get? b=J h->h'.get? b=J h:=λb h n e=>(l.2 b n).trans e;exact⟨c,t5.trans rfl,k5.but c2 O,r5.beside (wr:=λa=>a=R) (λa h n e=>O a h n e) (λa q=>by subst q;exact⟨c1,c3,λh e=>Bg k e⟩),x5.mono (Ja _) λa h e im=>O a h (λq=>Bg k (q▸e) im) e⟩
end
section
variable [P:Av]
variable {w:zb} {hb:qb} {A:Yb} {env:zj} {eo:Ca->Prop} {Q:List Bb} {lo:Nat} {me:Me} {K:Ue} {tab:Bh} {n N:Nat} {g:Gl} {cf:Nat->List V->St->Option (V×St)} {W:Sc}
theorem et.congr{d f:Type}{a:List Ca->qb->d->f->Prop}{t:Yl f}{r i:St->Option (d×St)}(h:et a w hb A env eo Q lo me t r)(e:∀b,i b=r b):et a w hb A env eo Q lo me t i:=λj b s R E v c q=>h j b s R E v c ((e b).symm.trans q)
theorem GoodK.congr{D:Ca}{t:Yl Fin->Yl Fin}{r i:St->Option (List V×St)}(h:GoodK w hb A env eo Q lo me D t r)(e:∀b,i b=r b):GoodK w hb A env eo Q lo me D t i:=λk j b s c m f a o R E d l q p=>h k j b s c m f a o R E d l ((e b).symm.trans q) p
theorem uc.out{t:Yl wa}{r:St->Option (V×St)}{y x:X}(h:J y=J x)(g:uc w hb A env eo Q lo me t r)(e:∀a,evX tab cf y me a=r a):uc w hb A env eo Q lo me t (λa=>evX tab cf x me a):=ba h▸et.congr g e
theorem Yg.out{t:Yl Bool}{r:St->Option (Bool×St)}{y x:B}(h:J y=J x)(g:Yg w hb A env eo Q lo me t r)(e:∀a,Yt tab cf y me a=r a):Yg w hb A env eo Q lo me t (λa=>Yt tab cf x me a):=ba h▸et.congr g e
structure Cx(w:zb)(hb:qb)(K:Ue)(tab:Bh)(g:Gl)(cf:Nat->List V->St->Option (V×St))(n:Nat):Prop where
 B:Jk hb K tab
 CO:Zp hb K tab
 GO:Zy hb K g
 SO:Ij w hb
 CF:Gi w hb cf n
structure Hi(w:zb)(hb:qb)(A:Yb)(tab:Bh)(g:Gl)(cf:Nat->List V->St->Option (V×St))(N:Nat):Prop where
 E:∀W e x env eo lo me,env.scope.names=W.kinds->Eh g N W e=J x->uc w hb A env eo W.sl lo me (yc e env) (λσ=>evX tab cf x me σ)
 Es:∀W es xs env eo lo me pos,env.scope.names=W.kinds->yx g N W es=J xs->Vi w hb A env eo W.sl lo me (kj (og pos (starEach es env))) (λσ=>Mi tab cf xs me σ)/\(∀e∈es,∀x p,e≠jd x p)
 T:∀W e b env eo lo me,env.scope.names=W.kinds->xV g N W e=J b->Yg w hb A env eo W.sl lo me (isTrue e env (yc e env)) (λσ=>Yt tab cf b me σ)
 Ts:∀W es bs env eo lo me,env.scope.names=W.kinds->zQ g N W es=J bs->ni w hb A env eo W.sl lo me es (bs.map λb σ=>Yt tab cf b me σ)
 Gs:∀W gs xs env eo lo me D elt x pre g0 scope pos,env.scope.names=W.kinds->yV g N lo W gs=J xs->(∀me,uc w hb A env eo W.sl lo me (yc elt env) λσ=>evX tab cf x me σ)->
  GoodK w hb A env eo W.sl lo me D (λk=>innerT (.ListComp elt (pre++g0::gs) scope pos) pre.length elt (.ref D) env k gs) λσ=>evRest tab cf xs (λme σ=>evX tab cf x me σ) me σ
theorem Kt{e:Expr}{x:X}(h:Eh g N W e=J x):∀y p,e≠jd y p:=by
 rintro y p rfl
 induction N using Sa<;>exact ja h
theorem Hm{e:Expr}{x:X}(h:Eh g N W e=J x):∀a b c,e≠Expr.Set a b c:=by
 rintro a b c rfl
 induction N using Sa<;>exact ja h
theorem AC:∀(c:List B)(me:Me)(a:St),GH (c.map λb a=>Yt tab cf b me a) a=oy tab cf c me a:=by
 intro c
 induction c with
 |nil=>
  rintro me a;exact rfl
 |cons b c d=>
  rintro me a;exact Gc (λx=>(Yt tab cf b me a).bind x) (funext λp=>Gc (λz=>ln p.1 z (J (ua,p.2))) (d me p.2))
theorem dv(t:CT)(me:Me)(d:List B)(e:Me->St->Option (List V×St)):Px t me (λa=>d.map λb c=>Yt tab cf b a c) e=λv c=>(Kj t v me).bind λa=>(oy tab cf d a c).bind λq=>ln q.1 (e a q.2) (J ([],q.2)):=
 funext λv=>funext λc=>Gc (λx=>(Kj t v me).bind x) (funext λa=>Gc (λz=>z.bind λq=>ln q.1 (e a q.2) (J ([],q.2))) (AC d a c))
theorem n8{b:Bool}(h:(!b)=Z):b=ua:=by induction b<;>first|rfl|exact zc h ia
theorem Co{x:Bb}(h:Am x=Z):(x==("__debug__":Bb))=ua/\(x==("__classdict__":Bb))=ua:=by
 have z:=Aa.mp h;exact⟨n8 z.1,n8 z.2⟩
theorem QQ{x:Bb}{p:Om}{i:Nat}(c:env.scope.names=W.kinds)(h:Vs W x=J i):uc w hb A env eo W.sl lo me (yc (.Name x p) env) (λb=>evX tab cf (.x i) me b):=by
 refine ab h λk d h=>ab h λu q h=>?_;have q:=Aa.mp (yf q);obtain⟨e,f⟩:=Co q.2;have a:env.kindOf x=J k:=by unfold mn;refine U c ?_;exact d
 refine et.congr (P2 h ?_ e f) λb=>rfl
 induction k<;>first|exact zc q.1 ia|exact .inl a|exact .inr (.inl a)|exact .inr (.inr a)
theorem sF:Hi w hb A tab g cf 0 where
 E:=λW e x env eo lo me hk h=>by exact ja h
 Es:=λW e x env eo lo me pos hk h=>by exact ja h
 T:=λW e x env eo lo me hk h=>by exact ja h
 Ts:=λW e x env eo lo me hk h=>by exact ja h
 Gs:=λW gs xs env eo lo me D elt x pre g0 scope pos hk h=>by exact ja h
theorem fQ(S:Hi w hb A tab g cf N):∀W a c env eo lo me b,env.scope.names=W.kinds->yx g (N+1) W a=J c->Vi w hb A env eo W.sl lo me (kj (og b (starEach a env))) (λd=>Mi tab cf c me d)/\(∀e∈a,∀x p,e≠jd x p):=by
 intro W a c env eo lo me b j h
 induction a using ma with
 |nil=>obtain rfl:=ba h;exact⟨et.congr R2 λd=>rfl,λe f=>by cases f⟩|cons e a=>
  refine qd h λx k i l h=>?_;obtain rfl:=ba h;obtain⟨m,o⟩:=S.Es W a k env eo lo me b j l;refine⟨et.congr (QV (Kt i) (S.E W e x env eo lo me j i) m) λd=>rfl,λp f=>?_⟩;rcases fb.mp f with q|q
  ·subst q;exact Kt i
  ·exact o p q
theorem iQ(S:Hi w hb A tab g cf N):∀W a c env eo lo me,env.scope.names=W.kinds->zQ g (N+1) W a=J c->ni w hb A env eo W.sl lo me a (c.map λb d=>Yt tab cf b me d):=by
 intro W a c env eo lo me b h
 induction a using ma with
 |nil=>obtain rfl:=ba h;exact .nil|cons e a=>
  refine qd h λx d f i h=>?_;obtain rfl:=ba h;exact .cons (S.T W e x env eo lo me b f) (S.Ts W a d env eo lo me b i)
theorem gQ(y:Dg n A)(S:Hi w hb A tab g cf N):∀W i l env eo lo me D e x f m a j,env.scope.names=W.kinds->yV g (N+1) lo W i=J l->(∀me,uc w hb A env eo W.sl lo me (yc e env) λc=>evX tab cf x me c)->
 GoodK w hb A env eo W.sl lo me D (λk=>innerT (.ListComp e (f++m::i) a j) f.length e (.ref D) env k i) (λc=>evRest tab cf l (λme c=>evX tab cf x me c) me c):=by
 intro W i l env eo lo me D e x f m a j o h q
 induction i using ma with
 |nil=>obtain rfl:=ba h;exact GoodK.congr (qJ (q me)) λc=>rfl|cons z i=>
  refine ae h λB h=>?_;obtain⟨C,k,p,E⟩:=z;cases eq_of_beq B;refine Wu h λF t s r u G I L h=>(ae h λO h=>?_);obtain rfl:=ba h;refine GoodK.congr (uE (Fs:=λd=>s.map λb c=>Yt tab cf b d c) (rr:=λd c=>evRest tab cf r (λme c=>evX tab cf x me c) d c) y (Hm u) G O (S.E W k F env eo lo me o u) λv d b=>?_) λc=>?_
  ·exact⟨S.Ts W p s env eo lo d o I,S.Gs W i r env eo lo d D e x (f++[m]) _ a j o L q⟩
  ·refine U (dv _ _ _ _) ?_;rfl
end
section
variable {x y:X} {I:Type}
variable [F:Av]
variable {w:zb} {L:qb} {A:Yb} {W:zj} {P:Ca->Prop} {E:List Bb} {lo:Nat} {T:Me} {K:Ue} {R:Bh} {n N:Nat} {g:Gl} {O:Nat->List V->St->Option (V×St)} {Q:Sc}
def IL(p:V×St):Option (Bool×St):=(gp p.1).map λb=>(b,p.2)
theorem Qx{c:Option Bool}{a:St}:(c.map λr=>(V.bool r,a)).bind IL=c.map λr=>(r,a):=by induction c<;>rfl
theorem uY{b:yr}(a:St):Yt R O (.wK (.cmp b x y)) T a=(evX R O x T a).bind λp=>(evX R O y T p.2).bind λq=>(lq b p.1 q.1 q.2).map λr=>(r,q.2):=by
 show((evX R O x T a).bind _).bind IL=_
 exact U (Va _ _ _) (Gc _ (funext λp=>(U (Va _ _ _) (Gc _ (funext λq=>Qx)))))
theorem DS{a b:yr}{z:X}(c:St):Yt R O (.wK (.cmp2 a b x y z)) T c=(evX R O x T c).bind λp=>(evX R O y T p.2).bind λq=>(lq a p.1 q.1 q.2).bind λr=>ln r ((evX R O z T q.2).bind λu=>(lq b q.1 u.1 u.2).map λr=>(r,u.2)) (J (ua,q.2)):=by
 show((evX R O x T c).bind _).bind IL=_
 refine U (Va _ _ _) (Gc _ (funext λp=>(U (Va _ _ _) (Gc _ (funext λq=>?_)))));refine U (Va _ _ _) (Gc _ (funext λr=>?_))
 induction r with
 |false=>rfl|true=>
  exact U (Va _ _ _) (Gc _ (funext λu=>Qx))
theorem ZQ{k:List V×St->Option I}(a:St):(Mi R O [x] T a).bind k=(evX R O x T a).bind λp=>k ([p.1],p.2):=Va ..
theorem oM(a:St):evX R O (.dict [x] [y]) T a=(evX R O x T a).bind λp=>(evX R O y T p.2).bind λq=>oG p.1 q.1 q.2:=(ZQ a).trans (Gc _ (funext λp=>ZQ p.2))
theorem pM{a b:Bb}(c:St):evX R O (.dict [.str a,.str b] [x,y]) T c=(evX R O x T c).bind λp=>(evX R O y T p.2).bind λq=>pG (.str a) (.str b) p.1 q.1 q.2:=by
 show((evX R O x T c).bind λp=>((evX R O y T p.2).bind λq=>J ([q.1],q.2)).map λq=>(p.1::q.1,q.2)).bind _=_
 refine U (Va _ _ _) (Gc _ (funext λp=>?_))
 induction evX R O y T p.2<;>rfl
theorem iV(j:Cx w L K R g O n)(s:Dg (n+1) A)(S:Hi w L A R g O N):∀Q e b W P lo T,W.scope.names=Q.kinds->xV g (N+1) Q e=J b->Yg w L A W P Q.sl lo T (isTrue e W (yc e W)) (λd=>Yt R O b T d):=by
 intro Q e b W P lo T c h;have k:∀e:Expr,isTrue e W (yc e W)=(do let v<-yc e W;bk e.pos;dj [v] (pA v))->nt (Eh g N Q e) (λx=>J (B.wK x))=J b->Yg w L A W P Q.sl lo T (isTrue e W (yc e W)) (λd=>Yt R O b T d):=by
  intro e a h;exact De h λx q h=>(Yg.out h (MI a (S.E Q e x W P lo T c q)) λd=>rfl)
 induction e using Expr.casesOn with
 |UnaryOp o x p=>
  induction o<;>try (exact ja h)
  exact De h λx q h=>(Yg.out h (oO (S.T Q _ x W P lo T c q)) λd=>rfl)
 |BoolOp o l p=>
  rcases l with _|⟨a,_|⟨b,_|_⟩⟩<;>try (exact ja h)
  refine qd h λx y f i h=>?_
  induction o
  ·exact Yg.out h (uL (S.T Q _ _ W P lo T c f) (S.T Q _ _ W P lo T c i)) λd=>rfl
  ·exact Yg.out h (qU (S.T Q _ _ W P lo T c f) (S.T Q _ _ W P lo T c i)) λd=>rfl
 |Compare l d q p=>
  rcases d with _|⟨o,_|⟨t,_|_⟩⟩<;>try (exact ja h)
  ·rcases q with _|⟨r,_|_⟩<;>try (exact ja h)
   refine Dj h λa h=>(qd h λx y f i h=>?_);refine Yg.out h (dM j.B.mods s a (S.E Q _ _ W P lo T c f) (S.E Q _ _ W P lo T c i)) uY
  ·rcases q with _|⟨m,_|⟨r,_|_⟩⟩<;>try (exact ja h)
   refine Dj h λa h=>(Ji h λx y z f i u h=>?_);refine Yg.out h (cJ j.B.mods s a (S.E Q _ _ W P lo T c f) (S.E Q _ _ W P lo T c i) (S.E Q _ _ W P lo T c u)) DS
 |_=>first|exact ja h|exact k _ rfl h
theorem nO{i:Expr}(h:ym i=ua)(o j:wa):qV i ua o j=CD [o,j] (F4 o j):=by
 induction i using Expr.casesOn<;>first|rfl|exact zc h.symm ia
noncomputable def iZ(x:X):Bool:=match x with|.x u=>Z|_=>ua
theorem fO{x:Bb}{p:Om}{f:wa}(h:Eh g N Q (.Name x p)=J (.k f)):Q.kinds.lookup x=J .globalImplicit/\Am x=Z/\g.glob x=J f:=by
 refine aa λa=>?_
 induction N using Sa with
 |zero=>refine a ?_;exact ja h|succ N=>
  refine a ?_;replace h:(if Q.kinds.lookup x==J .globalImplicit then(if Am x then nt (g.glob x) λf=>J (.k f)else Y)else nt (Vs Q x) λi=>J (.x i))=J (X.k f):=h;by_cases b:(Q.kinds.lookup x==J .globalImplicit)=Z
  ·rw[Dd b]at h
   refine ae h λc h=>(De h λd q h=>(aa λa=>?_));cases h;exact a (⟨eq_of_beq b,c,q⟩)
  ·rw[fe b]at h
   exact De h λd q h=>(zc (ba (Gc (Op iZ) h)).symm ia)
theorem qbs{v:wa}:∀(T:Me)(a:St),evX R O (.k v) T a=J (.k v,a):=λT a=>rfl
theorem ZM{d:Type}(c:I->d->Prop)(a:I)(b:d)(h:∀G:I->d->Prop,(∀a b,c a b->G a b)->G a b):c a b:=h c λu u h=>h
theorem hV(B:Cx w L K R g O n)(AK:Dg (n+1) A)(S:Hi w L A R g O N):∀Q e x W P lo T,W.scope.names=Q.kinds->Eh g (N+1) Q e=J x->uc w L A W P Q.sl lo T (yc e W) (λm=>evX R O x T m):=by
 intro Q e x W P lo T s h;refine ZM (λe x=>uc w L A W P Q.sl lo T (yc e W) λm=>evX R O x T m) e x λG C=>?_;have kindOf:∀y k,Q.kinds.lookup y=J k->W.kindOf y=J k:=λy k q=>by unfold mn;refine U s ?_;exact q
 induction e using Expr.casesOn with
 |BinOp a u b p=>
  exact qd h λx y q1 q2 h=>(C _ _ (uc.out h (EL AK (S.E Q _ _ W P lo T s q1) (S.E Q _ _ W P lo T s q2)) λm=>rfl))
 |UnaryOp u a p=>
  induction u<;>try (exact ja h)
  exact De h λx q h=>(C _ _ (uc.out h (iO (S.E Q _ x W P lo T s q)) λm=>rfl))
 |IfExp c a b p=>
  exact Ji h λx y z q1 q2 l h=>(C _ _ (uc.out h (xN (S.T Q _ _ W P lo T s q1) (S.E Q _ _ W P lo T s q2) (S.E Q _ _ W P lo T s l)) λm=>rfl))
 |Dict ks f p=>
  rcases ks with _|⟨k,_|⟨i,_|_⟩⟩<;>rcases f with _|⟨v,_|⟨j,_|_⟩⟩<;>try (exact ja h)
  ·exact C _ _ (uc.out h bE λm=>rfl)
  ·refine De h λk d h=>?_
   subst d;refine ae h λhn h=>?_;obtain⟨y,p,rfl⟩:=Vr hn;refine qd h λx y q1 q2 h=>?_;refine C _ _ (uc.out h (cE (S.E Q _ _ W P lo T s q1) (S.E Q _ _ W P lo T s q2)) oM)
  ·refine qd h λa b q1 q2 h=>(aa λnq=>?_)
   obtain⟨d1,p1,rfl⟩:=iI q1;obtain⟨o,p2,rfl⟩:=iI q2;refine nq (qd h λy z l r h=>?_);by_cases d:a=b
   ·rw[Dd d]at h;exact ja h
   ·rw[fe d]at h
    refine C _ _ (uc.out h (dE d (S.E Q _ _ W P lo T s l) (S.E Q _ _ W P lo T s r)) pM)
 |ListComp x3 o z p=>
  induction o using ma with
  |nil=>exact ja h|cons g1 rest=>
   refine ae h λhz h=>?_;obtain⟨x4,x2,x5,x6⟩:=g1;cases eq_of_beq hz;refine qd h λit sc' q1 q2 h=>(Wu h λt fs gs y l r q5 q6 h=>(ae h λhg h=>?_));obtain rfl:=ba h;refine C _ _ (et.congr (eJ (sc':=sc') (Fs:=λd=>fs.map λb m=>Yt R O b d m) (rr:=λd m=>evRest R O gs (λT m=>evX R O y T m) d m) AK (Wx q2) s (Hm q1) l hg (S.E Q _ it W P lo T s q1) λf i D j v d x7=>⟨S.Ts sc' _ fs f i _ d j r,?_⟩) λm=>?_)
   ·exact S.Gs sc' _ gs f i _ d D _ y [] _ _ _ j q5 λx1=>S.E sc' _ y f i _ x1 j q6
   ·unfold kG;refine U (dv _ _ _ _) ?_;rfl
 |Compare l d i p=>
  rcases d with _|⟨u,_|_⟩<;>try (exact ja h)
  rcases i with _|⟨r,_|_⟩<;>try (exact ja h)
  exact Dj h λf h=>(qd h λx y q1 q2 h=>(C _ _ (uc.out h (cM B.B.mods AK f (S.E Q _ _ W P lo T s q1) (S.E Q _ _ W P lo T s q2)) λm=>rfl)))
 |Call f l ks r=>
  induction ks using ma with
  |cons u j=>exact ja h|nil=>
   induction f using Expr.casesOn with
   |Attribute o a u=>
    refine ae h λd h=>(qd h λx j q1 q2 h=>(aa λnq=>?_));obtain rfl:=ba h;simp only[Ad,decide_eq_true_eq]at d;obtain⟨t,i⟩:=S.Es Q _ _ W P lo T (default:Om) s q2;exact nq (C _ _ (et.congr (KJ B.B B.CO B.CF AK d.1.1 d.1.2 d.2 i (S.E Q _ _ W P lo T s q1) (S.Es Q _ _ W P lo T _ s q2).1) λm=>rfl))
   |Name y p=>
    refine qd h λx j q1 q2 h=>?_
    induction x using X.casesOn<;>try (exact ja h)
    obtain rfl:=ba h;obtain⟨d,c2,c3⟩:=fO q1;obtain⟨t,i⟩:=S.Es Q _ _ W P lo T (default:Om) s q2;exact C _ _ (et.congr (ZI B.B B.CO B.GO B.SO B.CF AK c3 (kindOf _ _ d) (Co c2).1 i (S.Es Q _ _ W P lo T _ s q2).1) λm=>rfl)
   |_=>exact ja h
 |Constant c d p=>
  induction c<;>try (exact ja h)
  ·exact C _ _ (uc.out h iU λm=>rfl)
  ·exact C _ _ (uc.out h rS λm=>rfl)
  ·exact C _ _ (uc.out h bZ λm=>rfl)
  ·exact C _ _ (uc.out h C1 λm=>rfl)
 |Attribute o a p=>
  exact ae h λc h=>(De h λy q h=>(C _ _ (uc.out h (AL B.B c (S.E Q _ y W P lo T s q)) λm=>rfl)))
 |Subscript o i p=>
  replace h:(if ym i then nt (vY i) λk=>if xp o then nt (Eh g N Q o) λx=>J (.cut x k)else Y else Jr (Eh g N Q o) (Eh g N Q i) λa b=>J (.sub a b))=J x:=h;by_cases c:ym i=Z
  ·rw[Dd c]at h
   refine De h λk q1 h=>?_;obtain⟨d1,p1,p2,rfl⟩:=KS q1;refine ae h λhn h=>?_;obtain⟨y,p,rfl⟩:=Vr hn;exact De h λy q h=>(C _ _ (uc.out h (lM B.B (S.E Q _ y W P lo T s q)) λm=>rfl))
  ·rw[fe c]at h
   exact qd h λx y q1 q2 h=>(C _ _ (uc.out h (mQ (λa b=>nO (by simpa using c) a b) (S.E Q _ _ W P lo T s q1) (S.E Q _ _ W P lo T s q2)) λm=>rfl))
 |Name y p=>
  replace h:(if Q.kinds.lookup y==J .globalImplicit then(if Am y then nt (g.glob y) λf=>J (.k f)else Y)else nt (Vs Q y) λi=>J (.x i))=J x:=h;by_cases a:(Q.kinds.lookup y==J .globalImplicit)=Z
  ·rw[Dd a]at h
   exact ae h λb h=>(De h λc q h=>(C _ _ (uc.out h (As B.GO q (kindOf _ _ (eq_of_beq a)) (Co b).1) λm=>rfl)))
  ·rw[fe a]at h
   refine De h λi q h=>?_;obtain rfl:=ba h;exact C _ _ (QQ s q)
 |List a p=>
  exact De h λy q h=>(C _ _ (uc.out h (BJ (S.Es Q _ y W P lo T _ s q).1) λm=>rfl))
 |Tuple a d p=>
  exact De h λy q h=>(C _ _ (uc.out h (DQ (S.Es Q _ y W P lo T _ s q).1) λm=>rfl))
 |_=>exact ja h
theorem Qs(b:Cx w L K R g O n)(c:Dg (n+1) A):∀N,Hi w L A R g O N:=by
 intro N
 induction N with
 |zero=>
  exact sF
 |succ N i=>
  exact
   have S:=i
   ⟨hV b c S,fQ S,iV b c S,iQ S,λQ j k W P lo T D d x e l a f m h o=>gQ c S Q j k W P lo T D d x e l a f m h o⟩
end
section
variable {F:Ea} {o e:Expr} {E:Om} {x:T}
variable [D:Av]
mutual
noncomputable def Y1(g:Gl)(j:Nat)(q:Sc)(d:Expr):Option T:=match j,q,d with|0,u,z=>Y|n+1,Q,e=>match e with|.Name x u=>(Vs Q x).map T.x|.Tuple a u z=>(BQ g n Q a).map T.t|.Attribute o a u=>(Eh g n Q o).map (λx=>T.attr x a)|.Subscript o i u=>if ym i then Y else Jr (Eh g n Q o) (Eh g n Q i) λx y=>J (.sub x y)|_=>Y
noncomputable def BQ(g:Gl)(z:Nat)(j:Sc)(q:List Expr):Option (List T):=match z,j,q with|0,u,y=>Y|u+1,y,[]=>J []|n+1,Q,e::a=>Jr (Y1 g n Q e) (BQ g n Q a) λx b=>J (x::b)
end
inductive PT(w:zb)(hb:qb)(env:zj)(eo:Ca->Prop)(O:List Bb)(lo:Nat)(ρ:List Ca)(s:Ea)(W:St)(X:Me)(F:Ea):Prop
 |mk (ρ':List Ca):Ah s F->Kp eo ρ s.heap F.heap ρ'->R w hb ρ' W F.heap->Lc w hb env eo O lo X ρ' F.heap->PT w hb env eo O lo ρ s W X F
def aq(w:zb)(hb:qb)(A:Yb)(env:zj)(eo:Ca->Prop)(O:List Bb)(t:wa->Yl Unit)(r:V->Me->St->Option (Me×St)):Prop:=
 ∀v a X ρ W s me' σ',R w hb ρ W s.heap->Lc w hb env eo O 0 X ρ s.heap->VR w ρ s.heap v a->r v X W=J (me',σ')->Qa (bb pg w) A (t a) (λu=>PT w hb env eo O 0 ρ s σ' me') No s
variable {w:zb} {hb:qb} {A:Yb} {env:zj} {eo:Ca->Prop} {O:List Bb} {lo:Nat} {X me':Me} {K:Ue} {P:Bh} {n N:Nat} {g:Gl} {I:Nat->List V->St->Option (V×St)} {Q:Sc} {ρ L:List Ca} {W σ':St} {s:Ea}
theorem PT.after{s1:Ea}(t:Ah s s1)(k:Kp eo ρ s.heap s1.heap L)(x:PT w hb env eo O lo L s1 σ' X F):PT w hb env eo O lo ρ s σ' X F:=by
 obtain⟨a,b,c,d,f⟩:=x;exact⟨a,t.trans b,k.trans c,d,f⟩
theorem PA.pt(x:PA w hb env eo O lo ρ s W X F):PT w hb env eo O lo ρ s W X F:=by
 refine aa λa=>?_;obtain⟨t,b,c,d⟩:=x;exact a (⟨ρ,t,b,c,d⟩)
theorem PS.pt(r:R w hb ρ W s.heap)(a:Lc w hb env eo O lo X ρ s.heap)(x:PS w hb env.locals ρ s σ' F):PT w hb env eo O lo ρ s σ' X F:=by
 refine aa λd=>?_;obtain⟨b,t,c,f⟩:=x;exact d (⟨b,t,c.kp a,f,a.kx r c⟩)
theorem Vt{a:Bb}{b:Me->St->Option (V×St)}(B:Jk hb K P)(i:∀X,uc w hb A env eo O 0 X (yc o env) (b X)):
 aq w hb A env eo O (λv=>assign (.Attribute o a E) env v) (λv X W=>(b X W).bind λp=>(Qn P p.1 a v p.2).map λW=>(X,W)):=λv d X ρ W s me' σ' r c x e=>ab e λp j k=>qe k λl m q=>by
 obtain⟨rfl,rfl⟩:=Ta q;show Qa _ _ (assign (.Attribute o a E) env d) _ _ _
 refine U (arm_assign_Attribute _ _ _ _ _) (ga (Kb (Da (i X ρ W s r c _ _ j) (λR S t=>?_) λu u z=>z)));obtain⟨L,y,k1,f,C⟩:=t;have h:=c.kx r k1;exact ga (lc (ga (Kb (Da (jF B f h.lok C (k1.vr x) m) (λu s2 G=>xK (PT.after y (k1.kp c) (PS.pt f h G))) λu u z=>z))))
theorem Ru{i:Expr}{a G:Me->St->Option (V×St)}(k:∀X,uc w hb A env eo O 0 X (yc o env) (a X))(l:∀X,uc w hb A env eo O 0 X (yc i env) (G X)):
 aq w hb A env eo O (λv=>assign (.Subscript o i E) env v) (λv X W=>(a X W).bind λp=>(G X p.2).bind λq=>(Ci p.1 q.1 v q.2).map λW=>(X,W)):=λv c X ρ W s me' σ' r b x e=>ab e λp m e=>ab e λq t e=>qe e λy B C=>by
 obtain⟨rfl,rfl⟩:=Ta C;show Qa _ _ (assign (.Subscript o i E) env c) _ _ _
 refine U (arm_assign_Subscript _ _ _ _ _) (ga (Kb (Da (k X ρ W s r b _ _ m) (λo' R S=>?_) λu u z=>z)));obtain⟨L,t1,k1,f,x1⟩:=S;have d:=b.kx r k1;refine ga (Kb (Da (l X L _ R f d _ _ t) (λi' s2 p2=>?_) λu u z=>z));obtain⟨x3,t2,k2,h,x2⟩:=p2;have j:=d.kx f k2;exact ga (lc (ga (Kb (Da (Py h j.lok (k2.vr x1) x2 (k2.vr (k1.vr x)) B) (λu s3 p3=>xK (PT.after t1 (k1.kp b) (PT.after t2 (k2.kp d) (PS.pt h j p3)))) λu u z=>z))))
structure MD(w:zb)(hb:qb)(A:Yb)(P:Bh)(g:Gl)(I:Nat->List V->St->Option (V×St))(N:Nat):Prop where
 one:∀Q e t env eo,env.scope.names=Q.kinds->Y1 g N Q e=J t->aq w hb A env eo Q.sl (λv=>assign e env v) (λv X W=>JK P I t v X W)/\(∀x p,e≠jd x p)
 all:∀Q es ts env eo,env.scope.names=Q.kinds->BQ g N Q es=J ts->∀vs vals X ρ W s me' σ',R w hb ρ W s.heap->Lc w hb env eo Q.sl 0 X ρ s.heap->ue w ρ s.heap vs vals->eK P I ts vs X W=J (me',σ')->
  Qa (bb pg w) A (II ((assignEach es env).map λx=>x.2) vals) (λu=>PT w hb env eo Q.sl 0 ρ s σ' me') No s
theorem bj{a:List Expr}(h:∀x p,e≠jd x p):assignEach (e::a) env=(ua,assign e env)::assignEach a env:=by
 induction e using Expr.casesOn<;>first|rfl|exact zc rfl (h _ _)
theorem Mt(h:Y1 g N Q e=J x):∀y p,e≠jd y p:=by
 rintro y p rfl
 induction N using Sa<;>exact ja h
theorem CQ:∀{N:Nat}{a:List Expr}{b:List T},BQ g N Q a=J b->a.length=b.length/\∀e∈a,∀x p,e≠jd x p:=by
 intro N
 induction N with
 |zero=>intro a b h;exact ja h|succ N d=>
  intro a b h
  induction a using ma with
  |nil=>obtain rfl:=ba h;exact⟨rfl,λe c=>(Tb c).elim⟩|cons e a=>
   refine qd h λt f i j h=>?_;obtain rfl:=ba h;have z:=d j;exact⟨Gc nc z.1,λk c=>(fb.mp c).elim (λq=>q▸Mt i) (z.2 k)⟩
theorem kQ:∀{b:List T}{a:List V}{X me':Me}{W σ':St},eK P I b a X W=J (me',σ')->b.length=a.length:=by
 intro b
 induction b with
 |nil=>intro a X me' W σ' h;induction a using ma with|nil=>rfl|cons y z=>exact ja h
 |cons t b c=>
  intro a X me' W σ' h
  induction a using ma with
  |nil=>exact ja h|cons v a=>exact ab h λp u d=>Gc nc (c d)
theorem Pm:{a:List Expr}->(∀e∈a,∀x p,e≠jd x p)->assignEach a env=a.map λe=>(ua,assign e env):=by
 intro a
 induction a with
 |nil=>
  rintro _;exact rfl
 |cons e a b=>
  rintro h;refine U (bj (h e sa)) (U (b λe c=>h e (oa _ c)) ?_);rfl
theorem aq.out{t:wa->Yl Unit}{r:V->Me->St->Option (Me×St)}{y:T}(h:J y=J x)(g:aq w hb A env eo O t r)(e:∀v X W,JK P I y v X W=r v X W):aq w hb A env eo O t (λv X W=>JK P I x v X W):=λv b X ρ W s me' σ' c a d q=>g v b X ρ W s me' σ' c a d ((e v X W).symm.trans (ba h▸q))
theorem eQ{k:List Expr}{h:List T}{d:Nat}{p:Om}(R:Dg n A)(S:MD w hb A P g I N)(hk:env.scope.names=Q.kinds)(q:BQ g N Q k=J h):aq w hb A env eo Q.sl (λv=>assign (.Tuple k d p) env v) (λv X W=>JK P I (.t h) v X W):=λv i X ρ W s me' σ' r b xv e=>ab e λt e1 B=>by
 refine aa λnq=>?_;obtain⟨a,C,m,rfl,x1,ea,la,G⟩:=(Vl e1▸xv:VR w ρ s.heap (.t t) i).wF;refine nq ?_;have l:=CQ q;show Qa _ _ (assign (.Tuple _ _ _) env _) _ _ _
 refine U (R5 _ _ _ _ _) ?_;refine ga (lc (X2 R.hh (items:=C.toArray) (lf ea) (by exact U Hb (U (Pm l.2) (U (ya _) (U l.1 (U (kQ B) (U G.length rfl)))))) (by refine U (Pm l.2) (U (propext az) ?_);intro y c;obtain⟨p,_,rfl⟩:=Rb.mp c;rfl) λj f=>?_));have c:∀a o,s.heap.get? a=J o->j.get? a=J o:=λa o e=>f a o (ic (qc e)) e;exact Da (S.all Q _ h env eo hk q t C X ρ W {s with heap:=j} me' σ' (r.wI c) (b.wI r c) (G.mono (Ja _) λa o e u=>c a o e) B) (λu z y=>PT.after (s1:={s with heap:=j}) rfl (Kp.wI c) y) λu u z=>z
theorem gV(f:Cx w hb K P g I n)(j:Dg (n+1) A)(S:MD w hb A P g I N)(SE:Hi w hb A P g I N){t:T}(c:env.scope.names=Q.kinds)(h:Y1 g (N+1) Q e=J t):aq w hb A env eo Q.sl (λv=>assign e env v) (λv X W=>JK P I t v X W):=by
 induction e using Expr.casesOn with
 |Attribute o a p=>exact qe h λy q h=>aq.out (Gc J h) (Vt f.B λX=>SE.E Q _ y env eo 0 X c q) λu u u=>rfl|Subscript o i p=>exact Dj h λu h=>qd h λx y a b h=>aq.out h (Ru (λX=>SE.E Q _ _ env eo 0 X c a) λX=>SE.E Q _ _ env eo 0 X c b) λu u u=>rfl|Name x p=>
  refine qe h λi q h=>(Ed h ?_);exactλv a X ρ W s me' σ' r b d e=>qe e λu u e=>by
   obtain⟨rfl,rfl⟩:=Ta e;exact Da (lh (Xl q) (td _) r b d) (λu u p=>PA.pt p) λu u z=>z
 |Tuple a d p=>exact qe h λb q h=>h▸eQ j S c q|_=>exact ja h
theorem j1(k:Cx w hb K P g I n)(B:Dg (n+1) A):∀N,MD w hb A P g I N:=by
 intro N
 induction N with
 |zero=>
  exact⟨λQ e t env eo i h=>ja h,λQ m G env eo i h=>ja h⟩
 |succ N R=>
  have S:=R;refine⟨λQ e t env eo i h=>⟨gV k B S (Qs k B N) i h,Mt h⟩,λQ m G env eo i h C l X ρ W s me' σ' r c x e=>?_⟩
  induction m using ma with
  |nil=>
   refine aa λd=>?_;obtain rfl:=ba h;refine d ?_;clear d;refine aa λd=>?_
   induction C using ma with
   |nil=>refine d ?_;clear d;obtain⟨rfl,rfl⟩:=Ta (ba e);rw[(x.wF:l=[])];exact ao ⟨ρ,rfl,Kp.refl,r,c⟩|cons y j=>refine d ?_;clear d;exact ja e
  |cons e0 m=>
   refine qd h λt q q1 q2 h=>?_;obtain rfl:=ba h;refine aa λd=>?_
   induction C using ma with
   |nil=>refine d ?_;clear d;exact ja e|cons v0 v=>
    refine d ?_;clear d;refine aa λd=>?_;obtain⟨j,f,rfl,a,b⟩:=x.wF;refine d ?_;clear d;refine ab e λp q3 e=>?_;have y:=S.one Q e0 t env eo i q1;refine U (bj y.2) (Zn (Da (y.1 v0 j X ρ W s p.1 p.2 r c a q3) (λu s1 p1=>?_) λu u z=>z));obtain⟨L,t1,k1,r1,E1⟩:=p1;exact Da (S.all Q m q env eo i q2 v f p.1 L p.2 s1 me' σ' r1 E1 (k1.vrs b) e) (λu s2 p2=>PT.after t1 k1 p2) λu u z=>z
end
section
variable {h:qb} {f:PK} {t x:Expr} {b:List dz} {z:Om}
variable [u:Av]
inductive T3(w:zb)(P:List Ca)(h:qb):Fl->PK->Prop
 |next:T3 w P h .next .next|ret {v:V} {val:wa}:VR w P h v val->T3 w P h (.ret v) (.ret val)
def qdo(w:zb)(P:List Ca)(h:qb)(a:Fl)(c:PK):Prop:=match a,c with|.next,f=>f=.next|.ret v,f=>∃d,f=.ret d/\VR w P h v d
theorem T3.wF{w:zb}{P:List Ca}{E:Fl}(x:T3 w P h E f):qdo w P h E f:=
 T3.rec (motive:=λE f a=>qdo w P h E f) rfl (λq=>⟨_,rfl,q⟩) x
inductive PF(w:zb)(F:qb)(X:zj)(L:Ca->Prop)(B:List Bb)(P:List Ca)(s:Ea)(O:St)(W:Me)(E:Fl)(f:PK)(s':Ea):Prop
 |mk (ρ':List Ca):Ah s s'->Kp L P s.heap s'.heap ρ'->R w F ρ' O s'.heap->Lc w F X L B 0 W ρ' s'.heap->T3 w ρ' s'.heap E f->PF w F X L B P s O W E f s'
def Df(w:zb)(F:qb)(A:Yb)(X:zj)(L:Ca->Prop)(B:List Bb)(t:Yl PK)(a:Me->St->Option (Fl×Me×St)):Prop:=
 ∀W P O s E Q S,R w F P O s.heap->Lc w F X L B 0 W P s.heap->a W O=J (E,Q,S)->Qa (bb pg w) A t (PF w F X L B P s S Q E) No s
variable {w:zb} {F:qb} {A:Yb} {X:zj} {L:Ca->Prop} {B:List Bb} {lo:Nat} {W Q:Me} {K:Ue} {r:Bh} {n N:Nat} {g:Gl} {p:Nat->List V->St->Option (V×St)} {y:Sc} {P C:List Ca} {O S:St} {s:Ea} {E:Fl}
theorem Df.congr{t:Yl PK}{a d:Me->St->Option (Fl×Me×St)}(h:Df w F A X L B t a)(e:∀W O,d W O=a W O):Df w F A X L B t d:=λW P O s E Q S R c q=>h W P O s E Q S R c ((e W O).symm.trans q)
theorem PF.after{s1 c:Ea}(t:Ah s s1)(k:Kp L P s.heap s1.heap C)(x:PF w F X L B C s1 S W E f c):PF w F X L B P s S W E f c:=by
 obtain⟨a,d,e,i,j,q⟩:=x;exact⟨a,t.trans d,k.trans e,i,j,q⟩
theorem vz:Df w F A X L B (uu [] X) (λW O=>J (.next,W,O)):=λW P O s E Q S a c e=>by
 obtain⟨rfl,d⟩:=Ta (ba e);obtain⟨rfl,rfl⟩:=Ta d;exact U (pu _) (ta ⟨P,rfl,Kp.refl,a,c,.next⟩)
theorem jx{st:dz}{rest:List dz}{a G:Me->St->Option (Fl×Me×St)}(hf:Df w F A X L B (iE st X) a)(hg:Df w F A X L B (uu rest X) G):
 Df w F A X L B (uu (st::rest) X) (λW O=>(a W O).bind (fD G)):=λW P O s E Q S c d e=>ab e λi e1 D=>by
 refine aa λl=>?_;obtain⟨I,m,o⟩:=i;refine l ?_;clear l;refine U (arm_execs_cons _ _ _) (ga (Da (hf W P O s I m o c d e1) (λf s1 p1=>?_) λj j k=>k));obtain⟨C,R,k1,T,E1,q⟩:=p1;refine aa λl=>?_
 induction I with
 |next=>
  refine l ?_;clear l;rw[q.wF];exact Da (hg m C o s1 E Q S T E1 D) (λf s2 v=>PF.after R k1 v) λj j k=>k
 |ret v=>
  refine l ?_;clear l;refine aa λl=>?_;obtain⟨j,rfl,x1⟩:=q.wF;obtain⟨rfl,k⟩:=Ta (ba D);obtain⟨rfl,rfl⟩:=Ta k;refine l ?_;clear l;exact ta ⟨C,R,k1,T,E1,q⟩
theorem U7{a:List dz}{T:Me->St->Option (Bool×St)}{c G:Me->St->Option (Fl×Me×St)}(ht:∀W,Yg w F A X L B 0 W (isTrue t X (yc t X)) (T W))(hf:Df w F A X L B (uu a X) c)(hg:Df w F A X L B (uu b X) G):
 Df w F A X L B (iE (.If t a b z) X) (λW O=>(T W O).bind λd=>ln d.1 (c W d.2) (G W d.2)):=λW P O s E Q S i j e=>ab e λd e1 m=>by
 refine U (arm_exec_If _ _ _ _ _) (ga (lc (ga (Da (ht W P O s i j _ _ e1) (λq v p1=>?_) λk k l=>l))));obtain⟨C,D,k1,I,x1⟩:=p1;rw[<-(x1:q=d.1)]at m;have R:=j.kx i k1
 induction q with
 |true=>exact Da (hf W C _ v E Q S I R m) (λf s2 o=>PF.after D (k1.kp j) o) λk k l=>l|false=>exact Da (hg W C _ v E Q S I R m) (λf s2 o=>PF.after D (k1.kp j) o) λk k l=>l
theorem Q0{a:Me->St->Option (V×St)}(l:∀W,uc w F A X L B 0 W (yc x X) (a W)):
 Df w F A X L B (iE (.Return (J x) z) X) (λW O=>(a W O).map λc=>(.ret c.1,W,c.2)):=λW P O s E Q S d i e=>qe e λc m o=>by
 obtain⟨rfl,q⟩:=Ta o;obtain⟨rfl,rfl⟩:=Ta q;refine wpAny_Return_some (Da (l W P O s d i _ _ m) (λv I D=>?_) λj j k=>k);obtain⟨C,j,k1,k,G⟩:=D;exact⟨C,j,k1.kp i,k,i.kx d k1,.ret G⟩
noncomputable def Lv:Expr->Bool
 |.ListComp .. |.SetComp .. |.DictComp .. =>Z|_=>ua
theorem Un{e:Expr}{t:Option Expr}{a:Nat}(h:Lv e=ua):Jt e t a X=pure ua:=by
 induction e using Expr.casesOn<;>first|rfl|exact zc h.symm ia
theorem hJ{v:V}{d:wa}{a:Unit}(x:VR w P h v d)(e:tG v=J a):d=.none\/∃b,d=.bool b:=by
 have c:=x.wF
 induction v using V.casesOn with
 |none=>exact .inl c|bool b=>exact .inr ⟨b,c⟩|_=>exact ja e
theorem jT{a:Me->St->Option (V×St)}(l:Lv x=ua)(m:∀W,uc w F A X L B 0 W (yc x X) (a W)):
 Df w F A X L B (iE (.Expr x z) X) (λW O=>(a W O).bind λc=>(tG c.1).map λd=>(.next,W,c.2)):=λW P O s E Q S i j e=>ab e λc o q=>qe q λd v D=>by
 obtain⟨rfl,G⟩:=Ta D;obtain⟨rfl,rfl⟩:=Ta G;refine wpAny_Expr (Da (m W P O s i j _ _ o) (λI s1 R=>?_) λd d k=>k) (by unfold qfA;refine U j.kind ?_;rfl) (Un l);obtain⟨C,k,k1,T,x1⟩:=R;rcases hJ x1 v with rfl|⟨b,rfl⟩<;>exact⟨C,k,k1.kp j,T,j.kx i k1,.next⟩
theorem IF{T:Me->St->Option (Bool×St)}{a:Me->St->Option (Fl×Me×St)}(AK:Dg n A)(ht:∀W,Yg w F A X L B 0 W (isTrue t X (yc t X)) (T W))(hf:Df w F A X L B (uu b X) a):∀(o:Nat) W P O s E Q S,R w F P O s.heap->Lc w F X L B 0 W P s.heap->LB o T a W O=J (E,Q,S)->
 ch (bb pg w) A (.whileLoop t b [] X) (λq c=>∃f,q=.ok f/\PF w F X L B P s S Q E f c) s:=by
 intro o
 induction o with
 |zero=>intro W P O s E Q S c d e;exact ja e|succ o ih=>
  intro W P O s E Q S c d e;refine ab e λi e1 I=>Ug ?_;show Qa _ A ((whileTurn t b [] X).onRaise λx=>do Qz x X;Up x) _ _ s
  refine FA (Cn λj E0 hQ=>?_);simp only[whileTurn];refine ga (Da (ht W P O s c d _ _ e1) (λc' s1 p1=>?_) λk k l=>l.elim);refine aa λm=>?_;obtain⟨C,t1,k1,r1,x1⟩:=p1;refine m ?_;clear m;have E1:=d.kx c k1
  induction c' with
  |false=>
   rw[<-(x1:ua=i.1)]at I;obtain⟨rfl,zz⟩:=Ta (ba I);obtain⟨rfl,rfl⟩:=Ta zz;exact U (fe ia) (ga (U (pu _) (ta (ta (hQ _ _ ⟨.next,rfl,C,t1,k1.kp d,r1,E1,.next⟩)))))
  |true=>
   rw[<-(x1:Z=i.1)]at I;refine U (Dd rfl) (ab I λp2 e3 e4=>(aa λm=>?_));obtain⟨f0,D,G⟩:=p2;refine m ?_;clear m;refine ga (Da (hf W C _ s1 f0 D G r1 E1 e3) (λf s2 p2=>?_) λk k l=>l.elim);refine aa λm=>?_;obtain⟨k,t2,k2,r2,E2,l⟩:=p2;refine m ?_;clear m;refine aa λm=>?_
   induction f0 with
   |next=>
    refine m ?_;clear m;rw[l.wF];refine ta (hQ _ _ ⟨rfl,Oc (ih D k G s2 E Q S r2 E2 e4) λq s3 v=>?_⟩);obtain⟨f,hq,v⟩:=v;exact⟨f,hq,PF.after t1 (k1.kp d) (PF.after t2 k2 v)⟩
   |ret v=>
    refine m ?_;clear m;refine aa λm=>?_;obtain⟨q,rfl,x2⟩:=l.wF;obtain⟨rfl,zz⟩:=Ta (ba e4);obtain⟨rfl,rfl⟩:=Ta zz;refine m ?_;clear m;exact ta (hQ _ _ ⟨_,rfl,k,t1.trans t2,(k1.kp d).trans k2,r2,E2,l⟩)
theorem VQ{T:Me->St->Option (Bool×St)}{a:Me->St->Option (Fl×Me×St)}(j:Dg n A)(k:∀W,Yg w F A X L B 0 W (isTrue t X (yc t X)) (T W))(l:Df w F A X L B (uu b X) a):
 Df w F A X L B (iE (.While t b [] z) X) (λW O=>LB 5000 T a W O):=λW P O s E Q S c d e=>
 wpAny_While (Oc (IF j k l 5000 W P O s E Q S c d e) λq m i=>by
  obtain⟨f,rfl,i⟩:=i;exact i)
theorem cy(t:CT):Wt 0 t=Z:=by
 induction t<;>simp[Wt]
inductive YK [u:Av](w:zb)(F:qb)(X:zj)(L:Ca->Prop)(y:Sc)(I:Ca)(P:List Ca)(s:Ea)(E:Fl)(Q:Me)(S:St)(q:Dr)(s':Ea):Prop
 |mk (f:PK) (ρ':List Ca):q=.ok f->Ah s s'->Kl (λa=>(L a\/a=I)\/a=I) P s.heap s'.heap ρ'->R w F ρ' S s'.heap->Lc w F X L y.sl 0 Q ρ' s'.heap->T3 w ρ' s'.heap E f->YK w F X L y I P s E Q S q s'
theorem Kp.kl{c:qb}{a:List Ca}(k:Kp L P h c a):Kl L P h c a:=⟨k.pre,k.fresh,k.keep,k.imm⟩
theorem mE{x6:Expr}{t:CT}{it:It}{I:Ca}{c:Me->St->Option (Fl×Me×St)}(AK:Dg n A)(ht:Xk y x6=J t)(hf:Df w F A X L y.sl (uu b X) c)(x8:F.get? I=Y):
 ∀(x4 i:Nat)(W:Me)(P:List Ca)(O:St)(s:Ea)(E:Fl)(Q:Me)(S:St),R w F P O s.heap->Lc w F X L y.sl 0 W P s.heap->sj w P s.heap I i it->¬L I->Gq x4 it i (λv W O=>(ql t v W).bind λx7=>c x7 O) W O=J (E,Q,S)->
  ch (bb pg w) A (.forLoop x6 (.ref I) b [] X) (λq a=>YK w F X L y I P s E Q S q a) s:=by
 intro x4
 induction x4 with
 |zero=>intro i W P O s E Q S d j x x5 e;exact ja e|succ x4 ih=>
  intro i W P O s E Q S d j x x5 e;refine ab e λo hi e=>Ug ?_;show Qa _ A ((C4 x6 (.ref I) b [] X).onRaise λx=>do Qz x X;Up x) _ _ s
  refine FA (Cn λk E0 hQ=>?_);simp only[C4];refine ga (lc (ga (Zh (Da (gH AK d x hi) (λq s1 np=>?_) λl l m=>m.elim))));refine aa λnq=>?_
  induction np with
  |done ho hq t1 k1=>
   refine nq ?_;clear nq;rw[ho]at e;refine U hq ?_;obtain⟨rfl,zz⟩:=Ta (ba e);obtain⟨rfl,rfl⟩:=Ta zz;refine ta (hQ _ _ ⟨rfl,qdK ?_⟩);exact U (pu _) (ta ⟨.next,P,rfl,t1,Ks x k1,Oq d x x8 k1,Nq j x x5 k1,.next⟩)
  |item v y2 ho hq t1 k1 xv x1=>
   refine nq ?_;clear nq;rw[ho]at e;refine U hq (ab e λG e1 e2=>ab e1 λx7 y3 hF=>(aa λnq=>?_));obtain⟨f0,x9,y1⟩:=G;refine nq ?_;clear nq;have r1:=Oq d x x8 k1;refine ga (FB (s:=s1) x1 (ga (Da (kM AK ht (cy t) r1 (Nq j x x5 k1) xv y3) (λl s2 p2=>?_) λl l m=>m.elim)));refine aa λnq=>?_;obtain⟨t2,k2,r2,E2⟩:=p2;refine nq ?_;clear nq;have x2:sj w P s2.heap I (i+1) it:=x1.keep (Ja _) k2.imm λo e=>k2.keep I o e (x1.notIn r1) x5;refine ga (Da (hf x7 P O s2 f0 x9 y1 r2 E2 hF) (λf s3 p3=>?_) λl l m=>m.elim);refine aa λnq=>?_;obtain⟨m,t3,k3,r3,E3,q3⟩:=p3;refine nq ?_;clear nq;have T:=(t1.trans t2).trans t3;have KP:=(My (eo:=L) (D:=I) x k1 x1).trans ((k2.trans k3).weaken λa q=>.inl (.inl q));refine aa λnq=>?_
   induction f0 with
   |next=>
    refine nq ?_;clear nq;rw[q3.wF];refine ta (hQ _ _ ⟨rfl,Oc (ih (i+1) x9 m y1 s3 E Q S r3 E3 (x2.keep k3.pre k3.imm λo e=>k3.keep I o e (x2.notIn r2) x5) x5 e2) λq s4 p4=>?_⟩);obtain⟨f,a,hq,t4,kl,g5,g6,g7⟩:=p4;exact⟨f,a,hq,T.trans t4,Kl.before KP kl,g5,g6,g7⟩
   |ret v=>
    refine nq ?_;clear nq;refine aa λnq=>?_;obtain⟨y2,rfl,a⟩:=q3.wF;obtain⟨rfl,zz⟩:=Ta (ba e2);obtain⟨rfl,rfl⟩:=Ta zz;refine nq ?_;clear nq;exact ta (hQ _ _ ⟨_,m,rfl,T,KP.kl,r3,E3,q3⟩)
end
section
variable [z:Av]
variable {w:zb} {Q:qb} {A:Yb} {X:zj} {T:Ca->Prop} {F:List Bb} {lo:Nat} {W E:Me} {K:Ue} {B:Bh} {n N:Nat} {g:Gl} {y:Nat->List V->St->Option (V×St)} {C:Sc} {I P:List Ca} {S O:St} {s:Ea} {D:Fl}
theorem Kl.offE{F:List Bb}{h j i:qb}{f:List Ca}{c:Ca}(k2:∀b o,h.get? b=J o->j.get? b=J o)(hI:h.get? c=Y)(r:R w Q I S h)(k:Kl (λa=>(T a\/a=c)\/a=c) I j i f)(p:R w Q f O i)(t:Lc w Q X T F 0 W f i):Kp T I h i f:=
 have l:∀a o,h.get? a=J o->a≠c:=λa o e q=>by rw[q,hI]at e;exact ja e
 have b:∀a o,h.get? a=J o->a∉I->¬T a->i.get? a=J o:=λa o e u v=>k.keep a o (k2 a o e) u λq=>q.elim (λq=>q.elim v (l a o e)) (l a o e)
 ⟨k.pre,λa G=>(k.fresh a G).imp_right λq=>(by
  induction d:h.get? a with
  |none=>rfl|some o=>rw[k2 a o d]at q;exact ja q.symm),b,λa o e d=>k.imm a o (k2 a o e) d,λa e=>by
  obtain⟨o,L⟩:=Na.mp e;by_cases d:a∈I
  ·obtain⟨x,m,_⟩:=p.live (Kh k.pre d)
   refine U m ?_;rfl
  ·by_cases m:T a
   ·exact t.eol a m
   ·refine U (b a o L d m) ?_;rfl⟩
theorem QY{k j:Expr}{b:List dz}{o:Om}{t:CT}{L:Me->St->Option (V×St)}{d:Me->St->Option (Fl×Me×St)}(AK:Dg n A)(ht:Xk C k=J t)(l:∀a b c,j≠ .Set a b c)(hi:∀W,uc w Q A X T C.sl 0 W (yc j X) (L W))(hf:Df w Q A X T C.sl (uu b X) d):
 Df w Q A X T C.sl (iE (.For k j b [] o) X) (λW S=>(L W S).bind λp=>(fj p.1 p.2).bind λR=>Gq 5000 R 0 (λv W S=>(ql t v W).bind λc=>d c S) W p.2):=λW I S s D E O r h e=>ab e λp e1 e=>ab e λR e2 e=>by
 refine wpAny_For (Da (hi W I S s r h _ _ e1) (λa v p1=>?_) λu u i=>i) λx=>Pz l X x;obtain⟨P,t1,k1,m,x1⟩:=p1;have E1:=h.kx r k1;refine Da (Iz m x1 e2) (λq s2 p2=>?_) λu u i=>i;obtain⟨hq,t2,k2,x2⟩:=p2;refine U hq ?_;have c:v.heap.get? v.heap.objs.size=Y:=Fb _;have x:¬T v.heap.objs.size:=λq=>by have:=E1.eol _ q;rw[c]at this;exact zc this ia
 refine Oc (mE AK ht hf (Rd m c) 5000 0 W P p.2 s2 D E O (m.wI k2) (E1.wI m k2) x2 x e) λq s3 p3=>?_;obtain⟨f,G,rfl,t3,kl,g5,g6,g7⟩:=p3;exact⟨G,(t1.trans t2).trans t3,(k1.kp h).trans (kl.offE k2 c m g5 g6),g5,g6,g7⟩
theorem Hr{d x:Expr}{f:Om}{a:Me->St->Option (V×St)}{G:V->Me->St->Option (Me×St)}(h:∀b p,d≠jd b p)(j:Jt x (J d) f.line X=pure ua)(k:Du [d] x X=pure Y)(l:∀W,uc w Q A X T F 0 W (yc x X) (a W))
 (m:aq w Q A X T F (λv=>assign d X v) G):
 Df w Q A X T F (iE (.Assign [d] x f) X) (λW S=>(a W S).bind λp=>(G p.1 W p.2).map pJ):=λW I S s D E O r b e=>ab e λp o e=>qe e λq t v=>by
 obtain⟨rfl,L⟩:=Ta v;obtain⟨rfl,rfl⟩:=Ta L;refine wpAny_Assign_stores (Da (l W I S s r b _ _ o) (λi R p1=>?_) λu u c=>c) j k;obtain⟨P,t1,k1,r1,x1⟩:=p1;refine U (bj h) (Da (m _ i W P _ R q.1 q.2 r1 (b.kx r k1) x1 t) (λu s2 p2=>?_) λu u c=>c);obtain⟨c,t2,k2,r2,E2⟩:=p2;exact⟨c,t1.trans t2,(k1.kp b).trans k2,r2,E2,.next⟩
theorem kY{o i x:Expr}{tp R:Om}{op:He}{c G d:Me->St->Option (V×St)}(hi:∀b e a,augStore i b e a=(do dj [a,b,e] (ux b e a);qff [a,b,e] [];pure .next))(hf:∀W,uc w Q A X T F 0 W (yc o X) (c W))(hg:∀W,uc w Q A X T F 0 W (yc i X) (G W))(hx:∀W,uc w Q A X T F 0 W (yc x X) (d W)):
 Df w Q A X T F (iE (.AugAssign (.Subscript o i tp) op x R) X) (λW S=>(c W S).bind λp=>(G W p.2).bind λq=>(eD p.1 q.1 q.2).bind λm=>(d W q.2).bind λu=>
  (oh m).bind λx=>(oh u.1).bind λf=>(BL op x f).bind λh=>(Ci p.1 q.1 (.int h) u.2).map λS=>(.next,W,S)):=λW I S s D E O r f e=>
 ab e λp e1 e=>ab e λq e2 e=>ab e λm e3 e=>ab e λu e4 e=>ab e λa e5 e=>ab e λb e6 e=>ab e λh e7 e=>qe e λx8 e8 e9=>by
 cases e9;refine wpAny_AugAssign_SubscriptAny (Da (hf W I S s r f _ _ e1) (λo' s1 p1=>?_) λj j h=>h) hi;obtain⟨P,t1,k1,r1,x1⟩:=p1;have E1:=f.kx r k1;refine Da (hg W P _ s1 r1 E1 _ _ e2) (λi' s2 p2=>?_) λj j h=>h;obtain⟨x9,t2,k2,r2,x2⟩:=p2;have E2:=E1.kx r1 k2;refine Da (Gv (L:=X.locals) r2 (k2.vr x1) x2 e3).2 (λx7 s3 p3=>?_) λj j h=>h;obtain⟨x5,t3,t,r3,x3⟩:=p3;have E3:=E2.kx r2 t;refine Da (hx W x5 _ s3 r3 E3 _ _ e4) (λv' s4 p4=>?_) λj j h=>h;obtain⟨y1,t4,v,r4,x4⟩:=p4;have E4:=E3.kx r3 v;have l:∀(tk:jk)(k:Nat),Qa (bb pg w) A (ux o' i' (.int h tk)) (λj s'=>PF w Q X T F I s O W .next .next s') No {s4 with toks:=k}:=λtk k=>
  Da (Py (s:={s4 with toks:=k}) r4 E4.lok (v.vr (t.vr (k2.vr x1))) (v.vr (t.vr x2)) (.int h tk) e8) (λj s5 p5=>by
   refine aa λnq=>?_;obtain⟨x6,t5,k5,r5⟩:=p5;refine nq ?_;exact⟨x6,(((t1.trans t2).trans t3).trans t4).trans t5.past,((((k1.kp f).trans (k2.kp E1)).trans (t.kp E2)).trans (v.kp E3)).trans (k5.kp E4),r5,E4.kx r4 k5,.next⟩) λj j h=>h
 obtain⟨_,rfl⟩:=x3.wZ e5;obtain⟨_,rfl⟩:=x4.wZ e6
 induction op with
 |Add=>rw[<-ba e7]at l;exact iadd_int (l _ _)|Sub=>rw[<-ba e7]at l;exact qai (l _ _)|_=>exact ja e7
end
section
variable [y:Av]
variable {w:zb} {G:qb} {A:Yb} {W:zj} {E:Ca->Prop} {x:List Bb} {lo:Nat} {O C:Me} {K:Ue} {T:Bh} {n N:Nat} {g:Gl} {I:Nat->List V->St->Option (V×St)} {L:Sc} {D z:List Ca} {P F:St} {s:Ea} {B:Fl}
theorem dB{p:Expr}{i:List gd}{j:Scope}{l:Om}{a:X}{v:V}{use:Option (wa->Yl Unit)}{Q:wa->Ea->Prop}(AK:Dg (n+1) A)(S:Hi w G A T g I N)(hk:W.scope.names=L.kinds)(h:Eh g (N+1) L (.ListComp p i j l)=J a)
 (r:R w G D P s.heap)(c:Lc w G W E L.sl lo O D s.heap)(e:evX T I a O P=J (v,F))
 (q:∀b f d k m,Ah s f->KX W.locals D s.heap f.heap b->R w G b F f.heap->VR w b f.heap v (.ref d)->k∉b->s.heap.get? k=Y->G.get? k=Y->f.heap.Ns k m->compPost (bb pg w) A No use Q (.ref d) k (.ok .next) f):
 Qa (bb pg w) A (qdM (.ListComp p i j l) j W (qeT i l) (P4 []) (firstAsync i) (firstIter i W) use) Q No s:=by
 induction i using ma with
 |nil=>exact ja h|cons g0 rest=>
  obtain⟨x2,x1,x3,x4⟩:=g0;refine ae h λhz h=>?_;cases eq_of_beq hz;refine qd h λit sc' q1 q2 h=>(Wu h λt fs gs f q3 q4 q5 q6 h=>(ae h λhg h=>?_));refine Xx (sc':=sc') (Fi:=λP=>evX T I it O P) (Fs:=λk=>fs.map λb P=>Yt T I b k P) (rr:=λk P=>evRest T I gs (λO P=>evX T I f O P) k P) AK (Wx q2) hk (Hm q1) q3 hg (S.E L _ it W E lo O hk q1)
   (λb m d o v k x5=>⟨S.Ts sc' _ fs b m _ k o q4,S.Gs sc' _ gs b m _ k d _ f [] _ _ _ o q5 λu=>S.E sc' _ f b m _ u o q6⟩) r c ?_ q
  refine Ed e (Ed (ba h) ?_);unfold kG;refine U (dv _ _ _ _) ?_;rfl
theorem bx{x2:Expr}{R:List gd}{t:Scope}{x1 py x4:Om}{c:Bb}{i:Nat}{f:X}(AK:Dg (n+1) A)(S:Hi w G A T g I N)(hk:W.scope.names=L.kinds)(h:Eh g (N+1) L (.ListComp x2 R t x1)=J f)(hy:Vs L c=J i)
 (hs:W.scope.kind=.function->Jt (.ListComp x2 R t x1) (J (.Name c py)) x4.line W=pure Z):
 Df w G A W E L.sl (iE (.Assign [.Name c py] (.ListComp x2 R t x1) x4) W) (λO P=>(evX T I f O P).bind λp=>((Ge (ac i O.length)).map λu=>(O.set i (J p.1),p.2)).map pJ):=λO D P s B C F r j e=>ab e λp e1 e=>qe e λq e2 e3=>qe e2 λu u e4=>by
 subst e4;obtain⟨rfl,zz⟩:=Ta e3;obtain⟨rfl,rfl⟩:=Ta zz;refine U (exec_Assign_Name_used _ _ _ _ (hs j.kind)) (ga (lc (ga (ga (Da (dB (use:=J (assign (.Name c py) W)) (Q:=λu a=>PF w G W E L.sl D s _ (O.set i (J p.1)) .next .next a) AK S hk h r j e1 λx6 s5 k CC m t5 k5 r5 x5 c1 c2 c3 hC=>?_) (λu a b=>ta (ta b)) λu u l=>l)))));have x7:¬E CC:=λq=>by have:=j.eol _ q;rw[c2]at this;exact zc this ia
 refine Da (lh (Xl hy) (td _) r5 (j.kx r k5) x5) (λu s6 p6=>?_) λu u l=>l;obtain⟨t6,k6,r6,E6⟩:=p6;have x3:s6.heap.Ns CC m:=by
  refine aa λnq=>?_;obtain⟨o,a,ep,e1,e2⟩:=hC;exact nq (⟨o,a,ep,k6.keep _ _ e1 c1 x7,e2⟩)
 refine⟨m,x3,λh' x9=>?_⟩;have kk:∀b o,b≠CC->s6.heap.get? b=J o->h'.get? b=J o:=λb o n e=>(x9.2 b n).trans e;have x8:∀o,s6.heap.get? CC=J o->¬Ih o/\(∀v,o.data≠ .cell v):=λo e=>⟨Bg x3 e,λv q=>by
  obtain⟨o',a,ep,e',d,_⟩:=x3;rw[ba (e'.symm.trans e),q]at d;exact nomatch d⟩
 have d:Kp E D s.heap s6.heap x6:=(k5.kp j).trans k6;have v:∀a o,s.heap.get? a=J o->a≠CC:=λa o e q=>by rw[q,c2]at e;exact ja e
 exact⟨x6,(t5.trans t6).upd,⟨d.pre,d.fresh,λa o e n1 n2=>kk a o (v a o e) (d.keep a o e n1 n2),λa o e im=>kk a o (v a o e) (d.imm a o e im),λa e=>(by
  refine aa λnq=>?_;obtain⟨o,ho⟩:=Na.mp e;obtain⟨o2,y1⟩:=Na.mp (d.live a e);refine nq ?_;refine U (kk a o2 (v a o ho) y1) ?_;rfl)⟩,r6.beside (wr:=λa=>a=CC) (λa o n e=>kk a o n e) (λa q=>by subst q;exact⟨c1,c3,λo e=>(x8 o e).1⟩),E6.kpD x7 x8 kk,.next⟩
end
section
variable [C:Av]
noncomputable def vN(z:Expr):Bool:=by
 induction z using Expr.casesOn with
 |Starred=>exact Z|_=>exact ua
noncomputable def rQ(k:List (Bb×xd))(t:Option Expr)(z:Expr):Option Bb:=by
 induction z using Expr.casesOn with
 |Name id a=>exact if k.lookup id==J .local&&a.line==(t.map λx=>x.pos.line).getD 0 then J id else Y|_=>exact Y
def Cu(Q:Sc)(a:List Expr):List Bb:=a.filterMap (rQ Q.kinds (a.head?))
def Hw(Q:Sc)(a b:List Expr):Option (Option (List Bb)):=
 if !(a.length==2||a.length==3)||b.length !=a.length then J Y
 else if b.any vN then J Y
 else if(Cu Q a).length !=a.length||(Cu Q a).eraseDups.length !=(Cu Q a).length then J Y
 else if b.all (qdT 8)then J Y
 else if b.all (qbt 8)then Y
 else J (J (Cu Q a))
variable {w:zb} {I:qb} {A:Yb} {W:zj} {E:Ca->Prop} {sl:List Bb} {lo:Nat} {X me':Me} {K:Ue} {tab:Bh} {n N:Nat} {g:Gl} {cf:Nat->List V->St->Option (V×St)} {Q:Sc} {O L:List Ca} {S σ':St} {s:Ea} {D:Fl}
theorem kI{ts vs:List Expr}{k k':Nat}{p p':Om}{r:Option (List Bb)}(hf:W.scope.kind=.function)(hk:W.scope.names=Q.kinds)(h:Hw Q ts vs=J r):Du [.Tuple ts k p] (.Tuple vs k' p') W=pure r:=by
 refine aa λnq=>?_;obtain⟨kinds,sl⟩:=Q
 dsimp only at hk
 subst hk;refine nq ?_;clear nq;have go:∀(F:Expr->Bool)(G:Expr->Option Bb),(∀z,F z=vN z)->(∀z,G z=rQ W.scope.names (ts.head?) z)->(if(!(ts.length==2||ts.length==3)||vs.length !=ts.length||W.blockKind != .function)=Z then pure Y
  else if vs.any F=Z then pure Y
  else if((ts.filterMap G).length !=ts.length||(ts.filterMap G).eraseDups.length !=(ts.filterMap G).length)=Z then pure Y
  else if vs.all (qdT 8)=Z then pure Y
  else if vs.all (qbt 8)=Z then(do unsupported "assign.tuple-of-constant-expressions:order-of-the-stores";pure (J (ts.filterMap G)))
  else pure (J (ts.filterMap G)):Yl (Option (List Bb)))=pure r:=by
  intro F G eF eG;obtain rfl:=funext eF;obtain rfl:=funext eG;refine U (by rw[(by unfold P3;rw[hf];rfl:W.blockKind=.function)];rfl:(W.blockKind != .function)=ua) (U (wA _) ?_);unfold Hw at h
  split at h
  ·rename_i q;obtain rfl:=ba h;exact U (Dd q) rfl
  ·rename_i q
   refine U (fe q) ?_
   split at h
   ·rename_i q;obtain rfl:=ba h;exact U (Dd q) rfl
   ·rename_i q
    refine U (fe q) ?_
    split at h
    ·rename_i q;obtain rfl:=ba h;exact U (Dd q) rfl
    ·rename_i q
     refine U (fe q) ?_
     split at h
     ·rename_i q;obtain rfl:=ba h;exact U (Dd q) rfl
     ·rename_i q
      refine U (fe q) ?_
      split at h
      ·exact ja h
      ·rename_i q;obtain rfl:=ba h;exact U (fe q) rfl
 refine go _ _ (λz=>?_) λz=>?_
 ·induction z using Expr.casesOn<;>rfl
 ·induction z using Expr.casesOn<;>rfl
theorem PC:∀{is:List Nat}{a:List V}{X me':Me},xe is a X=J me'->me'.length=X.length:=by
 intro is
 induction is with
 |nil=>intro a X me' h;induction a using ma with|nil=>exact Ed (ba h) rfl|cons u y=>exact ja h
 |cons i is b=>
  intro a X me' h
  induction a using ma with
  |nil=>exact ja h|cons v c=>exact(b (Oi (x:=xe is c (X.set i (J v))) h).2).trans (yb ..)
theorem gF:∀{is:List Nat}{a:List V}{X:Me}{i:Nat}{o:Option V},i∉is->xe is a (X.set i o)=(xe is a X).map (λx=>x.set i o):=by
 intro is
 induction is with
 |nil=>intro a X i o h;induction a using ma<;>rfl|cons j is c=>
  intro a X i o h
  induction a using ma with
  |nil=>rfl|cons v b=>
   show(if j<(X.set i o).length then xe is b ((X.set i o).set j (J v))else Y)=(if j<X.length then xe is b (X.set j (J v))else Y).map _
   refine U yb (U (List.set_comm _ _ (λq=>h (q▸sa):i≠j)) (U (c λq=>h (oa _ q)) ?_))
   split<;>rfl
theorem QC:∀{is:List Nat}{a:List V}{X:Me}{i:Nat}{v:V},is.length=a.length->xe (is++[i]) (a++[v]) X=(xe is a X).bind λm=>if i<m.length then J (m.set i (J v))else Y:=by
 intro is
 induction is with
 |nil=>intro a X i v h;induction a using ma with|nil=>rfl|cons y z=>exact zc h.symm (Zb _)
 |cons j is c=>
  intro a X i v h
  induction a using ma with
  |nil=>exact zc h (Zb _)|cons u b=>
   show(if j<X.length then xe (is++[i]) (b++[v]) (X.set j (J u))else Y)=(if j<X.length then xe is b (X.set j (J u))else Y).bind _
   refine U (c (Jh h)) ?_
   split<;>rfl
theorem fF:∀{is:List Nat}{a:List V}{X me':Me},is.Nodup->xe is a X=J me'->xe is.reverse a.reverse X=J me':=by
 intro is
 induction is with
 |nil=>intro a X me' b h;induction a using ma with|nil=>exact h|cons u y=>exact ja h
 |cons i is e=>
  intro a X me' b h
  induction a using ma with
  |nil=>exact ja h|cons v f=>
   have b:=Fc.mp b;have q:=Oi (x:=xe is f (X.set i (J v))) h;have c:=q.2;rw[gF b.1]at c;refine qe c λj d k=>(U ll (U ll (U (QC (by rw[zI,zI];exact Jh (Fp h))) (U (e b.2 d) ?_))));show(if i<j.length then _ else _)=_
   exact U (Dd (by rw[PC d];exact q.1)) (U k rfl)
theorem fK:∀{is:List Nat}{a:List V}{X me':Me}{S σ':St},eK tab cf (is.map T.x) a X S=J (me',σ')->xe is a X=J me'/\σ'=S:=by
 intro is
 induction is with
 |nil=>intro a X me' S σ' h;induction a using ma with|nil=>obtain⟨rfl,rfl⟩:=Ta (ba h);exact⟨rfl,rfl⟩|cons y j=>exact ja h
 |cons i is c=>
  intro a X me' S σ' h
  induction a using ma with
  |nil=>exact ja h|cons v j=>
   refine ab h λp d b=>qe d λu e f=>?_;rw[<-f]at b;have z:=c b;exact⟨(Dd (gb (yf e):i<X.length)).trans z.1,z.2⟩
theorem lz:∀{k:List Bb}{is:List Nat}{f:List V}{c:List wa}{X me':Me}{s:Ea},(k.map λp=>xc sl p)=is.map J->R w I O S s.heap->Lc w I W E sl 0 X O s.heap->ue w O s.heap f c->xe is f X=J me'->
 Qa (bb pg w) A (II (k.map λp=>oS W p) c) (λu=>PA w I W E sl 0 O s S me') No s:=by
 intro k
 induction k with
 |nil=>
  intro is f c X me' s l r b x e
  induction is using ma with
  |cons z j=>exact zc l.symm (Bc _ _)|nil=>
   induction f using ma with
   |cons z j=>exact ja e|nil=>rw[<-ba e,(x.wF:c=[])];exact ao ⟨rfl,Kp.refl,r,b⟩
 |cons y k j=>
  intro is f c X me' s l r b x e
  induction is using ma with
  |nil=>exact zc l (Bc _ _)|cons i is=>
   refine aa λd=>?_
   induction f using ma with
   |nil=>refine d ?_;clear d;exact ja e|cons v m=>
    refine d ?_;clear d;refine aa λd=>?_;obtain⟨a,as,rfl,o,p⟩:=x.wF;refine d ?_;clear d;have st:Qa (bb pg w) A (oS W y a) (λu=>PA w I W E sl 0 O s S (X.set i (J v))) No s:=by
     unfold oS;exact ga (Kb (GA (ga (Da (cD (Xd l) (td _) r b o) (λu u h=>GA h) λu u x=>x))))
    refine Zn (Da st (λu F h=>?_) λu u x=>x);obtain⟨q,k1,t,z⟩:=h;exact Da (j (wd l) t z (k1.vrs p) (Oi (x:=xe is m (X.set i (J v))) e).2) (λu G B=>PA.after q k1 B) λu u x=>x
theorem ue.reverse{h:qb}{b:List V}{c:List wa}(x:ue w O h b c):ue w O h b.reverse c.reverse:=
 x.ind (P:=λb c=>ue w O h b.reverse c.reverse) .nil λu u u u a u d=>by
  exact U ll (U ll (d.append (ue.one a)))
theorem Su{y j:List Expr}{k l:Nat}{p t h:Om}{c:List Bb}{is:List Nat}{F:Me->St->Option (V×St)}(AK:Dg n A)(hw:Du [.Tuple y k p] (.Tuple j l t) W=pure (J c))(P:(c.map λx=>xc sl x)=is.map J)(hd:is.Nodup)
 (hf:∀X,uc w I A W E sl 0 X (yc (.Tuple j l t) W) (F X)):
 Df w I A W E sl (iE (.Assign [.Tuple y k p] (.Tuple j l t) h) W) (λX S=>(F X S).bind λq=>(JK tab cf (.t (is.map T.x)) q.1 X q.2).map pJ):=λX O S s D me' σ' r b e=>ab e λq e1 e=>qe e λR e2 e3=>ab e2 λxs e4 e5=>by
 obtain⟨rfl,zz⟩:=Ta e3;obtain⟨rfl,rfl⟩:=Ta zz;obtain⟨hA,x⟩:=fK (me':=R.1) (σ':=R.2) e5;refine U (arm_exec_Assign _ _ _ _) ?_;show Qa _ _ (bk h>>=λu=>Jt (.Tuple j l t) (J (.Tuple y k p)) h.line W>>=_) _ _ _
 refine U (Un rfl) (ga (lc (ga (ta (U (fe ia) (ga (Da (hf X O S s r b _ _ e1) (λB v p1=>?_) λu u z=>z)))))));obtain⟨L,t1,k1,r1,x1⟩:=p1;refine U hw (ga (ta ?_));unfold assignStores;have G:c.length=is.length:=by have:=Gc nj P;rwa [ya,ya]at this
 refine aa λnq=>?_;obtain⟨a,f,m,rfl,x2,ea,la,qa⟩:=(Vl e4▸x1:VR w L v.heap (.t xs) B).wF;refine nq (ga (Xj (ga (U (show c.length=f.toArray.size by rw[Hb,<-qa.length,G,Fp hA]) (wpAny_unpackItems_tuple AK.hh (s:=v) (items:=f.toArray) (lf ea) λh' i=>?_)))));have d:∀a o,v.heap.get? a=J o->h'.get? a=J o:=λa o e=>i a o (ic (qc e)) e;refine ga (Da (lz (A:=A) (s:={v with heap:=h'}) (by exact U jR (U P (U jR rfl))) (r1.wI d) ((b.kx r k1).wI r1 d) ((qa.mono (Ja _) λa o e u=>d a o e).reverse) (fF hd hA)) (λu s2 p2=>?_) λu u z=>z);obtain⟨z,k2,r2,E2⟩:=p2;exact ta ⟨L,t1.trans z.past,((k1.kp b).trans (Kp.wI d)).trans k2,x▸r2,E2,.next⟩
end
section
variable [E:Av]
def wk(e:Expr):Bool:=(DF e).isSome
noncomputable def a9:He->Bool
 |.Add|.Sub=>Z|_=>ua
noncomputable def zT(z:Expr):Bool:=match z with|.ListComp .. =>Z|_=>ua
theorem AT{e:Expr}(h:zT e=Z):∃a b c d,e=.ListComp a b c d:=by
 induction e using Expr.casesOn<;>first|exact zc h ia|exact⟨_,_,_,_,rfl⟩
theorem Wr{e:Expr}(h:wk e=Z):∃a b c,e=.Tuple a b c:=by
 obtain⟨x,h⟩:=Na.mp h;exact⟨x,Nw h⟩
noncomputable def dG(z:Expr):Option (Expr×List Expr×List eL×Om):=match z with|.Call f a b p=>J (f,a,b,p)|_=>Y
theorem Lr{e:Expr}{q:Expr×List Expr×List eL×Om}(h:dG e=J q):e=.Call q.1 q.2.1 q.2.2.1 q.2.2.2:=by
 induction e using Expr.casesOn<;>first|exact ja h|cases ba h;rfl
def qdm(p:Expr×List Expr×List eL×Om):Option (Bb×List Expr):=(Ge p.2.2.1.isEmpty).bind λu=>(Wv p.1).map λz=>(z,p.2.1)
def XV(e:Expr):Option (Bb×List Expr):=(dG e).bind qdm
theorem YV{e:Expr}{z:Bb}{a:List Expr}(h:XV e=J (z,a)):∃b d,e=.Call (.Name z b) a [] d:=ab h λq f i=>ab i λu j k=>qe k λx l c=>by
 obtain⟨b,m⟩:=Ll l;exact⟨b,q.2.2.2,by exact U (Lr f) (U m (U (Be.mp (yf j)) (U (show x=z from Gc oj c) (U (show q.2.1=a from Gc WF c) rfl))))⟩
mutual
noncomputable def qep(g:Gl)(q:Nat)(d:Sc)(f:dz):Option S:=match q,d,f with
 |0,u,j=>Y|n+1,W,st=>match st with
  |.Assign h x u=>(match h with
   |[t]=>if xp t&&zT x then(match t,x with
    |.Name y m,.ListComp l c a b=>
     if W.kinds.lookup y==J .local then
      (if m.line==b.line&& !(a.names.any λ(n,k)=>n==y&&(k== .local||k== .cell))then
       Jr (Eh g (n+1) W (.ListComp l c a b)) (Vs W y) (λe i=>J (.assign (.x i) e))
      else Y)
     else Jr (Eh g n W (.ListComp l c a b)) (Vs W y) (λe i=>J (.assign (.x i) e))
    |u,j=>Y)
    else if wk t&&wk x then(match t,x with
     |.Tuple h k p,.Tuple b c l=>nt (Hw W h b) (λw=>match w with|none=>Jr (Y1 g n W (.Tuple h k p)) (Eh g n W (.Tuple b c l)) (λt e=>J (.assign t e))|some a=>Jr (Oz W h) (Eh g n W (.Tuple b c l)) λis e=>if decide (a.map (λx=>xc W.sl x)=is.map J/\is.Nodup)then J (.assign (.t (is.map T.x)) e)else Y)
     |u,j=>Y)
    else if Lv x then Y else Jr (Y1 g n W t) (Eh g n W x) (λj e=>J (.assign j e))
   |_=>Y)
  |.AugAssign t a x u=>(match t with|.Subscript o i u=>if a9 a&& !ym i then aG (Eh g n W o) (Eh g n W i) (Eh g n W x) λb c e=>J (.aug b c a e)else Y|_=>Y)
  |.Expr x u=>if Lv x then Y else nt (Eh g n W x) (λe=>J (.expr e))|.If t a b u=>aG (xV g n W t) (Lo g n W a) (Lo g n W b) (λj h c=>J (.ifs j h c))|.While t b i u=>(match i with|[]=>Jr (xV g n W t) (Lo g n W b) (λj c=>J (.whil j c))|_=>Y)
  |.For h a b i u=>(match i with
   |[]=>(match XV a with
    |some (z,j)=>if decide (g.glob z=J (.type "zip"))then
     (if(W.kinds.lookup z==J .globalImplicit&&Am z)&&wk h then aG (Xk W h) (yx g n W j) (Lo g n W b) λt k c=>J (.forz t k c)else Y)
     else aG (Xk W h) (Eh g n W a) (Lo g n W b) (λt e c=>J (.fors t e c))
    |none=>aG (Xk W h) (Eh g n W a) (Lo g n W b) λt e c=>J (.fors t e c))
   |_=>Y)
  |.Return v u=>nt v (λx=>nt (Eh g n W x) λe=>J (.ret e))|_=>Y
noncomputable def Lo(g:Gl)(z:Nat)(j:Sc)(q:List dz):Option (List S):=match z,j,q with|0,u,y=>Y|u+1,y,[]=>J []|n+1,W,st::a=>Jr (qep g n W st) (Lo g n W a) λx b=>J (x::b)
end
def MA(w:zb)(O:qb)(K:Ue)(g:Gl):Prop:=
 ∀{n:Nat}{A:Yb}{X:zj}{Q:Ca->Prop}{W:Sc}{z:Bb}{j k f:Om}{h:Expr}{d:List Expr}{b:List dz}{t:CT}{G:Me->St->Option (List V×St)}{a:Me->St->Option (Fl×Me×St)},
  Dg n A->X.scope.names=W.kinds->g.glob z=J (.type "zip")->X.kindOf z=J .globalImplicit->Am z=Z->wk h=Z->Xk W h=J t->(∀e∈d,∀x p,e≠jd x p)->
  (∀R f,Vi w O A X Q W.sl 0 R (kj (og f (starEach d X))) (G R))->(∀c:Av,@Df c w O A X Q W.sl (uu b X) a)->
  Df w O A X Q W.sl (iE (.For h (.Call (.Name z j) d [] k) b [] f) X) λR e=>(G R e).bind λp=>((Wn p.1).bind ZV).bind λc=>Gq 5000 (.st c) 0 (λv R e=>(ql t v R).bind λi=>a i e) R p.2
variable {w:zb} {O:qb} {A:Yb} {X:zj} {Q:Ca->Prop} {F:List Bb} {lo:Nat} {R I:Me} {K:Ue} {P:Bh} {n N:Nat} {g:Gl} {L:Nat->List V->St->Option (V×St)} {W:Sc}
theorem PZ{tg x:Expr}(h:(wk x&&wk tg)=ua)(hl:∀es p,tg≠ .List es p):Du [tg] x X=pure Y:=by
 induction tg using Expr.casesOn<;>first|rfl|exact zc rfl (hl _ _)|skip
 induction x using Expr.casesOn<;>first|rfl|exact Bd h
theorem qaI{a:He}(h:a9 a=Z):a=.Add\/a=.Sub:=by
 induction a<;>first|exact .inl rfl|exact .inr rfl|exact zc h ia
theorem Uu{i:Expr}(h:ym i=ua)(b c a:wa):augStore i b c a=(do dj [a,b,c] (ux b c a);qff [a,b,c] [];pure .next):=by
 induction i using Expr.casesOn<;>first|rfl|exact Bd h
theorem Df.out{st:Yl PK}{r:Me->St->Option (Fl×Me×St)}{y x:S}(h:J y=J x)(q:Df w O A X Q F st r)(e:∀R a,gE P L y R a=r R a):Df w O A X Q F st (λR a=>gE P L x R a):=ba h▸Df.congr q e
structure ZX(w:zb)(O:qb)(A:Yb)(P:Bh)(g:Gl)(L:Nat->List V->St->Option (V×St))(N:Nat):Prop where
 one:∀W st t X Q,X.scope.names=W.kinds->qep g N W st=J t->Df w O A X Q W.sl (iE st X) (λR σ=>gE P L t R σ)
 all:∀W ss ts X Q,X.scope.names=W.kinds->Lo g N W ss=J ts->Df w O A X Q W.sl (uu ss X) λR σ=>vv P L ts R σ
omit [E:Av]in
theorem rF(x1:∀f:Av,@Cx f w O K P g L n)(ZO:∀f:Av,@MA f w O K g)(AK:Dg (n+1) A):∀N(f:Av),@ZX f w O A P g L N:=by
 intro N
 induction N with
 |zero=>
  rintro f;exact⟨λW e t X Q o h=>ja h,λW es ts X Q o h=>ja h⟩
 |succ N ih=>
  rintro f;have SI:=ih;have S:=SI f;have SE:=Qs (x1 f) AK N;have SA:=j1 (x1 f) AK N;refine⟨λW st t X Q o h=>?_,λW ss ts X Q o h=>?_⟩
  ·have kindOf:∀y k,W.kinds.lookup y=J k->X.kindOf y=J k:=λy k q=>by unfold mn;refine U o ?_;exact q
   induction st using b4 with
   |Return v p=>
    refine De h λx a h=>?_;subst a;exact De h λy q h=>(Df.out h (Q0 λR=>SE.E W _ y X Q 0 R o q) λR C=>rfl)
   |Assign ts x p=>
    rcases ts with _|⟨t0,_|_⟩<;>try (exact ja h)
    by_cases h1:(xp t0&&zT x)=Z
    ·refine aa λT=>?_
     obtain⟨y,py,rfl⟩:=Vr (Aa.mp h1).1;obtain⟨d,c,a,b,rfl⟩:=AT (Aa.mp h1).2;refine T ?_;clear T;replace h:(if W.kinds.lookup y==J .local then
      (if py.line==b.line&& !(a.names.any λ(n,k)=>n==y&&(k== .local||k== .cell))then
       Jr (Eh g (N+1) W (.ListComp d c a b)) (Vs W y) (λe i=>J (.assign (.x i) e))
      else Y)
      else Jr (Eh g N W (.ListComp d c a b)) (Vs W y) λe i=>J (.assign (.x i) e))=J t:=h
     have e1:∀l,Jt (.ListComp d c a b) (J (.Name y py)) l X=pure (X.blockKind== .function&&X.kindOf y==J .local&&py.line==b.line&& !(a.names.any λ(n,k)=>n==y&&(k== .local||k== .cell))):=λl=>rfl;by_cases hl:(W.kinds.lookup y==J .local)=Z
     ·rw[Dd hl]at h
      refine ae h λG h=>(qd h λe i D B h=>?_);refine Df.out h (bx AK SE o D B λj=>?_) λR C=>?_
      ·refine U (e1 _) ?_
       have O:X.blockKind=.function:=by unfold P3;refine U j ?_;rfl
       refine U O (U (kindOf _ _ (by simpa using hl)) ?_);simp only[Ad]at G;simp only[beq_self_eq_true,xA,G.1,G.2]
      ·rfl
     ·rw[fe hl]at h
      refine qd h λe i D B h=>?_;have x2:∀l,Jt (.ListComp d c a b) (J (.Name y py)) l X=pure ua:=λl=>by
       have h2:(X.kindOf y==J xd.local)=ua:=by unfold mn;refine U o ?_;simpa using hl
       refine U (e1 _) (U h2 ?_);simp
      have gA:aq w O A X Q W.sl (λv=>assign (.Name y py) X v) (λv R C=>JK P L (.x i) v R C):=by
       exactλv x4 R ρ C s I j r m xv e=>qe e λu u e=>by
        obtain⟨rfl,rfl⟩:=Ta e;exact Da (lh (Xl B) (td _) r m xv) (λu u p=>PA.pt p) λu u z=>z
      exact Df.out h (Hr (λu u=>by simp) (x2 _) rfl (λR=>SE.E W _ e X Q 0 R o D) gA) λR C=>rfl
    ·by_cases h2:(wk t0&&wk x)=Z
     ·obtain⟨ts,k,p,rfl⟩:=Wr (Aa.mp h2).1
      obtain⟨i,l,v,rfl⟩:=Wr (Aa.mp h2).2;refine De h λw d h=>(aa λT=>?_)
      induction w with
      |none=>
       refine T ?_;clear T;exact qd h λt e D B h=>(Df.out h (λR ρ C s a I j r m b=>Hr (λu u=>by simp) (Un rfl) (kI m.kind o d) (λR=>SE.E W _ e X Q 0 R o B) (SA.one W _ t X Q o D).1 R ρ C s a I j r m b) λR C=>rfl)
      |some c=>
       refine T ?_;clear T;refine qd h λis e D B h=>(ae h λG h=>?_);have G:=Nl G;exact Df.out h (λR ρ C s a I j r m b=>Su (tab:=P) (cf:=L) AK (kI m.kind o d) G.1 G.2 (λR=>SE.E W _ e X Q 0 R o B) R ρ C s a I j r m b) λR C=>rfl
     ·replace h:(if xp t0&&zT x then _ else if wk t0&&wk x then _ else if Lv x then Y else Jr (Y1 g N W t0) (Eh g N W x) λl e=>J (.assign l e))=J t:=h
      rw[fe h1,fe h2]at h;refine Dj h λG h=>(qd h λl e D B h=>?_);refine Df.out h (Hr ((SA.one W _ l X Q o D).2) (Un G) (PZ (by refine U (Bool.and_comm _ _) ?_;simpa using h2) λes p z=>?_) (λR=>SE.E W _ e X Q 0 R o B) (SA.one W _ l X Q o D).1) λR C=>rfl;subst z
      induction N using Sa<;>exact ja D
   |AugAssign t0 j x p=>
    induction t0 using Expr.casesOn<;>try (exact ja h)
    refine ae h λG h=>(Ji h λb c e D B r h=>?_);simp only[Ad,Se]at G;exact Df.out h (kY (λd i a=>Uu G.2 d i a) (λR=>SE.E W _ b X Q 0 R o D) (λR=>SE.E W _ c X Q 0 R o B) λR=>SE.E W _ e X Q 0 R o r) λR C=>rfl
   |For c a b s p=>
    induction s using ma with
    |cons j d=>exact ja h|nil=>
     have Hd:aG (Xk W c) (Eh g N W a) (Lo g N W b) (λt e i=>J (Mine.Internal.S.fors t e i))=J t->Df w O A X Q W.sl (iE (.For c a b [] p) X) (λR C=>gE P L t R C):=λh=>by
      exact Ji h λt e i D B r h=>(Df.out h (QY AK D (Hm B) (λR=>SE.E W _ e X Q 0 R o B) (S.all W _ i X Q o r)) λR C=>rfl)
     replace h:(match XV a with
      |some (z,m)=>if decide (g.glob z=J (.type "zip"))then
       (if(W.kinds.lookup z==J .globalImplicit&&Am z)&&wk c then aG (Xk W c) (yx g N W m) (Lo g N W b) λt u i=>J (.forz t u i)else Y)
       else aG (Xk W c) (Eh g N W a) (Lo g N W b) (λt e i=>J (.fors t e i))
      |none=>aG (Xk W c) (Eh g N W a) (Lo g N W b) λt e i=>J (.fors t e i))=J t:=h
     induction e:XV a with
     |none=>rw[e]at h;exact Hd h|some za=>
      refine aa λT=>?_;obtain⟨z,m⟩:=za;refine T ?_;clear T;rw[e]at h
      dsimp only at h
      by_cases v:decide (g.glob z=J (.type "zip"))=Z
      ·rw[Dd v]at h
       obtain⟨zp,cp,rfl⟩:=YV e;refine ae h λG h=>(Ji h λt u i D B r h=>?_);simp only[Ad,beq_iff_eq]at G;exact Df.out h (ZO f AK o (Nl v) (kindOf _ _ G.1.1) G.1.2 G.2 D (SE.Es W _ u X Q 0 [] default o B).2 (λR x3=>(SE.Es W _ u X Q 0 R x3 o B).1) λf=>(SI f).all W _ i X Q o r) λR C=>rfl
      ·rw[fe v]at h;exact Hd h
   |While c b s p=>
    induction s using ma with
    |cons j d=>exact ja h|nil=>
     exact qd h λl i D B h=>(Df.out h (VQ AK (λR=>SE.T W _ l X Q 0 R o D) (S.all W _ i X Q o B)) λR C=>rfl)
   |If c a b p=>
    exact Ji h λl d i D B r h=>(Df.out h (U7 (λR=>SE.T W _ l X Q 0 R o D) (S.all W _ d X Q o B) (S.all W _ i X Q o r)) λR C=>rfl)
   |Expr x p=>
    exact Dj h λG h=>(De h λy q h=>(Df.out h (jT G λR=>SE.E W _ y X Q 0 R o q) λR C=>rfl))
   |_=>exact ja h
  ·induction ss using ma with
   |nil=>obtain rfl:=ba h;exact Df.congr vz λR C=>rfl|cons a ss=>
    refine qd h λx u D B h=>?_;obtain rfl:=ba h;exact Df.congr (jx (S.one W a x X Q o D) (S.all W ss u X Q o B)) λR C=>rfl
end
section
variable {x:Bb} {v:wa}
theorem XA{c:Bb->Option xd}{a:List (Bb×wa)}:{m:Bb->Option wa}->(∀p∈a,p.1≠x)->qbo c a m x=m x:=by
 induction a with
 |nil=>exactλu=>rfl|cons p r d=>
  intro m h;have b:¬x=p.1:=λq=>h p sa q.symm;unfold qbo;refine U (d λp e=>h p (oa _ e)) ?_
  split<;>simp[b]
theorem QI{c:Bb->Option xd}(d:c x=J .local){a:List (Bb×wa)}:{m:Bb->Option wa}->(a.map λx=>x.1).Nodup->(x,v)∈a->qbo c a m x=J v:=by
 induction a with
 |nil=>exactλu h=>(Tb h).elim|cons p r e=>
  intro m b h;obtain⟨y,u⟩:=p;rw[Vb,Fc]at b;unfold qbo;rcases fb.mp h with q|q
  ·obtain⟨rfl,rfl⟩:=Ta q
   refine U (XA λp f q=>b.1 (Rb.mpr ⟨p,f,q⟩)) ?_;simp[d]
  ·exact e b.2 q
theorem VA{c:Bb->Option xd}{a:List (Bb×wa)}:{m:Bb->Option wa}->(∀p∈a,p.1≠x)->qbn c a m x=m x:=by
 induction a with
 |nil=>exactλu=>rfl|cons p r d=>
  intro m h;have b:¬x=p.1:=λq=>h p sa q.symm;unfold qbn;refine U (d λp e=>h p (oa _ e)) ?_
  split<;>simp[b]
theorem OI{c:Bb->Option xd}(d:c x=J .cell){a:List (Bb×wa)}:{m:Bb->Option wa}->(a.map λx=>x.1).Nodup->(x,v)∈a->qbn c a m x=J v:=by
 induction a with
 |nil=>exactλu h=>(Tb h).elim|cons p r e=>
  intro m b h;obtain⟨y,u⟩:=p;rw[Vb,Fc]at b;unfold qbn;rcases fb.mp h with q|q
  ·obtain⟨rfl,rfl⟩:=Ta q
   refine U (VA λp f q=>b.1 (Rb.mpr ⟨p,f,q⟩)) ?_;simp[d]
  ·exact e b.2 q
theorem FE{b:List Bb}{a:List wa}(h:b.length=a.length)(c:x∈b):((b.zip a).lookup x).isSome=Z:=by
 induction b generalizing a with
 |nil=>cases c|cons y b d=>
  induction a using ma with
  |nil=>simp at h|cons v a=>
   refine U HK (U Mc ?_);by_cases q:x=y
   ·subst q;simp
   ·have e:(x==y)=ua:=by simpa using q
    simp only[e];exact d (by simpa using h) ((fb.mp c).resolve_left q)
theorem Az{b c:Type}{f g:b->Option c}:{l:List b}->(∀x∈l,f x=g x)->l.filterMap f=l.filterMap g:=by
 intro l
 induction l with
 |nil=>
  rintro _;exact rfl
 |cons a l d=>
  rintro h;exact U Fj (U Fj (U (h a sa) (U (d λx e=>h x (oa _ e)) rfl)))
theorem cR:∀{b:List Bb}{a:List wa},b.Nodup->b.length=a.length->(b.filterMap λn=>((b.zip a).lookup n).map λx=>(n,x))=b.zip a:=by
 intro b
 induction b with
 |nil=>
  intro a c h
  induction a using ma with
  |nil=>rfl|cons v a=>exact zc h.symm (Zb _)
 |cons x b d=>
  intro a c h
  induction a using ma with
  |nil=>exact zc h (Zb _)|cons v a=>
   rw[Fc]at c;refine U HK (U Fj (U (by simp[Mc]:(MF x ((x,v)::b.zip a)).map (λy=>(x,y))=J (x,v)) ?_));have e:(b.filterMap λn=>(MF n ((x,v)::b.zip a)).map λx=>(n,x))=b.filterMap λn=>((b.zip a).lookup n).map (λx=>(n,x)):=Az λn f=>by
    have g:(n==x)=ua:=by
     have:n≠x:=λq=>c.1 (q▸f)
     simpa using this
    exact U Mc (U g rfl)
   simp only;exact U e (U (d c.2 (Jh h)) rfl)
theorem yW{p:Prop}{a:Type _}{A:p->a}{B:¬p->a}{d:Decidable p}(h:¬p):(qez (motive:=λu=>a) B A d)=B h:=by
 induction d with
 |isTrue q=>exact zc q h|isFalse q=>rfl
theorem Xu{c:te}{a:List wa}(f:c.params.posonlyargs=[])(g:c.params.kwonlyargs=[])(h:c.params.vararg=Y)(i:c.params.kwarg=Y)(k:c.defaults=.none)(d:(c.params.args.map λx=>x.arg).Nodup)(e:(c.params.args.map λx=>x.arg).length=a.length):
 bindArgs c ⟨a,[]⟩=pure ((c.params.args.map λx=>x.arg).zip a):=by
 obtain⟨z,A,⟨B,b,C,D,E,F,G⟩,I,l,gl,m,o,p,r,K,s,L,N,O⟩:=c
 dsimp only at f g h i k d e
 subst f g h i k;have t:(((b.map λx:Arg=>x.arg)++[]).filterMap λn=>(((b.map λx:Arg=>x.arg).zip a).lookup n).map λx=>(n,x))=(b.map λx:Arg=>x.arg).zip a:=by refine U (Wb _) ?_;exact cR d e
 have u:decide (a.length>(b.map λx=>x.arg).length)=ua:=by refine U e ?_;exact decide_eq_false (dc _)
 have w:∀j,(!(((b.map λx=>x.arg).take j).filter λn=>(((b.map λx=>x.arg).zip a).lookup n).isNone).isEmpty)=ua:=λj=>by
  rw[ai.mpr λx y q=>?_];rfl;have:=FE e (List.mem_of_mem_take y);rw[ik.mp q]at this;exact zc this ia
 conv=>lhs;whnf
 refine(yW ?_).trans ?_
 ·exactλq=>ia ((show(decide (a.length>(b.map λx=>x.arg).length)&&Z)=ua by refine U u ?_;rfl).symm.trans q)
 conv=>lhs;whnf
 refine(yW ?_).trans ?_
 ·exactλq=>ia ((w _).symm.trans q)
 exact U zA (U List.zip_nil_right (Gc (λx=>(pure x:Yl (List (Bb×wa)))) t))
end
noncomputable def QG(z:wa):Bool:=match z with|.none=>Z|_=>ua
def bh(a:te):Sc:=⟨a.scope.names,a.params.args.map (λx=>x.arg)++(Zg a.scope.names).filter λx=> !(a.params.args.map λx=>x.arg).contains x⟩
def wq(a:te):Bool:=
 a.params.posonlyargs.isEmpty&&(a.params.kwonlyargs.isEmpty&&(a.params.vararg.isNone&&(a.params.kwarg.isNone&&(QG a.defaults&&((a.scope.kind== .function)&&(!a.scope.isGenerator&&(!a.scope.isCoroutine
  &&(decide (a.params.args.map λx=>x.arg).Nodup&&((a.globals==mainGlobals)&&((a.builtins==ip)
  &&((a.params.args.map λx=>x.arg).all (λx=>a.scope.names.lookup x==J .local||a.scope.names.lookup x==J .cell)
  &&(a.scope.names.all (λx=>a.scope.names.lookup x.1==J x.2)
  &&(if a.closure.isEmpty=Z then a.scope.names.all λx=> !(x.2== .free)else(a.scope.names.all (λx=> !(x.2== .cell))&&(a.scope.names.all (λx=> !(x.2== .free)||(a.closure.lookup x.1).isSome)&&decide (a.closure.length<=1))))))))))))))))
def AQ(g:Gl)(a:te):Option Fn:=match a.body with|.expr u=>Y|.stmts c=>if wq a then(Lo g 60 (bh a) c).map λb=>⟨a.params.args.length,(bh a).sl.length,b⟩else Y
structure QK(fd:te):Prop where
 po:fd.params.posonlyargs=[]
 ko:fd.params.kwonlyargs=[]
 va:fd.params.vararg=Y
 kw:fd.params.kwarg=Y
 df:fd.defaults=.none
 kind:fd.scope.kind=.function
 gen:fd.scope.isGenerator=ua
 co:fd.scope.isCoroutine=ua
 nd:(fd.params.args.map λx=>x.arg).Nodup
 gl:fd.globals=mainGlobals
 bi:fd.builtins=ip
 ps:∀x∈fd.params.args.map λx=>x.arg,fd.scope.names.lookup x=J .local\/fd.scope.names.lookup x=J .cell
 wJ:∀x k,(x,k)∈fd.scope.names->fd.scope.names.lookup x=J k
 clos:(fd.closure=[]/\∀x k,(x,k)∈fd.scope.names->k≠Ic)\/((∀x k,(x,k)∈fd.scope.names->k≠Gd)/\(∀x k,(x,k)∈fd.scope.names->k=Ic->(fd.closure.lookup x).isSome=Z)/\fd.closure.length<=1)
theorem Xe{a b:Bool}(h:(a&&b)=Z):a=Z:=by induction a<;>first|rfl|exact h
theorem Zc{a b:Bool}(h:(a&&b)=Z):b=Z:=by induction a<;>first|exact h|cases h
theorem QZ{b:Bool}(h:(!b)=Z):b=ua:=by induction b<;>first|rfl|cases h
theorem yB{v:wa}(h:QG v=Z):v=.none:=by induction v<;>first|rfl|exact zc h ia
theorem iH{l:List (Bb×xd)}{n:xd}(h:l.all (λx=> !(x.2==n))=Z):∀x k,(x,k)∈l->k≠n:=λx k a e=>by
 have z:=QZ (md.mp h (x,k) a);rw[e]at z
 induction n<;>cases z
theorem DG{g:te}(h:wq g=Z):QK g:=
 have i:=Zc h;have j:=Zc (Zc i);have l:=Zc (Zc j);have m:=Zc (Zc l);have a:=Zc (Zc m);have b:=Zc (Zc a);have d:=Zc b
 ⟨Be.mp (Xe h),Be.mp (Xe i),ik.mp (Xe (Zc i)),ik.mp (Xe j),yB (Xe (Zc j)),eq_of_beq (Xe l),QZ (Xe (Zc l)),QZ (Xe m),Nl (Xe (Zc m)),eq_of_beq (Xe a),eq_of_beq (Xe (Zc a)),
  λx f=>(xI.mp (md.mp (Xe b) x f)).imp eq_of_beq eq_of_beq,λx k f=>eq_of_beq (md.mp (Xe d) (x,k) f),by
  have z:=Zc d;by_cases c:g.closure.isEmpty=Z
  ·exact .inl ⟨Be.mp c,iH ((Dd c).symm.trans z)⟩
  ·have z:=(fe c).symm.trans z
   refine .inr ⟨iH (Xe z),λx k f e=>?_,Nl (Zc (Zc z))⟩;have y:=md.mp (Xe (Zc z)) (x,k) f;rw[e]at y;exact y⟩
theorem Dg.deeper{n:Nat}{A:Yb}(a:Dg (n+1) A)(b:zj):Dg n (A.deeper b):=
 ⟨a.hh,by show A.depth+1+_+_<=_;have:=a.depth;lia,by show A.units+3+_+_<=_;have:=a.units;lia⟩
section
variable {x:Bb} {i:Nat} {a:Ca}
variable [N:Av]
variable {w:zb} {S:qb} {A:Yb} {K:Ue} {P:Bh} {n:Nat} {g:Gl} {T:List Ca} {Q O:St} {s:Ea} {W:List V} {vals:List wa} {X:te}
theorem pF{b rest:List Bb}(d:∀y∈rest,y∉b)(h:xc (b++rest) x=J i)(c:i<b.length):b[i]?=J x:=by
 have:=Tj h
 rwa [Xa c]at this
theorem ZE{y:Bb}:y∈((Zg X.scope.names).filter λx=> !(X.params.args.map λx=>x.arg).contains x)->y∉X.params.args.map (λx=>x.arg):=λh q=>by
 have:=(Vc.mp h).2;simp only[Se,List.contains_eq_mem,decide_eq_false_iff_not]at this;exact this q
theorem Tv{v:V}(f:W.length=X.params.args.length)(c:xc (bh X).sl x=J i)(b:(W.map J++Ia ((bh X).sl.length - X.params.args.length) Y)[i]?=J (J v)):
 i<X.params.args.length/\(X.params.args.map λx=>x.arg)[i]?=J x/\W[i]?=J v:=by
 have d:i<W.length:=by
  by_cases q:i<W.length
  ·exact q
  ·rw[La (by simpa using q),Te]at b
   split at b<;>(first|exact ja b|cases b)
 refine⟨by lia,pF (λy e=>ZE e) c (by simp;lia:i<(X.params.args.map λx=>x.arg).length),?_⟩;rw[Xa (by simpa using d),Ec]at b
 induction q:W[i]? with
 |none=>rw[q]at b;exact ja b|some u=>rw[q]at b;simp at b;subst b;rfl
theorem Zu{b:wa}(c:(X.params.args.map λx=>x.arg)[i]?=J x)(d:vals[i]?=J b):(x,b)∈(X.params.args.map λx=>x.arg).zip vals:=by
 have:((X.params.args.map λx=>x.arg).zip vals)[i]?=J (x,b):=by refine U (propext bl) ?_;exact⟨c,d⟩
 exact Ma this
theorem Xo{b:List Bb}{vals:List wa}(h:b.Nodup)(c:b.length=vals.length):((b.zip vals).map λx=>x.1).Nodup:=by
 have:(b.zip vals).map (λx=>x.1)=b:=by
  rw[List.map_fst_zip];lia
 exact U this h
theorem Zv(C:QK X)(h:xc (bh X).sl x=J i):X.scope.names.lookup x=J .local\/X.scope.names.lookup x=J .cell:=by
 rcases Xb.mp (Hp h)with q|q
 ·exact C.ps x q
 ·refine aa λb=>?_
  obtain⟨k,z1,z2⟩:=Pq.mp (Vc.mp q).1;refine b ?_;have:=C.wJ _ _ z1;rcases z2 with z2|z2<;>subst z2
  ·exact .inl this
  ·exact .inr this
def qbH(s:Ea)(b:List (Bb×Ca))(a:Ca):Prop:=a=s.heap.objs.size\/∃n,b.lookup n=J a/\s.heap.objs.size<a
theorem iJ{E:Ea}(C:QK X)(x2:X.closure=[])(p:∀x k,(x,k)∈X.scope.names->k≠Ic)(r:R w S T Q s.heap)(x:ue w T s.heap W vals)(hl:W.length=X.params.args.length)
 (I:InCallC s (Wh X s.heap.objs.size a).locals (qbo (Wh X s.heap.objs.size a).kindOf ((X.params.args.map λx=>x.arg).zip vals) λu=>Y) (Wh X s.heap.objs.size a).cells (qbn (Wh X s.heap.objs.size a).kindOf ((X.params.args.map λx=>x.arg).zip vals) λu=>Y) E):
 Lc w S (Wh X s.heap.objs.size a) (qbH s (Wh X s.heap.objs.size a).cells) (bh X).sl 0 (W.map J++Ia ((bh X).sl.length - X.params.args.length) Y) T E.heap:=by
 have x3:=x.length;have t:=Xo C.nd (vals:=vals) (by simp;lia);have hk:=I.toInCall.keep;have hL:(Wh X s.heap.objs.size a).locals=s.heap.objs.size:=rfl;have x1:∀y,(Wh X s.heap.objs.size a).kindOf y=X.scope.names.lookup y:=λy=>rfl;have d:∀y,(y,Gd)∈X.scope.names->∃c,(Wh X s.heap.objs.size a).cells.lookup y=J c:=λy D=>by
  refine aa λm=>?_;obtain⟨e,h,q,j,v,z⟩:=Sk X.scope.names (s.heap.objs.size+1) [];obtain⟨c,f⟩:=j y D;have b:(y,c)∈(Wh X s.heap.objs.size a).cells:=by
   show(y,c)∈Lj _ _ _
   refine U h ?_;simpa using f
  obtain⟨l,o,_⟩:=qh b;exact m (⟨l,o⟩)
 have F:(bh X).sl.length=(W.map J++Ia ((bh X).sl.length - X.params.args.length) (Y:Option V)).length:=by
  have:X.params.args.length<=(bh X).sl.length:=by unfold bh;simp
  simp;lia
 refine⟨C.kind,C.gl,C.bi,F.symm,⟨_,I.toInCall.ns,λy i v z h G=>?_⟩,λy i v z h G=>?_,⟨Hf r (Fb _),Rd r (Fb _),.inl rfl⟩,λy k D h=>?_,I.apart,λy i z u=>?_,λb j=>?_,λb j=>?_⟩
 ·obtain⟨_,m1,L⟩:=Tv hl z G
  obtain⟨l,v1,v2⟩:=x.get L;exact⟨l,QI h t (Zu m1 v1),v2.mono (Ja _) λa o e u=>hk a o e⟩
 ·obtain⟨_,m1,L⟩:=Tv hl z G
  obtain⟨l,v1,v2⟩:=x.get L;have B:(Wh X s.heap.objs.size a).kindOf y=J .cell:=by
   rcases h with q|q
   ·exact q
   ·exact zc rfl (p y _ (mem_of_lookup (show X.scope.names.lookup y=J .free from q)))
  obtain⟨c,f⟩:=d y (mem_of_lookup (show X.scope.names.lookup y=J .cell from B));have:=I.cell y c f;rw[OI B t (Zu m1 v1)]at this;exact⟨c,l,f,this,v2.mono (Ja _) λa o e u=>hk a o e⟩
 ·rcases h with q|q
  ·refine aa λm=>?_
   subst q;obtain⟨c,f⟩:=d y D;exact m (⟨c,_,f,I.cell y c f⟩)
  ·exact zc q (p y k D)
 ·rcases Zv C z with q|q
  ·exact .inl q
  ·refine aa λm=>?_
   obtain⟨c,f⟩:=d y (mem_of_lookup q);refine m ?_;have l:=I.above y c (mem_of_lookup f);exact .inr ⟨q,c,_,f,I.cell y c f,Rd r (yk (vd l)),.inr ⟨y,f,l⟩⟩
 ·rcases j with q|⟨_,_,q⟩
  ·subst q;exact Rd r (Fb _)
  ·exact Rd r (yk (vd q))
 ·rcases j with q|⟨m,q,_⟩
  ·subst q
   obtain⟨o,f,l,e,_⟩:=I.toInCall.ns;refine U (show E.heap.get? s.heap.objs.size=J o from e) ?_;rfl
  ·obtain⟨o,e,_⟩:=I.cell m b q
   refine U e ?_;rfl
theorem aF:∀{l:List (Bb×wa)}{x:Bb}{v:wa},(l.map λx=>x.1).Nodup->(x,v)∈l->l.reverse.lookup x=J v:=by
 intro l x v c h;have d:(x,v)∈l.reverse:=kR.mpr h;obtain⟨e,f,j⟩:=qh d;have k:(x,e)∈l:=kR.mp j;refine U f ?_;have:e=v:=by
  clear f j d
  induction l with
  |nil=>cases h|cons p r o=>
   rw[Vb,Fc]at c;rcases fb.mp h with a|a
   ·refine aa λm=>?_
    subst a;refine m ?_;clear m;rcases fb.mp k with b|b
    ·cases b;rfl
    ·exact zc (Rb.mpr ⟨_,b,rfl⟩) c.1
   ·rcases fb.mp k with b|b
    ·subst b;exact zc (Rb.mpr ⟨_,a,rfl⟩) c.1
    ·exact o c.2 a b
 exact U this rfl
theorem wG{B:qb}(C:QK X)(m:∀x k,(x,k)∈X.scope.names->k≠Gd)(D:∀x k,(x,k)∈X.scope.names->k=Ic->(X.closure.lookup x).isSome=Z)(E:X.closure.length<=1)(F:∀n c,X.closure.lookup n=J c->∃v,S.IsCell c v)
 (r:R w S T Q s.heap)(x:ue w T s.heap W vals)(hl:W.length=X.params.args.length)(t:B.Ns s.heap.objs.size λx=>((X.params.args.map λx=>x.arg).zip vals).reverse.lookup x)(L:∀b o,s.heap.get? b=J o->B.get? b=J o):
 Lc w S (gg X s.heap.objs.size a) (λa=>a=s.heap.objs.size) (bh X).sl 0 (W.map J++Ia ((bh X).sl.length - X.params.args.length) Y) T B:=by
 have x1:=x.length;have l:∀y,(gg X s.heap.objs.size a).kindOf y≠J .cell:=λy q=>m y _ (mem_of_lookup (show X.scope.names.lookup y=J .cell from q)) rfl;have G:(bh X).sl.length=(W.map J++Ia ((bh X).sl.length - X.params.args.length) (Y:Option V)).length:=by
  have:X.params.args.length<=(bh X).sl.length:=by unfold bh;simp
  simp;lia
 have I:X.closure.Pairwise λx y=>x.2≠y.2:=by
  match e:X.closure,E with
  |[],j=>exact .nil|[p],j=>exact JA _ _|j::d::f,h=>simp at h
 refine⟨C.kind,C.gl,C.bi,G.symm,⟨_,t,λy i v h d p=>?_⟩,λy i v h d p=>?_,⟨Hf r (Fb _),Rd r (Fb _),rfl⟩,λy k hy d=>?_,I,λy i h u=>?_,λb f=>?_,λb f=>?_⟩
 ·refine aa λz=>?_
  obtain⟨_,m1,m2⟩:=Tv hl h p;obtain⟨j,v1,v2⟩:=x.get m2;exact z (⟨j,aF (Xo C.nd (vals:=vals) (by simp;lia)) (Zu m1 v1),v2.mono (Ja _) λa o e u=>L a o e⟩)
 ·rcases Zv C h with q|q
  ·rcases d with z|z<;> · rw[show(gg X s.heap.objs.size a).kindOf y=X.scope.names.lookup y from rfl,q]at z;cases z
  ·exact zc q (l y)
 ·rcases d with q|q
  ·exact zc q (m y k hy)
  ·have:=D y k hy q
   obtain⟨c,j⟩:=Na.mp this;obtain⟨v,z⟩:=F y c j;exact⟨c,v,j,(z.keeps λb o e=>r.wK b o e).keeps L⟩
 ·rcases Zv C h with q|q
  ·exact .inl q
  ·exact zc q (l y)
 ·subst f;exact Rd r (Fb _)
 ·subst f
  obtain⟨o,c,j,e,_⟩:=t;refine U e ?_;rfl
end
section
structure LA(T:qb)(K:Ue)(O:Bh)(D:Ca):Prop where
 cls:∃o cd,K.lookup D=J o/\o.data=.cls cd
 ty:nsIn K cStatics "thirdparty.any"=J Y
 sup:∀c f,O.sup c=J f->mroIn K c (.ref D)=J Z/\yE K c D "__init__"=J (J (.ref f))/\IQ K (.ref f)=J (.type "function")/\fnIn K f=Z
structure YF(T:qb)(g:Gl)(f:Ca)(W:te)(D:Ca):Prop where
 glob:g.glob "super"=J (.type "super")
 ks:W.scope.names.lookup ("super":Bb)=J .globalImplicit
 kc:W.scope.names.lookup ("__class__":Bb)=J .free
 par:∃ar,(W.params.posonlyargs++W.params.args).head?=J ar/\W.scope.names.lookup ar.arg=J .local/\xc (bh W).sl ar.arg=J 0
 fn:∃o,T.get? f=J o/\o.data=.func W
 code:∃c o vs file tf,W.code=.ref c/\T.get? c=J o/\o.data=.fields vs/\vs[2]?=J (.str file tf)/\((pg.main.file:Bb)==file)=Z
 top:(pg.main.scope.names.lookup ("super":Bb)).isSome=ua
 cell:∃c,W.closure.lookup ("__class__":Bb)=J c/\T.IsCell c (J (.ref D))
noncomputable def qW(a:Expr):Option (Expr×Bb×Om):=match a with|.Attribute o n p=>J (o,n,p)|_=>Y
theorem JI{e:Expr}{q:Expr×Bb×Om}(h:qW e=J q):e=.Attribute q.1 q.2.1 q.2.2:=by
 induction e using Expr.casesOn<;>first|exact ja h|cases ba h;rfl
noncomputable def CW(a:dz):Option Expr:=match a with|.Expr e b=>J e|_=>Y
theorem jJ{st:dz}{e:Expr}(h:CW st=J e):∃p,st=.Expr e p:=by
 induction st using b4<;>first|exact ja h|exact⟨_,by exact U (ba h) rfl⟩
def O9(e:Expr):Option (Bb×Bb×Om×List Expr×Om):=(dG e).bind λq=>(Ge q.2.2.1.isEmpty).bind λa=>(qW q.1).bind λb=>(dG b.1).bind λc=>(Ge (c.2.1.isEmpty&&c.2.2.1.isEmpty)).bind λa=>(Wv c.1).map λs=>(s,b.2.1,b.2.2,q.2.1,q.2.2.2)
def L9(W:te)(q:Bb×Bb×Om×List Expr×Om):Bool:=wq W&&(q.1==("super":Bb))&&(q.2.1==("__init__":Bb))&&(q.2.2.1.endLine==q.2.2.2.2.line)&& !q.2.2.2.1.isEmpty&&decide (q.2.2.2.1.length<29)
def V1(g:Gl)(W:te)(rest:List dz)(q:Bb×Bb×Om×List Expr×Om):Option Fn:=if L9 W q then aG g.sup (yx g 60 (bh W) q.2.2.2.1) (Lo g 60 (bh W) rest) λS x b=>J ⟨W.params.args.length,(bh W).sl.length,.expr (.sup 0 S x)::b⟩else Y
def U1(g:Gl)(W:te)(a:List dz):Option Fn:=match a with|[]=>Y|st::rest=>((CW st).bind O9).bind (V1 g W rest)
def Ry(g:Gl)(W:te):Option Fn:=match W.body with|.stmts a=>U1 g W a|_=>Y
def RK(T:qb)(g:Gl)(b:Nat->Option Fn)(D:Ca):Prop:=∀a d,b a=J d->∃o W,T.get? a=J o/\o.data=.func W/\T.CodeRec W.code W.qualname/\(AQ g W=J d\/(Ry g W=J d/\YF T g a W D))/\∀n c,W.closure.lookup n=J c->∃v,T.IsCell c v
variable [r:Av]
theorem rV{e:Expr}{p:Bb×Bb×Om×List Expr×Om}(h:O9 e=J p):∃E y,e=.Call (.Attribute (.Call (.Name p.1 E) [] [] y) p.2.1 p.2.2.1) p.2.2.2.1 [] p.2.2.2.2:=
 ab h λq j h=>ab h λa k h=>ab h λb l h=>ab h λc m h=>ab h λa o h=>qe h λd B h=>by
 have i:=Aa.mp (yf o);exact Ed h ((Ll B).imp λE P=>⟨c.2.2.2,by exact U (Lr j) (U (JI l) (U (Lr m) (U P (U (Be.mp (yf k)) (U (Be.mp i.1) (U (Be.mp i.2) rfl))))))⟩)
variable {w:zb} {T:qb} {A:Yb} {t:Ca->Prop} {F:Me} {K:Ue} {O:Bh} {n:Nat} {g:Gl} {I:List Ca} {C z:St} {s:Ea} {v:V} {cf:Nat->List V->St->Option (V×St)} {W:te} {L D:Ca} {f S:Nat} {G:List dz} {E y u Q:Om} {N:List Expr} {x:List X}
theorem zF(B:Jk T K O)(GO:Zy T K g)(CF:Gi w T cf n)(AK:Dg n A)(SU:LA T K O D)(SF:YF T g f W D)
 (hn:∀j∈N,∀i p,j≠jd i p)(hG:Vi w T A (gg W L f) t (bh W).sl 0 F (kj (og Q (starEach N (gg W L f)))) λC=>Mi O cf x F C)(hl:(u.endLine==Q.line)=Z)(y9:N≠[])(x9:N.length<29)
 (a:R w T I C s.heap)(b:Lc w T (gg W L f) t (bh W).sl 0 F I s.heap)(j:evX O cf (.sup 0 S x) F C=J (v,z)):
 PySem.wpAt (bb pg w) A (.func G (gg W L f)) (yc (.Call (.Attribute (.Call (.Name "super" E) [] [] y) "__init__" u) N [] Q) (gg W L f)) (PV w T L I s z v) No s:=by
 refine ab j λk q0 j=>ab j λq z3 j=>ab q0 λj' q1 q2=>ab q1 λvj z6 q3=>ab q2 λp hj q4=>ab q4 λe5 z7 q5=>(aa λnq=>?_);obtain⟨y1,rfl⟩:=El q5;have z8:F[0]?=J (J (.ref j')):=by
  refine aa λnq=>(Vg z6 λl z1 z2=>(nq ?_));clear nq;exact z1.trans (Gc J (dn z2 (Gc J (Sh q3))))
 obtain⟨l,m⟩:=p;obtain⟨m1,m2,m3,m4⟩:=SU.sup l S y1;obtain⟨oD,e6,z9,y2⟩:=SU.cls;obtain⟨ar,hp,y3,k6⟩:=SF.par;obtain⟨of,hf,k7⟩:=SF.fn;obtain⟨cc,oc,e7,e3,tf,x7,k8,k9,h3,x8⟩:=SF.code;obtain⟨ce,h4,h5⟩:=SF.cell;obtain⟨o,hm,hv⟩:=b.ns;obtain⟨h6,h7,xv⟩:=hv ar.arg 0 (.ref j') k6 y3 z8;obtain⟨x1,dx,e4,mm,rfl,ha,_,_,_,_,_,_,c⟩:=a.inst hj z7 xv;have X:K.In s.heap:=a.kin B;have y4:=X _ _ z9;refine nq ?_;clear nq;refine U (qdw _ _ _ _ _ _ _) (PySem.wpAt_bind (ks_wpAt_super_base (env:=gg W L f) SF.ks SF.kc (by decide) rfl (a.wK _ _ hf) k7 hp x7 (a.wK _ _ k8) k9 h3 x8 SF.top (ks_loadName_global b.kind SF.ks ?_)));have y5:{d:wa->Ea->Prop}->d (.type "super") s->Qa (bb pg w) A (loadGlobal (gg W L f) "super") d No s:=λhQ=>by
  refine aa λnq=>?_;obtain⟨_,o,hm,x2⟩:=GO.glob "super" _ SF.glob;refine nq ?_;clear nq;have h1:s.heap.Ns (gg W L f).globals o:=by refine U b.globals ?_;exact hm.keeps λx3 x5 j=>a.wK x3 x5 j
  refine aa λnq=>?_;rcases x2 with x2|⟨x2,mb,e,h⟩
  ·refine nq ?_
   clear nq;exact K4 h1 x2 hQ
  ·refine nq ?_
   clear nq;exact xZ h1 x2 (by refine U b.builtins ?_;exact e.keeps λx3 x5 j=>a.wK x3 x5 j) h hQ
 refine y5 ⟨rfl,?_⟩;refine GX b.kind SF.kc h4 (h5.keeps λx3 x5 j=>a.wK x3 x5 j) (UV b.kind y3 hm h7 (ks_wpAny_isType_cls y4 y2 ⟨rfl,?_⟩));refine ks_wpAny_call_super y4 y2 c.at_ c.cls (λl j=>?_) (looks_mroIn X m1) λh1 e1 k1=>?_
 ·have:=c.no
  unfold notCls at this;rw[j]at this;exact Bd this
 refine XF (ga (lc ?_));unfold EZ;refine U (aw x9 hn) (U (by unfold yu;simp[hl]:yu Z (.Call (.Name "super" E) [] [] y) (gg W L f) u Q=pure Q) ?_);refine ga (Kb ?_);have X1:K.In h1:=λx3 x5 j=>k1 _ _ (X x3 x5 j);refine aa λnq=>?_
 induction x6:clsIn K l with
 |none=>refine nq ?_;clear nq;unfold yE at m2;rw[x6]at m2;exact ja m2|some cd=>
 refine nq ?_;clear nq;unfold yE at m2;rw[x6]at m2;obtain⟨o2,h8,y6⟩:∃o2,h1.get? S=J o2/\o2.cls=.type "function":=by
  have h:(K.lookup S).map (λi=>i.cls)=J (.type "function"):=m3
  induction e:K.lookup S with
  |none=>rw[e]at h;exact ja h|some of=>rw[e]at h;exact⟨of,X1 _ _ e,ba h⟩
 refine ks_wpAny_getMethod_super e1 (looks_opaque X1 SU.ty) (l₀:=cd.mro) ?_ rfl X1 m2 h8 y6 (ks_ne X c x6) (by decide) ?_
 ·exactλA d b s h q=>ga ((looks_clsIn X1 x6) A _ b s h (ta q))
 refine ga (ta ?_);obtain⟨e0,er,rfl⟩:∃e0 er,N=e0::er:=by
  refine aa λnq=>?_
  induction N using ma with
  |nil=>refine nq ?_;clear nq;exact zc rfl y9|cons x1 x3=>refine nq ?_;clear nq;exact⟨x1,x3,rfl⟩
 have k2:∀x3 x5,s.heap.get? x3=J x5->(h1.push {cls:=.type "method",data:=.fields #[.ref S,.ref x1]}).get? x3=J x5:=λx3 x5 j=>Ba _ (k1 _ _ j);have k3:=KX.wI (L:=L) (ρ:=I) k2;have r3:=a.wI k2;have E3:=b.wI a k2;have hq:(h1.push {cls:=.type "method",data:=.fields #[.ref S,.ref x1]}).get? h1.objs.size=J (methodObj (.ref S) (.ref x1)):=Oa _ rfl;have h9:h1.objs.size≠L:=λq=>by
  obtain⟨h,_,_,hL,_⟩:=hm;have:=xk k1 (Fb h1);rw[q]at this;rw[show s.heap.get? L=J h from hL]at this;exact ja this.symm
 have e2:og Q (starEach (e0::er) (gg W L f))=(ua,yc e0 (gg W L f))::er.map λj=>(ua,yc j (gg W L f)):=by
  refine U (Gm hn) ?_;unfold og;refine U Qd ?_;rfl
 have y7:=hG I C {s with heap:=h1.push {cls:=.type "method",data:=.fields #[.ref S,.ref x1]},toks:=s.toks+1} r3 E3 _ _ z3;rw[e2]at y7|-;refine uS (P:=MethP K h1.objs.size S (.ref x1)) (Bool.or_eq_false_iff.mpr ⟨List.any_eq_false.mpr λi hx=>(fb.mp hx).elim (λj=>j▸ia) λx2=>(Rb.mp x2).elim λh e=>e.2▸ia,rfl⟩) (keeps_M m4) (qbB (Da y7 (λy8 s2 p2=>?_) λh h i=>i));obtain⟨e8,t4,i,r4,x4⟩:=p2;have h:s2.heap.get? h1.objs.size=J (methodObj (.ref S) (.ref x1)):=i.keep _ _ hq (Hf a (xk k1 (Fb h1))) h9;refine⟨⟨h,r4.kin B⟩,Np (ks_codeAny_call_bound h (Oc (CF A AK S _ (.ref x1::y8) _ _ s2 _ _ L r4 (E3.kx r3 i).loc.1 (.cons (i.vr (k3.vr xv)) x4) j) λq s' e=>?_))⟩;obtain⟨h6,rfl,e⟩:=e;exact PR.after t4.past (k3.trans i) e
end
section
variable {N:List Ca} {O F:St} {s:Ea} {L:Ca} {v:V} {I:Fn} {G:List V} {P:Prop} {h:qb} {W:te}
variable {w:zb} {T:qb} {A:Yb} {K:Ue} {X:Bh} {n d:Nat} {D:Ca} {g:Gl} {Q:Nat->Option Fn}
noncomputable def CG(z:PK):wa:=match z with|.ret v=>v|_=>.none
theorem kE [av:Av]{s1 l:Ea}{m:zj}{r:Ca->Prop}{sl:List Bb}{t:Fl}{c:Me}{f:St}{C:PK}(hL:L∉N)(E:Ah s s1)(i:∀b o,s.heap.get? b=J o->s1.heap.get? b=J o)(B:∀a,r a->s.heap.get? a=Y)
 (R:GY (t,c,f)=(v,O))(p:PF w T m r sl N s1 f c t C l):PV w T L N s O v (CG C) l:=by
 refine aa λS=>?_;obtain⟨b,t2,k,r',E',q⟩:=p;refine S ?_;clear S;have j:∀a o,s.heap.get? a=J o->¬r a:=λa o e q=>by rw[B a q]at e;exact ja e
 have kx:KX L N s.heap l.heap b:=⟨⟨k.pre,λa ha=>(k.fresh a ha).imp_right λq=>(by
  induction z:s.heap.get? a with
  |none=>rfl|some o=>rw[i a o z]at q;exact ja q.symm),λa o e u y=>k.keep a o (i a o e) u (j a o e),λa o e x=>k.imm a o (i a o e) x,λa e=>by
  obtain⟨o,y⟩:=Na.mp e;exact k.live a (by refine U (i a o y) ?_;rfl)⟩,λm0 u=>by obtain⟨o,z,ep,x,e2⟩:=u;exact⟨o,z,ep,k.keep _ _ (i _ _ x) hL (j _ _ x),e2⟩⟩
 induction t with
 |next=>rw[q.wF];obtain⟨rfl,rfl⟩:=Ta R;exact⟨b,E.trans t2,kx,r',.none⟩|ret u=>
  obtain⟨y,rfl,x⟩:=q.wF;obtain⟨rfl,rfl⟩:=Ta R;exact⟨b,E.trans t2,kx,r',x⟩
theorem HH{a:Nat->List V->St->Option (V×St)}(e:zP X a I G F=J (v,O))(k:G.length=I.params->∀p,vv X a I.body (G.map J++Ia (I.slots - I.params) Y) F=J p->GY p=(v,O)->P):P:=by
 refine Vg e λz b c=>(Hs c λp f i=>(k (Uc ?_) p f i))
 induction h:Ub G.length I.params with
 |true=>rfl|false=>rw[h]at b;exact ja b
theorem R.noLimit [f:Av](r:R w T N F h)(B:Jk T K X):h.NoLimit:=by
 obtain⟨c,a,b⟩:=B.statics;exact⟨c,a.keeps λb o e=>r.wK b o e,b⟩
theorem R.code [m:Av](r:R w T N F h){c:wa}{q:Bb}(e:T.CodeRec c q):h.CodeRec c q:=by
 refine aa λi=>?_;obtain⟨c,j,f,t,a,b,k,l⟩:=e;exact i (⟨c,j,f,t,a,r.wK _ _ b,k,l⟩)
theorem Kx [c:Av]{a:List wa}(C:QK W)(x:ue w N h G a)(b:G.length=W.params.args.length):bindArgs W ⟨a,[]⟩=pure ((W.params.args.map λx=>x.arg).zip a):=
 Xu C.po C.ko C.va C.kw C.df C.nd (by exact U (ya _) (Ed x.length (U b rfl)))
theorem YA(B:Jk T K X)(CO:Zp T K X)(GO:Zy T K g)(SO:∀i:Av,@Ij i w T)(ZO:∀i:Av,@MA i w T K g)(SU:LA T K X D)(ih:∀i:Av,@Gi i w T (vl X Q d) (2*d))(IA:Av){j:List wa}{o:yD}{f:Nat}
 (AK:Dg (2*(d+1)) A)(r:R w T N F s.heap)(hL:L∉N)(x:ue w N s.heap G j)(ho:T.get? f=J o)(hd:o.data=.func W)(y3:T.CodeRec W.code W.qualname)(y4:∀n c,W.closure.lookup n=J c->∃v,T.IsCell c v)
 (c:Ry g W=J I)(SF:YF T g f W D)(e:zP X (vl X Q d) I G F=J (v,O)):
 ch (bb pg w) A (.call (.ref f) ⟨j,[]⟩) (λq b=>∃t,q=.ok (.ret t)/\PV w T L N s O v t b) s:=by
 unfold Ry at c
 induction k:W.body<;>rw[k]at c<;>try (exact ja c)
 rename List dz=>ss
 induction ss using ma with
 |nil=>exact ja c|cons st rest=>
 refine ab c λq x3 m=>ab x3 λex y5 hq=>ae m λl p=>Ji p λf2 xs b k8 y6 E x4=>?_;clear p m c x3;refine aa λnq=>?_;obtain⟨sn,nm,ap,es,y7⟩:=q;obtain⟨ep,rfl⟩:=jJ y5;obtain⟨p0,p1,rfl⟩:=rV hq;refine nq ?_;unfold L9 at l;simp only[Ad,decide_eq_true_eq,Se]at l;refine aa λnq=>?_;obtain⟨⟨⟨⟨⟨l,y8⟩,y9⟩,hl⟩,z3⟩,x5⟩:=l;have z6:sn=("super":Bb):=by simpa using y8
 have z7:nm=("__init__":Bb):=by simpa using y9
 subst z6;subst z7;obtain rfl:=ba x4;refine nq ?_;have C:=DG l;refine HH e λx6 pe x7 he=>(aa λnq=>?_);obtain⟨fl,z8,z9⟩:=pe;refine nq (ab x7 λp3 h1 h2=>ab h1 λp4 x8 h4=>qe h4 λu u h5=>?_);rw[<-h5]at h2;have x9:∀i:Av,@Cx i w T K X g (vl X Q d) (2*d):=λi=>⟨B,CO,GO,SO i,ih i⟩;refine aa λnq=>?_;obtain⟨k9,y1,h3⟩:=SF.cell;refine nq ?_;rcases C.clos with⟨k3,_⟩|⟨x2,k4,y2⟩
 ·rw[k3]at y1;exact ja y1
 refine ks_codeAny_call_defAt AK.room (r.wK _ _ ho:s.heap.get? f=J o) hd (r.noLimit B) (r.code y3) k (dR (Kx C x x6)) (λy z=>x2 y.1 y.2 z) (λy z=>(C.ps _ ((λy z=>(JR z).1:∀y∈(W.params.args.map λx=>x.arg).zip j,y.1∈W.params.args.map λx=>x.arg) y z)).elim (λq=>q) λq=>zc rfl (x2 _ _ (mem_of_lookup q))) (λh0 k6 hk=>?_) C.co C.gen C.kind;have E1:=wG (a:=f) C x2 k4 y2 y4 r x x6 k6 hk;have y:Dg (2*d+1) (A.deeper (gg W s.heap.objs.size f)):=Dg.deeper (n:=2*d+1) (AK.less (by exact Gb _)) _;have SE:=(Qs (x9 IA) y 60).Es (bh W) es xs (gg W s.heap.objs.size f) (λa=>a=s.heap.objs.size) 0 (G.map J++Ia ((bh W).sl.length - W.params.args.length) Y) y7 rfl y6;have S:=(rF x9 ZO y 60 IA).all (bh W) rest b (gg W s.heap.objs.size f) (λa=>a=s.heap.objs.size) rfl E;refine ks_wpAt_execs_cons (ks_wpAt_Expr_any (PySem.wpAt_mono (zF (s:={s with heap:=h0,toks:=s.toks+((W.params.args.map λx=>x.arg).zip j).length}) (cf:=vl X Q d) (n:=2*d) B GO (ih IA) (y.less (by exact se _)) SU SF SE.2 SE.1 hl (by intro q;subst q;exact zc z3.symm ia) x5 (r.wI hk) E1 x8) (λt s1 p1=>?_) λu u z=>z.elim) ?_ ?_)
 ·obtain⟨k7,t1,k1,r1,x1⟩:=p1
  exact XF (Da (S _ k7 _ s1 fl z8 z9 r1 (E1.kx (r.wI hk) k1) h2) (λfw s2 p2=>⟨CG fw,(by induction fw<;>rfl),kE (s1:={s with heap:=h0,toks:=s.toks+((W.params.args.map λx=>x.arg).zip j).length}) hL rfl hk (λa ha=>by subst ha;exact Fb _) he (PF.after t1 k1.toKp p2)⟩) λu u z=>z.elim)
 ·unfold qfA;refine U E1.kind ?_;rfl
 ·exact Un rfl
theorem P9{g:Gl}(h:AQ g W=J I)(k:∀a,W.body=.stmts a->(if wq W then(Lo g 60 (bh W) a).map λb=>(⟨W.params.args.length,(bh W).sl.length,b⟩:Fn)else Y)=J I->P):P:=by
 replace h:(match W.body with|.expr u=>Y|.stmts a=>if wq W then(Lo g 60 (bh W) a).map λb=>⟨W.params.args.length,(bh W).sl.length,b⟩else Y)=J I:=h;revert k h
 induction W.body with
 |expr u=>exactλk h=>ja h|stmts a=>exactλk h=>k a rfl h
theorem mz(B:Jk T K X)(CO:Zp T K X)(GO:Zy T K g)(SO:∀i:Av,@Ij i w T)(ZO:∀i:Av,@MA i w T K g)(FO:RK T g Q D)(SU:LA T K X D)(ih:∀i:Av,@Gi i w T (vl X Q d) (2*d))(IA:Av):Gi w T (vl X Q (d+1)) (2*(d+1)):=by
 intro A AK f G k N F s v O L r hL x e;refine ab e λI hf e=>(aa λnq=>?_);obtain⟨o,W,ho,hd,x1,j,x3⟩:=FO f I hf;refine nq ?_;rcases j with j|⟨j,SF⟩
 rotate_left
 ·exact YA B CO GO SO ZO SU ih IA AK r hL x ho hd x1 x3 j SF e
 refine P9 j λE m j=>?_;refine ae j λy2 j=>qe j λb x4 j=>?_;subst j;have C:=DG y2;refine HH e λp pe R he=>(aa λnq=>?_);obtain⟨fl,x5,x6⟩:=pe;refine nq ?_;have x7:s.heap.get? f=J o:=r.wK _ _ ho;have t:=Kx C x p;have x8:∀i:Av,@Cx i w T K X g (vl X Q d) (2*d):=λi=>⟨B,CO,GO,SO i,ih i⟩;have x9:∀y∈(W.params.args.map λx=>x.arg).zip k,y.1∈W.params.args.map (λx=>x.arg):=λy hy=>(JR hy).1;rcases C.clos with⟨y1,y3⟩|⟨x2,y4,y5⟩
 ·refine codeAny_call_cells AK.room x7 hd (r.noLimit B) (r.code x1) m t y1 (λy hy=>?_) (λs1 i=>?_) C.co C.gen C.kind
  ·rcases C.ps _ (x9 y hy)with q|q
   ·exact .inl q
   ·refine .inr ⟨q,?_⟩
    refine aa λnq=>?_;obtain⟨u,z,n1,n2,n3,n4⟩:=Sk W.scope.names (s.heap.objs.size+1) [];obtain⟨c,hc⟩:=n2 y.1 (mem_of_lookup q);obtain⟨c',q1,_⟩:=qh (l:=Lj (s.heap.objs.size+1) W.scope.names []) (x:=y.1) (c:=c) (by refine U z ?_;simpa using hc);refine nq ?_;refine U q1 ?_;rfl
  ·have E1:=iJ (a:=f) C y1 y3 r x p i
   have S:=(rF (n:=2*d) x8 ZO (Dg.deeper (n:=2*d+1) (AK.less (by exact Gb _)) (Wh W s.heap.objs.size f)) 60 IA).all (bh W) E b _ _ rfl x4 _ N F _ fl x5 x6 (r.wI i.toInCall.keep) E1 R;have ts:Ah s s1:=by obtain⟨z,u,rfl⟩:=i.toInCall.same;rfl
   exact Da S (λfw s2 p2=>⟨CG fw,(by induction fw<;>rfl),kE hL ts i.toInCall.keep (λa ha=>ha.elim (λq=>q▸Fb _) λu=>by obtain⟨_,_,q⟩:=u;exact yk (vd q)) he p2⟩) λu u z=>z.elim
 ·refine codeAny_call_def AK.room x7 hd (r.noLimit B) (r.code x1) m (dR t) (λy hy=>x2 y.1 y.2 hy) (λy hy=>(C.ps _ (x9 y hy)).elim (λq=>q) λq=>zc rfl (x2 _ _ (mem_of_lookup q))) (λh0 q hk=>?_) C.co C.gen C.kind
  have E1:=wG (a:=f) C x2 y4 y5 x3 r x p q hk;exact Da ((rF (n:=2*d) x8 ZO (Dg.deeper (n:=2*d+1) (AK.less (by exact Gb _)) (gg W s.heap.objs.size f)) 60 IA).all (bh W) E b _ _ rfl x4 _ N F {s with heap:=h0,toks:=s.toks+((W.params.args.map λx=>x.arg).zip k).length} fl x5 x6 (r.wI hk) E1 R) (λfw s2 p2=>⟨CG fw,(by induction fw<;>rfl),kE (s1:={s with heap:=h0,toks:=s.toks+((W.params.args.map λx=>x.arg).zip k).length}) hL rfl hk (λa ha=>by subst ha;exact Fb _) he p2⟩) λu u z=>z.elim
theorem xS(B:Jk T K X)(c:Zp T K X)(i:Zy T K g)(j:∀a:Av,@Ij a w T)(k:∀a:Av,@MA a w T K g)(l:RK T g Q D)(m:LA T K X D):∀d(a:Av),@Gi a w T (vl X Q d) (2*d):=by
 intro d
 induction d with
 |zero=>
  rintro a;exactλA o f G b N F s v O L r p x e=>ja e
 |succ d b=>
  rintro a;exact mz B c i j k l m (b) a
end
noncomputable def Q7:List (String×wa):=[("_wall",Jc 21),("least",Jc 28),("greatest",Jc 35),("size_domains",Jc 40),("next_from",Jc 47),("has_domains",Jc 54),("values",Jc 61),("up_to",Jc 66),("from_on",Jc 71),("without",Jc 78),("meet",Jc 85),("negation",Jc 92),("struck",Jc 99),("said_of",Jc 106),("Store",Jc 256),("Propagator",Jc 298),("standing",Jc 309),("Placing",Jc 357),("Cardinality",Jc 435),("_law_draw",Jc 444),("_law_domain",Jc 451),("_law_tuples",Jc 456),("_law_keeps",Jc 461),("_law_made",Jc 466),("_law_left",Jc 471),("_law_is_asked_right",Jc 476),
 ("len",Ti "len"),("range",uf "range"),("max",Ti "max"),("min",Ti "min"),("sum",Ti "sum"),("tuple",uf "tuple"),("list",uf "list"),("set",uf "set"),("sorted",Ti "sorted"),("zip",uf "zip"),("super",uf "super")]
def KG:List (Bb×wa):=Q7.map λp=>(Gg p.1,p.2)
def gl:Gl:=⟨λx=>KG.lookup x,J 274⟩
section
variable {d:qbb} {v:wa} {a c:Nat} {V T:Type} {n:Bb} {b:Bool} {X:te}
noncomputable def SG(as:List Ca)(h:qb):Ue:=as.filterMap λa=>(h.get? a).map λo=>(a,o)
theorem NN{h:qb}:{as:List Ca}->(SG as h).In h:=by
 intro as
 induction as with
 |nil=>
  rintro a o e;exact ja e
 |cons b as f=>
  rintro a o e;have f:=f a o;unfold SG at e f;rw[Fj]at e
  induction q:h.get? b with
  |none=>rw[q]at e;exact f e|some x=>
   rw[q]at e;replace e:MF a ((b,x)::as.filterMap λa=>(h.get? a).map λo=>(a,o))=J o:=e;rw[Mc]at e
   induction z:a==b with
   |true=>
    rw[z]at e;exact eq_of_beq z▸(ba e▸q)
   |false=>rw[z]at e;exact f e
noncomputable def qem(z:wa):Option Ca:=match z with|.ref a=>J a|_=>Y
noncomputable def qaK(z:wa):Option Bb:=match z with|.str s u=>J s|_=>Y
noncomputable def qdO(z:qbb):Option (Array Cf):=match z with|.dict e u=>J e|_=>Y
noncomputable def qdQ(z:qbb):Option te:=match z with|.func X=>J X|_=>Y
noncomputable def qev(z:qbb):Option (Array wa):=match z with|.fields e=>J e|_=>Y
noncomputable def qdz(z:qbb):Option (Option wa):=match z with|.cell v=>J v|_=>Y
noncomputable def qdA(z:qbb):Option ClassData:=match z with|.cls e=>J e|_=>Y
theorem zS{f:ClassData}(h:qdA d=J f):d=.cls f:=by induction d<;>first|exact ja h|exact Gc _ (ba h)
theorem CU{a:Ca}(h:qem v=J a):v=.ref a:=by induction v<;>first|exact ja h|exact Gc _ (ba h)
theorem fI{a:Bb}(h:qaK v=J a):∃t,v=.str a t:=by induction v<;>first|exact ja h|exact⟨_,Gc (λx=>qav x _) (ba h)⟩
theorem gT{e:Array Cf}(h:qdO d=J e):∃f,d=.dict e f:=by induction d<;>first|exact ja h|exact⟨_,Gc (λx=>qbb.dict x _) (ba h)⟩
theorem qT{f:te}(h:qdQ d=J f):d=.func f:=by induction d<;>first|exact ja h|exact Gc _ (ba h)
theorem OV{f:Array wa}(h:qev d=J f):d=.fields f:=by induction d<;>first|exact ja h|exact Gc _ (ba h)
theorem yS{f:Option wa}(h:qdz d=J f):d=.cell f:=by induction d<;>first|exact ja h|exact Gc _ (ba h)
theorem aj{o:Option V}{p:V->Bool}(h:o.any p=Z):∃a,o=J a/\p a=Z:=by
 induction o with
 |none=>exact zc h ia|some a=>exact⟨a,rfl,h⟩
theorem Qk{p:V->Bool}{l:List V}(h:l.all p=Z){a:V}(m:a∈l):p a=Z:=md.mp h a m
noncomputable def dZ(o:Option (Option wa))(s:String):Bool:=decide (o=J (J (.builtin s)))
noncomputable def gZ(o:Option (Option wa))(a:Nat):Bool:=decide (o=J (J (.ref a)))
noncomputable def eZ(o:Option (Option wa)):Bool:=decide (o=J Y)
noncomputable def hZ(o:Option wa)(s:String):Bool:=decide (o=J (.type s))
def mo(K:Ue)(c:Nat)(n:Bb):Bool:=
 (dZ (Tk K (.ref c) "__getattribute__") "object.__getattribute__"&&(hasDictIn K c&&(Tk K (.ref c) n).any (noGet K)))
 &&(dZ (Tk K (.ref c) "__setattr__") "object.__setattr__"&&(plainOver K c&&eZ (takerIn K c n)))
def xu(K:Ue)(c:Nat)(e:Bb)(f:Nat):Bool:=
 dZ (Tk K (.ref c) "__getattribute__") "object.__getattribute__"&&(eZ (Tk K (.ref c) "__getattr__")&&(gZ (Tk K (.ref c) e) f&&(hZ (IQ K (.ref f)) "function"&&keepIn K (.ref f))))
def vu(K:Ue)(c f:Nat):Bool:=makesIn K c&&(gZ (Tk K (.ref c) "__init__") f&&hZ (IQ K (.ref f)) "function")
noncomputable def dy(K:Ue)(a:Nat):Option qbb:=(K.lookup a).map λx=>x.data
def pO(K:Ue)(a:Nat):Option (Array Cf):=((dy K a).bind qdO).bind λf=>if f.toList.all (λe=>(qaK e.key).isSome)=Z then J f else Y
variable {K:Ue} {W:qb} {scr:Nat->Option (List Int)}
theorem rz(x:K.In W)(e:dy K a=J d):∃o,W.get? a=J o/\o.data=d:=(ef.mp e).imp λo h=>⟨x _ _ h.1,h.2⟩
theorem Au(x:K.In W){g:Array Cf}(e:pO K a=J g):W.Ns a (qO g):=by
 refine Vg e λf i h=>(Vg i λd j l=>?_);obtain⟨o,m,p⟩:=rz x j;obtain⟨q,r⟩:=gT l;by_cases z:f.toList.all (λe=>(qaK e.key).isSome)=Z
 ·obtain rfl:=ba ((Dd z).symm.trans h)
  refine⟨o,f,q,m,p.trans r,λd s=>?_,λu=>rfl⟩;obtain⟨k,t⟩:=Na.mp (Qk z (Array.mem_toList_iff.mpr s));exact⟨k,fI t⟩
 ·exact ja ((fe z).symm.trans h)
def Bz(K:Ue)(x:Bb)(v:wa):Bool:=DB K v&&((pO K mainGlobals).any λe=>(pO K ip).any λf=>decide (qO e x=J v)||(decide (qO e x=Y)&&decide (qO f x=J v)))
def pT(K:Ue)(a:Nat):Option te:=(dy K a).bind qdQ
def YD(K:Ue)(X:te)(i:Nat)(p:Bb->Bool):Bool:=(qem X.code).any λc=>((dy K c).bind qev).any λe=>((e[i]?:Option wa).bind qaK).any p
def UD(K:Ue)(c:Nat)(p:Option wa->Bool):Bool:=((dy K c).bind qdz).any p
def QM(K:Ue)(a:Nat):Bool:=(pT K a).any λX=>YD K X 1 (λx=>x==X.qualname)&&X.closure.all λp=>UD K p.2 λu=>Z
def pQ(K:Ue)(D:Nat)(c f:Nat):Bool:=decide (mroIn K c (.ref D)=J Z)&&(gZ (yE K c D "__init__") f&&(hZ (IQ K (.ref f)) "function"&&fnIn K f))
def Tn(K:Ue)(g:Gl)(D:Nat)(X:te):Bool:=
 decide (g.glob "super"=J (.type "super"))&&(decide (X.scope.names.lookup ("super":Bb)=J .globalImplicit)&&(decide (X.scope.names.lookup ("__class__":Bb)=J .free)
 &&(((X.params.posonlyargs++X.params.args).head?.any λe=>decide (X.scope.names.lookup e.arg=J .local)&&decide (xc (bh X).sl e.arg=J 0))
 &&(YD K X 2 (λx=>pg.main.file==x)&&(!(pg.main.scope.names.lookup ("super":Bb)).isSome
 &&(X.closure.lookup ("__class__":Bb)).any λc=>UD K c λv=>decide (v=J (.ref D)))))))
def P1(K:Ue)(a:Nat):Option Fn:=(pT K a).bind λX=>nR (AQ gl X) (if Tn K gl 435 X=Z then Ry gl X else Y) J
def IN(K:Ue):Bool:=
 jq.all (λp=>p.2.all λn=>mo K p.1 n)&&(Vv.all (λp=>p.2.all λq=>xu K p.1 q.1 q.2)&&(vB.all (λp=>vu K p.1 p.2)
 &&(KG.all (λp=>Bz K p.1 p.2)&&(RM.all (λp=>QM K p.1)
 &&((K.lookup sysModules).isSome&&((pO K cStatics).any (λe=>decide (qO e "sys.recursionlimit"=Y))
 &&(H1.all (λp=>pQ K 435 p.1 p.2)&&(((dy K 435).bind qdA).isSome&&(eZ (nsIn K cStatics "thirdparty.any")
 &&(pO K mainGlobals).any λe=>decide (qO e "law"=J (.ref 481)))))))))))
theorem Ng [BEq V] [LawfulBEq V]:∀{l:List (V×T)}{a:V}{b:T},l.lookup a=J b->(a,b)∈l:=by
 intro l
 induction l with
 |nil=>
  rintro a b h;exact ja h
 |cons e r f=>
  obtain⟨k,v⟩:=e;rintro a b h;rw[Mc]at h
  induction z:a==k with
  |true=>rw[z]at h;refine U (eq_of_beq z) (U (ba h) ?_);exact sa|false=>rw[z]at h;exact oa _ (f h)
structure am(K:Ue):Prop where
 chk:IN K=Z
 fns:(RM.map λp=>P1 K p.1)=RM.map λp=>J p.2
theorem nK(h:(wx scr).attr c n=Z):∃e,(c,e)∈jq/\n∈e:=by
 replace h:(match jq.lookup c with|some e=>e.contains n|none=>ua)=Z:=h
 induction q:jq.lookup c with
 |none=>rw[q]at h;exact zc h ia|some e=>rw[q]at h;exact⟨e,Ng q,fo.mp h⟩
theorem oK{f:Nat}(h:(wx scr).meth c n=J f):∃e,(c,e)∈Vv/\(n,f)∈e:=by
 replace h:(match Vv.lookup c with|some e=>e.lookup n|none=>Y)=J f:=h
 induction q:Vv.lookup c with
 |none=>rw[q]at h;exact ja h|some e=>rw[q]at h;exact⟨e,Ng q,Ng h⟩
section
variable (F:am K)
include F
theorem k0:jq.all (λp=>p.2.all λn=>mo K p.1 n)=Z:=Xe F.chk
theorem k1(h:IN K=(jq.all (λp=>p.2.all λn=>mo K p.1 n)&&b)):b=Z:=Zc (h.symm.trans F.chk)
theorem k2(h:IN K=(jq.all (λp=>p.2.all λn=>mo K p.1 n)&&(Vv.all (λp=>p.2.all λq=>xu K p.1 q.1 q.2)&&(vB.all (λp=>vu K p.1 p.2)&&b)))):b=Z:=Zc (Zc (k1 F h))
theorem k5(h:IN K=(jq.all (λp=>p.2.all λn=>mo K p.1 n)&&(Vv.all (λp=>p.2.all λq=>xu K p.1 q.1 q.2)&&(vB.all (λp=>vu K p.1 p.2)&&(KG.all (λp=>Bz K p.1 p.2)&&(RM.all (λp=>QM K p.1)&&b)))))):b=Z:=Zc (Zc (k2 F h))
end
theorem jS(x:K.In W)(F:am K)(i:∀a e,scr a=J e->e.length<=4096/\∃f,W.IsList a f.toArray/\Xi f e):Jk W K (wx scr):=
 have f:∀c n,(wx scr).attr c n=Z->mo K c n=Z:=λc n h=>by
  obtain⟨g,m1,e⟩:=nK h;exact Qk (Qk (k0 F) m1) e
 have g:=k5 F rfl
 ⟨x,λc n h=>have q:=Xe (f c n h);⟨Nl (Xe q),Xe (Zc q),aj (Zc (Zc q))⟩,
  λc n h=>have q:=Zc (f c n h);⟨Nl (Xe q),Xe (Zc q),Nl (Zc (Zc q))⟩,
  λz=>by
   obtain⟨o,e⟩:=Na.mp (Xe g);exact ja (z.symm.trans (x _ _ e)),
  by
   obtain⟨j,e,h⟩:=aj (Xe (Zc g));exact⟨_,Au x e,Nl h⟩,i⟩
theorem tY(F:am K):Zp W K (wx scr):=⟨λc e f h=>by
 obtain⟨i,m1,g⟩:=oK h;have q:xu K c e f=Z:=Qk (Qk (Xe (k1 F rfl)) m1) g;exact⟨Nl (Xe q),Nl (Xe (Zc q)),Nl (Xe (Zc (Zc q))),Nl (Xe (Zc (Zc (Zc q)))),Zc (Zc (Zc (Zc q)))⟩,λc f h=>by
 have q:vu K c f=Z:=Qk (Xe (Zc (k1 F rfl))) (Ng (h:vB.lookup c=J f));exact⟨Xe q,Nl (Xe (Zc q)),Nl (Zc (Zc q))⟩⟩
theorem P7(x:K.In W)(F:am K):Zy W K gl:=⟨λn v h=>by
 have q:Bz K n v=Z:=Qk (Xe (k2 F rfl)) (Ng (h:KG.lookup n=J v));refine⟨Xe q,?_⟩;obtain⟨g,e,q⟩:=aj (Zc q);obtain⟨i,f,q⟩:=aj q;exact⟨_,Au x e,(xI.mp q).imp Nl λq=>⟨Nl (Xe q),_,Au x f,Nl (Zc q)⟩⟩⟩
theorem K1(F:am K):LA W K (wx scr) 435:=by
 have c:=Zc (Zc (k5 F rfl));have i:∃o g,K.lookup 435=J o/\o.data=.cls g:=by
  obtain⟨g,e⟩:=Na.mp (Xe (Zc c));exact Vg e λd f h=>(Hs f λo j k=>(⟨o,g,j,k.trans (zS h)⟩))
 refine⟨i,Nl (Xe (Zc (Zc c))),λe f h=>?_⟩;have q:pQ K 435 e f=Z:=Qk (Xe c) (Ng (h:H1.lookup e=J f));exact⟨Nl (Xe q),Nl (Xe (Zc q)),Nl (Xe (Zc (Zc q))),Zc (Zc (Zc q))⟩
theorem zZ{f g:V->T}:{l:List V}->l.map f=l.map g->∀a∈l,f a=g a:=by
 intro l
 induction l with
 |nil=>
  rintro _ a e;exact(Tb e).elim
 |cons x l i=>
  rintro h a e;exact(fb.mp e).elim (λq=>q▸Xd h) (i (wd h) a)
theorem AG(x:K.In W)(e:pT K a=J X):∃o,W.get? a=J o/\o.data=.func X:=by
 exact Vg e λd f g=>((rz x f).imp λo h=>⟨h.1,h.2.trans (qT g)⟩)
theorem Vx(x:K.In W){i:Nat}{p:Bb->Bool}(h:YD K X i p=Z):∃c o e q t,X.code=.ref c/\W.get? c=J o/\o.data=.fields e/\e[i]?=J (.str q t)/\p q=Z:=by
 obtain⟨c,g,h⟩:=aj h;obtain⟨e,j,h⟩:=aj h;obtain⟨q,k,h⟩:=aj h;refine Vg j λd l m=>(Vg k λv r s=>?_);obtain⟨o,u,w⟩:=rz x l;obtain⟨t,f⟩:=fI s;exact⟨c,o,e,q,t,CU g,u,w.trans (OV m),r.trans (Gc J f),h⟩
theorem Tx(x:K.In W){p:Option wa->Bool}(h:UD K c p=Z):∃v,W.IsCell c v/\p v=Z:=by
 obtain⟨v,e,h⟩:=aj h;exact Vg e λd f g=>(⟨v,(rz x f).imp λo q=>⟨q.1,q.2.trans (yS g)⟩,h⟩)
theorem qQ(x:K.In W)(e:pT K a=J X)(h:Tn K gl 435 X=Z):YF W gl a X 435:=
 have f:=Zc (Zc (Zc h));have g:=Zc f;have i:=Zc g
 ⟨Nl (Xe h),Nl (Xe (Zc h)),Nl (Xe (Zc (Zc h))),
  (aj (Xe f)).imp λj q=>⟨q.1,Nl (Xe q.2),Nl (Zc q.2)⟩,AG x e,Vx x (Xe g),Se _▸Xe i,
  (aj (Zc i)).imp λc q=>⟨q.1,by
   obtain⟨v,z,q⟩:=Tx x q.2;exact Nl q▸z⟩⟩
theorem PY(x:K.In W)(F:am K):RK W gl rT 435:=λa g h=>by
 have i:=Ng (h:RM.lookup a=J g);obtain⟨X,e,j⟩:=aj (Qk (Xe (Zc (k2 F rfl))) i:QM K a=Z);obtain⟨o,k,l⟩:=AG x e;have f:P1 K a=J g:=zZ F.fns _ i;replace f:nR (AQ gl X) (if Tn K gl 435 X=Z then Ry gl X else Y) J=J g:=(Gc (λo:Option te=>o.bind _) e).symm.trans f;obtain⟨c,m,p,q,t,r,s,w,A,B⟩:=Vx x (Xe j);refine⟨o,X,k,l,⟨c,m,p,t,r,s,w,eq_of_beq B▸A⟩,?_,λn c y=>(Tx x (Qk (Zc j) (Ng y))).imp λu q=>q.1⟩
 induction z:AQ gl X with
 |some u=>rw[z]at f;exact .inl f|none=>
  rw[z]at f;replace f:(if Tn K gl 435 X=Z then Ry gl X else Y)=J g:=f;by_cases y:Tn K gl 435 X=Z
  ·exact .inr ⟨(Dd y).symm.trans f,qQ x e y⟩
  ·exact ja ((fe y).symm.trans f)
theorem lZ(x:K.In W)(F:am K){f:Bb->Option wa}(g:W.Ns mainGlobals f):f "law"=J (.ref 481):=by
 obtain⟨s,e,h⟩:=aj (Zc (Zc (Zc (Zc (Zc (k5 F rfl))))));obtain⟨o,i,t,j,k,u,l⟩:=Au x e;obtain⟨p,w,y,m,q,z,r⟩:=g;cases ba (j.symm.trans m);cases k.symm.trans q;exact(r _).symm.trans ((l _).trans (Nl h))
end
set_option maxHeartbeats 0
theorem zE{p q:Zi}{c:List Bb}{v:Ea->Bool}{x:Type}{y:Ea->x}{z:zb->x}{N:Nat}{A:Bool}{a:Params->qb}{b:Array FR}{f:Drawn}{g j n:Nat}{m:Option wa}{T:Params->BT}{i:Life}
 (l:∀w:zb,(qdS Ot p w N).map (λs=>(s.heap,s.gens,s.drawn,s.toks))=J (a w.params,b,f,g))
 (hT:∀w:zb,absHeap (T w.params) n i=a w.params)
 (o:∀w:zb,((a w.params).isNs mainGlobals&&b.size==0,(a w.params).objs.size,(a w.params).nsMap mainGlobals "__annotations__")=(Z,j,m))
 (chk:∀w:zb,(λos=>(Eo Ot p w j m N ⟨T w.params,n,i,b,f,g,os⟩ (topStub p)).map λs=>
  ((F9 (Uk p.main.body) (a w.params) s.abs.heap&&MZ p s.abs.heap&&qcm s.abs&&qcw (a w.params) s.abs.heap),
   openSeen q c (Uk p.main.body) v A s.abs,y s.abs))=λu=>J (Z,openGood q c,z w)):
 LeftO p q c v y z N A:=λw=>by
 obtain⟨⟨h,u,d,k,os⟩,e,B⟩:=ef.mp (l w);obtain⟨rfl,rfl,rfl,rfl⟩:h=a w.params/\u=b/\d=f/\k=g:=by simpa using B
 obtain⟨z1,z2,C⟩:_/\_/\_:=by simpa only[pR]using o w
 obtain⟨s,D,E⟩:=ef.mp (congrFun (chk w) os);obtain⟨F,G,I⟩:_/\_/\_:=by simpa only[pR]using E
 have r:=rK D;have K:(oL.abs ⟨T w.params,n,i,u,d,k,os⟩)=⟨a w.params,u,d,k,os⟩:=by
  show Ea.mk _ _ _ _ _=_
  rw[hT w]
 rw[K]at r;have t:qfs Ot p w N ⟨a w.params,u,d,k,os⟩=J s.abs:=by
  unfold qfs
  dsimp only
  rw[z1,z2,C,r];show(match F9 (Uk p.main.body) (a w.params) s.abs.heap&&MZ p s.abs.heap&&qcm s.abs&&qcw (a w.params) s.abs.heap with|true=>_|false=>_)=_
  rw[F]
 unfold openEnds;rw[e];show(qfs Ot p w N _).map _=_
 rw[t];exact Gc J (Prod.ext G I)
def qei:List Ca:=ip::cStatics::mainGlobals::sysModules::365::21::20::([256,298,357,435,255,297,356,434]++RM.flatMap λp=>[p.1,p.1 - 1])
def Nj:Hook where
 α:=Bool×List (Option Fn)
 obs:=λs=>(IN (SG qei s.heap),RM.map λp=>P1 (SG qei s.heap) p.1)
 val:=λu=>(Z,RM.map λp=>J p.2)
 says:=λu h=>∃K:Ue,K.In h/\am K
 of:=λu s e=>⟨_,NN,⟨Gc oj e,Gc WF e⟩⟩
 keeps:=λu u u ⟨K,x,f⟩ k=>⟨K,x.keeps k,f⟩
theorem qfe:∀w:zb,(qdS Ot P0 w 6000).map (λs=>(s.heap,s.gens,s.drawn,s.toks))=J (Zl w.params,zR [],boot_drawn,boot_toks):=
 boot_open (by rfl) (by rfl) λs=>by rfl
theorem KL(w:zb):absHeap (tW w.params) 11 {}=Zl w.params:=by kernel_rfl
theorem VI(w:zb):((Zl w.params).isNs mainGlobals&&(zR ([]:List FR)).size==0,(Zl w.params).objs.size,(Zl w.params).nsMap mainGlobals "__annotations__")=(Z,11,J (.ref 6)):=by kernel_rfl
theorem qbq(w:zb):(λos=>(Eu Ot P0 w 11 (J (.ref 6)) 6000 ⟨tW w.params,11,{},zR [],boot_drawn,boot_toks,os⟩ (topStub P0)).map λs=>
 ((F9 (Uk P0.main.body) (Zl w.params) s.abs.heap&&MZ P0 s.abs.heap&&qcm s.abs&&qcw (Zl w.params) s.abs.heap),
  qau qv cs (Uk P0.main.body) (λs=>xlAt qv [] s&&recOk (AD tx.toRowW) s) Z s.abs,(gW Nj) s.abs))=λu=>J (Z,openGood qv cs,(iW Nj) w):=by kernel_rfl
theorem b8:LeftO P0 qv cs (λs=>xlAt qv [] s&&recOk (AD tx.toRowW) s) (gW Nj) (iW Nj) 6000:=by
 refine zE qfe KL VI λw=>?_;have:=qbq w;simp only[<-AF,<-qar]at this;exact this
set_option maxHeartbeats 200000
section
variable {O t:Ca} {i b c n V S R:Nat} {x y zv:wa} {W Q P:Array wa}
variable {X:Zi} {w:zb} {A:Yb} {E:wa->Ea->Prop} {s:Ea}
theorem Qh{items}{a:wa->Ea->Prop}(d:s.heap.IsTupleIter O t i)
 (j:s.heap.IsTuple t items)(k:items[i]?=J x)
 (l:∀e,e.IsTupleIter O t (i+1)->ff O s.heap e->a x {s with heap:=e}):
 Qa (bb X w) A (rd (.ref O)) a E s:=by
 obtain⟨o,f,m,e⟩:=id d;obtain⟨p,g,_,q,h⟩:=j;unfold rd;refine ga (jf (name:=Gg "__next__") d.typeIs Ef
  (Kf Ef d.typeIs Qp ?_ (Yo _)))
 show Qa _ _ (qbD (.ref O) 0>>=_) _ _ s
 refine ga (Af f e (x:=.ref t) rfl (U (fe (show¬((Jc t==fq)=Z)from ia)) (ga (Af f e (x:=.int i 0) rfl (ga (Ig g h ?_))))));simp only[gR,k];refine ga (Jm f e (by simp) (ta ⟨x,rfl,ta (l _ ?_ (zd ..))⟩));exact⟨_,Qc _ f (Si (Ce e _)),(Rt ..).trans m,by
  refine U (Ce e _) ?_;simp[ag]⟩
theorem gI{g:Type}{d:g->Ea->Prop}(h:A.handled=Y)
 (hE:∀f e,(∀b o,s.heap.get? b=J o->f.get? b=J o)->(∃o,f.get? e=J o/\o.cls=.type "StopIteration")->E (.ref e) {s with heap:=f}):Qa (bb X w) A (newExc (.type "StopIteration") []>>=λe=>raiseNew e) d E s:=by
 refine ga ?_;simp only[newExc,qcE];refine ga (lj ?_ (by size_fits));refine ga (m:=qbE _ _) (af (a:=fq) (by first|rfl|(simp only[qbE];rfl)) ?_);refine lj ?_ (by size_fits);refine ga (wpAny_handled (U h (ga (ta (wpAny_throw ?_)))));exact hE _ _ (λb o e=>Ba _ (Ba _ e)) ⟨_,Oa _ rfl,rfl⟩
theorem Cs{items}{a:wa->Ea->Prop}(m:A.handled=Y)
 (d:s.heap.IsTupleIter O t i)(p:s.heap.IsTuple t items)(r:items[i]?=Y)
 (hE:∀f e,n5 O s.heap f->(∃o,f.get? e=J o/\o.cls=.type "StopIteration")->E (.ref e) {s with heap:=f}):
 Qa (bb X w) A (rd (.ref O)) a E s:=by
 obtain⟨o,g,v,h⟩:=id d;obtain⟨z,j,_,B,l⟩:=p;unfold rd;refine ga (jf (name:=Gg "__next__") d.typeIs Ef
  (Kf Ef d.typeIs Qp ?_ (Yo _)))
 show Qa _ _ (qbD (.ref O) 0>>=_) _ _ s
 refine ga (Af g h (x:=.ref t) rfl (U (fe (show¬((Jc t==fq)=Z)from ia)) (ga (Af g h (x:=.int i 0) rfl (ga (Ig j l ?_))))));simp only[gR,r];exact ga (Xj (ga (Jm g h (by simp) (gI m λf e k u=>hE f e (λc o n q=>k c o ((zd ..).extBut c o n q)) u))))
abbrev sR(h:qb)(T:Ca)(a b c:wa):Prop:=h.get? T=J {cls:=.type "tuple",data:=.seq #[a,b,c]}
theorem Yk{T:Ca}{a b c:wa}{k:Nat}{d:Unit->Ea->Prop}(hT:sR s.heap T a b c)
 (h:∀e,e.get? T=J {cls:=.type "tuple",data:=.seq ((#[a,b,c]:Array wa).setIfInBounds k x)}->ff T s.heap e->d () {s with heap:=e}):
 Qa (bb X w) A (updateSeq T λy=>y.setIfInBounds k x) d E s:=by
 refine Vp hT rfl (h _ ?_ (zd ..));refine U (Qc _ hT rfl) ?_;simp[Yi]
structure wn(h:qb)(b V S R:Nat)(f0:wa)(W Q P:Array wa)(i1 i2 i3:Nat):Prop where
 z:HD h (b+5) (b+3) (b+4) f0
 ti:sR h (b+3) (.ref b) (.ref (b+1)) (.ref (b+2))
 to_:∃u v x,sR h (b+4) u v x
 a1:h.IsTupleIter b V i1
 a2:h.IsTupleIter (b+1) S i2
 a3:h.IsTupleIter (b+2) R i3
 l1:h.IsTuple V W
 l2:h.IsTuple S Q
 l3:h.IsTuple R P
 d1:V<b
 d2:S<b
 d3:R<b
theorem ij{a:Nat}(h:a≠b):(show Ca from a)≠(show Ca from b):=h
def Tm(b a:Nat):Prop:=a=b\/a=b+1\/a=b+2\/a=b+4\/a=b+5
theorem an{m:Nat}(h:Ub m n=ua):b+m≠b+n:=λe=>Fg h (Nat.add_left_cancel e)
theorem qfd:¬Tm b (b+3):=λh=>by unfold Tm at h;lia
theorem qcF{t:Nat}(d:t<b):¬Tm b t:=λh=>by unfold Tm at h;lia
theorem VW:b≠b+(n+1):=ic (Yd (jh _))
theorem N4:b+(n+1)≠b:=qi (Yd (jh _))
theorem kO{t:Nat}(h:t<b):t≠b+n:=ic (rb h (Nc _ _))
theorem z0(n:¬Tm b c):c≠b:=λh=>n (.inl h)
theorem z1(n:¬Tm b c):c≠b+1:=λh=>n (.inr (.inl h))
theorem z2(n:¬Tm b c):c≠b+2:=λh=>n (.inr (.inr (.inl h)))
theorem z4(n:¬Tm b c):c≠b+4:=λh=>n (.inr (.inr (.inr (.inl h))))
theorem z5(n:¬Tm b c):c≠b+5:=λh=>n (.inr (.inr (.inr (.inr h))))
theorem yK{f0:wa}{a:wa->Ea->Prop}(d:wn s.heap b V S R .none W Q P i i i)(hx:W[i]?=J x)(hy:Q[i]?=J y)(hz:P[i]?=J zv)
 (hQ:∀e,wn e b V S R (ag s.heap.objs.size) W Q P (i+1) (i+1) (i+1)->sR e s.heap.objs.size x y zv->(∀(c:Nat) o,¬Tm b c->s.heap.get? c=J o->e.get? c=J o)->a (.ref s.heap.objs.size) {s with heap:=e}):
 Qa (bb X w) A (Yj.«zip.__next__» ⟨[.ref (b+5)],[]⟩) (λe f=>∃v,e=.done (.ret v)/\a v f) E s:=by
 obtain⟨u,v,t,x1⟩:=d.to_;show Qa _ _ (qbD (.ref (b+5)) 2>>=_) _ _ _
 refine ga (Af d.z rfl (x:=.bool ua) rfl ?_);show Qa _ _ (qbD (.ref (b+5)) 3>>=_) _ _ _
 refine ga (Af d.z rfl (x:=.ref (b+3)) rfl (ga (Ig d.ti rfl ?_)));show Qa _ _ (yg (.ref (b+5))>>=_) _ _ _
 refine ga ?_;unfold yg;refine ga (Af d.z rfl (x:=.none) rfl (ta (U (Dd rfl) (ga (Xj (ga (Af d.z rfl (x:=.ref (b+4)) rfl ?_)))))));refine ga (Ei d.z (by simp) λg1 x2 f=>?_);show Qa _ _ _ _ _ {s with heap:=g1}
 refine ga ?_;simp only[List.zipIdx_cons,List.zipIdx_nil,tn,Fx];refine ga (ga (Zh ?_));show Qa _ _ (rd (.ref b)>>=_) _ _ _
 refine ga (Qh (d.a1.extBut f.extBut (ij VW)) (d.l1.extBut f.extBut (ij (kO d.d1))) hx λg2 q2 g=>have F:sR g2 (b+4) u v t:=g.extBut _ _ (ij N4) (f.extBut _ _ (ij (an rfl)) x1);ta ?_);show Qa _ _ _ _ _ {s with heap:=g2}
 refine ga (Ig F rfl (ga (Yk F λg3 x3 h=>?_)));show Qa _ _ _ _ _ {s with heap:=g3}
 refine ga (SV (ta ?_));refine ga (ga (Zh ?_));show Qa _ _ (rd (.ref (b+1))>>=_) _ _ _
 refine ga (Qh (((d.a2.extBut f.extBut (ij (an rfl))).extBut g.extBut (ij N4)).extBut h.extBut (ij (an rfl))) (((d.l2.extBut f.extBut (ij (kO d.d2))).extBut g.extBut (ij (ic d.d2))).extBut h.extBut (ij (kO d.d2))) hy λg4 q4 j=>have G:sR g4 (b+4) x v t:=j.extBut _ _ (ij (an rfl)) x3;ta ?_);show Qa _ _ _ _ _ {s with heap:=g4}
 refine ga (Ig G rfl (ga (Yk G λg5 x4 k=>?_)));show Qa _ _ _ _ _ {s with heap:=g5}
 refine ga (SV (ta ?_));refine ga (ga (Zh ?_));show Qa _ _ (rd (.ref (b+2))>>=_) _ _ _
 refine ga (Qh (((((d.a3.extBut f.extBut (ij (an rfl))).extBut g.extBut (ij N4)).extBut h.extBut (ij (an rfl))).extBut j.extBut (ij (an rfl))).extBut k.extBut (ij (an rfl))) (((((d.l3.extBut f.extBut (ij (kO d.d3))).extBut g.extBut (ij (ic d.d3))).extBut h.extBut (ij (kO d.d3))).extBut j.extBut (ij (kO d.d3))).extBut k.extBut (ij (kO d.d3))) hz λg6 q6 m=>have I:sR g6 (b+4) x y t:=m.extBut _ _ (ij (an rfl)) x4;ta ?_);show Qa _ _ _ _ _ {s with heap:=g6}
 refine ga (Ig I rfl (ga (Yk I λr K p=>?_)));have D:HD r (b+5) (b+3) (b+4) .ellipsis:=p.extBut _ _ (ij (an rfl)) (m.extBut _ _ (ij (an rfl)) (k.extBut _ _ (ij (an rfl)) (j.extBut _ _ (ij (an rfl)) (h.extBut _ _ (ij (an rfl)) (g.extBut _ _ (ij N4) x2)))));show Qa _ _ _ _ _ {s with heap:=r}
 refine ga (SV (ta (ta (ga (Ig (show sR r (b+4) x y zv from K) rfl (ga (qdj ?_)))))));show Qa _ _ (fk (.ref (b+5)) (.ref r.objs.size)>>=_) _ _ _
 refine ga ?_;unfold fk;refine ga (Ei (Ba _ D:HD (r.push {cls:=.type "tuple",data:=.seq #[x,y,zv]}) (b+5) (b+3) (b+4) .ellipsis) (by simp) λg9 x5 L=>?_);show Qa _ _ _ _ _ {s with heap:=g9}
 refine Ei (x5:HD g9 (b+5) (b+3) (b+4) (ag r.objs.size)) (by simp) λz l C=>ta ⟨_,rfl,?_⟩;have N:r.objs.size=s.heap.objs.size:=by exact U p.1 (U m.1 (U k.1 (U j.1 (U h.1 (U g.1 (U f.1 rfl))))))
 have B:∀(c:Nat) o,c≠b+5->r.get? c=J o->z.get? c=J o:=λc o c1 e=>C.extBut _ _ c1 (L.extBut _ _ c1 (Ba _ e));have T:∀(c:Nat) o,¬Tm b c->s.heap.get? c=J o->r.get? c=J o:=λc o n e=>p.extBut _ _ (z4 n) (m.extBut _ _ (z2 n) (k.extBut _ _ (z4 n) (j.extBut _ _ (z1 n) (h.extBut _ _ (z4 n) (g.extBut _ _ (z0 n) (f.extBut _ _ (z5 n) e))))));have hT:sR z r.objs.size x y zv:=C.extBut _ _ (qi (qc D)) (L.extBut _ _ (qi (qc D)) (Oa _ rfl));show a (.ref r.objs.size) {s with heap:=z}
 replace l:HD z (b+5) (b+3) (b+4) (ag r.objs.size):=l;rw[N]at l hT;refine U N ?_;refine hQ z ⟨l,B _ _ (ij (an rfl)) (T _ _ qfd d.ti),⟨_,_,_,B _ _ (ij (an rfl)) K⟩,?_,?_,?_,?_,?_,?_,d.d1,d.d2,d.d3⟩ hT λc o n e=>B c o (z5 n) (T c o n e)
 ·exact(((((q2.extBut h.extBut (ij VW)).extBut j.extBut (ij VW)).extBut k.extBut (ij VW)).extBut m.extBut (ij VW)).extBut p.extBut (ij VW)).imp λo q=>⟨B _ _ (ij VW) q.1,q.2⟩
 ·exact(((q4.extBut k.extBut (ij (an rfl))).extBut m.extBut (ij (an rfl))).extBut p.extBut (ij (an rfl))).imp λo q=>⟨B _ _ (ij (an rfl)) q.1,q.2⟩
 ·exact(q6.extBut p.extBut (ij (an rfl))).imp λo q=>⟨B _ _ (ij (an rfl)) q.1,q.2⟩
 ·exact d.l1.imp λo q=>⟨B _ _ (ij (kO d.d1)) (T _ _ (qcF d.d1) q.1),q.2⟩
 ·exact d.l2.imp λo q=>⟨B _ _ (ij (kO d.d2)) (T _ _ (qcF d.d2) q.1),q.2⟩
 ·exact d.l3.imp λo q=>⟨B _ _ (ij (kO d.d3)) (T _ _ (qcF d.d3) q.1),q.2⟩
theorem aR{a:Fin->Ea->Prop}(p:A.handled=Y)(d:wn s.heap b V S R .none W Q P i i i)(r:W[i]?=Y)
 (hE:∀f e,(∀(c:Nat) o,c≠b->c≠b+5->s.heap.get? c=J o->f.get? c=J o)->(∃o,f.get? e=J o/\o.cls=.type "StopIteration")->E (.ref e) {s with heap:=f}):
 Qa (bb X w) A (Yj.«zip.__next__» ⟨[.ref (b+5)],[]⟩) a E s:=by
 show Qa _ _ (qbD (.ref (b+5)) 2>>=_) _ _ _
 refine ga (Af d.z rfl (x:=.bool ua) rfl (ga (Af d.z rfl (x:=.ref (b+3)) rfl (ga (Ig d.ti rfl (ga ?_))))));unfold yg;refine ga (Af d.z rfl (x:=.none) rfl (ta (U (Dd rfl) (ga (Xj (ga (Af d.z rfl (x:=.ref (b+4)) rfl ?_)))))));refine ga (Ei d.z (by simp) λC h f=>(ga ?_));show Qa _ _ (_>>=_) _ _ _
 refine ga (ga (Zh (ga (Cs p (d.a1.extBut f.extBut (ij VW)) (d.l1.extBut f.extBut (ij (kO d.d1))) r λv e g z=>(Ei (g _ _ (ij N4) h:HD v (b+5) (b+3) (b+4) .ellipsis) (by simp) λB u j=>hE B e (λc o n m x=>j.extBut _ _ m (g _ _ n (f.extBut _ _ m x))) (z.imp λm q=>⟨j.extBut _ _ (λx=>?_) q.1,q.2⟩))))));have k:=q.1;rw[x,g _ _ (ij N4) h]at k;have l:=q.2;rw[<-ba k]at l;exact zc (qdu l) (by decide)
theorem uC{a:Option wa->Ea->Prop}(d:wn s.heap b V S R .none W Q P i i i)(f:W[i]?=J x)(g:Q[i]?=J y)(h:P[i]?=J zv)
 (j:∀e,wn e b V S R (ag s.heap.objs.size) W Q P (i+1) (i+1) (i+1)->sR e s.heap.objs.size x y zv->(∀(c:Nat) o,¬Tm b c->s.heap.get? c=J o->e.get? c=J o)->a (J (.ref s.heap.objs.size)) {s with heap:=e}):
 Qa (bb X w) A (Dp (.ref (b+5))) a E s:=by
 have hT:s.TypeIs (.ref (b+5)) "zip":=⟨_,d.z,rfl⟩;unfold Dp;exact ga (Gu (jf (name:=Gg "__next__") hT fi
  (Kf fi hT cz
   (yK (f0:=.none) d f g h λe k l m=>ta (j e k l m)) (Hx _))))
theorem cu{a:Option wa->Ea->Prop}(g:A.handled=Y)(d:wn s.heap b V S R .none W Q P i i i)(h:W[i]?=Y)
 (j:∀f,(∀(c:Nat) o,c≠b->c≠b+5->s.heap.get? c=J o->f.get? c=J o)->a Y {s with heap:=f}):Qa (bb X w) A (Dp (.ref (b+5))) a E s:=by
 have hT:s.TypeIs (.ref (b+5)) "zip":=⟨_,d.z,rfl⟩;unfold Dp;refine ga (Gu (jf (name:=Gg "__next__") hT fi
  (Kf fi hT cz (aR g d h λf e k l=>?_) (Hx _))))
 obtain⟨o,m,p⟩:=l;exact ga (Mo (T:="StopIteration") (b:=Z) ⟨o,m,p⟩ qcu (ta (j _ k)))
end
theorem Sw(a b c:wa):checkTypeCall "zip" ⟨[a,b,c],[]⟩=pure ():=by refine U qap ?_;kernel_rfl
theorem ox(a b c:wa):I6 "zip.__new__" ⟨[.type "zip",a,b,c],[]⟩=pure ():=by refine U qao ?_;kernel_rfl
theorem bp(a b c d:wa):yL "object.__init__" ⟨[a,b,c,d],[]⟩:=by
 unfold yL;refine U (signature?_of (id:="object.__init__") (n:=['_','_','t','i','n','i','_','_']) (o:=['t','c','e','j','b','o']) (by kernel_rfl) PySem.F.owner_object) ?_;kernel_rfl
noncomputable abbrev W4(l:Ca):yD:={cls:=.type "tuple_iterator",data:=.fields #[.ref l,.int 0 0]}
abbrev j3(h:qb)(a:Ca):qb:=h.push (W4 a)
abbrev w3(h:qb)(a b:Ca):qb:=(j3 h a).push (W4 b)
abbrev A3(h:qb)(a b c:Ca):qb:=(w3 h a b).push (W4 c)
abbrev B3(h:qb)(a b c:Ca):qb:=(A3 h a b c).push {cls:=.type "tuple",data:=.seq #[.ref h.objs.size,.ref (j3 h a).objs.size,.ref (w3 h a b).objs.size]}
abbrev C3(h:qb)(a b c:Ca):qb:=(B3 h a b c).push {cls:=.type "tuple",data:=.seq #[.none,.none,.none]}
abbrev qaZ(h:qb)(a b c:Ca):qb:=(C3 h a b c).push {cls:=.type "zip",data:=.fields #[.none,.bool ua,.bool ua,.ref (A3 h a b c).objs.size,.ref (B3 h a b c).objs.size]}
set_option maxHeartbeats 4000000 in
theorem HE(a b c:Ca)(p q r:Array wa):
 Meets (Yj.«zip.__new__» ⟨[.type "zip",.ref a,.ref b,.ref c],[]⟩) (λu R s=>s.heap.IsTuple a p/\s.heap.IsTuple b q/\s.heap.IsTuple c r/\
  R (.ok (.ret (.ref (C3 s.heap a b c).objs.size))) {s with heap:=qaZ s.heap a b c}):=
 .of_wp λX w A R s h=>by
  obtain⟨f,g,d,i,os⟩:=s;obtain⟨j,k,l,h⟩:=h;have e:=sub_zip;have m:uD (BD ⟨f,g,d,i,os⟩) a p:=j;have n:uD (BD ⟨f.push {cls:=.type "tuple_iterator",data:=.fields #[.ref a,.int 0 0]},g,d,i,os⟩) b q:=bo k _;have o:uD (BD ⟨(f.push {cls:=.type "tuple_iterator",data:=.fields #[.ref a,.int 0 0]}).push {cls:=.type "tuple_iterator",data:=.fields #[.ref b,.int 0 0]},g,d,i,os⟩) c r:=bo (bo l _) _
  wp_delta
  refine ga ?_
  wp_delta
  refine ga ?_
  wp_delta
  refine ta (Jb rfl (ga (af e (Jb rfl (ta (Jb rfl (ga ?_)))))))
  wp_delta
  refine ga ?_
  wp_delta
  wp_delta
  wp_delta
  wp_delta
  refine ga (ga (Kb (Di m (ta ?_))))
  wp_delta
  wp_delta
  refine ga (ga (Kb (Di n (ta ?_))))
  wp_delta
  wp_delta
  refine ga (ga (Kb (Di o (ta ?_))))
  wp_delta
  wp_delta
  refine ta (ta (ga ?_))
  wp_delta
  wp_delta
  refine Jb rfl ?_
  wp_delta
  wp_delta
  refine ga (YQ (ta (ga ?_)))
  wp_delta
  wp_delta
  refine Jb rfl ?_
  wp_delta
  wp_delta
  refine ga (YQ (ta (ga ?_)))
  wp_delta
  wp_delta
  refine Jb rfl ?_
  wp_delta
  wp_delta
  refine ga (YQ (ta ?_))
  wp_delta
  refine ta ?_;exact⟨_,rfl,h⟩
section
variable {X:Zi} {w:zb} {A:Yb} {E:wa->Ea->Prop} {s:Ea}
theorem aJ{a b d:Ca}{m n p:Array wa}{Q:wa->Ea->Prop}(f:s.heap.IsTuple a m)(g:s.heap.IsTuple b n)(i:s.heap.IsTuple d p)
 (h:∀e,wn e s.heap.objs.size a b d .none m n p 0 0 0->(∀c o,s.heap.get? c=J o->e.get? c=J o)->Q (.ref (s.heap.objs.size+5)) {s with heap:=e}):
 Qa (bb X w) A (call (.type "zip") [.ref a,.ref b,.ref d]) Q E s:=by
 refine qeN PySem.F.called_zip (by decide) (Sw _ _ _) (ox _ _ _) (λe=>bp e _ _ _) PySem.F.entry_zip_new
  (HE a b d m n p) ⟨f,g,i,?_⟩
 have z1:(j3 s.heap a).objs.size=s.heap.objs.size+1:=ie ..;have z2:(w3 s.heap a b).objs.size=s.heap.objs.size+2:=by exact U (ie _ _) (U z1 rfl)
 have q:(A3 s.heap a b d).objs.size=s.heap.objs.size+3:=by exact U (ie _ _) (U z2 rfl)
 have z4:(B3 s.heap a b d).objs.size=s.heap.objs.size+4:=by exact U (ie _ _) (U q rfl)
 have z5:(C3 s.heap a b d).objs.size=s.heap.objs.size+5:=by exact U (ie _ _) (U z4 rfl)
 have k1:∀c o,s.heap.get? c=J o->(j3 s.heap a).get? c=J o:=λc o e=>Ba _ e;have k2:∀c o,(j3 s.heap a).get? c=J o->(w3 s.heap a b).get? c=J o:=λc o e=>Ba _ e;have u:∀c o,(w3 s.heap a b).get? c=J o->(A3 s.heap a b d).get? c=J o:=λc o e=>Ba _ e;have k:∀c o,(A3 s.heap a b d).get? c=J o->(B3 s.heap a b d).get? c=J o:=λc o e=>Ba _ e;have k5:∀c o,(B3 s.heap a b d).get? c=J o->(C3 s.heap a b d).get? c=J o:=λc o e=>Ba _ e;have j:∀c o,(C3 s.heap a b d).get? c=J o->(qaZ s.heap a b d).get? c=J o:=λc o e=>Ba _ e;have F:(j3 s.heap a).get? s.heap.objs.size=J (W4 a):=Oa _ rfl;have G:(w3 s.heap a b).get? (j3 s.heap a).objs.size=J (W4 b):=Oa _ rfl;have I:(A3 s.heap a b d).get? (w3 s.heap a b).objs.size=J (W4 d):=Oa _ rfl;have K:(B3 s.heap a b d).get? (A3 s.heap a b d).objs.size=J _:=Oa _ rfl;have L:(C3 s.heap a b d).get? (B3 s.heap a b d).objs.size=J _:=Oa _ rfl;have v:(qaZ s.heap a b d).get? (C3 s.heap a b d).objs.size=J _:=Oa _ rfl;have N:=j _ _ (k5 _ _ (k _ _ (u _ _ (k2 _ _ F))));have z:=j _ _ (k5 _ _ (k _ _ (u _ _ G)));have B:=j _ _ (k5 _ _ (k _ _ I));have C:=j _ _ (k5 _ _ K);have D:=j _ _ L;rw[z1]at z;rw[z2]at B;rw[q,z1,z2]at C;rw[z4]at D;rw[z5,q,z4]at v;have l:∀c o,s.heap.get? c=J o->(qaZ s.heap a b d).get? c=J o:=λc o e=>j _ _ (k5 _ _ (k _ _ (u _ _ (k2 _ _ (k1 _ _ e)))));refine U z5 ?_;have y:∀{t:Ca}{vs},s.heap.IsTuple t vs->t<s.heap.objs.size:=λx=>by obtain⟨o,e,_⟩:=x;exact qc e
 refine⟨⟨_,v,rfl⟩,h _ ⟨v,C,⟨_,_,_,D⟩,⟨_,N,rfl,rfl⟩,⟨_,z,rfl,rfl⟩,⟨_,B,rfl,rfl⟩,?_,?_,?_,y f,y g,y i⟩ l⟩
 ·obtain⟨o,e,r⟩:=f;exact⟨o,l _ _ e,r⟩
 ·obtain⟨o,e,r⟩:=g;exact⟨o,l _ _ e,r⟩
 ·obtain⟨o,e,r⟩:=i;exact⟨o,l _ _ e,r⟩
end
section
variable {w:zb} {N h W:qb} {X Q:List Ca} [I:Av] {P':Ca->Prop} {E:St}
abbrev fz(P P':Ca->Prop)(h W:qb):Prop:=∀a o,h.get? a=J o->Ih o->(∀c n,o=iu c n->¬P a)->W.get? a=J o/\(∀c n,o=iu c n->¬P' a)
theorem VR.tr(y:X<+:Q)(o:fz I.av P' h W){x:V}{v:wa}(q:VR w X h x v): @VR ⟨P'⟩ w Q W x v:=
 VR.rec (motive_1:=λx v c=> @VR ⟨P'⟩ w Q W x v) (motive_2:=λe a c=> @ue ⟨P'⟩ w Q W e a) (@VR.none ⟨P'⟩ _ _ _) (λb=> @VR.bool ⟨P'⟩ _ _ _ b) (λi t=> @VR.int ⟨P'⟩ _ _ _ i t) (λx t=> @VR.str ⟨P'⟩ _ _ _ x t) (λe=> @VR.ref ⟨P'⟩ _ _ _ _ _ (Dm y e)) (λv=> @VR.k ⟨P'⟩ _ _ _ v)
  (λe=> @VR.rng ⟨P'⟩ _ _ _ _ _ _ _ _ _ (o _ _ e rfl λa n q=>zc (Gc qfv q) (by simp)).1) (λf i k e=> @VR.iset ⟨P'⟩ _ _ _ _ _ _ _ _ f i k (tD e λt x=>⟨t,(o _ _ x trivial λa n q=>zc (Gc qfv q) (by simp)).1⟩))
  (λa e f c k=> @VR.t ⟨P'⟩ _ _ _ _ _ _ _ ((o _ _ e rfl λc c c=>a).2 _ _ rfl) (o _ _ e rfl λc c c=>a).1 f k) (@ue.nil ⟨P'⟩ _ _ _) (λc c a k=> @ue.cons ⟨P'⟩ _ _ _ _ _ _ _ a k) q
theorem ue.tr(i:X<+:Q)(k:fz I.av P' h W){e:List V}{f:List wa}(q:ue w X h e f): @ue ⟨P'⟩ w Q W e f:=
 q.ind (P:=λe f=> @ue ⟨P'⟩ w Q W e f) (@ue.nil ⟨P'⟩ _ _ _) λc c c c a c o=> @ue.cons ⟨P'⟩ _ _ _ _ _ _ _ (VR.tr i k a) o
theorem SE.tr(k:X<+:Q)(o:fz I.av P' h W){i:List (Bb×V)}{f:List Cf}(c:SE w X h i f): @SE ⟨P'⟩ w Q W i f:=by
 induction c with
 |nil=>exact @SE.nil ⟨P'⟩ _ _ _|cons a e q=>exact @SE.cons ⟨P'⟩ _ _ _ _ _ _ _ _ _ (a.tr k o) q
theorem OR.tr(v:X<+:Q)(z:fz I.av P' h W){o:O}{a:Ca}(y:∀x,h.get? a=J x->W.get? a=J x)(f:OR w X h o a): @OR ⟨P'⟩ w Q W o a:=by
 induction o with
 |list k=>obtain⟨c,n,e,i,q⟩:=f;exact⟨c,n,y _ e,i,q.tr v z⟩|idict x=>obtain⟨o,c,e,t,k,q,i⟩:=f;exact⟨o,c,y _ e,t,k,q.tr v z,i⟩|h x=>obtain⟨c,n,e,q,t,i⟩:=f;exact⟨c,n,y _ e,q.tr v z,t,i⟩|inst c t=>obtain⟨i,e,q⟩:=f;exact⟨i,Dm v e,y _ q⟩
theorem R.tr(c:R w N X E h)(q:fz I.av P' h W)(t:∀a∈X,∀o,h.get? a=J o->W.get? a=J o)(f:∀a o,N.get? a=J o->W.get? a=J o)(v:∀a,P' a->∃o,W.get? a=J o/\Ih o): @R ⟨P'⟩ w N X E W:=
 @R.mk ⟨P'⟩ w N X E W c.len c.nodup c.fresh v f λi o a y k=>(c.obj i o a y k).tr (Ja _) q λx e=>t a (Ma k) x e
theorem Lc.tr{S:zj}{eo:Ca->Prop}{sl:List Bb}{lo:Nat}{D:Me}(f:Lc w N S eo sl lo D X h)(K:fz I.av P' h W)(O:∀o,h.get? S.locals=J o->W.get? S.locals=J o)(B:∀c v,h.IsCell c v->W.IsCell c v)(P:∀a,eo a->(W.get? a).isSome=Z): @Lc ⟨P'⟩ w N S eo sl lo D X W:=by
 refine aa λy=>?_;obtain⟨t,R,T⟩:=f.ns;refine y ?_;refine @Lc.mk ⟨P'⟩ w N S eo sl lo D X W f.kind f.globals f.builtins f.len ⟨t,?_,λx i v a b c=>?_⟩ (λx i v a b c=>?_) f.loc (λx k a b=>?_) f.apart (λx i a b=>?_) f.eoh P
 ·refine aa λy=>?_
  obtain⟨o,z,G,e,q⟩:=R;exact y (⟨o,z,G,O _ e,q⟩)
 ·refine aa λy=>?_
  obtain⟨e,o,z⟩:=T x i v a b c;exact y (⟨e,o,z.tr (Ja _) K⟩)
 ·refine aa λy=>?_
  obtain⟨c,e,o,z,G⟩:=f.cells x i v a b c;exact y (⟨c,e,o,B _ _ z,G.tr (Ja _) K⟩)
 ·obtain⟨c,v,o,z⟩:=f.has x k a b
  exact⟨c,v,o,B _ _ z⟩
 ·rcases f.own x i a b with q|⟨q,c,v,o,z,G⟩
  ·exact .inl q
  ·exact .inr ⟨q,c,v,o,B _ _ z,G⟩
end
section
variable {w:zb} {N:qb} {A:Yb} {S:zj} {eo:Ca->Prop} {sl:List Bb} {D L:Me} {n:Nat} {X ρ1:List Ca} {E F:St} {s:Ea} {u:Fl} {r:Sc} {b p m C:Nat} {l j g:Array wa} {d:wa} {i1 i2 i3:Nat} {h W:qb}
theorem Xr{h:qb}{a t:Ca}{i:Nat}(x:h.IsTupleIter a t i):∃o,h.get? a=J o/\¬Ih o/\(∀v,o.data≠ .cell v):=by
 refine aa λk=>?_;obtain⟨o,e,c,f⟩:=x;exact k (⟨o,e,by simp[Ih,f,c],λv z=>by rw[f]at z;cases z⟩)
theorem wn.data(f:wn h b p m C d l j g i1 i2 i3){a:Nat}(q:Tm b a):∃o,h.get? a=J o/\(a≠b+4->¬Ih o)/\(∀v,o.data≠ .cell v)/\(a=b+4->∃c k,o=iu c k):=by
 rcases q with rfl|rfl|rfl|rfl|rfl
 ·obtain⟨o,e,c,i⟩:=Xr f.a1;exact⟨o,e,λy=>c,i,λz=>zc z (by exact ic (Yd (jh _)))⟩
 ·obtain⟨o,e,c,i⟩:=Xr f.a2;exact⟨o,e,λy=>c,i,λz=>zc z (by exact an rfl)⟩
 ·obtain⟨o,e,c,i⟩:=Xr f.a3;exact⟨o,e,λy=>c,i,λz=>zc z (by exact an rfl)⟩
 ·obtain⟨i,v,x,e⟩:=f.to_;exact⟨_,e,λz=>zc rfl z,(λv z=>nomatch z),λy=>⟨[i,v,x],0,rfl⟩⟩
 ·exact⟨_,f.z,λy=>by simp[Ih],(λv z=>nomatch z),λz=>zc z (by exact Lu _)⟩
structure Ou(I:Av)(N:qb)(eo:Ca->Prop)(X:List Ca)(b:Nat):Prop where
 wK:∀a,Tm b a->N.get? a=Y
 eo:∀a,Tm b a->¬eo a
 av:I.av (b+4)
 out:∀a,Tm b a->a∉X
variable [I:Av]
theorem jr(f:wn h b p m C d l j g i1 i2 i3)(i:I.av (b+4))(v:∀(c:Nat) o,¬Tm b c->h.get? c=J o->W.get? c=J o):fz I.av I.av h W:=λa o e x c=>by
 have y:¬Tm b a:=λq=>by
  obtain⟨O,t,B,_,G⟩:=f.data q;rw[e]at t;obtain rfl:=ba t;by_cases z:a=b+4
  ·obtain⟨K,k,rfl⟩:=G z
   exact c K k rfl (z▸i)
  ·exact B z x
 exact⟨v a o y e,c⟩
theorem LX(f:R w N X E h)(i:Ou I N eo X b)(k:wn h b p m C d l j g i1 i2 i3)(t:∀(c:Nat) o,¬Tm b c->h.get? c=J o->W.get? c=J o)(hT:∃o,W.get? (b+4)=J o/\Ih o):R w N X E W:=by
 refine f.tr (P':=I.av) (jr k i.av t) (λa c o e=>t a o (λq=>i.out a q c) e) (λa o e=>t a o (λq=>by rw[i.wK a q]at e;exact ja e) (f.wK a o e)) λa c=>?_;obtain⟨o,e,v⟩:=f.avl a c;by_cases q:Tm b a
 ·refine aa λy=>?_
  obtain⟨G,x,B,_,K⟩:=k.data q;refine y ?_;rw[e]at x;obtain rfl:=ba x;by_cases z:a=b+4
  ·exact U z hT
  ·exact zc v (B z)
 ·exact⟨o,t a o q e,v⟩
theorem JX{sl:List Bb}{lo:Nat}(f:Lc w N S eo sl lo D X h)(i:Ou I N eo X b)(k:wn h b p m C d l j g i1 i2 i3)(y:∀(c:Nat) o,¬Tm b c->h.get? c=J o->W.get? c=J o):Lc w N S eo sl lo D X W:=by
 refine f.tr (P':=I.av) (jr k i.av y) (λo e=>y _ o (λq=>i.eo _ q f.loc.2.2) e) (λc v x=>?_) λa z=>?_
 ·obtain⟨o,e,t⟩:=x
  refine⟨o,y c o (λq=>?_) e,t⟩;obtain⟨G,B,_,n,_⟩:=k.data q;rw[e]at B;obtain rfl:=ba B;exact n v t
 ·obtain⟨o,e⟩:=Na.mp (f.eol a z)
  refine U (y a o (λq=>i.eo a q z) e) ?_;rfl
theorem wn.tri(a:wn h b p m C d l j g i1 i2 i3):∃o,h.get? (b+4)=J o/\Ih o:=by
 refine aa λf=>?_;obtain⟨c,v,x,e⟩:=a.to_;exact f (⟨_,e,rfl⟩)
theorem wn.keep(f:wn h b p m C d l j g i1 i2 i3)(y:∀(c:Nat) o,Tm b c->h.get? c=J o->W.get? c=J o)(q:∀a o,h.get? a=J o->Ih o->W.get? a=J o):wn W b p m C d l j g i1 i2 i3:=by
 have a:∀{t:Ca}{vs},h.IsTuple t vs->W.IsTuple t vs:=λz=>by obtain⟨o,e,c,k,i⟩:=z;exact⟨o,q _ o e (by simp[Ih,c,i]),c,k,i⟩
 refine⟨y _ _ (by unfold Tm;lia) f.z,q _ _ f.ti rfl,?_,?_,?_,?_,a f.l1,a f.l2,a f.l3,f.d1,f.d2,f.d3⟩
 ·obtain⟨i,v,x,e⟩:=f.to_;exact⟨i,v,x,q _ _ e rfl⟩
 ·obtain⟨o,e,i⟩:=f.a1;exact⟨o,y _ _ (by unfold Tm;lia) e,i⟩
 ·obtain⟨o,e,i⟩:=f.a2;exact⟨o,y _ _ (by unfold Tm;lia) e,i⟩
 ·obtain⟨o,e,i⟩:=f.a3;exact⟨o,y _ _ (by unfold Tm;lia) e,i⟩
noncomputable def vA(c e f:List V):List V:=(c.zip (e.zip f)).map λa=>V.t [a.1,a.2.1,a.2.2]
inductive L5(xs ys zs:List V)(i:Nat)(v:V):Prop
 |mk (x y z:V):xs[i]?=J x->ys[i]?=J y->zs[i]?=J z->v=V.t [x,y,z]->L5 xs ys zs i v
theorem bR{e f k:List V}{i:Nat}{v:V}(h:(vA e f k)[i]?=J v):L5 e f k i v:=by
 unfold vA at h;rw[Ec]at h;refine qe h λc o q=>?_;have a:=bl.mp o;have b:=bl.mp a.2;exact⟨c.1,c.2.1,c.2.2,a.1,b.1,b.2,q.symm⟩
theorem zK{a c e:List V}(f:a.length=c.length)(k:c.length=e.length){i:Nat}(h:(vA a c e)[i]?=Y):a[i]?=Y:=by
 rw[dh]at h|-;simp only[vA,ya,List.length_zip]at h
 lia
theorem AJ{f:Expr}{T:Nat}{a:X3}{c:wa->Ea->Prop}{e:Unit->Ea->Prop}(i:wk f=Z)(k:HD s.heap (b+5) (b+3) (b+4) (ag T))(o:a=bb pg w)
 (q:∀W,HD W (b+5) (b+3) (b+4) .none->ff (b+5) s.heap W->e () {s with heap:=W}):Qa a A (Sp f (.ref (b+5)) (.ref T)) e c s:=by
 subst o;refine aa λt=>?_;obtain⟨_,_,_,rfl⟩:=Wr i;exact t (wpAny_letOwnedTupleGo_zip k q)
structure Kz(eo:Ca->Prop)(b:Nat)(X:List Ca)(h W:qb)(Q:List Ca):Prop where
 pre:X<+:Q
 fresh:∀a∈Q,a∈X\/h.get? a=Y
 keep:∀(a:Nat) o,h.get? a=J o->a∉X->¬eo a->¬Tm b a->W.get? a=J o
 imm:∀(a:Nat) o,h.get? a=J o->Ih o->¬Tm b a->W.get? a=J o
theorem Kz.trans{ρ2:List Ca}{h2:qb}(x:Kz eo b X h W ρ1)(live:∀a o,h.get? a=J o->(W.get? a).isSome=Z)(y:Kz eo b ρ1 W h2 ρ2):Kz eo b X h h2 ρ2 where
 pre:=x.pre.trans y.pre
 fresh a ha:=(y.fresh a ha).elim (x.fresh a) λq=>.inr (by
  induction e:h.get? a with
  |none=>rfl|some o=>have:=live a o e;rw[q]at this;exact zc this ia)
 keep a o e n1 n2 n3:=y.keep a o (x.keep a o e n1 n2 n3) (λq=>(x.fresh a q).elim n1 λq=>by rw[q]at e;exact ja e) n2 n3
 imm a o e i n:=y.imm a o (x.imm a o e i n) i n
inductive ZK(w:zb)(N:qb)(S:zj)(eo:Ca->Prop)(r:Sc)(b:Nat) [av:Av](X:List Ca)(s:Ea)(u:Fl)(L:Me)(F:St)(q:Dr)(s':Ea):Prop
 |mk (f:PK) (Q:List Ca):q=.ok f->Ah s s'->Kz eo b X s.heap s'.heap Q->R w N Q F s'.heap->Lc w N S eo r.sl 0 L Q s'.heap->T3 w Q s'.heap u f->ZK w N S eo r b X s u L F q s'
theorem wn.off{T:Nat}(f:wn h b p m C (ag T) l j g i1 i2 i3)(z2:HD W (b+5) (b+3) (b+4) .none)(k2:ff (b+5) h W):wn W b p m C .none l j g i1 i2 i3:=by
 have i:∀(c:Nat) o,c≠b+5->h.get? c=J o->W.get? c=J o:=λc o n e=>k2.extBut _ _ n e;have k:=f.d1;have q:=f.d2;have t:=f.d3;refine⟨z2,i _ _ (by exact an rfl) f.ti,?_,?_,?_,?_,?_,?_,?_,k,q,t⟩
 ·obtain⟨a,v,x,e⟩:=f.to_;exact⟨a,v,x,i _ _ (by exact an rfl) e⟩
 ·obtain⟨o,e,a⟩:=f.a1;exact⟨o,i _ _ (by exact ic (Yd (jh _))) e,a⟩
 ·obtain⟨o,e,a⟩:=f.a2;exact⟨o,i _ _ (by exact an rfl) e,a⟩
 ·obtain⟨o,e,a⟩:=f.a3;exact⟨o,i _ _ (by exact an rfl) e,a⟩
 ·obtain⟨o,e,a⟩:=f.l1;exact⟨o,i _ _ (by exact ic (rb (by assumption) (Nc _ _))) e,a⟩
 ·obtain⟨o,e,a⟩:=f.l2;exact⟨o,i _ _ (by exact ic (rb (by assumption) (Nc _ _))) e,a⟩
 ·obtain⟨o,e,a⟩:=f.l3;exact⟨o,i _ _ (by exact ic (rb (by assumption) (Nc _ _))) e,a⟩
theorem X7{c:Nat}(n:¬Tm b c):c≠b+5:=λq=>n (by unfold Tm;lia)
theorem qct{c:Nat}(n:¬Tm b c):c≠b:=λq=>n (.inl q)
theorem JF{y7:Expr}{bd:List dz}{t:CT}{xs ys zs:List V}{k:Me->St->Option (Fl×Me×St)}(AK:Dg n A)(z6:wk y7=Z)(ht:Xk r y7=J t)(hf:Df w N A S eo r.sl (uu bd S) k)(z7:xs.length=ys.length)(z8:ys.length=zs.length):
 ∀(x8 i:Nat)(D:Me)(X:List Ca)(E:St)(s:Ea)(u:Fl)(L:Me)(F:St)(y2 y3 y4:List wa),R w N X E s.heap->Lc w N S eo r.sl 0 D X s.heap->wn s.heap b p m C .none (xD y2) (xD y3) (xD y4) i i i->Ou I N eo X b->ue w X s.heap xs y2->ue w X s.heap ys y3->ue w X s.heap zs y4->
  Gq x8 (.st (vA xs ys zs)) i (λv D E=>(ql t v D).bind λx9=>k x9 E) D E=J (u,L,F)->
  ch (bb pg w) A (.forLoop y7 (.ref (b+5)) bd [] S) (λq a=>ZK w N S eo r b X s u L F q a) s:=by
 intro x8
 induction x8 with
 |zero=>intro i D X E s u L F y2 y3 y4 B G K O x1 x2 x3 e;exact ja e|succ x8 ih=>
  intro i D X E s u L F y2 y3 y4 B G K O x1 x2 x3 e;replace e:tX (λv D E=>(ql t v D).bind λx9=>k x9 E) (λi D E=>Gq x8 (.st (vA xs ys zs)) i (λv D E=>(ql t v D).bind λx9=>k x9 E) D E) i D E (vA xs ys zs)[i]?=J (u,L,F):=e;refine Ug ?_;show Qa _ A ((C4 y7 (.ref (b+5)) bd [] S).onRaise λx=>do Qz x S;Up x) _ _ s
  refine FA (Cn λP E0 hQ=>?_);simp only[C4]
  induction hi:(vA xs ys zs)[i]? with
  |none=>
   rw[hi]at e;obtain⟨rfl,zz⟩:=Ta (ba e);obtain⟨rfl,rfl⟩:=Ta zz;refine ga (lc (ga (Zh (cu AK.hh K (by refine U jc ?_;exact x1.none_of (zK z7 z8 hi)) λh1 k0=>?_))));have hT:∃o,h1.get? (b+4)=J o/\Ih o:=by
    refine aa λnq=>?_;obtain⟨o,e,im⟩:=K.tri;refine nq ?_;clear nq;exact⟨o,k0 _ o (ij (by exact qi (Yd (jh _)))) (ij (by exact an rfl)) e,im⟩
   have k1:∀(f:Nat) o,¬Tm b f->s.heap.get? f=J o->h1.get? f=J o:=λf o n e=>k0 f o (qct n) (X7 n) e;refine ta (hQ _ _ ⟨rfl,qdK ?_⟩);exact U (pu _) (ta ⟨.next,X,rfl,rfl,⟨Ja _,λz h=>.inl h,λz o e a a n=>k1 z o n e,λz o e a n=>k1 z o n e⟩,LX B O K k1 hT,JX G O K k1,.next⟩)
  |some v=>
   rw[hi]at e;refine ab e λc e1 e2=>ab e1 λx9 z9 hF=>(aa λnq=>?_);obtain⟨d,y9,z3⟩:=c;obtain⟨x,y,x5,q1,q2,q3,rfl⟩:=bR hi;obtain⟨l,p1,u1⟩:=x1.get q1;obtain⟨j,p2,u2⟩:=x2.get q2;obtain⟨g,p3,u3⟩:=x3.get q3;refine nq ?_;clear nq;refine ga (lc (ga (Zh (uC (x:=l) (y:=j) (zv:=g) K (by refine U jc ?_;exact p1) (by refine U jc ?_;exact p2) (by refine U jc ?_;exact p3) λh1 Z1 T1 k1=>ga (AJ z6 Z1.z rfl λh2 z2 k2=>?_)))));have Z2:=Z1.off z2 k2;have y1:∀(f:Nat) o,¬Tm b f->s.heap.get? f=J o->h2.get? f=J o:=λf o n e=>k2.extBut _ _ (X7 n) (k1 f o n e);have tr:∀{x:V}{v:wa},VR w X s.heap x v->VR w X h2 x v:=λq=>q.tr (P':=I.av) (Ja _) (jr K O.av y1);have y8:∀{x:List V}{v:List wa},ue w X s.heap x v->ue w X h2 x v:=λq=>q.tr (P':=I.av) (Ja _) (jr K O.av y1);refine ga (Da (kM (s:={s with heap:=h2}) AK ht (cy t) (LX B O K y1 Z2.tri) (JX G O K y1) (.t (B.notAv (Fb _)) (k2.extBut _ _ (qi (qc K.z)) T1:h2.get? s.heap.objs.size=J (iu [l,j,g] 0)) (gb rfl) (.cons (tr u1) (.cons (tr u2) (.one (tr u3)))):VR w X h2 (.t [x,y,x5]) (.ref s.heap.objs.size)) z9) (λa s3 p2=>?_) λa a x5=>x5.elim);refine aa λnq=>?_;obtain⟨C,k3,r3,E3⟩:=p2;refine nq ?_;clear nq;refine ga (Da (hf x9 X E s3 d y9 z3 r3 E3 hF) (λx6 s4 p3=>?_) λa a x5=>x5.elim);refine aa λnq=>?_;obtain⟨y5,t4,k4,r4,E4,q4⟩:=p3;refine nq ?_;clear nq;have x7:Kp eo X h2 s4.heap y5:=k3.trans k4;have y6:∀z o,s.heap.get? z=J o->(h2.get? z).isSome=Z:=λz o e=>by
    by_cases q:Tm b z
    ·obtain⟨o,e,_⟩:=Z2.data q;refine U e ?_;rfl
    ·refine U (y1 z o q e) ?_;rfl
   have T:=Ah.trans (C.past) t4;have KZ:Kz eo b X s.heap s4.heap y5:=⟨x7.pre,λz ha=>(x7.fresh z ha).imp_right λq=>(by
    induction x5:s.heap.get? z with
    |none=>rfl|some o=>have:=y6 z o x5;rw[q]at this;exact zc this ia),λz o e n1 n2 n3=>x7.keep z o (y1 z o n3 e) n1 n2,λz o e im n=>x7.imm z o (y1 z o n e) im⟩
   induction d with
   |next=>
    rw[q4.wF];have Z4:=Z2.keep (λf o q e=>x7.keep f o e (O.out f q) (O.eo f q)) x7.imm;have D4:Ou I N eo y5 b:=⟨O.wK,O.eo,O.av,λz ha q=>(x7.fresh z q).elim (O.out z ha) λq=>by
     obtain⟨o,e,_⟩:=Z2.data ha;rw[q]at e;exact ja e⟩
    refine ta (hQ _ _ ⟨rfl,Oc (ih (i+1) y9 y5 z3 s4 u L F y2 y3 y4 r4 E4 Z4 D4 (x7.vrs (y8 x1)) (x7.vrs (y8 x2)) (x7.vrs (y8 x3)) e2) λq s5 p5=>?_⟩);obtain⟨x6,k6,hq,t5,g1,g5,g6,g7⟩:=p5;exact⟨x6,k6,hq,T.trans t5,KZ.trans (λz o e=>x7.live z (y6 z o e)) g1,g5,g6,g7⟩
   |ret v=>
    refine aa λnq=>?_;obtain⟨k7,rfl,x4⟩:=q4.wF;obtain⟨rfl,zz⟩:=Ta (ba e2);obtain⟨rfl,rfl⟩:=Ta zz;refine nq ?_;clear nq;exact ta (hQ _ _ ⟨_,y5,rfl,T,KZ,r4,E4,q4⟩)
inductive qL(w:zb)(X:List Ca)(h:qb) [av:Av](x:V)(xs:List V)(v:wa):Prop
 |mk (t:Ca) (vs:List wa) (k:Nat):v=.ref t->h.get? t=J (iu vs k)->ue w X h xs vs->qL w X h x xs v
theorem Qw{x:V}{v:wa}{k:List V}(e:zx x=J k)(q:VR w X h x v):qL w X h x k v:=by
 refine aa λo=>?_;obtain⟨a,t,c,rfl,_,e,f,i⟩:=(Vl e▸q:VR w X h (.t k) v).wF;exact o (⟨a,t,c,rfl,e,i⟩)
inductive aL(w:zb)(X:List Ca)(h:qb) [av:Av](vals:List wa)(xs ys zs:List V):Prop
 |mk (a b c:wa) (x y z:V):vals=[a,b,c]->qL w X h x xs a->qL w X h y ys b->qL w X h z zs c->aL w X h vals xs ys zs
theorem Us{c:List V}{f:List V}{a:List (List V)}{P:Prop}(h:Wn c=J (f::a))(k:∀v e,c=v::e->zx v=J f->Wn e=J a->P):P:=by
 induction c using ma with
 |nil=>exact nomatch h|cons v c=>
  refine ab h λe i o=>qe o λx q t=>?_;cases t;exact k v c rfl i q
theorem FQ{a:List V}(h:Wn a=J []):a=[]:=by
 induction a using ma with
 |nil=>rfl|cons v a=>exact ab h λc i e=>qe e λk o f=>zc f (Bc _ _)
theorem Q9{i:List V}{f:List wa}{k o t:List V}(e:Wn i=J [k,o,t])(q:ue w X h i f):aL w X h f k o t:=
 Us e λx v1 v B G=>Us G λy v2 K O P=>Us P λz v3 R T e3=>by
 rw[v,K,R,FQ e3]at q;refine aa λnq=>?_;obtain⟨a,r1,g1,b1,q⟩:=q.wF;obtain⟨b,r2,g2,b2,q⟩:=q.wF;obtain⟨c,r3,g3,b3,q⟩:=q.wF;exact nq (⟨a,b,c,x,y,z,by rw[g1,g2,g3,(q.wF:r3=[])],Qw B b1,Qw O b2,Qw T b3⟩)
inductive M5(vs items:List V):Prop
 |mk (xs ys zs:List V):Wn vs=J [xs,ys,zs]->xs.length=ys.length->ys.length=zs.length->vA xs ys zs=items->M5 vs items
theorem aW{o f:List V}(e:((Wn o).bind ZV)=J f):M5 o f:=ab e λk t i=>by
 induction k using ma with
 |nil=>exact ja i|cons v a=>
  induction a using ma with
  |nil=>exact ja i|cons x a=>
   induction a using ma with
   |nil=>exact ja i|cons y a=>
    induction a using ma with
    |nil=>exact qe i λc q z=>⟨v,x,y,t,(Q4 q).1,(Q4 q).2,z⟩|cons=>exact ja i
theorem D3{K:Ue}{x9:Bh}{i:Gl}(B:Jk N K x9)(GO:Zy N K i):MA w N K i:=by
 intro n A S eo r z zp cp z9 y3 z7 bd t G k AK hk hz y4 y5 y6 ht hn hG hF D X E s u L F O P e;refine ab e λT e1 e2=>ab e2 λy7 e3 e4=>wpAny_For (Call_Name rfl (Da (As (w:=w) GO hz y4 (Co y5).1 X E s O P (.k (.type "zip")) E rfl) (λfv s1 p1=>?_) λV V x=>x.elim)) λx=>Pz (λV V V q=>Expr.noConfusion q) S x;obtain⟨ρ1,u1,k1,r1,x1⟩:=p1;rw[(x1.wF:fv=_)];have E1:=P.kx O k1;refine kq (GO.glob z _ hz).1 hn (Da (hG D _ ρ1 E s1 r1 E1 _ _ e1) (λz8 s2 p2=>?_) λV V x=>x.elim);obtain⟨x8,u2,k2,r2,x2⟩:=p2;have E2:=E1.kx r1 k2;refine⟨r2.kin B,?_⟩;refine aa λnq=>?_;obtain⟨xs,ys,zs,y8,y9,z3,rfl⟩:=aW e3;refine nq ?_;clear nq;obtain⟨q1,q2,q3,_,_,_,rfl,a1,a2,a3⟩:=Q9 y8 x2;obtain⟨p,v1,n1,rfl,o1,b1⟩:=a1;obtain⟨m,v2,n2,rfl,o2,b2⟩:=a2;obtain⟨C,v3,n3,rfl,o3,b3⟩:=a3;have x3:∀c,s2.heap.objs.size<=c->s2.heap.get? c=Y:=λc h=>yk h;refine aJ (s:=s2) (lf o1) (lf o2) (lf o3) λh3 Z3 k3=>wpAny_pyIter_zip Z3.z ?_;have x6:∀c,Tm s2.heap.objs.size c->s2.heap.get? c=Y:=λc q=>x3 c (by unfold Tm at q;lia)
 let P':Ca->Prop:=λc=>I.av c\/c=s2.heap.objs.size+4
 have hi:fz I.av P' s2.heap h3:=λc o e im ht=>⟨k3 c o e,λy n q z=>z.elim (ht y n q) λz=>by
  rw[z,x3 _ (Nc _ _)]at e;exact ja e⟩
 have rJ: @R ⟨P'⟩ w N x8 T.2 h3:=r2.tr hi (λc V o e=>k3 c o e) (λc o e=>k3 c o (r2.wK c o e)) (λc z=>z.elim (λz=>by
  obtain⟨o,ho,a⟩:=r2.avl c z;exact⟨o,k3 c o ho,a⟩) λz=>z▸Z3.tri)
 have EJ: @Lc ⟨P'⟩ w N S eo r.sl 0 D x8 h3:=E2.tr hi (λo e=>k3 _ o e) (λf v z6=>by obtain⟨o,e,a⟩:=z6;exact⟨o,k3 _ o e,a⟩) λc ha=>by
  obtain⟨o,ho⟩:=Na.mp (E2.eol c ha);refine U (k3 c o ho) ?_;rfl
 have a:Ou ⟨P'⟩ N eo x8 s2.heap.objs.size:=⟨λc q=>Rd r2 (x6 c q),λc q z=>(by
  have:=E2.eol c z;rw[x6 c q]at this;exact zc this ia),.inr rfl,λc q=>Hf r2 (x6 c q)⟩
 refine Oc (@JF w N A S eo n r s2.heap.objs.size p m C ⟨P'⟩ y3 bd t xs ys zs k AK y6 ht (hF ⟨P'⟩) y9 z3 5000 0 D x8 T.2 {s2 with heap:=h3} u L F v1 v2 v3 rJ EJ Z3 a (b1.tr (Ja _) hi) (b2.tr (Ja _) hi) (b3.tr (Ja _) hi) e4) λq s4 p4=>?_;obtain⟨f,x4,rfl,t5,kz,g5,g6,g7⟩:=p4;have x5:∀c o,s2.heap.get? c=J o->¬Tm s2.heap.objs.size c:=λc o e q=>by rw[x6 c q]at e;exact ja e
 have hd:fz P' I.av s4.heap s4.heap:=λc o e im ht=>⟨e,λy n q z=>ht y n q (.inl z)⟩;have rI:R w N x4 F s4.heap:= @R.tr w N s4.heap s4.heap x4 ⟨P'⟩ I.av F g5 hd (λV V V e=>e) (λc o e=>(@R.wK ⟨P'⟩ _ _ _ _ _ g5) c o e) λc z=>(@R.avl ⟨P'⟩ _ _ _ _ _ g5) c (.inl z);have EI:Lc w N S eo r.sl 0 L x4 s4.heap:= @Lc.tr w N s4.heap s4.heap x4 ⟨P'⟩ I.av S eo r.sl 0 L g6 hd (λV e=>e) (λV V x=>x) λc z=>(@Lc.eol ⟨P'⟩ _ _ _ _ _ _ _ _ _ g6) c z;have kp:Kp eo x8 s2.heap s4.heap x4:=⟨kz.pre,λc ha=>(kz.fresh c ha).imp_right λy=>(by
  induction z:s2.heap.get? c with
  |none=>rfl|some o=>exact nomatch (k3 c o z).symm.trans y),λc o e n1 n2=>kz.keep c o (k3 c o e) n1 n2 (x5 c o e),λc o e im=>kz.imm c o (k3 c o e) im (x5 c o e),λc z=>by
  obtain⟨o,ho⟩:=Na.mp z;by_cases V:c∈x8
  ·obtain⟨x,hx,_⟩:=rI.live (Kh kz.pre V)
   refine U hx ?_;rfl
  ·by_cases x:eo c
   ·exact EI.eol c x
   ·refine U (kz.keep c o (k3 c o ho) V x (x5 c o ho)) ?_;rfl⟩
 refine⟨x4,(u1.trans u2).trans t5.past,((k1.kp P).trans (k2.kp E1)).trans kp,rI,EI,?_⟩;have x:= @T3.wF _ _ ⟨P'⟩ _ _ _ g7
 induction u with
 |next=>rw[(x:f=_)];exact .next|ret v=>
  obtain⟨V,rfl,x7⟩:=x;exact .ret (@VR.tr w s4.heap s4.heap x4 x4 ⟨P'⟩ I.av (Ja _) hd _ _ x7)
end
section
variable {P:Type} {n R:Nat}
namespace SF
theorem entry_set_iter:qby table "set.__iter__"=J Yj.«frozenset.__iter__» :=
 qbz (id':="frozenset.__iter__") (by refine U (kn _) ?_;kernel_rfl) rfl (by refine U sr ?_;decide+kernel) (by refine U (kn _) ?_;kernel_rfl)
theorem slot_set_iterator_next:Slot "set_iterator" "__next__" "set_iterator.__next__":=
 .of (owner:="set_iterator") (n:="__next__") (by refine U (qaO _ _) (U uR ?_);kernel_rfl) (by decide+kernel) (by decide+kernel) (by decide+kernel)
  (by first|exact .inl (by decide+kernel)|exact .inr (by decide+kernel)) (by refine U (xE _ _) ?_;kernel_rfl)
theorem entry_set_iterator_next:qby table "set_iterator.__next__"=J Yj.«set_iterator.__next__» :=entryFor_of_tree (by kernel_rfl)
theorem args_set_iterator_next_1(a:wa):yL "set_iterator.__next__" ⟨[a],[]⟩:=by
 unfold yL;refine U Zw ?_;kernel_rfl
theorem slot_set_iterator_iter:Slot "set_iterator" "__iter__" "set_iterator.__iter__":=
 .of (owner:="set_iterator") (n:="__iter__") (by refine U (qaO _ _) (U uR ?_);kernel_rfl) (by decide+kernel) (by decide+kernel) (by decide+kernel)
  (by first|exact .inl (by decide+kernel)|exact .inr (by decide+kernel)) (by refine U (xE _ _) ?_;kernel_rfl)
theorem args_set_iterator_iter_1(a:wa):yL "set_iterator.__iter__" ⟨[a],[]⟩:=by
 unfold yL;refine U Zw ?_;kernel_rfl
theorem entry_set_iterator_iter:qby table "set_iterator.__iter__"=J Yj.«dict_keyiterator.__iter__» :=
 qbz (id':="dict_keyiterator.__iter__") (by refine U (kn _) ?_;kernel_rfl) rfl (by refine U sr ?_;decide+kernel) (by refine U (kn _) ?_;kernel_rfl)
end SF
theorem ix(l:List P):∀(i:Nat)(h:i<l.length),(l[i]::l.eraseIdx i).Perm l:=by
 induction l with
 |nil=>exactλi h=>zc h (We _)|cons x l b=>
  intro i h
  induction i using Sa with
  |zero=>exact .refl _|succ i=>exact(qeF x _ _).trans (qeD x (b i (Eg h)))
theorem jC(next:Nat->Nat):∀(n k:Nat)(l:List P)(b:Array P),n=l.length->(f9.go next n k l b).toList.Perm (b.toList++l):=by
 intro n
 induction n with
 |zero=>
  rintro k l b e;have:l=[]:=jg.mp e.symm;subst this;show b.toList.Perm (b.toList++[])
  rw[Wb]
 |succ n d=>
  rintro k l b e;have c:next k%l.length<l.length:=Nat.mod_lt _ (by lia);show NX (match l[next k%l.length]? with|some x=>f9.go next n (k+1) (l.eraseIdx (next k%l.length)) (b.push x)|none=>b) |>.Perm _
  refine U (Wa c) ?_;show NX (f9.go next n (k+1) (l.eraseIdx (next k%l.length)) (b.push l[next k%l.length])) |>.Perm _
  refine(d (k+1) _ _ (by refine U List.length_eraseIdx ?_;simp[c];lia)).trans ?_;exact U Array.toList_push (U (Dc _ _ _) (qeC _ (ix l _ c)))
theorem OJ(next:Nat->Nat)(b:Array P):(f9 next b).toList.Perm b.toList:=by
 unfold f9
 simpa using jC next b.size 0 b.toList #[] (by rfl)
def sq(X W V:Option jk):List (Int×wa):=kB 0 X++(kB 1 W++kB 2 V)
def DH(X W V:Option jk):List Nat:=nX 0 X++(nX 1 W++nX 2 V)
theorem eT(X W V:Option jk):(sq X W V).length=(DH X W V).length:=by induction X<;>induction W<;>induction V<;>rfl
theorem fE(X W V:Option jk):(sq X W V).length<=3:=by induction X<;>induction W<;>induction V<;>exact gb rfl
noncomputable def U4(a b c:Bool):List Nat:=(if a=Z then[0]else[])++((if b=Z then[1]else[])++(if c=Z then[2]else[]))
theorem iP(X W V:Option jk):DH X W V=U4 X.isSome W.isSome V.isSome:=by induction X<;>induction W<;>induction V<;>rfl
theorem uU:∀a b c:Bool,∀i∈[0,1,2],∀j∈[0,1,2],(U4 a b c)[i]?=J j->Uf (U4 a b c).toArray (j+1)=i+1:=by decide+kernel
theorem jP:∀a b c:Bool,Uf (U4 a b c).toArray 0=0:=by decide+kernel
theorem dP(X W V:Option jk):Uf (DH X W V).toArray 0=0:=iP X W V▸jP _ _ _
theorem tU:∀a b c:Bool,(U4 a b c).length<=3/\∀j∈U4 a b c,j∈[0,1,2]:=by decide+kernel
theorem qfa{i:Nat}(h:i<3):i∈[0,1,2]:=(bc.mpr h:i∈Ka 3)
theorem cP(X W V:Option jk)(i j:Nat)(e:(DH X W V)[i]?=J j):Uf (DH X W V).toArray (j+1)=i+1:=by
 rw[iP]at e|-;have m:=tU X.isSome W.isSome V.isSome;exact uU _ _ _ i (qfa (rb (wb.mp e).1 m.1)) j (m.2 j (Ma e)) e
theorem sg(X W V:Option jk)(b:Bool):(⟨7,(DH X W V).toArray,#[],0,b,0,Z⟩:qbj).fits (sq X W V).toArray.size=Z:=by induction X<;>induction W<;>induction V<;>rfl
def Ik(w:zb)(a:Ca)(S:Nat)(X W V:Option jk):List (Int×wa):=
 if w.params.followText "set-order"then(f9 (w.params.setOrder a S) (sq X W V).toArray).toList else sq X W V
theorem Mp(w:zb)(a:Ca)(S:Nat)(X W V:Option jk):(Ik w a S X W V).Perm (sq X W V):=by
 unfold Ik;split
 ·exact OJ _ _
 ·exact .refl _
def S3(w:zb)(h:qb)(a:Ca)(S:Nat)(X W V:Option jk):Prop:=
 h.get? a=J {cls:=.type "set",dict:=Y,data:=.set (sq X W V).toArray S ⟨7,(DH X W V).toArray,#[],0,!w.params.followText "set-order",0,Z⟩,slots:= #[]}
def yI(w:zb)(h:qb)(Q a:Ca)(i n S:Nat)(X W V:Option jk):Prop:=
 ∃o R,h.get? Q=J o/\o.cls=.type "set_iterator"/\o.data=.fields #[.int (R:Nat) 0,.int (i:Nat) 0,.ref a,.int (n:Nat) 0,.int (S:Nat) 0]/\(w.params.followText "set-order"=ua->Uf (DH X W V).toArray R=i)
variable {w:zb} {A:Yb} {E:wa->Ea->Prop} {s:Ea} {a Q:Ca} {S i:Nat} {X W V:Option jk}
theorem S3.typeIs(h:S3 w s.heap a S X W V):s.TypeIs (.ref a) "set":=⟨_,h,rfl⟩
theorem yI.typeIs(h:yI w s.heap Q a i n S X W V):s.TypeIs (.ref Q) "set_iterator":=by obtain⟨o,d,b,c,_⟩:=h;exact⟨_,b,c⟩
theorem o9(b:Bool):(!(⟨7,(DH X W V).toArray,#[],0,b,0,Z⟩:qbj).plain&&(sq X W V).toArray.size>1)=ua:=rfl
theorem UJ{b:wa->Ea->Prop}(c:S3 w s.heap a S X W V)
 (d:b (.ref s.heap.objs.size) {s with heap:=s.heap.push {cls:=.type "set_iterator",data:=.fields #[.int 0 0,.int 0 0,.ref a,.int ((sq X W V).length:Nat) 0,.int (S:Nat) 0]}}):
 Qa (bb pg w) A (qw (.ref a)) b E s:=by
 refine c5 c.typeIs R3 (Kf R3 c.typeIs SF.entry_set_iter ?_ (F.args_set_iter_1 _));show Qa _ _ ((setEntries a>>=_)>>=_) _ _ _
 refine ga (ga (ku c rfl (sg _ _ _ _) (ta ?_)));unfold setDrawn;refine ga (ga (mj c rfl (sg _ _ _ _) ?_))
 dsimp only
 unfold Z0;refine ga (ga (Hh (ta (ta (U (cW _) (U (fe ia) ?_))))));refine ga (ta (ga (wpAny_setEpoch_of c rfl (sg _ _ _ _) ?_)));refine ga (lj (ta ⟨_,rfl,"set_iterator",_,⟨_,Oa _ rfl,rfl⟩,SF.slot_set_iterator_next.lookup,?_⟩))
 simpa [ag]using d
theorem Aw{b:Option (wa×Nat)->Ea->Prop}(o:S3 w s.heap a S X W V)(j:w.params.followText "set-order"=ua->Uf (DH X W V).toArray R=i)
 (f:∀r:Option (wa×Nat),r.map (λx=>x.1)=(Ik w a S X W V)[i]?.map (λx=>x.2)->(∀p,r=J p->w.params.followText "set-order"=ua->Uf (DH X W V).toArray p.2=i+1)->b r s):
 Qa (bb pg w) A (V4 a R i S) b E s:=by
 unfold V4;refine ga (mj o rfl (sg _ _ _ _) ?_)
 dsimp only
 unfold Z0;refine ga (ga (Hh (ta ?_)))
 dsimp only
 induction c:w.params.followText "set-order"with
 |true=>
  refine U (Dd (show(bb pg w).w.params.followText "set-order"=Z from c)) (U (fe (by simp)) ?_);unfold setWalk;refine ga (ga (mj o rfl (sg _ _ _ _) ?_))
  dsimp only
  unfold Z0;refine ga (ga (Hh (ta ?_)))
  dsimp only
  refine U (Dd (show(bb pg w).w.params.followText "set-order"=Z from c)) (ga (Hh (ta ?_)));refine ta (f _ ?_ ?_)
  ·unfold Ik;refine U (Dd c) (U sD (U (pf _ _ _) ?_));rfl
  ·intro p _ d;rw[c]at d;exact zc d.symm ia
 |false=>
  refine U (fe (show¬((bb pg w).w.params.followText "set-order"=Z)from by show¬(w.params.followText "set-order"=Z);rw[c];exact ia)) ?_;have q:Ik w a S X W V=sq X W V:=by unfold Ik;refine U c ?_;rfl
  rw[q]at f;have l:=j c;refine li (λh=>zc (show ua=Z from h) ia) λu=>(ga (ta (U l ?_)));have d:=eT X W V;refine U jc (U jc ?_)
  induction h:(sq X W V)[i]? with
  |none=>
   refine ta (f _ (by refine U h ?_;rfl) ?_);intro p g;exact ja g
  |some e=>
   have t:i<(DH X W V).length:=by refine Ed d ?_;exact(wb.mp h).1
   have g:=Wa t;refine U g ?_;obtain⟨k,x⟩:=e;refine ta (f _ (by refine U h ?_;rfl) ?_);intro p m _;obtain rfl:=ba m;exact cP _ _ _ _ _ g
theorem NR{o:yD}{b:Nat}(f:s.heap.get? Q=J o)(g:o.cls=.type "set_iterator")(e:o.data=.fields #[.int (R:Nat) 0,.int (i:Nat) 0,.ref a,.int (n:Nat) 0,.int (S:Nat) 0])
 (d:w.params.followText "set-order"=ua->Uf (DH X W V).toArray b=i+1):
 yI w ((s.heap.update Q (bm λx=>x.setIfInBounds 0 (ag (b:Nat)))).update Q (bm λx=>x.setIfInBounds 1 (ag ((i:Int)+1)))) Q a (i+1) n S X W V:=by
 have h:=Qc (bm λx=>x.setIfInBounds 0 (ag (b:Nat))) f (Si (Ce e _));have c:=Ce e λx=>x.setIfInBounds 0 (ag (b:Nat));have j:=Qc (bm λx=>x.setIfInBounds 1 (ag ((i:Int)+1))) h (Si (Ce c _));refine⟨_,b,j,(Rt ..).trans ((Rt ..).trans g),?_,d⟩;refine U (Ce c _) ?_;simp[ag]
theorem sw{e:Int×wa}{b:Option wa->Ea->Prop}(c:yI w s.heap Q a i n S X W V)(m:n=(sq X W V).length)(l:S3 w s.heap a S X W V)(t:(Ik w a S X W V)[i]?=J e)
 (v:∀d,yI w d Q a (i+1) n S X W V->ff Q s.heap d->b (J e.2) {s with heap:=d}):
 Qa (bb pg w) A (Dp (.ref Q)) b E s:=by
 have hT:=c.typeIs;obtain⟨o,R,f,y,d,j⟩:=id c;unfold Dp;refine ga (Gu (jf (name:=Gg "__next__") hT SF.slot_set_iterator_next
  (Kf SF.slot_set_iterator_next hT SF.entry_set_iterator_next ?_ (SF.args_set_iterator_next_1 _))))
 show Qa _ _ (fieldsOf (.ref Q)>>=_) _ _ _
 refine ga (qdi f d (ga (ku l rfl (sg _ _ _ _) ?_)));refine li (λh=>zc h (by refine U m ?_;simp)) λu=>?_;show Qa _ _ (V4 a R i S>>=_) _ _ _
 refine ga (Aw l j λr g k=>?_);rw[t]at g
 induction r with
 |none=>exact ja g|some p=>
  obtain⟨x,z⟩:=p;simp only[Vm,Bj]at g
  dsimp only
  refine ga (Jm f d (by simp) ?_);have B:=Qc (bm λx=>x.setIfInBounds 0 (ag (z:Nat))) f (Si (Ce d _));refine ga (Jm B (Ce d _) (by simp) ?_);subst g;exact ta ⟨_,rfl,ta (v _ (NR f y d λq=>k _ rfl q) ((zd ..).trans (zd ..)))⟩
theorem rx{d:Option wa->Ea->Prop}(x:A.handled=Y)(f:yI w s.heap Q a i n S X W V)(y:n=(sq X W V).length)(l:S3 w s.heap a S X W V)(z:(Ik w a S X W V)[i]?=Y)
 (B:∀g,n5 Q s.heap g->d Y {s with heap:=g}):Qa (bb pg w) A (Dp (.ref Q)) d E s:=by
 have hT:=f.typeIs;obtain⟨o,R,m,D,t,j⟩:=id f;unfold Dp;refine ga (Gu (jf (name:=Gg "__next__") hT SF.slot_set_iterator_next
  (Kf SF.slot_set_iterator_next hT SF.entry_set_iterator_next ?_ (SF.args_set_iterator_next_1 _))))
 show Qa _ _ (fieldsOf (.ref Q)>>=_) _ _ _
 refine ga (qdi m t (ga (ku l rfl (sg _ _ _ _) ?_)));refine li (λh=>zc h (by refine U y ?_;simp)) λu=>?_;show Qa _ _ (V4 a R i S>>=_) _ _ _
 refine ga (Aw l j λr v C=>?_);rw[z]at v
 induction r with
 |some p=>exact ja v.symm|none=>
  dsimp only
  exact ga (Jm m t (by simp) (gI (show A.in1.handled=Y from x) λg e k p=>(ga (Mo (T:="StopIteration") (b:=Z) p qcu (ta (B _ λc o n q=>k c o ((zd ..).extBut c o n q)))))))
theorem Walks.s3(q:A.handled=Y)(I a:Ca)(k:a≠I)(S:Nat)(X W V:Option jk):
 Walks pg w A I [I,a] [I] (sq X W V).length (λi v=>∃e,(Ik w a S X W V)[i]?=J e/\v=e.2) (λi h=>yI w h I a i (sq X W V).length S X W V/\S3 w h a S X W V)where
 sub:=λb d=>by simp at d;simp[d]
 frame:=λu u u st m=>⟨tD st.1 λo z=>z.elim λc z=>⟨o,c,m I (by exact sa) o z.1,z.2⟩,m a (by simp) _ st.2⟩
 item:=λi s c E r st f=>by
  have t:=(Mp w a S X W V).length_eq;obtain⟨e,p⟩:∃e,(Ik w a S X W V)[i]?=J e:=⟨(Ik w a S X W V)[i],by simp[t,r]⟩;exact sw st.1 rfl st.2 p λl g j=>(f _ l s.toks ⟨e,p,rfl⟩ ⟨g,j.extBut a _ k st.2⟩ λb o d e=>j.extBut b o (λh=>d (by simp[h])) e)
 done:=λs c E st f=>rx q st.1 rfl st.2 (by refine U (propext dh) (U ((Mp w a S X W V).length_eq) ?_);exact Gb _) λl g=>f l s.toks λb o d e=>g b o (λh=>d (by simp[h])) e
 self:=λi s c E st f=>by
  refine c5 st.1.typeIs SF.slot_set_iterator_iter (Kf SF.slot_set_iterator_iter st.1.typeIs SF.entry_set_iterator_iter ?_ (SF.args_set_iterator_iter_1 _));exact ta ⟨_,rfl,"set_iterator",_,st.1.typeIs,SF.slot_set_iterator_next.lookup,f⟩
end
section
variable {k:Int} {t:jk}
section
variable {w:zb} {A:Yb} {E:wa->Ea->Prop} {s:Ea} {a:Ca} {Q:Nat} {X V T:Option jk}
theorem sv{o:Option jk}{e:Int×wa}(h:e∈kB k o):∃t,e=(k,.int k t):=by
 induction o with
 |none=>cases h|some t=>exact⟨t,Ra.mp h⟩
theorem qo(X V T:Option jk):ElemsOf (ig pg w) (sq X V T).toArray.toList:=λe b=>by
 rcases Xb.mp b with h|h
 ·obtain⟨t,rfl⟩:=sv h
  exact⟨⟨_,xm _ _ _ _,rfl⟩,rfl⟩
 ·rcases Xb.mp h with h|h
  ·obtain⟨t,rfl⟩:=sv h
   exact⟨⟨_,xm _ _ _ _,rfl⟩,rfl⟩
  ·obtain⟨t,rfl⟩:=sv h
   exact⟨⟨_,xm _ _ _ _,rfl⟩,rfl⟩
abbrev qaN(b:Bool)(X V T:Option jk):qbj:=⟨7,(DH X V T).toArray,#[],0,b,0,Z⟩
theorem uv(X V T:Option jk):(sq X V T).toArray.size<scanBound:=by
 have:=fE X V T;refine U Hb (U (show scanBound=4096 from rfl) ?_);lia
theorem Qj{j:Nat}{b:Bool->Ea->Prop}(c:S3 w s.heap a Q X V T)(d:(sq X V T).toArray.toList.findIdx? (λe=>(ig pg w).is k e.2)=J j)(e:b ua s):
 Qa (bb pg w) A (Ep a (.int k t) (G4 k)) b E s:=by
 unfold Ep qcZ;refine Kb (ga (mj c rfl (sg _ _ _ _) ?_))
 dsimp only
 refine U (byScan_of (knd:=ig pg w) rfl (uv _ _ _) (qo _ _ _)) ?_;simp only[↓reduceIte];unfold qfh;refine ga (ga (Xj (ga (W9 (knd:=ig pg w) (xm _ _ _ _) c rfl (sg _ _ _ _) (qo _ _ _) (U d ?_)))));exact ta (ta e)
theorem bF{p0 p1 p2:Option jk}{c:Bool->Ea->Prop}(d:S3 w s.heap a Q X V T)(f:(sq X V T).toArray.toList.findIdx? (λe=>(ig pg w).is k e.2)=Y)
 (e:∀b,layNew (qaN b X V T) (sq X V T).toArray (G4 k) (.int k t)=((sq p0 p1 p2).toArray,qaN b p0 p1 p2,ua,ua))(g:∀b,(qaN b p0 p1 p2).tooFull=ua)
 (h:∀b,ff a s.heap b->S3 w b a (Q+1) p0 p1 p2->c Z {s with heap:=b}):
 Qa (bb pg w) A (Ep a (.int k t) (G4 k)) c E s:=by
 unfold Ep qcZ;refine Kb (ga (mj d rfl (sg _ _ _ _) ?_))
 dsimp only
 refine U (byScan_of (knd:=ig pg w) rfl (uv _ _ _) (qo _ _ _)) ?_;simp only[↓reduceIte];unfold qfh;refine ga (ga (Xj (ga (W9 (knd:=ig pg w) (xm _ _ _ _) d rfl (sg _ _ _ _) (qo _ _ _) (U f ?_)))));refine U (e _) ?_
 dsimp only
 refine ga (ta (U (Dd rfl) (U (hashByValue_scannable 8 (x:=.int k t) rfl) (ga (ta ?_)))));refine U (Dd (show plainKind (.int k t)=Z from rfl)) (ga (wpAny_storeSet_of d rfl ?_ (fits_of_scanBound (uv _ _ _))));refine U (g _) (ta (ta (h _ (zd _ _ _) ?_)));have:=Qc (yD.putSet (sq p0 p1 p2).toArray (qaN (!w.params.followText "set-order") p0 p1 p2)) d (by refine U (putSet_of _ _ rfl) ?_;rfl);rw[putSet_of _ _ rfl]at this;exact this
noncomputable def oC(k:Int)(t:jk)(j:Int)(o:Option jk):Option jk:=if k=j then J (o.getD t)else o
theorem T0{c:Bool->Ea->Prop}(i:k=0\/k=1\/k=2)(d:S3 w s.heap a Q X V T)
 (f:∀b g e,ff a s.heap e->S3 w e a g (oC k t 0 X) (oC k t 1 V) (oC k t 2 T)->c b {s with heap:=e}):
 Qa (bb pg w) A (Ep a (.int k t) (G4 k)) c E s:=by
 have same:=λb h=>f b Q s.heap (Y9 a s.heap) h;rcases i with rfl|rfl|rfl
 ·refine aa λg=>?_
  induction X with
  |some u=>refine g ?_;exact Qj (j:=0) d rfl (same ua d)|none=>
   refine g ?_
   induction V<;>induction T<;>exact bF (p0:=J t) d rfl (λb=>by kernel_rfl) (λb=>by kernel_rfl) λe x y=>f Z _ e x y
 ·induction V with
  |some u=>
   induction X
   ·exact Qj (j:=0) d rfl (same ua d)
   ·exact Qj (j:=1) d rfl (same ua d)
  |none=>
   induction X<;>induction T<;>exact bF (p1:=J t) d rfl (λb=>by kernel_rfl) (λb=>by kernel_rfl) λe x y=>f Z _ e x y
 ·induction T with
  |some u=>
   induction X<;>induction V
   ·exact Qj (j:=0) d rfl (same ua d)
   ·exact Qj (j:=1) d rfl (same ua d)
   ·exact Qj (j:=1) d rfl (same ua d)
   ·exact Qj (j:=2) d rfl (same ua d)
  |none=>
   induction X<;>induction V<;>exact bF (p2:=J t) d rfl (λb=>by kernel_rfl) (λb=>by kernel_rfl) λe x y=>f Z _ e x y
end
def ct(b:List Int)(X V T:Option jk):Prop:=X.isSome=b.contains 0/\V.isSome=b.contains 1/\T.isSome=b.contains 2
theorem ct.step{c:List Int}{X V T:Option jk}(h:ct c X V T)(k:Int)(t:jk):ct (c++[k]) (oC k t 0 X) (oC k t 1 V) (oC k t 2 T):=by
 have b:∀(j:Int)(o:Option jk),o.isSome=c.contains j->(oC k t j o).isSome=(c++[k]).contains j:=λj o e=>by
  unfold oC;rw[List.contains_eq_any_beq]at e|-;refine U List.any_append (Ed e ?_);by_cases q:k=j
  ·subst q;simp
  ·simp only[q,if_false];simp;exactλh=>zc h.symm q
 exact⟨b _ _ h.1,b _ _ h.2.1,b _ _ h.2.2⟩
variable {w:zb} {A:Yb} {R:Dr->Ea->Prop} {I:Ca} {N O:List Ca} {G:Array FR->Array FR->Prop} {n:Nat} {P:Nat->wa->Prop} {St:Nat->Ea->Prop}
theorem VP(W:WalksS pg w A.in1 I N O G n P St)(S:Ca)(q:S∉N)(c:List Int)(hn:c.length=n)(h3:∀k∈c,k=0\/k=1\/k=2)(r:∀i v,P i v->∃t,v=.int (c.getD i 0) t):
 ∀(k i:Nat)(s:Ea)(Q:Nat)(X V T:Option jk),n - i=k->i<=n->St i s->S3 w s.heap S Q X V T->ct (c.take i) X V T->
  (∀d j p0 p1 p2,Moved (S::O) G s d->S3 w d.heap S j p0 p1 p2->ct c p0 p1 p2->R (.ok (.ret .none)) d)->
  ch (bb pg w) A (.builtin "set.update.loop" ⟨[.ref S,.ref I],[]⟩) R s:=by
 have u:S∉O:=λh=>q (W.sub _ h);have f:∀b∈O,b∈S::O:=λb x=>oa _ x;intro k
 induction k with
 |zero=>
  intro i s Q X V T hk hi l hS hF hR;have e:i=n:=ax hi (Nat.sub_eq_zero_iff_le.mp hk);subst e;refine cg LF (U (Fe nn _) (ga (W.done s _ _ l λd y=>?_)));rw[<-hn,List.take_length]at hF;exact ta (hR d Q _ _ _ (y.mono f) (y.heap S _ u hS) hF)
 |succ k ih=>
  intro i s Q X V T hk hi l hS hF hR;have m:i<n:=UF hk;refine cg LF (U (Fe nn _) (ga (W.item i s _ _ m l λv d hP z y=>?_)));obtain⟨t,rfl⟩:=r i v hP;have x1:=y.heap S _ u hS;have p:i<c.length:=hn▸m;have g:c.getD i 0=c[i]:=by refine U List.getD_eq_getElem?_getD (U (Wa p) ?_);rfl
  refine ga (Kb ?_);unfold setAdd;refine Kb (ga ((ig pg w).pyHash (k:=c.getD i 0) (xm _ _ _ _) ?_));refine T0 (s:={d with toks:=d.toks+1}) (h3 _ (by refine U g ?_;exact mu p)) x1 λb j h' B x2=>?_;refine ta ⟨ak nn _,ih (i+1) _ j _ _ _ (by refine U (G5 _ _) (U hk ?_);rfl) m (W.frame _ d _ _ z (se _) λb x o e=>?_) x2 (by refine U (List.take_succ_eq_append_getElem p) (Ed g ?_);exact hF.step _ _) λx3 C p0 p1 p2 D K L=>?_⟩
  ·exact U (B.2 b λh:b=S=>q (by rw[<-h];exact x)) e
  ·refine hR x3 C p0 p1 p2 (Moved.trans W.gtrans ((y.mono f).then_heap (se _) λb o x e=>?_) D) K L
   exact U (B.2 b λh:b=S=>x (by rw[h];exact sa)) e
end
noncomputable abbrev yw(w:zb):yD:={cls:=.type "set",dict:=Y,data:=.set #[] 0 (.fresh 0 0 (!w.params.followText "set-order"))}
def GR(c:String)(h:qb)(a:Ca)(b:Array wa):Prop:=∃o,h.get? a=J o/\o.cls=.type c/\∃n,o.data=.seq b n
def qbf(c:String)(h:qb)(a l:Ca)(i:Nat):Prop:=∃o,h.get? a=J o/\o.cls=.type c/\o.data=.fields #[.ref l,.int i 0]
theorem p9{w:zb}{h:qb}:S3 w (h.push (yw w)) h.objs.size 0 Y Y Y:=Oa _ rfl
theorem S3.keep{w:zb}{h b:qb}{a:Ca}{c:Nat}{d f g:Option jk}(e:S3 w h a c d f g)(i:∀x,h.get? a=J x->b.get? a=J x):S3 w b a c d f g:=i _ e
section
variable {w:zb} {A:Yb} {E:wa->Ea->Prop} {s:Ea}
theorem WP(a:wa){Q₁:wa->Ea->Prop}
 (h:Q₁ (.ref s.heap.objs.size) {s with heap:=s.heap.push (yw w)}):
 ch (bb pg w) A (.call (.builtin "set.__new__") ⟨[.type "set",a],[]⟩) (wants Q₁ E) s:=by
 refine Ug ?_;show Qa _ A.in1 (do I6 "set.__new__" ⟨[.type "set",a],[]⟩;again (.builtin "set.__new__" ⟨[.type "set",a],[]⟩)) _ _ s
 refine ga (af (F.newCall_set_1 a) (ta ⟨ak Q3 _,cg F.entry_set_new ?_⟩));refine U (Fe Q3 _) ?_;unfold Yj.«set.__new__» BR;have b:=sub_set_self;obtain⟨c,g,d,e,os⟩:=s
 dsimp only
 wp_walk
 refine Hh (ta ?_)
 dsimp only
 simp only[newObj];refine ga (qfC (ta ?_));exact ta h
set_option maxRecDepth 100000 in
set_option maxHeartbeats 3200000 in
theorem ZP{c ci:String}{l:Ca}{a:Array wa}{n:List Int}{Q:wa->Ea->Prop}
 (C:isSubtype (.type c) (.type "set")=pure ua)(D:isSubtype (.type c) (.type "frozenset")=pure ua)(x1:(uf c==uf "dict")=ua)
 (hP:∀{A Q E s},GR c s.heap l a->Q (.ref s.heap.objs.size) {s with heap:=s.heap.push {cls:=.type ci,data:=.fields #[.ref l,.int 0 0]}}->Qa (bb pg w) A (qw (.ref l)) Q E s)
 (hW:∀{A I},A.handled=Y->l≠I->Walks pg w A I [I,l] [I] a.size (λi v=>a[i]?=J v) λi h=>qbf ci h I l i/\GR c h l a)
 (hh:A.handled=Y)(hl:GR c s.heap l a)(hi:Xi a.toList n)(h3:∀k∈n,k=0\/k=1\/k=2)
 (h:∀(g:qb)(X:Nat) ep y z B,S3 w g s.heap.objs.size ep y z B->ct n y z B->
  (∀b o,s.heap.get? b=J o->g.get? b=J o)->Q (.ref s.heap.objs.size) {s with heap:=g,toks:=X}):
 Qa (bb pg w) A (call (.type "set") [.ref l]) Q E s:=by
 obtain⟨c0,tl,G⟩:=vh.mro;have p:=vh.made;have K:=vh.sub;refine Np (Ug ?_);show Qa _ _ (callAny (.type "set") _) _ _ _
 refine ta ⟨Code.quiet_builtin _ (by decide+kernel),cg F.entry_type_call ?_⟩;refine U (Yb.under_plain (weight_type_call_type "set" [.ref l] []) rfl) ?_;have h1:=vh.notType;have h2:=vh.canCreate;have x2:=F.typeCall_set_1 (.ref l)
 wp_delta
 refine Jb rfl (Jb rfl (ga (af x2 (ga (af G (Jb rfl (ga (af p (ga (ta (ga (Kb (Np ?_)))))))))))));refine Oc (WP (.ref l) (E:=E) (Q₁:=λL k=>L=.ref s.heap.objs.size/\k={s with heap:=s.heap.push (yw w)}) ⟨rfl,rfl⟩) λr k hr=>?_
 induction r with
 |error e=>exact hr|ok fl=>
  induction fl with
  |ret L=>
   obtain⟨rfl,rfl⟩:=hr;have hS:(s.heap.push (yw w)).get? s.heap.objs.size=J (yw w):=Oa _ rfl;have hT:Ea.TypeIs {s with heap:=s.heap.push (yw w)} (.ref s.heap.objs.size) "set":=⟨_,hS,rfl⟩;have x3:=vh.init.lookup;have x4:=vh.init.bind (.ref s.heap.objs.size);refine ga (Mo hT K (Jb rfl (ga (Kb ?_))))
   wp_delta
   refine ga (qaY hT x3 (Kb (ga (af x4 (ga (Np ?_))))));refine Oc (ES (R:=wants (λr m=>r=.none/\∃g X,m={s with heap:=g,toks:=X}/\
    (∃ep y z B,S3 w g s.heap.objs.size ep y z B/\ct n y z B)/\
    (∀b o,s.heap.get? b=J o->g.get? b=J o)) E) vh.init.plain F.entry_set_init (check_set_init_1 hT ?_)) λN m f=>?_
   ·refine Cn λQ1 E1 x5=>?_
    obtain⟨ol,O,P,nl,S⟩:=hl;obtain⟨y7,q,x6,j⟩:=ol;simp only at P S;subst P;subst S;have d:(s.heap.push (yw w)).get? l=J {cls:=.type c,dict:=q,data:=.seq a nl,slots:=j}:=Ba _ O;have x7:GR c (s.heap.push (yw w)) l a:=⟨_,d,rfl,nl,rfl⟩;unfold Yj.«set.__init__» noKeywords DR;generalize x8:qw=PI;refine ga (Xs rfl (ta ?_))
    wp_delta
    refine ga ?_
    wp_delta
    refine ga ?_
    wp_delta
    refine ga (Dx hT (Jb rfl (ta ?_)))
    wp_delta
    wp_delta
    refine ta (ga ?_)
    wp_delta
    refine Jb rfl (Jb rfl (Jb rfl (ta (ga ?_))))
    wp_delta
    refine ta (ga ?_)
    wp_delta
    refine ga ?_
    wp_delta
    refine ga (wpAny_load' hS (Jb rfl (ta (ta (Jb rfl ?_)))))
    wp_delta
    refine ga (ga ?_)
    wp_delta
    wp_delta
    refine ga ?_
    wp_delta
    refine ga ?_
    wp_delta
    refine ga (qD d (ta (af C ?_)))
    wp_delta
    wp_delta
    refine ga ?_
    wp_delta
    refine ga (qD d (ta (af D (Jb rfl (ga ?_)))))
    wp_delta
    refine ga (qD d (ta (Jb (by simp[x1]) (ga ?_))));subst x8;refine hP x7 ?_;refine ga (qdk ?_);have T:l<s.heap.objs.size:=qc O;have x9:A.in1.in1.in1.handled=Y:=by simp[hh]
    have V:l≠(s.heap.push (yw w)).objs.size:=by
     refine U (ie _ _) ?_;exact ic (Tf T)
    have y1:s.heap.objs.size∉[(s.heap.push (yw w)).objs.size,l]:=by
     refine U (ie _ _) ?_;simp only[fb,Tb,or_false,not_or];exact⟨ic (pd _),qi T⟩
    have W:∀(i:Nat)(v:wa),a[i]?=J v->∃t,v=.int (n.getD i 0) t:=λi v hv=>
     Xi.int_at hi i v (by refine U sD ?_;exact hv)
    have y2:n.length=a.size:=by exact Ed (Xi.length hi) (U Array.length_toList rfl)
    refine VP ((hW x9 V).toS) s.heap.objs.size
     y1 n y2 h3 W (a.size - 0) 0 _ 0 Y Y Y (by omega) (td _)
     ⟨⟨_,Oa _ rfl,rfl,rfl⟩,⟨_,Ba _ d,rfl,nl,rfl⟩⟩ (Ba _ hS) ⟨rfl,rfl,rfl⟩ ?hR
    case hR=>
     intro s' y8 p0 p1 p2 hm u x;obtain⟨g,g',d',y3,y4⟩:=s';have eg:g'=s.gens:=hm.gens;have ed:d'=s.drawn:=hm.drawn;have eo:y4=s.os:=hm.os;subst eg;subst ed;subst eo;show Qa _ _ _ _ _ _
     refine ta ?_;show Qa _ _ (ret fq) _ _ _
     refine ta (x5 _ _ ⟨rfl,g,y3,rfl,⟨_,_,_,_,u,x⟩,λb o e=>?_⟩);have hb:=qc e;have y5:b≠s.heap.objs.size:=ic hb;have y6:b≠(s.heap.push (yw w)).objs.size:=by
      refine U (ie _ _) ?_;exact ic (Tf hb)
     exact hm.heap b o (by simp only[fb,Tb,or_false,not_or];exact⟨y5,y6⟩) (Ba _ (Ba _ e))
   ·induction N with
    |error e=>exact f|ok b=>
     induction b with
     |ret r=>
      obtain⟨rfl,g,X,rfl,⟨ep,y,z,B,u,x⟩,d⟩:=f;refine ta (Jb rfl ?_)
      wp_delta
      wp_delta
      refine ta ?_;exact h _ _ _ _ _ _ u x d
     |_=>exact f.elim
  |_=>exact hr.elim
theorem TC{l:Ca}{items:Array wa}{ns:List Int}{Q:wa->Ea->Prop}
 (f:A.handled=Y)(g:s.heap.IsList l items)(i:Xi items.toList ns)(j:∀k∈ns,k=0\/k=1\/k=2)
 (h:∀(a:qb)(k:Nat) m c d e,S3 w a s.heap.objs.size m c d e->ct ns c d e->
  (∀b o,s.heap.get? b=J o->a.get? b=J o)->Q (.ref s.heap.objs.size) {s with heap:=a,toks:=k}):
 Qa (bb pg w) A (call (.type "set") [.ref l]) Q E s:=ZP F.sub_list_set F.sub_list_frozenset (by decide) b5 (λa b=>Walks.list a _ l b items) f g i j h
theorem fA{l:Ca}{items:Array wa}{ns:List Int}{Q:wa->Ea->Prop}
 (f:A.handled=Y)(g:s.heap.IsTuple l items)(i:Xi items.toList ns)(j:∀k∈ns,k=0\/k=1\/k=2)
 (h:∀(a:qb)(k:Nat) m c d e,S3 w a s.heap.objs.size m c d e->ct ns c d e->
  (∀b o,s.heap.get? b=J o->a.get? b=J o)->Q (.ref s.heap.objs.size) {s with heap:=a,toks:=k}):
 Qa (bb pg w) A (call (.type "set") [.ref l]) Q E s:=ZP F.sub_tuple_set F.sub_tuple_frozenset (by decide) Di (λa b=>Walks.tuple a _ l b items) f g i j h
end
section
variable {X is:List Int} {o:wa}
theorem KU{w:zb}{A:Yb}{E:wa->Ea->Prop}{s:Ea}{r:Ca}{a:Bool->Ea->Prop}(hT:s.TypeIs (.ref r) "set")(h:a ua s):Qa (bb pg w) A (Xp (.ref r)) a E s:=by
 unfold Xp;refine ga (qaY hT PySem.F.slot_set_len.lookup ?_);generalize d:("set.__len__":String)=id0
 wp_delta
 refine U (show splitId id0=J ("set","__len__")from by subst d;decide+kernel) ?_;subst d;refine ga (Mo (T:="set") (b:=Z) hT (by refine U (xE _ _) ?_;kernel_rfl) ?_);refine li (λc=>zc c (by decide)) λu=>(li (λu=>?_) λc=>zc (by decide+kernel) c);exact ga (Dx hT (ta h))
theorem U0{w:zb}{a:Ca}{ep:Nat}{o0 o1 o2:Option jk}:KdlSrc pg w "set" a a (sq o0 o1 o2).length (λi v=>∃e,(Ik w a ep o0 o1 o2)[i]?=J e/\v=e.2) (λh=>S3 w h a ep o0 o1 o2)where
 type:=λu hm=>S3.typeIs hm
 there:=λu hm=>⟨qc hm,qc hm⟩
 keep:=λu u hm hk=>hk a (.inl rfl) _ hm
 notList:=by decide
 notTuple:=by decide
 hint:=λu u u u hm hq=>KU (S3.typeIs hm) hq
 iter:=λu s hh hm=>⟨_,_,λu u hq=>UJ hm hq,Walks.s3 hh _ a (ic (qc hm)) ep o0 o1 o2,
  ⟨⟨_,0,Oa _ rfl,rfl,rfl,λu=>dP _ _ _⟩,Ba _ hm⟩⟩
theorem v7(a b c:Option jk):(sq a b c).map (λx=>x.2)=((if a.isSome then[cm 0 (a.getD 0)]else[])++((if b.isSome then[cm 1 (b.getD 0)]else[])++(if c.isSome then[cm 2 (c.getD 0)]else[]))):=by
 induction a<;>induction b<;>induction c<;>rfl
theorem ny{a b c:Option jk}(f:a.isSome=X.contains 0)(g:b.isSome=X.contains 1)(h:c.isSome=X.contains 2):(sq a b c).map (λx=>x.1)=Hg X/\∀e∈sq a b c,∃t,e.2=.int e.1 t:=by
 unfold Hg;simp only[Ri,List.filter_nil,<-f,<-g,<-h]
 induction a<;>induction b<;>induction c<;>refine⟨rfl,?_⟩<;>intro e d<;>simp[sq,kB]at d<;>(try rcases d with rfl|rfl|rfl)<;>(try rcases d with rfl|rfl)<;>(try subst d)<;>exact⟨_,rfl⟩
theorem cx(X:List Int):(Hg X).Pairwise (λx y=>x<=y):=C5 _ (by decide)
variable [O:Av]
variable {w:zb} {S:qb} {L:Ca} {W:List Ca} {Q P:St} {s:Ea} {A:Yb} {n:Nat}
theorem kF(r:R w S W Q s.heap)(x:VR w W s.heap (.iset X) o):Qa (bb pg w) A (call (.builtin "len") [o]) (PV w S L W s Q (.int (Hg X).length)) No s:=by
 refine aa λe=>?_;obtain⟨a,b,c,d,rfl,f,g,i,j,h⟩:=x.wF;refine e ?_;have k:S3 w s.heap a j b c d:=h;refine call_len_set (es:=(sq b c d).toArray) k ⟨rfl,rfl,rfl⟩ rfl (sg _ _ _ _) ?_ ?_
 ·have:=fE b c d
  refine U Hb ?_;lia
 ·refine U Hb (U (show(sq b c d).length=(Hg X).length from by rw[<-(ny f g i).1,ya]) ?_)
  exact PV.same r (.int _ _)
theorem vx{v:V}(E:Dg n A)(r:R w S W Q s.heap)(l:Um S L W s.heap)(x:VR w W s.heap (.iset X) o)(F:gj ((Hg X).map V.int) Q=J (v,P)):
 Qa (bb pg w) A (call (.builtin "sorted") [o]) (PV w S L W s P v) No s:=by
 refine aa λg=>?_;obtain⟨a,o0,o1,o2,rfl,G,I,K,ep,h⟩:=x.wF;have i:S3 w s.heap a ep o0 o1 o2:=h;have N:=fE o0 o1 o2;obtain⟨T,hk⟩:=ny G I K;have d:=Mp w a ep o0 o1 o2;obtain⟨mm,y⟩:=l.ns;refine g ?_;refine kdu_sorted (U0 (w:=w) (a:=a) (ep:=ep) (o0:=o0) (o1:=o1) (o2:=o2)) E.hh (cj y) ug i (by refine U zf ?_;lia) λD i z B F' N' C k hv=>?_;have hi:Xi B ((Ik w a ep o0 o1 o2).map λx=>x.1):=by
  refine Dq (w:=w) (by exact U k (U d.length_eq rfl)) λj v q=>?_;refine aa λg=>?_;obtain⟨e,f,b⟩:=hv j v q;obtain⟨t,c⟩:=hk e (d.mem_iff.mp (Ma f));refine g (⟨e.1,e.2,f,?_⟩);exact U b (U c (xm _ _ _ _))
 refine ksk_lsort (A:=A.in1) (s:={s with heap:=i,toks:=z}) (news':=λo=>(D,o)::Ai s.heap L) (its:=B.toArray) F' N' (λo=>qeJ λp d=>ic (C p d)) rfl hi (by refine U (ya _) (U d.length_eq ?_);lia) λp t c x1 j b i' u p' m u=>?_;have f:=Zq p' m;rw[<-(Zq ((T▸(d.map λx=>x.1).symm:(Hg X).Perm _)) (cx X):Hg X=Yq ((Ik w a ep o0 o1 o2).map λx=>x.1))]at f;subst f;have hg:s.heap.get? D=Y:=by
  induction q:s.heap.get? D with
  |none=>rfl|some ob=>
   by_cases e:D=L
   ·exact zc e (b _ sa).2.1
   ·exact zc (C _ (we.mpr ⟨e,q⟩)) (dc _)
 exact Jq (tk':=z) r l y j.ns (News.keepAll1 b) hg (b _ sa).1 (ir i') F
theorem O5(h:is.all (λi=>decide (0<=i)&&decide (i<=2))=Z):∀k∈is,k=0\/k=1\/k=2:=λk a=>by
 have:=md.mp h k a;simp at this
 lia
theorem lF{X:List V}(c:Dg n A)(r:R w S W Q s.heap)(x:VR w W s.heap (.t X) o)(d:ki X=J is)(e:is.all (λi=>decide (0<=i)&&decide (i<=2))=Z):
 Qa (bb pg w) A (call (.type "set") [o]) (PV w S L W s Q (.iset is)) No s:=by
 refine aa λf=>?_;obtain⟨a,g,m,rfl,h,i,l,q⟩:=x.wF;refine f (fA (items:=g.toArray) (ns:=is) c.hh (lf i) (by simpa using(yi q d)) (O5 e) λt u j v y z k b p=>?_);exact PV.wI r p (.iset b.1 b.2.1 b.2.2 ⟨j,k⟩)
theorem SC{i:Nat}{X:List V}(c:Dg n A)(r:R w S W Q s.heap)(x:VR w W s.heap (.ref i) o)(e:tc Q i=J X)(d:ki X=J is)(f:is.all (λi=>decide (0<=i)&&decide (i<=2))=Z):
 Qa (bb pg w) A (call (.type "set") [o]) (PV w S L W s Q (.iset is)) No s:=by
 refine aa λg=>?_;obtain⟨a,h,m,rfl,_,j,t,k⟩:=r.list e x;refine g (TC (items:=h.toArray) (ns:=is) c.hh (ve j) (by simpa using(yi k d)) (O5 f) λu v l y z B p b q=>?_);exact PV.wI r q (.iset b.1 b.2.1 b.2.2 ⟨l,p⟩)
theorem bV:Ij w S where
 len:=λu r x=>kF r x
 sorted:=λAK r l x en=>vx AK r l x en
 ofTup:=λAK r x ei h3=>lF AK r x ei h3
 ofList:=λAK r x e ei h3=>SC AK r x e ei h3
end
set_option maxHeartbeats 4000000
theorem EN(hc:WalkO qv cs (XL qv []) (fR Nj) tx.toRowW (by exact((qfz qv tx.name).get (by decide+kernel)).1) (by exact((qfz qv tx.name).get (by decide+kernel)).2) λf a=>J5 f a):Mh.Holds:=by
 refine holds_law (by rw[qat];decide+kernel) λa=>?_;refine holds_open (r:=tx) (q:=qv) (loose:=cs) (Xt:=λs=>xlAt qv [] s&&recOk (AD tx.toRowW) s) (XP:=XL qv []) (Yf:=gW Nj) (Ya:=iW Nj) (YP:=fR Nj) (N:=6000) b8 (Hook.of Nj) (Hook.keeps Nj) (λs e=>xl_of s (Aa.mp e).1) XL.keeps (by rfl) (by rfl) (by rfl) (λs e=>recFacts_of (Aa.mp e).2) (by rfl) (by assumption) (by decide+kernel) ⟨rfl,rfl,rfl,rfl,rfl,by decide+kernel⟩ ?hw ?hc
 case hw=>w_witness2
 case hc=>exact hc
noncomputable def Sm(l:Nat)(b:List Int)(a:Nat):Option (List Int):=if a=l then J b else Y
def bz:Prop:=∀(l:Nat)(a:List Int),a.length<=63->∃b,vl (wx (Sm l a)) rT 12 481 [.k (.ref l)] []=J (.bool Z,b)
theorem LJ(hh:bz){w:zb}{K:Ue}{s:Ea}(x:K.In s.heap)(F:am K){l:Ca}{vs:List wa}{xs:List Int}(hL:s.heap.IsList l vs.toArray)(hI:Xi vs xs)(hx:xs.length<=63):
 ch (bb pg w) qeO (.call (.ref 481) ⟨[.ref l],[]⟩) (λq s'=>∃h' tk',q=.ok (.ret (.bool Z))/\s'={s with heap:=h',toks:=tk'}/\∀b o,s.heap.get? b=J o->h'.get? b=J o) s:=by
 obtain⟨σ',e⟩:=hh l xs hx;have B:Jk s.heap K (wx (Sm l xs)):=jS x F λa ys q=>by
  unfold Sm at q
  split at q<;>(first|exact ja q|obtain rfl:=ba q)
  rename_i z;subst z;exact⟨by lia,vs,hL,hI⟩
 have GO:=P7 x F;have C:=xS (w:=w) B (tY (scr:=Sm l xs) F) GO (λI=>bV) (λI=>D3 B GO) (PY x F) (K1 F) 12 ⟨λu=>False⟩;have AK: @Dg 24 qeO:=⟨rfl,by decide+kernel,by decide+kernel⟩
 letI:Av:=⟨λu=>False⟩
 have r:R w s.heap [] [] s.heap:=⟨rfl,.nil,λa h=>(Tb h).elim,λa h=>h.elim,λu u e=>e,λi o a e=>by simp at e⟩;refine Oc (C qeO AK 481 [.k (.ref l)] [.ref l] [] [] s (.bool Z) σ' 0 r (by decide) (.cons (.k _) .nil) e) λq s' p=>?_;obtain⟨val,rfl,ρ',t,k,r',xv⟩:=p;rw[(xv.wF:val=.bool Z)];exact⟨s'.heap,s'.toks,rfl,t,λb o e=>r'.wK b o e⟩
set_option tactic.hygienic true in
theorem RQ(hh:bz):WalkO qv cs (XL qv []) (fR Nj) tx.toRowW (by exact((qfz qv tx.name).get (by decide+kernel)).1) (by exact((qfz qv tx.name).get (by decide+kernel)).2) λf vs=>J5 f vs:=by
 intro w s₀ s₁ mg mb G yy fa o pm cd doc dV kV ho hd hcd hD hmg hg args vals as hpre hlay hrd hwl hlo;obtain⟨K,x,F⟩:=yy;have T:=G.T;clear ho hd hcd hD
 wrow_args hpre hlay hrd hwl hlo
 refine enter_call ?_;rename_i xs _ _ _ _ _ _ _ l vs _ hL _ _ _ hI _ hlen _;have hx:xs.length<=63:=by lia
 have hfa:fa=481:=by
  have q:=lZ x F T.g;have q2:mg ("law":Bb)=J (.ref fa):=hmg;rw[q]at q2;cases q2;rfl
 subst hfa;refine Oc (LJ hh x F hL hI hx) λq s' p=>?_;obtain⟨h',tk',rfl,rfl,hk⟩:=p;refine GoodW.toG ⟨.inl ⟨_,_,_,rfl,(raisesW_false ?_),.bool Z,?_,unshared_nil⟩,hk,rfl,hg⟩
 ·wrow_none_raised
 ·wrow_post
section
variable {o:O} {vs:List V} {x:W} {y:V}
set_option genCtorIdx true in
inductive mr where
 |a (i:Nat)|d (i:Nat)|f (i:Nat) (n:Bb)
theorem mr.f_inj{i j:Nat}{n m:Bb}(h:mr.f i n=mr.f j m):n=m:=by cases h;rfl
structure Wd where
 L:mr->Nat
 σ:ub
 τ:St
def Tg(a:ub)(z:mr):Prop:=match z with|.a i=>i<a.length|.d i=>∃o c,a[i]?=J o/\o.cls=J c|.f i n=>∃c,ii a i n=J (.o c)
def Ex(q:Wd)(E:Nat->Prop)(a:Nat):Prop:=(∃p,Tg q.σ p/\q.L p=a)\/E a
mutual
inductive VS(q:Wd)(E:Nat->Prop):W->V->Prop
 |none:VS q E .none .none|bool (b:Bool):VS q E (.bool b) (.bool b)|int (i:Int):VS q E (.int i) (.int i)|str (s:Bb):VS q E (.str s) (.str s)|k (v:wa):VS q E (.k v) (.k v)|rng (a b:Int):VS q E (.rng a b) (.rng a b)|iset (xs:List Int):VS q E (.iset xs) (.iset xs)|ref {i:Nat}:i<q.σ.length->VS q E (.ref i) (.ref (q.L (.a i)))|t {xs:List W} {ys:List V}:Pd q E xs ys->VS q E (.t xs) (.t ys)|l {xs:List W} {ys:List V} {a:Nat}:¬Ex q E a->q.τ[a]?=J (.list ys)->Pd q E xs ys->VS q E (.l xs) (.ref a)|dic {ks:List Int} {vs:List W} {es:List (Int×V)} {a:Nat}:¬Ex q E a->q.τ[a]?=J (.idict es)->es.map (λx=>x.1)=ks->Pd q E vs (es.map λx=>x.2)->VS q E (.dic ks vs) (.ref a)
inductive Pd(q:Wd)(E:Nat->Prop):List W->List V->Prop
 |nil:Pd q E [] []|cons {x:W} {xs:List W} {v:V} {vs:List V}:VS q E x v->Pd q E xs vs->Pd q E (x::xs) (v::vs)
end
inductive VC(q:Wd)(E:Nat->Prop):W->Nat->Prop
 |l {xs:List W} {ys:List V} {a:Nat}:q.τ[a]?=J (.list ys)->Pd q E xs ys->VC q E (.l xs) a|dic {ks:List Int} {vs:List W} {es:List (Int×V)} {a:Nat}:q.τ[a]?=J (.idict es)->es.map (λx=>x.1)=ks->Pd q E vs (es.map λx=>x.2)->VC q E (.dic ks vs) a
inductive VB(q:Wd)(E:Nat->Prop):W->V->Prop
 |val {w:W} {v:V}:VS q E w v->VB q E w v|o {c:W} {a:Nat}:E a->VC q E c a->VB q E (.o c) (.ref a)|fld {i:Nat} {n:Bb}:Tg q.σ (.f i n)->VB q E (.fld i n) (.ref (q.L (.f i n)))
class inductive ND(q:Wd)(E:Nat->Prop):List W->List V->Prop
 |nil:ND q E [] []|cons {x:W} {xs:List W} {v:V} {vs:List V}:VB q E x v->ND q E xs vs->ND q E (x::xs) (v::vs)
inductive FV(q:Wd)(E:Nat->Prop)(i:Nat)(n:Bb):W->V->Prop
 |val {w:W} {v:V}:VS q E w v->FV q E i n w v|o {c:W}:VC q E c (q.L (.f i n))->FV q E i n (.o c) (.ref (q.L (.f i n)))
structure FS(q:Wd)(E:Nat->Prop)(i:Nat)(fs:List (Bb×W))(es:List (Bb×V)):Prop where
 keys:fs.map (λx=>x.1)=es.map (λx=>x.1)
 at_:∀n w,de fs n=J w->∃v,Pf es n=J v/\FV q E i n w v
inductive OS(q:Wd)(E:Nat->Prop)(i:Nat):OF->Prop
 |inst {c:Nat} {fs:List (Bb×W)} {es:List (Bb×V)}:q.τ[q.L (.a i)]?=J (.inst c (q.L (.d i)))->q.τ[q.L (.d i)]?=J (.h es)->FS q E i fs es->OS q E i ⟨J c,fs⟩|sd {fs:List (Bb×W)} {es:List (Bb×V)}:q.τ[q.L (.a i)]?=J (.h es)->FS q E i fs es->OS q E i ⟨Y,fs⟩
structure Rl(E:Nat->Prop)(q:Wd):Prop where
 inj:∀p p',Tg q.σ p->Tg q.σ p'->q.L p=q.L p'->p=p'
 lt:∀p,Tg q.σ p->q.L p<q.τ.length
 sep:∀p,Tg q.σ p->¬E (q.L p)
 elt:∀a,E a->a<q.τ.length
 obj:∀i o,q.σ[i]?=J o->OS q E i o
structure Le(q q':Wd):Prop where
 len:q.τ.length<=q'.τ.length
 usd:∀p,Tg q.σ p->Tg q'.σ p/\q'.L p=q.L p
 new:∀p,Tg q'.σ p->Tg q.σ p\/q.τ.length<=q'.L p
 keep:∀a o,q.τ[a]?=J o->(∀p,Tg q.σ p->q.L p≠a)->q'.τ[a]?=J o
variable {q q' X:Wd} {E:Nat->Prop}
theorem nh{a:Type}{l:List a}{i:Nat}{o:a}(h:l[i]?=J o):i<l.length:=(wb.mp h).1
theorem Le.refl:Le q q:=⟨Gb _,λu h=>⟨h,rfl⟩,λu h=>.inl h,λu u h u=>h⟩
theorem Le.trans(x:Le q q')(y:Le q' X):Le q X:=
 ⟨Za x.len y.len,λp h=>⟨(y.usd p (x.usd p h).1).1,((y.usd p (x.usd p h).1).2).trans (x.usd p h).2⟩,
  λp h=>(y.new p h).elim (λb=>(x.new p b).imp_right λz=>by refine U ((y.usd p b).2) ?_;exact z) λz=>.inr (Za x.len z),
  λa o e h=>y.keep a o (x.keep a o e h) λp u z=>(x.new p u).elim (λc=>h p c ((x.usd p c).2.symm.trans z)) λc=>dc _ (rb (nh e) (z▸c))⟩
theorem Le.ex(x:Le q q'){a:Nat}(e:q.τ[a]?=J o)(h:¬Ex q E a):¬Ex q' E a/\q'.τ[a]?=J o:=
 ⟨λz=>z.elim (λb=>by obtain⟨p,u,c⟩:=b;exact(x.new p u).elim (λd=>h (.inl ⟨p,d,(x.usd p d).2.symm.trans c⟩)) λd=>dc _ (rb (nh e) (c▸d))) λz=>h (.inr z),
  x.keep a o e λp u z=>h (.inl ⟨p,u,z⟩)⟩
theorem Le.a(x:Le q q'){i:Nat}(h:i<q.σ.length):i<q'.σ.length/\q'.L (.a i)=q.L (.a i):=x.usd (.a i) h
theorem VS.map{E':Nat->Prop}(c:∀i,i<q.σ.length->i<q'.σ.length/\q'.L (.a i)=q.L (.a i))(b:∀a o,q.τ[a]?=J o->¬Ex q E a->¬Ex q' E' a/\q'.τ[a]?=J o){w:W}{v:V}(h:VS q E w v):VS q' E' w v:=
 VS.rec (motive_1:=λw v u=>VS q' E' w v) (motive_2:=λw v u=>Pd q' E' w v) .none .bool .int .str .k .rng .iset (λh=>(c _ h).2▸.ref (c _ h).1) (λu h=>.t h)
  (λn e u h=>.l (b _ _ e n).1 (b _ _ e n).2 h) (λn e k u h=>.dic (b _ _ e n).1 (b _ _ e n).2 k h) .nil (λu u h t=>.cons h t) h
def qdt(q:Wd)(E:Nat->Prop)(j:W)(d:V):Prop:=match j,d with|.none,v=>v=.none|.bool b,v=>v=.bool b|.int i,v=>v=.int i|.str s,v=>v=.str s|.k c,v=>v=.k c|.rng a b,v=>v=.rng a b|.iset b,v=>v=.iset b|.ref i,v=>i<q.σ.length/\v=.ref (q.L (.a i))|.t b,v=>∃c,v=.t c/\Pd q E b c|.l b,v=>∃a c,v=.ref a/\q.τ[a]?=J (.list c)/\Pd q E b c|.dic c vs,v=>∃a b,v=.ref a/\q.τ[a]?=J (.idict b)/\b.map (λx=>x.1)=c/\Pd q E vs (b.map λx=>x.2)|.fld u y,z=>False|.o u,y=>False
theorem VS.wF{w:W}{v:V}(h:VS q E w v):qdt q E w v:=
 VS.rec (motive_1:=λw v u=>qdt q E w v) (motive_2:=λu u u=>True) rfl (λu=>rfl) (λu=>rfl) (λu=>rfl) (λu=>rfl) (λu u=>rfl) (λu=>rfl) (λh=>⟨h,rfl⟩) (λh u=>⟨_,rfl,h⟩) (λu e h u=>⟨_,_,rfl,e,h⟩) (λu e k h u=>⟨_,_,rfl,e,k,h⟩) trivial (λu u u u=>trivial) h
def qdq(q:Wd)(E:Nat->Prop)(z:W)(y:V):Prop:=match z,y with|.o c,v=>∃a,v=.ref a/\E a/\VC q E c a|.fld i n,v=>Tg q.σ (.f i n)/\v=.ref (q.L (.f i n))|w,v=>VS q E w v
theorem VB.wF{w:W}{v:V}(h:VB q E w v):qdq q E w v:=
 VB.rec (motive:=λw v y=>qdq q E w v) (λ{w v} h=>by induction w using W.casesOn<;>first|exact h|exact h.wF.elim) (λe h=>⟨_,rfl,e,h⟩) (λu=>⟨u,rfl⟩) h
def qdr(q:Wd)(E:Nat->Prop)(z:W)(j:Nat):Prop:=match z,j with|.l c,a=>∃b,q.τ[a]?=J (.list b)/\Pd q E c b|.dic c vs,a=>∃b,q.τ[a]?=J (.idict b)/\b.map (λx=>x.1)=c/\Pd q E vs (b.map λx=>x.2)|u,y=>False
theorem VC.wF{w:W}{a:Nat}(h:VC q E w a):qdr q E w a:=VC.rec (motive:=λw a u=>qdr q E w a) (λe h=>⟨_,e,h⟩) (λe k h=>⟨_,e,k,h⟩) h
theorem Pd.ind{P:List W->List V->Prop}(c:P [] [])(d:∀x a v vs,VS q E x v->Pd q E a vs->P a vs->P (x::a) (v::vs)){b:List W}(h:Pd q E b vs):P b vs:=
 Pd.rec (motive_1:=λu u u=>True) (motive_2:=λw v u=>P w v) trivial (λu=>trivial) (λu=>trivial) (λu=>trivial) (λu=>trivial) (λu u=>trivial) (λu=>trivial) (λu=>trivial) (λu u=>trivial) (λu u u u=>trivial) (λu u u u u=>trivial) c (λa t u e=>d _ _ _ _ a t e) h
theorem Pd.map{E':Nat->Prop}(b:∀i,i<q.σ.length->i<q'.σ.length/\q'.L (.a i)=q.L (.a i))(c:∀a o,q.τ[a]?=J o->¬Ex q E a->¬Ex q' E' a/\q'.τ[a]?=J o){w:List W}{v:List V}(h:Pd q E w v):Pd q' E' w v:=
 h.ind (P:=Pd q' E') .nil λu u u u a u t=>.cons (a.map b c) t
theorem VS.mono(x:Le q q'){w:W}{v:V}(h:VS q E w v):VS q' E w v:=h.map (λu h=>x.a h) λu u e n=>x.ex e n
theorem Pd.mono(x:Le q q'){w:List W}{v:List V}(h:Pd q E w v):Pd q' E w v:=h.map (λu h=>x.a h) λu u e n=>x.ex e n
theorem VC.mono(x:Le q q'){c:W}{a:Nat}(h:VC q E c a)(b:∀o,q.τ[a]?=J o->q'.τ[a]?=J o):VC q' E c a:=
 VC.rec (motive:=λc a u=>(∀o,q.τ[a]?=J o->q'.τ[a]?=J o)->VC q' E c a) (λe h b=>.l (b _ e) (h.mono x)) (λe k h b=>.dic (b _ e) k (h.mono x)) h b
theorem Rl.eget(r:Rl E q)(x:Le q q'){a:Nat}(h:E a)(e:q.τ[a]?=J o):q'.τ[a]?=J o:=x.keep a o e λp u z=>r.sep p u (z▸h)
theorem VB.mono(r:Rl E q)(x:Le q q'){w:W}{v:V}(h:VB q E w v):VB q' E w v:=
 VB.rec (motive:=λw v y=>VB q' E w v) (λh=>.val (h.mono x)) (λe h=>.o e (h.mono x λo=>r.eget x e)) (λu=>(x.usd _ u).2▸.fld (x.usd _ u).1) h
theorem ND.mono(r:Rl E q)(x:Le q q'){w:List W}{v:List V}(h:ND q E w v):ND q' E w v:=by
 induction h with
 |nil=>exact .nil|cons h u t=>exact .cons (h.mono r x) t
theorem Pd.len{w:List W}{v:List V}(h:Pd q E w v):w.length=v.length:=h.ind (P:=λw v=>w.length=v.length) rfl λu u u u u u t=>Gc (λx=>x+1) t
theorem Pd.uncons{c:List W}{v:V}(h:Pd q E (x::c) (v::vs)):VS q E x v/\Pd q E c vs:=
 h.ind (P:=λw v=>match w,v with|x::c,v::vs=>VS q E x v/\Pd q E c vs|_,_=>True) trivial λu u u u a b u=>⟨a,b⟩
theorem Pd.app{w b:List W}{v c:List V}(h:Pd q E w v)(k:Pd q E b c):Pd q E (w++b) (v++c):=h.ind (P:=λw v=>Pd q E (w++b) (v++c)) k λu u u u a u t=>.cons a t
theorem Pd.get{w:List W}{v:List V}(h:Pd q E w v){i:Nat}(e:w[i]?=J x):∃y,v[i]?=J y/\VS q E x y:=
 h.ind (P:=λw v=>∀i,w[i]?=J x->∃y,v[i]?=J y/\VS q E x y) (λu e=>ja e) (λu u v u a u t i=>Sa i (λe=>⟨v,rfl,ba e▸a⟩) λi e=>t i e) i e
theorem Pd.set{w:List W}{v:List V}(h:Pd q E w v)(i:Nat)(k:VS q E x y):Pd q E (w.set i x) (v.set i y):=
 h.ind (P:=λw v=>∀i,Pd q E (w.set i x) (v.set i y)) (λu=>.nil) (λu u u u a b t i=>Sa i (.cons k b) λi=>.cons a (t i)) i
theorem Pd.take{w:List W}{v:List V}(h:Pd q E w v)(i:Nat):Pd q E (w.take i) (v.take i):=
 h.ind (P:=λw v=>∀i,Pd q E (w.take i) (v.take i)) (λi=>by refine U UX (U UX ?_);exact .nil) (λu u u u a u t i=>Sa i .nil λi=>.cons a (t i)) i
theorem Pd.drop{w:List W}{v:List V}(h:Pd q E w v)(i:Nat):Pd q E (w.drop i) (v.drop i):=
 h.ind (P:=λw v=>∀i,Pd q E (w.drop i) (v.drop i)) (λi=>by refine U zA (U zA ?_);exact .nil) (λu u u u a b t i=>Sa i (.cons a b) λi=>t i) i
theorem Pd.rep(h:VS q E x y)(n:Nat):Pd q E (Ia n x) (Ia n y):=un .nil (λu t=>.cons h t) n
theorem VB.nb{w:W}{v:V}(h:VB q E w v):nb w=Z->VS q E w v:=
 VB.rec (motive:=λw v u=>Mine.Internal.nb w=Z->VS q E w v) (λh u=>h) (λu u h=>zc h ia) (λu h=>zc h ia) h
theorem VS.nb{w:W}{v:V}(h:VS q E w v):nb w=Z:=
 VS.rec (motive_1:=λw u u=>Mine.Internal.nb w=Z) (motive_2:=λu u u=>True) rfl (λu=>rfl) (λu=>rfl) (λu=>rfl) (λu=>rfl) (λu u=>rfl) (λu=>rfl) (λu=>rfl) (λu u=>rfl) (λu u u u=>rfl) (λu u u u u=>rfl) trivial (λu u u u=>trivial) h
theorem ND.nbs{w:List W}{v:List V}(h:ND q E w v)(g:EA w=Z):Pd q E w v:=by
 induction h with
 |nil=>exact .nil|cons a u t=>exact .cons (a.nb (Aa.mp g).1) (t (Aa.mp g).2)
end
section
variable {w:W} {v:V} {o:O} {b:Nat}
theorem Ej(n m:Bb)(w:W)(a:List (Bb×W)):de (jj a n w) m=if n=m then J w else de a m:=by
 induction a with
 |nil=>rfl|cons p r c=>
  show de (if p.1=n then(p.1,w)::r else(p.1,p.2)::jj r n w) m=if n=m then J w else if p.1=m then J p.2 else de r m
  by_cases h:p.1=n
  ·refine U (Dd h) ?_
   show(if p.1=m then J w else de r m)=_
   refine U h ?_;by_cases z:n=m
   ·exact U (Dd z) (U (Dd z) rfl)
   ·exact U (fe z) (U (fe z) (U (fe z) rfl))
  ·refine U (fe h) ?_
   show(if p.1=m then J p.2 else de (jj r n w) m)=_
   refine U c ?_;by_cases z:p.1=m
   ·exact U (Dd z) (U (fe λy=>h (z.trans y.symm)) (U (Dd z) rfl))
   ·exact U (fe z) (U (fe z) rfl)
theorem DJ(n m:Bb)(w:V)(a:List (Bb×V)):Pf (Gh a n w) m=if n=m then J w else Pf a m:=by
 induction a with
 |nil=>rfl|cons p r c=>
  show Pf (if p.1=n then(p.1,w)::r else(p.1,p.2)::Gh r n w) m=if n=m then J w else if p.1=m then J p.2 else Pf r m
  by_cases h:p.1=n
  ·refine U (Dd h) ?_
   show(if p.1=m then J w else Pf r m)=_
   refine U h ?_;by_cases z:n=m
   ·exact U (Dd z) (U (Dd z) rfl)
   ·exact U (fe z) (U (fe z) (U (fe z) rfl))
  ·refine U (fe h) ?_
   show(if p.1=m then J p.2 else Pf (Gh r n w) m)=_
   refine U c ?_;by_cases z:p.1=m
   ·exact U (Dd z) (U (fe λy=>h (z.trans y.symm)) (U (Dd z) rfl))
   ·exact U (fe z) (U (fe z) rfl)
theorem MN(n:Bb)(w:W)(v:V)(c:List (Bb×W)):∀a:List (Bb×V),c.map (λx=>x.1)=a.map (λx=>x.1)->(jj c n w).map (λx=>x.1)=(Gh a n v).map (λx=>x.1):=by
 induction c with
 |nil=>
  intro a h
  induction a using ma with
  |nil=>rfl|cons u y=>exact zc h.symm (Bc _ _)
 |cons p c d=>
  intro a h
  induction a using ma with
  |nil=>exact zc h (Bc _ _)|cons l a=>
   have e:p.1=l.1:=Xd h;show((if p.1=n then(p.1,w)::c else(p.1,p.2)::jj c n w).map λx=>x.1)=(if l.1=n then(l.1,v)::a else(l.1,l.2)::Gh a n v).map λx=>x.1
   refine Ed e ?_;by_cases q:p.1=n
   ·exact U (Dd q) (U (Dd q) (Gc (λx=>p.1::x) (wd h)))
   ·exact U (fe q) (U (fe q) (Gc (λx=>p.1::x) (d a (wd h))))
variable {q X:Wd} {E:Nat->Prop} {i:Nat} {n:Bb}
theorem FV.mono(x:Le q X)(h:FV q E i n w v):(∀c,w=.o c->Tg q.σ (.f i n))->(∀c,w=.o c->∀o,q.τ[q.L (.f i n)]?=J o->X.τ[q.L (.f i n)]?=J o)->FV X E i n w v:=
 FV.rec (motive:=λw v y=>(∀c,w=.o c->Tg q.σ (.f i n))->(∀c,w=.o c->∀o,q.τ[q.L (.f i n)]?=J o->X.τ[q.L (.f i n)]?=J o)->FV X E i n w v) (λh y y=>.val (h.mono x))
  (λh u a=>have e:=(x.usd _ (u _ rfl)).2;e▸.o (e.symm▸h.mono x (a _ rfl))) h
theorem OS.mono(x:Le q X){o:OF}(f:q.σ[i]?=J o)(a:∀p,(p=.a i\/p=.d i\/∃n,p=.f i n)->Tg q.σ p->∀o,q.τ[q.L p]?=J o->X.τ[q.L p]?=J o)(h:OS q E i o):OS X E i o:=by
 have k:∀{fs es},o.fs=fs->FS q E i fs es->FS X E i fs es:=λg F=>⟨F.keys,λn w e=>by
  refine aa λj=>?_;obtain⟨v,l,z⟩:=F.at_ n w e;refine j ?_;have u:∀c,w=.o c->Tg q.σ (.f i n):=λc d=>⟨c,by unfold ii;refine U f ?_;exact(g▸e).trans (Gc J d)⟩;exact⟨v,l,z.mono x u λc d=>a _ (.inr (.inr ⟨n,rfl⟩)) (u c d)⟩⟩
 have d:Tg q.σ (.a i):=nh f;cases h with
 |inst j r F=>
  have l:Tg q.σ (.d i):=⟨_,_,f,rfl⟩;have m:=(x.usd _ l).2;exact .inst (by refine U ((x.usd _ d).2) (U m ?_);exact a _ (.inl rfl) d _ j) (by refine U m ?_;exact a _ (.inr (.inl rfl)) l _ r) (k rfl F)
 |sd j F=>exact .sd (by refine U ((x.usd _ d).2) ?_;exact a _ (.inl rfl) d _ j) (k rfl F)
theorem Rl.more(r:Rl E q){τ':St}(c:q.τ.length<=τ'.length)(d:∀(a:Nat)(o:O),q.τ[a]?=J o->τ'[a]?=J o):Rl E ⟨q.L,q.σ,τ'⟩/\Le q ⟨q.L,q.σ,τ'⟩:=by
 have x:Le q ⟨q.L,q.σ,τ'⟩:=⟨c,λp h=>⟨h,rfl⟩,λp h=>.inl h,λa o e y=>d a o e⟩;exact⟨⟨r.inj,λp u=>rb (r.lt p u) c,r.sep,λa h=>rb (r.elt a h) c,λi o h=>(r.obj i o h).mono x h λp y y o=>d _ o⟩,x⟩
theorem Rl.push(r:Rl E q)(o:O):Rl E ⟨q.L,q.σ,q.τ++[o]⟩/\Le q ⟨q.L,q.σ,q.τ++[o]⟩:=
 r.more (by refine U Ha ?_;exact Nc _ _) λa c e=>by refine U (Xa (nh e)) ?_;exact e
theorem dw{a:St}:(a++[o])[a.length]?=J o:=by refine U (La (Gb _)) (U (gh _) ?_);rfl
theorem Rl.top(r:Rl E q):¬Ex q E q.τ.length:=λz=>z.elim (λa=>by obtain⟨p,u,e⟩:=a;exact dc _ (e▸r.lt p u)) λz=>dc _ (r.elt _ z)
theorem Rl.add(r:Rl E q)(c:b<q.τ.length)(d:∀p,Tg q.σ p->q.L p≠b)(e:∀i o,q.σ[i]?=J o->OS q (λa=>E a\/a=b) i o):Rl (λa=>E a\/a=b) q:=
 ⟨r.inj,r.lt,λp u z=>z.elim (r.sep p u) (d p u),λa z=>z.elim (r.elt a) λz=>z▸c,e⟩
theorem VS.sub{c:Nat->Prop}(hEx:∀a,c a->E a)(h:VS q E w v):VS q c w v:=h.map (λu h=>⟨h,rfl⟩) λu u e n=>⟨λz=>n (z.imp_right (hEx _)),e⟩
theorem Pd.sub{c:Nat->Prop}(hEx:∀a,c a->E a){w:List W}{v:List V}(h:Pd q E w v):Pd q c w v:=h.map (λu h=>⟨h,rfl⟩) λu u e n=>⟨λz=>n (z.imp_right (hEx _)),e⟩
theorem AM(c:q.τ.length<=b){a:Nat}(e:q.τ[a]?=J o)(h:¬Ex q E a):¬Ex q (λa=>E a\/a=b) a:=
 λz=>z.elim (λu=>h (.inl u)) λz=>z.elim (λz=>h (.inr z)) λz=>dc _ (rb (nh e) (z▸c))
theorem VS.sup(c:q.τ.length<=b)(h:VS q E w v):VS q (λa=>E a\/a=b) w v:=h.map (λu h=>⟨h,rfl⟩) λu u e n=>⟨AM c e n,e⟩
theorem Pd.sup(c:q.τ.length<=b){w:List W}{v:List V}(h:Pd q E w v):Pd q (λa=>E a\/a=b) w v:=h.map (λu h=>⟨h,rfl⟩) λu u e n=>⟨AM c e n,e⟩
end
section
variable {i a:Nat} {b c:Bool} {O:List W} {N:St}
section
variable {X T R S K:Type}
def Sb(P:X->T->Prop)(x:Option X)(y:Option T):Prop:=∀a,x=J a->∃b,y=J b/\P a b
theorem Sb.rf{x:Option X}:Sb Eq x x:=λa e=>⟨a,e,rfl⟩
theorem Sb.no{P:X->T->Prop}{y:Option T}:Sb P Y y:=λu e=>nosome' e
where nosome' {P:Prop} {a:X} (e:Y=J a):P:=ja e
theorem Sb.ok{P:X->T->Prop}{a:X}{b:T}(h:P a b):Sb P (J a) (J b):=λu e=>⟨b,rfl,ba e▸h⟩
theorem Sb.bind{P:X->T->Prop}{d:R->S->Prop}{x:Option X}{y:Option T}{k:X->Option R}{k2:Option T->Option S}(h:Sb P x y)(f:∀a b,P a b->Sb d (k a) (k2 (J b))):Sb d (x.bind k) (k2 y):=by
 induction x with
 |none=>exact .no|some a=>obtain⟨b,e,p⟩:=h a rfl;refine U e ?_;exact f a b p
theorem Sb.map{P:X->T->Prop}{d:R->S->Prop}{x:Option X}{y:Option T}{k:X->R}{k2:Option T->Option S}(h:Sb P x y)(f:∀a b,P a b->Sb d (J (k a)) (k2 (J b))):Sb d (x.map k) (k2 y):=by
 induction x with
 |none=>exact .no|some a=>obtain⟨b,e,p⟩:=h a rfl;refine U e ?_;exact f a b p
theorem Sb.wY{P:X->T->Prop}{d:R->S->Prop}{x:Option X}{y:Option T}{k:X->Option R}{k2:T->Option S}(h:Sb P x y)(e:∀a b,P a b->Sb d (k a) (k2 b)):Sb d (x.bind k) (y.bind k2):=Sb.bind (k2:=λo=>o.bind k2) h e
theorem Sb.map2{P:X->T->Prop}{d:R->S->Prop}{x:Option X}{y:Option T}{k:X->R}{k2:T->S}(h:Sb P x y)(e:∀a b,P a b->d (k a) (k2 b)):Sb d (x.map k) (y.map k2):=Sb.map (k2:=Op k2) h λa b p=>Sb.ok (e a b p)
theorem Sb.wT{d:R->S->Prop}{x y:Option X}{k:X->Option R}{k2:X->Option S}(h:Sb Eq x y)(f:∀a,Sb d (k a) (k2 a)):Sb d (x.bind k) (y.bind k2):=Sb.wY h λa u e=>e▸f a
theorem Sb.mapE{x y:Option X}{k:X->R}(h:Sb Eq x y):Sb Eq (x.map k) (y.map k):=Sb.map2 h λu u e=>e▸rfl
theorem Sb.mapR{P:X->T->Prop}{d:X->S->Prop}{x:Option X}{y:Option T}{k2:T->S}(h:Sb P x y)(f:∀a b,P a b->d a (k2 b)):Sb d x (y.map k2):=λa e=>by
 obtain⟨b,g,p⟩:=h a e;exact⟨k2 b,by refine U g ?_;rfl,f a b p⟩
theorem Sb.wJ{d:R->S->Prop}{x:Option X}{y:Option S}{k:X->Option R}(e:∀a,x=J a->Sb d (k a) y):Sb d (x.bind k) y:=by
 induction x with
 |none=>exact .no|some a=>exact e a rfl
theorem Sb.lookm{d:R->S->Prop}{x:Option X}{y:Option S}{k:X->R}(e:∀a,x=J a->Sb d (J (k a)) y):Sb d (x.map k) y:=by
 induction x with
 |none=>exact .no|some a=>exact e a rfl
theorem Sb.imp{P d:X->T->Prop}{x:Option X}{y:Option T}(h:Sb P x y)(f:∀a b,P a b->d a b):Sb d x y:=λa e=>(h a e).imp λu z=>⟨z.1,f _ _ z.2⟩
inductive PX(E:Nat->Prop)(q:Wd)(V:Wd->X->T->Prop)(a:X×ub)(b:T×St):Prop
 |mk (L:mr->Nat):Le q ⟨L,a.2,b.2⟩->Rl E ⟨L,a.2,b.2⟩->V ⟨L,a.2,b.2⟩ a.1 b.1->PX E q V a b
abbrev SX(E:Nat->Prop)(q:Wd)(V:Wd->X->T->Prop)(x:Option (X×ub))(y:Option (T×St)):Prop:=Sb (PX E q V) x y
variable {E:Nat->Prop} {q q':Wd} {V:Wd->X->T->Prop} {Q:Wd->R->S->Prop}
theorem SX.at(x:Le q q')(r:Rl E q'){a:X}{b:T}(h:V q' a b):SX E q V (J (a,q'.σ)) (J (b,q'.τ)):=Sb.ok (.mk q'.L x r h)
theorem SX.ret(r:Rl E q){a:X}{b:T}(h:V q a b):SX E q V (J (a,q.σ)) (J (b,q.τ)):=SX.at .refl r h
theorem SX.le(x:Le q q'){d:Option (X×ub)}{e:Option (T×St)}(h:SX E q' V d e):SX E q V d e:=Sb.imp h λu u p=>p.rec λL y r v=>.mk L (x.trans y) r v
theorem SX.bind{x:Option (X×ub)}{y:Option (T×St)}{k:X×ub->Option (R×ub)}{k2:Option (T×St)->Option (S×St)}(h:SX E q V x y)(d:∀q' a b,Le q q'->Rl E q'->V q' a b->SX E q' Q (k (a,q'.σ)) (k2 (J (b,q'.τ)))):SX E q Q (x.bind k) (k2 y):=
 Sb.bind h λa b p=>p.rec λL y r v=>SX.le y (d ⟨L,a.2,b.2⟩ a.1 b.1 y r v)
theorem SX.map{x:Option (X×ub)}{y:Option (T×St)}{k:X×ub->R×ub}{k2:Option (T×St)->Option (S×St)}(h:SX E q V x y)(d:∀q' a b,Le q q'->Rl E q'->V q' a b->SX E q' Q (J (k (a,q'.σ))) (k2 (J (b,q'.τ)))):SX E q Q (x.map k) (k2 y):=
 Sb.map h λa b p=>p.rec λL y r v=>SX.le y (d ⟨L,a.2,b.2⟩ a.1 b.1 y r v)
theorem SX.wY{x:Option (X×ub)}{y:Option (T×St)}{k:X×ub->Option (R×ub)}{k2:T×St->Option (S×St)}(h:SX E q V x y)(d:∀q' a b,Le q q'->Rl E q'->V q' a b->SX E q' Q (k (a,q'.σ)) (k2 (b,q'.τ))):SX E q Q (x.bind k) (y.bind k2):=SX.bind (k2:=λo=>o.bind k2) h d
theorem SX.map2{x:Option (X×ub)}{y:Option (T×St)}{k:X×ub->R×ub}{k2:T×St->S×St}(h:SX E q V x y)(d:∀q' a b,Le q q'->Rl E q'->V q' a b->SX E q' Q (J (k (a,q'.σ))) (J (k2 (b,q'.τ)))):SX E q Q (x.map k) (y.map k2):=SX.map (k2:=λo=>o.map k2) h d
end
theorem YJ{w:W}(h:Bk w=J i):w=.ref i:=by induction w using W.casesOn<;>first|exact ja h|exact Gc W.ref (ba h)
theorem tJ{w:W}{i:Int}(h:Ua w=J i):w=.int i:=by induction w using W.casesOn<;>first|exact ja h|exact Gc W.int (ba h)
theorem gK{w:W}{i:Bb}(h:br w=J i):w=.str i:=by induction w using W.casesOn<;>first|exact ja h|exact Gc W.str (ba h)
theorem UI{w:W}{i:Bool}(h:Li w=J i):w=.bool i:=by induction w using W.casesOn<;>first|exact ja h|exact Gc W.bool (ba h)
theorem sK{w:W}{i:List W}(h:lg w=J i):w=.t i:=by induction w using W.casesOn<;>first|exact ja h|exact Gc W.t (ba h)
theorem Go{w:W}{i:W}(h:tK w=J i):w=.o i:=by induction w using W.casesOn<;>first|exact ja h|exact Gc W.o (ba h)
theorem yo{w:W}{i:List W}(h:Hl w=J i):w=.l i:=by induction w using W.casesOn<;>first|exact ja h|exact Gc W.l (ba h)
theorem Mq{u:Unit}(h:Ge b=J u):b=Z:=by
 induction b
 ·exact ja h
 ·rfl
theorem vi{w u:W}(h:kf w=J u):u=w/\nb w=Z:=by
 refine Hs h λy e z=>?_;subst z;exact⟨rfl,Mq e⟩
theorem Sb.okb{X T:Type}{P:X->T->Prop}(h:b=c){k:Unit->Option X}{k2:Unit->Option T}(d:b=Z->Sb P (k ()) (k2 ())):Sb P ((Ge b).bind k) ((Ge c).bind k2):=by
 subst h
 induction b
 ·exact .no
 ·exact d rfl
theorem Sb.okm{X T:Type}{P:X->T->Prop}(h:b=c){k:Unit->X}{k2:Unit->T}(d:b=Z->P (k ()) (k2 ())):Sb P ((Ge b).map k) ((Ge c).map k2):=by
 subst h
 induction b
 ·exact .no
 ·exact .ok (d rfl)
theorem Sb.okmb{X T:Type}{P:X->T->Prop}{k:Unit->X}{k2:Unit->Option T}(d:b=Z->Sb P (J (k ())) (k2 ())):Sb P ((Ge b).map k) ((Ge b).bind k2):=by
 induction b
 ·exact .no
 ·exact d rfl
theorem Sb.ifB{X T:Type}{P:X->T->Prop}(h:b=c){x d:Option X}{y e:Option T}(f:Sb P x y)(g:Sb P d e):Sb P (ln b x d) (ln c y e):=by
 subst h
 induction b
 ·exact g
 ·exact f
variable {q q':Wd} {E:Nat->Prop} {w:W} {v:V}
theorem VS.ref_inv(h:VS q E (.ref i) v):i<q.σ.length/\v=.ref (q.L (.a i)):=h.wF
theorem VS.tup_inv(h:VS q E (.t O) v):∃d,v=.t d/\Pd q E O d:=h.wF
theorem VB.ref_of(h:VB q E w v)(e:Bk w=J i):i<q.σ.length/\v=.ref (q.L (.a i)):=((YJ e)▸h:VB q E (.ref i) v).nb rfl |>.ref_inv
theorem VB.wZ(h:VB q E w v){i:Int}(e:Ua w=J i):v=.int i:=((tJ e)▸h:VB q E (.int i) v).wF.wF
theorem VB.str_of(h:VB q E w v){i:Bb}(e:br w=J i):v=.str i:=((gK e)▸h:VB q E (.str i) v).wF.wF
theorem VB.bool_of(h:VB q E w v){i:Bool}(e:Li w=J i):v=.bool i:=((UI e)▸h:VB q E (.bool i) v).wF.wF
theorem VB.tup_of(h:VB q E w v){i:List W}(e:lg w=J i):∃d,v=.t d/\Pd q E i d:=((sK e)▸h:VB q E (.t i) v).nb rfl |>.tup_inv
theorem Rl.get(r:Rl E q)(h:i<q.σ.length):∃o,q.σ[i]?=J o/\OS q E i o:=⟨q.σ[i],Wa h,r.obj i _ (Wa h)⟩
inductive K3(q:Wd)(E:Nat->Prop)(c:W)(v:V):Prop
 |at {a:Nat}:v=.ref a->VC q E c a->K3 q E c v|val:VS q E c v->K3 q E c v
theorem vq(r:Rl E q){n:Bb}{c:W}(h:ii q.σ i n=J (.o c)):VC q E c (q.L (.f i n)):=by
 refine aa λd=>(Vg h λo f g=>(d ?_));have e:∀{fs es},o.fs=fs->FS q E i fs es->VC q E c (q.L (.f i n)):=λj F=>by
  refine aa λd=>?_;obtain⟨v,_,z⟩:=F.at_ n _ (j▸g);refine d ?_;cases z with
  |val z=>exact zc z.nb ia|o z=>exact z
 cases r.obj i o f with
 |inst u y F=>exact e rfl F|sd u F=>exact e rfl F
theorem VB.cont(r:Rl E q)(h:VB q E w v){c:W}(e:pj w q.σ=J c):K3 q E c v:=by
 have y:=h.wF
 induction w using W.casesOn<;>first|exact ba e▸.val y|skip
 ·exact Vg e λb e1 e2=>(.at y.2 (vq r (Go e2▸e1)))
 ·obtain⟨a,rfl,_,z⟩:=y
  exact ba e▸.at rfl z
theorem K3.l(h:K3 q E (.l O) v):∃a d,v=.ref a/\q.τ[a]?=J (.list d)/\Pd q E O d:=
 h.rec (λe h=>h.wF.elim λd z=>⟨_,d,e,z⟩) λh=>h.wF
theorem K3.dic{f:List Int}(h:K3 q E (.dic f O) v):∃a d,v=.ref a/\q.τ[a]?=J (.idict d)/\d.map (λx=>x.1)=f/\Pd q E O (d.map λx=>x.2):=
 h.rec (λe h=>h.wF.elim λd z=>⟨_,d,e,z⟩) λh=>h.wF
theorem K3.vs(h:K3 q E w v)(d:∀a,¬VC q E w a):VS q E w v:=by
 induction h with
 | «at» u h=>exact zc h (d _)|val h=>exact h
theorem Pi(r:Rl E q)(h:VB q E w v)(e:Pe w q.σ=J O):∃a d,v=.ref a/\q.τ[a]?=J (.list d)/\Pd q E O d:=by
 exact aa λf=>(Vg e λc g j=>(f ((h.cont r (yo j▸g)).l)))
theorem ge{d:List V}(h:N[a]?=J (.list d)):tc N a=J d:=by unfold tc;refine U h ?_;rfl
theorem Wq{d:List (Bb×V)}(h:N[a]?=J (.h d)):Vq N a=J d:=by unfold Vq;refine U h ?_;rfl
theorem wo{c d:Nat}(h:N[a]?=J (.inst c d)):wi N a=J (c,d):=by unfold wi;refine U h ?_;rfl
end
section
variable {xs:List W} {ys:List V}
variable {q S:Wd} {E:Nat->Prop} {w u:W} {v x:V} {tab:Bh} {T X:Nat->Option (List Int)} {n:Bb}
theorem VS.noC(h:VS q E w v)(a:qaB w=ua):hH v=J v:=by
 have y:=h.wF
 induction w using W.casesOn<;>first|exact y.elim|(rw[y];rfl)|(rw[y.2];rfl)|(obtain⟨_,rfl,_⟩:=y;rfl)|(obtain⟨_,_,rfl,_⟩:=y;rfl)|exact zc a λh=>Bd h
theorem cZ(h:nb w=Z):yT w=ua:=by induction w using W.casesOn<;>first|rfl|exact zc h λh=>Bd h
theorem TA(r:Rl E q)(h:VB q E w v):Sb (VB q E) ((Bk w).bind (Mx tab n q.σ)) (Ni (tab.w X) v n q.τ):=Sb.wJ λi e=>by
 obtain⟨g,rfl⟩:=h.ref_of e;obtain⟨o,b,O⟩:=r.get g;unfold Mx;refine U b ?_;cases O with
 |sd=>exact .no| @inst c s t j k F=>
  show Sb _ ((Ge (tab.attr c n)).bind _) ((wi q.τ (q.L (.a i))).bind _)
  refine U (wo j) ?_;show Sb _ _ ((Vq q.τ (q.L (.d i))).bind _)
  refine U (Wq k) (Sb.okb rfl λu=>Sb.wJ λa d=>(aa λf=>?_));obtain⟨l,m,z⟩:=F.at_ n a d;refine f ?_;clear f;refine U m ?_;cases z with
  |val z=>
   show Sb _ (Mine.Internal.ln (yT a) _ (Mine.Internal.ln (qaB a) _ _)) (hH l)
   refine U (cZ z.nb) ?_
   induction p:qaB a with
   |true=>exact .no|false=>refine U (z.noC p) ?_;exact .ok (.val z)
  | @o c z=>exact .ok (.fld ⟨c,by show(q.σ[i]?).bind _=_;refine U b ?_;exact d⟩)
theorem NG(h:Pd q E xs ys)(k:Int):Sb (VS q E) (sE xs k) (I4 ys k):=by
 unfold sE I4;refine Ed h.len ?_
 induction Ol xs.length k with
 |none=>exact .no|some i=>exactλu e=>h.get e
theorem CJ:∀{a:List (Int×V)}{b:List W},Pd q E b (a.map λx=>x.2)->∀k,Sb (VS q E) (Ey (a.map λx=>x.1) b k) (Qm a k):=by
 intro a
 induction a with
 |nil=>
  intro b u y
  induction b using ma<;>exact .no
 |cons d a e=>
  intro b h k
  induction b using ma with
  |nil=>exact .no|cons x b=>
   obtain⟨h,t⟩:=h.uncons;show Sb _ (if d.1=k then J x else Ey (a.map λx=>x.1) b k) (if d.1=k then J d.2 else Qm a k)
   by_cases c:d.1=k
   ·exact U (Dd c) (U (Dd c) (Sb.ok h))
   ·exact U (fe c) (U (fe c) (e t k))
theorem jI(r:Rl E q)(h:VB q E w v)(k:VB q E u x):Sb (VS q E) (oV w u q.σ) (eD v x q.τ):=Sb.wJ λc e=>by
 have C:=h.cont r e
 induction c using W.casesOn<;>try exact .no
 ·obtain⟨ys,rfl,z⟩:=(C.vs λy z=>z.wF).tup_inv
  exact Sb.wJ λi ei=>(k.wZ ei).symm▸NG z i
 ·refine aa λnq=>?_
  obtain⟨a,ys,rfl,e1,z⟩:=C.l;refine nq ?_;clear nq;show Sb _ _ ((q.τ[a]?).bind _)
  exact U e1 (Sb.wJ λi ei=>(k.wZ ei).symm▸NG z i)
 ·obtain⟨a,es,rfl,e1,rfl,z⟩:=C.dic
  show Sb _ _ ((q.τ[a]?).bind _)
  exact U e1 (Sb.wJ λi ei=>(k.wZ ei).symm▸CJ z i)
 ·skip
  refine aa λnq=>?_;obtain⟨hi,rfl⟩:=(C.vs λy z=>z.wF).ref_inv;obtain⟨o,ho,O⟩:=r.get hi;refine nq ?_;clear nq;refine Sb.wJ λs es=>(U (k.str_of es) ?_);unfold cF;refine U ho ?_;cases O with
  |inst=>exact .no| @sd fs es' e1 F=>
   show Sb _ ((de fs s).bind kf) ((q.τ[q.L (.a i)]?).bind _)
   refine U e1 (Sb.wJ λw' e'=>(aa λnq=>?_));obtain⟨v',e3,z⟩:=F.at_ s w' e';refine nq ?_;clear nq;show Sb _ _ (Pf es' s)
   refine U e3 ?_;cases z with
   |val z=>exactλu hu=>⟨v',rfl,(vi hu).1▸z⟩|o=>exact .no
theorem Ml(r:Rl E q)(h:Pd q E xs ys):SX E q (λx=>VS x E) (So xs q.σ) (gj ys q.τ):=Sb.okm (Gc Td h.len) λu=>
 have p:=r.push (.list ys)
 .mk q.L p.2 p.1 (VS.l (q:=⟨q.L,q.σ,q.τ++[.list ys]⟩) r.top dw (h.mono p.2))
theorem Bs(r:Rl E q)(h:Pd q E xs ys):SX E q (λx=>VS x E) (fH xs q.σ) (Bp ys q.τ):=Sb.okm (Gc Td h.len) λu=>.mk q.L .refl r (VS.t h)
theorem SX.vb{x:jo}{y:Option (V×St)}(h:SX E q (λx=>VS x E) x y):SX E q (λx=>VB x E) x y:=Sb.imp h λu u p=>p.rec λL y r v=>.mk L y r (.val v)
theorem SX.int(r:Rl E q)(i:Int):SX E q (λx=>VS x E) (J (.int i,q.σ)) (J (.int i,q.τ)):=SX.ret (V:=λq=>VS q E) r (.int i)
theorem Pd.ints{i:List Int}:Pd q E (i.map .int) (i.map .int):=by
 induction i with
 |nil=>exact .nil|cons a i b=>exact .cons (.int a) b
theorem QS(b:∀a xs,T a=J xs->X a=J xs)(r:Rl E q)(h:VB q E w v){k:Int}:SX E q (λx=>VS x E) (Z6 T k q.σ w) (MS (tab.w X) v k q.τ):=by
 induction w using W.casesOn<;>try exact Sb.no
 rename wa=>c
 induction c<;>try exact Sb.no
 rw[((h.wF).wF:v=.k _)];exact Sb.wJ λxs e=>by
  show SX E q _ _ ((X _).bind _)
  exact U (b _ _ e) (Sb.okb rfl λu=>Ml r (Pd.ints.take _))
theorem K0(r:Rl E q)(h:VB q E w v)(k:VB q E u x){f:Int->Int->Option Int}:SX E q (λx=>VS x E) (T4 f w u q.σ) (R4 f v x q.τ):=
 Sb.wJ λa d=>Sb.wJ λb e=>by
  refine U (h.wZ d) (U (k.wZ e) ?_);exact Sb.lookm λc g=>by
   show SX E q _ _ ((f a b).map _)
   exact U g (SX.int r c)
theorem WR(r:Rl E q)(h:VB q E w v)(k:VB q E u x):SX E q (λx=>VS x E) (aY w u q.σ) (UR v x q.τ):=by
 have L:SX E q (λx=>VS x E) ((Pe w q.σ).bind λxs=>(Pe u q.σ).bind λys=>So (xs++ys) q.σ) (UR v x q.τ):=Sb.wJ λxs ex=>Sb.wJ λys ey=>by
  obtain⟨a,vs,rfl,e1,z1⟩:=Pi r h ex;obtain⟨b,us,rfl,e2,z2⟩:=Pi r k ey;show SX E q _ _ ((tc q.τ a).bind λxs=>(tc q.τ b).bind λys=>gj (xs++ys) q.τ)
  exact U (ge e1) (U (ge e2) (Ml r (z1.app z2)))
 induction w using W.casesOn<;>try exact L
 ·rename Int=>a
  refine U (h.wZ (i:=a) rfl) ?_;exact Sb.lookm λb eb=>by refine U (k.wZ eb) ?_;exact SX.int r _
 ·skip
  refine aa λnq=>?_;obtain⟨vs,rfl,z1⟩:=h.tup_of (i:=xs) rfl;refine nq ?_;clear nq;exact Sb.wJ λys ey=>by
   obtain⟨us,rfl,z2⟩:=k.tup_of ey;exact Bs r (z1.app z2)
theorem mS(r:Rl E q)(h:VB q E w v)(k:VB q E u x){a:He}:SX E q (λx=>VS x E) (nY a w u q.σ) (lS a v x q.τ):=by
 induction a<;>first|exact Sb.no|exact WR r h k|exact K0 r h k
end
section
variable {X:List W} {ys:List V}
variable {q S:Wd} {E:Nat->Prop} {w u:W} {v x:V} {T:Bh} {n:Bb}
theorem fy(h:VS q E w v):Sb Eq (aE w) (fB v):=by
 have y:=h.wF
 induction w using W.casesOn<;>first|exact Sb.no|(rw[y];exact Sb.ok rfl)|skip
 rw[(y:v=.str s)];show Sb Eq (if Ip s=Z then _ else _) (if Ip s=Z then _ else _)
 split
 ·exact Sb.ok rfl
 ·exact Sb.no
theorem jy{f:W->Option Vf}{g:V->Option Vf}(a:∀{w v},VS q E w v->Sb Eq (f w) (g v))(h:Pd q E X ys):Sb Eq (Oe f X) (om g ys):=
 h.ind (P:=λX ys=>Sb Eq (Oe f X) (om g ys)) (Sb.ok rfl) λu u u u h u t=>Sb.wT (a h) λu=>Sb.mapE t
theorem eE{n:Nat}{f:List Vf->Vf}(a:∀{w v},VS q E w v->Sb Eq (Zd n w) (nv n v q.τ))(h:Pd q E X ys):Sb Eq ((Oe (Zd n) X).map f) ((om (λx=>nv n x q.τ) ys).map f):=
 Sb.mapE (jy a h)
theorem pq:∀(n:Nat){w:W}{v:V},VS q E w v->Sb Eq (Zd n w) (nv n v q.τ):=by
 intro n
 induction n with
 |zero=>
  rintro _ _ h;exact fy h
 |succ n ih=>
  rintro w _ h;have y:=h.wF
  induction w using W.casesOn<;>first|exact Sb.no|(rw[y];exact Sb.ok rfl)|skip
  ·rw[y];exact fy (q:=q) (E:=E) (.str _)
  ·obtain⟨ys,rfl,z⟩:=y
   exact eE (ih) z
  ·obtain⟨a,ys,rfl,e,z⟩:=y
   show Sb Eq _ ((tc q.τ a).bind _)
   exact U (ge e) (eE (ih) z)
  ·exact y.elim
theorem gy(n:Nat)(h:VB q E w v):Sb Eq (Zd (n+1) w) (nv (n+1) v q.τ):=by
 have y:=h.wF
 induction w using W.casesOn<;>first|exact pq _ y|exact Sb.no|skip
 rename W=>c
 obtain⟨a,rfl,_,c0⟩:=y;have z:=c0.wF
 induction c using W.casesOn<;>try exact Sb.no
 refine aa λnq=>?_;obtain⟨ys,e,z⟩:=z;refine nq ?_;show Sb Eq _ ((tc q.τ a).bind _)
 exact U (ge e) (eE (pq n) z)
theorem wB{c:Type}(h:VB q E w v)(k:VB q E u x){f:Int->Int->c}:Sb Eq (vE f w u) (Jv f v x):=
 Sb.wJ λa d=>Sb.lookm λb e=>by refine U (h.wZ d) (U (k.wZ e) ?_);exact Sb.ok rfl
theorem xM(h:VB q E w v)(k:VB q E u x):Sb Eq (w4 w u) (u4 v x q.τ):=
 Sb.wT (gy 5 h) λy=>Sb.mapE (gy 5 k)
theorem Sb.nots{x y:Option Bool}(h:Sb Eq x y):Sb Eq (x.map λx=> !x) (y.map λx=> !x):=Sb.mapE h
theorem WN{k:Int}:∀d:List (Int×V),(Qm d k).isSome=decide (k∈d.map λx=>x.1):=by
 intro d
 induction d with
 |nil=>
  exact rfl
 |cons e d f=>
  obtain⟨a,b⟩:=e;show(if a=k then J b else Qm d k).isSome=_
  by_cases c:a=k
  ·exact U (Dd c) ((decide_eq_true (c▸sa)).symm)
  ·exact U (fe c) (U f (decide_eq_decide.mpr ⟨oa _,λz=>(fb.mp z).resolve_left (cq c)⟩))
theorem PG(h:Pd q E X ys)(e:Vf):Sb Eq (qcq e X) (uT e ys q.τ):=Sb.mapE (jy (pq 5) h)
theorem lN(r:Rl E q)(h:VB q E w v)(k:VB q E u x):Sb Eq (qcr w u q.σ) (qaA v x q.τ):=Sb.wJ λc e=>by
 have C:=k.cont r e
 induction c using W.casesOn<;>try exact Sb.no
 ·refine aa λd=>?_
  obtain⟨a,ys,rfl,b,z⟩:=C.l;refine d ?_;clear d;show Sb Eq _ ((q.τ[a]?).bind _)
  refine U b ?_
  induction w using W.casesOn<;>try exact Sb.no
  ·exact U (h.wZ rfl) (PG z _)
  ·obtain⟨f,rfl,z2⟩:=h.tup_of rfl
   exact Sb.wT (pq 5 (.t z2)) λy=>PG z _
 ·obtain⟨a,d,rfl,b,rfl,z⟩:=C.dic
  show Sb Eq _ ((q.τ[a]?).bind _)
  refine U b ?_;exact Sb.lookm λi f=>by
   exact U (h.wZ f) (Sb.ok (WN d).symm)
theorem QB(h:VB q E w v):Sb Eq (Hz w) (jH v):=by
 have y:=h.wF
 induction w using W.casesOn<;>first|exact Sb.no|skip
 ·rw[y.wF];exact Sb.ok rfl
 ·rw[y.wF];exact Sb.ok rfl
 ·rw[y.wF];exact Sb.ok rfl
 ·obtain⟨_,rfl,_⟩:=y.wF;exact Sb.ok rfl
 ·obtain⟨_,_,rfl,_⟩:=y.wF;exact Sb.ok rfl
 ·obtain⟨_,rfl⟩:=y.wF;exact Sb.ok rfl
theorem pz(r:Rl E q)(h:VB q E w v)(k:VB q E u x){op:yr}:Sb Eq (bM op w u q.σ) (lq op v x q.τ):=by
 induction op<;>first|exact wB h k|exact xM h k|exact(xM h k).nots|exact lN r h k|skip
 ·induction u using W.casesOn<;>try exact Sb.no
  rw[k.wF.wF];exact QB h
 ·induction u using W.casesOn<;>try exact Sb.no
  ·rw[k.wF.wF];exact(QB h).nots
  ·rw[k.wF.wF];exact Sb.lookm λb eb=>by refine U (h.bool_of eb) ?_;exact Sb.ok rfl
 ·induction w using W.casesOn<;>try exact Sb.no
  exact U (h.wZ rfl) ((lN r (h.wZ rfl▸h) k).nots)
end
section
variable {q q':Wd} {E:Nat->Prop} {w u:W} {v x:V} {S:Bh} {n:Bb} {T:List W} {X:List V} {xs:List W} {ys:List V}
theorem Hn(h:Pd q E xs ys):Sb Eq (Dl xs) (ki ys):=
 h.ind (P:=λxs ys=>Sb Eq (Dl xs) (ki ys)) (Sb.ok rfl) λu u u u h u t=>Sb.wT (λi e=>⟨i,by refine U (VB.wZ (.val h) e) ?_;rfl,rfl⟩) λu=>Sb.mapE t
theorem vk(h:VB q E w v):Sb Eq (Ua w) (oh v):=λi e=>⟨i,by refine U (h.wZ e) ?_;rfl,rfl⟩
theorem qaL(h:VB q E w v):Sb Eq (br w) (jK v):=λi e=>⟨i,by refine U (h.str_of e) ?_;rfl,rfl⟩
theorem JL(h:VB q E w v):Sb Eq (Li w) (gp v):=λi e=>⟨i,by refine U (h.bool_of e) ?_;rfl,rfl⟩
theorem Fo(h:VB q E w v):Sb (Pd q E) (lg w) (zx v):=λi e=>by
 obtain⟨ys,rfl,z⟩:=h.tup_of e;exact⟨ys,rfl,z⟩
theorem xJ(r:Rl E q)(h:VB q E w v):Sb (Pd q E) (Pe w q.σ) ((tw v).bind (tc q.τ)):=λxs e=>by
 obtain⟨a,ys,rfl,b,z⟩:=Pi r h e;exact⟨ys,ge b,z⟩
theorem Pd.mapint{b:Type}{f:b->Int}:∀l:List b,Pd q E (l.map λi=>.int (f i)) (l.map λi=>.int (f i)):=by
 intro l
 induction l with
 |nil=>
  exact .nil
 |cons a l c=>
  exact .cons (.int _) (c)
theorem Bu{a b:Int}:Sb (Pd q E) (FH a b) (xC a b):=Sb.okm rfl λu=>Pd.mapint (f:=λi:Nat=>a+(i:Int)) _
theorem ZU(r:Rl E q)(h:VB q E w v):Sb (Pd q E) (fu w q.σ) (QP v q.τ):=by
 have L:Sb (Pd q E) (Pe w q.σ) (QP v q.τ):=λxs e=>by
  obtain⟨a,ys,rfl,b,z⟩:=Pi r h e;exact⟨ys,ge b,z⟩
 induction w using W.casesOn<;>try exact L
 ·rw[h.wF.wF];exact Bu
 ·obtain⟨ys,rfl,z⟩:=h.wF.wF
  exact Sb.ok z
theorem O1(r:Rl E q)(h:VB q E w v):Sb (Pd q E) (qeo w q.σ) (N1 v q.τ):=by
 have L:Sb (Pd q E) (Pe w q.σ) (N1 v q.τ):=λxs e=>by
  obtain⟨a,ys,rfl,b,z⟩:=Pi r h e;exact⟨ys,ge b,z⟩
 induction w using W.casesOn<;>try exact L
 obtain⟨ys,rfl,z⟩:=h.wF.wF;exact Sb.ok z
theorem JT(r:Rl E q)(h:VB q E w v):Sb Eq (oZ w q.σ) (nZ q.τ v):=by
 have L:Sb Eq ((Pe w q.σ).map λxs=>(xs.length:Int)) (nZ q.τ v):=Sb.lookm λxs e=>by
  obtain⟨a,ys,rfl,b,z⟩:=Pi r h e;show Sb Eq _ ((tc q.τ a).map _)
  exact U (ge b) (U z.len (Sb.ok rfl))
 induction w using W.casesOn<;>try exact L
 ·rw[h.wF.wF];exact Sb.ok rfl
 ·obtain⟨ys,rfl,z⟩:=h.wF.wF
  exact Sb.ok (Gc Nat.cast z.len)
theorem zk(h:ND q E T X):Sb (VB q E) (one T) (one X):=by
 cases h with
 |nil=>exact Sb.no|cons a t=>cases t with|nil=>exact Sb.ok a|cons=>exact Sb.no
theorem pI(h:ND q E T X):Sb (λp a=>VB q E p.1 a.1/\VB q E p.2 a.2) (two T) (two X):=by
 cases h with
 |nil=>exact Sb.no|cons a t=>cases t with|nil=>exact Sb.no|cons b t=>cases t with|nil=>exact Sb.ok ⟨a,b⟩|cons=>exact Sb.no
theorem YC{is:List Int}:Sb (Pd q E) (dQ is) (cQ is):=Sb.okm rfl λu=>.ints
theorem jV(r:Rl E q)(h:VB q E w v):Sb (Pd q E) ((pj w q.σ).bind XC) (rX q.τ v):=Sb.wJ λc e=>by
 have C:=h.cont r e
 induction c using W.casesOn<;>try exact .no
 ·rw[(C.vs λu z=>z.wF).wF];exact Sb.ok .ints
 ·obtain⟨a,ys,rfl,b,z⟩:=C.l
  show Sb _ _ ((q.τ[a]?).bind _)
  exact U b (Sb.wT (Hn z) λu=>YC)
 ·obtain⟨a,d,rfl,b,rfl,z⟩:=C.dic
  show Sb _ _ ((q.τ[a]?).bind _)
  exact U b YC
theorem Gk(r:Rl E q){o:Option W}{a:Option V}(h:Sb (VS q E) o a):SX E q (λx=>VS x E) (Bx q.σ o) (mD q.τ a):=Sb.map2 h λu u z=>.mk q.L .refl r z
theorem XW(r:Rl E q){o:Option (List W)}{a:Option (List V)}(h:Sb (Pd q E) o a):SX E q (λx=>VS x E) (o.bind λxs=>So xs q.σ) (a.bind λxs=>gj xs q.τ):=Sb.wY h λu u z=>Ml r z
theorem RG{f:Int->Int->Int}(p:W×W)(b:V×V)(h:VB q E p.1 b.1/\VB q E p.2 b.2):Sb (VS q E) (qaE f p) (qaD f b):=Sb.map2 (wB h.1 h.2) λa u e=>e▸.int a
theorem vP(h:ND q E T X):Sb (VS q E) (R0 T) (l9 X):=by
 cases h with
 |nil=>exact Sb.no|cons a t=>cases t with|nil=>exact Sb.wT (vk a) λi=>Sb.okm rfl λu=>.rng 0 i|cons b t=>cases t with|nil=>exact Sb.wT (vk a) λi=>Sb.wT (vk b) λj=>Sb.okm rfl λu=>.rng i j|cons=>exact Sb.no
theorem lY(r:Rl E q)(h:ND q E T X){b:Bi}:SX E q (λx=>VS x E) (i4 b T q.σ) (tR b X q.τ):=by
 induction b with
 |len=>exact Gk r (Sb.map2 (Sb.wY (zk h) λu u z=>JT r z) λa u e=>e▸.int a)|max=>exact Gk r (Sb.wY (pI h) RG)|min=>exact Gk r (Sb.wY (pI h) RG)|sum=>exact Gk r (Sb.map2 (Sb.wY (Sb.wJ λw e=>by
  obtain⟨v,c,z⟩:=zk h w e;refine U c ?_;exact xJ r z) λu u z=>Hn z) λa u e=>e▸.int _)
 |sorted=>exact XW r (Sb.wJ λw e=>by
  refine Vg e λa c d=>?_;obtain⟨v,f,z⟩:=zk h a c;refine U f ?_;exactλy g=>jV r z y (by refine U d ?_;exact g))
 |range=>exact Gk r (vP h)|tuple=>exact Sb.wY (Sb.wY (zk h) λu u z=>ZU r z) λu u z=>Bs r z|list=>exact XW r (Sb.wY (zk h) λu u z=>Fo z)|set=>exact Gk r (Sb.wT (Sb.wY (Sb.wY (zk h) λu u z=>O1 r z) λu u z=>Hn z) λis=>Sb.okm rfl λu=>.iset is)
theorem Pd.vbs(h:Pd q E xs ys):ND q E xs ys:=h.ind (P:=ND q E) .nil λu u u u a u t=>.cons (.val a) t
theorem vZ(r:Rl E q)(h:VB q E w v)(k:Pd q E T X){c:Nat}(b:v=.ref c):SX E q (λx=>VS x E) (qaF w n T q.σ) (RT c n X q.τ):=Sb.wJ λm d=>by
 unfold RT;refine U d ?_;refine Sb.wJ λxs e=>?_;obtain⟨a,ys,rfl,f,z⟩:=Pi r h e;cases b;refine U (ge f) ?_
 induction m<;>first|exact Sb.no|exact Gk r (Sb.wT (Sb.wY (zk k.vbs) λu u z=>vk z) λu=>Sb.wT (Hn z) λu=>Sb.map2 Sb.rf λa u e=>e▸.int a)|exact Gk r (Sb.wT (Sb.wY (zk k.vbs) λu u z=>vk z) λu=>Sb.map2 (Hn z) λa u e=>e▸.int _)
def qaa(q:Wd)(E:Nat->Prop)(xs:List W)(a:It):Prop:=∀q',Le q q'->∃ys,Pd q' E xs ys/\∀k,zm a k q'.τ=J ys[k]?
theorem qaa.st(h:Pd q E xs ys):qaa q E xs (.st ys):=λu x=>⟨ys,h.mono x,λu=>rfl⟩
theorem Qr{u:List W}(h:Bl xs=J u):u=xs/\xs.length<4900:=by
 refine Hs h λy e z=>?_;subst z;exact⟨rfl,ud.mp (Mq e)⟩
theorem AB(h:VB q E w v):Sb (λxs it=>qaa q E xs it/\xs.length<4900) (By w) (fj v q.τ):=by
 have L:Sb (qaa q E) (zN w) (fj v q.τ):=by
  induction w using W.casesOn<;>try exact Sb.no
  ·rw[h.wF.wF];exact Sb.mapR Bu λu u z=>.st z
  ·obtain⟨ys,rfl,z⟩:=h.wF.wF
   exact Sb.ok (.st z)
  ·skip
   obtain⟨a,ys,rfl,e1,_⟩:=h.wF.wF;show Sb _ _ ((tc q.τ a).map _)
   refine U (ge e1) ?_;exact Sb.ok λq' x=>by
    obtain⟨b,us,e2,e3,z⟩:=((h.wF:VS q E (.l xs) (.ref a)).mono x).wF;cases e2;exact⟨us,z,λk=>by show(tc q'.τ a).map _=_;refine U (ge e3) ?_;rfl⟩
 exactλxs e=>by
  refine Vg e λys e1 e2=>?_;obtain⟨it,e3,z⟩:=L ys e1;obtain⟨rfl,hl⟩:=Qr e2;exact⟨it,e3,z,hl⟩
theorem Gy{f:W->ub->lR}{g:V->St->Option (List V×St)}{d:It}(k:∀q' w v,Le q q'->Rl E q'->VS q' E w v->SX E q' (λx=>Pd x E) (f w q'.σ) (g v q'.τ)):
 ∀(xs c:List W)(n:Nat)(q':Wd),Le q q'->Rl E q'->qaa q E (c++xs) d->xs.length<n->SX E q' (λx=>Pd x E) (Zr f xs q'.σ) (Ro n d c.length g q'.τ):=by
 intro xs
 induction xs with
 |nil=>
  intro c n q' x r I h
  induction n using Sa with
  |zero=>exact zc h (We _)|succ n=>
   obtain⟨ys,z,e⟩:=I q' x;show SX E q' _ _ ((zm d c.length q'.τ).bind _)
   refine U (e _) (U (Rc (by rw[<-z.len,Wb];exact Gb _)) ?_);exact Sb.ok (.mk q'.L .refl r Pd.nil)
 |cons w xs l=>
  intro c n q' x r I h
  induction n using Sa with
  |zero=>exact zc h (We _)|succ n=>
   obtain⟨ys,z,e⟩:=I q' x;obtain⟨v,m,p⟩:=z.get (i:=c.length) (x:=w) (by refine U (La (Gb _)) (U (gh _) ?_);rfl);show SX E q' _ _ ((zm d c.length q'.τ).bind _)
   refine U (e _) (U m (SX.bind (k2:=λo=>o.bind _) (k q' w v x r p) λj a b o s z1=>SX.map (k2:=Op _) (V:=λq=>Pd q E) (y:=Ro n d (c.length+1) g j.τ) ?_ λt C D A B z2=>Sb.ok (.mk t.L .refl B ((z1.mono A).app z2))));have:=l (c++[w]) n j (x.trans o) s (by refine U (Dc _ _ _) ?_;exact I) (Eg h);rw[Ha]at this;exact this
end
section
variable {F:Type} {i A:Nat} {p:mr} {c:GD} {D:St} {I:dW}
theorem Hv{l:List F}{a x:F}(h:(l++[a])[i]?=J x):l[i]?=J x\/(i=l.length/\a=x):=by
 rcases ck i l.length with c|c
 ·rw[Xa c]at h;exact .inl h
 ·rw[La c]at h
  have b:i=l.length:=by have:=nh h;rw[Ii]at this;lia
  rw[b,gh]at h;exact .inr ⟨b,ba h⟩
theorem Nh{l m:List F}{x:F}(h:l[i]?=J x):(l++m)[i]?=J x:=by refine U (Xa (nh h)) ?_;exact h
noncomputable def gq(q:Wd)(da dd:Nat)(a:mr):Nat:=match a with|.a i=>if i=q.σ.length then da else q.L (.a i)|.d i=>if i=q.σ.length then dd else q.L (.d i)|.f i n=>q.L (.f i n)
variable {q B:Wd} {E:Nat->Prop} {w u:W} {v x:V} {R:Bh} {z N:Nat->Option (List Int)} {n:Bb} {S:List W} {T:List V} {L:List W} {K:List V} {o:OF} {da dd:Nat} {os:List O}
theorem dm(q:Wd)(da dd:Nat):gq q da dd (.a q.σ.length)=da:=Dd rfl
theorem Er(q:Wd)(da dd:Nat):gq q da dd (.d q.σ.length)=dd:=Dd rfl
theorem gr(u:Tg q.σ p):Tg (q.σ++[o]) p/\gq q da dd p=q.L p:=by
 induction p with
 |a i=>exact⟨rb u (by refine U Ha ?_;exact Nc _ _),fe (ic u)⟩|d i=>obtain⟨b,c,e,g⟩:=u;exact⟨⟨b,c,Nh e,g⟩,fe (ic (nh e))⟩|f i n=>
  refine aa λh=>?_;obtain⟨c,e⟩:=u;exact Vg e λb j g=>(h (⟨⟨c,Fa.mpr ⟨b,Nh j,g⟩⟩,rfl⟩))
theorem rA(h:∀n w,de o.fs n=J w->nb w=Z)(u:Tg (q.σ++[o]) p):Tg q.σ p\/p=.a q.σ.length\/(p=.d q.σ.length/\o.cls≠Y):=by
 induction p with
 |a i=>
  have b:i<(q.σ++[o]).length:=u;rw[Ha]at b;rcases Nat.lt_or_eq_of_le (Qf b)with c|c
  ·exact .inl c
  ·exact .inr (.inl (Gc _ c))
 |d i=>
  refine aa λb=>?_;obtain⟨j,c,e,g⟩:=u;refine b ?_;clear b;rcases Hv e with e|⟨rfl,rfl⟩
  ·exact .inl ⟨j,c,e,g⟩
  ·exact .inr (.inr ⟨rfl,by refine U g ?_;exact KD _⟩)
 |f i n=>
  refine aa λb=>?_;obtain⟨c,e⟩:=u;refine Vg e λj k g=>(b ?_);clear b;refine aa λb=>?_;rcases Hv k with k|⟨_,rfl⟩
  ·refine b ?_
   clear b;exact .inl ⟨c,Fa.mpr ⟨j,k,g⟩⟩
  ·refine b ?_
   clear b;exact zc (h n _ g) ia
theorem OS.inst'{c a:Nat}{d:List (Bb×W)}{es:List (Bb×V)}(e:q.L (.a i)=A)(f:q.L (.d i)=a)(g:q.τ[A]?=J (.inst c a))(h:q.τ[a]?=J (.h es))(b:FS q E i d es):OS q E i ⟨J c,d⟩:=by
 subst e f;exact .inst g h b
theorem OS.sd'{b:List (Bb×W)}{d:List (Bb×V)}(e:q.L (.a i)=A)(f:q.τ[A]?=J (.h d))(a:FS q E i b d):OS q E i ⟨Y,b⟩:=by
 subst e;exact .sd f a
theorem VS.ref'(a:q.L (.a i)=A)(h:i<q.σ.length):VS q E (.ref i) (.ref A):=a▸.ref h
theorem Rl.add1(r:Rl E q)(f:∀n w,de o.fs n=J w->nb w=Z)(m:q.τ.length<=da/\da<(q.τ++os).length)(j:o.cls≠Y->(q.τ.length<=dd/\dd<(q.τ++os).length)/\da≠dd):
 Le q ⟨gq q da dd,q.σ++[o],q.τ++os⟩/\(OS ⟨gq q da dd,q.σ++[o],q.τ++os⟩ E q.σ.length o->Rl E ⟨gq q da dd,q.σ++[o],q.τ++os⟩):=by
 have s:q.τ.length<=(q.τ++os).length:=by refine U Ha ?_;exact Nc _ _
 have g:∀p,Tg (q.σ++[o]) p->(Tg q.σ p/\gq q da dd p=q.L p)\/(q.τ.length<=gq q da dd p/\gq q da dd p<(q.τ++os).length):=λp u=>by
  rcases rA f u with u|rfl|⟨rfl,c⟩
  ·exact .inl ⟨u,(gr (o:=o) u).2⟩
  ·exact .inr (by refine U (dm _ _ _) ?_;exact m)
  ·exact .inr (by refine U (Er _ _ _) ?_;exact(j c).1)
 have X:Le q ⟨gq q da dd,q.σ++[o],q.τ++os⟩:=⟨s,λp u=>gr u,λp u=>(g p u).imp MX MX,λa t e y=>Nh e⟩;refine⟨X,λO=>⟨λp k u C e=>?_,λp u=>(g p u).elim (λb=>ib (Fd b.2) (rb (r.lt p b.1) s)) And.right,λp u b=>(g p u).elim (λc=>r.sep p c.1 (c.2▸b)) λc=>dc _ (rb (r.elt _ b) c.1),λa b=>rb (r.elt a b) s,λi t e=>?_⟩⟩
 ·have d:∀{p k},Tg q.σ p->q.τ.length<=gq q da dd k->gq q da dd p≠gq q da dd k:=λ{p k} u h e=>
   dc _ (rb (r.lt p u) (Za h (Fd (e.symm.trans (gr (o:=o) u).2))))
  rcases rA f u with v|rfl|⟨rfl,c⟩<;>rcases rA f C with l|rfl|⟨rfl,I⟩
  ·exact r.inj p k v l (((gr (o:=o) v).2.symm.trans e).trans (gr (o:=o) l).2)
  ·exact zc e (d v (by refine U (dm _ _ _) ?_;exact m.1))
  ·exact zc e (d v (by refine U (Er _ _ _) ?_;exact(j I).1.1))
  ·exact zc e.symm (d l (by refine U (dm _ _ _) ?_;exact m.1))
  ·rfl
  ·exact zc ((dm q da dd).symm.trans (e.trans (Er q da dd))) (j I).2
  ·exact zc e.symm (d l (by refine U (Er _ _ _) ?_;exact(j c).1.1))
  ·exact zc ((dm q da dd).symm.trans (e.symm.trans (Er q da dd))) (j c).2
  ·rfl
 ·rcases Hv e with e|⟨rfl,rfl⟩
  ·exact(r.obj i t e).mono X e λp y y o e=>Nh e
  ·exact O
def vn(c:Yp)(I:Nat->List V->St->Option (V×St)):Prop:=∀E q a S T,Rl E q->Pd q E S T->SX E q (λx=>VS x E) (c a S q.σ) (I a T q.τ)
variable {G:Yp} {Q:Nat->List V->St->Option (V×St)}
theorem qE{b d:List W}(h:Ur b=J d):d=b/\EA b=Z:=by
 refine Hs h λy e a=>?_;subst a;exact⟨rfl,Mq e⟩
theorem gz{os:List O}:(D++os).length=D.length+os.length:=Ha
theorem pE{os:List O}{k:Nat}:(D++os)[D.length+k]?=os[k]?:=by exact U (La (Nc _ _)) (U (Nat.add_sub_cancel_left _ _) rfl)
theorem HZ(r:Rl E q)(C:vn G Q)(k:Pd q E S T){a g:Nat}:SX E q (λx=>VS x E) ((G g (.ref q.σ.length::S) (q.σ++[⟨J a,[]⟩])).bind (aH q.σ.length)) ((Q g (.ref (q.τ.length+1)::T) (q.τ++[.h [],.inst a q.τ.length])).bind (GE q.τ)):=by
 have f:(q.τ++[O.h [],.inst a q.τ.length])[q.τ.length]?=J (.h []):=pE (k:=0);have A:=r.add1 (o:=⟨J a,[]⟩) (da:=q.τ.length+1) (dd:=q.τ.length) (os:=[.h [],.inst a q.τ.length]) (λu u e=>ja e) ⟨se _,by refine U gz ?_;exact pd _⟩ λu=>⟨⟨Gb _,by refine U gz ?_;exact Tf (pd _)⟩,Lu _⟩;have d:VS ⟨gq q (q.τ.length+1) q.τ.length,q.σ++[⟨J a,[]⟩],q.τ++[.h [],.inst a q.τ.length]⟩ E (.ref q.σ.length) (.ref (q.τ.length+1)):=.ref' (dm q _ q.τ.length) (by refine U Ha ?_;exact pd _);refine SX.le A.1 (SX.bind (k2:=λo=>o.bind (GE q.τ)) (C E _ g _ _ (A.2 (.inst' (es:=[]) (dm q _ q.τ.length) (Er q (q.τ.length+1) _) (pE:(q.τ++[O.h [],.inst a q.τ.length])[q.τ.length+1]?=J (.inst a q.τ.length)) f ⟨rfl,λu u e=>ja e⟩)) (.cons d (k.mono A.1))) λe b h j l z2=>?_)
 delta aH GE
 induction b using W.casesOn<;>try exact Sb.no
 rw[(z2.wF:h=.none)];exact Sb.ok (.mk e.L .refl l (d.mono j))
theorem vS(r:Rl E q)(k:ND q E S T){c:wa}:SX E q (λx=>VS x E) ((QD c).bind λb=>i4 b S q.σ) ((QD c).bind λb=>tR b T q.τ):=Sb.wT Sb.rf λb=>lY r k
theorem QL(r:Rl E q)(C:vn G Q)(h:VB q E w v)(k:ND q E S T):SX E q (λx=>VS x E) (gG R G S q.σ w) (fG (R.w N) Q v T q.τ):=by
 induction w using W.casesOn<;>try exact Sb.no
 rename wa=>c
 rw[((h.wF).wF:v=.k c)]
 induction c<;>first|exact vS r k|exact Sb.no|skip
 refine Sb.wJ λus e=>?_;obtain⟨rfl,hn⟩:=qE e;have k':=k.nbs hn;show SX E q _ _ (match R.init a with|some g=>_|none=>_)
 induction R.init a with
 |none=>exact C E q a _ _ r k'|some g=>exact HZ r C k'
inductive QX(q:Wd)(E:Nat->Prop):GD->dW->Prop
 |fn {f i:Nat}:i<q.σ.length->QX q E (.fn f i) (.fn f (.ref (q.L (.a i))))|lm {w:W} {a:Nat}:VB q E w (.ref a)->QX q E (.lm w) (.lm a)
theorem QX.mono(r:Rl E q)(x:Le q B)(h:QX q E c I):QX B E c I:=
 h.rec (λh=>(x.a h).2▸.fn (x.a h).1) λh=>.lm (h.mono r x)
theorem AS(r:Rl E q)(d:i<q.σ.length):Sb (λp a=>p.1=a.1/\∃b,Vq q.τ a.2=J b/\FS q E i p.2 b) (Ux q.σ i) (wi q.τ (q.L (.a i))):=by
 refine aa λb=>?_;obtain⟨o,e,O⟩:=r.get d;refine b ?_;unfold Ux;refine U e ?_;cases O with
 |sd=>exact Sb.no|inst f g a=>refine U (wo f) ?_;exact Sb.ok ⟨rfl,_,Wq g,a⟩
theorem FJ{b:List (Bb×W)}:{a:List (Bb×V)}->b.map (λx=>x.1)=a.map (λx=>x.1)->∀n,de b n=Y->Pf a n=Y:=by
 induction b with
 |nil=>
  intro a h n e
  induction a using ma with
  |nil=>rfl|cons u y=>exact zc h.symm (Bc _ _)
 |cons p b f=>
  intro a h n e
  induction a using ma with
  |nil=>exact zc h (Bc _ _)|cons d a=>
   replace e:(if p.1=n then J p.2 else de b n)=Y:=e;show(if d.1=n then J d.2 else Pf a n)=Y
   refine Ed (Xd h:p.1=d.1) ?_;by_cases c:p.1=n
   ·rw[Dd c]at e;exact ja e.symm
   ·rw[fe c]at e|-;exact f (wd h) n e
theorem zU(r:Rl E q)(h:VB q E w v):Sb (QX q E) (yU R n w q.σ) (du (R.w N) v n q.τ):=by
 have b:Sb (QX q E) ((Pe w q.σ).map λu=>.lm w) (du (R.w N) v n q.τ):=Sb.lookm λL e=>by
  obtain⟨a,K,rfl,f,d⟩:=Pi r h e;show Sb _ _ ((q.τ[a]?).bind _)
  exact U f (Sb.ok (.lm h))
 induction w using W.casesOn<;>try exact b
 refine aa λk=>?_;obtain⟨g,rfl⟩:=h.wF.wF;obtain⟨o,l,O⟩:=r.get g;refine k ?_;show Sb _ ((Ux q.σ i).bind _) ((q.τ[q.L (.a i)]?).bind _)
 unfold Ux;refine U l ?_;cases O with
 |sd=>exact Sb.no| @inst c j a f m d=>
  refine U f ?_;show Sb _ ((UW R c n (de j n)).map _) ((Vq q.τ _).bind λa=>JE (R.w N) c n _ (Pf a n))
  refine U (Wq m) ?_
  induction e:de j n with
  |some=>exact Sb.no|none=>
   show Sb _ _ (JE (R.w N) c n _ (Pf a n))
   exact U (FJ d.keys n e) (Sb.map2 Sb.rf λu u e=>e▸.fn g)
theorem DY(r:Rl E q)(C:vn G Q)(h:QX q E c I)(k:Pd q E S T):SX E q (λx=>VS x E) (qbx G c n S q.σ) (my Q I n T q.τ):=
 h.rec (λa=>C E q _ _ _ r (.cons (.ref a) k)) λh=>vZ r h k rfl
theorem sV(r:Rl E q){f:Nat}(b:i<q.σ.length):Sb (λj a=>j<q.σ.length/\a=q.L (.a j)) (I1 R f q.σ i) (N9 (R.w N) f q.τ (q.L (.a i))):=by
 refine Sb.wY (AS r b) λp d a=>?_;obtain⟨e,h,g,_⟩:=a;refine U g (U e ?_);by_cases c:R.sup d.1=J f
 ·exact U (Dd c) (U (Dd c) (Sb.ok ⟨b,rfl⟩))
 ·exact U (fe c) Sb.no
theorem ND.two(h:Pd q E L K):Sb (λp a=>VS q E p.1 a.1/\VS q E p.2 a.2) (two L) (two K):=
 h.ind (P:=λL K=>Sb _ (Mine.Internal.two L) (Mine.Internal.two K)) Sb.no λa u b u x k u=>k.ind (P:=λL K=>Sb _ (Mine.Internal.two (a::L)) (Mine.Internal.two (b::K))) Sb.no λd u e u y k u=>k.ind (P:=λL K=>Sb _ (Mine.Internal.two (a::d::L)) (Mine.Internal.two (b::e::K))) (Sb.ok ⟨x,y⟩) λu u u u u u u=>Sb.no
theorem rM(r:Rl E q)(h:Pd q E L K)(k:Pd q E S T):SX E q (λx=>VS x E) (qM L S q.σ) (qG K T q.τ):=by
 refine Sb.wJ λp ep=>Sb.wJ λp2 ep2=>Sb.wJ λa ea=>Sb.wJ λb eb=>?_;refine aa λnq=>?_;obtain⟨p0,e0,z1,z2⟩:=ND.two h p ep;obtain⟨p3,e3,w1,w2⟩:=ND.two k p2 ep2;refine nq ?_;clear nq;refine U (nI e0) ?_;show SX E q _ _ ((two T).bind λp=>pG p0.1 p0.2 p.1 p.2 q.τ)
 refine U e3 (U (VB.str_of (.val z1) ea) (U (VB.str_of (.val z2) eb) ?_));show SX E q _ _ (if a=b then Y else _)
 by_cases cc:a=b
 ·exact U (Dd cc) Sb.no
 ·refine U (fe cc) (U (fe cc) ?_)
  have A:=r.add1 (o:=⟨Y,[(a,p2.1),(b,p2.2)]⟩) (da:=q.τ.length) (dd:=0) (os:=[.h [(a,p3.1),(b,p3.2)]]) (λn w e=>by
   replace e:(if a=n then J p2.1 else if b=n then J p2.2 else Y)=J w:=e
   split at e
   ·exact ba e▸w1.nb
   ·split at e
    ·exact ba e▸w2.nb
    ·exact ja e) ⟨Gb _,by refine U gz ?_;exact pd _⟩ λh=>zc rfl h
  have r1:=A.2 (.sd' (dm q _ 0) (pE (k:=0)) ⟨rfl,λn w e=>by
   replace e:(if a=n then J p2.1 else if b=n then J p2.2 else Y)=J w:=e
   split at e
   ·rename_i hc;exact⟨_,Dd hc,ba e▸.val (w1.mono A.1)⟩
   ·rename_i hc;split at e
    ·rename_i hc2;exact⟨_,(fe hc).trans (Dd hc2),ba e▸.val (w2.mono A.1)⟩
    ·exact ja e⟩)
  exact Sb.ok (.mk _ A.1 r1 (VS.ref' (dm q _ 0) (by refine U Ha ?_;exact pd _)))
end
structure Xw(E:Nat->Prop)(q:Wd)(S:fc)(T:Me):Prop where
 len:S.length=T.length
 no:∀i:Nat,S[i]?=J Y->T[i]?=J Y
 at_:∀(i:Nat) w,Ke S i=J w->∃v,Zk T i=J v/\VB q E w v
section
variable {q y:Wd} {E:Nat->Prop} {w u:W} {v x:V} {Q:Bh} {F L:Nat->Option (List Int)} {n:Bb} {O R:List W} {D K:List V} {S:fc} {T:Me} {I:Yp} {N:Nat->List V->St->Option (V×St)}
theorem Xw.mono(m:Xw E q S T)(r:Rl E q)(x:Le q y):Xw E y S T:=⟨m.len,m.no,λi w e=>(m.at_ i w e).imp λu z=>⟨z.1,z.2.mono r x⟩⟩
theorem yq{b:Type}{l:List b}{i j:Nat}{a:b}:(l.set i a)[j]?=if i=j then(if i<l.length then J a else Y)else l[j]?:=by exact U jl rfl
theorem Xw.set(m:Xw E q S T)(i:Nat)(h:VB q E w v):Xw E q (S.set i (J w)) (T.set i (J v)):=by
 refine⟨by refine U yb (U yb ?_);exact m.len,λj e=>?_,λj u e=>?_⟩
 ·rw[yq]at e|-
  by_cases c:i=j
  ·rw[Dd c]at e;split at e
   ·exact nomatch e
   ·exact ja e
  ·rw[fe c]at e|-;exact m.no j e
 ·unfold Ke at e;unfold Zk
  rw[yq]at e|-;by_cases c:i=j
  ·rw[Dd c]at e|-;refine Ed m.len ?_;split at e
   ·rename_i hl;refine U (Dd hl) ?_;exact⟨v,rfl,ba (e:J w=J u)▸h⟩
   ·exact ja e
  ·rw[fe c]at e|-;exact m.at_ j u e
theorem Xw.more(m:Xw E q S T)(k:Nat):Xw E q (S++Ia k Y) (T++Ia k Y):=by
 refine⟨by exact U Ha (U Ha (U m.len (U Mg (U Mg rfl)))),λj e=>?_,λj u e=>?_⟩
 ·rcases ck j S.length with c|c
  ·rw[Xa c]at e
   exact Nh (m.no j e)
  ·rw[La c,Te]at e
   refine U (La (m.len▸c)) (U Te (Ed m.len ?_))
   split at e
   ·rename_i h;exact U (Dd h) rfl
   ·exact ja e
 ·refine aa λnq=>(Vg e λo e1 e2=>(nq ?_))
  rcases ck j S.length with c|c
  ·rw[Xa c]at e1
   refine aa λnq=>?_;obtain⟨v,e3,z⟩:=m.at_ j u (Fa.mpr ⟨o,e1,e2⟩);exact Vg e3 λo' e4 e5=>(nq (⟨v,Fa.mpr ⟨o',Nh e4,e5⟩,z⟩))
  ·rw[La c]at e1
   rw[(λj o e=>AA (Ma e):∀{α:Type}(j:Nat)(o:Option α),(Ia k (Y:Option α))[j]?=J o->o=Y) _ _ e1]at e2;exact ja e2
theorem sB(m:Xw E q S T){i:Nat}(h:xq S i=Z):free T i=Z:=by
 have z:S[i]?=J Y->free T i=Z:=λe=>by unfold free;exact U (m.no i e) rfl
 unfold xq at h;revert z h
 induction S[i]? with
 |none=>exactλh=>zc h ia|some o=>induction o with|none=>exactλh z=>z rfl|some u=>exactλh=>zc h ia
theorem qeg{d:Type}{b:Bool}{x c:Option d}(h:b=Z):(if b then x else c)=x:=Dd h
theorem OC{is:List Nat}{R:List W}{K:List V}{S:fc}{T:Me}(h:Pd q E R K)(m:Xw E q S T):Sb (Xw E q) (Ul is R S) (Dk is K T):=by
 refine h.ind (P:=λR K=>∀is S T,Xw E q S T->Sb (Xw E q) (Ul is R S) (Dk is K T)) (λis S T m=>?_) (λa R b K d g f is S T m=>?_) is S T m
 ·induction is using ma with|nil=>exact Sb.ok m|cons i is=>exact Sb.no
 ·induction is using ma with
  |nil=>exact Sb.no|cons i is=>
   intro z e;replace e:(if xq S i then Ul is R (S.set i (J a))else Y)=J z:=e;show∃_,(if free T i then _ else _)=_/\_
   by_cases c:xq S i=Z
   ·rw[Dd c]at e
    exact U (qeg (sB m c)) (f is _ _ (m.set i (.val d)) z e)
   ·rw[fe c]at e;exact ja e
theorem RI(m:Xw E q S T)(h:VS q E w v):{t:CT}->Sb (Xw E q) (Yu t w S) (Kj t v T):=by
 intro t
 induction t using CT.casesOn with
 |x i=>
  intro z e;replace e:(if xq S i then J (S.set i (J w))else Y)=J z:=e;show∃_,(if free T i then _ else _)=_/\_
  split at e
  ·rename_i hf;refine U (qeg (sB m hf)) ?_;exact⟨_,rfl,ba e▸m.set i (.val h)⟩
  ·exact ja e
 |t is=>
  exact Sb.wY (Fo (.val h)) λu u z=>OC z m
theorem iF{is:List Nat}{R:List W}{K:List V}{S:fc}{T:Me}(h:Pd q E R K)(m:Xw E q S T):Sb (Xw E q) (Em is R S) (xe is K T):=by
 refine h.ind (P:=λR K=>∀is S T,Xw E q S T->Sb (Xw E q) (Em is R S) (xe is K T)) (λis S T m=>?_) (λa R b K d g f is S T m=>?_) is S T m
 ·induction is using ma with|nil=>exact Sb.ok m|cons i is=>exact Sb.no
 ·induction is using ma with
  |nil=>exact Sb.no|cons i is=>
   intro z e;replace e:(if i<S.length then Em is R (S.set i (J a))else Y)=J z:=e;show∃_,(if i<T.length then _ else _)=_/\_
   by_cases c:i<S.length
   ·rw[Dd c]at e
    exact U (Dd (m.len▸c)) (f is _ _ (m.set i (.val d)) z e)
   ·rw[fe c]at e;exact ja e
theorem j4(m:Xw E q S T)(h:VS q E w v):{t:CT}->Sb (Xw E q) (Ox t w S) (ql t v T):=by
 intro t
 induction t using CT.casesOn with
 |x i=>
  intro z e;replace e:(if i<S.length then J (S.set i (J w))else Y)=J z:=e;show∃_,(if i<T.length then _ else _)=_/\_
  split at e
  ·rename_i hf;refine U (Dd (m.len▸hf)) ?_;exact⟨_,rfl,ba e▸m.set i (.val h)⟩
  ·exact ja e
 |t is=>
  exact Sb.wY (Fo (.val h)) λu u z=>iF z m
abbrev Tt{b c:Type}(E:Nat->Prop)(V:Wd->b->c->Prop)(f:fc->ub->Option (b×ub))(g:Me->St->Option (c×St)):Prop:=∀q S T,Rl E q->Xw E q S T->SX E q V (f S q.σ) (g T q.τ)
theorem VB.grd(h:VB q E w v)(e:kf w=J u):VS q E u v:=(vi e).1▸h.nb (vi e).2
theorem qdh{k:V->Option β}(h:VB q E w v){P:α->β->Prop}{f:W->Option α}(b:∀u,VS q E u v->Sb P (f u) (k v)):Sb P ((kf w).bind f) (k v):=Sb.wJ λu e=>b u ((vi e).1▸h.nb (vi e).2)
theorem iD{t:CT}{c:fc->ub->G3}{d:Me->St->Option (Bool×St)}{G:fc->ub->lR}{f:Me->St->Option (List V×St)}(j:Tt E (λu=>Eq) c d)(k:Tt E (λx=>Pd x E) G f)(r:Rl E q)(m:Xw E q S T)(h:VS q E w v):
 SX E q (λx=>Pd x E) ((Yu t w S).bind λb=>(c b q.σ).bind λp=>ln p.1 (G b p.2) (J ([],p.2))) ((Kj t v T).bind λb=>(d b q.τ).bind λp=>ln p.1 (f b p.2) (J ([],p.2))):=
 Sb.wY (RI m h) λu u m1=>SX.wY (j q _ _ r m1) λg b o l i e=>Sb.ifB e (k g _ _ i (m1.mono r l)) (.ok (PX.mk g.L .refl i Pd.nil))
theorem Sb.mapB{o:Option W}{b:Option V}(r:Rl E q)(h:Sb (VB q E) o b):SX E q (λx=>VB x E) (o.map λv=>(v,q.σ)) (b.map λv=>(v,q.τ)):=Sb.map2 h λu u z=>PX.mk q.L .refl r z
theorem Sb.mapV{b:Type}{o c:Option b}{f:b->W}{g:b->V}(r:Rl E q)(h:Sb Eq o c)(z:∀a,VS q E (f a) (g a)):SX E q (λx=>VB x E) (o.map λv=>(f v,q.σ)) (c.map λv=>(g v,q.τ)):=Sb.map2 h λa u e=>e▸PX.mk q.L .refl r (VB.val (z a))
theorem Cz{c:fc->ub->jo}{g:Me->St->Option (V×St)}(h:Tt E (λx=>VB x E) c g):Tt E (λx=>VS x E) (λS b=>(c S b).bind λr=>(kf r.1).map λw=>(w,r.2)) g:=λq S T r m a e=>by
 refine aa λi=>(Vg e λp j k=>?_);obtain⟨b,l,P⟩:=h q S T r m p j;refine Hs k λw o d=>?_;subst d;exact i (⟨b,l,P.rec λf x r z=>.mk f x r (VB.grd z o)⟩)
variable (A:∀a R,F a=J R->L a=J R) (C:vn I N)
include A C
mutual
theorem Pc(e:X):Tt E (λx=>VB x E) (fX Q F I e) (evX (Q.w L) N e):=match e with
 |.x i=>λq S T r m=>Sb.mapB r λw e=>m.at_ i w e|.k v=>λq u u r u=>Sb.ok (PX.mk q.L .refl r (VB.val (.k v)))|.none=>λq u u r u=>Sb.ok (PX.mk q.L .refl r (VB.val .none))|.bool b=>λq u u r u=>Sb.ok (PX.mk q.L .refl r (VB.val (.bool b)))|.int b=>λq u u r u=>Sb.ok (PX.mk q.L .refl r (VB.val (.int b)))|.str b=>λq u u r u=>Sb.ok (PX.mk q.L .refl r (VB.val (.str b)))|.attr o n=>λq u u r m=>SX.wY (Pc o q _ _ r m) λp u u l g z=>Sb.mapB g (TA g z)|.sub o i=>λq u u r m=>SX.wY (Pc o q _ _ r m) λp u u l g z=>SX.wY (Pc i p _ _ g (m.mono r l)) λs u u j h z2=>
  Sb.mapB h ((jI h (z.mono g j) z2).imp λu u z=>.val z)
 |.cut o k=>λq u u r m=>SX.wY (Pc o q _ _ r m) λp u u l g z=>(QS A g z).vb|.bin c a b=>λq u u r m=>SX.wY (Pc a q _ _ r m) λp u u l g z=>SX.wY (Pc b p _ _ g (m.mono r l)) λs u u j h z2=>
  (mS h (z.mono g j) z2).vb
 |.neg a=>λq u u r m=>SX.wY (Pc a q _ _ r m) λp u u l g z=>Sb.mapV g (vk z) λu=>.int _|.cmp c a b=>λq u u r m=>SX.wY (Pc a q _ _ r m) λp u u l g z=>SX.wY (Pc b p _ _ g (m.mono r l)) λs u u j h z2=>
  Sb.mapV h (pz h (z.mono g j) z2) .bool
 |.cmp2 f t a b c=>λq u u r m=>SX.wY (Pc a q _ _ r m) λp u u l g z=>SX.wY (Pc b p _ _ g (m.mono r l)) λs u u j h z2=>
  Sb.wT (pz h (z.mono g j) z2) λa=>Sb.ifB rfl (SX.wY (Pc c s _ _ h ((m.mono r l).mono g j)) λP u u B d G=>
   Sb.mapV d (pz d (z2.mono h B) G) .bool) (Sb.ok (PX.mk s.L .refl h (VB.val (.bool ua))))
 |.ite t a b=>λq u u r m=>SX.wY (tm t q _ _ r m) λp u u l g z=>Sb.ifB z (Pc a p _ _ g (m.mono r l)) (Pc b p _ _ g (m.mono r l))|.t R=>λq u u r m=>SX.wY (tj R q _ _ r m) λp u u l g z=>(Bs g z).vb|.list R=>λq u u r m=>SX.wY (tj R q _ _ r m) λp u u l g z=>(Ml g z).vb|.dict b d=>λq u u r m=>SX.wY (tj b q _ _ r m) λp u u l g z=>SX.wY (tj d p _ _ g (m.mono r l)) λs u u j h z2=>(rM h (z.mono j) z2).vb|.comp k b B f rest t=>λq u u r m=>SX.wY (Pc b q _ _ r m) λp u u l g z=>Sb.wY (AB z) λR G d=>
  SX.wY (Gy (λs u u j h z2=>iD (Bv f) (qy rest (Cz (Pc t))) h (((m.mono r l).mono g j).more k) z2) R [] 5000 p .refl g d.1 (Qt d.2 (by decide))) λs u u j h z2=>(Ml h z2).vb
 |.call f O=>λq u u r m=>SX.wY (Pc f q _ _ r m) λp u u l g z=>SX.wY (yG O p _ _ g (m.mono r l)) λs u u j h z2=>(QL h C (z.mono g j) z2).vb|.meth o n O=>λq u u r m=>SX.wY (Pc o q _ _ r m) λp u u l g z=>Sb.wY (zU g z) λu u c=>SX.wY (tj O p _ _ g (m.mono r l)) λs u u j h z2=>(DY h C (c.mono g j) z2).vb|.sup i f O=>λq u u r m=>Sb.wY (Sb.wJ λj b=>by
  refine aa λc=>(Vg b λw d h=>?_);obtain⟨v,k,z⟩:=m.at_ i w d;obtain⟨o,rfl⟩:=z.ref_of h;refine c ?_;refine U k ?_;exact sV r o) λj c h=>SX.wY (tj O q _ _ r m) λp u u l g z=>by
  exact U h.2 (Ed ((l.a h.1).2) (SX.vb (C E p f _ _ g (.cons (.ref (l.a h.1).1) z))))
theorem tj(e:List X):Tt E (λx=>Pd x E) (zG Q F I e) (Mi (Q.w L) N e):=match e with
 |[]=>λq b b r b=>Sb.ok (PX.mk q.L .refl r Pd.nil)|x::R=>λq b b r m=>SX.wY (Pc x q _ _ r m) λc b b d f z=>Sb.wJ λu e=>SX.map2 (tj R c _ _ f (m.mono r d)) λg b b h i z2=>
  Sb.ok (PX.mk g.L .refl i (Pd.cons ((z.grd e).mono h) z2))
theorem yG(e:List X):Tt E (λx=>ND x E) (C7 Q F I e) (Mi (Q.w L) N e):=match e with
 |[]=>λq u u r u=>Sb.ok (PX.mk q.L .refl r ND.nil)|x::R=>λq u u r m=>SX.wY (Pc x q _ _ r m) λc u u d b z=>SX.map2 (yG R c _ _ b (m.mono r d)) λf u u g h z2=>
  Sb.ok (PX.mk f.L .refl h (ND.cons (z.mono b g) z2))
theorem tm(e:B):Tt E (λu=>Eq) (fT Q F I e) (Yt (Q.w L) N e):=match e with|.and a b=>λq u u r m=>SX.wY (tm a q _ _ r m) λc u u f d z=>Sb.ifB z (tm b c _ _ d (m.mono r f)) (Sb.ok (PX.mk c.L .refl d rfl))|.or a b=>λq u u r m=>SX.wY (tm a q _ _ r m) λc u u f d z=>Sb.ifB z (Sb.ok (PX.mk c.L .refl d rfl)) (tm b c _ _ d (m.mono r f))|.not a=>λq u u r m=>SX.map2 (tm a q _ _ r m) λc u u f d z=>Sb.ok (PX.mk c.L .refl d (Gc (λx=> !x) z))|.wK x=>λq u u r m=>SX.wY (Pc x q _ _ r m) λc u u f d z=>Sb.map2 (JL z) λu u e=>PX.mk c.L .refl d e
theorem Bv(e:List B):Tt E (λu=>Eq) (EM Q F I e) (oy (Q.w L) N e):=match e with|[]=>λq u u r u=>Sb.ok (PX.mk q.L .refl r rfl)|t::d=>λq u u r m=>SX.wY (tm t q _ _ r m) λb u u f c z=>Sb.ifB z (Bv d b _ _ c (m.mono r f)) (Sb.ok (PX.mk b.L .refl c rfl))
theorem qy:∀(e:List G){b:fc->ub->jo}{l:Me->St->Option (V×St)},Tt E (λx=>VS x E) b l->Tt E (λx=>Pd x E) (xG Q F I e b) (evRest (Q.w L) N e l)
 |[],c,j,h=>λq u u r m=>SX.map2 (h q _ _ r m) λi u u o g z=>Sb.ok (PX.mk i.L .refl g (Pd.cons z .nil))|.mk f p k::s,c,j,h=>λq u u r m=>SX.wY (Pc f q _ _ r m) λi u u o g z=>Sb.wY (AB z) λR P d=>
  Gy (λX u u t B z2=>iD (Bv k) (qy s h) B ((m.mono r o).mono g t) z2) R [] 5000 i .refl g d.1 (Qt d.2 (by decide))
end
end
section
variable {ob:O} {a j:Nat} {S:Type} {o1:OF} {p:mr}
inductive VO(q:Wd)(E:Nat->Prop):W->O->Prop
 |l {xs:List W} {ys:List V}:Pd q E xs ys->VO q E (.l xs) (.list ys)|dic {ks:List Int} {vs:List W} {es:List (Int×V)}:es.map (λx=>x.1)=ks->Pd q E vs (es.map λx=>x.2)->VO q E (.dic ks vs) (.idict es)
variable {q q' Q:Wd} {E E':Nat->Prop} {w u c:W} {v x:V} {T:Bh} {N R:Nat->Option (List Int)} {n:Bb} {i:Nat} {o:OF}
abbrev gk(q q':Wd)(E E':Nat->Prop):Prop:=∀{w v},VS q E w v->VS q' E' w v
theorem gk.all(e:gk q q' E E'){b:List W}{d:List V}(h:Pd q E b d):Pd q' E' b d:=h.ind (P:=Pd q' E') .nil λu u u u a u t=>.cons (e a) t
theorem VO.map(b:gk q q' E E')(h:VO q E c ob):VO q' E' c ob:=h.rec (λh=>.l (b.all h)) λk h=>.dic k (b.all h)
theorem VC.of(e:q.τ[a]?=J ob)(h:VO q E c ob):VC q E c a:=h.rec (motive:=λc ob u=>q.τ[a]?=J ob->VC q E c a) (λh e=>.l e h) (λk h e=>.dic e k h) e
theorem VC.vo(h:VC q E c a):∃ob,q.τ[a]?=J ob/\VO q E c ob:=h.rec (λe h=>⟨_,e,.l h⟩) λe k h=>⟨_,e,.dic k h⟩
theorem VC.map(b:gk q q' E E')(h:VC q E c a)(d:∀o,q.τ[a]?=J o->q'.τ[a]?=J o):VC q' E' c a:=by
 obtain⟨ob,e,z⟩:=h.vo;exact .of (d _ e) (z.map b)
theorem FV.map(b:gk q q' E E')(h:FV q E i n w v):(∀c,w=.o c->q'.L (.f i n)=q.L (.f i n)/\∀o,q.τ[q.L (.f i n)]?=J o->q'.τ[q.L (.f i n)]?=J o)->FV q' E' i n w v:=
 FV.rec (motive:=λw v y=>(∀c,w=.o c->q'.L (.f i n)=q.L (.f i n)/\∀o,q.τ[q.L (.f i n)]?=J o->q'.τ[q.L (.f i n)]?=J o)->FV q' E' i n w v) (λh y=>.val (b h))
  (λh u=>(u _ rfl).1▸.o ((u _ rfl).1.symm▸h.map b (u _ rfl).2)) h
def Of(i:Nat)(z:mr):Prop:=match z with|.a j=>j=i|.d j=>j=i|.f j u=>j=i
theorem OS.map(r:gk q q' E E')(d:q.σ[i]?=J o)(f:∀p,Of i p->Tg q.σ p->q'.L p=q.L p/\∀o,q.τ[q.L p]?=J o->q'.τ[q.L p]?=J o)(h:OS q E i o):OS q' E' i o:=by
 have l:∀{fs es},o.fs=fs->FS q E i fs es->FS q' E' i fs es:=λg F=>⟨F.keys,λn w e=>by
  obtain⟨v,b,z⟩:=F.at_ n w e;exact⟨v,b,z.map r λc k=>f _ rfl ⟨c,by unfold ii;refine U d ?_;exact(g▸e).trans (Gc J k)⟩⟩⟩
 have b:=f (.a i) rfl (nh d);cases h with
 |inst k s F=>
  have m:=f (.d i) rfl ⟨_,_,d,rfl⟩;exact .inst' b.1 m.1 (b.2 _ k) (m.2 _ s) (l rfl F)
 |sd k F=>exact .sd' b.1 (b.2 _ k) (l rfl F)
theorem xj{l:List S}{i:Nat}{a x:S}(h:(l.set i a)[j]?=J x):(i=j/\x=a)\/(i≠j/\l[j]?=J x):=by
 rw[yq]at h;by_cases c:i=j
 ·rw[Dd c]at h;split at h
  ·exact .inl ⟨c,(ba h).symm⟩
  ·exact ja h
 ·rw[fe c]at h;exact .inr ⟨c,h⟩
theorem bg{l:List S}{i:Nat}{a x:S}(h:l[j]?=J x)(b:i≠j):(l.set i a)[j]?=J x:=by refine U (Xc b) ?_;exact h
theorem Gp{l:List S}{i:Nat}{a x:S}(h:l[i]?=J x):(l.set i a)[i]?=J a:=by exact U (je (nh h)) rfl
theorem DV{o:OF}(k:q.σ[i]?=J o)(l:o1.cls=o.cls)(m:∀n c,de o1.fs n=J (.o c)->∃c,de o.fs n=J (.o c))(u:Tg (q.σ.set i o1) p):Tg q.σ p:=by
 induction p with
 |a j=>have:j<(q.σ.set i o1).length:=u;rw[yb]at this;exact this|d j=>
  refine aa λr=>?_;obtain⟨g,h,e,b⟩:=u;refine r ?_;rcases xj e with⟨rfl,rfl⟩|⟨_,e⟩
  ·exact⟨o,h,k,l▸b⟩
  ·exact⟨g,h,e,b⟩
 |f j n=>
  obtain⟨c,e⟩:=u;obtain⟨g,h,b⟩:=Fa.mp e;rcases xj h with⟨rfl,rfl⟩|⟨_,h⟩
  ·obtain⟨r,s⟩:=m n c b
   exact⟨r,Fa.mpr ⟨o,k,s⟩⟩
  ·exact⟨c,Fa.mpr ⟨g,h,b⟩⟩
theorem jD{o:OF}(g:q.σ[i]?=J o)(m:o1.cls=o.cls)(r:∀n c,de o.fs n=J (.o c)->∃c,de o1.fs n=J (.o c))(u:Tg q.σ p):Tg (q.σ.set i o1) p:=by
 induction p with
 |a j=>show j<(q.σ.set i o1).length;refine U yb ?_;exact u|d j=>
  refine aa λl=>?_;obtain⟨h,k,e,b⟩:=u;refine l ?_;by_cases c:i=j
  ·subst c;rw[g]at e;obtain rfl:=ba e;exact⟨o1,k,Gp g,m.trans b⟩
  ·exact⟨h,k,bg e c,b⟩
 |f j n=>
  obtain⟨c,e⟩:=u;obtain⟨h,k,b⟩:=Fa.mp e;by_cases l:i=j
  ·subst l;rw[g]at k;obtain rfl:=ba k
   obtain⟨s,t⟩:=r n c b;exact⟨s,Fa.mpr ⟨o1,Gp g,t⟩⟩
  ·exact⟨c,Fa.mpr ⟨h,bg k l,b⟩⟩
theorem Rl.turn(r:Rl E q){o:OF}{p0:mr}(f:q.σ[i]?=J o)(s:Of i p0)(g:Tg q.σ p0)(k:o1.cls=o.cls)(l:∀n,(∃c,de o1.fs n=J (.o c))↔∃c,de o.fs n=J (.o c))
 (t:Le q ⟨q.L,q.σ.set i o1,q.τ.set (q.L p0) ob⟩->OS ⟨q.L,q.σ.set i o1,q.τ.set (q.L p0) ob⟩ E i o1):Le q ⟨q.L,q.σ.set i o1,q.τ.set (q.L p0) ob⟩/\Rl E ⟨q.L,q.σ.set i o1,q.τ.set (q.L p0) ob⟩:=by
 have b:∀{p},Tg (q.σ.set i o1) p->Tg q.σ p:=DV f k λn c h=>(l n).mp ⟨c,h⟩;have d:(q.τ.set (q.L p0) ob).length=q.τ.length:=yb;have X:Le q ⟨q.L,q.σ.set i o1,q.τ.set (q.L p0) ob⟩:=⟨Fd d.symm,λp u=>⟨jD f k (λn c h=>(l n).mpr ⟨c,h⟩) u,rfl⟩,λp u=>.inl (b u),λa m e h=>bg e (h p0 g)⟩;refine⟨X,λp y u A e=>r.inj p y (b u) (b A) e,λp u=>d.symm▸r.lt p (b u),λp u=>r.sep p (b u),λa h=>d.symm▸r.elt a h,λj m e=>?_⟩;rcases xj e with⟨rfl,rfl⟩|⟨B,e⟩
 ·exact t X
 ·refine(r.obj j m e).map (λh=>h.mono X) e λp C u=>⟨rfl,λD F=>bg F λz=>B ?_⟩
  have:=r.inj _ _ g u z;subst this
  induction p0<;>exact s.symm.trans C
theorem FS.put{b:List (Bb×W)}{d:List (Bb×V)}(F:FS q E i b d)(f:FV q' E' i n w v)(g:∀m,n≠m->∀w v,de b m=J w->FV q E i m w v->FV q' E' i m w v):FS q' E' i (jj b n w) (Gh d n v):=
 ⟨MN n w v b d F.keys,λm u e=>by
  rw[Ej]at e;refine U (DJ _ _ _ _) ?_;by_cases c:n=m
  ·rw[Dd c]at e|-;subst c;exact⟨v,rfl,ba e▸f⟩
  ·rw[fe c]at e|-
   obtain⟨h,k,z⟩:=F.at_ m u e;exact⟨h,k,g m c _ _ e z⟩⟩
theorem mw{b f:List (Bb×W)}(h:TJ b n w=J f):f=jj b n w/\∀c,de b n≠J (.o c):=by
 unfold TJ at h
 induction e:de b n with
 |none=>rw[e]at h;exact⟨(ba h).symm,λy z=>ja z⟩|some u=>
  rw[e]at h
  induction d:yT u with
  |true=>simp only[d]at h;exact ja h|false=>simp only[d]at h;exact⟨(ba h).symm,λc z=>by rw[ba z]at d;exact Bd d⟩
theorem EH{f:List (Bb×W)}(g:nb w=Z)(h:∀c,de f n≠J (.o c))(m:Bb):(∃c,de (jj f n w) m=J (.o c))↔∃c,de f m=J (.o c):=by
 refine U (Ej _ _ _ _) ?_;by_cases c:n=m
 ·exact U (Dd c) (⟨λb=>by obtain⟨d,e⟩:=b;exact zc g (ba e▸ia),λb=>by obtain⟨d,e⟩:=b;exact zc (c▸e) (h d)⟩)
 ·rw[fe c]
theorem pC(r:Rl E q)(h:VB q E w v)(k:VS q E u x):Sb (λb d=>Le q ⟨q.L,b,d⟩/\Rl E ⟨q.L,b,d⟩) ((Bk w).bind (Do T n u q.σ)) (Qn (T.w R) v n x q.τ):=Sb.wJ λi e=>by
 obtain⟨l,rfl⟩:=h.ref_of e;obtain⟨o,b,O⟩:=r.get l;unfold Do;refine U b ?_;cases O with
 |sd=>exact .no| @inst c s f t A F=>
  show Sb _ ((Ge _).bind _) ((wi q.τ (q.L (.a i))).bind _)
  refine U (wo t) ?_;show Sb _ _ ((Vq q.τ (q.L (.d i))).bind _)
  refine U (Wq A) ?_;have B:s.length=f.length:=by have:=Gc nj F.keys;rw[ya,ya]at this;exact this
  show Sb _ ((Ge (T.attr c n&&ac s.length 900)).bind _) ((Ge (T.attr c n&&ac f.length 900)).map _)
  refine U B ?_
  induction I:(T.attr c n&&ac f.length 900)with
  |false=>exact .no|true=>
   refine Sb.lookm λK C=>?_;obtain⟨rfl,D⟩:=mw C;exact Sb.ok (r.turn (p0:=.d i) b rfl ⟨_,_,b,rfl⟩ rfl (EH k.nb D) λX=>.inst (bg t λz=>nomatch (r.inj (.d i) (.a i) ⟨_,_,b,rfl⟩ l z)) (Gp A) (F.put (.val (k.mono X)) λm y w v e z=>z.mono X (λd g=>⟨d,Fa.mpr ⟨_,b,g▸e⟩⟩) λd g o G=>bg G λz=>nomatch (r.inj (.d i) (.f i m) ⟨_,_,b,rfl⟩ ⟨d,Fa.mpr ⟨_,b,g▸e⟩⟩ z)))
theorem zw(r:Rl E q){b:W}(B:ii q.σ i n=J (.o c))(K:VO q E b ob):Le q ⟨q.L,Fm q.σ i n (.o b),q.τ.set (q.L (.f i n)) ob⟩/\Rl E ⟨q.L,Fm q.σ i n (.o b),q.τ.set (q.L (.f i n)) ob⟩:=by
 have A:Tg q.σ (.f i n):=⟨c,B⟩;refine aa λl=>?_;obtain⟨o,g,e⟩:=Fa.mp B;obtain⟨L,P,_⟩:=(vq r B).vo;refine l ?_;have s:Fm q.σ i n (.o b)=q.σ.set i ⟨o.cls,jj o.fs n (.o b)⟩:=by unfold Fm;exact U g rfl
 refine U s ?_;refine r.turn g rfl A rfl (λm=>by
  refine U (Ej _ _ _ _) ?_;by_cases k:n=m
  ·exact U (Dd k) (⟨λy=>⟨c,k▸e⟩,λy=>⟨b,rfl⟩⟩)
  ·rw[fe k]) λX=>?_
 have hm:∀m,n≠m->∀w v,de o.fs m=J w->FV q E i m w v->FV ⟨q.L,q.σ.set i ⟨o.cls,jj o.fs n (.o b)⟩,q.τ.set (q.L (.f i n)) ob⟩ E i m w v:=λm hn w v f z=>
  z.mono X (λd C=>⟨d,Fa.mpr ⟨_,g,C▸f⟩⟩) λd C o' D=>bg D λz=>hn (mr.f_inj (r.inj (.f i n) (.f i m) A ⟨d,Fa.mpr ⟨_,g,C▸f⟩⟩ z))
 have I:∀{s:List (Bb×V)}{y},o.fs=y->FS q E i y s->FS ⟨q.L,q.σ.set i ⟨o.cls,jj o.fs n (.o b)⟩,q.τ.set (q.L (.f i n)) ob⟩ E i (jj y n (.o b)) s:=λG F=>by
  subst G;refine⟨?_,λm u f=>?_⟩
  ·refine aa λl=>?_
   obtain⟨v,t,_⟩:=F.at_ n _ e;exact l (Ed F.keys (keys_in e))
  ·rw[Ej]at f
   by_cases k:n=m
   ·rw[Dd k]at f;subst k
    obtain⟨v,t,z⟩:=F.at_ n _ e;refine aa λl=>?_;cases z with
    |val z=>refine l ?_;exact zc z.nb ia|o z=>refine l ?_;exact⟨_,t,ba f▸.o (.of (Gp P) (K.map λh=>h.mono X))⟩
   ·rw[fe k]at f
    obtain⟨v,t,z⟩:=F.at_ m u f;exact⟨v,t,hm m k _ _ f z⟩
 have O:=r.obj i o g;cases O with
 | @inst k y s h t F=>exact .inst (bg h λz=>nomatch (r.inj (.f i n) (.a i) A (nh g) z)) (bg t λz=>nomatch (r.inj (.f i n) (.d i) A ⟨_,_,g,rfl⟩ z)) (I rfl F)| @sd y s h F=>exact .sd (bg h λz=>nomatch (r.inj (.f i n) (.a i) A (nh g) z)) (I rfl F)
where keys_in {w u:W}:{fs:List (Bb×W)}->de fs n=J u->(jj fs n w).map (λx=>x.1)=fs.map (λx=>x.1)
 |[],h=>ja h|(k,a)::fs,h=>by
  replace h:(if k=n then J a else de fs n)=J u:=h;show(if k=n then(k,w)::fs else(k,a)::jj fs n w).map (λx=>x.1)=_
  by_cases c:k=n
  ·refine U (Dd c) ?_;rfl
  ·rw[fe c]at h|-;exact Gc (λx=>k::x) (keys_in h)
end
def Ow(P:List Nat)(T:fc)(ow:Nat->Nat)(a:Nat):Prop:=(∃i c,Ke T i=J (.o c)/\ow i=a)\/a∈P
def EX(X O:Nat->Prop)(a:Nat):Prop:=X a\/O a
structure Ku(O Q:Nat->Prop)(q R:Wd):Prop where
 len:q.τ.length<=R.τ.length
 usd:∀p,Tg q.σ p->Tg R.σ p/\R.L p=q.L p
 new:∀p,Tg R.σ p->Tg q.σ p\/q.τ.length<=R.L p\/O (R.L p)
 keep:∀(a:Nat)(o:Mine.Internal.O),q.τ[a]?=J o->(∀p,Tg q.σ p->q.L p≠a)->¬O a->R.τ[a]?=J o
 own:∀a,Q a->O a\/q.τ.length<=a
structure Aj(X:Nat->Prop)(P:List Nat)(T:fc)(S:Me)(ow:Nat->Nat)(q:Wd):Prop where
 rl:Rl (EX X (Ow P T ow)) q
 len:T.length=S.length
 no:∀i:Nat,T[i]?=J Y->S[i]?=J Y
 val:∀i w,Ke T i=J w->yT w=ua->∃v,Zk S i=J v/\VS q (EX X (Ow P T ow)) w v
 own:∀i c,Ke T i=J (.o c)->Zk S i=J (.ref (ow i))/\VC q (EX X (Ow P T ow)) c (ow i)
 inj:∀i j c c',Ke T i=J (.o c)->Ke T j=J (.o c')->ow i=ow j->i=j
 sep:∀a,Ow P T ow a->¬X a
 pn:P.Nodup
 ps:∀i c,Ke T i=J (.o c)->ow i∉P
section
variable {q R L:Wd} {E K X O Q N:Nat->Prop} {w u c:W} {v x:V} {I:Bh} {n:Bb} {i b:Nat} {P:List Nat} {T:fc} {S:Me} {ow:Nat->Nat}
theorem Ku.refl:Ku O O q q:=⟨Gb _,λu h=>⟨h,rfl⟩,λu h=>.inl h,λu u h u u=>h,λu h=>.inl h⟩
theorem Le.s(x:Le q R):Ku O O q R:=⟨x.len,x.usd,λp u=>(x.new p u).imp_right .inl,λa o e h y=>x.keep a o e h,λy h=>.inl h⟩
theorem Ku.trans(x:Ku O Q q R)(y:Ku Q N R L):Ku O N q L:=
 ⟨Za x.len y.len,λp h=>⟨(y.usd p (x.usd p h).1).1,((y.usd p (x.usd p h).1).2).trans (x.usd p h).2⟩,
  λp h=>(y.new p h).elim (λg=>(x.new p g).imp_right λz=>by refine U ((y.usd p g).2) ?_;exact z) λz=>.inr (z.elim (λz=>.inl (Za x.len z)) λz=>(x.own _ z).symm),
  λa o e h f=>y.keep a o (x.keep a o e h f) (λp u z=>(x.new p u).elim (λd=>h p d ((x.usd p d).2.symm.trans z)) λd=>d.elim (λd=>dc _ (rb (nh e) (z▸d))) λd=>f (z▸d)) λz=>(x.own a z).elim f λz=>dc _ (rb (nh e) z),
  λa z=>(y.own a z).elim (x.own a) λz=>.inr (Za x.len z)⟩
theorem Ku.le(x:Ku O Q q R)(h:∀a,¬O a):Le q R:=⟨x.len,x.usd,λp u=>(x.new p u).imp_right λz=>z.resolve_right (h _),λa o e n=>x.keep a o e n (h a)⟩
theorem Ku.carry(x:Ku O Q q R):gk q R (EX X O) (EX X Q):=λ{w v} h=>h.map (λi a=>x.usd (.a i) a) λa o e f=>
 have g:¬O a:=λz=>f (.inr (.inr z))
 ⟨λz=>z.elim (λj=>by obtain⟨p,u,k⟩:=j;exact(x.new p u).elim (λd=>f (.inl ⟨p,d,(x.usd p d).2.symm.trans k⟩)) λd=>d.elim (λd=>dc _ (rb (nh e) (k▸d))) λd=>g (k▸d))
  λz=>z.elim (λz=>f (.inr (.inl z))) λz=>(x.own a z).elim g λz=>dc _ (rb (nh e) z),
  x.keep a o e (λp u z=>f (.inl ⟨p,u,z⟩)) g⟩
theorem Rl.sub(r:Rl E q)(h:∀a,K a->E a):Rl K q:=⟨r.inj,r.lt,λp u z=>r.sep p u (h _ z),λa z=>r.elt a (h a z),λi o e=>(r.obj i o e).map (λz=>z.sub h) e λy y y=>⟨rfl,λy z=>z⟩⟩
theorem Aj.wS(F:Aj X P T S ow q):Xw (EX X (Ow P T ow)) q T S:=⟨F.len,F.no,λi w e=>by
 induction d:yT w with
 |false=>obtain⟨v,a,z⟩:=F.val i w e d;exact⟨v,a,.val z⟩|true=>
  induction w using W.casesOn<;>try exact Bd d
  obtain⟨a,z⟩:=F.own i _ e;exact⟨_,a,.o (.inr (.inl ⟨i,_,e,rfl⟩)) z⟩⟩
theorem Aj.le(F:Aj X P T S ow q)(x:Le q R)(r:Rl (EX X (Ow P T ow)) R):Aj X P T S ow R:=
 ⟨r,F.len,F.no,λi w e h=>(F.val i w e h).imp λu z=>⟨z.1,z.2.mono x⟩,λi c e=>⟨(F.own i c e).1,(F.own i c e).2.mono x λo=>F.rl.eget x (.inr (.inl ⟨i,c,e,rfl⟩))⟩,F.inj,F.sep,F.pn,F.ps⟩
theorem Tu(a:i<T.length)(w:W)(j:Nat):Ke (T.set i (J w)) j=if i=j then J w else Ke T j:=by
 unfold Ke;refine U yq ?_;by_cases c:i=j
 ·refine U (Dd c) (U (Dd c) (U (Dd a) ?_));rfl
 ·exact U (fe c) (U (fe c) rfl)
theorem pD(a:i<S.length)(w:V)(j:Nat):Zk (S.set i (J w)) j=if i=j then J w else Zk S j:=by
 unfold Zk;refine U yq ?_;by_cases c:i=j
 ·refine U (Dd c) (U (Dd c) (U (Dd a) ?_));rfl
 ·exact U (fe c) (U (fe c) rfl)
theorem mO(h:∀i:Nat,T[i]?=J Y->S[i]?=J Y)(j:Nat):(T.set i (J w))[j]?=J Y->(S.set i (J v))[j]?=J Y:=λe=>by
 refine aa λa=>?_;rcases xj e with⟨_,e⟩|⟨d,e⟩
 ·exact a (ja e)
 ·exact a (bg (h j e) d)
theorem Aj.less(F:Aj X P T S ow q){k:List Nat}{d:fc}{g:Me}{f:Nat->Nat}(l:∀a,Ow k d f a->Ow P T ow a)(len:d.length=g.length)(p:∀i:Nat,d[i]?=J Y->g[i]?=J Y)
 (m:∀i w,Ke d i=J w->yT w=ua->∃v,Zk g i=J v/\VS q (EX X (Ow k d f)) w v)(own:∀i c,Ke d i=J (.o c)->Zk g i=J (.ref (f i))/\VC q (EX X (Ow P T ow)) c (f i))
 (o:∀i j c e,Ke d i=J (.o c)->Ke d j=J (.o e)->f i=f j->i=j)(j:k.Nodup)(r:∀i c,Ke d i=J (.o c)->f i∉k):Aj X k d g f q/\Ku (Ow P T ow) (Ow k d f) q q:=by
 have hEx:∀a,EX X (Ow k d f) a->EX X (Ow P T ow) a:=λa z=>z.imp_right (l a);exact⟨⟨F.rl.sub hEx,len,p,m,λi c e=>⟨(own i c e).1,(own i c e).2.map (λz=>z.sub hEx) λu z=>z⟩,o,λa z=>F.sep a (l a z),j,r⟩,
  Gb _,λu h=>⟨h,rfl⟩,λu h=>.inl h,λu u h u u=>h,λa z=>.inl (l a z)⟩
theorem ri(a:i<T.length){j:Nat}{u:W}(h:Ke (T.set i (J w)) j=J u):(i=j/\u=w)\/(i≠j/\Ke T j=J u):=by
 rw[Tu a]at h;by_cases c:i=j
 ·rw[Dd c]at h;exact .inl ⟨c,(ba h).symm⟩
 ·rw[fe c]at h;exact .inr ⟨c,h⟩
theorem PQ(a:i<S.length):Zk (S.set i (J v)) i=J v:=by exact U (pD a _ _) (U (Dd rfl) rfl)
theorem tA(a:i<S.length){j:Nat}{x:V}(c:i≠j)(h:Zk S j=J x):Zk (S.set i (J v)) j=J x:=by refine U (pD a _ _) (U (fe c) ?_);exact h
theorem Aj.setV(F:Aj X P T S ow q)(g:i<T.length)(h:VS q (EX X (Ow P T ow)) w v):Aj X P (T.set i (J w)) (S.set i (J v)) ow q/\Ku (Ow P T ow) (Ow P (T.set i (J w)) ow) q q:=by
 have f:i<S.length:=F.len▸g;have d:∀{j c},Ke (T.set i (J w)) j=J (.o c)->i≠j/\Ke T j=J (.o c):=λe=>(ri g e).resolve_left λz=>(λc e=>zc h.nb (e▸ia):∀c,w≠ .o c) _ z.2.symm;have l:∀a,Ow P (T.set i (J w)) ow a->Ow P T ow a:=λa z=>z.imp_left λm=>by obtain⟨j,c,e,o⟩:=m;exact⟨j,c,(d e).2,o⟩
 exact F.less l (by refine U yb (U yb ?_);exact F.len) (mO F.no) (λj u e p=>by
  rcases ri g e with⟨rfl,rfl⟩|⟨c,e⟩
  ·exact⟨v,PQ f,h.sub λa z=>z.imp_right (l a)⟩
  ·refine aa λk=>?_
   obtain⟨y,r,z⟩:=F.val j u e p;refine k ?_;exact⟨y,tA f c r,z.sub λa z=>z.imp_right (l a)⟩)
  (λj c e=>⟨tA f (d e).1 (F.own j c (d e).2).1,(F.own j c (d e).2).2⟩) (λj k c r e o=>F.inj j k c r (d e).2 (d o).2) F.pn λj c e=>F.ps j c (d e).2
noncomputable def qaQ(ow:Nat->Nat)(i b j:Nat):Nat:=if j=i then b else ow j
theorem Uw:qaQ ow i b i=b:=Dd rfl
theorem Lp{j:Nat}(h:i≠j):qaQ ow i b j=ow j:=fe (cq h)
theorem Aj.setO(F:Aj X (b::P) T S ow q)(m:i<T.length)(h:VC q (EX X (Ow (b::P) T ow)) c b):∃p,Aj X P (T.set i (J (.o c))) (S.set i (J (.ref b))) p q/\Ku (Ow (b::P) T ow) (Ow P (T.set i (J (.o c))) p) q q:=by
 have o:i<S.length:=F.len▸m;refine⟨qaQ ow i b,?_⟩;have r:=Fc.mp F.pn;have t:∀a,Ow P (T.set i (J (.o c))) (qaQ ow i b) a->Ow (b::P) T ow a:=λa z=>z.elim (λf=>by
  obtain⟨j,d,e,l⟩:=f;rcases ri m e with⟨rfl,_⟩|⟨g,e⟩
  ·exact .inr (by rw[Uw]at l;exact l▸sa)
  ·exact .inl ⟨j,d,e,by rw[Lp g]at l;exact l⟩) λz=>.inr (oa _ z)
 refine F.less t (by refine U yb (U yb ?_);exact F.len) (mO F.no) (λj u e A=>?_) (λj d e=>?_) (λj k d B e l=>?_) r.2 λj d e=>?_
 ·rcases ri m e with⟨rfl,rfl⟩|⟨g,e⟩
  ·exact Bd A
  ·obtain⟨y,f,z⟩:=F.val j u e A
   exact⟨y,tA o g f,z.sub λa z=>z.imp_right (t a)⟩
 ·rcases ri m e with⟨rfl,f⟩|⟨g,e⟩
  ·cases f;refine U Uw ?_;exact⟨PQ o,h⟩
  ·exact U (Lp g) (⟨tA o g (F.own j d e).1,(F.own j d e).2⟩)
 ·rcases ri m e with⟨rfl,_⟩|⟨g,e⟩<;>rcases ri m l with⟨rfl,_⟩|⟨s,l⟩
  ·exactλf=>rfl
  ·exact U Uw (U (Lp s) λz=>zc (z▸sa) (F.ps k B l))
  ·exact U Uw (U (Lp g) λz=>zc (z.symm▸sa) (F.ps j d e))
  ·exact U (Lp g) (U (Lp s) (F.inj j k d B e l))
 ·rcases ri m e with⟨rfl,_⟩|⟨g,e⟩
  ·exact U Uw r.1
  ·exact U (Lp g) λz=>F.ps j d e (oa _ z)
theorem Aj.frz(F:Aj X P T S ow q)(h:Ke T i=J (.o c)):Aj X P (T.set i (J c)) S ow q/\Ku (Ow P T ow) (Ow P (T.set i (J c)) ow) q q:=by
 have s:i<T.length:=by
  exact Vg h λo e g=>(nh e)
 obtain⟨r,z1⟩:=F.own i c h;have t:∀d,c≠ .o d:=λd e=>(by have:=(e▸z1).wF;exact this);have g:∀{j d},Ke (T.set i (J c)) j=J (.o d)->i≠j/\Ke T j=J (.o d):=λe=>(ri s e).resolve_left λz=>t _ z.2.symm;have m:∀a,Ow P (T.set i (J c)) ow a->Ow P T ow a:=λa z=>z.imp_left λl=>by obtain⟨j,d,e,f⟩:=l;exact⟨j,d,(g e).2,f⟩
 refine F.less m (by refine U yb ?_;exact F.len) (λj e=>?_) (λj u e A=>?_) (λj d e=>F.own j d (g e).2) (λj k d o e f=>F.inj j k d o (g e).2 (g f).2) F.pn λj d e=>F.ps j d (g e).2
 ·refine aa λo=>?_
  rcases xj e with⟨_,e⟩|⟨_,e⟩
  ·exact o (ja e)
  ·exact o (F.no j e)
 ·rcases ri s e with⟨rfl,rfl⟩|⟨B,e⟩
  ·refine⟨_,r,?_⟩
   have y:¬Ex q (EX X (Ow P (T.set i (J u)) ow)) (ow i):=λz=>z.elim (λl=>by obtain⟨p,v,f⟩:=l;exact F.rl.sep p v (f▸.inr (.inl ⟨i,u,h,rfl⟩))) λz=>z.elim (F.sep _ (.inl ⟨i,u,h,rfl⟩)) λz=>z.elim (λl=>by obtain⟨j,d,e,f⟩:=l;exact(g e).1 (F.inj i j u d h (g e).2 f.symm)) λz=>F.ps i u h z;exact z1.rec (motive:=λu a f=>¬Ex q _ a->VS q _ u (.ref a)) (λe h n=>.l n e (h.sub λa z=>z.imp_right (m a))) (λe k h n=>.dic n e k (h.sub λa z=>z.imp_right (m a))) y
  ·refine aa λo=>?_
   obtain⟨y,r,z⟩:=F.val j u e A;exact o (⟨y,r,z.sub λa z=>z.imp_right (m a)⟩)
theorem Rl.wr(r:Rl E q)(h:E b)(d:Mine.Internal.O):Rl E ⟨q.L,q.σ,q.τ.set b d⟩/\gk q ⟨q.L,q.σ,q.τ.set b d⟩ E E:=by
 have C:gk q ⟨q.L,q.σ,q.τ.set b d⟩ E E:=λz=>VS.map (q:=q) (q':=⟨q.L,q.σ,q.τ.set b d⟩) (λy h=>⟨h,rfl⟩) (λa o e n=>⟨n,bg (l:=q.τ) e λz=>n (.inr (z▸h))⟩) z;have f:(q.τ.set b d).length=q.τ.length:=yb;exact⟨⟨r.inj,λp u=>f.symm▸r.lt p u,r.sep,λa h=>f.symm▸r.elt a h,λi o e=>(r.obj i o e).map C e λp y u=>⟨rfl,λo e=>bg e λz=>r.sep p u (z▸h)⟩⟩,C⟩
theorem Aj.upd(F:Aj X P T S ow q)(h:Ke T i=J (.o c)){c':W}{ob:Mine.Internal.O}(k:VO q (EX X (Ow P T ow)) c' ob):Aj X P (T.set i (J (.o c'))) S ow ⟨q.L,q.σ,q.τ.set (ow i) ob⟩/\Ku (Ow P T ow) (Ow P (T.set i (J (.o c'))) ow) q ⟨q.L,q.σ,q.τ.set (ow i) ob⟩:=by
 have m:i<T.length:=by
  exact Vg h λo e f=>(nh e)
 have A:Ow P T ow (ow i):=.inl ⟨i,c,h,rfl⟩;refine aa λr=>?_;obtain⟨G,z1⟩:=F.own i c h;obtain⟨x1,e0,_⟩:=z1.vo;have g:∀{j d},Ke (T.set i (J (.o c'))) j=J (.o d)->∃d,Ke T j=J (.o d):=λe=>(ri m e).elim (λz=>z.1▸⟨c,h⟩) λz=>⟨_,z.2⟩;have s:∀a,Ow P (T.set i (J (.o c'))) ow a↔Ow P T ow a:=λa=>⟨λz=>z.imp_left λl=>by obtain⟨j,d,e,f⟩:=l;exact(g e).elim λB z=>⟨j,B,z,f⟩,λz=>z.imp_left λl=>by
  obtain⟨j,d,e,f⟩:=l;by_cases p:i=j
  ·exact⟨j,c',by exact U (Tu m _ _) (U (Dd p) rfl),f⟩
  ·exact⟨j,d,by refine U (Tu m _ _) (U (fe p) ?_);exact e,f⟩⟩
 obtain⟨r1,C⟩:=F.rl.wr (.inr A) ob;refine r ?_;have hEx:∀a,EX X (Ow P (T.set i (J (.o c'))) ow) a->EX X (Ow P T ow) a:=λa z=>z.imp_right (s a).mp;have t:gk q ⟨q.L,q.σ,q.τ.set (ow i) ob⟩ (EX X (Ow P T ow)) (EX X (Ow P (T.set i (J (.o c'))) ow)):=λz=>(C z).sub hEx;refine⟨⟨r1.sub hEx,by refine U yb ?_;exact F.len,λj e=>?_,λj u e D=>?_,λj d e=>?_,λj k d B e f=>(g e).elim λy e=>(g f).elim λy f=>F.inj j k _ _ e f,λa z=>F.sep a ((s a).mp z),F.pn,λj d e=>(g e).elim λy e=>F.ps j _ e⟩,
  Fd yb.symm,λy h=>⟨h,rfl⟩,λy h=>.inl h,λa o e y n=>bg e λz=>n (z▸A),λa z=>.inl ((s a).mp z)⟩
 ·refine aa λr=>?_
  rcases xj e with⟨_,e⟩|⟨_,e⟩
  ·exact r (ja e)
  ·exact r (F.no j e)
 ·rcases ri m e with⟨rfl,rfl⟩|⟨p,e⟩
  ·exact Bd D
  ·exact(F.val j u e D).imp λy z=>⟨z.1,t z.2⟩
 ·rcases ri m e with⟨rfl,y⟩|⟨p,e⟩
  ·cases y;exact⟨G,.of (Gp e0) (k.map t)⟩
  ·obtain⟨B,z2⟩:=F.own j d e
   exact⟨B,z2.map t λo f=>bg f λz=>p (F.inj i j c d h e z)⟩
end
inductive TV(q:Wd)(E:Nat->Prop):List Nat->W->V->Prop
 |val {w:W} {v:V}:VS q E w v->TV q E [] w v|own {c:W} {b:Nat}:VC q E c b->TV q E [b] (.o c) (.ref b)
class inductive TS(q:Wd)(E:Nat->Prop):List Nat->List W->List V->Prop
 |nil:TS q E [] [] []|cons {P P':List Nat} {w:W} {v:V} {ws:List W} {vs:List V}:TV q E P w v->TS q E P' ws vs->TS q E (P++P') (w::ws) (v::vs)
inductive DI(X:Nat->Prop)(P:List Nat)(T:fc)(S:Me)(ow:Nat->Nat)(q:Wd){D B:Type}(V:Wd->(Nat->Prop)->List Nat->D->B->Prop)(a:D×ub)(b:B×St):Prop
 |mk (L:mr->Nat) (Q:List Nat):Le q ⟨L,a.2,b.2⟩->(∀b∈Q,q.τ.length<=b)->Aj X (P++Q) T S ow ⟨L,a.2,b.2⟩->V ⟨L,a.2,b.2⟩ (EX X (Ow (P++Q) T ow)) Q a.1 b.1->DI X P T S ow q V a b
section
variable {q q' t:Wd} {E E' X O s:Nat->Prop} {w u c:W} {v x:V} {R:Bh} {G N:Nat->Option (List Int)} {n:Bb} {i b:Nat} {P Q:List Nat} {T:fc} {S:Me} {ow:Nat->Nat} {ws:List W} {vs:List V}
theorem TE{a:Nat}:Ow (P++Q) T ow a↔Ow P T ow a\/a∈Q:=⟨λz=>z.elim (λz=>.inl (.inl z)) λz=>(Xb.mp z).elim (λz=>.inl (.inr z)) .inr,λz=>z.elim (λz=>z.imp_right λz=>Je _ z) λz=>.inr (Ld _ z)⟩
theorem Le.fresh(x:Le q q')(h:∀b∈Q,q.τ.length<=b):Ku (Ow P T ow) (Ow (P++Q) T ow) q q':=⟨x.len,x.usd,λp u=>(x.new p u).imp_right .inl,λa o e h y=>x.keep a o e h,λa z=>(TE.mp z).imp_right (h a)⟩
theorem TV.map(d:gk q q' E E')(e:∀b∈P,∀o,q.τ[b]?=J o->q'.τ[b]?=J o)(h:TV q E P w v):TV q' E' P w v:=
 h.rec (motive:=λP w v u=>(∀b∈P,∀o,q.τ[b]?=J o->q'.τ[b]?=J o)->TV q' E' P w v) (λh u=>.val (d h)) (λh k=>.own (h.map d (k _ sa))) e
theorem TS.map(f:gk q q' E E')(h:TS q E P ws vs):(∀b∈P,∀o,q.τ[b]?=J o->q'.τ[b]?=J o)->TS q' E' P ws vs:=
 h.rec (motive:=λP w v u=>(∀b∈P,∀o,q.τ[b]?=J o->q'.τ[b]?=J o)->TS q' E' P w v) (λu=>.nil) λa u d k=>.cons (a.map f λb e=>k b (Je _ e)) (d λb e=>k b (Ld _ e))
theorem Pd.ts{ws:List W}{vs:List V}(h:Pd q E ws vs):TS q E [] ws vs:=h.ind (P:=TS q E []) .nil λu u u u a u d=>.cons (.val a) d
theorem Aj.push(F:Aj X P T S ow q)(d:Mine.Internal.O):Le q ⟨q.L,q.σ,q.τ++[d]⟩/\Aj X (P++[q.τ.length]) T S ow ⟨q.L,q.σ,q.τ++[d]⟩/\gk q ⟨q.L,q.σ,q.τ++[d]⟩ (EX X (Ow P T ow)) (EX X (Ow (P++[q.τ.length]) T ow)):=by
 refine aa λg=>?_;obtain⟨r,x⟩:=F.rl.push d;refine g ?_;have C:gk q ⟨q.L,q.σ,q.τ++[d]⟩ (EX X (Ow P T ow)) (EX X (Ow (P++[q.τ.length]) T ow)):=λz=>(x.fresh (λb h=>Fd (Ra.mp h).symm:∀b∈[q.τ.length],q.τ.length<=b)).carry z;have hEx:∀a,EX X (Ow (P++[q.τ.length]) T ow) a->EX X (Ow P T ow) a\/a=q.τ.length:=λa z=>z.elim (λz=>.inl (.inl z)) λz=>(TE.mp z).imp .inr λz=>Ra.mp z;have f:∀{a},Ow P T ow a->a<q.τ.length:=λz=>F.rl.elt _ (.inr z);refine⟨x,⟨⟨r.inj,r.lt,λp u z=>(hEx _ z).elim (r.sep p u) λe=>dc _ (e▸F.rl.lt p u),λa z=>(hEx a z).elim (r.elt a) λe=>e▸(by show _<(q.τ++[d]).length;refine U Ha ?_;exact pd _),λi o e=>(F.rl.obj i o e).map C e λp j u=>⟨rfl,λo e=>Nh e⟩⟩,
  F.len,F.no,λi w e h=>(F.val i w e h).imp λj z=>⟨z.1,C z.2⟩,λi c e=>⟨(F.own i c e).1,(F.own i c e).2.map C λo e=>Nh e⟩,F.inj,λa z=>(TE.mp z).elim (F.sep a) λz y=>dc _ ((Ra.mp z)▸F.rl.elt a (.inl y)),
  ?_,λi c e z=>(Xb.mp z).elim (F.ps i c e) λz=>dc _ ((Ra.mp z)▸f (.inl ⟨i,c,e,rfl⟩))⟩,C⟩
 exact di.mpr ⟨F.pn,Fc.mpr ⟨Tb,.nil⟩,λa k b l e=>dc _ ((e.trans (Ra.mp l))▸f (.inr k))⟩
variable {K:Yp} {I:Nat->List V->St->Option (V×St)} {D B:Type} {A:Wd->(Nat->Prop)->List Nat->D->B->Prop}
theorem DI.le(F:Aj X P T S ow q){x:Option (D×ub)}{y:Option (B×St)}{d:Wd->D->B->Prop}(h:SX (EX X (Ow P T ow)) q d x y)(e:∀q' a b,d q' a b->A q' (EX X (Ow P T ow)) [] a b):Sb (DI X P T S ow q A) x y:=
 Sb.imp h λa b p=>p.rec λL x r z=>.mk L [] x (λu h=>(Tb h).elim) (by refine U (Wb _) ?_;exact F.le x r) (by refine U (Wb _) ?_;exact e _ _ _ z)
theorem zu(F:Aj X P T S ow q){d:Mine.Internal.O}(h:VO q (EX X (Ow P T ow)) c d):DI X P T S ow q TV (.o c,q.σ) (.ref q.τ.length,q.τ++[d]):=
 (F.push d).elim λx z=>z.elim λe C=>.mk q.L [q.τ.length] x (λb h=>Fd (Ra.mp h).symm) e (.own (.of dw (h.map C)))
theorem DI.up{x:Option (D×ub)}{y:Option (B×St)}(h:Le q q')(d:Sb (DI X P T S ow q' A) x y):Sb (DI X P T S ow q A) x y:=Sb.imp d λu u p=>p.rec λe Q f g j k=>.mk e Q (h.trans f) (λb l=>Za h.len (g b l)) j k
theorem DI.bind(F:Aj X P T S ow q){d e:Type}{f:Wd->d->e->Prop}{x:Option (d×ub)}{y:Option (e×St)}{k:d×ub->Option (D×ub)}{k2:e×St->Option (B×St)}(h:SX (EX X (Ow P T ow)) q f x y)
 (g:∀q' a b,Le q q'->Aj X P T S ow q'->f q' a b->Sb (DI X P T S ow q' A) (k (a,q'.σ)) (k2 (b,q'.τ))):Sb (DI X P T S ow q A) (x.bind k) (y.bind k2):=
 Sb.wY h λa b p=>p.rec λL x r z=>DI.up x (g ⟨L,a.2,b.2⟩ a.1 b.1 x (F.le x r) z)
theorem Nr{K:Nat->List V->St->Option (V×St)}{x:Mine.Internal.X}{T:Me}{d:St}:Mi (R.w N) K [x] T d=(evX (R.w N) K x T d).map λp=>([p.1],p.2):=by
 show(evX (R.w N) K x T d).bind _=_
 induction evX (R.w N) K x T d<;>rfl
theorem yM{K:Nat->List V->St->Option (V×St)}{k e:Mine.Internal.X}{T:Me}{d:St}:evX (R.w N) K (.dict [k] [e]) T d=(evX (R.w N) K k T d).bind λp=>(evX (R.w N) K e T p.2).bind λq=>oG p.1 q.1 q.2:=by
 show(Mi (R.w N) K [k] T d).bind (λp=>(Mi (R.w N) K [e] T p.2).bind λq=>qG p.1 q.1 q.2)=_
 refine U Nr ?_
 induction evX (R.w N) K k T d with
 |none=>rfl|some p=>
  show(Mi (R.w N) K [e] T p.2).bind (λq=>qG [p.1] q.1 q.2)=(evX (R.w N) K e T p.2).bind _
  refine U Nr ?_
  induction evX (R.w N) K e T p.2<;>rfl
theorem LY{K:Nat->List V->St->Option (V×St)}{a b:Mine.Internal.X}{T:Me}{d:St}:evX (R.w N) K (.bin .Mult (.list [a]) b) T d=(evX (R.w N) K a T d).bind λp=>(evX (R.w N) K b T (p.2++[.list [p.1]])).bind λq=>bU (.ref p.2.length) q.1 q.2:=by
 show((Mi (R.w N) K [a] T d).bind λp=>gj p.1 p.2).bind (λp=>(evX (R.w N) K b T p.2).bind λq=>bU p.1 q.1 q.2)=_
 refine U Nr ?_
 induction evX (R.w N) K a T d<;>rfl
variable (hs:∀a xs,G a=J xs->N a=J xs) (C:vn K I)
include hs C
theorem sm(F:Aj X P T S ow q)(e:Mine.Internal.X):Sb (DI X P T S ow q TV) (IM R G K e T q.σ) (evX (R.w N) I e S q.τ):=
 DI.le F (Cz (Pc hs C e) q T S F.rl F.wS) λu u u z=>.val z
theorem GM(F:Aj X P T S ow q)(a b:Mine.Internal.X):Sb (DI X P T S ow q TV) (FM R G K a b T q.σ) (evX (R.w N) I (.bin .Mult (.list [a]) b) S q.τ):=by
 refine U LY (DI.bind F (Pc hs C a q T S F.rl F.wS) λe w v x1 f z1=>Sb.wJ λl m=>?_);obtain⟨r,x⟩:=f.rl.push (.list [v]);have z:VS ⟨e.L,e.σ,e.τ++[.list [v]]⟩ (EX X (Ow P T ow)) (.l [l]) (.ref e.τ.length):=VS.l (q:=⟨e.L,e.σ,e.τ++[.list [v]]⟩) f.rl.top dw (.cons ((z1.grd m).mono x) .nil);refine DI.up x (DI.bind (q:=⟨e.L,e.σ,e.τ++[.list [v]]⟩) (f.le x r) (Pc hs C b _ T S r (f.le x r).wS) λo k k' p L z2=>Sb.wJ λi ei=>(aa λnq=>?_));obtain⟨d,g,e1,e2,h⟩:=(z.mono p).wF;cases e1;refine nq ?_
 induction g using ma with
 |nil=>exact zc h.len (Zb _)|cons y g=>
  induction g using ma with
  |cons v g=>exact zc (Jh h.len).symm (Zb _)|nil=>
   refine U (z2.wZ ei) ?_;show Sb _ _ (((tc o.τ e.τ.length).bind one).bind _)
   refine U (ge e2) (Sb.okmb λj=>?_);have j:=Nl j;show Sb _ _ ((Ge (Td (Ia i.toNat y).length)).map _)
   have ho:Td i.toNat=Z:=ud.mpr (by lia);exact U Mg (U ho (Sb.ok (zu L (.l (Pd.rep h.uncons.1 _)))))
theorem DM(F:Aj X P T S ow q)(k e:Mine.Internal.X):Sb (DI X P T S ow q TV) (A7 R G K k e T q.σ) (evX (R.w N) I (.dict [k] [e]) S q.τ):=by
 refine U yM (DI.bind F (Pc hs C k q T S F.rl F.wS) λf w v l d z1=>Sb.wJ λa g=>(U (z1.wZ g) (DI.bind d (Pc hs C e f T S d.rl d.wS) λm u y o h z2=>Sb.lookm λp j=>?_)));exact Sb.ok (zu h (.dic rfl (.cons (z2.grd j) .nil)))
theorem LM(F:Aj X P T S ow q)(e:Mine.Internal.X):Sb (DI X P T S ow q TV) (fV R G K e T q.σ) (evX (R.w N) I e S q.τ):=by
 induction e using Mine.Internal.X.casesOn<;>try exact sm hs C F _
 ·skip
  show Sb _ (match Bt op a with|some c=>FM R G K c b T q.σ|none=>IM R G K (.bin op a b) T q.σ) _
  induction e:Bt op a with
  |none=>exact sm hs C F _|some c=>
   obtain⟨rfl,rfl⟩:op=.Mult/\a=.list [c]:=by
    induction a using Mine.Internal.X.casesOn<;>try exact ja e
    match xs,e with
    |[d],e=>induction op<;>first|exact ja e|exact⟨rfl,by obtain rfl:=ba e;rfl⟩
   exact GM hs C F c b
 ·skip
  exact DI.bind F (tj hs C xs q T S F.rl F.wS) λq1 ws vs x1 F1 z1=>Sb.okm (Gc Td z1.len) λu=>zu F1 (.l z1)
 ·skip
  match ks,vs with
  |[],[]=>exact Sb.ok (zu F (.dic rfl .nil))|[k],[v]=>exact DM hs C F k v|[],y::z=>exact sm hs C F _|[y],[]=>exact sm hs C F _|[y],z::j::f=>exact sm hs C F _|y::z::j,f=>exact sm hs C F _
theorem oT:∀(d:List Mine.Internal.X){P:List Nat}{q:Wd},Aj X P T S ow q->Sb (DI X P T S ow q TS) (qay R G K d T q.σ) (Mi (R.w N) I d S q.τ):=by
 intro d
 induction d with
 |nil=>
  rintro P q F;exact Sb.ok (.mk q.L [] .refl (λy h=>(Tb h).elim) (by refine U (Wb _) ?_;exact F) .nil)
 |cons e d l=>
  rintro P q F;exact Sb.wY (LM hs C F e) λa b p=>p.rec λL Q x m j z=>Sb.map2 (l j) λa2 b2 r=>r.rec λy Q2 g f k z2=>by
   rw[Dc]at k z2;exact .mk y (Q++Q2) (x.trans g) (λb h=>(Xb.mp h).elim (m b) λh=>Za x.len (f b h)) k
    (.cons (z.map (by refine Ed (Dc _ _ _) ?_;exact(g.fresh f).carry) λb h o e=>g.keep b o e λp u z=>j.rl.sep p u (.inr (.inr (Ld _ (z▸h))))) z2)
end
section
variable {k:Int} {z:Mine.Internal.O} {a:Nat} {A:W} {D:V}
inductive oR(X:Nat->Prop)(P:List Nat)(O:Nat->Prop)(q:Wd)(a:fc×ub)(b:Me×St):Prop
 |mk (L:mr->Nat) (ow:Nat->Nat):Ku O (Ow P a.1 ow) q ⟨L,a.2,b.2⟩->(∀b'∈P,∀o,q.τ[b']?=J o->b.2[b']?=J o)->Aj X P a.1 b.1 ow ⟨L,a.2,b.2⟩->oR X P O q a b
noncomputable def GF(L:mr->Nat)(i:Nat)(n:Bb)(b:Nat)(d:mr):Nat:=match d with|.a e=>L (.a e)|.d e=>L (.d e)|.f e f=>if e=i/\f=n then b else L (.f e f)
variable {q F l:Wd} {E m X O j:Nat->Prop} {w u c:W} {v x:V} {K:Bh} {s I:Nat->Option (List Int)} {n:Bb} {i b:Nat} {P Q:List Nat} {N:fc} {R:Me} {ow:Nat->Nat} {r:List W} {B:List V}
theorem qC(h:VS q E u x){B:List W}:{f:List (Int×V)}->Pd q E B (f.map λx=>x.2)->(jw f k x).map (λx=>x.1)=RJ (f.map λx=>x.1) k/\Pd q E (PJ (f.map λx=>x.1) B k u) ((jw f k x).map λx=>x.2):=by
 induction B with
 |nil=>
  intro f d
  induction f using ma with
  |nil=>exact⟨rfl,.cons h .nil⟩|cons u e=>exact zc d.len.symm (Zb _)
 |cons w B g=>
  intro f d
  induction f using ma with
  |nil=>exact zc d.len (Zb _)|cons p f=>
   obtain⟨a,e⟩:=p;have g:=g d.uncons.2;show(if a=k then(a,x)::f else(a,e)::jw f k x).map (λx=>x.1)=(if a=k then a::f.map λx=>x.1 else a::RJ (f.map λx=>x.1) k)/\Pd q E (if a=k then u::B else w::PJ (f.map λx=>x.1) B k u) ((if a=k then(a,x)::f else(a,e)::jw f k x).map λx=>x.2)
   by_cases c:a=k
   ·exact U (Dd c) (U (Dd c) (U (Dd c) (⟨rfl,.cons h d.uncons.2⟩)))
   ·exact U (fe c) (U (fe c) (U (fe c) (⟨Gc (λx=>a::x) g.1,.cons d.uncons.1 g.2⟩)))
theorem nC(d:VO q E c z)(h:VS q E u x):Sb (VO q E) (lP k u c) (aV (.int k) x z):=
 d.rec (λ{xs ys} d=>by
  show Sb _ ((Ol xs.length k).bind λi=>(X0 xs u i).map W.l) ((Ol ys.length k).bind λi=>(A9 ys x i).map Mine.Internal.O.list)
  refine U d.len (Sb.wT Sb.rf λi=>?_);show Sb _ ((if i<xs.length then J (xs.set i u)else Y).map W.l) ((if i<ys.length then J (ys.set i x)else Y).map Mine.Internal.O.list)
  refine U d.len ?_;by_cases c:i<ys.length
  ·exact U (Dd c) (U (Dd c) (Sb.ok (.l (d.set i h))))
  ·refine U (fe c) ?_;exact Sb.no) λ{ks B es} e d=>by
  subst e;exact Sb.okm (by exact U (ya _) rfl) λf=>.dic (qC h d).1 (qC h d).2
theorem qeU(e:q.L (.f i n)=a)(h:VC q E c a):FV q E i n (.o c) (.ref a):=by subst e;exact .o h
theorem aN(L:Aj X (b::P) N R ow q)(x1:VB q (EX X (Ow (b::P) N ow)) w v)(k:VC q (EX X (Ow (b::P) N ow)) c b):Sb (λe g=>oR X P (Ow (b::P) N ow) q (N,e) (R,g)) ((Bk w).bind (Do K n (.o c) q.σ)) (Qn (K.w I) v n (.ref b) q.τ):=Sb.wJ λi x2=>by
 obtain⟨hi,rfl⟩:=x1.ref_of x2;obtain⟨x3,ho,OO⟩:=L.rl.get hi;unfold Do;refine U ho ?_;cases OO with
 |sd=>exact .no| @inst cl fs es e1 e2 FF=>
  show Sb _ ((Ge _).bind _) ((wi q.τ (q.L (.a i))).bind _)
  refine U (wo e1) ?_;show Sb _ _ ((Vq q.τ (q.L (.d i))).bind _)
  have hl:fs.length=es.length:=by have:=Gc nj FF.keys;rw[ya,ya]at this;exact this
  refine U (Wq e2) ?_;show Sb _ ((Ge (K.attr cl n&&ac fs.length 900)).bind _) ((Ge (K.attr cl n&&ac es.length 900)).map _)
  refine U hl ?_
  induction hb:(K.attr cl n&&ac es.length 900)with
  |false=>exact .no|true=>
   refine Sb.lookm λgs eg=>Sb.ok ?_;have T:=L.rl;obtain⟨rfl,hn⟩:=mw eg;have hd:Tg q.σ (.d i):=⟨_,_,ho,rfl⟩;have hO:Ow (b::P) N ow b:=.inr sa;have Eb:EX X (Ow (b::P) N ow) b:=.inr hO;have x6:∀a,Ow P N ow a->Ow (b::P) N ow a:=λa e=>e.imp_right (oa _);have x5:∀p,Tg q.σ p->Tg (q.σ.set i ⟨J cl,jj fs n (.o c)⟩) p/\GF q.L i n b p=q.L p:=λp u=>⟨jD (o1:=⟨J cl,jj fs n (.o c)⟩) ho rfl (λg d x2=>by
    refine U (Ej _ _ _ _) ?_;by_cases cc:n=g
    ·exact⟨c,Dd cc⟩
    ·exact⟨d,(fe cc).trans x2⟩) u,by
    induction p with
    |f h g=>
     refine fe λe=>?_;obtain⟨rfl,rfl⟩:=e;obtain⟨d,x2⟩:=u;obtain⟨o',o,e4⟩:=Fa.mp x2;rw[ho]at o;obtain rfl:=ba o;exact hn d e4
    |_=>rfl⟩
   have x7:∀p,Tg (q.σ.set i ⟨J cl,jj fs n (.o c)⟩) p->Tg q.σ p\/p=.f i n:=λp u=>by
    induction p with
    |a h=>exact .inl (by have:h<(q.σ.set i _).length:=u;rw[yb]at this;exact this)|d h=>
     refine aa λnq=>?_;obtain⟨o',c',x2,o⟩:=u;refine nq ?_;clear nq;rcases xj x2 with⟨rfl,rfl⟩|⟨_,x2⟩
     ·exact .inl hd
     ·exact .inl ⟨o',c',x2,o⟩
    |f h g=>
     obtain⟨d,x2⟩:=u;obtain⟨o',o,e4⟩:=Fa.mp x2;rcases xj o with⟨rfl,rfl⟩|⟨_,o⟩
     ·replace e4:de (jj fs n (.o c)) g=J (.o d):=e4
      rw[Ej]at e4;by_cases cc:n=g
      ·exact .inr (cc▸rfl)
      ·rw[fe cc]at e4;exact .inl ⟨d,Fa.mpr ⟨_,ho,e4⟩⟩
     ·exact .inl ⟨d,Fa.mpr ⟨o',o,e4⟩⟩
   have Lf:GF q.L i n b (.f i n)=b:=Dd ⟨rfl,rfl⟩;have S:Ku (Ow (b::P) N ow) (Ow P N ow) q ⟨GF q.L i n b,q.σ.set i ⟨J cl,jj fs n (.o c)⟩,q.τ.set (q.L (.d i)) (.h (Gh es n (.ref b)))⟩:=
    ⟨Fd yb.symm,x5,λp u=>(x7 p u).imp_right λe=>.inr (by refine U e ?_;show Ow _ _ _ (GF q.L i n b (.f i n));refine U Lf ?_;exact hO),λa x3 x2 x1 x4=>bg x2 (x1 _ hd),λa e=>.inl (x6 a e)⟩
   have Cy:gk q ⟨GF q.L i n b,q.σ.set i ⟨J cl,jj fs n (.o c)⟩,q.τ.set (q.L (.d i)) (.h (Gh es n (.ref b)))⟩ (EX X (Ow (b::P) N ow)) (EX X (Ow P N ow)):=λe=>S.carry e;have ke:∀{a},EX X (Ow (b::P) N ow) a->∀x3,q.τ[a]?=J x3->(q.τ.set (q.L (.d i)) (.h (Gh es n (.ref b))))[a]?=J x3:=λe x3 x2=>bg x2 λo=>T.sep _ hd (o▸e);have x8:∀{a},a<q.τ.length->a<(q.τ.set (q.L (.d i)) (.h (Gh es n (.ref b)))).length:=λe=>by refine U yb ?_;exact e
   have kp:∀{p},Tg q.σ p->p≠ .d i->∀x3,q.τ[q.L p]?=J x3->(q.τ.set (q.L (.d i)) (.h (Gh es n (.ref b))))[q.L p]?=J x3:=λu hn x3 x2=>bg x2 λe=>hn (T.inj _ _ hd u e).symm;refine .mk (GF q.L i n b) ow S (λb' x9 x3 x2=>ke (.inr (.inr (oa _ x9))) x3 x2) ⟨⟨λp p' u u' x2=>?_,λp u=>x8 ((x7 p u).elim (λe=>ib (Fd (x5 p e).2) (T.lt p e)) λe=>by refine U e ?_;exact ib (Fd Lf) (T.elt b Eb)),λp u e=>(x7 p u).elim (λo=>T.sep p o (by refine Ed ((x5 p o).2) ?_;exact e.imp_right (x6 _))) λo=>(λe=>e.elim (L.sep b hO) λe=>e.elim ((by rintro⟨h,d,x2,e'⟩;exact L.ps h d x2 (e'▸sa))) (Fc.mp L.pn).1:¬EX X (Ow P N ow) b) (by rw[o]at e;refine Ed Lf ?_;exact e),λa e=>x8 (T.elt a (e.imp_right (x6 a))),λh o' x2=>?_⟩,
    L.len,L.no,λh u x2 x1=>(L.val h u x2 x1).imp λx4 e=>⟨e.1,Cy e.2⟩,λh d x2=>⟨(L.own h d x2).1,(L.own h d x2).2.map (λe=>Cy e) (ke (.inr (.inl ⟨h,d,x2,rfl⟩)))⟩,L.inj,λa e=>L.sep a (x6 a e),(Fc.mp L.pn).2,λh d x2 e=>L.ps h d x2 (oa _ e)⟩
   ·rcases x7 p u with o|rfl<;>rcases x7 p' u' with y'|rfl
    ·exact T.inj p p' o y' (((x5 p o).2.symm.trans x2).trans (x5 p' y').2)
    ·exact zc (((x5 p o).2.symm.trans x2).trans Lf) λe=>T.sep p o (by refine U e ?_;exact Eb)
    ·exact zc ((Lf.symm.trans x2).trans (x5 p' y').2) λe=>T.sep p' y' (by refine Ed e ?_;exact Eb)
    ·rfl
   ·rcases xj x2 with⟨rfl,rfl⟩|⟨y1,x2⟩
    ·exact .inst (kp (p:=.a i) hi (λe=>nomatch e) _ e1) (Gp e2) (FF.put (qeU Lf (k.map (λe=>Cy e) (ke Eb))) λg hm w v x2 e=>FV.map (q':=⟨GF q.L i n b,q.σ.set i ⟨J cl,jj fs n (.o c)⟩,q.τ.set (q.L (.d i)) (.h (Gh es n (.ref b)))⟩) (λe=>Cy e) e λd y2=>by
      have um:Tg q.σ (.f i g):=⟨d,Fa.mpr ⟨_,ho,y2▸x2⟩⟩;exact⟨(x5 _ um).2,kp (p:=.f i g) um λe=>nomatch e⟩)
    ·exact(T.obj h o' x2).map (λe=>Cy e) x2 λp hp u=>⟨(x5 p u).2,kp u λe=>by rw[e]at hp;exact y1 hp⟩
theorem oR.of{f:fc}{e:Me}{g:Nat->Nat}{Q:List Nat}(d:Aj X P f e g F)(S:Ku O (Ow P f g) q F)(k:∀b∈P,∀o,q.τ[b]?=J o->F.τ[b]?=J o):oR X P O q (f,F.σ) (e,F.τ):=.mk F.L g S k d
theorem oR.bind(d:Aj X Q N R ow q)(hQ:∀b∈P,b∈Q){α β:Type}{V':Wd->α->β->Prop}{x:Option (α×ub)}{f:Option (β×St)}{k:α×ub->a4}{k2:β×St->Option (Me×St)}(h:SX (EX X (Ow Q N ow)) q V' x f)
 (hk:∀F a b,Le q F->Aj X Q N R ow F->V' F a b->Sb (oR X P (Ow Q N ow) F) (k (a,F.σ)) (k2 (b,F.τ))):Sb (oR X P (Ow Q N ow) q) (x.bind k) (f.bind k2):=
 Sb.wY h λa b p=>p.rec λL x g T=>Sb.imp (hk ⟨L,a.2,b.2⟩ a.1 b.1 x (d.le x g) T) λu u p=>p.rec λL2 x1 S kp F2=>.mk L2 x1 (x.s.trans S) (λb hb o e=>kp b hb o (d.rl.eget x (.inr (.inr (hQ b hb))) e)) F2
variable {y:Yp} {G:Nat->List V->St->Option (V×St)}
theorem Bw{d:St}(e:d[a]?=J z):Ci (.ref a) (.int k) x d=(aV (.int k) x z).map (d.set a):=by
 show((d[a]?).bind _).map _=_;refine U e ?_;rfl
theorem XE(f:Aj X P N R ow q)(hw:Ke N i=J w)(hv:Zk R i=J v)(k:VB q (EX X (Ow P N ow)) A D)(h:VS q (EX X (Ow P N ow)) u x):Sb (oR X P (Ow P N ow) q) (Yz i A u N q.σ w) ((Ci v D x q.τ).map λσ=>(R,σ)):=by
 induction w using W.casesOn<;>try exact Sb.no
 ·rename Nat=>g
  refine aa λnq=>?_;obtain⟨v2,e1,p⟩:=f.val i _ hw rfl;obtain⟨hj,rfl⟩:=p.wF;refine nq ?_;clear nq;rw[hv]at e1;obtain rfl:=ba e1;refine Sb.wJ λL es=>(aa λnq=>?_);obtain⟨o,ho,OO⟩:=f.rl.get hj;refine nq ?_;clear nq;refine U ho (U (k.str_of es) ?_);cases OO with
  |inst=>exact Sb.no| @sd fs es e1 FF=>
   have hl:fs.length=es.length:=by have:=Gc nj FF.keys;rw[ya,ya]at this;exact this
   show Sb _ ((Ge (Td fs.length)).bind λS=>(TJ fs L u).map _) ((((q.τ[q.L (.a g)]?).bind (aV (.str L) x)).map (q.τ.set (q.L (.a g)))).map _)
   refine U e1 ?_;show Sb _ _ ((((Ge (Td es.length)).map _).map _).map _)
   refine U hl ?_
   induction Td es.length with
   |false=>exact Sb.no|true=>
    refine Sb.lookm λgs eg=>Sb.ok ?_;obtain⟨rfl,hn⟩:=mw eg;have T:=f.rl.turn (o1:=⟨Y,jj fs L u⟩) (p0:=.a g) (ob:=.h (Gh es L x)) ho rfl hj rfl (EH h.nb hn) λX=>.sd (Gp e1) (FF.put (.val (h.mono X)) λd S w v e p=>p.mono X (λx1 hd=>⟨x1,Fa.mpr ⟨_,ho,hd▸e⟩⟩) λx1 hd o e'=>bg e' λp=>nomatch (f.rl.inj (.a g) (.f g d) hj ⟨x1,Fa.mpr ⟨_,ho,hd▸e⟩⟩ p));exact .mk q.L ow T.1.s (λb d o e=>f.rl.eget T.1 (.inr (.inr d)) e) (f.le T.1 T.2)
 ·rename W=>c
  refine aa λnq=>?_;obtain⟨e1,p⟩:=f.own i c hw;rw[hv]at e1;obtain rfl:=ba e1;obtain⟨z,S,zo⟩:=p.vo;refine nq ?_;clear nq;refine Sb.wJ λk' ek=>(U (k.wZ ek) (U (Bw S) (Sb.map (k2:=λo=>(o.map (q.τ.set (ow i))).map λσ=>(R,σ)) (nC zo h) λc' x2 L=>Sb.ok ?_)));have g:=f.upd hw L;exact .mk q.L ow g.2 (λb d o e=>bg e λp=>f.ps i c hw (p▸d)) g.1
theorem Cp(f:Rl E q)(h:VB q E w v){i:Nat}(e:Bm K n q.σ w=J i):Ni (K.w I) v n q.τ=J (.ref (q.L (.f i n)))/\Tg q.σ (.f i n):=by
 refine aa λL=>?_;obtain⟨g,e1,e2⟩:=Fa.mp e;refine L ?_;clear L;refine aa λL=>?_;obtain⟨u,S,e4⟩:=Fa.mp e2;refine L ?_;clear L;obtain⟨c,e5,rfl⟩:=ef.mp e4;obtain⟨d,T,e7⟩:=Fa.mp e5;cases Go e7;obtain⟨v',e8,p⟩:=TA (tab:=K) (n:=n) f h u (Fa.mpr ⟨g,e1,S⟩);refine aa λL=>?_;obtain⟨o,ho,e9⟩:=Fa.mp T;refine L ?_;clear L;have hu:u=.fld g n:=by
  unfold Mx at S;rw[ho]at S;refine aa λL=>?_;obtain⟨cl,f1,f2⟩:=Fa.mp (show(o.cls.bind _)=J u from S);obtain⟨_,f3,f4⟩:=Fa.mp f2;refine L ?_;clear L;rw[e9]at f4;exact(ba f4).symm
 rw[hu]at p;rw[p.wF.2]at e8;exact⟨e8,c,T⟩
theorem iw(d:Rl E q)(g:Tg q.σ (.f i n))(k:VB q E A D)(h:VS q E u x):Sb (λe f=>Le q ⟨q.L,e,f⟩/\Rl E ⟨q.L,e,f⟩) (gw n A u q.σ i) (Ci (.ref (q.L (.f i n))) D x q.τ):=by
 refine aa λo=>?_;obtain⟨c,e⟩:=g;obtain⟨z,p,L⟩:=(vq d e).vo;refine o ?_;unfold gw;refine U e ?_;exact Sb.wJ (x:=Ua A) λk' S=>(U (k.wZ S) (U (Bw p) (Sb.map2 (nC L h) λc' T f=>zw d e f)))
variable (t:∀a xs,s a=J xs->I a=J xs) (C:vn y G)
include t C
theorem KM(d:Aj X P N R ow q)(h:VS q (EX X (Ow P N ow)) u x)(o e:Mine.Internal.X):Sb (oR X P (Ow P N ow) q) (nT K s y o e u N q.σ) (JK (K.w I) G (.sub o e) x R q.τ):=by
 induction o using Mine.Internal.X.casesOn<;>try exact Sb.no
 ·rename Nat=>f
  show Sb _ ((fX K s y e N q.σ).bind λp=>(Ke N f).bind (Yz f p.1 u N p.2)) (((Zk R f).map λv=>(v,q.τ)).bind λp=>(evX (K.w I) G e R p.2).bind λq=>(Ci p.1 q.1 x q.2).map λL=>(R,L))
  induction hw:Ke N f with
  |none=>exact Sb.wJ λg g=>Sb.no|some w=>
   refine aa λnq=>?_;obtain⟨v,hv,_⟩:=d.wS.at_ f w hw;refine nq (U hv ?_);show Sb _ _ ((evX (K.w I) G e R q.τ).bind λq=>(Ci v q.1 x q.2).map λL=>(R,L))
   exact oR.bind d (λg h=>h) (Pc t C e q N R d.rl d.wS) λq1 A D x1 S z1=>XE S hw hv z1 (h.mono x1)
 ·rename Mine.Internal.X=>o
  show Sb _ ((fX K s y o N q.σ).bind _) (((evX (K.w I) G o R q.τ).bind λp=>(Ni (K.w I) p.1 n p.2).map λv=>(v,p.2)).bind λp=>(evX (K.w I) G e R p.2).bind λq=>(Ci p.1 q.1 x q.2).map λL=>(R,L))
  refine U (Va _ _ _) (oR.bind d (λg h=>h) (Pc t C o q N R d.rl d.wS) λq1 w v x1 S z1=>Sb.wJ λi ei=>?_);obtain⟨eg,hu⟩:=Cp S.rl z1 ei;refine U eg ?_;show Sb _ _ ((evX (K.w I) G e R q1.τ).bind λq=>(Ci (.ref (q1.L (.f i n))) q.1 x q.2).map λL=>(R,L))
  exact oR.bind S (λg h=>h) (Pc t C e q1 N R S.rl S.wS) λq2 A D p g z2=>by
   have f:=p.usd _ hu;exact Ed f.2 (Sb.map2 (iw g.rl f.1 z2 ((h.mono x1).mono p)) λL τ T=>.mk q2.L ow T.1.s (λb hb o e=>g.rl.eget T.1 (.inr (.inr hb)) e) (g.le T.1 T.2))
mutual
theorem HM:∀(d:Mine.Internal.T){Q P:List Nat}{w:W}{v:V}{N:fc}{R:Me}{ow:Nat->Nat}{q:Wd},Aj X (Q++P) N R ow q->TV q (EX X (Ow (Q++P) N ow)) Q w v->Sb (oR X P (Ow (Q++P) N ow) q) (fP K s y d w N q.σ) (JK (K.w I) G d v R q.τ)
 |.x i,Q,P,w,v,N,R,ow,q,f,h=>Sb.okm (by exact U f.len rfl) λe=>by
  have e:=ud.mp e;cases h with
  |val h=>have S:=f.setV e h;exact .mk q.L ow S.2 (λg g g o=>o) S.1|own h=>obtain⟨p,S⟩:=f.setO e h;exact .mk q.L p S.2 (λg g g o=>o) S.1
 |.t e,Q,P,w,v,N,R,ow,q,f,h=>by
  cases h with
  |val h=>exact Sb.wY (Fo (.val h)) λg g L=>xz e (Q:=[]) f L.ts|own h=>exact Sb.no
 |.attr p n,Q,P,w,v,N,R,ow,q,f,h=>oR.bind f (λg h=>Ld _ h) (Pc t C p q N R f.rl f.wS) λq1 u e x1 F1 z1=>by
  have h1:=h.map (q':=q1) (E':=EX X (Ow (Q++P) N ow)) (λL=>L.mono x1) λb hb p o=>f.rl.eget x1 (.inr (.inr (Je _ hb))) o;cases h1 with
  |val k=>exact Sb.map2 (pC F1.rl z1 k) λL τ T=>.mk q1.L ow T.1.s (λb hb p o=>F1.rl.eget T.1 (.inr (.inr hb)) o) (F1.le T.1 T.2)|own k=>exact Sb.map2 (aN F1 z1 k) λg g L=>L
 |.sub p o,Q,P,w,v,N,R,ow,q,f,h=>by
  cases h with
  |val h=>exact Sb.wJ λu e=>KM t C f ((vi e).1▸h) p o|own h=>exact Sb.no
theorem xz:∀(ts:List Mine.Internal.T){Q P:List Nat}{r:List W}{B:List V}{N:fc}{R:Me}{ow:Nat->Nat}{q:Wd},Aj X (Q++P) N R ow q->TS q (EX X (Ow (Q++P) N ow)) Q r B->Sb (oR X P (Ow (Q++P) N ow) q) (B7 K s y ts r N q.σ) (eK (K.w I) G ts B R q.τ)
 |[],f,P,g,h,N,R,ow,q,T,o=>by
  cases o with
  |nil=>exact Sb.ok (.mk q.L ow .refl (λu u u p=>p) T)|cons=>exact Sb.no
 |d::ts,f,P,g,h,N,R,ow,q,T,o=>by
  cases o with
  |nil=>exact Sb.no| @cons Pa Pb w v r B a b=>
   rw[Dc]at T a b|-;refine Sb.wY (HM d T a) λL p' o=>o.rec λx1 x4 S kp F2=>?_;refine Sb.imp (xz ts (q:=⟨x1,L.2,p'.2⟩) F2 (b.map (λe=>S.carry e) λb hb e p=>kp b (Je _ hb) e p)) λu u o=>o.rec λL3 x2 S3 x3 F3=>.mk L3 x2 (S.trans S3) (λb hb e p=>x3 b hb e (kp b (Ld _ hb) e p)) F3
end
end
inductive qbc(q:Wd)(X:Nat->Prop):fW->Fl->Prop
 |next:qbc q X .next .next|ret {w:W} {v:V}:VS q X w v->qbc q X (.ret w) (.ret v)
inductive KA(X O:Nat->Prop)(q:Wd)(a:fW×fc×ub)(b:Fl×Me×St):Prop
 |mk (L:mr->Nat) (ow:Nat->Nat):Ku O (Ow [] a.2.1 ow) q ⟨L,a.2.2,b.2.2⟩->Aj X [] a.2.1 b.2.1 ow ⟨L,a.2.2,b.2.2⟩->qbc ⟨L,a.2.2,b.2.2⟩ X a.1 b.1->KA X O q a b
def Z9(X O:Nat->Prop)(q:Wd)(xs:List W)(a:It):Prop:=∀O' q',Ku O O' q q'->∃ys,Pd q' (EX X O') xs ys/\∀k,zm a k q'.τ=J ys[k]?
section
variable {q q' G:Wd} {E C X O O':Nat->Prop} {w u c:W} {v x:V} {D:Bh} {B F:Nat->Option (List Int)} {n:Bb} {i b:Nat} {P Q:List Nat} {N:fc} {T:Me} {ow:Nat->Nat} {I xs:List W} {K ys:List V}
theorem KA.le{O':Nat->Prop}{a:fW×fc×ub}{b:Fl×Me×St}(S:Ku O O' q q')(p:KA X O' q' a b):KA X O q a b:=p.rec λL ow e d f=>.mk L ow (S.trans e) d f
theorem KA.go{p:fc×ub}{d:Me×St}(h:oR X [] O q p d):KA X O q (TY p) (pJ d):=h.rec λL ow S u a=>.mk L ow S a .next
theorem KA.bind(d:Aj X [] N T ow q){e f:Type}{g:Wd->e->f->Prop}{x:Option (e×ub)}{y:Option (f×St)}{k:e×ub->al}{k2:f×St->Option (Fl×Me×St)}(h:SX (EX X (Ow [] N ow)) q g x y)
 (j:∀q' a b,Le q q'->Aj X [] N T ow q'->g q' a b->Sb (KA X (Ow [] N ow) q') (k (a,q'.σ)) (k2 (b,q'.τ))):Sb (KA X (Ow [] N ow) q) (x.bind k) (y.bind k2):=
 Sb.wY h λa b p=>p.rec λL x r z=>Sb.imp (j ⟨L,a.2,b.2⟩ a.1 b.1 x (d.le x r) z) λu u p=>p.le x.s
theorem KA.stay(a:Aj X [] N T ow q):KA X (Ow [] N ow) q (.next,N,q.σ) (.next,T,q.τ):=.mk q.L ow .refl a .next
theorem KA.at(a:Aj X [] N T ow q')(x:Le q q'):KA X (Ow [] N ow) q (.next,N,q'.σ) (.next,T,q'.τ):=(KA.stay a).le x.s
theorem Mw{k:fc->ub->al}{k2:Me->St->Option (Fl×Me×St)}{x:al}{y:Option (Fl×Me×St)}(h:Sb (KA X O q) x y)(e:∀q' N T ow,Ku O (Ow [] N ow) q q'->Aj X [] N T ow q'->Sb (KA X (Ow [] N ow) q') (k N q'.σ) (k2 T q'.τ)):Sb (KA X O q) (x.bind (Jw k)) (y.bind (fD k2)):=
 Sb.wY h λa b p=>by
  obtain⟨f,N,g⟩:=a;obtain⟨l,T,j⟩:=b;obtain⟨L,ow,S,d,R⟩:=p;cases R with
  |next=>exact Sb.imp (e ⟨L,g,j⟩ N T ow S d) λu u p=>p.le S|ret z=>exact Sb.ok (.mk L ow S d (.ret z))
theorem Z9.st(h:Pd q (EX X O) xs ys):Z9 X O q xs (.st ys):=λu u S=>⟨ys,gk.all (λz=>S.carry z) h,λu=>rfl⟩
theorem yJ(h:VB q (EX X O) w v):Sb (λxs it=>Z9 X O q xs it/\xs.length<4900) (By w) (fj v q.τ):=by
 have L:Sb (Z9 X O q) (zN w) (fj v q.τ):=by
  induction w using W.casesOn<;>try exact Sb.no
  ·rw[h.wF.wF];exact Sb.mapR Bu λu u z=>.st z
  ·obtain⟨ys,rfl,z⟩:=h.wF.wF
   exact Sb.ok (.st z)
  ·skip
   obtain⟨a,ys,rfl,e1,_⟩:=h.wF.wF;show Sb _ _ ((tc q.τ a).map _)
   refine U (ge e1) ?_;exact Sb.ok λO' q' S=>by
    refine aa λnq=>?_;obtain⟨b,us,e2,e3,z⟩:=(S.carry (h.wF:VS q (EX X O) (.l xs) (.ref a))).wF;cases e2;refine nq ?_;exact⟨us,z,λk=>by show(tc q'.τ a).map _=_;refine U (ge e3) ?_;rfl⟩
 exactλxs e=>by
  refine aa λnq=>(Vg e λys e1 e2=>?_);obtain⟨it,e3,z⟩:=L ys e1;obtain⟨rfl,hl⟩:=Qr e2;exact nq (⟨it,e3,z,hl⟩)
abbrev Ut(X:Nat->Prop)(f:fc->ub->al)(g:Me->St->Option (Fl×Me×St)):Prop:=∀q N T ow,Aj X [] N T ow q->Sb (KA X (Ow [] N ow) q) (f N q.σ) (g T q.τ)
theorem Hy{r:Wd}{s:Nat->Prop}{f:W->fc->ub->al}{g:V->Me->St->Option (Fl×Me×St)}{k:It}(t:∀q N T ow w v,Aj X [] N T ow q->VS q (EX X (Ow [] N ow)) w v->Sb (KA X (Ow [] N ow) q) (f w N q.σ) (g v T q.τ)):
 ∀(xs h:List W)(n:Nat)(q:Wd)(N:fc)(T:Me)(ow:Nat->Nat),Ku s (Ow [] N ow) r q->Aj X [] N T ow q->Z9 X s r (h++xs) k->xs.length<n->Sb (KA X (Ow [] N ow) q) (Pv f xs N q.σ) (Gq n k h.length g T q.τ):=by
 intro xs
 induction xs with
 |nil=>
  intro h n q N T ow S a d l
  induction n using Sa with
  |zero=>exact zc l (We _)|succ n=>
   refine aa λm=>?_;obtain⟨ys,z,e⟩:=d _ _ S;refine m ?_;show Sb _ _ ((zm k h.length q.τ).bind _)
   refine U (e _) (U (Rc (by rw[<-z.len,Wb];exact Gb _)) ?_);exact Sb.ok (.stay a)
 |cons w xs y=>
  intro h n q N T ow S a d l
  induction n using Sa with
  |zero=>exact zc l (We _)|succ n=>
   refine aa λm=>?_;obtain⟨ys,z,e⟩:=d _ _ S;obtain⟨v,A,L⟩:=z.get (i:=h.length) (x:=w) (by refine U (La (Gb _)) (U (gh _) ?_);rfl);refine m ?_;show Sb _ _ ((zm k h.length q.τ).bind _)
   refine U (e _) (U A (Mw (t q N T ow w v a L) λR o j p S1 F1=>?_));have:=y (h++[w]) n R o j p (S.trans S1) F1 (by refine U (Dc _ _ _) ?_;exact d) (Eg l);rw[Ha]at this;exact this
theorem HJ{t:fc->ub->G3}{k:Me->St->Option (Bool×St)}{f:fc->ub->al}{g:Me->St->Option (Fl×Me×St)}(m:∀E,Tt E (λu=>Eq) t k)(o:Ut X f g):(n:Nat)->Ut X (Qv t f n) (LB n k g):=by
 intro n
 induction n with
 |zero=>
  exactλu u u u u=>Sb.no
 |succ n p=>
  exactλq N T ow a=>KA.bind a (m _ q N T a.rl a.wS) λr b z A l e=>by
   subst e
   induction b with
   |false=>exact Sb.ok (.stay l)|true=>exact Mw (o r N T ow l) λs h d j S y=>p s h d j y
theorem Uy{t:CT}{f:fc->ub->al}{g:Me->St->Option (Fl×Me×St)}(k:Ut X f g)(d:Aj X [] N T ow q)(h:VS q (EX X (Ow [] N ow)) w v):Sb (KA X (Ow [] N ow) q) ((Ox t w N).bind λa=>f a q.σ) ((ql t v T).bind λa=>g a q.τ):=by
 have e:∀(is:List Nat)(xs:List W)(ys:List V)(N:fc)(T:Me),Aj X [] N T ow q->Pd q (EX X (Ow [] N ow)) xs ys->Sb (λm j=>Aj X [] m j ow q/\Ku (Ow [] N ow) (Ow [] m ow) q q) (Em is xs N) (xe is ys T):=by
  intro is
  induction is with
  |nil=>intro xs ys N T d h;induction xs using ma with
   |nil=>induction ys using ma with|nil=>exact Sb.ok ⟨d,.refl⟩|cons=>exact zc h.len.symm (Zb _)
   |cons=>exact Sb.no
  |cons i is l=>intro xs ys N T d h;induction xs using ma with
   |nil=>exact Sb.no|cons a xs=>induction ys using ma with
    |nil=>exact zc h.len (Zb _)|cons b ys=>
     show Sb _ (if i<N.length then _ else Y) (if i<T.length then _ else Y)
     refine Ed d.len ?_;by_cases c:i<N.length
     ·refine U (Dd c) (U (Dd c) ?_)
      have S:=d.setV c h.uncons.1;exact Sb.imp (l xs ys _ _ S.1 (gk.all (λz=>S.2.carry z) h.uncons.2)) λu u z=>⟨z.1,S.2.trans z.2⟩
     ·exact U (fe c) Sb.no
 have one:Sb (λm j=>Aj X [] m j ow q/\Ku (Ow [] N ow) (Ow [] m ow) q q) (Ox t w N) (ql t v T):=by
  induction t with
  |x i=>
   show Sb _ (if i<N.length then _ else Y) (if i<T.length then _ else Y)
   refine Ed d.len ?_;by_cases c:i<N.length
   ·exact U (Dd c) (U (Dd c) (Sb.ok (d.setV c h)))
   ·exact U (fe c) Sb.no
  |t is=>exact Sb.wY (Fo (.val h)) λu u z=>e is _ _ N T d z
 exact Sb.wY one λm j z=>Sb.imp (k q m j ow z.1) λu u p=>p.le z.2
class inductive d4(q:Wd)(E:Nat->Prop):List (List W)->List (List V)->Prop
 |nil:d4 q E [] []|cons {a:List W} {b:List V} {as:List (List W)} {bs:List (List V)}:Pd q E a b->d4 q E as bs->d4 q E (a::as) (b::bs)
theorem PD(h:Pd q E I K):Sb (d4 q E) (fm I) (Wn K):=
 h.ind (P:=λI K=>Sb (d4 q E) (fm I) (Wn K)) (Sb.ok .nil) λu u u u a u t=>Sb.wY (Fo (.val a)) λu u z=>Sb.map2 t λu u t=>.cons z t
theorem qdl{as g j:List W}{f d e:List V}(h:Pd q E as f)(k:Pd q E g d)(l:Pd q E j e):Pd q E ((as.zip (g.zip j)).map λp=>W.t [p.1,p.2.1,p.2.2]) ((f.zip (d.zip e)).map λp=>V.t [p.1,p.2.1,p.2.2]):=
 h.ind (P:=λas f=>∀g j d e,Pd q E g d->Pd q E j e->Pd q E ((as.zip (g.zip j)).map λp=>W.t [p.1,p.2.1,p.2.2]) ((f.zip (d.zip e)).map λp=>V.t [p.1,p.2.1,p.2.2]))
  (λu u u u u u=>.nil)
  (λa as m f x u o g j d e k l=>k.ind (P:=λg d=>Pd q E (((a::as).zip (g.zip j)).map λp=>W.t [p.1,p.2.1,p.2.2]) (((m::f).zip (d.zip e)).map λp=>V.t [p.1,p.2.1,p.2.2])) .nil
   λb g r d y s u=>l.ind (P:=λj e=>Pd q E (((a::as).zip ((b::g).zip j)).map λp=>W.t [p.1,p.2.1,p.2.2]) (((m::f).zip ((r::d).zip e)).map λp=>V.t [p.1,p.2.1,p.2.2])) .nil
    λc j t e z p u=>.cons (.t (.cons x (.cons y (.cons z .nil)))) (o _ _ _ _ s p))
  _ _ _ _ k l
theorem bW{a:List (List W)}{b:List (List V)}(h:d4 q E a b):Sb (Pd q E) (uA a) (ZV b):=by
 cases h with
 |nil=>exact Sb.no|cons d t=>cases t with|nil=>exact Sb.no|cons e t=>cases t with|nil=>exact Sb.no|cons f t=>cases t with|nil=>exact Sb.okm (by exact U d.len (U e.len (U f.len rfl))) λu=>qdl d e f|cons=>exact Sb.no
end
section
variable {l:Lm} {a:Nat} {A:St}
variable {q p t:Wd} {E s X O r:Nat->Prop} {w u c:W} {v x:V} {S:Bh} {B N:Nat->Option (List Int)} {n m:Bb} {i b:Nat} {P Q:List Nat} {K:fc} {R:Me} {ow:Nat->Nat} {y G:List W} {z F:List V}
theorem lT(h:VS q E u x):Sb (Pd q E) (wv u) (EW x q.τ):=by
 induction u using W.casesOn<;>try exact Sb.no
 ·rw[h.wF];exact Bu
 ·obtain⟨a,F,rfl,e,d⟩:=h.wF
  show Sb _ _ (tc q.τ a)
  exact U (ge e) (Sb.ok d)
theorem YG(h:VS q E u x)(d:Pd q E G F)(l:Lm):Sb (Pd q E) (rZ l u G) (qaG l [x] q.τ F):=by
 induction l<;>try exact Sb.no
 ·exact Sb.okm (Gc Td d.len) λe=>d.app (.cons h .nil)
 ·exact Sb.wY (lT h) λe e z2=>Sb.okm (by exact U d.len (U z2.len rfl)) λe=>d.app z2
theorem VN{d:List W}(e:rZ l u G=J d):uZ l=Z:=by induction l<;>first|rfl|exact ja e
theorem uw(e:A[a]?=J (.list F)):du (S.w N) (.ref a) m A=J (.lm a):=by
 show(A[a]?).bind _=_;refine U e ?_;rfl
variable {D:Yp} {L:Nat->List V->St->Option (V×St)}
theorem BE(e:A[a]?=J (.list F))(f:au m=J l)(g:uZ l=Z){d:List V}:RT a m d A=(qaG l d A F).map λh=>(.none,A.set a (.list h)):=by
 unfold RT;refine U f ?_;refine U (ge e) ?_;show OT l a d A F=_
 unfold OT;exact U g rfl
theorem j2(h:TS q E P y z):y.length=z.length:=by
 induction h with
 |nil=>rfl|cons u d e=>exact Gc (λx=>x+1) e
variable (I:∀a G,B a=J G->N a=J G) (C:vn D L)
include I C
theorem cS(o:Mine.Internal.X)(e:Mine.Internal.X):Ut X (gY S B D m o e) (gE (S.w N) L (.expr (.meth o m [e]))):=λq K R ow d=>by
 induction o using Mine.Internal.X.casesOn<;>try exact Sb.no
 ·rename Nat=>j
  refine Sb.wJ λG x3=>(aa λk=>(Vg x3 λw hw ew=>(Vg ew λc ec el=>?_)));cases Go ec;cases yo el;obtain⟨ev,f⟩:=d.own j _ hw;obtain⟨F,e1,_⟩:=f.wF;refine k ?_;show Sb _ _ ((((Zk R j).map λv=>(v,q.τ)).bind λg=>(du (S.w N) g.1 m g.2).bind λc=>(Mi (S.w N) L [e] R g.2).bind λq=>my L c m q.1 q.2).bind _)
  refine U ev ?_;show Sb _ _ (((du (S.w N) (.ref (ow j)) m q.τ).bind _).bind _)
  refine U (uw e1) (U Nr (U xh (U (Va _ _ _) (KA.bind d (Pc I C e q K R d.rl d.wS) λq1 u x x1 F1 z1=>Sb.wJ λu' eu=>Sb.wJ λl hl=>(aa λk=>?_)))));obtain⟨e2,z2⟩:=F1.own j _ hw;obtain⟨us,e3,z3⟩:=z2.wF;refine k (Sb.lookm λzs ez=>(aa λk=>?_));obtain⟨x4,e4,z4⟩:=YG (z1.grd eu) z3 l zs ez;refine k ?_;show Sb _ _ ((RT (ow j) m [x] q1.τ).bind _)
  refine U (BE e3 hl (VN ez)) (U e4 ?_);have h:=F1.upd hw (c':=.l zs) (ob:=.list x4) (.l z4);exact Sb.ok (.mk q1.L ow h.2 h.1 .next)
 ·rename Mine.Internal.X=>o
  show Sb _ _ ((((evX (S.w N) L o R q.τ).bind λg=>(Ni (S.w N) g.1 n g.2).map λv=>(v,g.2)).bind λg=>(du (S.w N) g.1 m g.2).bind λc=>(Mi (S.w N) L [e] R g.2).bind λq=>my L c m q.1 q.2).bind _)
  refine U (Va _ _ _) (U (Va _ _ _) (KA.bind d (Pc I C o q K R d.rl d.wS) λq1 w v x1 F1 z1=>Sb.wJ λi ei=>?_));obtain⟨eg,hu⟩:=Cp F1.rl z1 ei;refine U eg (Sb.wJ λx5 h=>?_);have g:∀{q G},Rl (EX X (Ow [] K ow)) q->(ii q.σ i n).bind ls=J G->ii q.σ i n=J (.o (.l G))/\∃F,q.τ[q.L (.f i n)]?=J (.list F)/\Pd q (EX X (Ow [] K ow)) G F:=λf e=>by
   refine aa λk=>(Vg e λw hw ew=>(Vg ew λc ec el=>?_));cases Go ec;cases yo el;exact k (⟨hw,(vq f hw).wF⟩)
  refine aa λk=>?_;obtain⟨_,x6,e0,_⟩:=g F1.rl h;refine k ?_;show Sb _ _ (((du (S.w N) (.ref (q1.L (.f i n))) m q1.τ).bind _).bind _)
  refine U (uw e0) (U Nr (U xh (U (Va _ _ _) (KA.bind F1 (Pc I C e q1 K R F1.rl F1.wS) λq2 u x x2 j z2=>Sb.wJ λu' eu=>Sb.wJ λl hl=>Sb.wJ λG x3=>Sb.lookm λzs ez=>(aa λk=>?_)))));obtain⟨hw,F,e3,z3⟩:=g j.rl x3;rw[(x2.usd _ hu).2]at e3;obtain⟨x4,e4,z4⟩:=YG (z2.grd eu) z3 l zs ez;refine k ?_;show Sb _ _ ((RT (q1.L (.f i n)) m [x] q2.τ).bind _)
  refine U (BE e3 hl (VN ez)) (U e4 ?_);have T:=zw j.rl hw (VO.l z4);rw[(x2.usd _ hu).2]at T;exact Sb.ok (.at (j.le T.1 T.2) T.1)
theorem xT(o k e:Mine.Internal.X):Ut X (ZY S B D o k e) (gE (S.w N) L (.expr (.meth o "insert" [k,e]))):=λq K R ow g=>by
 induction o using Mine.Internal.X.casesOn<;>try exact Sb.no
 rename Nat=>j
 refine Sb.wJ λG x3=>(aa λnq=>(Vg x3 λw hw ew=>(Vg ew λc ec el=>?_)));cases Go ec;cases yo el;obtain⟨ev,h⟩:=g.own j _ hw;obtain⟨F,e1,_⟩:=h.wF;refine nq ?_;show Sb _ _ ((((Zk R j).map λv=>(v,q.τ)).bind λT=>(du (S.w N) T.1 "insert" T.2).bind λc=>(Mi (S.w N) L [k,e] R T.2).bind λq=>my L c "insert" q.1 q.2).bind _)
 refine U ev ?_;show Sb _ _ (((du (S.w N) (.ref (ow j)) "insert" q.τ).bind _).bind _)
 refine U (uw e1) ?_;show Sb _ _ ((((evX (S.w N) L k R q.τ).bind λT=>(Mi (S.w N) L [e] R T.2).map λq=>(T.1::q.1,q.2)).bind λq=>RT (ow j) "insert" q.1 q.2).bind _)
 refine U (Va _ _ _) (U (Va _ _ _) (KA.bind g (Pc I C k q K R g.rl g.wS) λq0 T y' x0 F0 z0=>Sb.wJ λk' ek=>(U (z0.wZ ek) (U Nr (U (pf _ _ _) (U xh ?_))))));refine KA.bind F0 (Pc I C e q0 K R F0.rl F0.wS) λq1 u x x1 F1 z1=>Sb.wJ λu' eu=>(aa λnq=>?_);obtain⟨e2,z2⟩:=F1.own j _ hw;obtain⟨us,e3,z3⟩:=z2.wF;refine nq (Sb.lookm λzs ez=>?_);show Sb _ _ ((RT (ow j) "insert" [.int k',x] q1.τ).bind _)
 refine U (BE e3 (by rfl:au "insert"=J .insert) rfl) ?_;refine Hs ez λf e5 x2=>?_;subst x2;have e6:qaG .insert [V.int k',x] q1.τ us=J (us.take k'.toNat++x::us.drop k'.toNat):=by
  show(Ge _).map _=_
  refine Ed z3.len (U e5 ?_);rfl
 refine U e6 ?_;have d:=F1.upd hw (c':=.l _) (ob:=.list _) (.l ((z3.take k'.toNat).app (.cons (z1.grd eu) (z3.drop k'.toNat))));exact Sb.ok (.mk q1.L ow d.2 d.1 .next)
theorem iS(o:Mine.Internal.X)(n:Bb)(i:Mine.Internal.X)(op:He)(e:Mine.Internal.X):Ut X (λK σ=>(fX S B D o K σ).bind λf=>(Bm S n f.2 f.1).bind λj=>jY S B D n i e op K f.2 j) (gE (S.w N) L (.aug (.attr o n) i op e)):=λq K R ow g=>by
 show Sb _ _ (((evX (S.w N) L o R q.τ).bind λf=>(Ni (S.w N) f.1 n f.2).map λv=>(v,f.2)).bind _)
 refine U (Va _ _ _) (KA.bind g (Pc I C o q K R g.rl g.wS) λq1 w v x1 F1 z1=>Sb.wJ λj ej=>?_);obtain⟨eg,hu⟩:=Cp F1.rl z1 ej;refine U eg ?_;show Sb _ _ ((evX (S.w N) L i R q1.τ).bind λq=>(eD (.ref (q1.L (.f j n))) q.1 q.2).bind λk=>(evX (S.w N) L e R q.2).bind λu=>(oh k).bind λx=>(oh u.1).bind λf=>(BL op x f).bind λh=>(Ci (.ref (q1.L (.f j n))) q.1 (.int h) u.2).map λσ=>(Mine.Internal.Fl.next,R,σ))
 refine KA.bind F1 (Pc I C i q1 K R F1.rl F1.wS) λq2 iv x6 x2 F2 z2=>?_;have h:=x2.usd _ hu;refine Ed h.2 (Sb.wY (jI F2.rl (.fld h.1) z2) λk x5 zo=>KA.bind F2 (Pc I C e q2 K R F2.rl F2.wS) λq3 u f x3 F3 z3=>Sb.wT (vk (.val (zo.mono x3))) λa=>Sb.wT (vk z3) λb=>Sb.wT Sb.rf λd=>?_);have x4:=x3.usd _ h.1;exact Ed x4.2 (Sb.map2 (iw F3.rl x4.1 (z2.mono F2.rl x3) (.int d)) λσ A T=>.at (F3.le T.1 T.2) T.1)
theorem eS(d:Mine.Internal.T)(e:Mine.Internal.X):Ut X (hY S B D d e) (gE (S.w N) L (.assign d e)):=λq K R ow f=>by
 have one:{F':fc->ub->jo}->Sb (DI X [] K R ow q TV) (F' K q.σ) (evX (S.w N) L e R q.τ)->Sb (KA X (Ow [] K ow) q) ((F' K q.σ).bind λg=>(fP S B D d g.1 K g.2).map TY) ((evX (S.w N) L e R q.τ).bind λg=>(JK (S.w N) L d g.1 R g.2).map pJ):=λh=>
  Sb.wY h λa b g=>g.rec λj Q x hq F1 k=>Sb.map2 (HM I C d (Q:=Q) (P:=[]) (q:=⟨j,a.2,b.2⟩) (by refine U (Wb _) ?_;exact F1) (by refine U (Wb _) ?_;exact k)) λg p' h=>(KA.go h).le (by refine U (Wb _) ?_;exact x.fresh hq)
 induction d using T.casesOn<;>try exact one (LM I C f e)
 show Sb _ (match BF e with|some o=>_|none=>_) _
 induction he:BF e with
 |none=>exact one (F':=IM S B D e) (sm I C f e)|some o=>
  have:e=.t o:=by induction e using Mine.Internal.X.casesOn<;>first|exact ja he|exact Gc Mine.Internal.X.t (ba he)
  subst this;show Sb _ _ (((Mi (S.w N) L o R q.τ).bind λg=>Bp g.1 g.2).bind _)
  rw[Va];refine Sb.wY (oT I C o f) λa b g=>g.rec λj Q x hq F1 k=>(U xh ?_);refine Sb.okb (Gc Td (j2 k)) λu=>Sb.map2 (xz I C ts (Q:=Q) (P:=[]) (q:=⟨j,a.2,b.2⟩) (by refine U (Wb _) ?_;exact F1) (by refine U (Wb _) ?_;exact k)) λg p' h=>(KA.go h).le (by refine U (Wb _) ?_;exact x.fresh hq)
theorem BU(e:Mine.Internal.X):Ut X (λK f=>(qbC S B D e K f).map λd=>(.ret d.1,K,d.2)) (gE (S.w N) L (.ret e)):=λq K R ow f=>by
 have g:Sb (KA X (Ow [] K ow) q) ((IM S B D e K q.σ).map λd=>(.ret d.1,K,d.2)) ((evX (S.w N) L e R q.τ).map λd=>(.ret d.1,R,d.2)):=Sb.map2 (Cz (Pc I C e) q K R f.rl f.wS) λa b d=>d.rec λg x j o=>.mk g ow x.s (f.le x j) (.ret (o.sub λT o=>.inl o))
 induction e using Mine.Internal.X.casesOn<;>try exact g
 show Sb _ ((((Ke K i).bind O0).map _).map _) (((Zk R i).map _).map _)
 refine U (pf _ _ _) (U (pf _ _ _) (Sb.lookm λw ew=>(aa λnq=>(Vg ew λu hu er=>?_))));refine nq ?_;clear nq
 induction hb:yT u with
 |false=>
  refine aa λnq=>?_;obtain⟨v,e1,o⟩:=f.val i u hu hb;refine nq ?_;clear nq;have:w=u:=by induction u using W.casesOn<;>first|exact(ba er).symm|exact ja er|exact Bd hb
  exact U e1 (U this (Sb.ok (.mk q.L ow .refl f (.ret (o.sub λT o=>.inl o)))))
 |true=>
  induction u using W.casesOn<;>try exact Bd hb
  rename W=>c
  refine aa λnq=>?_;obtain rfl:=ba er;obtain⟨e1,o⟩:=f.own i _ hu;refine nq ?_;clear nq;have hO:Ow [] K ow (ow i):=.inl ⟨i,_,hu,rfl⟩;have nx:¬Ex q X (ow i):=λo=>o.elim (λh=>by obtain⟨d,v,k⟩:=h;exact f.rl.sep d v (k▸.inr hO)) (f.sep _ hO);exact U e1 (Sb.ok (.mk q.L ow .refl f (.ret (o.rec (motive:=λu a T=>¬Ex q X a->VS q X u (.ref a)) (λe h n=>.l n e (h.sub λT o=>.inl o)) (λe k h n=>.dic n e k (h.sub λT o=>.inl o)) nx))))
end
section
variable {q q' B:Wd} {E E' X O A:Nat->Prop} {w u c:W} {v x:V} {tab:Bh} {sc scr:Nat->Option (List Int)} {K:fc} {Q:Me} {ow:Nat->Nat} {T:List W} {args':List V}
variable {G:Yp} {I:Nat->List V->St->Option (V×St)}
theorem tM(h:VB q E w v):Sb Eq (uG w) (tG v):=by
 induction w using W.casesOn<;>first|exact Sb.no|(rw[(h.wF).wF];exact Sb.ok rfl)
theorem cT{eb:Nat->S}{s:SF}(h:bT eb s=Y):∃i,s=.frz i:=by induction s using SF.casesOn<;>first|exact⟨_,rfl⟩|exact ja h.symm
section
variable {F:Nat->fc->ub->al} {eb:Nat->S} (N:∀a xs,sc a=J xs->scr a=J xs) (C:vn G I) (D:∀i,Ut X (F i) (gE (tab.w scr) I (eb i)))
include N C D
mutual
theorem JM:∀(s:SF){p:S},bT eb s=J p->Ut X (fS tab sc G F s) (gE (tab.w scr) I p)
 |.q t e,y,h=>by obtain rfl:=ba h;exact eS N C t e|.aug o n i b e,y,h=>by obtain rfl:=ba h;exact iS N C o n i b e|.expr e,y,h=>by obtain rfl:=ba h;exactλq K Q ow d=>KA.bind d (Pc N C e q K Q d.rl d.wS) λj u u l g z=>Sb.map2 (tM z) λu u u=>KA.stay g|.app o m e,y,h=>by obtain rfl:=ba h;exact cS N C o e|.ins o k e,y,h=>by obtain rfl:=ba h;exact xT N C o k e|.ifs t a b,y,h=>by obtain rfl:=ba h;exactλq K Q ow d=>KA.bind d (tm N C t q K Q d.rl d.wS) λj u u l g z=>Sb.ifB z (uk a j K Q ow g) (uk b j K Q ow g)|.whil t b,y,h=>by obtain rfl:=ba h;exact HJ (λu=>tm N C t) (uk b) 5000|.fors t e b,y,h=>by
  refine aa λk=>?_;obtain rfl:=ba h;refine k ?_;exactλq K Q ow d=>KA.bind d (Pc N C e q K Q d.rl d.wS) λj u u l g z=>Sb.wY (yJ z) λxs m f=>
   Hy (λq K Q ow w v d h=>Uy (uk b) d h) xs [] 5000 j K Q ow .refl g f.1 (Qt f.2 (by decide))
 |.forz t f b,y,h=>by
  refine aa λk=>?_;obtain rfl:=ba h;refine k ?_;exactλq K Q ow d=>KA.bind d (tj N C f q K Q d.rl d.wS) λj u u l g z=>by
   refine U (Va _ _ _) (Sb.wY (Sb.wY (PD z) λu u z=>bW z) λxs r z=>Sb.wJ λm e=>(aa λk=>?_));obtain⟨rfl,o⟩:=Qr e;exact k (Hy (λq K Q ow w v d h=>Uy (uk b) d h) m [] 5000 j K Q ow .refl g (.st z) (Qt o (by decide)))
 |.ret e,y,h=>by obtain rfl:=ba h;exact BU N C e|.frz y,j,h=>ja h|.blk i,y,h=>by obtain rfl:=ba h;exact D i
theorem uk(d:List SF):Ut X (kJ tab sc G F d) (vv (tab.w scr) I (tv eb d)):=match d with
 |[]=>λq K Q ow b=>Sb.ok (KA.stay b)|s::d=>λq K Q ow b=>by
  show Sb _ _ (vv (tab.w scr) I (match bT eb s with|some j=>j::tv eb d|none=>tv eb d) Q q.τ)
  induction h:bT eb s with
  |some j=>exact Mw (JM s h q K Q ow b) λk f e g S l=>uk d k f e g l|none=>
   obtain⟨i,rfl⟩:=cT h;show Sb _ ((((Ke K i).bind tK).map _).bind _) _
   refine U xh (Sb.wJ λc e=>(aa λf=>(Vg e λw g j=>?_)));cases Go j;refine f ?_;have S:=b.frz g;exact Sb.imp (uk d q _ Q ow S.1) λu u p=>p.le S.2
end
end
theorem TT{eb:Nat->S}{s:SF}(h:Mv s=Z):∃b,bT eb s=J b:=by induction s using SF.casesOn<;>first|exact⟨_,rfl⟩|exact zc h ia
theorem zC{f:Nat->Option SF}(N:∀a xs,sc a=J xs->scr a=J xs)(C:vn G I)(d i:_):Ut X (Ee tab f sc G d i) (gE (tab.w scr) I (A4 f d i)):=match d,i with
 |0,i=>λu u u u u=>Sb.no|d+1,i=>λq K Q ow b=>by
  show Sb _ ((f i).bind _) (gE _ _ (((f i).bind (bT (A4 f d))).getD _) _ _)
  induction f i with
  |none=>exact Sb.no|some s=>
   show Sb _ ((Ge (Mv s)).bind _) _
   refine Sb.wJ λu e=>?_;obtain⟨h,g⟩:=TT (eb:=A4 f d) (Mq e);show Sb _ _ (gE _ _ ((bT (A4 f d) s).getD _) _ _)
   exact U g (JM N C (zC N C d) s g q K Q ow b)
theorem Lx{i:Nat}{k:Nat}(h:Ke (T.map J++Ia k Y) i=J w):T[i]?=J w:=by
 refine aa λd=>(Vg h λo b e=>?_);subst e;refine d ?_;rcases ck i T.length with c|c
 ·rw[Xa (by refine U (ya _) ?_;exact c),Ec]at b
  refine Hs b λa f g=>?_;cases g;exact f
 ·rw[La (by refine U (ya _) ?_;exact c)]at b
  exact nomatch AA (Ma b)
theorem Aj.start(r:Rl E q)(h:Pd q E T args')(k:Nat):Aj E [] (T.map J++Ia k Y) (args'.map J++Ia k Y) (λu=>0) q/\∀a,¬Ow [] (T.map J++Ia k Y) (λu=>0) a:=by
 have nob:∀i c,Ke (T.map J++Ia k Y) i≠J (.o c):=λi c e=>by
  obtain⟨v,_,z⟩:=h.get (Lx e);exact z.wF
 have no:∀a,¬Ow [] (T.map J++Ia k Y) (λu=>0) a:=λa z=>z.elim ((by rintro⟨i,c,e,_⟩;exact nob i c e)) λz=>(Tb z).elim;have hEx:∀a,EX E (Ow [] (T.map J++Ia k Y) λu=>0) a->E a:=λa z=>z.resolve_right (no a);refine⟨⟨r.sub hEx,by exact U Ha (U Ha (U (ya _) (U (ya _) (U h.len (U Mg (U Mg rfl)))))),λi e=>?_,λi w e u=>?_,λi c e=>(nob i c e).elim,λi j c c' e=>(nob i c e).elim,λa z=>(no a z).elim,.nil,λi c e=>(nob i c e).elim⟩,no⟩
 ·rcases ck i T.length with c|c
  ·rw[Xa (by refine U (ya _) ?_;exact c),Ec,Wa c]at e
   cases e
  ·rw[La (by refine U (ya _) ?_;exact c),ya,Te]at e
   refine U (La (by rw[ya,<-h.len];exact c)) (U (ya _) (U Te (Ed h.len ?_)))
   split at e
   ·rename_i hh;exact U (Dd hh) rfl
   ·exact ja e
 ·obtain⟨v,e1,z⟩:=h.get (Lx e)
  refine⟨v,?_,z.sub hEx⟩;unfold Zk;refine U (Nh (by rw[Ec,e1];rfl:(args'.map J)[i]?=J (J v))) ?_;rfl
theorem bA{e:Nat->Option SF}(N:∀a xs,sc a=J xs->scr a=J xs)(C:vn G I){fn:Qg}(r:Rl E q)(h:Pd q E T args'):SX E q (λx=>VS x E) (Vo tab e sc G fn T q.σ) (zP (tab.w scr) I (B4 e fn) args' q.τ):=by
 show SX E q _ ((Ge (Ub T.length fn.params)).bind _) ((Ge (Ub args'.length fn.params)).bind _)
 refine U h.len (Sb.okb rfl λu=>?_);obtain⟨d,j⟩:=Aj.start r h (fn.slots - fn.params);refine Sb.map2 (uk N C (zC N C 4) fn.body q _ _ _ d) λa b p=>?_;obtain⟨f,K,l⟩:=a;obtain⟨m,Q,n⟩:=b;obtain⟨L,ow,S,k,R⟩:=p;have x:=S.le j;have g:=k.rl.sub λa z=>.inl z;cases R with
 |next=>exact .mk L x g VS.none|ret z=>exact .mk L x g z
theorem Ct(p:mr)(u:Tg [] p):False:=by
 induction p with
 |a i=>exact We _ u|d i=>obtain⟨_,_,e,_⟩:=u;exact ja e|f i n=>obtain⟨_,e⟩:=u;exact ja e
theorem Qq(j:q'.τ=q.τ)(l:∀a,Ex q' E' a->Ex q E a){w:W}{v:V}(m:Hd w=Z)(o:VS q E w v):VS q' E' w v:=
 W.rec (motive_1:=λw=>∀v:V,Hd w=Z->VS q E w v->VS q' E' w v) (motive_2:=λf=>∀d:List V,Ob f=Z->Pd q E f d->Pd q' E' f d)
  (λv u h=>by rw[(h.wF:_=V.none)];exact .none) (λb v u h=>by rw[(h.wF:_=V.bool b)];exact .bool b) (λb v u h=>by rw[(h.wF:_=V.int b)];exact .int b)
  (λb v u h=>by rw[(h.wF:_=V.str b)];exact .str b) (λb v u h=>by rw[(h.wF:_=V.k b)];exact .k b) (λa b v u h=>by rw[(h.wF:_=V.rng a b)];exact .rng a b)
  (λb v u h=>by rw[(h.wF:_=V.iset b)];exact .iset b) (λxs b v e h=>by obtain⟨g,rfl,z⟩:=h.wF;exact .t (b _ e z))
  (λxs b v e h=>by cases h with|l n g z=>exact .l (λy=>n (l _ y)) (j▸g) (b _ e z))
  (λp xs b v e h=>by cases h with|dic n g k z=>exact .dic (λy=>n (l _ y)) (j▸g) k (b _ e z))
  (λi v e h=>zc e ia) (λi n v e h=>h.wF.elim) (λw b v e h=>h.wF.elim)
  (λd e h=>by induction d using ma with|nil=>exact .nil|cons=>exact zc h.len.symm (Zb _))
  (λw f b g d e h=>by induction d using ma with|nil=>exact zc h.len (Zb _)|cons=>exact .cons (b _ (Aa.mp e).1 h.uncons.1) (g _ (Aa.mp e).2 h.uncons.2)) w v m o
theorem Os(f:q'.τ=q.τ)(g:∀a,Ex q' E' a->Ex q E a){b:List W}{d:List V}(e:Ob b=Z)(h:Pd q E b d):Pd q' E' b d:=by
 obtain⟨k,j,z2⟩:=(Qq f g (w:=.t b) e (.t h)).wF;cases j;exact z2
theorem bP(b:q'.τ=q.τ)(f:∀a,Ex q' E' a->Ex q E a){w:W}{a:Nat}(e:Hd w=Z)(h:VC q E w a):VC q' E' w a:=by
 cases h with
 |l d z=>exact .l (b▸d) (Os b f e z)|dic d k z=>exact .dic (b▸d) k (Os b f e z)
theorem WE:∀{b:List (Bb×W)}{n:Bb}{w:W},Jf b=Z->de b n=J w->aP w=Z:=by
 intro b
 induction b with
 |nil=>exactλz e=>ja e|cons d r f=>
  intro n w h e;replace e:(if d.1=n then J d.2 else de r n)=J w:=e
  split at e
  ·obtain rfl:=ba e;exact(Aa.mp h).1
  ·exact f (Aa.mp h).2 e
theorem Ny{b:ub}:∀{i:Nat}{o:OF},oe b=Z->b[i]?=J o->Jf o.fs=Z:=by
 induction b with
 |nil=>exactλu e=>ja e|cons x b d=>
  intro i o h e
  induction i using Sa with
  |zero=>obtain rfl:=ba e;exact(Aa.mp h).1|succ i=>exact d (Aa.mp h).2 e
theorem OS.shift{i j:Nat}{o:OF}(f:q'.τ=q.τ)(l:∀a,Ex q' E' a->Ex q E a)(m:q'.L (.a j)=q.L (.a i))(r:o.cls≠Y->q'.L (.d j)=q.L (.d i))(p:∀n c,de o.fs n=J (.o c)->q'.L (.f j n)=q.L (.f i n))(s:Jf o.fs=Z)(h:OS q E i o):OS q' E' j o:=by
 have d:∀{d es},o.fs=d->FS q E i d es->FS q' E' j d es:=λg b=>⟨b.keys,λn w e=>by
  have k:=WE s (g▸e);obtain⟨v,t,z⟩:=b.at_ n w e;refine⟨v,t,?_⟩;cases z with
  |val z=>exact .val (Qq f l (by induction w using W.casesOn<;>first|exact k|exact zc z.nb ia) z)|o z=>exact(p n _ (g▸e))▸.o ((p n _ (g▸e)).symm▸bP f l k z)⟩
 cases h with
 |inst k t b=>exact .inst' m (r (KD _)) (f▸k) (f▸t) (d rfl b)|sd k b=>exact .sd' m (f▸k) (d rfl b)
noncomputable def own(z:mr):Nat:=match z with|.a i=>i|.d i=>i|.f i u=>i
noncomputable def xR(m:Nat)(z:mr):mr:=match z with|.a i=>.a (i+m)|.d i=>.d (i+m)|.f i n=>.f (i+m) n
noncomputable def vR(m:Nat)(z:mr):mr:=match z with|.a i=>.a (i - m)|.d i=>.d (i - m)|.f i n=>.f (i - m) n
theorem L0(m:Nat)(p:mr):¬own (xR m p)<m:=by induction p<;>exact Ud.mpr (Ve m _)
theorem Wy{m:Nat}{p:mr}(h:¬own p<m):xR m (vR m p)=p:=by
 have k:=Ud.mp h
 induction p with
 |a i=>exact Gc mr.a (Cr k)|d i=>exact Gc mr.d (Cr k)|f i n=>exact Gc (λx=>mr.f x n) (Cr k)
theorem zW{m:Nat}(p:mr):vR m (xR m p)=p:=by
 induction p with
 |a i=>exact Gc mr.a (Br i m)|d i=>exact Gc mr.d (Br i m)|f i n=>exact Gc (λx=>mr.f x n) (Br i m)
theorem qf{d b:ub}{p f:mr}(h:(∃i j,p=.a i/\f=.a j/\d[i]?=b[j]?)\/(∃i j,p=.d i/\f=.d j/\d[i]?=b[j]?)\/(∃i j n,p=.f i n/\f=.f j n/\d[i]?=b[j]?)):Tg d p->Tg b f:=by
 rcases h with⟨i,j,rfl,rfl,e⟩|⟨i,j,rfl,rfl,e⟩|⟨i,j,n,rfl,rfl,e⟩
 ·exactλu=>nh (e▸Wa u:b[j]?=J _)
 ·exact(by rintro⟨o,c,g,k⟩;exact⟨o,c,e▸g,k⟩)
 ·exact(by rintro⟨c,g⟩;exact⟨c,by unfold ii at g|-;refine Ed e ?_;exact g⟩)
theorem Im{b:ub}{m:Nat}{p:mr}:Tg (b.drop m) p↔Tg b (xR m p):=by
 have g:∀i:Nat,(b.drop m)[i]?=b[i+m]?:=λi=>by exact U GK (U (pi _ _) rfl)
 induction p with
 |a i=>exact⟨qf (.inl ⟨i,i+m,rfl,rfl,g i⟩),qf (.inl ⟨i+m,i,rfl,rfl,(g i).symm⟩)⟩|d i=>exact⟨qf (.inr (.inl ⟨i,i+m,rfl,rfl,g i⟩)),qf (.inr (.inl ⟨i+m,i,rfl,rfl,(g i).symm⟩))⟩|f i n=>exact⟨qf (.inr (.inr ⟨i,i+m,n,rfl,rfl,g i⟩)),qf (.inr (.inr ⟨i+m,i,n,rfl,rfl,(g i).symm⟩))⟩
theorem Rl.down(r:Rl E q)(m:Nat)(g:oe (q.σ.drop m)=Z):Rl (λa=>E a\/∃p,Tg q.σ p/\own p<m/\q.L p=a) ⟨λp=>q.L (xR m p),q.σ.drop m,q.τ⟩/\∀a,Ex ⟨λp=>q.L (xR m p),q.σ.drop m,q.τ⟩ (λa=>E a\/∃p,Tg q.σ p/\own p<m/\q.L p=a) a->Ex q E a:=by
 have f:∀a,Ex ⟨λp=>q.L (xR m p),q.σ.drop m,q.τ⟩ (λa=>E a\/∃p,Tg q.σ p/\own p<m/\q.L p=a) a->Ex q E a:=λa z=>z.elim ((by rintro⟨p,u,e⟩;exact .inl ⟨_,Im.mp u,e⟩)) λz=>z.elim .inr (by rintro⟨p,u,_,e⟩;exact .inl ⟨p,u,e⟩);refine⟨⟨λp b u d e=>?_,λp u=>r.lt _ (Im.mp u),λp u z=>?_,λa z=>z.elim (r.elt a) (by rintro⟨p,u,_,e⟩;exact e▸r.lt p u),λi o e=>?_⟩,f⟩
 ·have:=r.inj _ _ (Im.mp u) (Im.mp d) e
  exact Ed (zW (m:=m) p) (Ed (zW (m:=m) b) (U this rfl))
 ·exact z.elim (r.sep _ (Im.mp u)) (by rintro⟨b,d,l,e⟩;exact L0 m p (r.inj b _ d (Im.mp u) e▸l))
 ·have h:q.σ[i+m]?=J o:=by exact Ed e (U GK (U (pi _ _) rfl))
  exact(r.obj _ o h).shift (q:=q) (q':=⟨λp=>q.L (xR m p),q.σ.drop m,q.τ⟩) rfl f rfl (λy=>rfl) (λy y y=>rfl) (Ny g e)
theorem gJ{m:Nat}(hx:∀a,Ex q' E' a->Ex q E a)(ht:q'.τ=q.τ)(hl:∀i,m<=i->i<q.σ.length->i - m<q'.σ.length/\q'.L (.a (i - m))=q.L (.a i)):∀{ws us:List W}{vs:List V},jB m ws=J us->Pd q E ws vs->Pd q' E' us vs:=by
 intro ws
 induction ws with
 |nil=>
  intro us vs e h
  induction vs using ma with
  |nil=>obtain rfl:=ba e;exact .nil|cons=>exact zc h.len.symm (Zb _)
 |cons w ws ih=>
  intro us vs e h
  induction vs using ma with
  |nil=>exact zc h.len (Zb _)|cons v vs=>
   refine Vg e λu e1 e2=>?_;refine Hs e2 λus' e3 g=>?_;subst g;refine .cons ?_ (ih e3 h.uncons.2);have pl:(Ge (Hd w)).map (λy=>w)=J u->VS q' E' u v:=λe=>by
    refine Hs e λl e4 g=>?_;subst g;exact Qq ht hx (Mq e4) h.uncons.1
   induction w using W.casesOn<;>first|exact pl e1|skip
   replace e1:(if m<=i then J (W.ref (i - m))else Y)=J u:=e1
   split at e1
   ·rename_i c
    obtain rfl:=ba e1;obtain⟨hi,rfl⟩:=h.uncons.1.wF;exact(hl i c hi).2▸.ref (hl i c hi).1
   ·exact ja e1
theorem oQ{run:List W->ub->jo}{run':List V->St->Option (V×St)}(hr:∀E q T args',Rl E q->Pd q E T args'->SX E q (λx=>VS x E) (run T q.σ) (run' args' q.τ))(r:Rl E q)(h:Pd q E T args'):SX E q (λx=>VS x E) (J9 run T q.σ) (run' args' q.τ):=by
 refine Sb.wJ λm y=>Sb.wJ λy em=>Sb.wJ λws ew=>Sb.wJ λy ep=>Sb.wJ λp er=>?_;have hm:m<=q.σ.length:=Nl (Mq em);refine aa λnq=>?_;obtain⟨r1,hx⟩:=r.down m (Mq ep);have up:∀i,m<=i->i<q.σ.length->i - m<(q.σ.drop m).length/\q.L (xR m (.a (i - m)))=q.L (.a i):=λi c hi=>⟨by refine U Mm ?_;lia,Gc q.L (Wy (p:=.a i) (Ud.mpr c))⟩;obtain⟨b,e1,P⟩:=hr _ ⟨λp=>q.L (xR m p),q.σ.drop m,q.τ⟩ ws args' r1 (gJ hx rfl up ew h) p er;refine nq ?_;clear nq;refine U e1 ?_;obtain⟨w,σ'⟩:=p;obtain⟨L,x,r2,z⟩:=P;refine Sb.lookm λy eq=>?_;obtain⟨pw,ph⟩:=Aa.mp (Mq eq);replace ph:oe (σ'.take (q.σ.length - m))=Z:=ph;have len:∀i,i<q.σ.length - m->i<σ'.length:=λi hi=>(x.usd (.a i) (show i<(q.σ.drop m).length by refine U Mm ?_;exact hi)).1;have tl:(q.σ.take m).length=m:=by refine U nu ?_;lia
 have at_:∀i:Nat,(q.σ.take m++σ'.take (q.σ.length - m))[i]?=if i<m then q.σ[i]? else if i - m<q.σ.length - m then σ'[i - m]? else Y:=λi=>by
  by_cases c:i<m
  ·exact U (Dd c) (U (Xa (by rw[tl];exact c)) (U lr (U (Dd c) rfl)))
  ·exact U (fe c) (U (La (by rw[tl];exact Ud.mp c)) (U tl (U lr rfl)))
 have lo:{p:mr}->own p<m->(Tg (q.σ.take m++σ'.take (q.σ.length - m)) p↔Tg q.σ p):=λ{p} c=>by
  have g:=λi(c:i<m)=>(at_ i).trans (Dd c)
  induction p with
  |a i=>exact⟨qf (.inl ⟨i,i,rfl,rfl,g i c⟩),qf (.inl ⟨i,i,rfl,rfl,(g i c).symm⟩)⟩|d i=>exact⟨qf (.inr (.inl ⟨i,i,rfl,rfl,g i c⟩)),qf (.inr (.inl ⟨i,i,rfl,rfl,(g i c).symm⟩))⟩|f i n=>exact⟨qf (.inr (.inr ⟨i,i,n,rfl,rfl,g i c⟩)),qf (.inr (.inr ⟨i,i,n,rfl,rfl,(g i c).symm⟩))⟩
 have hi:{p:mr}->¬own p<m->Tg (q.σ.take m++σ'.take (q.σ.length - m)) p->Tg σ' (vR m p)/\own p - m<q.σ.length - m:=λ{p} c u=>by
  have g:=λi(c:¬i<m)=>(at_ i).trans (fe c);have k:own p - m<q.σ.length - m:=by
   have hne:(q.σ.take m++σ'.take (q.σ.length - m))[own p]?≠Y:=by
    induction p with
    |a i=>exactλz=>zc u (Ud.mpr (dh.mp z))|d i=>obtain⟨o,_,e,_⟩:=u;exactλz=>ja (z.symm.trans e)|f i n=>obtain⟨_,e⟩:=u;refine Vg e λo e j=>?_;exactλz=>ja (z.symm.trans e)
   rw[g _ c]at hne;exact qey λc2=>hne (fe c2)
  refine⟨?_,k⟩
  induction p with
  |a i=>exact qf (.inl ⟨i,i - m,rfl,rfl,(g i c).trans (Dd k)⟩) u|d i=>exact qf (.inr (.inl ⟨i,i - m,rfl,rfl,(g i c).trans (Dd k)⟩)) u|f i n=>exact qf (.inr (.inr ⟨i,i - m,n,rfl,rfl,(g i c).trans (Dd k)⟩)) u
 have hi2:{p:mr}->¬own p<m->Tg q.σ p->Tg (q.σ.take m++σ'.take (q.σ.length - m)) p/\L (vR m p)=q.L p:=λ{p} c u=>by
  have u1:Tg (q.σ.drop m) (vR m p):=Im.mpr ((Wy c).symm▸u);refine aa λnq=>?_;obtain⟨u2,e2⟩:=x.usd _ u1;refine nq ?_;clear nq;have g:=λi(c:¬i<m)(k:i - m<q.σ.length - m)=>((at_ i).trans (fe c)).trans (Dd k);refine⟨?_,e2.trans (Gc q.L (Wy c))⟩;have k:own p - m<q.σ.length - m:=by
   have:own p<q.σ.length:=by
    refine aa λnq=>?_
    induction p with
    |a i=>refine nq ?_;clear nq;exact u|d i=>refine nq ?_;clear nq;obtain⟨o,_,e,_⟩:=u;exact nh e|f i n=>refine nq ?_;clear nq;obtain⟨_,e⟩:=u;refine Vg e λo e j=>?_;exact nh e
   have:=Ud.mp c
   lia
  induction p with
  |a i=>exact qf (.inl ⟨i - m,i,rfl,rfl,(g i c k).symm⟩) u2|d i=>exact qf (.inr (.inl ⟨i - m,i,rfl,rfl,(g i c k).symm⟩)) u2|f i n=>exact qf (.inr (.inr ⟨i - m,i,n,rfl,rfl,(g i c k).symm⟩)) u2
 let L2:mr->Nat:=λp=>if own p<m then q.L p else L (vR m p)
 have l1:∀{p},own p<m->L2 p=q.L p:=λc=>Dd c;have l2:∀{p},¬own p<m->L2 p=L (vR m p):=λc=>fe c;have hEx:∀{p},own p<m->Tg q.σ p->(E (q.L p)\/∃p',Tg q.σ p'/\own p'<m/\q.L p'=q.L p):=λ{p} c u=>.inr ⟨p,u,c,rfl⟩;have x2:Le q ⟨L2,q.σ.take m++σ'.take (q.σ.length - m),b.2⟩:=⟨x.len,λp u=>by
  by_cases c:own p<m
  ·exact⟨(lo c).mpr u,l1 c⟩
  ·exact⟨(hi2 c u).1,(l2 c).trans (hi2 c u).2⟩,λp u=>by
  by_cases c:own p<m
  ·exact .inl ((lo c).mp u)
  ·refine(x.new _ (hi c u).1).imp (λu1=>(Wy c)▸Im.mp u1) λz=>?_
   refine U (show(Wd.mk L2 (q.σ.take m++σ'.take (q.σ.length - m)) b.2).L p=L (vR m p)from l2 c) ?_;exact z,λa o e n=>x.keep a o e λp u z=>n _ (Im.mp u) z⟩
 have hx2:∀a,Ex ⟨L2,q.σ.take m++σ'.take (q.σ.length - m),b.2⟩ E a->Ex ⟨L,σ',b.2⟩ (λa=>E a\/∃p,Tg q.σ p/\own p<m/\q.L p=a) a:=λa z=>z.elim (λ⟨p,u,e⟩=>by
  by_cases c:own p<m
  ·exact .inr (.inr ⟨p,(lo c).mp u,c,(l1 c).symm.trans e⟩)
  ·exact .inl ⟨_,(hi c u).1,(l2 c).symm.trans e⟩) λz=>.inr (.inl z)
 refine Sb.ok (.mk L2 x2 ⟨λp p' u u' e=>?_,λp u=>?_,λp u z=>?_,λa z=>rb (r.elt a z) x.len,λi o e=>?_⟩ (Qq (q:=⟨L,σ',b.2⟩) (q':=⟨L2,q.σ.take m++σ'.take (q.σ.length - m),b.2⟩) rfl hx2 pw z))
 ·have mix:∀{p p'},own p<m->Tg q.σ p->¬own p'<m->Tg σ' (vR m p')->q.L p=L (vR m p')->False:=λc u c' u' e=>r2.sep _ u' (.inr ⟨_,u,c,e⟩)
  replace e:L2 p=L2 p':=e;by_cases c:own p<m<;>by_cases c':own p'<m
  ·exact r.inj p p' ((lo c).mp u) ((lo c').mp u') ((l1 c).symm.trans (e.trans (l1 c')))
  ·exact(mix c ((lo c).mp u) c' (hi c' u').1 ((l1 c).symm.trans (e.trans (l2 c')))).elim
  ·exact(mix c' ((lo c').mp u') c (hi c u).1 ((l1 c').symm.trans (e.symm.trans (l2 c)))).elim
  ·have:=r2.inj _ _ (hi c u).1 (hi c' u').1 ((l2 c).symm.trans (e.trans (l2 c')))
   exact Ed (Wy c) (U this (U (Wy c') rfl))
 ·by_cases c:own p<m
  ·exact ib (Fd (l1 c)) (rb (r.lt p ((lo c).mp u)) x.len)
  ·exact ib (Fd (l2 c)) (r2.lt _ (hi c u).1)
 ·replace z:E (L2 p):=z
  by_cases c:own p<m
  ·rw[l1 c]at z;exact r.sep p ((lo c).mp u) z
  ·rw[l2 c]at z;exact r2.sep _ (hi c u).1 (.inl z)
 ·replace e:(q.σ.take m++σ'.take (q.σ.length - m))[i]?=J o:=e
  rw[at_]at e;by_cases c:i<m
  ·rw[Dd c]at e
   refine(r.obj i o e).mono x2 e λp hp u o' e'=>r1.eget x (hEx ?_ u) e';rcases hp with rfl|rfl|⟨n,rfl⟩<;>exact c
  ·rw[fe c]at e
   split at e
   ·rename_i k
    have e4:(σ'.take (q.σ.length - m))[i - m]?=J o:=by refine U lr (U (Dd k) ?_);exact e
    exact(r2.obj _ o e).shift (q:=⟨L,σ',b.2⟩) (q':=⟨L2,q.σ.take m++σ'.take (q.σ.length - m),b.2⟩) rfl hx2 (l2 (p:=.a i) c) (λy=>l2 (p:=.d i) c) (λn y y=>l2 (p:=.f i n) c) (Ny ph e4)
   ·exact ja e
theorem YI{g:Nat->Option SF}{pc:Nat->Option Qg}{f:Nat->Option Fn}(hT:∀a fn,pc a=J fn->f a=J (B4 g fn)):∀n(sc:Nat->Option (List Int)),(∀a xs,sc a=J xs->scr a=J xs)->vn (Nb tab g pc n sc) (vl (tab.w scr) f n):=by
 intro n
 induction n with
 |zero=>exactλj j j j j j j j j=>Sb.no|succ n k=>
  exactλsc N E q a T args' r h=>Sb.wJ λfn l=>by
   show SX E q _ _ ((f a).bind _)
   refine U (hT a fn l) ?_;show SX E q _ (zt fn.mode _ _ T q.σ) _
   induction fn.mode with
   |all=>exact bA N (k sc N) r h|sub=>exact oQ (λE q T args' r h=>bA N (k sc N) r h) r h|pure=>
    refine Sb.wJ λj m=>(Sb.wJ λp s=>?_);obtain⟨b,t,P⟩:=bA (sc:=λj=>Y) (λj j e=>ja e) (k _ λj j e=>ja e) (fn:=fn) (⟨λp j u=>(Ct p u).elim,λp u=>(Ct p u).elim,λp u=>(Ct p u).elim,λa z=>z.elim ((by rintro⟨p,u,e⟩;exact e▸r.lt p u)) (r.elt a),λi o e=>ja e⟩:Rl (Ex q E) ⟨q.L,[],q.τ⟩) (Os (q:=q) (q':=⟨q.L,[],q.τ⟩) (E:=E) (E':=Ex q E) rfl (λa z=>z.elim ((by rintro⟨p,u,_⟩;exact(Ct p u).elim)) λz=>z) (Mq m) h) p s;obtain⟨w,R⟩:=p
    induction R using ma with
    |cons=>exact Sb.no|nil=>
     refine U (show(J (B4 g fn)).bind (λfn=>zP (tab.w scr) (vl (tab.w scr) f n) fn args' q.τ)=J b from t) ?_;obtain⟨L,x,_,z⟩:=P;have d:=r.more (τ':=b.2) x.len λa o e=>x.keep a o e λp u=>(Ct p u).elim;exact Sb.ok (.mk q.L d.2 d.1 (VS.map (q:=⟨L,[],b.2⟩) (q':=⟨q.L,q.σ,b.2⟩) (λi h=>zc h (We _)) (λa o e n=>⟨λy=>n (.inr y),e⟩) z))
end
theorem NY:RM=MY.map λp=>(p.1,B4 Ib p.2):=rfl
theorem EE{d i:Type}{f:d->i}{a:Nat}{b:d}:{l:List (Nat×d)}->l.lookup a=J b->(l.map λp=>(p.1,f p.2)).lookup a=J (f b):=by
 intro l
 induction l with
 |nil=>
  rintro _
  first|contradiction|exact ja (by assumption)
 |cons g l j=>
  obtain⟨k,c⟩:=g;rintro h;rw[Mc]at h;refine U Vb (U Mc ?_)
  induction e:a==k with
  |true=>rw[e]at h;exact Gc J (Gc f (ba h))|false=>rw[e]at h;exact j h
theorem OY(a:Nat)(b:Qg)(h:pc a=J b):rT a=J (B4 Ib b):=by
 show RM.lookup a=_
 exact U NY (EE h)
theorem j5{scr:Nat->Option (List Int)}{n a:Nat}{c:wa}{b:Bool}{f:ub}(h:Nb db Ib pc n scr a [.k c] []=J (.bool b,f)):∃d,vl (wx scr) rT n a [.k c] []=J (.bool b,d):=by
 refine aa λg=>?_;obtain⟨⟨v,d⟩,e,P⟩:=YI (tab:=db) (scr:=scr) OY n scr (λy y e=>e) (λy=>False) ⟨λy=>0,[],[]⟩ a [.k c] [.k c] (⟨λp y u=>(Ct p u).elim,λp u=>(Ct p u).elim,λp u=>(Ct p u).elim,λy h=>h.elim,λy y e=>ja e⟩:Rl (λy=>False) ⟨λy=>0,[],[]⟩) (.cons (.k c) .nil) _ h;obtain⟨L,_,_,z⟩:=P;exact g (⟨d,(z.wF:v=.bool b)▸e⟩)
noncomputable section
noncomputable def H{a b:Type}(o:Option a)(f:a->Option b):Option b:=Pp Y f o
noncomputable def M{a:Type}(b:Bool)(x y:a):a:=Bool.rec y x b
noncomputable def qek(a:List W):Nat->Option W:=gc (motive:=λu=>Nat->Option W) (λu=>Y) (λx u b n=>un (J x) (λn u=>b n) n) a
def R9(a:List W)(w:W):Nat->Option (List W):=gc (motive:=λu=>Nat->Option (List W)) (λu=>Y) (λx t b n=>un (J (w::t)) (λn u=>H (b n) λr=>J (x::r)) n) a
noncomputable def len{a:Type}(b:List a):Nat:=gc 0 (λu u n=>nc n) b
def N0(a:List W)(k:Int):Option Nat:=Pt (λn=>J n) (λn=>M (ac n (len a)) (J (qfu (len a) (nc n))) Y) k
def Jg(a:List W)(k:Int):Option W:=H (N0 a k) (qek a)
def ju(a:List W)(k:Int)(w:W):Option (List W):=H (N0 a k) (R9 a w)
noncomputable def Ph(a b:Int):Bool:=Pt (λa=>Pt (λb=>ac a b) (λu=>ua) b) (λa=>Pt (λu=>Z) (λb=>ac b a) b) a
noncomputable def Rp(a b:Int):Bool:=Pt (λa=>Pt (λb=>Ub a b) (λu=>ua) b) (λa=>Pt (λu=>ua) (λb=>Ub a b) b) a
def Vk(x:Int)(a:List Int):Bool:=gc ua (λk u b=>M (Rp k x) Z b) a
def JB(b:List Int)(x:Int):List W->Option W:=gc (motive:=λu=>List W->Option W) (λu=>Y) (λk u c a=>gc Y (λv a u=>M (Rp k x) (J v) (c a)) a) b
def Ql(a:List Int)(x:Int):List Int:=gc [x] (λk t b=>M (Rp k x) (k::t) (k::b)) a
def Sl(b:List Int)(x:Int)(w:W):List W->List W:=gc (motive:=λu=>List W->List W) (λu=>[w]) (λk u c a=>gc [w] (λv a u=>M (Rp k x) (w::a) (v::c a)) a) b
noncomputable def vw(n:Nat):Int->List W:=un (motive:=λu=>Int->List W) (λu=>[]) (λu b a=>.int a::b (a+1)) n
def ED(a b:Int):Bool:=M (Ph (-1000) a) (M (Ph a 1000) (M (Ph (-1000) b) (Ph b 1000) ua) ua) ua
def Jd{a:Type}(n:Nat)(b:List a):Bool:=ac (len b) n
def Nf{R:Type}(w:W)(k:List W->Option R):Option R:=W.casesOn w Y (λu=>Y) (λu=>Y) (λu=>Y) (λu=>Y) (λa b=>M (ED a b) (k (vw (b - a).toNat a)) Y) (λu=>Y) (λa=>M (Jd 4900 a) (k a) Y) (λa=>M (Jd 4900 a) (k a) Y) (λu u=>Y) (λu=>Y) (λu u=>Y) λu=>Y
def Kv(a:List W):Option (List Int):=gc (J []) (λx u b=>H (Ua x) λi=>H b λr=>J (i::r)) a
def rk(a b:W):Option Bool:=match a,b with|.int x,.int y=>J (Rp x y)|a,b=>w4 a b
def DA(a c:W):Option Bool:=match c with
 |.dic b u=>H (Ua a) λx=>J (Vk x b)|.l b=>(match a with
  |.int x=>(match Kv b with|some is=>J (Vk x is)|none=>OW a c)
  |a=>OW a c)
 |_=>Y
noncomputable def Wj(a:List W):Option (W×List W):=ma a Y λx t=>J (x,t)
noncomputable def Ay(a:List W):Bool:=ma a Z λu u=>ua
inductive Fk where
 |go (me:fc) (σ:ub)|ret (w:W) (σ:ub)
noncomputable def m8(p:fW×fc×ub):Fk:=match p.1 with|.next=>.go p.2.1 p.2.2|.ret w=>.ret w p.2.2
structure Or where
 ro:{R:Type}->Nat->List W->ub->(W->Option R)->Option R
 cf:{R:Type}->Nat->List W->ub->(W×ub->Option R)->Option R
 cb:{R:Type}->Nat->fc->ub->(Fk->Option R)->Option R
section
variable {R:Type}
def yF(u v:W)(b:ub)(k:W->Option R):Option R:=H (pj u b) λc=>match c with|.t a=>H (Ua v) λi=>H (Jg a i) k|.l a=>H (Ua v) λi=>H (Jg a i) k|.dic a d=>H (Ua v) λi=>H (JB a i d) k|.ref i=>H (br v) λs=>H (cF b i s) k|_=>Y
def PN(w:W)(b:ub)(k:W->Option R):Option R:=match w with|.t a=>k (.int (jb (len a)))|.iset a=>k (.int (Hg a).length)|w=>H (pj w b) λc=>H (Hl c) λa=>k (.int (jb (len a)))
def sL(a b:W)(e:ub)(k:W->Option R):Option R:=match a with|.int x=>H (Ua b) λy=>k (.int (x+y))|.t c=>H (lg b) λd=>M (Jd 4096 (c++d)) (k (.t (c++d))) Y|a=>H (Pe a e) λc=>H (Pe b e) λd=>M (Jd 4096 (c++d)) (k (.l (c++d))) Y
def mY(c:He)(a b:W)(d:ub)(k:W->Option R):Option R:=match c with|.Add=>sL a b d k|.Sub=>H (Ua a) λx=>H (Ua b) λy=>k (.int (x - y))|.FloorDiv=>H (Ua a) λx=>H (Ua b) λy=>H (US x y) λz=>k (.int z)|.Mod=>H (Ua a) λx=>H (Ua b) λy=>H (Nz x y) λz=>k (.int z)|.Pow=>H (Ua a) λx=>H (Ua b) λy=>H (rU x y) λz=>k (.int z)|_=>Y
def ZL(a b:W)(k:Int->Int->Option R):Option R:=H (Ua a) λx=>H (Ua b) λy=>k x y
def aM(e:yr)(a b:W)(d:ub)(k:Bool->Option R):Option R:=match e with|.Lt=>ZL a b λx y=>k (Ph x y)|.LtE=>ZL a b λx y=>k (!Ph y x)|.Gt=>ZL a b λx y=>k (Ph y x)|.GtE=>ZL a b λx y=>k (!Ph x y)|.Eq=>H (rk a b) k|.NotEq=>H (rk a b) λb=>k (!b)|.Is=>H (qaC a b) k|.IsNot=>H (Oh a b) k|.In=>H (pj b d) λc=>H (DA a c) k|.NotIn=>H (Ua a) λx=>H (pj b d) λc=>H (DA (.int x) c) λb=>k (!b)
def qax(b:Bi)(a:List W)(c:ub):Option W:=(i4 b a c).map oj
def qaw(b:Bi)(d:List W)(e:ub)(k:W->Option R):Option R:=match b with
 |.len=>H (one d) λw=>PN w e k|.range=>(match d with|[b]=>H (Ua b) λy=>M (ED 0 y) (k (.rng 0 y)) Y|[a,b]=>H (Ua a) λx=>H (Ua b) λy=>M (ED x y) (k (.rng x y)) Y|_=>Y)
 |.max=>H (two d) λp=>H (Ua p.1) λx=>H (Ua p.2) λy=>k (.int (max x y))|.min=>H (two d) λp=>H (Ua p.1) λx=>H (Ua p.2) λy=>k (.int (min x y))|.sorted=>H (one d) λw=>H (pj w e) λc=>H (XC c) λa=>M (Jd 4096 a) (k (.l a)) Y|.tuple=>H (one d) λw=>H (fu w e) λa=>M (Jd 4096 a) (k (.t a)) Y|.list=>H (one d) λw=>H (lg w) λa=>M (Jd 4096 a) (k (.l a)) Y|b=>H (qax b d e) k
def J4(o:W)(n:Bb)(a:List W)(b:ub):Option W:=(qaF o n a b).map oj
noncomputable def RP(z:List Nat)(y:List W)(u:fc)(j:(fc->Option R)):Option R:=match z,y,u,j with|[],b,a,k=>M (Ay b) (k a) Y|i::is,b,a,k=>H (Wj b) λp=>M (xq a i) (RP is p.2 (a.set i (J p.1)) k) Y
def jm(t:CT)(v:W)(a:fc)(k:fc->Option R):Option R:=match t with|.x i=>M (xq a i) (k (a.set i (J v))) Y|.t is=>H (lg v) λb=>RP is b a k
noncomputable def ze(g:W->(List W->Option R)->Option R)(c:List W):(List W->Option R)->Option R:=gc (motive:=λu=>(List W->Option R)->Option R) (λk=>k []) (λx u d k=>g x λa=>d λb=>k (a++b)) c
variable (O:Or)
def vW(g:W)(c:List W)(d:ub)(k:W->Option R):Option R:=match g with
 |.k (.ref a)=>M (EA c) (match db.init a with|some u=>Y|none=>O.ro a c d k) Y
 |.k v=>H (QD v) λb=>qaw b c d k|_=>Y
def qdN(c:GD)(n:Bb)(a:List W)(b:ub)(k:W->Option R):Option R:=match c with|.fn f i=>O.ro f (.ref i::a) b k|.lm o=>H (J4 o n a b) k
mutual
noncomputable def kX(m:X)(p:fc)(e:ub)(h:(W->Option R)):Option R:=match m,p,e,h with
 |.x i,A,y,k=>H (Ke A i) k|.k v,y,z,k=>k (.k v)|.none,y,z,k=>k .none|.bool b,y,z,k=>k (.bool b)|.int i,y,z,k=>k (.int i)|.str s,y,z,k=>k (.str s)|.attr o n,A,l,k=>kX o A l λw=>H (Bk w) λi=>H (Mx db n l i) k|.sub o i,A,l,k=>kX o A l λu=>kX i A l λv=>yF u v l k|.cut y z,j,q,d=>Y|.bin c a b,A,l,k=>kX a A l λu=>kX b A l λv=>mY c u v l k|.neg a,A,l,k=>kX a A l λw=>H (Ua w) λi=>k (.int (-i))|.cmp c a b,A,l,k=>kX a A l λu=>kX b A l λv=>aM c u v l λr=>k (.bool r)|.cmp2 f g a b c,A,l,k=>kX a A l λu=>kX b A l λv=>aM f u v l λr=>M r (kX c A l λx=>aM g v x l λr=>k (.bool r)) (k (.bool ua))|.ite t a b,A,l,k=>kT t A l λr=>M r (kX a A l k) (kX b A l k)|.t a,A,l,k=>HN a A l λb=>M (Jd 4096 b) (k (.t b)) Y|.list a,A,l,k=>HN a A l λb=>M (Jd 4096 b) (k (.l b)) Y|.dict y z,j,q,d=>Y|.comp n f s t rest u,A,l,k=>kX f A l λw=>Nf w λa=>
  ze (λv i=>jm s v (A++Ia n Y) λg=>DT t g l λr=>M r (FN rest (λA i=>kX u A l λw=>M (nb w) (i w) Y) g l i) (i [])) a λg=>M (Jd 4096 g) (k (.l g)) Y
 |.call f a,A,l,k=>kX f A l λg=>qcv a A l λb=>vW O g b l k|.meth o n a,A,l,k=>kX o A l λw=>H (yU db n w l) λc=>HN a A l λb=>qdN O c n b l k|.sup y z j,q,d,l=>Y
noncomputable def HN(z:List X)(j:fc)(q:ub)(d:(List W->Option R)):Option R:=match z,j,q,d with|[],u,y,k=>k []|x::c,a,b,k=>kX x a b λw=>M (nb w) (HN c a b λe=>k (w::e)) Y
noncomputable def qcv(z:List X)(j:fc)(q:ub)(d:(List W->Option R)):Option R:=match z,j,q,d with|[],u,y,k=>k []|x::c,a,b,k=>kX x a b λw=>qcv c a b λe=>k (w::e)
noncomputable def kT(z:B)(y:fc)(u:ub)(j:(Bool->Option R)):Option R:=match z,y,u,j with|.and a b,c,d,k=>kT a c d λr=>M r (kT b c d k) (k ua)|.or a b,c,d,k=>kT a c d λr=>M r (k Z) (kT b c d k)|.not a,c,d,k=>kT a c d λr=>k (!r)|.wK x,c,d,k=>kX x c d λw=>H (Li w) k
noncomputable def DT(z:List B)(j:fc)(q:ub)(d:(Bool->Option R)):Option R:=match z,j,q,d with|[],u,y,k=>k Z|t::c,a,b,k=>kT t a b λr=>M r (DT c a b k) (k ua)
noncomputable def FN(z:List G)(y:(fc->(W->Option R)->Option R))(j:fc)(q:ub)(d:(List W->Option R)):Option R:=match z,y,j,q,d with
 |[],a,e,u,k=>a e λw=>k [w]|.mk b f g::l,a,e,h,k=>kX b e h λw=>Nf w λm=>
  ze (λv i=>jm f v e λc=>DT g c h λr=>M r (FN l a c h i) (i [])) m k
end
end
end
noncomputable section
def YU{R:Type}(f:(Fk->Option R)->Option R)(g:fc->ub->(Fk->Option R)->Option R)(k:Fk->Option R):Option R:=f λr=>Fk.rec (λb a=>g b a k) (λw a=>k (.ret w a)) r
def rB{R:Type}(g:W->fc->ub->(Fk->Option R)->Option R)(c:List W):fc->ub->(Fk->Option R)->Option R:=gc (motive:=λu=>fc->ub->(Fk->Option R)->Option R) (λa b k=>k (.go a b)) (λx u d a b k=>YU (g x a b) d k) c
def T2{R:Type}(t:fc->ub->(Bool×ub->Option R)->Option R)(g:fc->ub->(Fk->Option R)->Option R)(n:Nat):fc->ub->(Fk->Option R)->Option R:=un (motive:=λu=>fc->ub->(Fk->Option R)->Option R) (λu u u=>Y) (λu b a c k=>t a c λq=>M q.1 (YU (g a q.2) b k) (k (.go a q.2))) n
section
variable {R:Type} (O:Or)
def ML(g:W)(d:List W)(c:ub)(k:W×ub->Option R):Option R:=match g with
 |.k (.ref a)=>M (EA d) (match db.init a with|some g=>O.cf g (.ref c.length::d) (c++[⟨J a,[]⟩]) λp=>H (aH c.length p) k|none=>O.cf a d c k) Y
 |.k v=>H (QD v) λb=>qaw b d c λw=>k (w,c)|_=>Y
def qeS(c:GD)(n:Bb)(b:List W)(a:ub)(k:W×ub->Option R):Option R:=match c with|.fn f i=>O.cf f (.ref i::b) a k|.lm o=>H (J4 o n b a) λw=>k (w,a)
noncomputable def cU(q:X):Bool:=match q with|.meth u n y=>decide (n=("new_var":Bb))|.bin u (.int y) (.call z j)=>Z|_=>ua
def ot(g:W->ub->(List W×ub->Option R)->Option R)(b:List W):ub->(List W×ub->Option R)->Option R:=gc (motive:=λu=>ub->(List W×ub->Option R)->Option R) (λa k=>k ([],a)) (λx u c a k=>g x a λp=>c p.2 λq=>k (p.1++q.1,q.2)) b
mutual
noncomputable def hK(z:X)(y:fc)(u:ub)(d:(W×ub->Option R)):Option R:=match z,y,u,d with|.bin c a b,l,h,k=>hK a l h λp=>hK b l p.2 λq=>mY c p.1 q.1 q.2 λw=>k (w,q.2)|.t m,l,h,k=>qcp m l h λq=>M (Jd 4096 q.1) (k (.t q.1,q.2)) Y|.sub o i,l,h,k=>hK o l h λp=>hK i l p.2 λq=>yF p.1 q.1 q.2 λw=>k (w,q.2)|.cmp c a b,l,h,k=>hK a l h λp=>hK b l p.2 λq=>aM c p.1 q.1 q.2 λr=>k (.bool r,q.2)|.call f a,l,h,k=>kX O f l h λg=>qco a l h λq=>ML O g q.1 q.2 k|.meth o n a,l,h,k=>kX O o l h λw=>H (yU db n w h) λc=>HN O a l h λb=>qeS O c n b h k|.sup i f a,l,h,k=>H (Ke l i) λw=>H (Bk w) λi=>H (I1 db f h i) λj=>HN O a l h λb=>O.cf f (.ref j::b) h k|.comp n a c e rest b,l,h,k=>M (cU b&&e.isEmpty&&rest.isEmpty) (kX O a l h λw=>Nf w λm=>ot (λv h g=>jm c v (l++Ia n Y) λf=>hK b f h λp=>M (nb p.1) (g ([p.1],p.2)) Y) m h λq=>M (Jd 4096 q.1) (k (.l q.1,q.2)) Y) (kX O (.comp n a c e rest b) l h λw=>k (w,h))|e,l,h,k=>kX O e l h λw=>k (w,h)
noncomputable def qcp(z:List X)(y:fc)(j:ub)(d:(List W×ub->Option R)):Option R:=match z,y,j,d with|[],u,a,k=>k ([],a)|x::c,b,a,k=>hK x b a λp=>M (nb p.1) (qcp c b p.2 λq=>k (p.1::q.1,q.2)) Y
noncomputable def qco(z:List X)(y:fc)(j:ub)(d:(List W×ub->Option R)):Option R:=match z,y,j,d with|[],u,a,k=>k ([],a)|x::c,b,a,k=>hK x b a λp=>qco c b p.2 λq=>k (p.1::q.1,q.2)
end
def M0(e:X)(a:fc)(b:ub)(k:W×ub->Option R):Option R:=hK O e a b λp=>M (nb p.1) (k p) Y
def qbw(e f:List X)(d:fc)(c:ub)(k:W×ub->Option R):Option R:=match e,f with|[],[]=>k (.o (.dic [] []),c)|[a],[b]=>kX O a d c λu=>H (Ua u) λi=>kX O b d c λw=>M (nb w) (k (.o (.dic [i] [w]),c)) Y|y,z=>Y
def IZ(a b:X)(d:fc)(c:ub)(k:W×ub->Option R):Option R:=kX O a d c λw=>M (nb w) (kX O b d c λv=>H (Ua v) λi=>M (!Ph i 0) (M (Ph i 4096) (k (.o (.l (Ia i.toNat w)),c)) Y) Y) Y
def vK(e:X)(f:fc)(d:ub)(k:W×ub->Option R):Option R:=match e with
 |.list b=>HN O b f d λa=>M (Jd 4096 a) (k (.o (.l a),d)) Y|.dict a b=>qbw O a b f d k|.bin g a b=>(match Bt g a with|some c=>IZ O c b f d k|none=>M0 O (.bin g a b) f d k)
 |e=>M0 O e f d k
noncomputable def qaU(z:List X)(y:fc)(j:ub)(d:(List W×ub->Option R)):Option R:=match z,y,j,d with|[],u,a,k=>k ([],a)|x::c,b,a,k=>vK O x b a λp=>qaU c b p.2 λq=>k (p.1::q.1,q.2)
def mP(i:Int)(v c:W)(k:W->Option R):Option R:=match c with|.l a=>H (ju a i v) λb=>k (.l b)|.dic a b=>M (Jd 4096 a) (k (.dic (Ql a i) (Sl a i v b))) Y|_=>Y
def oX(j:Nat)(d v:W)(e:fc)(b:ub)(c:W)(k:fc×ub->Option R):Option R:=match c with|.o c=>H (Ua d) λi=>mP i v c λc=>k (e.set j (J (.o c)),b)|.ref i=>H (br d) λs=>H ((b[i]?).bind lO) λa=>M (Jd 4096 a) (H (TJ a s v) λa=>k (e,b.set i ⟨Y,a⟩)) Y|_=>Y
def nP(n:Bb)(d v:W)(a:ub)(i:Nat)(k:ub->Option R):Option R:=H (ii a i n) λb=>H (tK b) λc=>H (Ua d) λx=>mP x v c λc=>k (Fm a i n (.o c))
def K9(o e:X)(v:W)(b:fc)(a:ub)(k:fc×ub->Option R):Option R:=match o with|.x j=>kX O e b a λd=>H (Ke b j) λc=>oX j d v b a c k|.attr o n=>kX O o b a λw=>H (Bm db n a w) λi=>kX O e b a λd=>nP n d v a i λa=>k (b,a)|_=>Y
mutual
noncomputable def pK(z:T)(y:W)(u:fc)(j:ub)(q:(fc×ub->Option R)):Option R:=match z,y,u,j,q with|.x i,v,b,a,k=>M (ac i b.length) (k (b.set i (J v),a)) Y|.t c,v,b,a,k=>H (lg v) λd=>d9 c d b a k|.attr o n,v,b,a,k=>kX O o b a λw=>H (Bk w) λi=>H (Do db n v a i) λa=>k (b,a)|.sub o e,v,b,a,k=>M (nb v) (K9 O o e v b a k) Y
noncomputable def d9(z:List T)(y:List W)(u:fc)(j:ub)(d:(fc×ub->Option R)):Option R:=match z,y,u,j,d with|[],a,b,c,k=>M (Ay a) (k (b,c)) Y|t::e,a,b,c,k=>H (Wj a) λp=>pK t p.1 b c λq=>d9 e p.2 q.1 q.2 k
end
def sZ(l:Lm)(v:W)(a:List W)(k:List W->Option R):Option R:=match l with|.append=>M (Jd 4096 a) (k (a++[v])) Y|.extend=>H (wv v) λb=>M (ac (len a+len b) 4096) (k (a++b)) Y|_=>Y
noncomputable def W0(z:List Nat)(y:List W)(u:fc)(j:(fc->Option R)):Option R:=match z,y,u,j with|[],b,a,k=>M (Ay b) (k a) Y|i::is,b,a,k=>H (Wj b) λp=>M (ac i a.length) (W0 is p.2 (a.set i (J p.1)) k) Y
def lk(t:CT)(v:W)(a:fc)(k:fc->Option R):Option R:=match t with|.x i=>M (ac i a.length) (k (a.set i (J v))) Y|.t is=>H (lg v) λb=>W0 is b a k
def Q5(m:Bb)(o e:X)(a:fc)(c:ub)(k:Fk->Option R):Option R:=match o with|.x j=>H (Ke a j) λb=>H (ls b) λd=>hK O e a c λp=>M (nb p.1) (H (au m) λl=>sZ l p.1 d λf=>k (.go (a.set j (J (.o (.l f)))) p.2)) Y|.attr o n=>kX O o a c λw=>H (Bm db n c w) λi=>H (ii c i n) λb=>H (ls b) λd=>kX O e a c λv=>M (nb v) (H (au m) λl=>sZ l v d λf=>k (.go a (Fm c i n (.o (.l f))))) Y|_=>Y
def V7(o i e:X)(a:fc)(c:ub)(k:Fk->Option R):Option R:=match o with|.x j=>H (Ke a j) λb=>H (ls b) λd=>kX O i a c λq=>H (Ua q) λi=>kX O e a c λv=>M (nb v) (H (oN i v d) λf=>k (.go (a.set j (J (.o (.l f)))) c)) Y|_=>Y
def S5(t:T)(e:X)(a:fc)(b:ub)(k:Fk->Option R):Option R:=match t with
 |.t c=>(match BF e with|some d=>qaU O d a b λq=>M (Jd 4096 q.1) (d9 O c q.1 a q.2 λp=>k (.go p.1 p.2)) Y|none=>M0 O e a b λq=>pK O (.t c) q.1 a q.2 λp=>k (.go p.1 p.2))
 |t=>vK O e a b λq=>pK O t q.1 a q.2 λp=>k (.go p.1 p.2)
def U5(o:X)(n:Bb)(i:X)(f:He)(e:X)(b:fc)(a:ub)(k:Fk->Option R):Option R:=kX O o b a λw=>H (Bm db n a w) λj=>kX O i b a λd=>yF (.fld j n) d a λc=>kX O e b a λr=>H (Ua c) λx=>H (Ua r) λy=>H (BL f x y) λz=>nP n d (.int z) a j λa=>k (.go b a)
def hN(e:X)(a:fc)(c:ub)(k:Bool×ub->Option R):Option R:=hK O e a c λp=>H (Li p.1) λb=>k (!b,p.2)
def hI(a b:X)(c:fc)(d:ub)(k:Bool×ub->Option R):Option R:=hK O a c d λp=>kX O b c p.2 λv=>H (Oh p.1 v) λr=>k (r,p.2)
def hEx(e:X)(a:fc)(c:ub)(k:Bool×ub->Option R):Option R:=hK O e a c λp=>H (Li p.1) λb=>k (b,p.2)
def hT(t:B)(d:fc)(c:ub)(k:Bool×ub->Option R):Option R:=match t with|.not (.wK e)=>hN O e d c k|.wK (.cmp .IsNot a b)=>hI O a b d c k|.wK (.cmp .Eq (.call f a) b)=>hEx O (.cmp .Eq (.call f a) b) d c k|t=>kT O t d c λb=>k (b,c)
def j9(e:X)(a:fc)(b:ub)(k:Fk->Option R):Option R:=match e with|.x i=>H (Ke a i) λu=>H (O0 u) λw=>k (.ret w b)|e=>M0 O e a b λp=>k (.ret p.1 p.2)
mutual
noncomputable def kS(z:SF)(y:fc)(j:ub)(d:(Fk->Option R)):Option R:=match z,y,j,d with|.q t e,f,g,k=>S5 O t e f g k|.aug o n i a e,f,g,k=>U5 O o n i a e f g k|.expr e,f,g,k=>hK O e f g λp=>H (uG p.1) λu=>k (.go f p.2)|.app o m e,f,g,k=>Q5 O m o e f g k|.ins o i e,f,g,k=>V7 O o i e f g k|.ifs t a b,f,g,k=>hT O t f g λq=>M q.1 (Sg a f q.2 k) (Sg b f q.2 k)|.whil t b,f,g,k=>T2 (hT O t) (λf g k=>Sg b f g k) 5000 f g k|.fors t e b,f,g,k=>kX O e f g λw=>Nf w λc=>rB (λv f g k=>lk t v f λa=>Sg b a g k) c f g k|.forz t h b,f,g,k=>HN O h f g λl=>H (fm l) λm=>H (uA m) λo=>H (Bl o) λc=>rB (λv f g k=>lk t v f λa=>Sg b a g k) c f g k|.ret e,f,g,k=>j9 O e f g k|.frz i,f,g,k=>H (Ke f i) λb=>H (tK b) λc=>k (.go (f.set i (J c)) g)|.blk i,f,g,k=>O.cb i f g k
noncomputable def Sg(z:List SF)(y:fc)(u:ub)(j:(Fk->Option R)):Option R:=match z,y,u,j with|[],a,b,k=>k (.go a b)|s::c,a,b,k=>YU (kS s a b) (λa b k=>Sg c a b k) k
end
end
end
section
variable {b:Bool} {xs:List W} {k a:Int} {w:W}
inductive SK{R X V:Type}(P:V->X->Prop)(x:Option V)(k:X->Option R)(r:R):Prop
 |mk (b:V) (a:X):x=J b->P b a->k a=J r->SK P x k r
def Rq{R X V:Type}(P:V->X->Prop)(f:(X->Option R)->Option R)(x:Option V):Prop:=∀k r,f k=J r->SK P x k r
section
variable {R X V T O:Type} {P:V->X->Prop} {Q:O->T->Prop} {f:(X->Option R)->Option R} {x:Option V} {N L:(T->Option R)->Option R} {S z2:Option O}
theorem Rq.bind{g:X->(T->Option R)->Option R}{y:V->Option O}(h:Rq P f x)(c:∀b a,P b a->Rq Q (g a) (y b)):Rq Q (λk=>f λa=>g a k) (x.bind y):=λk r e=>by
 induction h _ r e with|mk b a d p i=>subst d;exact c b a p k r i
theorem Rq.map{g:X->T}{y:V->O}(h:Rq P f x)(c:∀b a,P b a->Q (y b) (g a)):Rq Q (λk=>f λa=>k (g a)) (x.map y):=λk r e=>by
 induction h _ r e with|mk b a d p i=>subst d;exact .mk _ _ rfl (c b a p) i
theorem Rq.imp{Q:V->X->Prop}(h:Rq P f x)(c:∀b a,P b a->Q b a):Rq Q f x:=λk r e=>by
 induction h _ r e with|mk b a d p g=>exact .mk b a d (c b a p) g
theorem Rq.op{o:Option X}{g:X->(T->Option R)->Option R}(h:∀a,o=J a->Rq Q (g a) S):Rq Q (λk=>H o λa=>g a k) S:=λk r e=>by
 induction o with
 |none=>exact ja e|some a=>exact h a rfl k r e
theorem Rq.wW{o:Option X}{g:X->(T->Option R)->Option R}{y:X->Option O}(h:∀a,Rq Q (g a) (y a)):Rq Q (λk=>H o λa=>g a k) (o.bind y):=λk r e=>by
 induction o with
 |none=>exact ja e|some a=>exact h a k r e
theorem Rq.opm{o:Option X}{g:X->T}{y:X->O}(h:∀a,Q (y a) (g a)):Rq (R:=R) Q (λk=>H o λa=>k (g a)) (o.map y):=λk r e=>by
 induction o with
 |none=>exact ja e|some a=>exact .mk _ _ rfl (h a) e
theorem Rq.ret{d:O}{c:T}(h:Q d c):Rq (R:=R) Q (λk=>k c) (J d):=λu u e=>.mk _ _ rfl h e
theorem Rq.no:Rq (R:=R) Q (λu=>Y) S:=λu u e=>ja e
theorem Rq.ifB(h:Rq Q N S)(c:Rq Q L z2):Rq Q (λk=>M b (N k) (L k)) (ln b S z2):=by induction b<;>assumption
theorem Rq.grd(h:b=Z->Rq Q N S):Rq Q (λk=>M b (N k) Y) S:=by
 induction b with
 |true=>exact h rfl|false=>exact Rq.no
end
theorem vg(h:b=Z):Ge b=J ():=by refine U h ?_;rfl
theorem RD{X V:Type}{o:Option X}{f:X->Option V}:H o f=o.bind f:=by induction o<;>rfl
theorem Qe{X:Type}:∀xs:List X,len xs=xs.length:=by
 intro xs
 induction xs with
 |nil=>
  exact rfl
 |cons d xs c=>
  exact Gc nc (c)
theorem Vz(xs:List W)(n:Nat):qek xs n=xs[n]?:=match xs,n with|[],u=>rfl|u::y,0=>rfl|u::xs,n+1=>Vz xs n
theorem wm{X:Type}{x y:X}:M b x y=if b then x else y:=by induction b<;>rfl
theorem AH:∀{k:Int}{n:Nat},N0 xs k=J n->Ol xs.length k=J n:=by
 intro k n h
 induction k using Int.casesOn with
 |ofNat m=>
  obtain rfl:=ba h;exact Dd (wf m)
 |negSucc m=>
  replace h:M (ac m (len xs)) (J (qfu (len xs) (nc m))) Y=J n:=h;rw[wm,Qe]at h
  split at h
  ·rename_i c
   have c:=ud.mp c;unfold Ol;exact U (fe λz=>nomatch z) (U (Dd (show -(xs.length:Int)<=Int.negSucc m from Int.neg_le_neg (v5.mpr c))) (Gc J ((Gc Int.toNat (Int.subNatNat_of_le c)).trans (ba h))))
  ·exact ja h
theorem jZ(h:Jg xs k=J w):sE xs k=J w:=by
 unfold Jg at h;rw[RD]at h;refine Vg h λn c d=>?_;unfold sE;refine U (AH c) (Ed d (U (Vz _ _) ?_));rfl
theorem D2:∀{xs:List W}{n:Nat}{w:W}{c:List W},R9 xs w n=J c->n<xs.length/\c=xs.set n w:=by
 intro xs
 induction xs with
 |nil=>exactλh=>ja h|cons x xs d=>
  intro n w c h
  induction n using Sa with
  |zero=>exact⟨Mu _,(ba h).symm⟩|succ n=>
   replace h:H (R9 xs w n) (λr=>J (x::r))=J c:=h;rw[RD]at h;refine aa λe=>(Vg h λr g i=>?_);obtain⟨l,rfl⟩:=d g;exact e (⟨LR l,(ba i).symm⟩)
theorem CV{c:List W}(h:ju xs k w=J c):((Ol xs.length k).bind λi=>(X0 xs w i).map W.l)=J (.l c):=by
 unfold ju at h;rw[RD]at h;refine aa λd=>(Vg h λn e g=>?_);obtain⟨l,rfl⟩:=D2 g;refine d (U (AH e) ?_);show((if n<xs.length then J (xs.set n w)else Y).map W.l)=_
 refine U (Dd l) ?_;rfl
theorem Og(a b:Int):Ph a b=decide (a<b):=by
 refine U (propext Fh) (U (propext decide_eq_true_iff) ?_)
 induction a with
 |ofNat a=>induction b with|ofNat b=>exact(iff_of_eq ud).trans oi.symm|negSucc b=>exact⟨λh=>zc h ia,λh=>zc (Int.lt_trans h (DK b)) (Wi.mpr (wf a))⟩
 |negSucc a=>induction b with|ofNat b=>exact⟨λu=>Ar (DK a) (wf b),λu=>rfl⟩|negSucc b=>exact(iff_of_eq ud).trans ⟨λh=>Int.neg_lt_neg (oi.mpr (LR h)),λh=>Eg (oi.mp (Int.lt_of_neg_lt_neg h))⟩
theorem vp(a b:Int):Rp a b=decide (a=b):=by
 refine U (propext Fh) (U (propext decide_eq_true_iff) ?_)
 induction a with
 |ofNat a=>induction b with|ofNat b=>exact(iff_of_eq qbg).trans Int.ofNat_inj.symm|negSucc b=>exact⟨λh=>zc h ia,λh=>nomatch h⟩
 |negSucc a=>induction b with|ofNat b=>exact⟨λh=>zc h ia,λh=>nomatch h⟩|negSucc b=>exact(iff_of_eq qbg).trans Int.negSucc_inj.symm
theorem YT(x:Int):∀c:List Int,Vk x c=decide (x∈c):=by
 intro c
 induction c with
 |nil=>
  exact rfl
 |cons k c d=>
  show M (Rp k x) Z (Vk x c)=_
  refine U wm (U (vp _ _) (U d ?_));by_cases h:k=x
  ·exact U h (U (decide_eq_true rfl) ((decide_eq_true sa).symm))
  ·exact U (decide_eq_false h) (decide_eq_decide.mpr ⟨oa _,λz=>(fb.mp z).resolve_left λe=>h e.symm⟩)
theorem KB(c:List Int)(x:Int)(d:List W):JB c x d=Ey c d x:=match c,x,d with
 |[],u,y=>rfl|u::y,z,[]=>rfl|k::c,x,v::d=>by
  show M (Rp k x) (J v) (JB c x d)=if k=x then J v else Ey c d x
  refine U wm (U (vp _ _) (U (KB c x d) ?_));simp only[decide_eq_true_eq]
theorem oP:∀(c:List Int)(x:Int),Ql c x=RJ c x:=by
 intro c
 induction c with
 |nil=>
  rintro _;exact rfl
 |cons k c d=>
  rintro x;show M (Rp k x) (k::c) (k::Ql c x)=if k=x then k::c else k::RJ c x
  refine U wm (U (vp _ _) (U (d x) ?_));simp only[decide_eq_true_eq]
theorem tC(d:List Int)(x:Int)(w:W)(c:List W):Sl d x w c=PJ d c x w:=match d,x,w,c with
 |[],u,y,z=>rfl|u::y,z,j,[]=>rfl|k::d,x,w,v::c=>by
  show M (Rp k x) (w::c) (v::Sl d x w c)=if k=x then w::c else v::PJ d c x w
  refine U wm (U (vp _ _) (U (tC d x w c) ?_));simp only[decide_eq_true_eq]
theorem aA:∀(n:Nat)(a:Int),vw n a=(Ka n).map λ(i:Nat)=>W.int (a+(i:Int)):=by
 intro n
 induction n with
 |zero=>
  rintro _;exact rfl
 |succ n c=>
  rintro a;show W.int a::vw n (a+1)=_
  exact U (c (a+1)) (U vD (U Vb (U Qd (congr (Gc _ (Gc W.int (o5 a).symm)) (fg λ(i:Nat) u=>Gc W.int (show a+1+(i:Int)=a+((i+1:Nat):Int) by lia))))))
theorem WY{c:Bool}(h:M b c ua=Z):b=Z/\c=Z:=by
 induction b with
 |true=>exact⟨rfl,h⟩|false=>exact zc h ia
theorem Lz{b:Int}(h:Ph a b=Z):a<b:=Nl ((Og a b).symm.trans h)
theorem iA{b:Int}(h:ED a b=Z):Wo a b=Z:=
 have c:=WY h;have d:=WY c.2;have e:=WY d.2
 decide_eq_true ⟨Lz c.1,Lz d.1,Lz e.1,Lz e.2⟩
theorem Rn{X:Type}{n:Nat}{xs:List X}(h:Jd n xs=Z):ac xs.length n=Z:=by unfold Jd at h;rw[Qe]at h;exact h
theorem Fq{R:Type}:Rq (R:=R) Eq (Nf w) (By w):=λk r e=>by
 induction w using W.casesOn<;>first|exact ja e|skip
 ·skip
  replace e:M (ED a b) (k (vw (b - a).toNat a)) Y=J r:=e
  induction h:ED a b with
  |false=>rw[h]at e;exact ja e|true=>
   rw[h]at e;refine .mk _ _ ?_ rfl e;have hs:=Nl (iA h);show(((Ge (Wo a b)).map λu=>uP a b).bind Bl)=_
   refine U (vg (iA h)) ?_;show((Ge (ac (uP a b).length 4900)).map λu=>uP a b)=_
   refine U (show vw (b - a).toNat a=uP a b from aA _ _) (U (vg (ud.mpr (by
    show((Ka (b - a).toNat).map _).length<4900
    rw[ya,Ab];lia))) ?_);rfl
 all_goals
  replace e:M (Jd 4900 xs) (k xs) Y=J r:=e;refine aa λnq=>?_
  induction h:Jd 4900 xs with
  |false=>refine nq ?_;rw[h]at e;exact ja e|true=>
   refine nq ?_;rw[h]at e;refine .mk _ _ ?_ rfl e;show Bl xs=_
   unfold Bl;refine U (vg (Rn h)) ?_;rfl
theorem tN{x:W}{i:Int}(h:Ua x=J i):W.int i=x:=by induction x using W.casesOn<;>first|exact ja h|exact Gc W.int (ba h).symm
theorem cG{X V:Type}{o:Option X}{f:X->Option V}{b:V}(h:H o f=J b):∃a,o=J a/\f a=J b:=by
 induction o with
 |none=>exact ja h|some a=>exact⟨a,rfl,h⟩
theorem Gz:{is:List Int}->Kv xs=J is->xs=is.map W.int:=by
 induction xs with
 |nil=>exactλh=>ba h▸rfl|cons x xs e=>
  intro is h;refine(cG (show H (Ua x) (λi=>H (Kv xs) λr=>J (i::r))=J is from h)).elim λi c=>(cG c.2).elim λr d=>?_;refine Ed (ba d.2) (Ed (tN c.1) (U (e d.1) ?_));rfl
theorem uz{x y:Int}:Yc (.int x) (.int y)=Rp x y:=by
 refine U (vp _ _) ?_
 rfl
end
section
variable {T:Type} {r:Bool} {S:Bi}
variable {R:Type} {u v w a b:W} {X:ub} {V:List W}
abbrev Rx(X:ub)(f:(T->Option R)->Option R)(x:Option (T×ub)):Prop:=Rq (λp w=>p=(w,X)) f x
theorem Z7{c:List W}:Rq (R:=R) Eq (λk=>H (Ua v) λi=>H (Jg c i) k) ((Ua v).bind (sE c)):=Rq.wW λi=>Rq.op λu e u u d=>.mk _ _ (jZ e) rfl d
theorem lA:Rq (R:=R) Eq (yF u v X) (oV u v X):=Rq.wW λc=>by
 induction c using W.casesOn<;>first|exact Rq.no|exact Z7|skip
 ·exact Rq.wW λi=>Rq.op λy e y y e2=>.mk _ _ ((KB _ _ _).symm.trans e) rfl e2
 ·exact Rq.wW λs=>Rq.op λy e y y e2=>.mk _ _ e rfl e2
theorem qH{o:Option T}{f:T->W}:Rx (R:=R) X (λk=>H o λz=>k (f z)) (o.map λz=>(f z,X)):=Rq.opm λu=>rfl
theorem VG(c:List T):jb (len c)=(c.length:Int):=Gc jb (Qe c)
theorem IT:Rq (R:=R) (λi w=>w=W.int i) (PN w X) (oZ w X):=by
 have h:Rq (R:=R) (λi w=>w=W.int i) (λk=>H (pj w X) λc=>H (Hl c) λd=>k (.int (jb (len d)))) ((Pe w X).map λd=>(d.length:Int)):=by
  exact U Tc (Rq.wW λc=>Rq.opm λd=>Gc W.int (VG d))
 induction w using W.casesOn<;>first|exact h|exact Rq.ret (Gc W.int (VG _))|exact Rq.ret rfl
theorem Sn{c:List T}{x:W}{f:List T->W}:Rx (R:=R) X (λk=>M (Jd 4096 c) (k (f c)) Y) ((Ge (Td c.length)).map λu=>(f c,X)):=Rq.grd λh=>by
 unfold Td;refine U (vg (Rn h)) ?_;exact Rq.ret rfl
theorem SR:Rx (R:=R) X (sL a b X) (aY a b X):=by
 have h:Rx (R:=R) X (λk=>H (Pe a X) λd=>H (Pe b X) λc=>M (Jd 4096 (d++c)) (k (.l (d++c))) Y) ((Pe a X).bind λd=>(Pe b X).bind λc=>So (d++c) X):=Rq.wW λd=>Rq.wW λc=>Sn (x:=.none)
 induction a using W.casesOn<;>first|exact h|exact qH|exact Rq.wW λc=>Sn (x:=.none)
theorem bG{c:He}:Rx (R:=R) X (mY c a b X) (nY c a b X):=by
 induction c<;>first|exact Rq.no|exact SR|exact(λf=>Rq.wW λx=>Rq.wW λy=>qH:∀f:Int->Int->Option Int,Rx (R:=R) X (λk=>H (Ua a) λx=>H (Ua b) λy=>H (f x y) λz=>k (.int z)) (T4 f a b X)) _|exact Rq.wW λx=>Rq.wW λy=>Rq.ret rfl
theorem KY(h:rk a b=J r):w4 a b=J r:=by
 induction a using W.casesOn<;>first|exact h|skip
 induction b using W.casesOn<;>first|exact h|exact(Gc J uz).trans h
theorem iy:∀is:List Int,Oe (Zd 5) (is.map W.int)=J (is.map qg):=by
 intro is
 induction is with
 |nil=>
  exact rfl
 |cons i is c=>
  show(Oe (Zd 5) (is.map W.int)).map _=_
  refine U c ?_;rfl
theorem ZR(x:Int):∀is:List Int,((is.map qg).any λd=>Yc d (.int x))=Vk x is:=by
 intro is
 induction is with
 |nil=>
  exact rfl
 |cons i is c=>
  show(Yc (.int i) (.int x)||(is.map qg).any _)=M (Rp i x) Z (Vk x is)
  refine U uz (U c ?_)
  induction Rp i x<;>rfl
theorem jN{c:W}(h:DA a c=J r):OW a c=J r:=by
 induction c using W.casesOn<;>first|exact h|skip
 ·skip
  induction a using W.casesOn<;>first|exact h|skip
  rename Int=>x
  induction e:Kv xs with
  |none=>exact(by rw[show DA (.int x) (.l xs)=match Kv xs with|some is=>J (Vk x is)|none=>OW (.int x) (.l xs)from rfl,e]at h;exact h)|some is=>
   rw[show DA (.int x) (.l xs)=match Kv xs with|some is=>J (Vk x is)|none=>OW (.int x) (.l xs)from rfl,e]at h;show(Oe (Zd 5) xs).map _=_
   exact U (Gz e) (U (iy _) ((Gc J (ZR x is)).trans h))
 ·skip
  induction a using W.casesOn<;>first|exact ja h|skip
  rename Int=>x
  exact(Gc J (YT x ks).symm).trans h
theorem qu{f:Int->Int->Bool}{g:Int->Int->Bool}(h:∀x y,f x y=g x y):Rq (R:=R) Eq (λk=>ZL a b λx y=>k (g x y)) (vE f a b):=Rq.wW λx=>Rq.opm λy=>h x y
theorem ru{d:yr}:Rq (R:=R) Eq (aM d a b X) (bM d a b X):=by
 have g:∀(Q:Bool->Bool->Prop)(f:Bool->Bool),(∀b,Q (f b) (f b))->Rq (R:=R) Q (λk=>H (rk a b) λb=>k (f b)) ((w4 a b).map f):=λQ f h=>Rq.op λr e=>by refine U (KY e) ?_;exact Rq.ret (h r)
 induction d
 ·have:=g Eq id λu=>rfl
  rw[Option.map_id]at this;exact this
 ·exact g Eq (λx=> !x) λu=>rfl
 ·exact qu λx y=>(Og x y).symm
 ·exact qu λx y=>by refine U (Og _ _) (Ed decide_not ?_);exact decide_eq_decide.mpr Wi.symm
 ·exact qu λx y=>(Og y x).symm
 ·exact qu λx y=>by refine U (Og _ _) (Ed decide_not ?_);exact decide_eq_decide.mpr Wi.symm
 ·exact Rq.op λr e=>by show Rq _ _ (qaC a b);refine U e ?_;exact Rq.ret rfl
 ·exact Rq.op λr e=>by show Rq _ _ (Oh a b);refine U e ?_;exact Rq.ret rfl
 ·exact Rq.wW λc=>Rq.op λr e=>by refine U (jN e) ?_;exact Rq.ret rfl
 ·refine Rq.wW λx=>(U Tc (Rq.wW λc=>Rq.op λr e=>?_))
  show Rq _ _ ((OW (.int x) c).map _)
  exact U (jN e) (Rq.ret rfl)
theorem UA{p:W×ub}(h:i4 S V X=J p):p.2=X:=by
 induction S<;>first
  |(refine Hs (show Op _ _=J p from h) λy y z=>?_;subst z;rfl)|(refine Vg (show Option.bind _ _=J p from h) λz z h=>?_;refine Hs (show Op _ _=J p from h) λy y z=>?_;subst z;rfl)
theorem nE{o:Option (W×ub)}(h:∀p,o=J p->p.2=X):Rx (R:=R) X (λk=>H (o.map oj) k) o:=Rq.op λw e=>by
 refine Hs e λp z y=>?_;subst z;subst y;exact Rq.ret (Gc (Prod.mk p.1) (h p rfl))
theorem TN{n:Bb}:Rx (R:=R) X (λk=>H (J4 u n V X) k) (qaF u n V X):=nE λp h=>by
 refine Vg h λz z h=>(Vg h λz z h=>?_);refine Hs h λy y z=>?_;subst z
 rfl
theorem qaV{o:Option W}:Rx (R:=R) X (λk=>H o k) (Bx X o):=Rq.opm (g:=λa=>a) λu=>rfl
theorem CN{f:Int->Int->Int}:Rx (R:=R) X (λk=>H (two V) λp=>H (Ua p.1) λx=>H (Ua p.2) λy=>k (.int (f x y))) (Bx X ((two V).bind (qaE f))):=by
 show Rq _ _ (((two V).bind _).map _)
 refine U Tc (Rq.wW λp=>?_);show Rq _ _ ((((Ua p.1).bind _).map _).map _)
 refine U (pf _ _ _) (U Tc (Rq.wW λx=>?_));show Rq _ _ (((Ua p.2).map _).map _)
 exact U (pf _ _ _) qH
theorem CL:Rx (R:=R) X (qaw S V X) (i4 S V X):=by
 induction S
 ·show Rq _ _ ((((one V).bind _).map _).map _)
  refine U (pf _ _ _) (U Tc ?_);exact Rq.wW λw=>IT.map λi w h=>by refine U h ?_;rfl
 ·exact CN
 ·exact CN
 ·exact nE λp h=>UA h
 ·show Rq _ _ ((((one V).bind _).bind XC).bind _)
  exact U (Va _ _ _) (U (Va _ _ _) (Rq.wW λw=>(Rq.wW λc=>Rq.wW λd=>Sn (x:=.none))))
 ·show Rq _ (qaw .range V X) ((R0 V).map _)
  match V with
  |[]=>exact Rq.no|[b]=>
   refine U Tc (Rq.wW λy=>Rq.grd λh=>?_);show Rq _ _ ((((Ge (Wo 0 y)).map _).map _))
   exact U (vg (iA h)) (Rq.ret rfl)
  |[a,b]=>
   refine U Tc (Rq.wW λx=>?_);show Rq _ _ (((Ua b).bind _).map _)
   refine U Tc (Rq.wW λy=>Rq.grd λh=>?_);show Rq _ _ ((((Ge (Wo x y)).map _).map _))
   exact U (vg (iA h)) (Rq.ret rfl)
  |u::z::j::q=>exact Rq.no
 ·show Rq _ _ (((one V).bind λw=>fu w X).bind _)
  exact U (Va _ _ _) (Rq.wW λw=>Rq.wW λd=>Sn (x:=.none))
 ·show Rq _ _ (((one V).bind lg).bind _)
  exact U (Va _ _ _) (Rq.wW λw=>Rq.wW λd=>Sn (x:=.none))
 ·exact nE λp h=>UA h
end
section
variable {w:W} {Q:List W}
structure yh(O:Or)(cf:Yp)(cb:Nat->fc->ub->al):Prop where
 ro:∀{R:Type} a Q T,Rq (R:=R) (λp w=>p=(w,T)) (O.ro a Q T) (cf a Q T)
 cf:∀{R:Type} a Q T,Rq (R:=R) Eq (O.cf a Q T) (cf a Q T)
 cb:∀{R:Type} i V T,Rq (R:=R) (λp f=>m8 p=f) (O.cb i V T) (cb i V T)
variable {R:Type} {O:Or} {L:Nat->Option (List Int)} {cf:Yp} {cb:Nat->fc->ub->al} {T:ub} {V:fc} {S P N:Type}
theorem Rx.bind{c:P->N->Prop}{f:(S->Option R)->Option R}{x:Option (S×ub)}{g:S->(N->Option R)->Option R}{y:S×ub->Option P}(h:Rx T f x)(d:∀a,Rq c (g a) (y (a,T))):Rq c (λk=>f λa=>g a k) (x.bind y):=Rq.bind h λb a e=>by refine U e ?_;exact d a
theorem Rx.map{c:P->N->Prop}{f:(S->Option R)->Option R}{x:Option (S×ub)}{g:S->N}{y:S×ub->P}(h:Rx T f x)(d:∀a,c (y (a,T)) (g a)):Rq c (λk=>f λa=>k (g a)) (x.map y):=Rq.map h λb a e=>by refine U e ?_;exact d a
theorem Rx.opv{o:Option S}:Rx (R:=R) T (λk=>H o k) (o.map λv=>(v,T)):=Rq.opm (g:=λa=>a) λu=>rfl
abbrev Re{S:Type}(f:(S->Option R)->Option R)(x:Option S):Prop:=Rq Eq f x
theorem Re.bind{c:P->N->Prop}{f:(S->Option R)->Option R}{x:Option S}{g:S->(N->Option R)->Option R}{y:S->Option P}(h:Re f x)(d:∀a,Rq c (g a) (y a)):Rq c (λk=>f λa=>g a k) (x.bind y):=Rq.bind h λb a e=>by refine U e ?_;exact d a
theorem bN{S:Type}{b:Bool}{f:(S->Option R)->Option R}{x y:Option S}(h:Re f x):Re (λk=>M b (f k) Y) (if b=Z then x else y):=Rq.grd λe=>by refine U (Dd e) ?_;exact h
theorem RC(is:List Nat)(a:List W)(V:fc):Re (R:=R) (RP is a V) (Ul is a V):=match is,a,V with|[],[],u=>Rq.ret rfl|[],u::y,z=>Rq.no|u::y,[],z=>Rq.no|i::is,x::a,V=>bN (RC is a (V.set i (J x)))
theorem Kr:∀{t:CT}{v:W}{V:fc},Re (R:=R) (jm t v V) (Yu t v V)
 |.x i,v,V=>bN (Rq.ret rfl)|.t is,v,V=>Rq.wW λa=>RC is a V
theorem jv{g:W->(List W->Option R)->Option R}{f:W->ub->lR}(h:∀v,Rx T (g v) (f v T))(c:_):Rx T (ze g c) (Zr f c T):=match c with|[]=>Rq.ret rfl|x::c=>(h x).bind λa=>(jv h c).map λb=>rfl
theorem En(h:nb w=Z):kf w=J w:=by unfold kf;refine U (vg h) ?_;rfl
theorem O4{a:P->N->Prop}{f:(N->Option R)->Option R}{y:W->Option P}(h:Rq a f (y w)):Rq a (λk=>M (nb w) (f k) Y) ((kf w).bind y):=Rq.grd λe=>by refine U (En e) ?_;exact h
theorem qej{c:N}{a:P->N->Prop}{y:W->P}(h:a (y w) c):Rq (R:=R) a (λk=>M (nb w) (k c) Y) ((kf w).map y):=Rq.grd λe=>by refine U (En e) ?_;exact Rq.ret h
theorem qfc{a:P->W->Prop}{y:W->P}(h:a (y w) w):Rq (R:=R) a (λk=>M (nb w) (k w) Y) ((kf w).map y):=qej h
theorem LL(C:yh O cf cb){g:W}:Rx (R:=R) T (vW O g Q T) (gG db cf Q T g):=by
 induction g using W.casesOn<;>first|exact Rq.no|skip
 rename wa=>c
 induction c<;>first|exact Rq.no|exact Rq.wW λb=>CL|skip
 refine Rq.grd λh=>?_;show Rq _ _ ((Ur Q).bind _)
 unfold Ur;refine U (vg h) ?_
 induction db.init a with
 |some g=>exact Rq.no|none=>exact C.ro _ _ _
theorem CY(C:yh O cf cb){c:GD}{n:Bb}:Rx (R:=R) T (qdN O c n Q T) (qbx cf c n Q T):=by
 induction c with
 |fn f i=>exact C.ro _ _ _|lm o=>exact TN
variable (C:yh O cf cb)
include C
mutual
theorem Wc(e:X)(V:fc):Rx (R:=R) T (kX O e V T) (fX db L cf e V T):=match e,V with
 |.x i,V=>Rx.opv|.k v,V=>Rq.ret rfl|.none,V=>Rq.ret rfl|.bool b,V=>Rq.ret rfl|.int i,V=>Rq.ret rfl|.str s,V=>Rq.ret rfl|.attr o n,V=>(Wc o V).bind λw=>by
  exact U Tc (Rq.wW λi=>Rx.opv)
 |.sub o i,V=>(Wc o V).bind λu=>(Wc i V).bind λv=>lA.map λy y e=>by exact U e rfl|.cut o k,V=>Rq.no|.bin c a b,V=>(Wc a V).bind λu=>(Wc b V).bind λv=>bG|.neg a,V=>(Wc a V).bind λw=>qH|.cmp c a b,V=>(Wc a V).bind λu=>(Wc b V).bind λv=>ru.map λy y e=>by exact U e rfl|.cmp2 d f a b c,V=>(Wc a V).bind λu=>(Wc b V).bind λv=>ru.bind λr y e=>by
  subst e;exact Rq.ifB ((Wc c V).bind λx=>ru.map λy y e=>by exact U e rfl) (Rq.ret rfl)
 |.ite t a b,V=>(vt t V).bind λr=>Rq.ifB (Wc a V) (Wc b V)|.t a,V=>(Kn a V).bind λQ=>Sn (x:=.none)|.list a,V=>(Kn a V).bind λQ=>Sn (x:=.none)|.dict z j,V=>Rq.no|.comp n b h f rest g,V=>(Wc b V).bind λw=>Fq.bind λa y e=>by
  subst e;exact(jv (λv=>Kr.bind λd=>(Jz f d).bind λr=>Rq.ifB (BB rest (λV=>(Wc g V).bind λw=>qfc rfl) d) (Rq.ret rfl)) a).bind λd=>Sn (x:=.none)
 |.call f a,V=>(Wc f V).bind λg=>(GN a V).bind λQ=>LL C|.meth o n a,V=>(Wc o V).bind λw=>Rq.wW λc=>(Kn a V).bind λQ=>CY C|.sup z j q,V=>Rq.no
theorem Kn(e:List X)(V:fc):Rx (R:=R) T (HN O e V T) (zG db L cf e V T):=match e,V with|[],V=>Rq.ret rfl|x::a,V=>(Wc x V).bind λw=>O4 ((Kn a V).map λQ=>rfl)
theorem GN(e:List X)(V:fc):Rx (R:=R) T (qcv O e V T) (C7 db L cf e V T):=match e,V with|[],V=>Rq.ret rfl|x::a,V=>(Wc x V).bind λw=>(GN a V).map λQ=>rfl
theorem vt(e:B)(V:fc):Rx (R:=R) T (kT O e V T) (fT db L cf e V T):=match e,V with|.and a b,V=>(vt a V).bind λr=>Rq.ifB (vt b V) (Rq.ret rfl)|.or a b,V=>(vt a V).bind λr=>Rq.ifB (Rq.ret rfl) (vt b V)|.not a,V=>(vt a V).map λr=>rfl|.wK x,V=>(Wc x V).bind λw=>Rx.opv
theorem Jz(e:List B)(V:fc):Rx (R:=R) T (DT O e V T) (EM db L cf e V T):=match e,V with|[],V=>Rq.ret rfl|t::a,V=>(vt t V).bind λr=>Rq.ifB (Jz a V) (Rq.ret rfl)
theorem BB:∀(e:List G){E:fc->(W->Option R)->Option R}{d:fc->ub->jo},(∀V,Rx T (E V) (d V T))->∀V:fc,Rx (R:=R) T (FN O e E V T) (xG db L cf e d V T)
 |[],y,z,hEx=>λV=>(hEx V).map λw=>rfl|.mk a f c::g,y,z,hEx=>λV=>(Wc a V).bind λw=>Fq.bind λh u e=>by
  subst e;exact jv (λv=>Kr.bind λb=>(Jz c b).bind λr=>Rq.ifB (BB g hEx b) (Rq.ret rfl)) h
end
end
section
variable {R:Type} {O:Or} {sc:Nat->Option (List Int)} {Q:Yp} {N:Nat->fc->ub->al} {S:ub} {V:fc} {P L K:Type} {w v c:W} {n:Bb} {i j:Nat}
abbrev Rs(f:(Fk->Option R)->Option R)(x:al):Prop:=Rq (λp f=>m8 p=f) f x
theorem Re.map{d:L->K->Prop}{f:(P->Option R)->Option R}{x:Option P}{g:P->K}{y:P->L}(h:Re f x)(l:∀a,d (y a) (g a)):Rq d (λk=>f λa=>k (g a)) (x.map y):=Rq.map h λb a e=>by refine U e ?_;exact l a
theorem lC{x:Int}:Re (R:=R) (mP x v c) (lP x v c):=by
 induction c using W.casesOn<;>first|exact Rq.no|skip
 ·exact Rq.op λys e=>by refine U (show lP x v (.l _)=_ from CV e) ?_;exact Rq.ret rfl
 ·refine Rq.grd λh=>?_
  show Rq _ _ ((Ge (Td _)).map _)
  unfold Td;refine U (vg (Rn h)) (U (oP _ _) (U (tC _ _ _ _) ?_));exact Rq.ret rfl
theorem pP{iv:W}:Re (R:=R) (oX j iv v V S c) (Yz j iv v V S c):=by
 induction c using W.casesOn<;>first|exact Rq.no|skip
 ·exact Rq.wW λs=>Rq.wW λfs=>Rq.grd λh=>by
   show Rq _ _ ((Ge (Td _)).bind _)
   unfold Td;refine U (vg (Rn h)) ?_;exact Rq.opm λu=>rfl
 ·exact Rq.wW λx=>lC.map λu=>rfl
theorem rC{a:W}:Re (R:=R) (nP n a v S i) (gw n a v S i):=by
 show Rq _ _ (((ii S i n).bind tK).bind _)
 exact U (Va _ _ _) (Rq.wW λb=>Rq.wW λc=>Rq.wW λx=>lC.map λu=>rfl)
theorem XG{l:Lm}{xs:List W}:Re (R:=R) (sZ l v xs) (rZ l v xs):=by
 induction l<;>first|exact Rq.no|skip
 ·refine Rq.grd λh=>?_
  show Rq _ _ ((Ge (Td _)).map _)
  unfold Td;refine U (vg (Rn h)) ?_;exact Rq.ret rfl
 ·refine Rq.wW λys=>Rq.grd λh=>?_
  rw[Qe,Qe]at h;show Rq _ _ ((Ge (Td _)).map _)
  unfold Td;refine U (vg h) ?_;exact Rq.ret rfl
theorem qaP{a b:List W}{x:W}(h:Wj a=J (x,b)):a=x::b:=by
 induction a using ma with
 |nil=>exact ja h|cons=>obtain⟨rfl,rfl⟩:=Ta (ba h);rfl
theorem cN{P:Type}{n m:Nat}{f:(P->Option R)->Option R}{x y:Option P}(h:Re f x):Re (λk=>M (ac n m) (f k) Y) (if n<m then x else y):=Rq.grd λe=>by refine U (Dd (ud.mp e)) ?_;exact h
theorem eI(is:List Nat)(a:List W)(V:fc):Re (R:=R) (W0 is a V) (Em is a V):=match is,a,V with|[],[],u=>Rq.ret rfl|[],u::y,z=>Rq.no|u::y,[],z=>Rq.no|i::is,x::a,V=>cN (eI is a (V.set i (J x)))
theorem WA:∀{t:CT}{v:W}{V:fc},Re (R:=R) (lk t v V) (Ox t v V)
 |.x i,v,V=>cN (Rq.ret rfl)|.t is,v,V=>Rq.wW λa=>eI is a V
theorem eA{f:(Fk->Option R)->Option R}{x:al}{g:fc->ub->(Fk->Option R)->Option R}{y:fc->ub->al}(h:Rs f x)(m:∀V S,Rs (g V S) (y V S)):Rs (YU f g) (x.bind (Jw y)):=λk r e=>by
 induction h _ r e with|mk p a o q l=>
  subst o;subst q;obtain⟨s,b,d⟩:=p
  induction s with
  |next=>exact m b d k r l|ret w=>exact .mk (.ret w,b,d) _ rfl rfl l
theorem Dv{g:W->fc->ub->(Fk->Option R)->Option R}{f:W->fc->ub->al}(h:∀v V S,Rs (g v V S) (f v V S))(a V S:_):Rs (rB g a V S) (Pv f a V S):=match a,V,S with|[],u,y=>Rq.ret rfl|x::a,V,S=>eA (h x V S) (Dv h a)
theorem TQ{t:fc->ub->(Bool×ub->Option R)->Option R}{d:fc->ub->G3}{g:fc->ub->(Fk->Option R)->Option R}{f:fc->ub->al}(m:∀V S,Re (t V S) (d V S))(h:∀V S,Rs (g V S) (f V S))(n V S:_):Rs (T2 t g n V S) (Qv d f n V S):=match n,V,S with
 |0,u,y=>Rq.no|n+1,V,S=>λk r e=>by
  induction m V S _ r e with|mk p a s q o=>
   refine aa λu=>?_;subst q;obtain⟨b,l⟩:=p;refine u ?_;show SK _ ((d V S).bind _) k r
   refine U s ?_
   induction b with
   |false=>exact .mk _ _ rfl rfl o|true=>exact eA (h V l) (TQ m h n) k r o
theorem Rx.e{f:(P->Option R)->Option R}{x:Option (P×ub)}(h:Rx S f x):Re (λk=>f λw=>k (w,S)) x:=λk r e=>by
 induction h _ r e with|mk b a d q g=>exact .mk _ _ d q g
theorem qaH{op:He}{a c:X}(h:Bt op a=J c):op=.Mult/\a=.list [c]:=by
 induction a using X.casesOn<;>first|exact ja h|skip
 match xs,h with
 |[x],h=>induction op<;>first|exact ja h|exact⟨rfl,by obtain rfl:=ba h;rfl⟩
 |[],h=>exact ja h|u::y::z,h=>exact ja h
theorem aB{g:W->ub->(List W×ub->Option R)->Option R}{f:W->ub->lR}(h:∀v S,Re (g v S) (f v S))(a S:_):Re (ot g a S) (Zr f a S):=match a,S with|[],S=>Rq.ret rfl|x::a,S=>(h x S).bind λp=>(aB h a p.2).map λq=>rfl
theorem qX{a:List W}{c:W×ub}:Re (R:=R) (λk=>M (Jd 4096 a) (k c) Y) ((Ge (Td a.length)).map λu=>c):=Rq.grd λh=>by unfold Td;refine U (vg (Rn h)) ?_;exact Rq.ret rfl
variable (C:yh O Q N)
include C
theorem NL{g:W}{ws:List W}:Re (R:=R) (ML O g ws S) (gG db Q ws S g):=by
 induction g using W.casesOn<;>first|exact Rq.no|skip
 rename wa=>c
 induction c<;>first|exact Rq.no|exact Rq.wW λb=>Rx.e CL|skip
 refine Rq.grd λh=>?_;show Rq _ _ ((Ur ws).bind _)
 unfold Ur;refine U (vg h) ?_
 induction db.init a with
 |some g=>exact Re.bind (C.cf _ _ _) λp=>Rq.op λq e=>e.symm▸Rq.ret rfl|none=>exact C.cf _ _ _
mutual
theorem Mj(e:X)(V:fc)(S:ub):Re (R:=R) (hK O e V S) (fX db sc Q e V S):=match e,V,S with
 |.x i,V,S=>(Wc C (.x i) V).e|.k v,V,S=>(Wc C (.k v) V).e|.none,V,S=>(Wc C .none V).e|.bool b,V,S=>(Wc C (.bool b) V).e|.int b,V,S=>(Wc C (.int b) V).e|.str b,V,S=>(Wc C (.str b) V).e|.attr o n,V,S=>(Wc C (.attr o n) V).e|.sub o i,V,S=>(Mj o V S).bind λp=>(Mj i V p.2).bind λq=>Re.map lA λw=>rfl|.cut o n,V,S=>Rq.no|.bin d a b,V,S=>(Mj a V S).bind λp=>(Mj b V p.2).bind λq=>Rx.e bG|.neg a,V,S=>(Wc C (.neg a) V).e|.cmp d a b,V,S=>(Mj a V S).bind λp=>(Mj b V p.2).bind λq=>Re.map ru λw=>rfl|.cmp2 d f a b c,V,S=>(Wc C (.cmp2 d f a b c) V).e|.ite t a b,V,S=>(Wc C (.ite t a b) V).e|.t h,V,S=>(eN h V S).bind λq=>qX|.list h,V,S=>(Wc C (.list h) V).e|.dict u y,V,S=>Rq.no|.comp n d l f rest a,V,S=>λk r e=>by
  induction m:cU a&&f.isEmpty&&rest.isEmpty with
  |false=>
   exact Rx.e (Wc C (.comp n d l f rest a) V) k r (by refine Ed e ?_;show _=M (cU a&&f.isEmpty&&rest.isEmpty) _ _;refine U m ?_;rfl)
  |true=>
   replace e:M (cU a&&f.isEmpty&&rest.isEmpty) (kX O d V S λw=>Nf w λh=>ot (λv S s=>jm l v (V++Ia n Y) λb=>hK O a b S λp=>M (nb p.1) (s ([p.1],p.2)) Y) h S λq=>M (Jd 4096 q.1) (k (.l q.1,q.2)) Y) _=J r:=e;rw[m]at e
   induction f using ma with
   |cons=>rw[Aa,Aa]at m;exact zc m.1.2 ia|nil=>induction rest using ma with
    |cons=>rw[Aa]at m;exact zc m.2 ia|nil=>
     exact((Wc C d V).bind (g:=λw(k:W×ub->Option R)=>Nf w λh=>ot (λv S s=>jm l v (V++Ia n Y) λb=>hK O a b S λp=>M (nb p.1) (s ([p.1],p.2)) Y) h S λq=>M (Jd 4096 q.1) (k (.l q.1,q.2)) Y) λw=>Re.bind Fq λh=>(aB (λv S=>Kr.bind λb=>by
      show Re _ (((fX db sc Q a b S).bind _).map _)
      refine U Tc ((Mj a b S).bind λp=>Rq.grd λs=>?_);show Re _ (((kf p.1).map _).map _)
      refine U (En s) ?_;exact Rq.ret rfl) h S).bind λq=>qX) k r e
 |.call f a,V,S=>(Wc C f V).bind λg=>(dN a V S).bind λq=>NL C|.meth o n a,V,S=>(Wc C o V).bind λw=>Rq.wW λc=>(Kn C a V).bind λb=>by
  induction c with
  |fn f i=>exact C.cf _ _ _|lm o=>exact Rx.e TN
 |.sup i f a,V,S=>by
  show Rq _ _ ((((Ke V i).bind Bk).bind _).bind _)
  exact U (Va _ _ _) (U (Va _ _ _) (Rq.wW λw=>Rq.wW λi=>Rq.wW λj=>(Kn C a V).bind λb=>C.cf _ _ _))
theorem eN(a:List X)(V:fc)(S:ub):Re (R:=R) (qcp O a V S) (zG db sc Q a V S):=match a,V,S with|[],V,S=>Rq.ret rfl|x::b,V,S=>(Mj x V S).bind λp=>Rq.grd λh=>by refine U (En h) ?_;exact(eN b V p.2).map λq=>rfl
theorem dN(a:List X)(V:fc)(S:ub):Re (R:=R) (qco O a V S) (C7 db sc Q a V S):=match a,V,S with|[],V,S=>Rq.ret rfl|x::b,V,S=>(Mj x V S).bind λp=>(dN b V p.2).map λq=>rfl
end
theorem Xz(e:X):Re (R:=R) (M0 O e V S) (IM db sc Q e V S):=(Mj C e V _).bind λp=>nbM' p
where nbM' (p:W×ub):Re (R:=R) (λk=>M (nb p.1) (k p) Y) ((kf p.1).map λw=>(w,p.2)):=Rq.grd λe=>by refine U (En e) ?_;exact Rq.ret rfl
theorem aU(a b:X):Re (R:=R) (IZ O a b V S) (FM db sc Q a b V S):=(Wc C a V).bind λw=>O4 (y:=λw=>(fX db sc Q b V S).bind λq=>(Ua q.1).bind λk=>(Ge (decide (0<=k/\k<4096))).map λu=>(W.o (.l (Ia k.toNat w)),q.2)) ((Wc C b V).bind λv=>Rq.wW λi=>Rq.grd λd=>Rq.grd λe=>by
 rw[Og]at d e;refine U (vg (decide_eq_true ⟨Wi.mp (λz=>zc d (by rw[decide_eq_true z];exact ia):¬i<0),Nl e⟩)) ?_;exact Rq.ret rfl)
theorem CX(e:X):Re (R:=R) (vK O e V S) (fV db sc Q e V S):=by
 induction e using X.casesOn<;>first|exact Xz C _|skip
 ·skip
  show Re (λk=>match Bt op a with|some c=>IZ O c b V S k|none=>M0 O (.bin op a b) V S k) (match Bt op a with|some c=>FM db sc Q c b V S|none=>IM db sc Q (.bin op a b) V S)
  induction Bt op a with
  |none=>exact Xz C _|some c=>exact aU C c b
 ·exact(Kn C _ V).bind λws=>Rq.grd λh=>by unfold Td;refine U (vg (Rn h)) ?_;exact Rq.ret rfl
 ·skip
  match ks,vs with
  |[],[]=>exact Rq.ret rfl|[a],[b]=>exact(Wc C a V).bind λu=>Rq.wW λi=>(Wc C b V).bind λw=>qej (y:=λw=>(W.o (.dic [i] [w]),S)) rfl|[],z::j=>exact Rq.no|[z],[]=>exact Rq.no|[z],j::q::d=>exact Rq.no|z::j::q,d=>exact Rq.no
theorem MQ(a:List X)(S:ub):Re (R:=R) (qaU O a V S) (qay db sc Q a V S):=match a,S with|[],S=>Rq.ret rfl|x::b,S=>(CX C x).bind λp=>(MQ b p.2).map λq=>rfl
theorem mV(o e:X):Re (R:=R) (K9 O o e v V S) (nT db sc Q o e v V S):=by
 induction o using X.casesOn<;>first|exact Rq.no|skip
 ·exact(Wc C e V).bind λiv=>Rq.wW λc=>pP
 ·exact(Wc C _ V).bind λw=>Rq.wW λi=>(Wc C e V).bind λiv=>rC.map λu=>rfl
mutual
theorem UO(t:T)(v:W)(V:fc)(S:ub):Re (R:=R) (pK O t v V S) (fP db sc Q t v V S):=match t,v,V,S with
 |.x i,v,V,S=>Rq.grd λh=>by
  show Rq _ _ ((Ge (ac i V.length)).map _)
  exact U (vg h) (Rq.ret rfl)
 |.t a,v,V,S=>Rq.wW λb=>UE a b V S|.attr o n,v,V,S=>(Wc C o V).bind λw=>by
  exact U Tc (Rq.wW λi=>Rq.opm λu=>rfl)
 |.sub o e,v,V,S=>O4 (y:=λv=>nT db sc Q o e v V S) (mV C o e)
theorem UE(a:List T)(b:List W)(V:fc)(S:ub):Re (R:=R) (d9 O a b V S) (B7 db sc Q a b V S):=match a,b,V,S with|[],[],V,S=>Rq.ret rfl|[],u::y,V,S=>Rq.no|t::a,[],V,S=>Rq.no|t::a,v::b,V,S=>(UO t v V S).bind λq=>UE a b q.1 q.2
end
theorem qcn{f:(fc×ub->Option R)->Option R}{x:a4}(h:Re f x):Rs (λk=>f λp=>k (.go p.1 p.2)) (x.map TY):=h.map λu=>rfl
theorem dS(t:T)(e:X):Rs (R:=R) (S5 O t e V S) (hY db sc Q t e V S):=by
 induction t using T.casesOn<;>first|exact(CX C e).bind λq=>qcn C (UO C _ q.1 V q.2)|skip
 show Rs (λk=>match BF e with|some es=>qaU O es V S λq=>M (Jd 4096 q.1) (d9 O ts q.1 V q.2 λp=>k (.go p.1 p.2)) Y|none=>M0 O e V S λq=>pK O (.t ts) q.1 V q.2 λp=>k (.go p.1 p.2)) (match BF e with|some es=>_|none=>_)
 induction BF e with
 |none=>exact(Xz C e).bind λq=>qcn C (UO C _ q.1 V q.2)|some es=>exact(MQ C es S).bind λq=>Rq.grd λh=>by unfold Td;refine U (vg (Rn h)) ?_;exact qcn C (UE C ts q.1 V q.2)
theorem gS(o:X)(n:Bb)(i:X)(a:He)(e:X):Rs (R:=R) (U5 O o n i a e V S) ((fX db sc Q o V S).bind λp=>(Bm db n p.2 p.1).bind λj=>jY db sc Q n i e a V p.2 j):=
 (Wc C o V).bind λw=>Rq.wW λj=>(Wc C i V).bind λd=>Re.bind lA λb=>(Wc C e V).bind λr=>Rq.wW λx=>Rq.wW λy=>Rq.wW λz=>rC.map λu=>rfl
theorem bS(m:Bb)(o e:X):Rs (R:=R) (Q5 O m o e V S) (gY db sc Q m o e V S):=by
 induction o using X.casesOn<;>first|exact Rq.no|skip
 ·rename Nat=>j
  show Rq _ _ (((Ke V j).bind ls).bind _)
  exact U (Va _ _ _) (Rq.wW λb=>Rq.wW λxs=>(Mj C e V S).bind λp=>O4 (y:=λv=>(au m).bind λm=>(rZ m v xs).map λys=>(fW.next,V.set j (J (.o (.l ys))),p.2)) (Rq.wW λl=>XG.map λu=>rfl))
 ·rename X=>o
  refine(Wc C o V).bind λw=>Rq.wW λi=>(U (Va _ _ _) (Rq.op λb eb=>Rq.op λxs ex=>(U eb ?_)));show Rq _ _ ((ls b).bind _)
  refine U ex ((Wc C e V).bind λv=>O4 (y:=λv=>(au m).bind λm=>((ii S i n).bind ls).bind λxs=>(rZ m v xs).map λys=>(fW.next,V,Fm S i n (.o (.l ys)))) (Rq.wW λl=>(U (by rw[eb];exact ex:(ii S i n).bind ls=J xs) ?_)));exact XG.map λu=>rfl
theorem vT(o i e:X):Rs (R:=R) (V7 O o i e V S) (ZY db sc Q o i e V S):=by
 induction o using X.casesOn<;>first|exact Rq.no|skip
 rename Nat=>j
 show Rq _ _ (((Ke V j).bind ls).bind _)
 exact U (Va _ _ _) (Rq.wW λb=>Rq.wW λxs=>(Wc C i V).bind λq=>Rq.wW λi=>(Wc C e V).bind λv=>O4 (y:=λv=>(oN i v xs).map λys=>(fW.next,V.set j (J (.o (.l ys))),S)) (Rq.opm λu=>rfl))
theorem NW(t:B):Re (R:=R) (hT O t V S) (fT db sc Q t V S):=by
 have d:∀t,Re (R:=R) (λk=>kT O t V S λb=>k (b,S)) (fT db sc Q t V S):=λt=>(vt C t V).e
 induction t using B.casesOn<;>first|exact d _|skip
 ·rename B=>t
  induction t using B.casesOn<;>first|exact d _|skip
  rename X=>e
  show Rq _ _ (((fX db sc Q e V S).bind _).map _)
  refine U Tc ((Mj C e V _).bind λp=>?_);show Rq _ _ (((Li p.1).map _).map _)
  exact U (pf _ _ _) (Rq.opm λu=>rfl)
 ·skip
  induction x using X.casesOn<;>first|exact d _|skip
  induction op<;>first|exact d _|skip
  ·induction a using X.casesOn<;>first|exact d _|skip
   exact(Mj C _ V _).bind λp=>Rq.opm λu=>rfl
  ·show Rq _ _ (((fX db sc Q a V S).bind _).bind _)
   refine U (Va _ _ _) ((Mj C a V _).bind λp=>?_);show Rq _ _ (((fX db sc Q b V p.2).bind _).bind _)
   exact U (Va _ _ _) ((Wc C b V).bind λv=>(U xh (Rq.wW λr=>Rq.ret rfl)))
theorem AU(e:X):Rs (R:=R) (j9 O e V S) ((qbC db sc Q e V S).map λp=>(.ret p.1,V,p.2)):=by
 induction e using X.casesOn<;>first|exact(Xz C _).map λy=>rfl|skip
 exact U (pf _ _ _) (U Tc (Rq.wW λu=>Rq.opm λy=>rfl))
mutual
theorem RW(s:SF)(V:fc)(S:ub):Rs (R:=R) (kS O s V S) (fS db sc Q N s V S):=match s,V,S with
 |.q t e,V,S=>dS C t e|.aug o n i a e,V,S=>gS C o n i a e|.expr e,V,S=>(Mj C e V _).bind λp=>Rq.opm λu=>rfl|.app o m e,V,S=>bS C m o e|.ins o i e,V,S=>vT C o i e|.ifs t a b,V,S=>(NW C t).bind λq=>Rq.ifB (Jn a V q.2) (Jn b V q.2)|.whil t b,V,S=>by
  show Rs (T2 (hT O t) (λV S k=>Sg O b V S k) 5000 V S) (Qv (fT db sc Q t) (λV S=>kJ db sc Q N b V S) 5000 V S)
  generalize 5000=n;exact TQ (λV S=>NW C t) (λV S=>Jn b V S) n V S
 |.fors t e b,V,S=>(Wc C e V).bind λw=>Re.bind Fq λd=>Dv (λv V S=>WA.bind λa=>Jn b a S) d V S|.forz t f b,V,S=>(Kn C f V).bind λg=>by
  exact U (Va _ _ _) (U (Va _ _ _) (Rq.wW λh=>Rq.wW λk=>Rq.wW λd=>Dv (λv V S=>WA.bind λa=>Jn b a S) d V S))
 |.ret e,V,S=>AU C e|.frz i,V,S=>by
  show Rq _ _ (((Ke V i).bind tK).map _)
  exact U Tc (Rq.wW λb=>Rq.opm λu=>rfl)
 |.blk i,V,S=>C.cb i V S
theorem Jn(a:List SF)(V:fc)(S:ub):Rs (R:=R) (Sg O a V S) (kJ db sc Q N a V S):=match a,V,S with|[],V,S=>Rq.ret rfl|s::a,V,S=>eA (RW s V S) (Jn a)
end
end
section
variable {w:W} {R:Type} {e:Mine.Internal.X} {fn:Qg} {n:Nat}
noncomputable section
abbrev CF:=(R:Type)->List W->ub->(W×ub->Option R)->Option R
abbrev CB:=(R:Type)->fc->ub->(Fk->Option R)->Option R
def mi(V:Yp)(a:Nat)(f:CF):Prop:=∀R b c,Re (f R b c) (V a b c)
def uh(L:Nat->fc->ub->al)(i:Nat)(f:CB):Prop:=∀R a b,Rs (f R a b) (L i a b)
abbrev CR:=(R:Type)->List W->ub->(W->Option R)->Option R
def Lg(V:Yp)(a:Nat)(f:CR):Prop:=∀R c b,Rx b (f R c b) (V a c b)
noncomputable def Or.nil:Or:=⟨λu u u u=>Y,λu u u u=>Y,λu u u u=>Y⟩
noncomputable def Or.c(O:Or)(a:Nat)(f:CF):Or:=⟨O.ro,λb c g k=>M (Ub a b) (f _ c g k) (O.cf b c g k),O.cb⟩
noncomputable def Or.b(O:Or)(a:Nat)(f:CB):Or:=⟨O.ro,O.cf,λb c g k=>M (Ub a b) (f _ c g k) (O.cb b c g k)⟩
def Or.r(O:Or)(a:Nat)(f:CR):Or:=⟨λb c g k=>M (Ub a b) (f _ c g k) (O.ro b c g k),O.cf,O.cb⟩
section
variable {O:Or} {V:Yp} {L:Nat->fc->ub->al}
theorem yh.nil:yh Or.nil V L:=⟨λu u u=>Rq.no,λu u u=>Rq.no,λu u u=>Rq.no⟩
theorem NI{a b:Nat}{c:Type}{x y:c}{P:c->Prop}(f:a=b->P x)(g:P y):P (M (Ub a b) x y):=by
 induction h:Ub a b with
 |true=>exact f (Uc h)|false=>exact g
theorem yh.c(C:yh O V L){a:Nat}{f:CF}(h:mi V a f):yh (O.c a f) V L:=⟨C.ro,λ{R} b g j k r=>NI (P:=λx=>x=J r->SK Eq (V b g j) k r) (λc=>c▸h R g j k r) (C.cf b g j k r),C.cb⟩
theorem yh.b(C:yh O V L){a:Nat}{f:CB}(h:uh L a f):yh (O.b a f) V L:=⟨C.ro,C.cf,λ{R} b g j k r=>NI (P:=λx=>x=J r->SK _ (L b g j) k r) (λc=>c▸h R g j k r) (C.cb b g j k r)⟩
theorem yh.r(C:yh O V L){a:Nat}{f:CR}(h:Lg V a f):yh (O.r a f) V L:=⟨λ{R} b g j k r=>NI (P:=λx=>x=J r->SK _ (V b g j) k r) (λc=>c▸h R g j k r) (C.ro b g j k r),C.cf,C.cb⟩
end
theorem qS{c g:Type}{o:Option c}{f:c->Option g}{b:g}(h:H o f=J b):∃a,o=J a/\f a=J b:=by
 induction o with
 |none=>exact ja h|some a=>exact⟨a,rfl,h⟩
theorem dp{c g:Type}{o:Option c}{f:c->Option g}{b:g}{P:Prop}(h:H o f=J b)(k:∀a,o=J a->f a=J b->P):P:=by
 obtain⟨a,j,l⟩:=qS h;exact k a j l
structure Cd(A S:Type)where
 dec:(R:Type)->A->(S->Option R)->Option R
 wR:S->A
 ok:∀R a k r,dec R a k=J r->∃s,wR s=a/\k s=J r
structure Pg(A X S:Type)where
 dec:(R:Type)->A->(X->S->Option R)->Option R
 wR:X->S->A
 ok:∀R a k r,dec R a k=J r->∃x s,wR x s=a/\k x s=J r
section
variable {A S T X G:Type}
noncomputable def Cd.id:Cd A A:=⟨λu a k=>k a,λa=>a,λu a u u e=>⟨a,rfl,e⟩⟩
def Cd.op(f:A->Option S)(g:S->A)(h:∀a s,f a=J s->g s=a):Cd A S:=⟨λu a k=>H (f a) k,g,λu a u u e=>by
 refine dp e λs b c=>?_;exact⟨s,h a s b,c⟩⟩
noncomputable def f7(w:W):Option (List Int×List W):=match w with|.dic a b=>J (a,b)|_=>Y
def QW(i:Nat)(w:W):Option Unit:=H (Bk w) λj=>M (Ub j i) (J ()) Y
theorem uN{i:Nat}{u:Unit}(e:QW i w=J u):W.ref i=w:=by
 induction w using W.casesOn<;>first|exact ja e|skip
 rename Nat=>j
 exact NI (a:=j) (b:=i) (x:=J ()) (y:=(Y:Option Unit)) (P:=λx=>x=J u->W.ref i=.ref j) (λc z=>c▸rfl) (λe=>ja e) e
noncomputable def Cd.int:Cd W Int:=.op Ua .int λa s e=>by induction a using W.casesOn<;>first|exact ja e|exact Gc W.int (ba e).symm
noncomputable def Cd.l:Cd W (List W):=.op Hl .l λa s e=>by induction a using W.casesOn<;>first|exact ja e|exact Gc W.l (ba e).symm
noncomputable def Cd.t:Cd W (List W):=.op lg .t λa s e=>by induction a using W.casesOn<;>first|exact ja e|exact Gc W.t (ba e).symm
noncomputable def Cd.bool:Cd W Bool:=.op Li .bool λa s e=>by induction a using W.casesOn<;>first|exact ja e|exact Gc W.bool (ba e).symm
noncomputable def Cd.dic:Cd W (List Int×List W):=.op f7 (λs=>.dic s.1 s.2) λa s e=>by induction a using W.casesOn<;>first|exact ja e|(obtain rfl:=ba e;rfl)
noncomputable def Cd.ref(i:Nat):Cd W Unit:=.op (QW i) (λu=>.ref i) λu u e=>uN e
theorem B2{b:W}(h:tK w=J b):W.o b=w:=by induction w using W.casesOn<;>first|exact ja h|exact Gc W.o (ba h).symm
noncomputable def Cd.o(c:Cd W S):Cd W S:=⟨λR w k=>H (tK w) λb=>c.dec R b k,λs=>.o (c.wR s),λR a k r e=>by
 exact(qS e).elim λb h=>(c.ok R b k r h.2).elim λs g=>⟨s,(Gc W.o g.1).trans (B2 h.1),g.2⟩⟩
def Cd.some'(c:Cd W S):Cd (Option W) S:=⟨λR o k=>H o λb=>c.dec R b k,λs=>J (c.wR s),λR a k r e=>by
 exact(qS e).elim λb h=>(c.ok R b k r h.2).elim λs g=>⟨s,(Gc J g.1).trans h.1.symm,g.2⟩⟩
def Cd.fld(n:Bb)(c:Cd W S):Cd (Bb×W) S:=⟨λR x k=>M (decide (x.1=n)) (c.dec R x.2 k) Y,λs=>(n,c.wR s),λR a k r e=>by
 have h:a.1=n/\c.dec R a.2 k=J r:=by
  induction h:decide (a.1=n)with
  |true=>exact⟨Nl h,(Gc (λb=>M b (c.dec R a.2 k) Y) h).symm.trans e⟩|false=>exact ja ((Gc (λb=>M b (c.dec R a.2 k) Y) h).symm.trans e)
 exact(c.ok R _ _ _ h.2).elim λs g=>⟨s,by exact U g.1 (Ed h.1 rfl),g.2⟩⟩
noncomputable def Pg.nil:Pg (List A) Unit Unit:=⟨λu l k=>ma l (k () ()) λu u=>Y,λu u=>[],λR a k r e=>by
 induction a using ma with
 |nil=>exact⟨(),(),rfl,e⟩|cons=>exact ja e⟩
noncomputable def Pg.rest:Pg (List A) (List A) Unit:=⟨λu l k=>k l (),λx u=>x,λu a u u e=>⟨a,(),rfl,e⟩⟩
noncomputable def Pg.cons(c:Pg A X S)(d:Pg (List A) G T):Pg (List A) (X×G) (S×T):=⟨λR l k=>ma l Y λx t=>c.dec R x λx s=>d.dec R t λy r=>k (x,y) (s,r),λx s=>c.wR x.1 s.1::d.wR x.2 s.2,λR a k r e=>by
 induction a using ma with
 |nil=>exact ja e|cons x t=>
  exact(c.ok R _ _ _ e).elim λx h=>h.elim λs h=>(d.ok R _ _ _ h.2).elim λy g=>g.elim λq g=>⟨(x,y),(s,q),congr (Gc HA h.1) g.1,g.2⟩⟩
noncomputable def Pg.p(c:Cd A S)(d:Pg (List A) X T):Pg (List A) (S×X) T:=⟨λR l k=>ma l Y λx t=>c.dec R x λs=>d.dec R t λy r=>k (s,y) r,λx s=>c.wR x.1::d.wR x.2 s,λR a k r e=>by
 induction a using ma with
 |nil=>exact ja e|cons x t=>
  exact(c.ok R _ _ _ e).elim λs h=>(d.ok R _ _ _ h.2).elim λy g=>g.elim λq g=>⟨(s,y),q,congr (Gc HA h.1) g.1,g.2⟩⟩
noncomputable def Pg.a(c:Cd A S)(d:Pg (List A) X T):Pg (List A) X (S×T):=⟨λR l k=>ma l Y λx t=>c.dec R x λs=>d.dec R t λy r=>k y (s,r),λx s=>c.wR s.1::d.wR x s.2,λR a k r e=>by
 induction a using ma with
 |nil=>exact ja e|cons x t=>
  exact(c.ok R _ _ _ e).elim λs h=>(d.ok R _ _ _ h.2).elim λy g=>g.elim λq g=>⟨y,(s,q),congr (Gc HA h.1) g.1,g.2⟩⟩
noncomputable def Pg.sk(c:Cd A Unit)(d:Pg (List A) X T):Pg (List A) X T:=⟨λR l k=>ma l Y λx t=>c.dec R x λu=>d.dec R t k,λx s=>c.wR ()::d.wR x s,λR a k r e=>by
 induction a using ma with
 |nil=>exact ja e|cons x t=>
  exact(c.ok R _ _ _ e).elim λs h=>(d.ok R _ _ _ h.2).elim λy g=>g.elim λq g=>⟨y,q,congr (Gc HA h.1) g.1,g.2⟩⟩
def Pg.obj(c:Nat)(d:Pg (List (Bb×W)) X S):Pg OF X S:=⟨λR o k=>H o.cls λj=>M (Ub j c) (d.dec R o.fs k) Y,λx s=>⟨J c,d.wR x s⟩,λR a k r e=>by
 exact(qS e).elim λj h=>NI (a:=j) (b:=c) (x:=d.dec R a.fs k) (y:=Y) (P:=λx=>x=J r->∃x s,OF.mk (J c) (d.wR x s)=a/\k x s=J r) (λq f=>(d.ok R _ _ _ f).elim λx g=>g.elim λs g=>⟨x,s,congr (Gc OF.mk ((Gc J q.symm).trans h.1.symm)) g.1,g.2⟩) (λe=>ja e) h.2⟩
noncomputable def Pg.pas(c:Pg A X S):Pg A (X×S) Unit:=⟨λR a k=>c.dec R a λx s=>k (x,s) (),λy u=>c.wR y.1 y.2,λR a k r e=>by
 obtain⟨x,s,b,f⟩:=c.ok R a _ r e;exact⟨(x,s),(),b,f⟩⟩
end
inductive Fw(I K:Type)where
 |go (m:I) (h:K)|ret (w:W) (h:K)
section
variable {I K:Type}
def a5(t:I->K->(Bool->Option R)->Option R)(g:I->K->(Fw I K->Option R)->Option R)(n:Nat):I->K->(Fw I K->Option R)->Option R:=un (motive:=λu=>I->K->(Fw I K->Option R)->Option R) (λu u u=>Y) (λu a m h k=>t m h λb=>M b (g m h λr=>Fw.rec (λm h=>a m h k) (λw h=>k (.ret w h)) r) (k (.go m h))) n
noncomputable def kg(g:W->I->K->(Fw I K->Option R)->Option R)(a:List W):I->K->(Fw I K->Option R)->Option R:=gc (motive:=λu=>I->K->(Fw I K->Option R)->Option R) (λm h k=>k (.go m h)) (λx u b m h k=>g x m h λr=>Fw.rec (λm h=>b m h k) (λw h=>k (.ret w h)) r) a
def Y4(t:I->K->(Bool->Option R)->Option R)(g:I->K->(I->K->Option R)->Option R)(n:Nat):I->K->(I->K->Option R)->Option R:=un (motive:=λu=>I->K->(I->K->Option R)->Option R) (λu u u=>Y) (λu a m h k=>t m h λb=>M b (g m h λm h=>a m h k) (k m h)) n
noncomputable def mh(g:W->I->K->(I->K->Option R)->Option R)(a:List W):I->K->(I->K->Option R)->Option R:=gc (motive:=λu=>I->K->(I->K->Option R)->Option R) (λm h k=>k m h) (λx u b m h k=>g x m h λm h=>b m h k) a
def rv(N:I->fc)(eH:K->ub)(k:Fk->Option R)(r:Fw I K):Option R:=Fw.rec (λm h=>k (.go (N m) (eH h))) (λw h=>k (.ret w (eH h))) r
variable {X G:Type} {CM:Pg fc X I} {CH:Pg ub G K} {O:Or} {N:I->fc} {eH:K->ub}
theorem U9{t:fc->ub->(Bool×ub->Option R)->Option R}{b:fc->ub->(Fk->Option R)->Option R}{a:I->K->(Bool->Option R)->Option R}{f:I->K->(Fw I K->Option R)->Option R}
 (j:∀m h k,t (N m) (eH h) k=a m h λb=>k (b,eH h))(l:∀m h k,b (N m) (eH h) k=f m h (rv N eH k))(k:Fk->Option R):∀n m h,T2 t b n (N m) (eH h) k=a5 a f n m h (rv N eH k):=by
 intro n
 induction n with
 |zero=>
  rintro m h;exact rfl
 |succ n o=>
  rintro m h;exact(j m h _).trans (Gc (a m h) (funext λc=>by
   induction c with
   |false=>rfl|true=>exact(l m h _).trans (Gc (f m h) (funext λr=>by
    induction r with
    |go p g=>exact o p g|ret w g=>rfl))))
theorem EG{b:W->fc->ub->(Fk->Option R)->Option R}{c:W->I->K->(Fw I K->Option R)->Option R}(g:∀v m h k,b v (N m) (eH h) k=c v m h (rv N eH k))(k:Fk->Option R):∀a m h,rB b a (N m) (eH h) k=kg c a m h (rv N eH k):=by
 intro a
 induction a with
 |nil=>
  rintro m h;exact rfl
 |cons x a j=>
  rintro m h;exact(g x m h _).trans (Gc (c x m h) (funext λr=>by
   induction r with
   |go l f=>exact j l f|ret w f=>rfl))
theorem S2{t:fc->ub->(Bool×ub->Option R)->Option R}{b:fc->ub->(Fk->Option R)->Option R}{a:I->K->(Bool->Option R)->Option R}{f:I->K->(I->K->Option R)->Option R}
 (g:∀m h k,t (N m) (eH h) k=a m h λb=>k (b,eH h))(j:∀m h k,b (N m) (eH h) k=f m h λm h=>k (.go (N m) (eH h)))(k:Fk->Option R):∀n m h,T2 t b n (N m) (eH h) k=Y4 a f n m h λm h=>k (.go (N m) (eH h)):=by
 intro n
 induction n with
 |zero=>
  rintro m h;exact rfl
 |succ n l=>
  rintro m h;exact(g m h _).trans (Gc (a m h) (funext λc=>by
   induction c with
   |false=>rfl|true=>exact(j m h _).trans (Gc (f m h) (funext λo=>funext λp=>l o p))))
theorem qB{b:W->fc->ub->(Fk->Option R)->Option R}{c:W->I->K->(I->K->Option R)->Option R}(f:∀v m h k,b v (N m) (eH h) k=c v m h λm h=>k (.go (N m) (eH h)))(k:Fk->Option R):∀a m h,rB b a (N m) (eH h) k=mh c a m h λm h=>k (.go (N m) (eH h)):=by
 intro a
 induction a with
 |nil=>
  rintro m h;exact rfl
 |cons x a g=>
  rintro m h;exact(f x m h _).trans (Gc (c x m h) (funext λj=>funext λl=>g j l))
noncomputable abbrev BP(X G I K:Type):=(R:Type)->X->G->I->K->(Fw I K->Option R)->Option R
def Rj(CM:Pg fc X I)(CH:Pg ub G K)(f:BP X G I K):CB:=λR a b k=>CM.dec R a λx m=>CH.dec R b λy h=>f R x y m h (rv (CM.wR x) (CH.wR y) k)
variable {Q:Nat->Option (List Int)} {V:Yp} {d i:Nat}
theorem KI{s:SF}(C:yh O V (Ee db Ib Q V d))(a:Ib i=J s)(b:Mv s=Z){f:BP X G I K}(E:∀R x y m h k,kS O s (CM.wR x m) (CH.wR y h) k=f R x y m h (rv (CM.wR x) (CH.wR y) k)):uh (Ee db Ib Q V (d+1)) i (Rj CM CH f):=λR l o k r e=>by
 refine aa λc=>?_;obtain⟨x,m,rfl,g⟩:=CM.ok _ _ _ _ e;obtain⟨y,h,rfl,j⟩:=CH.ok _ _ _ _ g;refine c ?_;have:=RW (sc:=Q) (R:=R) C s _ _ k r ((E R _ _ _ _ k).trans j);show SK _ ((Ib i).bind _) k r
 refine U a ?_;show SK _ ((Ge (Mv s)).bind _) k r
 exact U b this
theorem UQ{t:B}{b:List SF}(C:yh O V (Ee db Ib Q V d))(a:Ib i=J (.whil t b)){tP:(R:Type)->X->G->I->K->(Bool->Option R)->Option R}{gP:BP X G I K}
 (c:∀R x y m h k,hT O t (CM.wR x m) (CH.wR y h) k=tP R x y m h λb=>k (b,CH.wR y h))(f:∀R x y m h k,Sg O b (CM.wR x m) (CH.wR y h) k=gP R x y m h (rv (CM.wR x) (CH.wR y) k)):uh (Ee db Ib Q V (d+1)) i (Rj CM CH λR x y m h k=>a5 (tP R x y) (gP R x y) 5000 m h k):=
 KI C a rfl λR x y m h k=>by
  show T2 (hT O t) (λg j k=>Sg O b g j k) 5000 _ _ k=_
  generalize 5000=n;exact U9 (c R x y) (f R x y) k n m h
theorem Tr{t:CT}{b:List SF}(C:yh O V (Ee db Ib Q V d))(f:Ib i=J (.fors t e b)){eP:(R:Type)->X->G->I->K->(List W->Option R)->Option R}{gP:W->BP X G I K}
 (g:∀R x y m h k,(kX O e (CM.wR x m) (CH.wR y h) λw=>Nf w k)=eP R x y m h k)(j:∀v R x y m h k,(lk t v (CM.wR x m) λa=>Sg O b a (CH.wR y h) k)=gP v R x y m h (rv (CM.wR x) (CH.wR y) k)):uh (Ee db Ib Q V (d+1)) i (Rj CM CH λR x y m h k=>eP R x y m h λc=>kg (λv=>gP v R x y) c m h k):=
 KI C f rfl λR x y m h k=>(g R x y m h _).trans (Gc (eP R x y m h) (funext λc=>EG (b:=λv l o k=>lk t v l λa=>Sg O b a o k) (λv m h k=>j v R x y m h k) k c m h))
noncomputable abbrev BN(X G I K:Type):=(R:Type)->X->G->I->K->(I->K->Option R)->Option R
def rj(CM:Pg fc X I)(CH:Pg ub G K)(f:BN X G I K):CB:=Rj CM CH λR x y m h k=>f R x y m h λm h=>k (.go m h)
theorem HF{t:B}{b:List SF}(C:yh O V (Ee db Ib Q V d))(a:Ib i=J (.whil t b)){tP:(R:Type)->X->G->I->K->(Bool->Option R)->Option R}{gP:BN X G I K}
 (c:∀R x y m h k,hT O t (CM.wR x m) (CH.wR y h) k=tP R x y m h λb=>k (b,CH.wR y h))(f:∀R x y m h k,Sg O b (CM.wR x m) (CH.wR y h) k=gP R x y m h λm h=>k (.go (CM.wR x m) (CH.wR y h))):uh (Ee db Ib Q V (d+1)) i (rj CM CH λR x y m h k=>Y4 (tP R x y) (gP R x y) 5000 m h k):=
 KI C a rfl λR x y m h k=>by
  show T2 (hT O t) (λg j k=>Sg O b g j k) 5000 _ _ k=_
  generalize 5000=n;exact S2 (c R x y) (f R x y) k n m h
theorem uj{t:CT}{b:List SF}(C:yh O V (Ee db Ib Q V d))(f:Ib i=J (.fors t e b)){eP:(R:Type)->X->G->I->K->(List W->Option R)->Option R}{gP:W->BN X G I K}
 (g:∀R x y m h k,(kX O e (CM.wR x m) (CH.wR y h) λw=>Nf w k)=eP R x y m h k)(j:∀v R x y m h k,(lk t v (CM.wR x m) λa=>Sg O b a (CH.wR y h) k)=gP v R x y m h λm h=>k (.go (CM.wR x m) (CH.wR y h))):uh (Ee db Ib Q V (d+1)) i (rj CM CH λR x y m h k=>eP R x y m h λc=>mh (λv=>gP v R x y) c m h k):=
 KI C f rfl λR x y m h k=>(g R x y m h _).trans (Gc (eP R x y m h) (funext λc=>qB (b:=λv l o k=>lk t v l λa=>Sg O b a o k) (λv m h k=>j v R x y m h k) k c m h))
theorem sT{t:CT}{f:List Mine.Internal.X}{b:List SF}(C:yh O V (Ee db Ib Q V d))(g:Ib i=J (.forz t f b)){eP:(R:Type)->X->G->I->K->(List W->Option R)->Option R}{gP:W->BP X G I K}
 (j:∀R x y m h k,(HN O f (CM.wR x m) (CH.wR y h) λa=>H (fm a) λc=>H (uA c) λl=>H (Bl l) k)=eP R x y m h k)(l:∀v R x y m h k,(lk t v (CM.wR x m) λa=>Sg O b a (CH.wR y h) k)=gP v R x y m h (rv (CM.wR x) (CH.wR y) k)):uh (Ee db Ib Q V (d+1)) i (Rj CM CH λR x y m h k=>eP R x y m h λc=>kg (λv=>gP v R x y) c m h k):=
 KI C g rfl λR x y m h k=>(j R x y m h _).trans (Gc (eP R x y m h) (funext λc=>EG (b:=λv o p k=>lk t v o λa=>Sg O b a p k) (λv m h k=>l v R x y m h k) k c m h))
theorem TM{t:CT}{f:List Mine.Internal.X}{b:List SF}(C:yh O V (Ee db Ib Q V d))(g:Ib i=J (.forz t f b)){eP:(R:Type)->X->G->I->K->(List W->Option R)->Option R}{gP:W->BN X G I K}
 (j:∀R x y m h k,(HN O f (CM.wR x m) (CH.wR y h) λa=>H (fm a) λc=>H (uA c) λl=>H (Bl l) k)=eP R x y m h k)(l:∀v R x y m h k,(lk t v (CM.wR x m) λa=>Sg O b a (CH.wR y h) k)=gP v R x y m h λm h=>k (.go (CM.wR x m) (CH.wR y h))):uh (Ee db Ib Q V (d+1)) i (rj CM CH λR x y m h k=>eP R x y m h λc=>mh (λv=>gP v R x y) c m h k):=
 KI C g rfl λR x y m h k=>(j R x y m h _).trans (Gc (eP R x y m h) (funext λc=>qB (b:=λv o p k=>lk t v o λa=>Sg O b a p k) (λv m h k=>l v R x y m h k) k c m h))
noncomputable def nk(g:W->K->(List W->K->Option R)->Option R)(c:List W):K->(List W->K->Option R)->Option R:=gc (motive:=λu=>K->(List W->K->Option R)->Option R) (λh k=>k [] h) (λx u f h k=>g x h λa h=>f h λb h=>k (a++b) h) c
theorem lv{g:W->ub->(List W×ub->Option R)->Option R}{gP:W->K->(List W->K->Option R)->Option R}(E:∀v h k,g v (eH h) k=gP v h λc h=>k (c,eH h)):∀(b:List W)(h:K)(k:List W×ub->Option R),ot g b (eH h) k=nk gP b h λc h=>k (c,eH h):=by
 intro b
 induction b with
 |nil=>
  rintro h k;exact rfl
 |cons x b f=>
  rintro h k;exact(E x h _).trans (Gc (gP x h) (funext λa=>funext λj=>f j _))
def XS(r:Fk):W×ub:=Fk.rec (λu a=>(.none,a)) (λw a=>(w,a)) r
def bn(O:Or)(fn:Qg)(a:List W)(b:ub)(k:W×ub->Option R):Option R:=M (Ub a.length fn.params) (Sg O fn.body (a.map J++Ia (fn.slots - fn.params) Y) b λr=>k (XS r)) Y
theorem ww{b:List W}{a:ub}(C:yh O V (Ee db Ib Q V 4)):Re (R:=R) (bn O fn b a) (Vo db Ib Q V fn b a):=Rq.grd λh=>by
 show Rq _ _ ((Ge (Ub b.length fn.params)).bind _)
 refine U (vg h) ?_;exact Rq.map (Jn C fn.body _ a) λp f e=>by
  subst e;obtain⟨c,g,a⟩:=p
  induction c<;>rfl
noncomputable def xg{A T:Type}(b:Pg (List W) A Unit)(CH:Pg ub G K)(f:(R:Type)->A->G->K->(T->Option R)->Option R)(g:A->G->K->T->W×ub):CF:=λR c j k=>b.dec R c λa u=>CH.dec R j λy h=>f R a y h λt=>k (g a y h t)
theorem qj{A T:Type}{b:Pg (List W) A Unit}{a:Nat}(C:yh O (Nb db Ib pc n Q) (Ee db Ib Q (Nb db Ib pc n Q) 4))(c:pc a=J fn)(j:fn.mode=.all){f:(R:Type)->A->G->K->(T->Option R)->Option R}{g:A->G->K->T->W×ub}
 (E:∀R a y h k,bn O fn (b.wR a ()) (CH.wR y h) k=f R a y h λt=>k (g a y h t)):mi (Nb db Ib pc (n+1) Q) a (xg b CH f g):=λR p q k r e=>by
 refine aa λl=>?_;obtain⟨a,_,rfl,m⟩:=b.ok _ _ _ _ e;obtain⟨y,h,rfl,o⟩:=CH.ok _ _ _ _ m;refine l ?_;have:=ww (fn:=fn) C k r ((E R _ _ _ k).trans o);show SK _ ((pc _).bind _) k r
 refine U c ?_;show SK _ (zt fn.mode _ _ _ _) k r
 exact U j this
noncomputable def Ck{A:Type}(b:Pg (List W) A Unit)(CH:Pg ub G K)(f:(R:Type)->A->G->K->(W->Option R)->Option R):CR:=λR c g k=>b.dec R c λa u=>CH.dec R g λy h=>f R a y h k
open Classical in
theorem Uq{A:Type}{CA:Pg (List W) A Unit}{a:Nat}(C:yh O (Nb db Ib pc n Q) (Ee db Ib Q (Nb db Ib pc n Q) 4))(hf:pc a=J fn)(hm:fn.mode=.all){f:(R:Type)->A->G->K->(W->Option R)->Option R}
 (E:∀R a y h k,bn O fn (CA.wR a ()) (CH.wR y h) k=f R a y h λt=>k (t,CH.wR y h)):Lg (Nb db Ib pc (n+1) Q) a (Ck CA CH f):=λR ws σ k r e=>by
 refine aa λnq=>?_;obtain⟨a,_,rfl,e2⟩:=CA.ok _ _ _ _ e;obtain⟨y,h,rfl,e3⟩:=CH.ok _ _ _ _ e2;refine nq ?_;have:=ww (fn:=fn) C (λp=>if p.2=CH.wR y h then k p.1 else Y) r ((E R a y h _).trans ((Gc (f R a y h) (funext λw=>Dd rfl)).trans e3))
 induction this with|mk p q e5 e6 e7=>
 refine aa λnq=>?_;subst e6;refine nq ?_;replace e7:(if p.2=CH.wR y h then k p.1 else Y)=J r:=e7
 split at e7
 ·rename_i c
  refine .mk p p.1 ?_ (c▸rfl) e7;show(pc _).bind _=_
  refine U hf ?_;show zt fn.mode _ _ _ _=_
  exact U hm e5
 ·exact ja e7
end
end
end
noncomputable section
abbrev fr{S:Type}(c:Cd W S):Cd (Option W) S:=Cd.some' c
abbrev ow:Cd (Option W) (Option W):=Cd.id
abbrev XX:=OF×OF×(List W×List W×List W×Unit)×ub
noncomputable abbrev Ae:=(List W×List W×Unit)×Unit
noncomputable def qcP:Pg (List (Bb×W)) (List W×List W×List W×Unit) (List W×List W×Unit):=.p (.fld "able" .l)<| .p (.fld "lows" .l)<| .p (.fld "highs" .l)<| .a (.fld "at" (.o .l))<| .a (.fld "counts" (.o .l)) .nil
def Ak:Pg ub XX Ae:=.p .id<| .p .id<| .cons (.obj 357 qcP) .rest
section
variable {R:Type}
noncomputable abbrev XX.wM(y:XX):List W:=y.2.2.1.1
noncomputable abbrev XX.wO(y:XX):List W:=y.2.2.1.2.1
noncomputable abbrev XX.wN(y:XX):List W:=y.2.2.1.2.2.1
noncomputable abbrev Ae.at(h:Ae):List W:=h.1.1
noncomputable abbrev Ae.co(h:Ae):List W:=h.1.2.1
noncomputable abbrev Ae.mk(a c:List W):Ae:=((a,c,()),())
def Vd(n:Int)(k:List W->Option R):Option R:=M (ED 0 n) (M (ED 0 n) (k (vw (n - 0).toNat 0)) Y) Y
def Sd(a:List W):Int:=jb (len a)
def Jl(c:List W)(o:Int)(k:W->Option R):Option R:=Vd (Sd c) λf=>ze (λv e=>H (Ua v) λi=>H (Jg c i) λa=>H (rk a (.int o)) λb=>M b (M (nb v) (e [v]) Y) (e [])) f λa=>M (Jd 4096 a) (k (.l a)) Y
end
section
variable {X:Nat->Option (List Int)} {n d:Nat} {V:Yp}
def UU:CR:=Ck (.sk (.ref 2)<| .p .int .nil) Ak λR a y h k=>Jl h.at a.1 k
theorem LO:Lg (Nb db Ib pc (n+1) X) 328 UU:=Uq .nil rfl rfl λR a y h k=>by kernel_rfl
noncomputable abbrev M1:=(List Int×List W)×List W×Option W×Unit
def qdB:Pg fc (Int×Option W×Option W×Option W×Option W×Unit) M1:=.sk (fr (.ref 2))<| .p (fr .int)<| .a (fr (.o .dic))<| .a (fr (.o .l))<| .p ow<| .a ow<| .p ow<| .p ow<| .p ow .nil
def FW{R:Type}(b:Int)(v:W)(m:M1)(h:Ae)(k:M1->Ae->Option R):Option R:=H (Ua v) λi=>M (Jd 4096 m.1.1) (M (nb v) (M (Jd 4096 m.2.1) (k ((Ql m.1.1 i,Sl m.1.1 i (.t [.int b,.int (-1)]) m.1.2),m.2.1++[v],J v,()) h) Y) Y) Y
def sH{R:Type}(a:List W)(b:Int)(m:M1)(h:Ae)(k:M1->Ae->Option R):Option R:=H (Jg a b) λr=>Nf r λc=>mh (FW b) c m h k
def AP:CB:=rj qdB Ak λR x y m h k=>sH y.wM x.1 m h k
theorem TZ:uh (Ee db Ib X V (d+1)) 3351 AP:=uj (CM:=qdB) (CH:=Ak) .nil rfl (eP:=λR x y m h k=>H (Jg y.wM x.1) λr=>Nf r k) (gP:=λv R x y m h k=>FW x.1 v m h k) (λR x y m h k=>by kernel_rfl) λv R x y m h k=>by kernel_rfl
noncomputable abbrev M3:=W×Option W×Option W×Unit
def qdD:Pg fc (Option W×(List Int×List W)×Option W×Option W×Option W×Unit) M3:=.sk (fr (.ref 2))<| .p ow<| .p (fr (.o .dic))<| .p ow<| .p ow<| .p ow<| .a (fr .id)<| .a ow<| .a ow .nil
def WO{R:Type}(w:W)(k:W->W->Option R):Option R:=M (nb w) (H (lg w) λa=>H (Wj a) λp=>H (Wj p.2) λq=>M (Ay q.2) (k p.1 q.1) Y) Y
def GW{R:Type}(c:List Int×List W)(m:M3)(h:Ae)(k:M3->Ae->Option R):Option R:=H (Ua m.1) λi=>H (JB c.1 i c.2) λw=>WO w λa b=>M (nb m.1) (M (nb m.1) (H (Ua a) λx=>H (ju h.at x m.1) λe=>M (nb b) (k (b,J a,J b,()) (.mk e h.co)) Y) Y) Y
def vX{R:Type}(m:M3)(k:Bool->Option R):Option R:=H (Ua m.1) λx=>k (!Ph x 0)
def bC{R:Type}(c:List Int×List W)(m:M3)(h:Ae)(k:M3->Ae->Option R):Option R:=Y4 (λm u=>vX m) (GW c) 5000 m h k
def EC:CB:=rj qdD Ak λR x y m h k=>bC x.2.1 m h k
theorem VZ:uh (Ee db Ib X V (d+1)) 3353 EC:=HF (CM:=qdD) (CH:=Ak) .nil rfl (tP:=λR x y m h k=>vX m k) (gP:=λR x y m h k=>GW x.2.1 m h k) (λR x y m h k=>by kernel_rfl) λR x y m h k=>by kernel_rfl
def qdF:Pg fc (Option W×Option W×W×W×Option W×Unit) M1:=.sk (fr (.ref 2))<| .p ow<| .a (fr (.o .dic))<| .a (fr (.o .l))<| .p ow<| .a ow<| .p (fr .id)<| .p (fr .id)<| .p ow .nil
def HW{R:Type}(a b v:W)(m:M1)(h:Ae)(k:M1->Ae->Option R):Option R:=H (Ua v) λx=>M (!Vk x m.1.1) (M (nb b) (M (nb a) (H (Ua v) λi=>M (Jd 4096 m.1.1) (M (nb v) (M (Jd 4096 m.2.1) (k ((Ql m.1.1 i,Sl m.1.1 i (.t [b,a]) m.1.2),m.2.1++[v],J v,()) h) Y) Y) Y) Y) Y) (k (m.1,m.2.1,J v,()) h)
def uH{R:Type}(a:List W)(b c:W)(m:M1)(h:Ae)(k:M1->Ae->Option R):Option R:=H (Ua c) λi=>H (Jg a i) λr=>Nf r λe=>mh (HW b c) e m h k
def DP:CB:=rj qdF Ak λR x y m h k=>uH y.wM x.2.2.1 x.2.2.2.1 m h k
theorem XZ:uh (Ee db Ib X V (d+1)) 3355 DP:=uj (CM:=qdF) (CH:=Ak) .nil rfl (eP:=λR x y m h k=>H (Ua x.2.2.2.1) λi=>H (Jg y.wM i) λr=>Nf r k) (gP:=λv R x y m h k=>HW x.2.2.1 x.2.2.2.1 v m h k) (λR x y m h k=>by kernel_rfl) λv R x y m h k=>by kernel_rfl
noncomputable abbrev M4:=(List Int×List W)×List W×Option W×Option W×Unit
def qdE:Pg fc (Option W×Option W×W×Option W×Unit) M4:=.sk (fr (.ref 2))<| .p ow<| .a (fr (.o .dic))<| .a (fr (.o .l))<| .p ow<| .a ow<| .p (fr .id)<| .a ow<| .p ow .nil
def HG{R:Type}(a:List W)(b v:W)(m:M4)(h:Ae)(k:M4->Ae->Option R):Option R:=uH a b v (m.1,m.2.1,m.2.2.1,()) h λm h=>k (m.1,m.2.1,m.2.2.1,J v,()) h
def qt{R:Type}(a:W)(h:Ae)(k:List W->Option R):Option R:=M (nb a) (H (Ua a) λo=>Jl h.at o λw=>Nf w k) Y
def tH{R:Type}(b:List W)(a:W)(m:M4)(h:Ae)(k:M4->Ae->Option R):Option R:=qt a h λc=>mh (HG b a) c m h k
def CP:CB:=rj qdE Ak λR x y m h k=>tH y.wM x.2.2.1 m h k
theorem WZ:uh (Ee db Ib X (Nb db Ib pc (n+1) X) (d+2)) 3354 CP:=uj (CM:=qdE) (CH:=Ak) ((yh.nil.r LO).b XZ) rfl (eP:=λR x y m h k=>qt x.2.2.1 h k) (gP:=λv R x y m h k=>HG y.wM x.2.2.1 v m h k) (λR x y m h k=>by kernel_rfl) λv R x y m h k=>by kernel_rfl
noncomputable abbrev M2:=(List Int×List W)×List W×Int×Option W×Option W×Option W×Option W×Unit
def qdC:Pg fc (Option W×Unit) M2:=.sk (fr (.ref 2))<| .p ow<| .a (fr (.o .dic))<| .a (fr (.o .l))<| .a (fr .int)<| .a ow<| .a ow<| .a ow<| .a ow .nil
def Jp{R:Type}(e f:List W)(i:W)(k:Int->Int->Option R):Option R:=H (Ua i) λa=>H (Jg e a) λc=>H (Ua i) λb=>H (Jg f b) λh=>H (Ua c) λx=>H (Ua h) λy=>k x y
def TR{R:Type}(e:List W)(i:W)(z:Int->Int)(k:List W->Option R):Option R:=H (Ua i) λa=>H (Jg e a) λc=>H (Ua c) λx=>H (Ua i) λb=>H (ju e b (.int (z x))) k
def UM{R:Type}(c a:List W)(m:M2)(h:Ae)(k:Fw M2 Ae->Option R):Option R:=H (Jg m.2.1 m.2.2.1) λb=>M (nb b) (Jp h.co a b λx y=>M (Ph x y)
 (TR h.co b (λx=>x+1) λe=>bC m.1 (b,m.2.2.2.2.2.1,m.2.2.2.2.2.2.1,()) (.mk h.at e) λm h=>k (.ret .none h))
 (tH c b (m.1,m.2.1,m.2.2.2.1,m.2.2.2.2.2.1,()) h λe h=>k (.go (e.1,e.2.1,m.2.2.1+1,e.2.2.1,J b,e.2.2.2.1,m.2.2.2.2.2.2.1,()) h))) Y
def uX{R:Type}(m:M2)(k:Bool->Option R):Option R:=k (Ph m.2.2.1 (Sd m.2.1))
def aC{R:Type}(b a:List W)(m:M2)(h:Ae)(k:Fw M2 Ae->Option R):Option R:=a5 (λm u=>uX m) (UM b a) 5000 m h k
def DC:CB:=Rj qdC Ak λR x y m h k=>aC y.wM y.wN m h k
theorem UZ:uh (Ee db Ib X (Nb db Ib pc (n+1) X) (d+3)) 3352 DC:=UQ (CM:=qdC) (CH:=Ak) ((yh.nil.b VZ).b WZ) rfl (tP:=λR x y m h k=>uX m k) (gP:=λR x y m h k=>UM y.wM y.wN m h k) (λR x y m h k=>by kernel_rfl) λR x y m h k=>by delta EC UM bC;generalize 5000=N;as_aux_lemma=>kernel_rfl
def Ls{R:Type}(a c:List W)(b:Int)(h:Ae)(k:W->Ae->Option R):Option R:=sH a b (([],[]),[],Y,()) h λm h=>aC a c (m.1,m.2.1,0,m.2.2.1,Y,Y,Y,()) h λr=>Fw.rec (λm h=>H (XC (.l m.2.1)) λe=>M (Jd 4096 e) (k (.l e) h) Y) (λw h=>k w h) r
def VU:CF:=xg (.sk (.ref 2)<| .p .int .nil) Ak (λR a y h k=>Ls y.wM y.wN a.1 h λw h=>k (w,h)) λu y u t=>(t.1,Ak.wR y t.2)
theorem D8:mi (Nb db Ib pc (n+2) X) 335 VU:=qj ((yh.nil.b TZ).b UZ) rfl rfl λR a y h k=>by delta DC Ls aC;generalize 5000=N;as_aux_lemma=>kernel_rfl
end
end
section
variable {R:Type}
noncomputable section
section
variable {X:Nat->Option (List Int)} {n d:Nat} {V:Yp}
noncomputable abbrev DW:=List Int×List W
noncomputable abbrev M6:=W×Option W×Unit
def qdG:Pg fc (W×DW×Unit) M6:=.sk (fr (.ref 2))<| .a (fr .id)<| .p (fr .id)<| .p (fr .dic)<| .a ow .nil
def yX(w:W)(m:M6)(k:Bool->Option R):Option R:=H (rk m.1 w) λb=>k (!b)
def IW(c:DW)(m:M6)(h:Ae)(k:M6->Ae->Option R):Option R:=H (Ua m.1) λi=>H (JB c.1 i c.2) λw=>WO w λa b=>M (nb b) (M (nb b) (H (Ua a) λx=>H (ju h.at x b) λe=>k (b,J a,()) (.mk e h.co)) Y) Y
def vH(N:Nat)(w:W)(c:DW)(m:M6)(h:Ae)(k:M6->Ae->Option R):Option R:=Y4 (λm u=>yX w m) (IW c) N m h k
def GC(N:Nat):CB:=rj qdG Ak λR x y m h k=>vH N x.1 x.2.1 m h k
theorem a0:uh (Ee db Ib X V (d+1)) 3491 (GC 5000):=HF (CM:=qdG) (CH:=Ak) .nil rfl (tP:=λR x y m h k=>yX x.1 m k) (gP:=λR x y m h k=>IW x.2.1 m h k) (λR x y m h k=>by kernel_rfl) λR x y m h k=>by kernel_rfl
def MB(N:Nat)(o w:W)(c:DW)(h:Ae)(k:W->Ae->Option R):Option R:=TR h.co o (λx=>x - 1) λa=>TR a w (λx=>x+1) λa=>vH N w c (o,Y,()) (.mk h.at a) λu h=>k .none h
def WU(N:Nat):CF:=xg (.sk (.ref 2)<| .p .id<| .p .id<| .p .dic .nil) Ak (λR a y h k=>MB N a.1 a.2.1 a.2.2.1 h λw h=>k (w,h)) λu y u t=>(t.1,Ak.wR y t.2)
theorem n7(N:Nat)(R:Type)(a:W×W×DW×Unit)(y:XX)(h:Ae)(k:W×ub->Option R):bn (Or.nil.b 3491 (GC N)) H7 [.ref 2,a.1,a.2.1,.dic a.2.2.1.1 a.2.2.1.2] (Ak.wR y h) k=MB N a.1 a.2.1 a.2.2.1 h λw h=>k (w,Ak.wR y h):=by kernel_rfl
theorem F8:mi (Nb db Ib pc (n+1) X) 349 (WU 5000):=qj (yh.nil.b a0) rfl rfl (n7 5000)
abbrev M7:=DW×List W×Option W×Option W×Unit
def qdH:Pg fc (W×Option W×W×Unit) M7:=.sk (fr (.ref 2))<| .p (fr .id)<| .a (fr (.o .dic))<| .a (fr (.o .l))<| .p ow<| .p (fr .id)<| .a ow<| .a ow .nil
def sy(f g:List W)(a e:W)(j:Ae->ub)(v:W)(m:M7)(h:Ae)(k:Fw M7 Ae->Option R):Option R:=H (Ua v) λi=>H (Jg h.at i) λo=>M (nb o) (H (Ua v) λi=>H (Jg f i) λr=>H (pj r (j h)) λc=>H (DA e c) λb=>
 M b (H (Ua o) λx=>M (!Vk x m.1.1)
  (M (nb v) (M (nb e) (H (Ua o) λi=>M (Jd 4096 m.1.1) (M (nb o) (M (Jd 4096 m.2.1)
   (Jp h.co g o λx y=>M (Ph y x) (M (nb o) (M (nb a) (MB 5000 o a (Ql m.1.1 i,Sl m.1.1 i (.t [v,e]) m.1.2) h λw h=>H (uG w) λu=>k (.ret .none h)) Y) Y)
    (k (.go ((Ql m.1.1 i,Sl m.1.1 i (.t [v,e]) m.1.2),m.2.1++[o],J v,J o,()) h))) Y) Y) Y) Y) Y)
  (k (.go (m.1,m.2.1,J v,J o,()) h))) (k (.go (m.1,m.2.1,J v,J o,()) h))) Y
def dC(b c:List W)(a e:W)(f:Ae->ub)(m:M7)(h:Ae)(k:Fw M7 Ae->Option R):Option R:=Vd (Sd h.at) λg=>kg (sy b c a e f) g m h k
def EP:CB:=Rj qdH Ak λR x y m h k=>dC y.wM y.wO x.1 x.2.2.1 (Ak.wR y) m h k
theorem ZZ:uh (Ee db Ib X (Nb db Ib pc (n+1) X) (d+1)) 3422 EP:=Tr (CM:=qdH) (CH:=Ak) (yh.nil.c F8) rfl (eP:=λR x y m h k=>Vd (Sd h.at) k) (gP:=λv R x y m h k=>sy y.wM y.wO x.1 x.2.2.1 (Ak.wR y) v m h k) (λR x y m h k=>by kernel_rfl) λv R x y m h k=>by kernel_rfl
abbrev M8:=DW×List W×Int×Option W×Option W×Option W×Unit
def qdI:Pg fc (W×Unit) M8:=.sk (fr (.ref 2))<| .p (fr .id)<| .a (fr (.o .dic))<| .a (fr (.o .l))<| .a (fr .int)<| .a ow<| .a ow<| .a ow .nil
def VM(b c:List W)(a:W)(g:Ae->ub)(m:M8)(h:Ae)(k:Fw M8 Ae->Option R):Option R:=H (Jg m.2.1 m.2.2.1) λf=>M (nb f) (dC b c a f g (m.1,m.2.1,m.2.2.2.2.1,m.2.2.2.2.2.1,()) h λr=>Fw.rec (λe h=>k (.go (e.1,e.2.1,m.2.2.1+1,J f,e.2.2.1,e.2.2.2.1,()) h)) (λw h=>k (.ret w h)) r) Y
def xX(m:M8)(k:Bool->Option R):Option R:=k (Ph m.2.2.1 (Sd m.2.1))
def cC(N:Nat)(b c:List W)(a:W)(e:Ae->ub)(m:M8)(h:Ae)(k:Fw M8 Ae->Option R):Option R:=a5 (λm u=>xX m) (VM b c a e) N m h k
def FC(N:Nat):CB:=Rj qdI Ak λR x y m h k=>cC N y.wM y.wO x.1 (Ak.wR y) m h k
theorem YZ:uh (Ee db Ib X (Nb db Ib pc (n+1) X) (d+2)) 3421 (FC 5000):=UQ (CM:=qdI) (CH:=Ak) (yh.nil.b ZZ) rfl (tP:=λR x y m h k=>xX m k) (gP:=λR x y m h k=>VM y.wM y.wO x.1 (Ak.wR y) m h k) (λR x y m h k=>by kernel_rfl) λR x y m h k=>by kernel_rfl
def tq(N:Nat)(a b:List W)(w:Int)(e:Ae->ub)(h:Ae)(k:W->Ae->Option R):Option R:=cC N a b (.int w) e (([w],[.t [.int (-1),.int (-1)]]),[.int w],0,Y,Y,Y,()) h λr=>Fw.rec (λm h=>H (XC (.l m.2.1)) λc=>M (Jd 4096 c) (k (.l c) h) Y) (λw h=>k w h) r
def PH(N:Nat):CF:=xg (.sk (.ref 2)<| .p .int .nil) Ak (λR a y h k=>tq N y.wM y.wO a.1 (Ak.wR y) h λw h=>k (w,h)) λu y u t=>(t.1,Ak.wR y t.2)
theorem l7(N:Nat)(R:Type)(a:Int×Unit)(y:XX)(h:Ae)(k:W×ub->Option R):bn (Or.nil.b 3421 (FC N)) G7 [.ref 2,.int a.1] (Ak.wR y h) k=tq N y.wM y.wO a.1 (Ak.wR y) h λw h=>k (w,Ak.wR y h):=by kernel_rfl
theorem E8:mi (Nb db Ib pc (n+2) X) 342 (PH 5000):=qj (yh.nil.b YZ) rfl rfl (l7 5000)
noncomputable abbrev M9:=List W×Option W×Unit
def qdJ:Pg fc (Option W×Option W×Option W×Option W×Option W×W×Option W×Unit) M9:=.sk (fr (.ref 2))<| .p ow<| .p ow<| .p ow<| .p ow<| .p ow<| .p (fr .id)<| .a (fr (.o .l))<| .p ow<| .a ow .nil
def KW(a:List W)(v:W)(m:M9)(h:Ae)(k:M9->Ae->Option R):Option R:=H (Ua v) λi=>H (Jg a i) λr=>M (nb r) (H (wv r) λb=>M (ac (len m.1+len b) 4096) (k (m.1++b,J v,()) h) Y) Y
def xH(a:List W)(b:W)(m:M9)(h:Ae)(k:M9->Ae->Option R):Option R:=qt b h λc=>mh (KW a) c m h k
def FP:CB:=rj qdJ Ak λR x y m h k=>xH y.wM x.2.2.2.2.2.1 m h k
theorem d0:uh (Ee db Ib X (Nb db Ib pc (n+1) X) (d+1)) 3542 FP:=uj (CM:=qdJ) (CH:=Ak) (yh.nil.r LO) rfl (eP:=λR x y m h k=>qt x.2.2.2.2.2.1 h k) (gP:=λv R x y m h k=>KW y.wM v m h k) (λR x y m h k=>by kernel_rfl) λv R x y m h k=>by kernel_rfl
def J6:Pg fc (Option W×Option W×Option W×Option W×List W×Option W×Unit) M1:=.sk (fr (.ref 2))<| .p ow<| .a (fr (.o .dic))<| .a (fr (.o .l))<| .p ow<| .p ow<| .p ow<| .p (fr .l)<| .a ow<| .p ow .nil
def LW(v:W)(m:M1)(h:Ae)(k:M1->Ae->Option R):Option R:=H (Ua v) λx=>M (!Vk x m.1.1) (H (Ua v) λi=>M (Jd 4096 m.1.1) (M (nb v) (M (Jd 4096 m.2.1) (k ((Ql m.1.1 i,Sl m.1.1 i (.bool Z) m.1.2),m.2.1++[v],J v,()) h) Y) Y) Y) (k (m.1,m.2.1,J v,()) h)
def yH(fresh:List W)(m:M1)(h:Ae)(k:M1->Ae->Option R):Option R:=M (Jd 4900 fresh) (mh LW fresh m h k) Y
def GP:CB:=rj J6 Ak λR x y m h k=>yH x.2.2.2.2.1 m h k
theorem i0:uh (Ee db Ib X V (d+1)) 3543 GP:=uj (CM:=J6) (CH:=Ak) .nil rfl (eP:=λR x y m h k=>M (Jd 4900 x.2.2.2.2.1) (k x.2.2.2.2.1) Y) (gP:=λv R x y m h k=>LW v m h k) (λR x y m h k=>by kernel_rfl) λv R x y m h k=>by kernel_rfl
abbrev mR:=DW×List W×Int×Bool×Option W×Option W×Option W×Option W×Unit
def K6:Pg fc (Option W×Unit) mR:=.sk (fr (.ref 2))<| .p ow<| .a (fr (.o .dic))<| .a (fr (.o .l))<| .a (fr .int)<| .a (fr .bool)<| .a ow<| .a ow<| .a ow<| .a ow .nil
def mF(a:List W)(h:Ae)(k:List W->Option R):Option R:=Vd (Sd a) λc=>ze (λv b=>Jp h.co a v λx y=>M (Ph y x) (M (nb v) (b [v]) Y) (b [])) c λb=>M (Jd 4096 b) (k b) Y
def wC(a:List W)(c:W)(m:mR)(r:Bool)(fresh:List W)(h:Ae)(k:mR->Ae->Option R):Option R:=xH a c (fresh,m.2.2.2.2.2.2.2.1,()) h λm1 h=>yH m1.1 (m.1,m.2.1,m.2.2.2.2.2.2.1,()) h λb h=>k (b.1,b.2.1,m.2.2.1+1,r,J c,J (.l m1.1),b.2.2.1,m1.2.1,()) h
def JW(a c b:List W)(m:mR)(h:Ae)(k:mR->Ae->Option R):Option R:=H (Jg m.2.1 m.2.2.1) λe=>M (nb e) (M (!m.2.2.2.1) (Jp h.co b e λx y=>M (Ph x y) (mF c h λf=>M (ac (len ([]:List W)+len f) 4096) (wC a e m Z ([]++f) h k) Y) (wC a e m m.2.2.2.1 [] h k)) (wC a e m m.2.2.2.1 [] h k)) Y
def zX(m:mR)(k:Bool->Option R):Option R:=k (Ph m.2.2.1 (Sd m.2.1))
def wH(N:Nat)(b c a:List W)(m:mR)(h:Ae)(k:mR->Ae->Option R):Option R:=Y4 (λm u=>zX m) (JW b c a) N m h k
def HC(N:Nat):CB:=rj K6 Ak λR x y m h k=>wH N y.wM y.wO y.wN m h k
theorem b0:uh (Ee db Ib X (Nb db Ib pc (n+1) X) (d+2)) 3541 (HC 5000):=HF (CM:=K6) (CH:=Ak) ((yh.nil.b d0).b i0) rfl (tP:=λR x y m h k=>zX m k) (gP:=λR x y m h k=>JW y.wM y.wO y.wN m h k) (λR x y m h k=>by kernel_rfl) λR x y m h k=>by kernel_rfl
def Tl(N:Nat)(b c a:List W)(o:Int)(h:Ae)(k:List W->Bool->Ae->Option R):Option R:=wH N b c a (([o],[.bool Z]),[.int o],0,ua,Y,Y,Y,Y,()) h λm h=>H (XC (.dic m.1.1 m.1.2)) λe=>M (Jd 4096 e) (k e m.2.2.2.1 h) Y
def QH(N:Nat):CF:=xg (.sk (.ref 2)<| .p .int .nil) Ak (λR a y h k=>Tl N y.wM y.wO y.wN a.1 h λb r h=>k (b,r,h)) λu y u t=>(.t [.l t.1,.bool t.2.1],Ak.wR y t.2.2)
theorem o7(N:Nat)(R:Type)(a:Int×Unit)(y:XX)(h:Ae)(k:W×ub->Option R):bn (Or.nil.b 3541 (HC N)) I7 [.ref 2,.int a.1] (Ak.wR y h) k=Tl N y.wM y.wO y.wN a.1 h λb r h=>k (.t [.l b,.bool r],Ak.wR y h):=by kernel_rfl
theorem G8:mi (Nb db Ib pc (n+2) X) 354 (QH 5000):=qj (yh.nil.b b0) rfl rfl (o7 5000)
end
end
end
section
variable {R:Type}
noncomputable section
def Rh(O:Or)(V:Qg)(b:List W):Option W:=M (Ob b) (bn O V b [] λp=>ma p.2 (J p.1) λu u=>Y) Y
def rh(v:List W->Option W):CR:=λu b u k=>H (v b) k
def PP(v:List W->Option W):CF:=λu b c k=>H (v b) λw=>k (w,c)
section
variable {X:Nat->Option (List Int)} {n d a:Nat} {T:Yp} {Q:Nat->fc->ub->al} {O:Or} {V:Qg} {S:List W->Option W}
theorem Yn(C:yh O (Nb db Ib pc n λy=>Y) (Ee db Ib (λy=>Y) (Nb db Ib pc n λy=>Y) 4))(h:pc a=J V)(i:V.mode=.pure):Lg (Nb db Ib pc (n+1) X) a (rh (Rh O V)):=λR c j k r e=>by
 refine dp e λw b l=>?_;unfold Rh at b
 induction f:Ob c with
 |false=>rw[f]at b;exact ja b|true=>
  rw[f]at b;replace b:bn O V c [] (λp=>ma p.2 (J p.1) λy y=>Y)=J w:=b
  induction ww (fn:=V) C _ w b with|mk p q m o g=>
  subst o;obtain⟨u,s⟩:=p
  induction s using ma with
  |cons=>exact ja g|nil=>
   obtain rfl:=ba g;refine .mk (u,j) u ?_ rfl l;show(pc a).bind _=_
   refine U h ?_;show zt V.mode _ _ _ _=_
   refine U i ?_;show(Ge (Ob c)).bind _=_
   refine U (vg f) ?_;show(Vo _ _ _ _ _ _ _).bind _=_
   refine U m ?_;rfl
theorem T9(h:Lg T a (rh S)):mi T a (PP S):=λR b c=>Rx.e (h R b c)
noncomputable def Or.v(O:Or)(a:Nat)(v:List W->Option W):Or:=(O.r a (rh v)).c a (PP v)
theorem yh.v(C:yh O T Q)(h:Lg T a (rh S)):yh (O.v a S) T Q:=(C.r h).c (T9 h)
def qeq:=Rh .nil qdU
def qer:=Rh .nil qdV
def qaR:=Rh .nil qdW
def qes:=Rh .nil qdX
def qaS:=Rh (Or.nil.v 47 qes) qdY
def qaT:=Rh .nil qdZ
def qde:=Rh .nil qea
def qdf:=Rh .nil qeb
def qet:=Rh ((Or.nil.v 66 qde).v 71 qdf) qec
def qeu:=Rh .nil qed
def qdg:=Rh .nil qee
def LK:=Rh ((((Or.nil.v 66 qde).v 71 qdf).v 78 qet).v 85 qeu) qef
def kD:=Rh (Or.nil.v 99 LK) E7
def JQ:=Rh ((Or.nil.v 28 qeq).v 35 qer) F7
def KQ:=Rh .nil N7
theorem qcG:Lg (Nb db Ib pc (n+1) X) 28 (rh qeq):=Yn .nil rfl rfl
theorem qcH:Lg (Nb db Ib pc (n+1) X) 35 (rh qer):=Yn .nil rfl rfl
theorem qcI:Lg (Nb db Ib pc (n+1) X) 40 (rh qaR):=Yn .nil rfl rfl
theorem qcJ:Lg (Nb db Ib pc (n+1) X) 47 (rh qes):=Yn .nil rfl rfl
theorem qcK:Lg (Nb db Ib pc (n+2) X) 54 (rh qaS):=Yn (yh.nil.v qcJ) rfl rfl
theorem qcL:Lg (Nb db Ib pc (n+1) X) 61 (rh qaT):=Yn .nil rfl rfl
theorem X8:Lg (Nb db Ib pc (n+1) X) 66 (rh qde):=Yn .nil rfl rfl
theorem Y8:Lg (Nb db Ib pc (n+1) X) 71 (rh qdf):=Yn .nil rfl rfl
theorem qcM:Lg (Nb db Ib pc (n+2) X) 78 (rh qet):=Yn ((yh.nil.v X8).v Y8) rfl rfl
theorem qcN:Lg (Nb db Ib pc (n+1) X) 85 (rh qeu):=Yn .nil rfl rfl
theorem qcO:Lg (Nb db Ib pc (n+1) X) 92 (rh qdg):=Yn .nil rfl rfl
theorem Z8:Lg (Nb db Ib pc (n+3) X) 99 (rh LK):=Yn ((((yh.nil.v X8).v Y8).v qcM).v qcN) rfl rfl
theorem o8:Lg (Nb db Ib pc (n+4) X) 106 (rh kD):=Yn (yh.nil.v Z8) rfl rfl
theorem ZW:Lg (Nb db Ib pc (n+2) X) 309 (rh JQ):=Yn ((yh.nil.v qcG).v qcH) rfl rfl
theorem R8:Lg (Nb db Ib pc (n+1) X) 451 (rh KQ):=Yn .nil rfl rfl
abbrev Ff:=List W×List W×List W×List W×DW×Int×Bool×List W×Unit
def E9:Pg (List (Bb×W)) Unit Ff:=.a (.fld "domains" (.o .l))<| .a (.fld "firsts" (.o .l))<| .a (.fld "trail" (.o .l))<| .a (.fld "marks" (.o .l))<| .a (.fld "news" (.o .dic))<| .a (.fld "speaker" .int)<| .a (.fld "is_failed" .bool)<| .a (.fld "clash" .t) .nil
abbrev qeI:=Unit×ub
abbrev qeH:=Ff×Unit
def gu:Pg ub qeI qeH:=.cons (.obj 256 E9) .rest
noncomputable abbrev Ff.wL(s:Ff):List W:=s.1
noncomputable abbrev Ff.trail(s:Ff):List W:=s.2.2.1
noncomputable abbrev Ff.news(s:Ff):DW:=s.2.2.2.2.1
noncomputable abbrev Ff.spk(s:Ff):Int:=s.2.2.2.2.2.1
noncomputable abbrev Ff.bad(s:Ff):Bool:=s.2.2.2.2.2.2.1
noncomputable abbrev Ff.put(s:Ff)(b c:List W)(e:DW):Ff:=(b,s.2.1,c,s.2.2.2.1,e,s.2.2.2.2.2)
noncomputable abbrev Ff.fails(s:Ff)(c:List W):Ff:=(s.1,s.2.1,s.2.2.1,s.2.2.2.1,s.2.2.2.2.1,s.2.2.2.2.2.1,Z,c,())
def gx(b:List W)(x:W)(k:W->Option R):Option R:=H (Ua x) λi=>H (Jg b i) k
def NU:CR:=Ck (.sk (.ref 0)<| .p .id .nil) gu λR a y h k=>gx h.1.wL a.1 λd=>M (nb d) (k d) Y
theorem oH:Lg (Nb db Ib pc (n+1) X) 141 NU:=Uq .nil rfl rfl λR a y h k=>by kernel_rfl
def R7(b:List W)(x v:W)(k:W->Option R):Option R:=gx b x λd=>M (EA [d,v]) (H (qaS [d,v]) λw=>M (nb w) (k w) Y) Y
def OU:CR:=Ck (.sk (.ref 0)<| .p .id<| .p .id .nil) gu λR a y h k=>R7 h.1.wL a.1 a.2.1 k
theorem s8:Lg (Nb db Ib pc (n+3) X) 169 OU:=Uq (yh.nil.v qcK) rfl rfl λR a y h k=>by kernel_rfl
def XQ(b:List W)(x:W)(k:W->Option R):Option R:=gx b x λd=>M (EA [d]) (H (qaR [d]) λw=>M (nb w) (k w) Y) Y
def PU:CR:=Ck (.sk (.ref 0)<| .p .id .nil) gu λR a y h k=>XQ h.1.wL a.1 k
theorem t8:Lg (Nb db Ib pc (n+2) X) 190 PU:=Uq (yh.nil.v qcI) rfl rfl λR a y h k=>by kernel_rfl
def Qo(r:W)(c:Ff->ub)(h:Ff)(k:Ff->Option R):Option R:=H (fu r (c (h.fails h.2.2.2.2.2.2.2.1))) λb=>M (Jd 4096 b) (k (h.fails b)) Y
def cA:CF:=xg (.sk (.ref 0)<| .p .id .nil) gu (λR a y h k=>Qo a.1 (λs=>gu.wR y (s,())) h.1 k) λu y u s=>(.bool ua,gu.wR y (s,()))
theorem WB:mi (Nb db Ib pc (n+1) X) 225 cA:=qj .nil rfl rfl λR a y h k=>by kernel_rfl
def qbl(e:List W)(f:W)(c:Ff->ub)(h:Ff)(k:Bool×Ff->Option R):Option R:=H (qaC f .none) λb=>M b
 (H (qdg [.t e]) λw=>M (nb w) (Qo (.t ([]++[w])) c h λs=>k (ua,s)) Y)
 (H (qdg [.t e]) λw=>M (nb w) (sL f (.t [w]) (c h) λr=>M (nb r) (Qo r c h λs=>k (ua,s)) Y) Y)
def rp(e:List W)(f g:W)(j:Ff->ub)(h:Ff)(k:Bool×Ff->Option R):Option R:=H (Jg e 0) λx=>M (nb x) (gx h.wL x λc=>M (nb c) (M (EA [.t e,c]) (H (LK [.t e,c]) λfresh=>M (nb fresh) (H (rk fresh (.t [])) λb=>M b (qbl e f j h k) (H (rk fresh c) λb=>M b (k (Z,h))
 (M (nb x) (M (nb c) (M (nb f) (M (nb g) (M (Jd 4096 h.trail) (M (nb fresh) (M (nb fresh) (H (Ua x) λi=>H (ju h.wL i fresh) λl=>H (Ua x) λi=>M (Jd 4096 h.news.1) (k (Z,h.put l (h.trail++[.t [x,c,.t e,f,g]]) (Ql h.news.1 i,Sl h.news.1 i (.bool Z) h.news.2))) Y) Y) Y) Y) Y) Y) Y) Y))) Y) Y) Y) Y
def QU:CF:=xg (.sk (.ref 0)<| .p .t<| .p .id<| .p .id .nil) gu (λR a y h k=>rp a.1 a.2.1 a.2.2.1 (λs=>gu.wR y (s,())) h.1 k) λu y u t=>(.bool t.1,gu.wR y (t.2,()))
theorem YW:mi (Nb db Ib pc (n+4) X) 204 QU:=qj (((yh.nil.v qcO).v Z8).c WB) rfl rfl λR a y h k=>by kernel_rfl
end
end
end
section
variable {R:Type}
noncomputable section
noncomputable def sG(m:Nat):List W->(List W->Option R)->Option R
 |[],k=>k []|w::b,k=>H (wl m w) λv=>sG m b λc=>k (v::c)
def xF(f:CF):CF:=λR b c k=>H (uq b) λm=>M (fh m (len c)) (sG m b λe=>M (oe (c.drop m)) (f R e (c.drop m) λp=>M (Hd p.1) (M (oe (p.2.take (c.length - m))) (k (p.1,c.take m++p.2.take (c.length - m))) Y) Y) Y) Y
section
variable {V:Nat->Option (List Int)} {n d a:Nat} {P:Yp} {Q:Nat->fc->ub->al} {O:Or} {S:Qg} {X L N T A:Type}
theorem pv{m:Nat}:{b:List W}->Re (R:=R) (sG m b) (jB m b)
 |[]=>Rq.ret rfl|w::b=>Rq.wW λv=>pv.map λc=>rfl
theorem Ss{b:Pg (List W) A Unit}{c:Pg ub L N}(C:yh O (Nb db Ib pc n V) (Ee db Ib V (Nb db Ib pc n V) 4))(l:pc a=J S)(o:S.mode=.sub){f:(R:Type)->A->L->N->(T->Option R)->Option R}{g:A->L->N->T->W×ub}
 (E:∀R a y h k,bn O S (b.wR a ()) (c.wR y h) k=f R a y h λt=>k (g a y h t)):mi (Nb db Ib pc (n+1) V) a (xF (xg b c f g)):=λR i q=>by
 show Re _ ((pc a).bind _)
 refine U l ?_;show Re _ (zt S.mode _ _ _ _)
 refine U o (Rq.wW λm=>Rq.grd λj=>?_);rw[Qe]at j;refine U (vg (decide_eq_true (gb j))) (pv.bind λi=>Rq.grd λs=>(U (vg s) ?_));refine Re.bind (f:=xg b c f g R i (q.drop m)) (λk r e=>?_) λp=>Rq.grd λt=>Rq.grd λu=>?_
 ·refine aa λv=>?_
  obtain⟨a,_,rfl,w⟩:=b.ok _ _ _ _ e;obtain⟨y,h,x,z⟩:=c.ok _ _ _ _ w;exact v (Ed x (ww (fn:=S) C k r ((E R _ _ _ k).trans z)))
 ·show Re _ ((Ge _).map _)
  exact U (vg (Aa.mpr ⟨t,u⟩)) (Rq.ret rfl)
def nV(f:CR):CR:=λR b c k=>H (uq b) λm=>M (fh m (len c)) (sG m b λe=>M (oe (c.drop m)) (f R e (c.drop m) λw=>M (Hd w) (k w) Y) Y) Y
theorem UY{c:Type}{b:Bool}{x:Option c}{r:c}(h:M b x Y=J r):b=Z/\x=J r:=by
 induction b with
 |true=>exact⟨rfl,h⟩|false=>exact ja h
open Classical in
theorem mA{CA:Pg (List W) A Unit}{CH:Pg ub L N}(C:yh O (Nb db Ib pc n V) (Ee db Ib V (Nb db Ib pc n V) 4))(hf:pc a=J S)(hm:S.mode=.sub){f:(R:Type)->A->L->N->(W->Option R)->Option R}
 (E:∀R a y h k,bn O S (CA.wR a ()) (CH.wR y h) k=f R a y h λw=>k (w,CH.wR y h)):Lg (Nb db Ib pc (n+1) V) a (nV (Ck CA CH f)):=λR ws σ k r e=>by
 refine aa λnq=>(dp e λm e1 e=>?_);obtain⟨hl,e⟩:=UY e;refine nq ?_;rw[Qe]at hl
 induction pv _ _ e with|mk vs vs' e2 q e=>
 refine aa λnq=>?_;subst q;obtain⟨hp,e⟩:=UY e;obtain⟨a,_,e3,e⟩:=CA.ok _ _ _ _ e;obtain⟨y,h,e4,e⟩:=CH.ok _ _ _ _ e;refine nq ?_
 induction ww (fn:=S) C (λp=>if p.2=CH.wR y h then M (Hd p.1) (k p.1) Y else Y) r ((E R a y h _).trans ((Gc (f R a y h) (funext λw=>Dd rfl)).trans e))with|mk p q e5 e6 e7=>
 refine aa λnq=>?_;subst e6;refine nq ?_;replace e7:(if p.2=CH.wR y h then M (Hd p.1) (k p.1) Y else Y)=J r:=e7
 split at e7
 ·rename_i c
  obtain⟨hq,e7⟩:=UY e7;refine .mk (p.1,σ) p.1 ?_ rfl e7;show(pc _).bind _=_
  refine U hf ?_;show zt S.mode _ _ _ _=_
  refine U hm ?_;show(uq ws).bind _=_
  refine U e1 ?_;show(Ge (decide (m<=σ.length))).bind _=_
  refine U (vg (decide_eq_true (gb hl))) ?_;show(jB m ws).bind _=_
  refine U e2 ?_;show(Ge (oe (σ.drop m))).bind _=_
  refine U (vg hp) (Ed e3 (Ed e4 ?_));show(Vo _ _ _ _ _ _ _).bind _=_
  refine U e5 ?_;show(Ge (Hd p.1&&oe (p.2.take (σ.length - m)))).map (λu=>(p.1,σ.take m++p.2.take (σ.length - m)))=_
  refine U c (U e4 (U (wD (by rw[Mm];exact Gb _):(σ.drop m).take (σ.length - m)=σ.drop m) (U hq (U hp ?_))));show J (p.1,σ.take m++σ.drop m)=_
  exact U (List.take_append_drop _ _) rfl
 ·exact ja e7
def kA(e:List W)(r:W)(b:Ff->ub)(h:Ff)(k:Bool×Ff->Option R):Option R:=H (fu r (b h)) λc=>M (Jd 4096 c) (rp e (.t c) (.int h.spk) b h k) Y
def RU:CF:=xg (.sk (.ref 0)<| .p .t<| .p .id .nil) gu (λR a y h k=>kA a.1 a.2.1 (λs=>gu.wR y (s,())) h.1 k) λu y u t=>(.bool t.1,gu.wR y (t.2,()))
theorem v8:mi (Nb db Ib pc (n+5) V) 211 RU:=qj (yh.nil.c YW) rfl rfl λR a y h k=>by kernel_rfl
def MH:CF:=xF (xg (.sk (.ref 0)<| .p .t .nil) gu (λR a y h k=>rp a.1 .none (.int (-1)) (λs=>gu.wR y (s,())) h.1 k) λu y u t=>(.bool t.1,gu.wR y (t.2,())))
theorem w8:mi (Nb db Ib pc (n+5) V) 218 MH:=Ss (yh.nil.c YW) rfl rfl λR a y h k=>by kernel_rfl
def gN(b:List W)(h:Ff)(k:W->Option R):Option R:=H (Jg b 0) λx=>gx h.wL x λd=>M (EA [.t b,d]) (H (kD [.t b,d]) λw=>M (nb w) (k w) Y) Y
def LH:CR:=nV (Ck (.sk (.ref 0)<| .p .t .nil) gu λR a y h k=>gN a.1 h.1 k)
theorem u8:Lg (Nb db Ib pc (n+5) V) 197 LH:=mA (yh.nil.v o8) rfl rfl λR a y h k=>by kernel_rfl
def kP(h:Ff)(k:Ff->Option R):Option R:=M (Jd 4096 h.2.2.2.1) (k (h.1,h.2.1,h.2.2.1,h.2.2.2.1++[.int (Sd h.trail)],h.2.2.2.2)) Y
def NH:CF:=xF (xg (.sk (.ref 0) .nil) gu (λR a y h k=>kP h.1 k) λu y h s=>(.none,gu.wR y (s,())))
theorem A8:mi (Nb db Ib pc (n+1) V) 232 NH:=Ss .nil rfl rfl λR a y h k=>by kernel_rfl
def S9(c:W)(e:Ff->ub)(h:Ff)(k:W×Ff->Option R):Option R:=M (nb c) (M (Jd 4096 h.1) (M (nb c) (M (Jd 4096 h.2.1) (H (rk c (.t [])) λb=>M b
 (Qo (.t []) e (h.1++[c],h.2.1++[c],h.2.2) λs=>k (.int (Sd s.1 - 1),s))
 (k (.int (Sd (h.1++[c]) - 1),(h.1++[c],h.2.1++[c],h.2.2)))) Y) Y) Y) Y
def KH:CF:=xF (xg (.sk (.ref 0)<| .p .id .nil) gu (λR a y h k=>S9 a.1 (λs=>gu.wR y (s,())) h.1 k) λu y u t=>(t.1,gu.wR y (t.2,())))
theorem q8:mi (Nb db Ib pc (n+2) V) 127 KH:=Ss (yh.nil.c WB) rfl rfl λR a y h k=>by kernel_rfl
noncomputable def sX:Ff:=([],[],[],[],([],[]),-1,ua,[],())
def JH:CF:=xF (xg (.sk (.ref 0) .nil) (.cons (.obj 256 .nil) .nil) (λR u u u k=>k ()) λu y u u=>(.none,gu.wR ((),[]) (sX,())))
theorem p8:mi (Nb db Ib pc (n+1) V) 120 JH:=Ss .nil rfl rfl λR a y h k=>by kernel_rfl
def MU:CR:=Ck (.sk (.ref 0) .nil) gu λR a y h k=>k (.int (Sd h.1.wL))
theorem r8:Lg (Nb db Ib pc (n+1) V) 134 MU:=Uq .nil rfl rfl λR a y h k=>by kernel_rfl
end
end
end
section
variable {R:Type}
noncomputable section
noncomputable abbrev xr:=W×W×W×List W×List W×List W×List W×List W×Unit
def D7(w:W):Option Unit:=H (Li w) λb=>M b Y (J ())
def Cd.fls:Cd W Unit:=.op D7 (λu=>.bool ua) λa s e=>by
 induction a using W.casesOn<;>first|exact ja e|skip
 induction b<;>first|rfl|exact ja e
def l4:Pg (List (Bb×W)) xr Unit:=.p (.fld "number" .id)<| .p (.fld "scope" .id)<| .p (.fld "strength" .id)<| .p (.fld "taken" .t)<| .p (.fld "rows" .t)<| .p (.fld "wanted" (.o .l))<| .p (.fld "lows" (.o .l))<| .p (.fld "highs" (.o .l))<| .sk (.fld "has_twins" .fls) .nil
noncomputable abbrev xr.wQ(x:xr):List W:=x.2.2.2.1
noncomputable abbrev xr.rows(x:xr):List W:=x.2.2.2.2.1
noncomputable abbrev xr.wP(x:xr):List W:=x.2.2.2.2.2.1
noncomputable abbrev xr.wO(x:xr):List W:=x.2.2.2.2.2.2.1
noncomputable abbrev xr.wN(x:xr):List W:=x.2.2.2.2.2.2.2.1
abbrev Y2:=Unit×xr×ub
abbrev H2:=Ff×Unit×Unit
def c2:Pg ub Y2 H2:=.cons (.obj 256 E9)<| .cons (.obj 435 l4) .rest
abbrev Y3:=Unit×xr×(List W×List W×List W×Unit)×Unit
abbrev H3:=Ff×Unit×(List W×List W×Unit)×Unit
def c3:Pg ub Y3 H3:=.cons (.obj 256 E9)<| .cons (.obj 435 l4)<| .cons (.obj 357 qcP) .nil
noncomputable abbrev Y3.ca(y:Y3):xr:=y.2.1
noncomputable abbrev Y3.wM(y:Y3):List W:=y.2.2.1.1
noncomputable abbrev Y3.wO(y:Y3):List W:=y.2.2.1.2.1
noncomputable abbrev Y3.wN(y:Y3):List W:=y.2.2.1.2.2.1
noncomputable abbrev H3.st(h:H3):Ff:=h.1
noncomputable abbrev H3.pl(h:H3):Ae:=(h.2.2.1,())
noncomputable abbrev H3.wX(h:H3)(p:Ae):H3:=(h.1,(),p.1,())
noncomputable abbrev H3.putS(h:H3)(s:Ff):H3:=(s,(),h.2.2.1,())
def Or.rc(O:Or)(a:Nat)(f:CR):Or:=(O.r a f).c a λR c b k=>f R c b λw=>k (w,b)
section
variable {X:Nat->Option (List Int)} {n d a:Nat} {V:Yp} {T:Nat->fc->ub->al} {O:Or}
theorem yh.rc(C:yh O V T){f:CR}(h:Lg V a f):yh (O.rc a f) V T:=(C.r h).c λR b c=>Rx.e (h R b c)
def VY(f c:List W)(x:W)(k:List W->Option R):Option R:=Vd (Sd c) λg=>ze (λv e=>M (nb x) (H (Ua v) λi=>H (Jg c i) λw=>M (nb w) (R7 f x w λr=>H (Li r) λb=>M b (M (nb v) (e [v]) Y) (e [])) Y) Y) g λb=>M (Jd 4096 b) (k b) Y
def RO(e b:List W)(x:W)(k:List W->Option R):Option R:=VY e b x λc=>M (nb x) (XQ e x λw=>H (Ua w) λp=>M (Ph (Sd c) p) (M (Jd 4096 (c++[.int (Sd b)])) (k (c++[.int (Sd b)])) Y) (k c)) Y
def SH:CR:=Ck (.sk (.ref 1)<| .sk (.ref 0)<| .p .id .nil) c2 λR a y h k=>RO h.1.wL y.2.1.wP a.1 λb=>k (.l b)
theorem J8:Lg (Nb db Ib pc (n+4) X) 389 SH:=Uq ((yh.nil.r s8).r t8) rfl rfl λR a y h k=>by kernel_rfl
noncomputable abbrev KR:=List W×Option W×Option W×Unit
def qeP:Pg fc (Option W×Unit) KR:=.sk (fr (.ref 1))<| .sk (fr (.ref 0))<| .sk (fr (.ref 2))<| .p ow<| .a (fr (.o .l))<| .a ow<| .a ow .nil
def L6:Pg fc (Option W×W×Unit) (List W×Option W×Unit):=.sk (fr (.ref 1))<| .sk (fr (.ref 0))<| .sk (fr (.ref 2))<| .p ow<| .a (fr (.o .l))<| .p (fr .id)<| .a ow .nil
def uF(x d:W)(k:W->Option R):Option R:=M (EA [x,d]) (H (JQ [x,d]) k) Y
def w7(fr:List W)(s:W)(k:List W->Option R):Option R:=M (nb s) (H (wv s) λb=>M (ac (len fr+len b) 4096) (k (fr++b)) Y) Y
def wy(b:List W)(h:H3)(v:W)(m:List W×Option W×Unit)(u:Unit)(k:List W×Option W×Unit->Unit->Option R):Option R:=H (Ua v) λi=>H (Jg b i) λx=>H (Ua v) λi=>H (Jg b i) λc=>M (nb c) (gx h.st.wL c λd=>M (nb d) (uF x d λs=>w7 m.1 s λr=>k (r,J v,()) u) Y) Y
def hX(b:List W)(h:H3)(o:W)(m:List W×Option W×Unit)(u:Unit)(k:List W×Option W×Unit->Unit->Option R):Option R:=qt o h.pl λc=>mh (wy b h) c m u k
def LP:CB:=rj L6 c3.pas λR x y m u k=>hX y.1.ca.wQ y.2 x.2.1 m u k
theorem y0:uh (Ee db Ib X (Nb db Ib pc (n+2) X) (d+1)) 4082 LP:=uj (CM:=L6) (CH:=c3.pas) (((yh.nil.r LO).rc oH).v ZW) rfl (eP:=λR x y m h k=>qt x.2.1 y.2.pl k) (gP:=λv R x y m h k=>wy y.1.ca.wQ y.2 v m h k) (λR x y m h k=>by kernel_rfl) λv R x y m h k=>by kernel_rfl
def N6:Pg fc (W×Unit) KR:=.sk (fr (.ref 1))<| .sk (fr (.ref 0))<| .sk (fr (.ref 2))<| .p (fr .id)<| .a (fr (.o .l))<| .a ow<| .a ow .nil
def IG(b:List W)(h:H3)(v:W)(m:KR)(u:Unit)(k:KR->Unit->Option R):Option R:=hX b h v (m.1,m.2.2.1,()) u λm u=>k (m.1,J v,m.2.1,()) u
def gX(b:List W)(h:H3)(os:W)(m:KR)(u:Unit)(k:KR->Unit->Option R):Option R:=Nf os λc=>mh (IG b h) c m u k
def JP:CB:=rj N6 c3.pas λR x y m u k=>gX y.1.ca.wQ y.2 x.1 m u k
theorem w0:uh (Ee db Ib X (Nb db Ib pc (n+2) X) (d+2)) 4081 JP:=uj (CM:=N6) (CH:=c3.pas) (yh.nil.b y0) rfl (eP:=λR x y m h k=>Nf x.1 k) (gP:=λv R x y m h k=>IG y.1.ca.wQ y.2 v m h k) (λR x y m h k=>by kernel_rfl) λv R x y m h k=>by kernel_rfl
def Yx(b:List W)(h:H3)(os:W)(k:List W->Option R):Option R:=gX b h os ([],Y,Y,()) () λm u=>k m.1
def VH:CR:=Ck (.sk (.ref 1)<| .sk (.ref 0)<| .sk (.ref 2)<| .p .id .nil) c3 λR a y h k=>Yx y.ca.wQ h a.1 λr=>k (.l r)
theorem aX:Lg (Nb db Ib pc (n+3) X) 408 VH:=Uq (yh.nil.b w0) rfl rfl λR a y h k=>by kernel_rfl
noncomputable abbrev VX:=List W×Option W×Unit
def O6:Pg fc (List W×Unit) VX:=.sk (fr (.ref 1))<| .sk (fr (.ref 2))<| .p (fr .l)<| .a (fr (.o .l))<| .a ow .nil
def D6(c b os:List W)(v:W)(k:List W->Option R):Option R:=M (Jd 4900 os) (ze (λo e=>H (Ua v) λi=>H (Jg c i) λx=>M (nb x) (H (Ua o) λj=>H (Jg b j) λw=>M (nb w) (e [.t [x,.str "!=",w]]) Y) Y) os λe=>M (Jd 4096 e) (k e) Y) Y
def JG(e c os:List W)(h:H3)(v:W)(m:VX)(u:Unit)(k:VX->Unit->Option R):Option R:=H (Ua v) λi=>H (Jg h.pl.at i) λa=>H (Ua a) λx=>H (DA (.int x) (.l os)) λb=>M (!b) (D6 e c os v λf=>M (ac (len m.1+len f) 4096) (k (m.1++f,J v,()) u) Y) (k (m.1,J v,()) u)
def iX(b c os:List W)(h:H3)(m:VX)(u:Unit)(k:VX->Unit->Option R):Option R:=Vd (Sd b) λe=>mh (JG b c os h) e m u k
def MP:CB:=rj O6 c3.pas λR x y m u k=>iX y.1.ca.wQ y.1.ca.wP x.1 y.2 m u k
theorem A0:uh (Ee db Ib X V (d+1)) 4131 MP:=uj (CM:=O6) (CH:=c3.pas) .nil rfl (eP:=λR x y m h k=>Vd (Sd y.1.ca.wQ) k) (gP:=λv R x y m h k=>JG y.1.ca.wQ y.1.ca.wP x.1 y.2 v m h k) (λR x y m h k=>by kernel_rfl) λv R x y m h k=>by kernel_rfl
def xt(c b os:List W)(h:H3)(k:List W->Option R):Option R:=iX c b os h ([],Y,()) () λm u=>k m.1
def dA:CR:=Ck (.sk (.ref 1)<| .sk (.ref 2)<| .p .l .nil) c3 λR a y h k=>xt y.ca.wQ y.ca.wP a.1 h λr=>k (.l r)
theorem bX:Lg (Nb db Ib pc (n+1) X) 413 dA:=Uq (yh.nil.b A0) rfl rfl λR a y h k=>by kernel_rfl
end
end
end
section
variable {R:Type}
noncomputable section
section
variable {X:Nat->Option (List Int)} {n d a:Nat} {T:Yp} {V:Nat->fc->ub->al} {O:Or}
noncomputable abbrev qeK:=Int×Option W×Option W×Option W×Option W×List W×Option W×W×List W×Unit
def Q6:Pg fc qeK (Option W×Unit):=.sk (fr (.ref 1))<| .sk (fr (.ref 0))<| .sk (fr (.ref 2))<| .p (fr .int)<| .p ow<| .p ow<| .p ow<| .p ow<| .p (fr .l)<| .p ow<| .p (fr .id)<| .a ow<| .p (fr .l) .nil
abbrev Kw(R:Type):=W->H3->Option R
def XM(x:W)(b:List W)(y:Y3)(v:W)(m:Option W×Unit)(h:H3)(k:Fw (Option W×Unit) H3->Option R):Option R:=M (nb x) (M (nb v) (kA [x,.str "!=",v] (.l b) (λs=>c3.wR y (h.putS s)) h.st λt=>M (!t.1) (k (.ret (.bool ua) (h.putS t.2))) (k (.go (J v,()) (h.putS t.2)))) Y) Y
def vG(o:Int)(b c:List W)(k:List W->Option R):Option R:=M (Ph o (Sd b)) (H (Jg b o) λw=>M (nb w) (k [w]) Y) (M (Jd 4900 c) (k c) Y)
def lX(o:Int)(x:W)(b c:List W)(y:Y3)(m:Option W×Unit)(h:H3)(k:Fw (Option W×Unit) H3->Option R):Option R:=vG o y.ca.wP c λe=>kg (XM x b y) e m h k
def NP:CB:=Rj Q6 c3 λR x y m h k=>lX x.1 x.2.2.2.2.2.2.2.1 x.2.2.2.2.2.1 x.2.2.2.2.2.2.2.2.1 y m h k
theorem C0:uh (Ee db Ib X (Nb db Ib pc (n+5) X) (d+1)) 4182 NP:=Tr (CM:=Q6) (CH:=c3) (yh.nil.c v8) rfl (eP:=λR x y m h k=>vG x.1 y.ca.wP x.2.2.2.2.2.2.2.2.1 k) (gP:=λv R x y m h k=>XM x.2.2.2.2.2.2.2.1 x.2.2.2.2.2.1 y v m h k) (λR x y m h k=>by kernel_rfl) λv R x y m h k=>by kernel_rfl
noncomputable abbrev W3:=Option W×Option W×Option W×Option W×Unit
noncomputable abbrev qeL:=Int×Option W×Option W×List W×Option W×List W×Unit
def R6:Pg fc qeL W3:=.sk (fr (.ref 1))<| .sk (fr (.ref 0))<| .sk (fr (.ref 2))<| .p (fr .int)<| .p ow<| .p ow<| .p (fr .l)<| .p ow<| .p (fr .l)<| .a ow<| .a ow<| .a ow<| .a ow .nil
def jz(f c:List W)(x:W)(k:List W->Option R):Option R:=M (nb x) (gx f x λd=>M (nb d) (M (EA [d]) (H (qaT [d]) λw=>Nf w λg=>ze (λu e=>H (Ua u) λy=>H (DA (.int y) (.l c)) λb=>M (!b) (M (nb u) (e [u]) Y) (e [])) g λb=>M (Jd 4096 b) (k b) Y) Y) Y) Y
def WM(o:Int)(c:List W)(y:Y3)(v:W)(m:W3)(h:H3)(k:Fw W3 H3->Option R):Option R:=H (Ua v) λi=>H (Jg y.ca.wQ i) λx=>M (nb x) (jz h.st.wL y.ca.wP x λb=>lX o x c b y (m.2.2.1,()) h λr=>Fw.rec (λe h=>k (.go (J v,J x,e.1,J (.l b),()) h)) (λw h=>k (.ret w h)) r) Y
def jX(o:Int)(b c:List W)(y:Y3)(m:W3)(h:H3)(k:Fw W3 H3->Option R):Option R:=M (Jd 4900 b) (kg (WM o c y) b m h k) Y
def LC:CB:=Rj R6 c3 λR x y m h k=>jX x.1 x.2.2.2.1 x.2.2.2.2.2.1 y m h k
theorem B0:uh (Ee db Ib X (Nb db Ib pc (n+5) X) (d+2)) 4181 LC:=Tr (CM:=R6) (CH:=c3) (((yh.nil.r oH).v qcL).b C0) rfl (eP:=λR x y m h k=>M (Jd 4900 x.2.2.2.1) (k x.2.2.2.1) Y) (gP:=λv R x y m h k=>WM x.1 x.2.2.2.2.2.1 y v m h k) (λR x y m h k=>by kernel_rfl) λv R x y m h k=>by kernel_rfl
def Zo(e g h f:List W)(o:Int)(l:ub)(k:List W->Option R):Option R:=Vd (Sd e) λm=>ze (λv j=>H (Ua v) λi=>H (Jg g i) λr=>H (pj r l) λc=>H (DA (.int o) c) λb=>M b (H (Ua v) λi=>H (Jg h i) λa=>H (Ua a) λx=>H (DA (.int x) (.l f)) λb=>M (!b) (M (nb v) (j [v]) Y) (j [])) (j [])) m λb=>M (Jd 4096 b) (k b) Y
def Cw(c f e:List W)(k:List W->Option R):Option R:=Vd (Sd c) λh=>ze (λv g=>H (Ua v) λx=>H (DA (.int x) (.l e)) λb=>M (!b) (H (Ua v) λi=>H (Jg f i) λl=>H (Ua l) λy=>M (Ph 0 y) (M (nb v) (g [v]) Y) (g [])) (g [])) h λb=>M (Jd 4096 b) (k b) Y
def Uj(o:Int)(b c:List W)(y:Y3)(h:H3)(k:Kw R):Option R:=jX o b c y (Y,Y,Y,Y,()) h λq=>Fw.rec (λu h=>k (.bool Z) h) (λw h=>k w h) q
def PO(N:Nat)(o:Int)(y:Y3)(h:H3)(k:Kw R):Option R:=Tl N y.wM y.wO y.wN o h.pl λf r c=>Zo y.ca.wQ y.wM c.at f o (c3.wR y (h.wX c)) λe=>H (rk (.l e) (.l [])) λb=>M b (k (.bool Z) (h.wX c))
 (M r (Cw y.ca.wP y.ca.wO f λi=>xt y.ca.wQ y.ca.wP i (h.wX c) λg=>Uj o e g y (h.wX c) k) (Yx y.ca.wQ (h.wX c) (.l f) λg=>Uj o e g y (h.wX c) k))
def WH(N:Nat):CF:=xg (.sk (.ref 1)<| .sk (.ref 0)<| .sk (.ref 2)<| .p .int .nil) c3 (λR a y h k=>PO N a.1 y h λw h=>k (w,h)) λu y u t=>(t.1,c3.wR y t.2)
theorem r7(N:Nat)(R:Type)(a:Int×Unit)(y:Y3)(h:H3)(k:W×ub->Option R):bn ((((Or.nil.c 354 (QH N)).rc 408 VH).rc 413 dA).b 4181 LC) L7 [.ref 1,.ref 0,.ref 2,.int a.1] (c3.wR y h) k=PO N a.1 y h λw h=>k (w,c3.wR y h):=by kernel_rfl
theorem N8:mi (Nb db Ib pc (n+6) X) 418 (WH 5000):=qj ((((yh.nil.c G8).rc aX).rc bX).b B0) rfl rfl (r7 5000)
def JZ(n:Int)(v:W)(k:List W->Option R):Option R:=M (!Ph n 0) (M (Ph n 4096) (k (Ia n.toNat v)) Y) Y
def nN(b c:List W)(k:List W->List W->Option R):Option R:=JZ (Sd b) (.int (-1)) λe=>JZ (Sd c) (.int 0) λf=>k e f
def OH:CF:=xg (.sk (.ref 2)<| .p .l<| .p .l<| .p .l .nil) (.p .id<| .p .id<| .cons (.obj 357 .nil) .nil) (λR a y h k=>nN a.1 a.2.1 λu v=>k (u,v)) λa y z t=>(.none,Ak.wR (y.1,y.2.1,(a.1,a.2.1,a.2.2.1,()),[]) ((t.1,t.2,()),()))
theorem C8:mi (Nb db Ib pc (n+1) X) 323 OH:=qj .nil rfl rfl λR a y h k=>by kernel_rfl
end
end
end
section
variable {R:Type}
noncomputable section
section
variable {X:Nat->Option (List Int)} {n d a:Nat} {T:Yp} {V:Nat->fc->ub->al} {O:Or}
noncomputable def SD:SF->List SF
 |.whil u b=>b|.fors u y b=>b|.forz u y b=>b|_=>[]
noncomputable abbrev X4:=Option W×Option W×Option W×Option W×Unit
noncomputable abbrev IK:=Option W×Option W×Unit
def P6:Pg fc X4 IK:=.sk (fr (.ref 1))<| .sk (fr (.ref 0))<| .p ow<| .p ow<| .sk (fr (.ref 2))<| .a ow<| .a ow<| .p ow<| .p ow .nil
def GG(v w:W)(y:Y3)(h:H3)(k:Ff->Option R):Option R:=H (Ua v) λi=>H (Jg y.ca.wQ i) λx=>M (nb x) (M (nb w) (Yx y.ca.wQ h w λb=>M (nb x) (gx h.st.wL x λd=>M (nb d) (uF x d λs=>H (Pe s (c3.wR y h)) λc=>M (Jd 4096 (b++c)) (Qo (.l (b++c)) (λs=>c3.wR y (h.putS s)) h.st k) Y) Y) Y) Y) Y
def uy(y:Y3)(v:W)(m:IK)(h:H3)(k:Fw IK H3->Option R):Option R:=M (nb v) (H (Ua v) λi=>Ls y.wM y.wN i h.pl λw p=>M (nb w) (H (Oh w .none) λr=>M r (GG v w y (h.wX p) λs=>k (.ret (.bool ua) ((h.wX p).putS s))) (k (.go (J v,J w,()) (h.wX p)))) Y) Y
def eC(y:Y3)(m:IK)(h:H3)(k:Fw IK H3->Option R):Option R:=Vd (Sd y.ca.wQ) λb=>kg (uy y) b m h k
def IC:CB:=Rj P6 c3 λR x y m h k=>eC y m h k
theorem l0:uh (Ee db Ib X (Nb db Ib pc (n+4) X) (d+1)) 4011 IC:=Tr (CM:=P6) (CH:=c3) (((((yh.nil.c D8).c WB).r aX).r oH).v ZW) rfl (eP:=λR x y m h k=>Vd (Sd y.ca.wQ) k) (gP:=λv R x y m h k=>uy y v m h k) (λR x y m h k=>by kernel_rfl) λv R x y m h k=>by kernel_rfl
def BS:Pg fc (Option W×Option W×Option W×Option W×W×Unit) (Option W×Unit):=.sk (fr (.ref 1))<| .sk (fr (.ref 0))<| .p ow<| .p ow<| .sk (fr (.ref 2))<| .p ow<| .p ow<| .p (fr .id)<| .a ow .nil
def Ev(N:Nat)(v:W)(y:Y3)(m:Option W×Unit)(h:H3)(k:Fw (Option W×Unit) H3->Option R):Option R:=M (nb v) (H (Ua v) λi=>tq N y.wM y.wO i (λp=>c3.wR y (h.wX p)) h.pl λw p=>M (nb w) (H (Oh w .none) λr=>M r (M (nb w) (H (Hl w) λos=>xt y.ca.wQ y.ca.wP os (h.wX p) λb=>Qo (.l b) (λs=>c3.wR y ((h.wX p).putS s)) h.st λs=>k (.ret (.bool ua) ((h.wX p).putS s))) Y) (k (.go (J w,()) (h.wX p)))) Y) Y
def sQ(v:W)(y:Y3)(h:H3)(k:Bool->Option R):Option R:=Jp h.pl.co y.ca.wO v λx z=>k (Ph x z)
def eX(N:Nat)(v:W)(y:Y3)(m:Option W×Unit)(h:H3)(k:Fw (Option W×Unit) H3->Option R):Option R:=a5 (λu h=>sQ v y h) (Ev N v y) N m h k
def IP(N:Nat):CB:=Rj BS c3 λR x y m h k=>eX N x.2.2.2.2.1 y m h k
theorem EY(N:Nat)(R:Type)(x:Option W×Option W×Option W×Option W×W×Unit)(y:Y3)(m:Option W×Unit)(h:H3)(k:Fk->Option R):Sg (((Or.nil.c 342 (PH N)).c 225 cA).r 413 dA) (SD rW) (BS.wR x m) (c3.wR y h) k=Ev N x.2.2.2.2.1 y m h (rv (BS.wR x) (c3.wR y) k):=by kernel_rfl
theorem r0:uh (Ee db Ib X (Nb db Ib pc (n+2) X) (d+1)) 4013 (IP 5000):=UQ (CM:=BS) (CH:=c3) (((yh.nil.c E8).c WB).r bX) rfl (tP:=λR x y m h k=>sQ x.2.2.2.2.1 y h k) (gP:=λR x y m h k=>Ev 5000 x.2.2.2.2.1 y m h k) (λR x y m h k=>by kernel_rfl) (EY 5000)
def S6:Pg fc X4 IK:=.sk (fr (.ref 1))<| .sk (fr (.ref 0))<| .p ow<| .p ow<| .sk (fr (.ref 2))<| .p ow<| .p ow<| .a ow<| .a ow .nil
def tB(N:Nat)(y:Y3)(v:W)(m:IK)(h:H3)(k:Fw IK H3->Option R):Option R:=eX N v y (m.2.1,()) h λr=>Fw.rec (λm h=>k (.go (J v,m.1,()) h)) (λw h=>k (.ret w h)) r
def fC(N:Nat)(y:Y3)(m:IK)(h:H3)(k:Fw IK H3->Option R):Option R:=Vd (Sd y.ca.wP) λb=>kg (tB N y) b m h k
def JC(N:Nat):CB:=Rj S6 c3 λR x y m h k=>fC N y m h k
theorem n0:uh (Ee db Ib X (Nb db Ib pc (n+2) X) (d+2)) 4012 (JC 5000):=Tr (CM:=S6) (CH:=c3) (yh.nil.b r0) rfl (eP:=λR x y m h k=>Vd (Sd y.ca.wP) k) (gP:=λv R x y m h k=>tB 5000 y v m h k) (λR x y m h k=>by kernel_rfl) λv R x y m h k=>by generalize 5000=N;as_aux_lemma=>kernel_rfl
def CS:Pg fc (Option W×Option W×Option W×Option W×Option W×Unit) (Option W×Unit):=.sk (fr (.ref 1))<| .sk (fr (.ref 0))<| .p ow<| .p ow<| .sk (fr (.ref 2))<| .p ow<| .p ow<| .a ow<| .p ow .nil
def vy(N:Nat)(y:Y3)(v:W)(m:Option W×Unit)(h:H3)(k:Fw (Option W×Unit) H3->Option R):Option R:=M (nb v) (H (Ua v) λo=>PO N o y h λw h=>H (Li w) λb=>M (!b) (k (.ret (.bool ua) h)) (k (.go (J v,()) h))) Y
def iC(N:Nat)(y:Y3)(m:Option W×Unit)(h:H3)(k:Fw (Option W×Unit) H3->Option R):Option R:=Vd (Sd y.ca.wP+1) λb=>kg (vy N y) b m h k
def KC(N:Nat):CB:=Rj CS c3 λR x y m h k=>iC N y m h k
theorem FY(N:Nat)(v:W)(R:Type)(x:Option W×Option W×Option W×Option W×Option W×Unit)(y:Y3)(m:Option W×Unit)(h:H3)(k:Fk->Option R):(lk (.x 7) v (CS.wR x m) λb=>Sg (Or.nil.c 418 (WH N)) (SD sW) b (c3.wR y h) k)=vy N y v m h (rv (CS.wR x) (c3.wR y) k):=by kernel_rfl
theorem u0:uh (Ee db Ib X (Nb db Ib pc (n+6) X) (d+1)) 4014 (KC 5000):=Tr (CM:=CS) (CH:=c3) (yh.nil.c N8) rfl (eP:=λR x y m h k=>Vd (Sd y.ca.wP+1) k) (gP:=λv R x y m h k=>vy 5000 y v m h k) (λR x y m h k=>by kernel_rfl) (FY 5000)
def TO(b:xr)(k:List W->Option R):Option R:=Vd (Sd b.wP) λe=>ze (λv c=>Jp b.wO b.wN v λx y=>M (Ph y x) (M (nb v) (c [v]) Y) (c [])) e λc=>M (Jd 4096 c) (k c) Y
def rL(e:List W)(b:xr)(k:List W->Option R):Option R:=M (Jd 4900 b.wQ) (ze (λv c=>M (nb v) (RO e b.wP v λf=>c [.l f]) Y) b.wQ λc=>M (Jd 4096 c) (k c) Y) Y
def XO(y:Y3)(h:H3):OF:=(Pg.obj 357 qcP).wR y.2.2.1 h.2.2.1
def Ly(N:Nat)(c:xr)(s:Ff)(k:W->Ff->ub->Option R):Option R:=TO c λf=>H (rk (.l f) (.l [])) λb=>M (!b) (Qo (.t []) (λs=>c2.wR ((),c,[]) (s,(),())) s λs=>k (.bool ua) s [])
 (rL s.wL c λe=>M (Jd 4096 (c.wO++[.int 0])) (M (Jd 4096 (c.wN++[.int (Sd c.wQ+1)])) (nN e (c.wO++[.int 0]) λu v=>
  let y:Y3:=((),c,(e,c.wO++[.int 0],c.wN++[.int (Sd c.wQ+1)],()),())
  eC y (Y,Y,()) (s,(),(u,v,()),()) λr=>Fw.rec (λm h=>fC N y (Y,Y,()) h λr=>Fw.rec (λm h=>iC N y (m.1,()) h λr=>Fw.rec (λm h=>k (.bool Z) h.st [XO y h]) (λw h=>k w h.st [XO y h]) r) (λw h=>k w h.st [XO y h]) r) (λw h=>k w h.st [XO y h]) r) Y) Y)
abbrev J3:Pg ub (Unit×xr×Unit) (Ff×Unit×Unit):=.cons (.obj 256 E9)<| .cons (.obj 435 l4) .nil
def UH(N:Nat):CF:=xg (.sk (.ref 1)<| .sk (.ref 0) .nil) J3 (λR a y h k=>Ly N y.2.1 h.1 λw s j=>k (w,s,j)) λu y u t=>(t.1,c2.wR ((),y.2.1,t.2.2) (t.2.1,(),()))
theorem q7(N:Nat)(R:Type)(a:Unit)(y:Unit×xr×Unit)(h:Ff×Unit×Unit)(k:W×ub->Option R):bn ((((((Or.nil.c 225 cA).r 389 SH).c 323 OH).b 4011 IC).b 4012 (JC N)).b 4014 (KC N)) K7 [.ref 1,.ref 0] (J3.wR y h) k=Ly N y.2.1 h.1 λw s j=>k (w,c2.wR ((),y.2.1,j) (s,(),())):=by kernel_rfl
theorem L8:mi (Nb db Ib pc (n+7) X) 401 (UH 5000):=qj ((((((yh.nil.c WB).r J8).c C8).b l0).b n0).b u0) rfl rfl (q7 5000)
def BH(N:Nat)(c:xr)(s:Ff)(k:Bool->Ff->ub->Option R):Option R:=M (Ph (-1) (Sd s.trail)) (Ly N c s λw s j=>H (Li w) λb=>M (!b) (k ua s j) (k Z s j)) (k Z s [])
def TH(N:Nat):CF:=xg (.sk (.ref 1)<| .sk (.ref 0) .nil) J3 (λR a y h k=>BH N y.2.1 h.1 λw s j=>k (w,s,j)) λu y u t=>(.bool t.1,c2.wR ((),y.2.1,t.2.2) (t.2.1,(),()))
theorem p7(N:Nat)(R:Type)(a:Unit)(y:Unit×xr×Unit)(h:Ff×Unit×Unit)(k:W×ub->Option R):bn (Or.nil.c 401 (UH N)) J7 [.ref 1,.ref 0] (J3.wR y h) k=BH N y.2.1 h.1 λw s j=>k (.bool w,c2.wR ((),y.2.1,j) (s,(),())):=by kernel_rfl
theorem K8:mi (Nb db Ib pc (n+8) X) 396 (TH 5000):=qj (yh.nil.c L8) rfl rfl (p7 5000)
end
end
end
section
variable {R:Type}
noncomputable section
section
variable {X:Nat->Option (List Int)} {n d a:Nat} {V:Yp} {T:Nat->fc->ub->al} {O:Or}
def qdd(w:W)(k:W->W->Option R):Option R:=H (lg w) λb=>H (Wj b) λp=>H (Wj p.2) λq=>M (Ay q.2) (k p.1 q.1) Y
def qI(w:W)(k:W->W->W->Option R):Option R:=H (lg w) λb=>H (Wj b) λp=>H (Wj p.2) λq=>H (Wj q.2) λr=>M (Ay r.2) (k p.1 q.1 r.1) Y
def NQ(e:ub)(d:W)(k:List W->Option R):Option R:=Nf d λf=>ze (λp b=>qdd p λlo c=>sL c (.int 1) e λc=>H (Ua lo) λx=>H (Ua c) λy=>M (ED x y) (M (ED x y) (ze (λv b=>M (nb v) (b [v]) Y) (vw (y - x).toNat x) b) Y) Y) f λb=>M (Jd 4096 b) (k b) Y
def Dy(e:ub)(b:List W)(k:List W->Option R):Option R:=Vd (Sd b) λf=>ze (λx c=>M (nb x) (gx b x λd=>M (nb d) (NQ e d λg=>c [.l g]) Y) Y) f λc=>M (Jd 4096 c) (k c) Y
def bI:CR:=Ck (.sk (.ref 0) .nil) gu λR a y h k=>Dy (gu.wR y h) h.1.wL λb=>k (.l b)
theorem V8:Lg (Nb db Ib pc (n+2) X) 471 bI:=Uq ((yh.nil.r oH).r r8) rfl rfl λR a y h k=>by kernel_rfl
def SW(h:ub)(m f:List W)(k:List W->Option R):Option R:=M (Jd 4900 f) (ze (λone j=>PN one h λn=>H (Ua n) λz=>Vd z λo=>ze (λx g=>yF one x h λe=>H (Ua x) λi=>H (Jg m i) λl=>H (Ua e) λu=>H (pj l h) λc=>H (DA (.int u) c) λb=>M (!b) (M (nb x) (g [x]) Y) (g [])) o λc=>M (Jd 4096 c) (H (rk (.l c) (.l [])) λb=>M b (M (nb one) (j [one]) Y) (j [])) Y) f λb=>M (Jd 4096 b) (k b) Y) Y
def jG(b:ub)(h f:List W)(k:List W->Option R):Option R:=Vd (Sd h) λi=>ze (λx j=>M (Jd 4900 f) (ze (λone c=>yF one x b λe=>M (nb e) (c [e]) Y) f λe=>M (Jd 4096 e) (H (qax .set [.l e] b) λw=>H (pj w b) λc=>H (XC c) λg=>M (Jd 4096 g) (j [.l g]) Y) Y) Y) i λc=>M (Jd 4096 c) (k c) Y
def zL(N:Nat)(c:xr)(s:Ff)(f:List W)(k:W->Ff->ub->Option R):Option R:=Dy (c2.wR ((),c,[]) (s,(),())) s.wL λh=>SW (c2.wR ((),c,[]) (s,(),())) h f λg=>BH N c s λb s j=>H (rk (.l g) (.l [])) λe=>M (b != !e) (k (.bool ua) s j)
 (H (rk (.l g) (.l [])) λe=>M e (k (.bool s.bad) s j) (Dy (c2.wR ((),c,j) (s,(),())) s.wL λi=>jG (c2.wR ((),c,j) (s,(),())) h g λl=>H (rk (.l i) (.l l)) λr=>k (.bool r) s j))
def dI(N:Nat):CF:=xF (xg (.sk (.ref 0)<| .sk (.ref 1)<| .p .l .nil) J3 (λR a y h k=>zL N y.2.1 h.1 a.1 λw s j=>k (w,s,j)) λu y u t=>(t.1,c2.wR ((),y.2.1,t.2.2) (t.2.1,(),())))
theorem u7(N:Nat)(R:Type)(a:List W×Unit)(y:Unit×xr×Unit)(h:Ff×Unit×Unit)(k:W×ub->Option R):bn ((Or.nil.rc 471 bI).c 396 (TH N)) O7 [.ref 0,.ref 1,.l a.1] (J3.wR y h) k=zL N y.2.1 h.1 a.1 λw s j=>k (w,c2.wR ((),y.2.1,j) (s,(),())):=by kernel_rfl
theorem W8:mi (Nb db Ib pc (n+9) X) 476 (dI 5000):=Ss ((yh.nil.rc V8).c K8) rfl rfl (u7 5000)
abbrev qdn:=xr×Unit
def uW:Pg ub qdn (Unit×Unit):=.cons (.obj 435 l4) .nil
def AX(b:xr)(k:List W->Option R):Option R:=M (Jd 4096 ([.str "cardinality",.t b.wQ]++b.rows)) (k ([.str "cardinality",.t b.wQ]++b.rows)) Y
def YH:CR:=nV (Ck (.sk (.ref 0) .nil) uW λR a y h k=>AX y.1 λr=>k (.t r))
theorem P8:Lg (Nb db Ib pc (n+1) X) 432 YH:=mA .nil rfl rfl λR a y h k=>by kernel_rfl
noncomputable abbrev mW:=Option W×Option W×Option W×Unit
def T6:Pg fc (W×Unit) mW:=.sk (fr (.ref 0))<| .p (fr .id)<| .a ow<| .a ow<| .a ow .nil
def AW(e:List W)(k:List W->Option R):Option R:=H (Jg e 0) λa=>M (nb a) (H (Jg e 1) λb=>M (nb b) (H (Jg e 2) λc=>M (nb c) (H (fm [a,b,c]) λf=>H (uA f) λg=>H (Bl g) k) Y) Y) Y
def rt(e:W)(g:ub)(v:W)(m:mW)(h:Unit×Unit)(k:Fw mW (Unit×Unit)->Option R):Option R:=qI v λa b c=>H (lg e) λf=>M (Jd 4096 f) (M (nb a) (H (J4 (.l f) "count" [a] g) λn=>H (Ua b) λx=>H (Ua n) λy=>M (!Ph y x)
 (H (Ua n) λx=>H (Ua c) λy=>M (!(!Ph y x)) (k (.ret (.bool ua) h)) (k (.go (J a,J b,J c,()) h))) (k (.ret (.bool ua) h))) Y) Y
def mX(b:List W)(c:W)(e:ub)(m:mW)(h:Unit×Unit)(k:Fw mW (Unit×Unit)->Option R):Option R:=AW b λf=>kg (rt c e) f m h k
def OP:CB:=Rj T6 uW λR x y m h k=>mX y.1.rows x.1 (uW.wR y h) m h k
theorem D0:uh (Ee db Ib X V (d+1)) 4251 OP:=sT (CM:=T6) (CH:=uW) .nil rfl (eP:=λR x y m h k=>AW y.1.rows k) (gP:=λv R x y m h k=>rt x.1 (uW.wR y ((),())) v m h k) (λR x y m h k=>by kernel_rfl) λv R x y m h k=>by kernel_rfl
def oz(y:qdn)(b:W)(k:W->Option R):Option R:=mX y.1.rows b (uW.wR y ((),())) (Y,Y,Y,()) ((),()) λq=>Fw.rec (λu u=>k (.bool Z)) (λw u=>k w) q
def XH:CR:=nV (Ck (.sk (.ref 0)<| .p .id .nil) uW λR a y h k=>oz y a.1 k)
theorem O8:Lg (Nb db Ib pc (n+1) X) 425 XH:=mA (yh.nil.b D0) rfl rfl λR a y h k=>by kernel_rfl
def KN(one c:W)(k:Bool->Option R):Option R:=Nf c λi=>ze (λrow g=>qI row λv l h=>Nf one λos=>ze (λe f=>H (rk e v) λb=>M b (M (nb e) (f [e]) Y) (f [])) os λb=>M (Jd 4096 b) (H (Ua l) λx=>M (!Ph (Sd b) x) (H (Ua h) λy=>M (!(!Ph y (Sd b))) (M (nb v) (g [v]) Y) (g [])) (M (nb v) (g [v]) Y)) Y) i λb=>M (Jd 4096 b) (H (rk (.l b) (.l [])) k) Y
def IV:=Rh .nil SY
theorem T8:Lg (Nb db Ib pc (n+1) X) 461 (rh IV):=Yn .nil rfl rfl
theorem t7(R:Type)(one c:W)(k:W×ub->Option R):bn .nil SY [one,c] [] k=KN one c λb=>k (.bool b,[]):=by kernel_rfl
def qeQ:Pg fc (Option W×Unit) (List W×Option W×Unit):=.p ow<| .a (fr .l)<| .a ow .nil
def Fv(v:W)(m:List W×Option W×Unit)(c:ub)(h:Unit)(k:List W×Option W×Unit->Unit->Option R):Option R:=M (Jd 4900 m.1) (ze (λe f=>Nf v λos=>ze (λu b=>M (nb u) (sL e (.t [u]) c λw=>M (nb w) (b [w]) Y) Y) os f) m.1 λb=>M (Jd 4096 b) (k (b,J v,()) h) Y) Y
def U6:Pg fc (W×Unit) (List W×Option W×Unit):=.p (fr .id)<| .a (fr .l)<| .a ow .nil
def xw:CB:=rj U6 .rest λR x y m h k=>Nf x.1 λb=>mh (λv m h k=>Fv v m y h k) b m h k
theorem G0:uh (Ee db Ib X V (d+1)) 4561 xw:=uj (CM:=U6) (CH:=.rest) .nil rfl (eP:=λR x y m h k=>Nf x.1 k) (gP:=λv R x y m h k=>Fv v m y h k) (λR x y m h k=>by kernel_rfl) λv R x y m h k=>by kernel_rfl
def zV(b:W)(k:List W->Option R):Option R:=Nf b λc=>mh (λv m h k=>Fv v m [] h k) c ([.t []],Y,()) () λm u=>k m.1
def LQ:=Rh (Or.nil.b 4561 xw) RY
theorem S8:Lg (Nb db Ib pc (n+1) X) 456 (rh LQ):=Yn (yh.nil.b G0) rfl rfl
theorem s7(R:Type)(b:W)(k:W×ub->Option R):bn (Or.nil.b 4561 xw) RY [b] [] k=zV b λc=>k (.l c,[]):=by kernel_rfl
end
end
end
section
variable {R:Type}
noncomputable section
section
variable {V:Nat->Option (List Int)} {n d a:Nat} {Q:Yp} {T:Nat->fc->ub->al} {O:Or}
noncomputable abbrev i5:=(W×W×W×List W×List W×Unit)×Unit
noncomputable abbrev ER:=List W×List W×List W×Unit
abbrev NK:=ER×Unit
def qeR:Pg (List (Bb×W)) (W×W×W×List W×List W×Unit) ER:=.p (.fld "number" .id)<| .p (.fld "scope" .id)<| .p (.fld "strength" .id)<| .p (.fld "taken" .t)<| .p (.fld "rows" .t)<| .a (.fld "wanted" (.o .l))<| .a (.fld "lows" (.o .l))<| .a (.fld "highs" (.o .l)) .nil
def xY:Pg ub i5 NK:=.cons (.obj 435 qeR) .nil
def j8(v lo b:W)(h:NK)(k:NK->Option R):Option R:=M (nb v) (M (Jd 4096 h.1.1) (M (nb lo) (M (Jd 4096 h.1.2.1) (M (nb b) (M (Jd 4096 h.1.2.2.1) (k ((h.1.1++[v],h.1.2.1++[lo],h.1.2.2.1++[b],()),())) Y) Y) Y) Y) Y) Y
def cY(v lo b:W)(c:ub)(h:NK)(k:NK->Option R):Option R:=M (nb v) (H (J4 (.fld 0 "wanted") "index" [v] c) λw=>M (nb w) (H (Ua w) λi=>H (Jg h.1.2.1 i) λl=>H (Ua l) λx=>H (Ua lo) λy=>H (Ua w) λj=>H (Jg h.1.2.2.1 j) λg=>H (Ua g) λz=>H (Ua b) λu=>H (Ua w) λi=>H (ju h.1.2.1 i (.int (max x y))) λe=>H (Ua w) λj=>H (ju h.1.2.2.1 j (.int (min z u))) λf=>k ((h.1.1,e,f,()),())) Y) Y
def FX(v lo c:W)(y:i5)(h:NK)(k:NK->Option R):Option R:=H (DA v (.l h.1.1)) λb=>M b (cY v lo c (xY.wR y h) h k) (j8 v lo c h k)
def XU:CF:=xg (.sk (.ref 0)<| .p .id<| .p .id<| .p .id .nil) xY (λR a y h k=>FX a.1 a.2.1 a.2.2.1 y h k) λu y u h=>(.none,xY.wR y h)
theorem I8:mi (Nb db Ib pc (n+1) V) 384 XU:=qj .nil rfl rfl λR a y h k=>by kernel_rfl
noncomputable abbrev D5:=Option W×Option W×Option W×Unit
def V6:Pg fc (Option W×W×W×W×Unit) D5:=.sk (fr (.ref 0))<| .p ow<| .p (fr .id)<| .p (fr .id)<| .p (fr .id)<| .a ow<| .a ow<| .a ow .nil
def IX(a b c:W)(k:List W->Option R):Option R:=M (nb a) (M (nb b) (M (nb c) (H (fm [a,b,c]) λe=>H (uA e) λf=>H (Bl f) k) Y) Y) Y
def MW(y:i5)(v:W)(m:D5)(h:NK)(k:D5->NK->Option R):Option R:=qI v λa b c=>M (nb a) (H (Ua b) λx=>M (nb c) (FX a (.int (max x 0)) c y h λh=>k (J a,J b,J c,()) h) Y) Y
def dX(a b c:W)(y:i5)(m:D5)(h:NK)(k:D5->NK->Option R):Option R:=IX a b c λe=>mh (MW y) e m h k
def HP:CB:=rj V6 xY λR x y m h k=>dX x.2.1 x.2.2.1 x.2.2.2.1 y m h k
theorem j0:uh (Ee db Ib V (Nb db Ib pc (n+1) V) (d+1)) 3771 HP:=TM (CM:=V6) (CH:=xY) (yh.nil.c I8) rfl (eP:=λR x y m h k=>IX x.2.1 x.2.2.1 x.2.2.2.1 k) (gP:=λv R x y m h k=>MW y v m h k) (λR x y m h k=>by kernel_rfl) λv R x y m h k=>by kernel_rfl
def TU:CF:=xg (.sk (.ref 0)<| .p .t<| .p .id .nil) (.cons (.obj 435 .nil) .nil) (λR a u u k=>M (Jd 4096 a.1) (M (nb a.2.1) (k ()) Y) Y) λa u u u=>(.none,[⟨J 435,[("number",.int (-1)),("scope",.t a.1),("strength",a.2.1)]⟩])
theorem B8:mi (Nb db Ib pc (n+1) V) 274 TU:=qj .nil rfl rfl λR a y h k=>by kernel_rfl
noncomputable def qdy(b c e f:List W)(s:ER)(g:Bool):OF:=⟨J 435,[("number",.int (-1)),("scope",.t b),("strength",.str "values"),("taken",.t b),("rows",.t [.t c,.t e,.t f]),("wanted",.o (.l s.1)),("lows",.o (.l s.2.1)),("highs",.o (.l s.2.2.1)),("has_twins",.bool g)]⟩
noncomputable def qbv(b c e f:List W):i5:=((.int (-1),.t b,.str "values",b,[.t c,.t e,.t f],()),())
def xW(b c e f:List W)(k:ER->Bool->Option R):Option R:=M (Jd 4096 b) (M (Jd 4096 b) (M (Jd 4096 c) (M (Jd 4096 e) (M (Jd 4096 f) (dX (.t c) (.t e) (.t f) (qbv b c e f) (Y,Y,Y,()) (([],[],[],()),()) λu h=>H (qax .set [.t b] (xY.wR (qbv b c e f) h)) λw=>PN w (xY.wR (qbv b c e f) h) λn=>H (Ua n) λx=>k h.1 (Ph x (Sd b))) Y) Y) Y) Y) Y
def RH:CF:=xF (xg (.sk (.ref 0)<| .p .t<| .p .t<| .p .t<| .p .t .nil) (.cons (.obj 435 .nil) .nil) (λR a u u k=>xW a.1 a.2.1 a.2.2.1 a.2.2.2.1 λs t=>k (s,t)) λa u u t=>(.none,[qdy a.1 a.2.1 a.2.2.1 a.2.2.2.1 t.1 t.2]))
theorem H8:mi (Nb db Ib pc (n+2) V) 377 RH:=Ss ((yh.nil.c B8).b j0) rfl rfl λR a y h k=>by kernel_rfl
noncomputable def Pg.sd{X S:Type}(d:Pg (List (Bb×W)) X S):Pg OF X S:=⟨λR o k=>Pp (d.dec R o.fs k) (λu=>Y) o.cls,λx s=>⟨Y,d.wR x s⟩,λR a k r e=>by
 obtain⟨b,f⟩:=a
 induction b with
 |some=>exact ja e|none=>
  obtain⟨x,s,rfl,c⟩:=d.ok R _ _ _ e;exact⟨x,s,rfl,c⟩⟩
abbrev qeB:=(List W×Unit)×ub
noncomputable abbrev qeA:=(Int×Unit)×Unit
def qdR:Pg ub qeB qeA:=.cons (.sd (.p (.fld "cells" .l)<| .a (.fld "at" .int) .nil)) .rest
def qk(b:List W)(e f:Int)(k:Int->Int->Option R):Option R:=M (Ph (Sd b) (e+1)) (k 0 (e+1)) (H (Jg b (e+1 - 1)) λc=>H (Ua c) λx=>H (Nz x f) λz=>k z (e+1))
def ZH:CF:=xg (.sk (.ref 0)<| .p .int .nil) qdR (λR a y h k=>qk y.1.1 h.1.1 a.1 λz i=>k (z,i)) λu y u t=>(.int t.1,qdR.wR y ((t.2,()),()))
theorem Q8:mi (Nb db Ib pc (n+1) V) 444 ZH:=qj .nil rfl rfl λR a y h k=>by kernel_rfl
end
end
end
section
variable {R:Type}
noncomputable section
section
variable {X:Nat->Option (List Int)} {n d a:Nat} {T:Yp} {V:Nat->fc->ub->al} {O:Or}
def Wg(s:Ff):OF:=(Pg.obj 256 E9).wR () s
def Ap(m:Nat)(v:W)(s:Ff)(k:List W->Ff->Option R):Option R:=M (EA [v]) (H (KQ [v]) λb=>M (nb b) (H (wl m b) λb=>M (oe [Wg s]) (S9 b (λs=>[Wg s]) s λt=>M (Hd t.1) (M (oe [Wg t.2]) (M (nb t.1) (k [t.1] t.2) Y) Y) Y) Y) Y) Y
def iG(f:List W)(g:ub)(k:List W->Option R):Option R:=Vd 3 λh=>ze (λc i=>M (Jd 4900 f) (ze (λrow b=>yF row c g λe=>M (nb e) (b [e]) Y) f λb=>M (Jd 4096 b) (M (Jd 4096 b) (i [.t b]) Y) Y) Y) h λb=>M (Jd 4096 b) (k b) Y
abbrev BK:=List W×List W×List W×List W×ER×Bool
noncomputable def Io(p:BK):OF:=qdy p.1 p.2.1 p.2.2.1 p.2.2.2.1 p.2.2.2.2.1 p.2.2.2.2.2
def Uo(m:Nat)(l e:List W)(o:ub)(k:BK->Option R):Option R:=M (Jd 4096 e) (iG l o λf=>H (Jg f 0) λa=>H (Jg f 1) λb=>H (Jg f 2) λc=>M (EA [.t e,a,b,c]) (H (wl (m+1) (.t e)) λt=>H (wl (m+1) a) λa=>H (wl (m+1) b) λb=>H (wl (m+1) c) λc=>H (lg t) λg=>H (lg a) λe=>H (lg b) λh=>H (lg c) λi=>xW g e h i λq j=>M (oe [Io (g,e,h,i,q,j)]) (k (g,e,h,i,q,j)) Y) Y) Y
def yt(b:ub)(m:Nat)(e g:List W)(k:Ff->BK->Option R):Option R:=M (Jd 4900 e) (nk (Ap m) e sX λf s=>M (Jd 4096 f) (Uo m g f (b++[Wg s]) λc=>k s c) Y) Y
def Ds:Or:=(((Or.nil.c 120 JH).c 127 KH).v 451 KQ).c 377 RH
noncomputable def VV:Mine.Internal.X:=.comp 2 (.x 0) (.x 6) [] [] (.meth (.x 2) "new_var" [.call (.k (.ref 451)) [.x 6]])
noncomputable def Sv(b c:List W)(m:Nat)(w:Option W):fc:=[J (.l b),J (.l c),J (.ref m),w,Y]
theorem qcB(c f:List W)(o:OF)(s:Ff)(k:W×ub->Option R):hK Ds VV (Sv c f 1 Y) [o,Wg s] k=M (Jd 4900 c) (nk (Ap 1) c s λe s=>M (Jd 4096 e) (k (.l e,[o,Wg s])) Y) Y:=
 dn (b:=M (Jd 4900 c) (ot (λv g h=>jm (.x 6) v (Sv c f 1 Y++Ia 2 Y) λe=>hK Ds (.meth (.x 2) "new_var" [.call (.k (.ref 451)) [.x 6]]) e g λp=>M (nb p.1) (h ([p.1],p.2)) Y) c [o,Wg s] λq=>M (Jd 4096 q.1) (k (.l q.1,q.2)) Y) Y) (by kernel_rfl)
  (Gc (λz=>M (Jd 4900 c) z Y) (lv (eH:=λs=>[o,Wg s]) (gP:=Ap 1) (λv s k=>by kernel_rfl) c s _))
theorem qcC(c h:List W)(o e f:OF)(s:Ff)(k:W×ub->Option R):hK Ds VV (Sv c h 3 Y) [o,e,f,Wg s] k=M (Jd 4900 c) (nk (Ap 3) c s λg s=>M (Jd 4096 g) (k (.l g,[o,e,f,Wg s])) Y) Y:=
 dn (b:=M (Jd 4900 c) (ot (λv i j=>jm (.x 6) v (Sv c h 3 Y++Ia 2 Y) λg=>hK Ds (.meth (.x 2) "new_var" [.call (.k (.ref 451)) [.x 6]]) g i λp=>M (nb p.1) (j ([p.1],p.2)) Y) c [o,e,f,Wg s] λq=>M (Jd 4096 q.1) (k (.l q.1,q.2)) Y) Y) (by kernel_rfl)
  (Gc (λz=>M (Jd 4900 c) z Y) (lv (eH:=λs=>[o,e,f,Wg s]) (gP:=Ap 3) (λv s k=>by kernel_rfl) c s _))
def mG(b c:List W)(m:Nat)(k:W×ub->Option R)(p:W×ub):Option R:=ML Ds (.k (.type "tuple")) [p.1] p.2 λq=>M (nb q.1) (Sg Ds (nJ.body.drop 2) (Sv b c m (J q.1)) q.2 λr=>k (XS r)) Y
theorem HY(e f:List W)(o:OF)(k:W×ub->Option R):bn Ds nJ [.l e,.l f] [o] k=yt [o] 1 e f λs c=>k (.t [.ref 1,.ref 2],[o,Wg s,Io c]):=
 dn (b:=hK Ds VV (Sv e f 1 Y) [o,Wg sX] (mG e f 1 k)) (by kernel_rfl) ((qcB e f o sX _).trans (Gc (λz=>M (Jd 4900 e) z Y) (Gc (nk (Ap 1) e sX) (funext λg=>funext λs=>by kernel_rfl))))
theorem IY(e f:List W)(o g h:OF)(k:W×ub->Option R):bn Ds nJ [.l e,.l f] [o,g,h] k=yt [o,g,h] 3 e f λs c=>k (.t [.ref 3,.ref 4],[o,g,h,Wg s,Io c]):=
 dn (b:=hK Ds VV (Sv e f 3 Y) [o,g,h,Wg sX] (mG e f 3 k)) (by kernel_rfl) ((qcC e f o g h sX _).trans (Gc (λz=>M (Jd 4900 e) z Y) (Gc (nk (Ap 3) e sX) (funext λi=>funext λs=>by kernel_rfl))))
def MC:CF:=xg (.p .l<| .p .l .nil) (.p .id .nil) (λR a y h k=>yt [y.1] 1 a.1 a.2.1 λs c=>k (s,c)) λu y u t=>(.t [.ref 1,.ref 2],[y.1,Wg t.1,Io t.2])
def NC:CF:=xg (.p .l<| .p .l .nil) (.p .id<| .p .id<| .p .id .nil) (λR a y h k=>yt [y.1,y.2.1,y.2.2.1] 3 a.1 a.2.1 λs c=>k (s,c)) λu y u t=>(.t [.ref 3,.ref 4],[y.1,y.2.1,y.2.2.1,Wg t.1,Io t.2])
def aI:CF:=λR c b k=>M (Ub (len b) 1) (MC R c b k) (NC R c b k)
theorem cX:yh Ds (Nb db Ib pc (n+2) X) (Ee db Ib X (Nb db Ib pc (n+2) X) 4):=(((yh.nil.c p8).c q8).v R8).c H8
theorem H0:mi (Nb db Ib pc (n+3) X) 466 MC:=qj (O:=Ds) (fn:=nJ) cX rfl rfl λR a y h k=>HY a.1 a.2.1 y.1 k
theorem I0:mi (Nb db Ib pc (n+3) X) 466 NC:=qj (O:=Ds) (fn:=nJ) cX rfl rfl λR a y h k=>IY a.1 a.2.1 y.1 y.2.1 y.2.2.1 k
theorem U8:mi (Nb db Ib pc (n+3) X) 466 aI:=λR b c k r=>NI (P:=λx=>x=J r->SK _ _ k r) (λu=>H0 R b c k r) (I0 R b c k r)
end
end
end
noncomputable section
section
variable {sc:Nat->Option (List Int)} {n d a:Nat} {V:Yp} {cb:Nat->fc->ub->al} {O:Or}
def Ze(N:Nat):Or:=(((((((((Or.nil.c 444 ZH).v 456 LQ).v 461 IV).c 466 aI).r 432 YH).r 425 XH).c 476 (dI N)).r 197 LH).c 232 NH).c 218 MH
theorem c9:yh (Ze 5000) (Nb db Ib pc (n+10) sc) cb:=(((((((((yh.nil.c Q8).v S8).v T8).c U8).r P8).r O8).c W8).r u8).c A8).c w8
noncomputable def wp(X:List W)(i:Int):OF:=⟨Y,[("cells",.l X),("at",.int i)]⟩
abbrev rest(i:Nat):List SF:=oJ.body.drop i
variable {R:Type} (N:Nat) (q:W) (X:List W) (i:Int) (k:Fk->Option R)
noncomputable abbrev CZ:fc:=[J q,J (.ref 0),Y,Y,Y,Y,Y,Y,Y,Y,Y,Y,Y,Y,Y,Y]
noncomputable abbrev qcz(b:W):fc:=[J q,J (.ref 0),J b,Y,Y,Y,Y,Y,Y,Y,Y,Y,Y,Y,Y,Y]
noncomputable abbrev f8(b:W)(c:List W):fc:=[J q,J (.ref 0),J b,J (.l c),Y,Y,Y,Y,Y,Y,Y,Y,Y,Y,Y,Y]
theorem qcV:Sg (Ze N) (rest 1) (CZ q) [wp X i] k=qk X i 3 λz i=>Sg (Ze N) (rest 2) (qcz q (.int (1+z))) [wp X i] k:=by kernel_rfl
def bH{R:Type}(X:List W)(_:W)(i:Int)(k:List W->Int->Option R):Option R:=qk X i 7 λz i=>k [.int (1+z)] i
theorem qcW(c:Int):Sg (Ze N) (rest 2) (qcz q (.int c)) [wp X i] k=Vd c λe=>nk (bH X) e i λg i=>M (Jd 4096 g) (Sg (Ze N) (rest 3) (f8 q (.int c) g) [wp X i] k) Y:=
 dn (b:=Vd c λe=>ot (λv h j=>jm (.x 17) v (qcz q (.int c)++Ia 2 Y) λf=>hK (Ze N) (.bin .Add (.int 1) (.call (.k (.ref 444)) [.x 1,.int 7])) f h λp=>M (nb p.1) (j ([p.1],p.2)) Y) e [wp X i] λp=>M (Jd 4096 p.1) (Sg (Ze N) (rest 3) (f8 q (.int c) p.1) p.2 k) Y) (by kernel_rfl)
  (Gc (Vd c) (funext λe=>lv (eH:=λi=>[wp X i]) (gP:=bH X) (λv i k=>by kernel_rfl) e i _))
def qbp{R:Type}(m v:W)(k:Bool->Option R):Option R:=H (Ua v) λy=>H (rU 2 y) λz=>H (Ua m) λx=>H (US x z) λq=>H (Nz q 2) λr=>k (Rp r 1)
def ZN{R:Type}(m:W)(k:List W->Option R):Option R:=Vd 3 λe=>ze (λv c=>qbp m v λb=>M b (M (nb v) (c [v]) Y) (c [])) e λb=>M (Jd 4096 b) (k b) Y
def QN{R:Type}(b:List W)(k:List W->Option R):Option R:=M (Jd 4900 b) (ze (λm c=>ZN m λe=>c [.l e]) b λc=>M (Jd 4096 c) (k c) Y) Y
noncomputable def row(v l h:Int):W:=.t [.int v,.int l,.int h]
noncomputable abbrev L4(e:W)(h j:List W)(v g:Int)(f b:List W)(c:Option W):fc:=[J q,J (.ref 0),J e,J (.l h),J (.int v),J (.l j),J (.o (.l f)),J (.int (0+1)),J (.int g),J (.o (.l b)),c,Y,Y,Y,Y,Y]
noncomputable abbrev DZ(e:W)(j l:List W)(v f g h b c:Option W):fc:=[J q,J (.ref 0),J e,J (.l j),v,J (.l l),f,g,h,b,c,Y,Y,Y,Y,Y]
theorem r9(b:W)(c:List W):Sg (Ze N) (rest 3) (f8 q b c) [wp X i] k=QN c λe=>Sg (Ze N) (rest 4) (DZ q b c e Y Y Y Y Y Y) [wp X i] k:=by kernel_rfl
theorem s9(b:W)(c e:List W):Sg (Ze N) (rest 4) (DZ q b c e Y Y Y Y Y Y) [wp X i] k=qk X i 3 λv i=>Sg (Ze N) (rest 6) (DZ q b c e (J (.int v)) (J (.o (.l []))) Y Y Y Y) [wp X i] k:=by kernel_rfl
theorem t9(b:W)(e f:List W)(v:Int):Sg (Ze N) (rest 6) (DZ q b e f (J (.int v)) (J (.o (.l []))) Y Y Y Y) [wp X i] k=qk X i 3 λg i=>qk X i 3 λh i=>qk X i 3 λc i=>qk X i 3 λj i=>Sg (Ze N) (rest 7) (DZ q b e f (J (.int v)) (J (.o (.l [row v g (g+h),row v c (c+j)]))) (J (.int (0+1))) (J (.int c)) Y Y) [wp X i] k:=by kernel_rfl
theorem u9(b:W)(h j:List W)(v e f c g:Int):Sg (Ze N) (rest 7) (DZ q b h j (J (.int v)) (J (.o (.l [row v e f,row v c g]))) (J (.int (0+1))) (J (.int c)) Y Y) [wp X i] k=Sg (Ze N) (rest 8) (L4 q b h j v c [row v e f,row v c g] [row v (max e c) (min f g)] Y) [wp X i] k:=by kernel_rfl
theorem v9(e:W)(g h c b:List W)(v j:Int):Sg (Ze N) (rest 8) (L4 q e g h v j c b Y) [wp X i] k=qk X i 2 λf i=>M (Rp f 1)
 (H (Nz (v+1) 3) λw=>qk X i 3 λl i=>H (oN 1 (row w 0 l) c) λc=>M (Jd 4096 b) (Sg (Ze N) (rest 9) (L4 q e g h v j c (b++[row w 0 l]) (J (row w 0 l))) [wp X i] k) Y)
 (Sg (Ze N) (rest 9) (L4 q e g h v j c b Y) [wp X i] k):=by kernel_rfl
def P5{R:Type}(e c:List W)(k:List W->Option R):Option R:=M (EA [.l e]) (H (LQ [.l e]) λg=>Nf g λh=>ze (λone f=>M (EA [one,.l c]) (H (IV [one,.l c]) λb=>H (Li b) λb=>M b (M (nb one) (f [one]) Y) (f [])) Y) h λan=>M (Jd 4096 an) (k an) Y) Y
noncomputable def bQ:List W:=[.str "<=",.str ">=",.str "!=",.str "="]
def d8{R:Type}(b:Int)(X:List W)(i:Int)(k:List W->Int->Option R):Option R:=qk X i b λx i=>qk X i 4 λs i=>H (Jg bQ s) λc=>M (nb c) (qk X i 3 λz i=>k [.int x,c,.int z] i) Y
noncomputable abbrev qcA(g:W)(o p:List W)(v j:W)(h e:List W)(l f:Option W)(an m:List W)(a b c:Option W):fc:=[J q,J (.ref 0),J g,J (.l o),J v,J (.l p),J (.l h),l,J j,J (.l e),f,J (.l an),J (.t m),a,b,c]
theorem qcX(c v g:Int)(l h e b:List W)(f:Option W):Sg (Ze N) (rest 9) (L4 q (.int c) l h v g e b f) [wp X i] k=P5 h e λan=>d8 c X i λj i=>Sg (Ze N) (rest 13) (qcA q (.int c) l h (.int v) (.int g) e b (J (.int (0+1))) f an j Y Y Y) [wp X i] k:=by kernel_rfl
noncomputable def Sx(p:BK):xr:=(.int (-1),.t p.1,.str "values",p.1,[.t p.2.1,.t p.2.2.1,.t p.2.2.2.1],p.2.2.2.2.1.1,p.2.2.2.2.1.2.1,p.2.2.2.2.1.2.2.1,())
def Vh(p:BK):OF:=(Pg.obj 435 l4).wR (Sx p) ()
def ME{R:Type}(p:BK)(k:Option R):Option R:=H (M p.2.2.2.2.2 Y (J ())) λu=>k
def BC{R:Type}(c:BK)(f:List W)(e:Int)(j:ub)(k:Bool->Option R):Option R:=M (oe [Io c]) (ME c (AX (Sx c) λr=>M (Hd (.t r)) (M (ED 0 e) (H (fu (.rng 0 e) j) λg=>M (Jd 4096 g) (iG f j λh=>M (Jd 4096 h) (M (Jd 4096 ([.str "cardinality",.t g]++h)) (H (rk (.t r) (.t ([.str "cardinality",.t g]++h))) λb=>k (!b)) Y) Y) Y) Y) Y)) Y
def Zz{R:Type}(m:Nat)(c:BK)(f an:List W)(k:Bool->Option R):Option R:=M (EA [.l f]) (H (LQ [.l f]) λh=>Nf h λj=>ze (λone g=>M (nb one) (H (wl (m+1) one) λe=>M (oe [Io c]) (ME c (oz (Sx c,()) e λw=>M (Hd w) (H (DA one (.l an)) λb=>H (Oh w (.bool b)) λr=>M r (M (nb one) (g [one]) Y) (g [])) Y)) Y) Y) j λe=>M (Jd 4096 e) (H (rk (.l e) (.l [])) λb=>k (!b)) Y) Y
def On{R:Type}(N m:Nat)(s:Ff)(c:OF)(f:xr)(e:Option R->Option R)(an:List W)(k:Bool->Ff->Option R):Option R:=H (wl m (.l an)) λa=>M (oe [Wg s,c]) (H (Hl a) λan=>e (zL N f s an λw s j=>M (Hd w) (M (oe [Wg s,(Pg.obj 435 l4).wR f ()]) (H (Li w) λb=>k (!b) s) Y) Y)) Y
end
end
noncomputable section
section
abbrev bt(i:Nat):List SF:=((oJ.body.drop 13).flatMap SD).drop i
variable {R:Type} (N:Nat) (q:W) (K F E:OF) (k:Fk->Option R) (T:Int) (G I Q X S an P:List W) (v L:W) (O V a b:Option W) (s:Ff) (c:BK)
noncomputable abbrev mT(x y:Option W):fc:=qcA q (.int T) G I v L Q X O V an P (J (.l S)) x y
noncomputable def ZB(d:ub)(k:Fk->Option R):Option R:=k (.ret (.bool ua) d)
theorem qfi:Sg (Ze N) (bt 0) (mT q T G I Q X S an P v L O V a b) [K] k=yt [K] 1 I S λs c=>Sg (Ze N) (bt 1) (mT q T G I Q X S an P v L O V (J (.ref 1)) (J (.ref 2))) [K,Wg s,Io c] k:=by kernel_rfl
theorem qfj:Sg (Ze N) (bt 0) (mT q T G I Q X S an P v L O V a b) [K,F,E] k=yt [K,F,E] 3 I S λs c=>Sg (Ze N) (bt 1) (mT q T G I Q X S an P v L O V (J (.ref 3)) (J (.ref 4))) [K,F,E,Wg s,Io c] k:=by kernel_rfl
noncomputable abbrev m1:fc:=mT q T G I Q X S an P v L O V (J (.ref 1)) (J (.ref 2))
noncomputable abbrev m3:fc:=mT q T G I Q X S an P v L O V (J (.ref 3)) (J (.ref 4))
theorem qfk:Sg (Ze N) (bt 1) (m1 q T G I Q X S an P v L O V) [K,Wg s,Io c] k=BC c S T [K,Wg s,Io c] λr=>M r (ZB [K,Wg s,Io c] k) (Sg (Ze N) (bt 2) (m1 q T G I Q X S an P v L O V) [K,Wg s,Io c] k):=by kernel_rfl
theorem qfl:Sg (Ze N) (bt 1) (m3 q T G I Q X S an P v L O V) [K,F,E,Wg s,Io c] k=BC c S T [K,F,E,Wg s,Io c] λr=>M r (ZB [K,F,E,Wg s,Io c] k) (Sg (Ze N) (bt 2) (m3 q T G I Q X S an P v L O V) [K,F,E,Wg s,Io c] k):=by kernel_rfl
theorem qfm:Sg (Ze N) (bt 2) (m1 q T G I Q X S an P v L O V) [K,Wg s,Io c] k=Zz 1 c I an λr=>M r (ZB [K,Wg s,Io c] k) (Sg (Ze N) (bt 3) (m1 q T G I Q X S an P v L O V) [K,Wg s,Io c] k):=by kernel_rfl
theorem qfn:Sg (Ze N) (bt 2) (m3 q T G I Q X S an P v L O V) [K,F,E,Wg s,Io c] k=Zz 3 c I an λr=>M r (ZB [K,F,E,Wg s,Io c] k) (Sg (Ze N) (bt 3) (m3 q T G I Q X S an P v L O V) [K,F,E,Wg s,Io c] k):=by kernel_rfl
theorem qfo:Sg (Ze N) (bt 3) (m1 q T G I Q X S an P v L O V) [K,Wg s,Io c] k=On N 1 s (Io c) (Sx c) (ME c) an λr s=>M r (ZB [K,Wg s,Vh c] k) (Sg (Ze N) (bt 4) (m1 q T G I Q X S an P v L O V) [K,Wg s,Vh c] k):=by kernel_rfl
theorem qfp:Sg (Ze N) (bt 3) (m3 q T G I Q X S an P v L O V) [K,F,E,Wg s,Io c] k=On N 3 s (Io c) (Sx c) (ME c) an λr s=>M r (ZB [K,F,E,Wg s,Vh c] k) (Sg (Ze N) (bt 4) (m3 q T G I Q X S an P v L O V) [K,F,E,Wg s,Vh c] k):=by kernel_rfl
def YB{R:Type}(m:Nat)(P:List W)(s:Ff)(c:OF)(k:Bool->Option R):Option R:=M (!s.bad) (H (wl m (.t P)) λl=>M (oe [Wg s,c]) (H (lg l) λI=>gN I s λw=>M (Hd w) (H (rk w (.int 0)) k) Y) Y) (k ua)
def mM{R:Type}(m:Nat)(P:List W)(s:Ff)(c:OF)(k:Ff->Option R):Option R:=M (oe [Wg s,c]) (kP s λs=>M (oe [Wg s,c]) (H (wl m (.t P)) λl=>M (oe [Wg s,c]) (H (lg l) λI=>rp I .none (.int (-1)) (λs=>[Wg s,c]) s λt=>M (oe [Wg t.2,c]) (k t.2) Y) Y) Y) Y
theorem qfq:Sg (Ze N) (bt 4) (m1 q T G I Q X S an P v L O V) [K,Wg s,Vh c] k=YB 1 P s (Vh c) λr=>M r (mM 1 P s (Vh c) λs=>On N 1 s (Vh c) (Sx c) (λz=>z) an λr s=>M r (ZB [K,Wg s,Vh c] k) (k (.go (m1 q T G I Q X S an P v L O V) [K,Wg s,Vh c]))) (k (.go (m1 q T G I Q X S an P v L O V) [K,Wg s,Vh c])):=by kernel_rfl
theorem qfr:Sg (Ze N) (bt 4) (m3 q T G I Q X S an P v L O V) [K,F,E,Wg s,Vh c] k=YB 3 P s (Vh c) λr=>M r (mM 3 P s (Vh c) λs=>On N 3 s (Vh c) (Sx c) (λz=>z) an λr s=>M r (ZB [K,F,E,Wg s,Vh c] k) (k (.go (m3 q T G I Q X S an P v L O V) [K,F,E,Wg s,Vh c]))) (k (.go (m3 q T G I Q X S an P v L O V) [K,F,E,Wg s,Vh c])):=by kernel_rfl
theorem qcY:Sg (Ze N) (rest 13) (qcA q (.int T) G I v L Q X O V an P Y Y Y) [K] k=Sg (Ze N) (bt 0) (mT q T G I Q X Q an P v L O V Y Y) [K] λr=>Fk.rec (λe d=>lk (.x 13) (.l X) e λe=>Sg (Ze N) (bt 0) e d λr=>Fk.rec (λu d=>k (.ret (.bool Z) d)) (λw d=>k (.ret w d)) r) (λw d=>k (.ret w d)) r:=by kernel_rfl
end
end
section
variable {b o:Int} {w i Q O:W} {X P able V lows:List W} {h:Ae} {m:M1} {c:DW} {N:Nat} {σ:Ae->ub}
def Nt{S:Type}(f:(R:Type)->(S->Option R)->Option R):Prop:=∀(R:Type)(k:S->Option R),f R k=H (f S J) k
section
variable {S T A B K L:Type}
theorem TI{d e j:Type}{o:Option d}{f:d->Option e}{g:e->Option j}:H (H o f) g=H o λa=>H (f a) g:=by induction o<;>rfl
theorem Nt.ret{s:S}:Nt (λR k=>k s):=λu u=>rfl
theorem Nt.no:Nt (S:=S) (λR k=>Y):=λu u=>rfl
theorem Nt.wV{o:Option A}{f:A->(R:Type)->(S->Option R)->Option R}(h:∀a,Nt (f a)):Nt (λR k=>Mine.Internal.H o λa=>f a R k):=λR k=>by
 induction o with
 |none=>rfl|some a=>exact h a R k
theorem Nt.iff{b:Bool}{f g:(R:Type)->(S->Option R)->Option R}(h:Nt f)(a:Nt g):Nt (λR k=>Mine.Internal.M b (f R k) (g R k)):=λR k=>by
 induction b with
 |true=>exact h R k|false=>exact a R k
theorem Nt.seq{f:(R:Type)->(S->Option R)->Option R}{g:S->(R:Type)->(T->Option R)->Option R}(a:Nt f)(d:∀s,Nt (g s)):Nt (λR k=>f R λs=>g s R k):=λR k=>by
 show f R _=Mine.Internal.H (f T _) k
 exact U (a R _) (U (a T _) (U TI (Gc _ (funext λs=>d s R k))))
theorem Nt.seq2{f:(R:Type)->(A->B->Option R)->Option R}{g:A->B->(R:Type)->(T->Option R)->Option R}(d:Nt λR k=>f R λa b=>k (a,b))(e:∀a b,Nt (g a b)):Nt (λR k=>f R λa b=>g a b R k):=Nt.seq (f:=λR k=>f R λa b=>k (a,b)) (g:=λs=>g s.1 s.2) d λs=>e s.1 s.2
theorem Nt.comp{g:(R:Type)->W->(List W->Option R)->Option R}(h:∀v,Nt λR k=>g R v k):∀X,Nt (λR k=>ze (g R) X k):=by
 intro X
 induction X with
 |nil=>
  exact Nt.ret
 |cons x X d=>
  exact Nt.seq (f:=λR k=>g R x k) (h x) λa=>Nt.seq (f:=λR k=>ze (g R) X k) (d) λb=>Nt.ret
theorem Nt.fold{g:(R:Type)->W->K->L->(K->L->Option R)->Option R}(h:∀v m s,Nt λR k=>g R v m s λm s=>k (m,s)):∀X m s,Nt (λR k=>mh (g R) X m s λm s=>k (m,s)):=by
 intro X
 induction X with
 |nil=>
  rintro m s;exact Nt.ret
 |cons x X a=>
  rintro m s;exact Nt.seq2 (f:=λR k=>g R x m s k) (h x m s) λm s=>a m s
theorem Nt.wh{t:(R:Type)->K->L->(Bool->Option R)->Option R}{g:(R:Type)->K->L->(K->L->Option R)->Option R}(a:∀m s,Nt λR k=>t R m s k)(h:∀m s,Nt λR k=>g R m s λm s=>k (m,s)):∀n m s,Nt (λR k=>Y4 (t R) (g R) n m s λm s=>k (m,s)):=by
 intro n
 induction n with
 |zero=>
  rintro m s;exact Nt.no
 |succ n d=>
  rintro m s;exact Nt.seq (f:=λR k=>t R m s k) (a m s) λb=>Nt.iff (Nt.seq2 (f:=λR k=>g R m s k) (h m s) λm s=>d m s) Nt.ret
theorem Nt.whP{t:(R:Type)->K->L->(Bool->Option R)->Option R}{g:(R:Type)->K->L->(Fw K L->Option R)->Option R}(a:∀m s,Nt λR k=>t R m s k)(h:∀m s,Nt λR k=>g R m s k):∀n m s,Nt (λR k=>Mine.Internal.a5 (t R) (g R) n m s k):=by
 intro n
 induction n with
 |zero=>
  rintro m s;exact Nt.no
 |succ n d=>
  rintro m s;exact Nt.seq (f:=λR k=>t R m s k) (a m s) λb=>Nt.iff (Nt.seq (f:=λR k=>g R m s k) (g:=λr R k=>Fw.rec (λm s=>Mine.Internal.a5 (t R) (g R) n m s k) (λw s=>k (.ret w s)) r) (h m s) λr=>by
   induction r with
   |go m s=>exact d m s|ret w s=>exact Nt.ret) Nt.ret
theorem Nt.foldP{g:(R:Type)->W->K->L->(Fw K L->Option R)->Option R}(h:∀v m s,Nt λR k=>g R v m s k):∀X m s,Nt (λR k=>Mine.Internal.kg (g R) X m s k):=by
 intro X
 induction X with
 |nil=>
  rintro m s;exact Nt.ret
 |cons x X a=>
  rintro m s;exact Nt.seq (f:=λR k=>g R x m s k) (g:=λr R k=>Fw.rec (λm s=>Mine.Internal.kg (g R) X m s k) (λw s=>k (.ret w s)) r) (h x m s) λr=>by
   induction r with
   |go m s=>exact a m s|ret w s=>exact Nt.ret
theorem Nt.fw{f:K->L->(R:Type)->(T->Option R)->Option R}{g:W->L->(R:Type)->(T->Option R)->Option R}(a:∀m s,Nt (f m s))(d:∀w s,Nt (g w s))(r:Fw K L):Nt (λR k=>Fw.rec (λm s=>f m s R k) (λw s=>g w s R k) r):=by
 induction r with
 |go m s=>exact a m s|ret w s=>exact d w s
end
theorem Lq{n:Int}:Nt (λR k=>Vd (R:=R) n k):=.iff (.iff .ret .no) .no
theorem Sz:Nt (λR k=>Nf (R:=R) w k):=λR k=>by induction w using W.casesOn<;>first|rfl|(exact Nt.iff (f:=λR k=>k _) .ret .no R k)
theorem Uz{a:List W}:Nt (λR k=>Jp (R:=R) X a i λx y=>k (x,y)):=.wV λu=>.wV λu=>.wV λu=>.wV λu=>.wV λu=>.wV λu=>.ret
theorem OE{z:Int->Int}:Nt (λR k=>TR (R:=R) X i z k):=.wV λu=>.wV λu=>.wV λu=>.wV λu=>λu u=>by induction ju X _ _<;>rfl
theorem nH:Nt (λR k=>WO (R:=R) w λa b=>k (a,b)):=.iff (.wV λu=>.wV λu=>.wV λu=>.iff .ret .no) .no
theorem PE:Nt (λR k=>Jl (R:=R) P o k):=by
 delta Jl
 exact .seq Lq λX=>.seq (.comp (λv=>.wV λu=>.wV λu=>.wV λu=>.iff (.iff .ret .no) .ret) X) λa=>.iff .ret .no
theorem UB:Nt (λR k=>qt (R:=R) w h k):=.iff (.wV λo=>.seq PE λw=>Sz) .no
theorem tO:Nt (λR k=>sH (R:=R) able b m h λm h=>k (m,h)):=by
 delta sH
 exact .wV λr=>.seq Sz λX=>.fold (λv m h=>.wV λi=>.iff (.iff (.iff .ret .no) .no) .no) X m h
theorem vO{m:M3}:Nt (λR k=>bC (R:=R) c m h λm h=>k (m,h)):=by
 delta bC
 exact .wh (λm h=>.wV λx=>.ret) (λm h=>.wV λi=>.wV λw=>.seq2 nH λa b=>.iff (.iff (.wV λx=>.wV λd=>.iff .ret .no) .no) .no) 5000 m h
theorem yO{a:W}:Nt (λR k=>uH (R:=R) able Q a m h λm h=>k (m,h)):=by
 delta uH
 exact .wV λi=>.wV λr=>.seq Sz λX=>.fold (λv m h=>.wV λx=>.iff (.iff (.iff (.wV λi=>.iff (.iff (.iff .ret .no) .no) .no) .no) .no) .ret) X m h
theorem sO{v:W}{m:M4}:Nt (λR k=>HG (R:=R) able Q v m h λm h=>k (m,h)):=by
 delta HG
 exact .seq2 yO λm h=>.ret
theorem xO{m:M4}:Nt (λR k=>tH (R:=R) able Q m h λm h=>k (m,h)):=by
 delta tH
 exact .seq UB λX=>.fold (λv m h=>sO) X m h
theorem uO{m:M2}:Nt (λR k=>aC (R:=R) able V m h k):=by
 delta aC
 exact .whP (λm h=>.ret) (λm h=>.wV λa=>.iff (.seq2 Uz λx y=>.iff (.seq OE λd=>.seq2 vO λm h=>.ret) (.seq2 xO λm h=>.ret)) .no) 5000 m h
theorem JO:Nt (λR k=>Ls (R:=R) able V b h λw h=>k (w,h)):=by
 delta Ls
 exact .seq2 tO λm h=>.seq uO λr=>.fw (λm h=>.wV λX=>.iff .ret .no) (λw h=>.ret) r
theorem BO{m:M6}:Nt (λR k=>vH (R:=R) N w c m h λm h=>k (m,h)):=by
 delta vH
 exact .wh (λm h=>.wV λx=>.ret) (λm h=>.wV λi=>.wV λw=>.seq2 nH λa b=>.iff (.iff (.wV λx=>.wV λd=>.ret) .no) .no) N m h
theorem kU{o:W}:Nt (λR k=>MB (R:=R) N o w c h λw h=>k (w,h)):=by
 delta MB
 exact .seq OE λa=>.seq OE λa=>.seq2 BO λu h=>.ret
theorem AO{m:M7}:Nt (λR k=>dC (R:=R) able lows O Q σ m h k):=by
 delta dC
 exact .seq Lq λX=>.foldP (λv m h=>.wV λi=>.wV λo=>.iff (.wV λi=>.wV λr=>.wV λc=>.wV λb=>.iff (.wV λx=>.iff (.iff (.iff (.wV λi=>.iff (.iff (.iff (.seq2 Uz λx y=>.iff (.iff (.iff (.seq2 kU λw h=>.wV λu=>.ret) .no) .no) .ret) .no) .no) .no) .no) .no) .ret) .ret) .no) X m h
theorem zO{m:M8}:Nt (λR k=>cC (R:=R) N able lows O σ m h k):=by
 delta cC
 exact .whP (λm h=>.ret) (λm h=>.wV λa=>.iff (.seq AO λr=>.fw (λm h=>.ret) (λw h=>.ret) r) .no) N m h
theorem jU{w:Int}:Nt (λR k=>tq (R:=R) N able lows w σ h λw h=>k (w,h)):=by
 delta tq
 exact .seq zO λr=>.fw (λm h=>.wV λX=>.iff .ret .no) (λw h=>.ret) r
theorem EO{m:M9}:Nt (λR k=>xH (R:=R) able w m h λm h=>k (m,h)):=by
 delta xH
 exact .seq UB λX=>.fold (λv m h=>.wV λi=>.wV λr=>.iff (.wV λa=>.iff .ret .no) .no) X m h
theorem HO{f:List W}:Nt (λR k=>yH (R:=R) f m h λm h=>k (m,h)):=by
 delta yH
 exact .iff (.fold (λv m h=>.wV λx=>.iff (.wV λi=>.iff (.iff (.iff .ret .no) .no) .no) .ret) f m h) .no
theorem Tz{m:mR}{r:Bool}{f:List W}:Nt (λR k=>wC (R:=R) able w m r f h λm h=>k (m,h)):=by
 delta wC
 exact .seq2 EO λm h=>.seq2 HO λm h=>.ret
theorem KO:Nt (λR k=>mF (R:=R) lows h k):=by
 delta mF
 exact .seq Lq λX=>.seq (.comp (λv=>.seq2 Uz λx y=>.iff (.iff .ret .no) .ret) X) λa=>.iff .ret .no
theorem DO{m:mR}:Nt (λR k=>wH (R:=R) N able lows V m h λm h=>k (m,h)):=by
 delta wH
 exact .wh (λm h=>.ret) (λm h=>.wV λa=>.iff (.iff (.seq2 Uz λx y=>.iff (.seq KO λd=>.iff Tz .no) Tz) Tz) .no) N m h
theorem QE:Nt (λR k=>Tl (R:=R) N able lows V o h λf r h=>k (f,r,h)):=by
 delta Tl
 exact .seq2 DO λm h=>.wV λX=>.iff .ret .no
theorem rO{d e:List W}{σ:ub}:Nt (λR k=>Zo (R:=R) d able P e o σ k):=by
 delta Zo
 exact .seq Lq λf=>.seq (.comp (λv=>.wV λi=>.wV λr=>.wV λc=>.wV λb=>.iff (.wV λi=>.wV λa=>.wV λx=>.wV λb=>.iff (.iff .ret .no) .ret) .ret) f) λa=>.iff .ret .no
end
noncomputable section
def qel(b a:List W)(i:Int)(h:Ae):Option (W×Ae):=Ls b a i h λw h=>J (w,h)
def qaz(a b:List W)(i:Int)(h:Ae):Option (W×Ae):=tq 5000 a b i (λu=>[]) h λw h=>J (w,h)
def qaJ(b c a:List W)(o:Int)(h:Ae):Option (List W×Bool×Ae):=Tl 5000 b c a o h λf r h=>J (f,r,h)
def qdv(a c d b:List W)(o:Int):Option (List W):=Zo a c d b o [] J
def YO(c a:List W)(d:List W):Ae->Option (Bool×W×Ae):=gc (motive:=λu=>Ae->Option (Bool×W×Ae)) (λh=>J (Z,.none,h)) (λv u e h=>H (Ua v) λi=>H (qel c a i h) λr=>H (Oh r.1 .none) λb=>M b (J (ua,r.1,r.2)) (e r.2)) d
def oB(c a:List W)(v:W)(i:Int)(n:Nat):Ae->Option (Bool×W×Ae):=un (motive:=λu=>Ae->Option (Bool×W×Ae)) (λu=>Y) (λu d h=>Jp h.co a v λx z=>M (Ph x z) (H (qaz c a i h) λr=>H (Oh r.1 .none) λb=>M b (J (ua,r.1,r.2)) (d r.2)) (J (Z,.none,h))) n
def MM(a b:List W)(os:List W):Ae->Option (Bool×W×Ae):=gc (motive:=λu=>Ae->Option (Bool×W×Ae)) (λh=>J (Z,.none,h)) (λv u c h=>H (Ua v) λi=>H (oB a b v i 10 h) λr=>M r.1 (c r.2.2) (J r)) os
noncomputable def Mb(m:Nat):List Nat:=Sa m [] λm=>Sa m [0] λm=>Sa m [1] λm=>Sa m [0,1] λm=>Sa m [2] λm=>Sa m [0,2] λm=>Sa m [1,2] λu=>[0,1,2]
noncomputable def Cb(a:List Nat):List W:=gc [] (λx u b=>.int (.ofNat x)::b) a
def gi(a:List Nat):List W:=gc [] (λr u b=>.l (Cb (Mb r))::b) a
def jp(o:Nat)(b:List Nat):Nat:=gc 0 (λx u a=>M (Ub x o) (nc a) a) b
def qeh(lo a b:List Nat):Bool:=gc (motive:=λu=>Nat->List Nat->Bool) (λu u=>Z) (λl u c o a=>gc Z (λh a u=>M (fh l (jp o b)) (M (fh (jp o b) h) (c (nc o) a) ua) ua) a) lo 0 a
def Ym(lo b:List Nat)(c:List Nat):List Nat->Bool:=gc (motive:=λu=>List Nat->Bool) (λa=>qeh lo b a) (λr u d a=>gc ua (λo u z=>M (d (o::a)) Z z) (Mb r)) c
noncomputable def Ki(o:Nat):Nat:=Sa o 1 λo=>Sa o 2 λu=>4
def Ye(o:Nat)(a:List Nat):Bool:=gc ua (λx u b=>M (Ub x o) Z b) a
def iq(lo d:List Nat)(o:Nat)(b:List Nat):List Nat->Nat->List Nat:=gc (motive:=λu=>List Nat->Nat->List Nat) (λu u=>[]) (λr b c a k=>M (Ye o (Mb r)) (M (Ym lo d (a++Ki o::b) []) (c (a++[r]) (nc k)) (k::c (a++[r]) (nc k))) (c (a++[r]) (nc k))) b
def qbA(b:List Int):List Nat->Bool:=gc (motive:=λu=>List Nat->Bool) (λa=>gc Z (λu u u=>ua) a) (λx u c a=>gc ua (λy a u=>M (Rp x (.ofNat y)) (c a) ua) a) b
def qN(a:List W):Option (List Int):=H (Kv a) λis=>M (fh (len is) 4) (J is) Y
def qcx(w:W):Option (List Int):=H (Hl w) qN
def tL(n:Nat)(is:List Int):Bool:=gc Z (λi u a=>M (!Ph i 0) (M (Ph i (.ofNat n)) a ua) ua) is
def TL(a b d c:List W)(lo e f:List Nat)(os:List Nat):Ae->Option Bool:=gc (motive:=λu=>Ae->Option Bool) (λu=>J (Ym lo e f [])) (λo u g h=>H (qaJ b d c (.ofNat o) h) λr=>H (qN r.1) λu=>H (qN r.2.2.at) λas=>M (Ub (len as) (len a)) (H (qdv a b r.2.2.at r.1 (.ofNat o)) λi=>H (Kv i) λis=>M (qbA is (iq lo e o f [] 0)) (g r.2.2) Y) Y) os
def bad(lo b a:List Nat)(n:Nat)(r:Bool×W×Ae):Option Bool:=H (qcx r.2.1) λis=>M (tL n is) (H (qN r.2.2.at) λas=>M (Ub (len as) (len a)) (J (!Ym lo b a [])) Y) Y
def chk(lo b a:List Nat)(n:Nat)(os:List Nat):Option Bool:=
 H (YO (gi a) (Cb (b++[n+1])) (vw n 0) (.mk (Ia n (.int (-1))) (Ia (len os) (.int 0)))) λr=>M r.1 (H (MM (gi a) (Cb (lo++[0])) (vw (len lo) 0) r.2.2) λr=>M r.1 (TL (vw n 0) (gi a) (Cb (lo++[0])) (Cb (b++[n+1])) lo b a os r.2.2) (bad lo b a (len lo) r)) (bad lo b a (len os) r)
noncomputable def yes(o:Option Bool):Bool:=Pp ua (λb=>b) o
def RA(f:Nat->Bool)(n:Nat):Bool:=un Z (λk a=>M (f (nc k)) a ua) n
def kt(lo d os:List Nat)(z:Nat):Bool:=M (RA (λa=>yes (chk lo d [a] 1 os)) z) (M (RA (λa=>RA (λb=>yes (chk lo d [a,b] 2 os)) z) z) (RA (λa=>RA (λb=>RA (λc=>yes (chk lo d [a,b,c] 3 os)) z) z) z) ua) ua
end
def f5(l h:Nat):Prop:=kt [l] [h] [0,1] 3=Z/\kt [l,0] [h,0] [0,1,2] 7=Z/\kt [l,0] [h,1] [0,1,2] 7=Z/\kt [l,0] [h,2] [0,1,2] 7=Z
set_option maxHeartbeats 0 in
theorem Y6:∀p∈[(0,0),(0,1),(0,2),(1,1),(1,2),(1,3),(2,2),(2,3),(2,4)],f5 p.1 p.2:=by
 refine Ac.mpr ⟨?_,Ac.mpr ⟨?_,Ac.mpr ⟨?_,Ac.mpr ⟨?_,Ac.mpr ⟨?_,Ac.mpr ⟨?_,Ac.mpr ⟨?_,Ac.mpr ⟨?_,Ac.mpr ⟨?_,λu z=>nomatch z⟩⟩⟩⟩⟩⟩⟩⟩⟩
 all_goals refine⟨?_,?_,?_,?_⟩<;>decide+kernel
section
variable {b:Bool} {P:Nat->Prop}
section
variable {X V:Type}
theorem Lb{o:Option X}{a:X}{f:X->Option V}(h:o=J a):H o f=f a:=h▸rfl
theorem Db{x y:X}(h:b=Z):M b x y=x:=h▸rfl
theorem ji{x y:X}(h:b=ua):M b x y=y:=h▸rfl
theorem dJ{R:Type}{g:W->(List W->Option R)->Option R}{f:W->List W}{a:List W}:(∀v∈a,∀k,g v k=k (f v))->∀k,ze g a k=k (a.flatMap f):=by
 induction a with
 |nil=>exactλu k=>rfl|cons x a c=>exactλh k=>(h x sa _).trans (c (λv d=>h v (oa _ d)) _)
end
noncomputable section
def Lw(m:Nat):List W:=Cb (Mb m)
noncomputable def pr(a b:Nat):W:=.t [.int (.ofNat a),.int (.ofNat b)]
def Dn(m:Nat):W:=.t (Sa m [] λm=>Sa m [pr 0 0] λm=>Sa m [pr 1 1] λm=>Sa m [pr 0 1] λm=>Sa m [pr 2 2] λm=>Sa m [pr 0 0,pr 2 2] λm=>Sa m [pr 1 2] λu=>[pr 0 2])
end
inductive Mk:Nat->Prop
 |m1:Mk 1|m2:Mk 2|m3:Mk 3|m4:Mk 4|m5:Mk 5|m6:Mk 6|m7:Mk 7
inductive V3:Nat->Prop
 |v0:V3 0|v1:V3 1|v2:V3 2
theorem Mk.of{m:Nat}(h:1<=m)(k:m<=7):Mk m:=by
 rcases m with _|_|_|_|_|_|_|_|m
 ·exact zc h (dc 0)
 ·exact .m1
 ·exact .m2
 ·exact .m3
 ·exact .m4
 ·exact .m5
 ·exact .m6
 ·exact .m7
 ·exact zc k (mL.mpr (Ve 8 _))
theorem V3.of:{v:Nat}->v<3->V3 v
 |0,u=>.v0|1,_=>.v1|2,_=>.v2|u+3,h=>zc h (Ud.mpr (Ve 3 _))
theorem Mk.all(h:P 1/\P 2/\P 3/\P 4/\P 5/\P 6/\P 7){m:Nat}(a:Mk m):P m:=
 a.rec (motive:=λm u=>P m) h.1 h.2.1 h.2.2.1 h.2.2.2.1 h.2.2.2.2.1 h.2.2.2.2.2.1 h.2.2.2.2.2.2
theorem V3.all(h:P 0/\P 1/\P 2){u:Nat}(a:V3 u):P u:=
 a.rec (motive:=λu y=>P u) h.1 h.2.1 h.2.2
theorem Mk.all2{P:Nat->Nat->Prop}(c:P 1 0/\P 2 0/\P 3 0/\P 4 0/\P 5 0/\P 6 0/\P 7 0)(d:P 1 1/\P 2 1/\P 3 1/\P 4 1/\P 5 1/\P 6 1/\P 7 1)(e:P 1 2/\P 2 2/\P 3 2/\P 4 2/\P 5 2/\P 6 2/\P 7 2){m u:Nat}(a:Mk m)(f:V3 u):P m u:=
 V3.all (P:=λu=>P m u) ⟨Mk.all (P:=λm=>P m 0) c a,Mk.all (P:=λm=>P m 1) d a,Mk.all (P:=λm=>P m 2) e a⟩ f
def pp(m u:Nat):Nat:=M (Ye u (Mb m)) (m - Ki u) m
def a8(m:Nat)(f:Nat->Bool):Nat:=M (Ye 0 (Mb m)) (M (f 0) 1 0) 0+(M (Ye 1 (Mb m)) (M (f 1) 2 0) 0+M (Ye 2 (Mb m)) (M (f 2) 4 0) 0)
noncomputable def C9(s z u:Nat):Bool:=Sa s (fh u z) λs=>Sa s (fh z u) λs=>Sa s (!Ub u z) λy=>Ub u z
def Yh(s m z:Nat):Nat:=a8 m (C9 s z)
noncomputable def Ht(s:Nat):W:=Sa s (.str "<=") λs=>Sa s (.str ">=") λs=>Sa s (.str "!=") λu=>.str "="
inductive S4:Nat->Prop
 |s0:S4 0|s1:S4 1|s2:S4 2|s3:S4 3
theorem S4.of:{v:Nat}->v<4->S4 v
 |0,u=>.s0|1,_=>.s1|2,_=>.s2|3,_=>.s3|u+4,h=>zc h (Ud.mpr (Ve 4 _))
theorem S4.all(h:P 0/\P 1/\P 2/\P 3){u:Nat}(a:S4 u):P u:=
 a.rec (motive:=λu y=>P u) h.1 h.2.1 h.2.2.1 h.2.2.2
variable {R:Type} {m u s:Nat} {x:Int}
theorem WT(k:List W->Option R):Mk m->ZN (.int (.ofNat m)) k=k (Lw m):=Mk.all (P:=λm=>ZN (.int (.ofNat m)) k=k (Lw m)) (by and_intros<;>kernel_rfl)
theorem HV:Mk m->KQ [.l (Lw m)]=J (Dn m):=Mk.all (P:=λm=>KQ [.l (Lw m)]=J (Dn m)) (by and_intros<;>kernel_rfl)
theorem O2:Mk m->qaT [Dn m]=J (.l (Lw m)):=Mk.all (P:=λm=>qaT [Dn m]=J (.l (Lw m))) (by and_intros<;>kernel_rfl)
theorem MV(a:ub)(k:List W->Option R):Mk m->NQ a (Dn m) k=k (Lw m):=Mk.all (P:=λm=>NQ a (Dn m) k=k (Lw m)) (by and_intros<;>kernel_rfl)
theorem J2:Mk m->qaR [Dn m]=J (.int (.ofNat (len (Mb m)))):=Mk.all (P:=λm=>qaR [Dn m]=J (.int (.ofNat (len (Mb m))))) (by and_intros<;>kernel_rfl)
theorem N2:Mk m->V3 u->qaS [Dn m,.int (.ofNat u)]=J (.bool (Ye u (Mb m))):=Mk.all2 (P:=λm u=>qaS [Dn m,.int (.ofNat u)]=J (.bool (Ye u (Mb m)))) (by and_intros<;>kernel_rfl) (by and_intros<;>kernel_rfl) (by and_intros<;>kernel_rfl)
theorem LV:Mk m->V3 u->LK [.t [.int x,.str "!=",.int (.ofNat u)],Dn m]=J (Dn (pp m u)):=Mk.all2 (P:=λm u=>LK [.t [.int x,.str "!=",.int (.ofNat u)],Dn m]=J (Dn (pp m u))) (by and_intros<;>kernel_rfl) (by and_intros<;>kernel_rfl) (by and_intros<;>kernel_rfl)
theorem KV(d:S4 s)(a:Mk m)(c:V3 u):LK [.t [.int x,Ht s,.int (.ofNat u)],Dn m]=J (Dn (Yh s m u)):=
 S4.all (P:=λs=>LK [.t [.int x,Ht s,.int (.ofNat u)],Dn m]=J (Dn (Yh s m u))) ⟨Mk.all2 (P:=λm u=>LK [.t [.int x,Ht 0,.int (.ofNat u)],Dn m]=J (Dn (Yh 0 m u))) (by and_intros<;>kernel_rfl) (by and_intros<;>kernel_rfl) (by and_intros<;>kernel_rfl) a c,
  Mk.all2 (P:=λm u=>LK [.t [.int x,Ht 1,.int (.ofNat u)],Dn m]=J (Dn (Yh 1 m u))) (by and_intros<;>kernel_rfl) (by and_intros<;>kernel_rfl) (by and_intros<;>kernel_rfl) a c,
  Mk.all2 (P:=λm u=>LK [.t [.int x,Ht 2,.int (.ofNat u)],Dn m]=J (Dn (Yh 2 m u))) (by and_intros<;>kernel_rfl) (by and_intros<;>kernel_rfl) (by and_intros<;>kernel_rfl) a c,
  Mk.all2 (P:=λm u=>LK [.t [.int x,Ht 3,.int (.ofNat u)],Dn m]=J (Dn (Yh 3 m u))) (by and_intros<;>kernel_rfl) (by and_intros<;>kernel_rfl) (by and_intros<;>kernel_rfl) a c⟩ d
def Pn(m d:Nat):Int:=M (Ub d m) 1 (M (Ub d 0) (-1) 0)
theorem GV(d:S4 s)(a:Mk m)(c:V3 u):kD [.t [.int x,Ht s,.int (.ofNat u)],Dn m]=J (.int (Pn m (Yh s m u))):=
 S4.all (P:=λs=>kD [.t [.int x,Ht s,.int (.ofNat u)],Dn m]=J (.int (Pn m (Yh s m u)))) ⟨Mk.all2 (P:=λm u=>kD [.t [.int x,Ht 0,.int (.ofNat u)],Dn m]=J (.int (Pn m (Yh 0 m u)))) (by and_intros<;>kernel_rfl) (by and_intros<;>kernel_rfl) (by and_intros<;>kernel_rfl) a c,
  Mk.all2 (P:=λm u=>kD [.t [.int x,Ht 1,.int (.ofNat u)],Dn m]=J (.int (Pn m (Yh 1 m u)))) (by and_intros<;>kernel_rfl) (by and_intros<;>kernel_rfl) (by and_intros<;>kernel_rfl) a c,
  Mk.all2 (P:=λm u=>kD [.t [.int x,Ht 2,.int (.ofNat u)],Dn m]=J (.int (Pn m (Yh 2 m u)))) (by and_intros<;>kernel_rfl) (by and_intros<;>kernel_rfl) (by and_intros<;>kernel_rfl) a c,
  Mk.all2 (P:=λm u=>kD [.t [.int x,Ht 3,.int (.ofNat u)],Dn m]=J (.int (Pn m (Yh 3 m u)))) (by and_intros<;>kernel_rfl) (by and_intros<;>kernel_rfl) (by and_intros<;>kernel_rfl) a c⟩ d
def Ws(x:Int)(m:Nat):List W:=match JQ [.int x,Dn m]with|some (.l ss)=>ss|_=>[]
theorem sA:Mk m->JQ [.int x,Dn m]=J (.l (Ws x m))/\fh (len (Ws x m)) 5=Z/\Ob (Ws x m)=Z:=Mk.all (P:=λm=>JQ [.int x,Dn m]=J (.l (Ws x m))/\fh (len (Ws x m)) 5=Z/\Ob (Ws x m)=Z) (by and_intros<;>kernel_rfl)
theorem uM:{d:Nat}->d<=7->rk (Dn d) (.t [])=J (Ub d 0)
 |0,u=>by kernel_rfl|d+1,h=>Mk.all (P:=λd=>rk (Dn d) (.t [])=J (Ub d 0)) (by and_intros<;>kernel_rfl) (Mk.of (Ve 1 d) h)
theorem JY{a b:Nat}(d:Mk a)(c:Mk b):rk (Dn a) (Dn b)=J (Ub a b):=Mk.all (P:=λa=>rk (Dn a) (Dn b)=J (Ub a b))
 ⟨Mk.all (P:=λb=>rk (Dn 1) (Dn b)=J (Ub 1 b)) (by and_intros<;>kernel_rfl) c,Mk.all (P:=λb=>rk (Dn 2) (Dn b)=J (Ub 2 b)) (by and_intros<;>kernel_rfl) c,Mk.all (P:=λb=>rk (Dn 3) (Dn b)=J (Ub 3 b)) (by and_intros<;>kernel_rfl) c,Mk.all (P:=λb=>rk (Dn 4) (Dn b)=J (Ub 4 b)) (by and_intros<;>kernel_rfl) c,Mk.all (P:=λb=>rk (Dn 5) (Dn b)=J (Ub 5 b)) (by and_intros<;>kernel_rfl) c,Mk.all (P:=λb=>rk (Dn 6) (Dn b)=J (Ub 6 b)) (by and_intros<;>kernel_rfl) c,Mk.all (P:=λb=>rk (Dn 7) (Dn b)=J (Ub 7 b)) (by and_intros<;>kernel_rfl) c⟩ d
end
section
variable {X:Type} {i x m b u:Nat} {w:W} {s:Ff}
theorem Kc{n:Nat}{a:List X}(h:a.length<n):Jd n a=Z:=by
 unfold Jd;refine U (Qe _) ?_;exact ud.mpr h
theorem Y7{a:List W}(h:a[i]?=J w):Jg a (.ofNat i)=J w:=(Vz a i).trans h
theorem yp{f:X->W}{c:List X}{a:X}(h:c[i]?=J a):Jg (c.map f) (.ofNat i)=J (f a):=Y7 (by refine U Ec (U h ?_);rfl)
theorem C2{a:List W}:∀{i:Nat}{w:W},i<a.length->R9 a w i=J (a.set i w):=by
 induction a with
 |nil=>exactλh=>zc h (We _)|cons x a c=>
  intro i w h
  induction i using Sa with
  |zero=>rfl|succ i=>show H (R9 a w i) _=_;exact U (c (Eg h)) rfl
theorem Pj{a c:List W}(h:Ob a=Z)(k:Ob c=Z):Ob (a++c)=Z:=by
 induction a with
 |nil=>exact k|cons x a d=>exact Aa.mpr ⟨(Aa.mp h).1,d (Aa.mp h).2⟩
theorem SJ{x:Int}:∀a:List Int,(Ql a x).length<=a.length+1:=by
 intro a
 induction a with
 |nil=>
  exact Gb _
 |cons k a c=>
  show(M (Rp k x) (k::a) (k::Ql a x)).length<=_
  induction Rp k x with
  |true=>exact se _|false=>exact sf (c)
theorem Et{x:Int}(h:Hd w=Z)(c:List Int)(a:List W)(j:Ob a=Z):Ob (Sl c x w a)=Z:=match c,a,j with
 |[],u,y=>Aa.mpr ⟨h,rfl⟩|u::y,[],z=>Aa.mpr ⟨h,rfl⟩|k::c,v::a,e=>by
  show Ob (M (Rp k x) (w::a) (v::Sl c x w a))=Z
  have e:=Aa.mp e
  induction Rp k x with
  |true=>exact Aa.mpr ⟨h,e.2⟩|false=>exact Aa.mpr ⟨e.1,Et h c a e.2⟩
theorem Iu:Mk m->Hd (Dn m)=Z:=Mk.all (P:=λm=>Hd (Dn m)=Z) (by and_intros<;>kernel_rfl)
theorem zr:{a:List Nat}->(∀m∈a,Mk m)->Ob (a.map Dn)=Z:=by
 intro a
 induction a with
 |nil=>
  rintro _;exact rfl
 |cons m a c=>
  rintro h;exact Aa.mpr ⟨Iu (h m sa),c λx d=>h x (oa _ d)⟩
structure SI(ms:List Nat)(b:Nat)(s:Ff):Prop where
 all:∀m∈ms,Mk m
 wL:s.1=ms.map Dn
 fst:Ob s.2.1=Z
 trp:Ob s.trail=Z
 mkp:Ob s.2.2.2.1=Z
 nwp:Ob s.news.2=Z
 clp:Ob s.2.2.2.2.2.2.2.1=Z
 trl:s.trail.length<=b
 mkl:s.2.2.2.1.length<=b
 nwl:s.news.1.length<=b
 bad:s.bad=ua
theorem kC(a:Ob s.1=Z)(c:Ob s.2.1=Z)(d:Ob s.trail=Z)(e:Ob s.2.2.2.1=Z)(f:Ob s.news.2=Z)(g:Ob s.2.2.2.2.2.2.2.1=Z):Jf (Wg s).fs=Z:=by
 show(Ob s.1&&(Ob s.2.1&&(Ob s.trail&&(Ob s.2.2.2.1&&(Ob s.news.2&&(Z&&(Z&&(Ob s.2.2.2.2.2.2.2.1&&Z))))))))=Z
 refine U a (U c (U d (U e (U f (U g ?_)))));rfl
theorem SI.plain{a:List Nat}(I:SI a b s):Jf (Wg s).fs=Z:=kC (I.wL▸zr I.all) I.fst I.trp I.mkp I.nwp I.clp
theorem List.set_getElem?_self'{c:List X}:∀{i:Nat}{a:X},c[i]?=J a->c.set i a=c:=by
 induction c with
 |nil=>exactλh=>ja h|cons x c d=>
  intro i a h
  induction i using Sa with
  |zero=>exact Gc (λy=>y::_) (ba h).symm|succ i=>exact Gc (λy=>x::y) (d h)
theorem dH{c:List X}{a b:X}(h:b∈c.set i a):b∈c\/b=a:=List.mem_or_eq_of_mem_set h
theorem lB{c:List Nat}{d:Nat}(I:SI c b s)(A:b<4000)(h:c[x]?=J m)(j:Mk d){y z rs sp:W}(q:LK [.t [.int (.ofNat x),y,z],Dn m]=J (Dn d))(r:Ob [y,z]=Z)(f:nb rs=Z/\Hd rs=Z)(g:nb sp=Z/\Hd sp=Z)(n:Ff->ub):
 ∃o,SI (c.set x d) (b+1) o/\∀(R:Type)(k:Bool×Ff->Option R),rp [.int (.ofNat x),y,z] rs sp n s k=k (Z,o):=by
 have p:Mk m:=I.all m (Ma h);have start:∀(R:Type)(k:Bool×Ff->Option R),rp [.int (.ofNat x),y,z] rs sp n s k=M (Ub d m) (k (Z,s)) (M (nb rs) (M (nb sp) (M (Jd 4096 s.trail) (H (ju s.wL (.ofNat x) (Dn d)) λa=>M (Jd 4096 s.news.1) (k (Z,s.put a (s.trail++[.t [.int (.ofNat x),Dn m,.t [.int (.ofNat x),y,z],rs,sp]]) (Ql s.news.1 (.ofNat x),Sl s.news.1 (.ofNat x) (.bool Z) s.news.2))) Y) Y) Y) Y):=λR k=>
  (Lb (by refine U (show s.wL=c.map Dn from I.wL) ?_;exact yp h:Jg s.wL (.ofNat x)=J (Dn m))).trans ((Lb q).trans ((Lb ((uM (d:=d) (by cases j<;>decide)).trans (Gc J (by cases j<;>rfl)):rk (Dn d) (.t [])=J ua)).trans (Lb (JY j p))))
 have nX:Ob [.int (.ofNat x),y,z]=Z:=Aa.mpr ⟨rfl,r⟩
 induction l:Ub d m with
 |true=>
  have:c.set x d=c:=by refine U (Uc l) ?_;exact List.set_getElem?_self' h
  exact⟨s,⟨this.symm▸I.all,this.symm▸I.wL,I.fst,I.trp,I.mkp,I.nwp,I.clp,Kd I.trl,Kd I.mkl,Kd I.nwl,I.bad⟩,λR k=>(start R k).trans (Db l)⟩
 |false=>
  have t:ju s.wL (.ofNat x) (Dn d)=J ((c.set x d).map Dn):=by
   refine U (show s.wL=c.map Dn from I.wL) ?_;exact(C2 (by refine U (ya _) ?_;exact(getlt' h:x<c.length))).trans (Gc J (U3.symm))
  refine⟨s.put ((c.set x d).map Dn) (s.trail++[.t [.int (.ofNat x),Dn m,.t [.int (.ofNat x),y,z],rs,sp]]) (Ql s.news.1 (.ofNat x),Sl s.news.1 (.ofNat x) (.bool Z) s.news.2),⟨λa v=>(dH v).elim (I.all a) λe=>e▸j,rfl,I.fst,Pj I.trp ?_,I.mkp,Et rfl _ _ I.nwp,I.clp,?_,Kd I.mkl,Za (SJ _) (sf I.nwl),I.bad⟩,λR k=>(start R k).trans ((ji l).trans ((Db f.1).trans ((Db g.1).trans ((Db (Kc (ib I.trl (by lia)))).trans ((Lb t).trans (Db (Kc (ib I.nwl (by lia)))))))))⟩
  ·show(Ob [.int (.ofNat x),Dn m,.t [.int (.ofNat x),y,z],rs,sp]&&Z)=Z
   show((Z&&(Hd (Dn m)&&(Ob [.int (.ofNat x),y,z]&&(Hd rs&&(Hd sp&&Z)))))&&Z)=Z
   refine U (Iu p) (U nX (U f.2 (U g.2 ?_)));rfl
  ·show(s.trail++[_]).length<=_
   exact U Ha (sf I.trl)
where getlt' {X:Type} {l:List X} {i:Nat} {o:X} (h:l[i]?=J o):i<l.length:=(wb.mp h).1
theorem kK{c:List Nat}(I:SI c b s)(f:b<4000)(e:c[x]?=J m)(g:V3 u)(j:Mk (pp m u)){rs:List W}(l:Ob rs=Z)(n:rs.length<4096)(d:Ff->ub):
 ∃a,SI (c.set x (pp m u)) (b+1) a/\∀(R:Type)(k:Bool×Ff->Option R),kA [.int (.ofNat x),.str "!=",.int (.ofNat u)] (.l rs) d s k=k (Z,a):=by
 obtain⟨a,o,h⟩:=lB (rs:=.t rs) (sp:=.int s.spk) I f e j (LV (I.all m (Ma e)) g) rfl ⟨rfl,l⟩ ⟨rfl,rfl⟩ d;exact⟨a,o,λR k=>(Lb (rfl:fu (.l rs) (d s)=J rs)).trans ((Db (Kc n)).trans (h R k))⟩
theorem fJ{a:List Nat}{t:Nat}(I:SI a b s)(g:b<4000)(c:a[x]?=J m)(d:S4 t)(h:V3 u)(j:Mk (Yh t m u))(e:Ff->ub):
 ∃f,SI (a.set x (Yh t m u)) (b+1) f/\∀(R:Type)(k:Bool×Ff->Option R),rp [.int (.ofNat x),Ht t,.int (.ofNat u)] .none (.int (-1)) e s k=k (Z,f):=
 lB I g c j (KV d (I.all m (Ma c)) h) (S4.all (P:=λt=>Ob [Ht t,.int (.ofNat u)]=Z) ⟨rfl,rfl,rfl,rfl⟩ d) ⟨rfl,rfl⟩ ⟨rfl,rfl⟩ e
structure SB(s:Ff):Prop where
 pl:Jf (Wg s).fs=Z
 bad:s.bad=Z
theorem yz{c:List Nat}(I:SI c b s){rs:List W}(d:Ob rs=Z)(e:rs.length<4096)(a:Ff->ub)(f:fu w (a (s.fails s.2.2.2.2.2.2.2.1))=J rs):
 SB (s.fails rs)/\∀(R:Type)(k:Ff->Option R),Qo w a s k=k (s.fails rs):=
 ⟨⟨kC (I.wL▸zr I.all) I.fst I.trp I.mkp I.nwp d,rfl⟩,λR k=>(Lb f).trans (Db (Kc e))⟩
theorem xU{a:List Nat}(I:SI a b s)(d:b<4000):∃c,SI a (b+1) c/\∀(R:Type)(k:Ff->Option R),kP s k=k c:=
 ⟨((s.1,s.2.1,s.2.2.1,s.2.2.2.1++[W.int (Sd s.trail)],s.2.2.2.2):Ff),⟨I.all,I.wL,I.fst,I.trp,Pj I.mkp rfl,I.nwp,I.clp,Kd I.trl,by
  refine U Ha ?_;exact sf I.mkl,Kd I.nwl,I.bad⟩,λR k=>Db (Kc (ib I.mkl (by lia)))⟩
structure Rz(n:Nat)(xs:List W):Prop where
 pl:Ob xs=Z
 len:xs.length<=n
end
theorem Od:∀a:List Nat,Cb a=a.map λi=>W.int (.ofNat i):=by
 intro a
 induction a with
 |nil=>
  exact rfl
 |cons x a c=>
  exact Gc (λy=>W.int (.ofNat x)::y) (c)
theorem Kg{a:List Nat}{i j:Nat}(h:a[i]?=J j):Jg (Cb a) (.ofNat i)=J (.int (.ofNat j)):=by refine U (Od _) ?_;exact yp h
theorem wc(a:List Nat):(Cb a).length=a.length:=by exact U (Od _) (U (ya _) rfl)
theorem mf:∀a:List Nat,Ob (Cb a)=Z:=by
 intro a
 induction a with
 |nil=>
  exact rfl
 |cons d a c=>
  exact c
section
variable {R:Type}
theorem wg{n:Nat}(h:n<12)(k:List W->Option R):Vd (.ofNat n) k=k (Cb (Ka n)):=by
 have e:ED 0 (.ofNat n)=Z:=by
  unfold ED;rw[Og,Og,Og,Og,decide_eq_true (by lia),decide_eq_true (by lia),decide_eq_true (show(-1000:Int)<jb n from Ar (by decide) (wf n)),decide_eq_true (show jb n<1000 from(show(n:Int)<1000 by lia))];rfl
 refine(Db e).trans ((Db e).trans (Gc k (U (show(jb n - 0).toNat=n from by rw[Int.sub_zero];rfl) (U (aA _ _) (U (Od _) ?_)))));exact fg λi u=>Gc W.int (w5 (i:Int))
theorem Ch{g:W->(List W->Option R)->Option R}{p:Nat->Bool}:{a:List Nat}->(∀i∈a,∀k,g (.int (.ofNat i)) k=M (p i) (k [.int (.ofNat i)]) (k []))->∀k,ze g (Cb a) k=k (Cb (a.filter p)):=by
 intro a
 induction a with
 |nil=>exactλu k=>rfl|cons x a c=>
  intro h k;refine(h x sa _).trans ?_;replace c:=c λi d=>h i (oa _ d);refine U Ri ?_
  induction e:p x with
  |true=>exact c _|false=>exact c _
theorem Ln{a:Type}{f:a->W}{c:List a}:Sd (c.map f)=.ofNat c.length:=by unfold Sd;exact U (Qe _) (U (ya _) rfl)
theorem Zf{a:List Nat}:Sd (Cb a)=.ofNat a.length:=by exact U (Od _) (U Ln rfl)
end
theorem IE{as:List Int}(d:as.length<=4)(o:Int):∃a:List Nat,(∀j∈a,j<as.length)/\a.length<=4/\∀(R:Type)(k:W->Option R),Jl (as.map W.int) o k=k (.l (Cb a)):=by
 refine⟨(Ka as.length).filter λi=>Rp (as[i]?.getD 0) o,λj f=>bc.mp (Vc.mp f).1,Za (Qb _ _) (by refine U Ab ?_;exact d),λR k=>?_⟩;show Vd (Sd (as.map W.int)) _=_
 refine U Ln ?_;refine((λk=>wg (R:=R) (n:=as.length) (by lia) k) _).trans ((Ch (p:=λi=>Rp (as[i]?.getD 0) o) (λi c k=>?_) _).trans (Db (Kc ?_)))
 ·have c:=bc.mp c
  have e:as[i]?=J as[i]:=Wa c;refine(Lb (yp e)).trans ?_;refine U e ?_;rfl
 ·exact U (wc _) (ib (Qb _ _) (by refine U Ab ?_;lia))
section
variable {T V:Type}
theorem Sr{g:(R:Type)->W->T->V->(T->V->Option R)->Option R}(I:Nat->T->Prop){u:V}{B:Nat}:∀{xs:List W}{j:Nat}{m:T},j+xs.length<=B->(∀j v m,v∈xs->j<B->I j m->∃a,I (j+1) a/\∀R k,g R v m u k=k a u)->I j m->∃a,I (j+xs.length) a/\∀R k,mh (g R) xs m u k=k a u:=by
 intro xs
 induction xs with
 |nil=>
  rintro j m _ _ i;exact⟨m,i,λy y=>rfl⟩
 |cons x xs d=>
  rintro j m c h i;rw[mc,pi xs.length 1,<-qr]at c|-;refine aa λe=>?_;obtain⟨m1,f,l⟩:=h j x m sa (rb (pd j) (Za (Nc _ _) c)) i;obtain⟨o,p,q⟩:=d c (λj v m r=>h j v m (oa _ r)) f;exact e (⟨o,p,λR k=>(l R _).trans (q R k)⟩)
end
theorem Rz.mono{n d:Nat}{a:List W}(h:Rz n a)(k:n<=d):Rz d a:=⟨h.pl,Za h.len k⟩
theorem BM{n d:Nat}{fr a:List W}(h:Rz n fr)(c:Rz d a)(e:n+d<4096):Rz (n+d) (fr++a)/\∀(R:Type)(k:List W->Option R),w7 fr (.l a) k=k (fr++a):=
 ⟨⟨Pj h.pl c.pl,by refine U Ha ?_;exact Kk h.len c.len⟩,λR k=>Db (b:=ac (len fr+len a) 4096) (by refine U (Qe _) (U (Qe _) ?_);exact ud.mpr (ib (Kk h.len c.len) e))⟩
theorem qp{X:List Nat}{b i m:Nat}{s:Ff}(I:SI X b s)(h:X[i]?=J m){R:Type}(k:W->Option R):gx s.wL (.int (.ofNat i)) k=k (Dn m):=Lb (o:=Jg s.wL (.ofNat i)) (by refine U (show s.wL=X.map Dn from I.wL) ?_;exact yp h)
theorem WQ{x:Int}{m:Nat}(h:Mk m):Rz 5 (Ws x m)/\∀(R:Type)(k:W->Option R),uF (.int x) (Dn m) k=k (.l (Ws x m)):=
 ⟨⟨(sA h).2.2,by have:=gb (sA (x:=x) h).2.1;rw[Qe]at this;exact this⟩,λR k=>Lb (sA h).1⟩
section
variable {X:List Nat} {b n:Nat} {s:Ff} {h:H3} {as:List Int}
theorem lG(I:SI X b h.st)(F:X.length=n)(w:n<=4)(G:h.pl.at=as.map W.int)(l:as.length=n){is:List Int}(K:is.length<=4):∃C,Rz 100 C/\∀(R:Type)(k:List W->Option R),Yx (Cb (Ka n)) h (.l (is.map W.int)) k=k C:=by
 have d:∀{j:Nat}{m:List W×Option W×Unit},j<n->{a:Nat}->a+5<4096->Rz a m.1->∃c:List W×Option W×Unit,Rz (a+5) c.1/\∀(R:Type) k,wy (R:=R) (Cb (Ka n)) h (.int (.ofNat j)) m () k=k c ():=λ{j m} p a D r=>by
  have e:Jg (Cb (Ka n)) (.ofNat j)=J (.int (.ofNat j)):=Kg (by exact U (bf p) rfl);have q:X[j]?=J X[j]:=Wa (F▸p);refine aa λy=>?_;obtain⟨f,z⟩:=WQ (x:=.ofNat j) (I.all _ (Ma q));obtain⟨i,o⟩:=BM r f D;exact y (⟨(m.1++Ws (.ofNat j) X[j],J (.int (.ofNat j)),()),i,λR k=>(Lb e).trans ((Lb e).trans ((qp I q _).trans ((z R _).trans (o R _))))⟩)
 have f:∀{o:Int}{m:KR}{a:Nat},a+20<4096->Rz a m.1->∃c:KR,Rz (a+20) c.1/\∀(R:Type) k,IG (R:=R) (Cb (Ka n)) h (.int o) m () k=k c ():=λ{o m a} D r=>by
  refine aa λy=>?_;obtain⟨E,L,N,e⟩:=IE (as:=as) (l▸w) o;obtain⟨c,A,q⟩:=Sr (g:=λR=>wy (R:=R) (Cb (Ka n)) h) (u:=()) (xs:=Cb E) (j:=0) (m:=(m.1,m.2.2.1,())) (B:=4) (λj(m:List W×Option W×Unit)=>Rz (a+5*j) m.1) (by refine U (wc _) (U (kh _) ?_);exact N) (λj v m t p i=>by
   rw[Od]at t;obtain⟨x,O,rfl⟩:=Rb.mp t;exact d (l▸L x O) (by show a+5*j+5<4096;lia) i) r
  refine y ?_;refine⟨(c.1,J (.int o),c.2.1,()),A.mono (by refine U (wc _) ?_;lia),λR k=>?_⟩;have z:qt (R:=R) (.int o) h.pl (λxs=>mh (wy (Cb (Ka n)) h) xs (m.1,m.2.2.1,()) () λm u=>k (m.1,J (.int o),m.2.1,()) u)=mh (wy (Cb (Ka n)) h) (Cb E) (m.1,m.2.2.1,()) () λm u=>k (m.1,J (.int o),m.2.1,()) u:=by
   show Jl h.pl.at o _=_
   refine U G ?_;exact(e R _).trans (Db (Kc (by refine U (wc _) ?_;lia)))
  exact z.trans (q R _)
 obtain⟨c,A,e⟩:=Sr (g:=λR=>IG (R:=R) (Cb (Ka n)) h) (u:=()) (xs:=is.map W.int) (j:=0) (m:=(([],Y,Y,()):KR)) (B:=4) (λj m=>Rz (20*j) m.1) (by refine U (ya _) (U (kh _) ?_);exact K) (λj v m t p i=>by
  obtain⟨x,_,rfl⟩:=Rb.mp t;exact f (by show 20*j+20<4096;lia) i) ⟨rfl,Gb _⟩
 exact⟨c.1,A.mono (by refine U (ya _) ?_;lia),λR k=>(Db (Kc (by refine U (ya _) ?_;lia))).trans (e R _)⟩
end
theorem sN:∀is:List Int,Kv (is.map W.int)=J is:=by
 intro is
 induction is with
 |nil=>
  exact rfl
 |cons i is a=>
  show H (Kv (is.map W.int)) _=_;refine U a ?_;rfl
theorem Il(a:List Nat):Cb a=(a.map jb).map W.int:=by refine U (Od _) (U Qd ?_);rfl
theorem Fz{x:Int}{is:List Int}:DA (.int x) (.l (is.map W.int))=J (Vk x is):=by
 show(match Kv (is.map W.int)with|some is=>J (Vk x is)|none=>OW (.int x) (.l (is.map W.int)))=_
 exact U (sN _) rfl
theorem bO(x:Nat):∀a:List Nat,Vk (.ofNat x) (a.map jb)=Ye x a:=by
 intro a
 induction a with
 |nil=>
  exact rfl
 |cons j a b=>
  show M (Ub j x) Z (Vk (.ofNat x) (a.map jb))=_
  refine U b ?_;rfl
theorem OG{x:Nat}{a:List Nat}:DA (.int (.ofNat x)) (.l (Cb a))=J (Ye x a):=by exact U (Il _) (U Fz (U (bO _ _) rfl))
theorem eM{g:(R:Type)->W->(List W->Option R)->Option R}{d:Nat}:{xs:List W}->(∀v∈xs,∃a,Rz d a/\∀R b,g R v b=b a)->∃b,Rz (d*xs.length) b/\∀R k,ze (g R) xs k=k b:=by
 intro xs
 induction xs with
 |nil=>
  rintro _;exact⟨[],⟨rfl,td _⟩,λu u=>rfl⟩
 |cons x xs f=>
  rintro h;refine aa λi=>?_;obtain⟨a,c,j⟩:=h x sa;obtain⟨b,e,l⟩:=f λv m=>h v (oa _ m);refine i ?_;exact⟨a++b,⟨Pj c.pl e.pl,by refine U Ha (U mc (U (E5 _ _) (U (pi _ _) ?_)));exact Kk e.len c.len⟩,λR k=>(j R _).trans (l R _)⟩
section
variable {n:Nat} {h:H3} {as:List Int}
theorem TG(t:n<=4)(E:h.pl.at=as.map W.int)(l:as.length=n){a c:List Nat}(A:∀j∈c,j<a.length)(F:c.length<=4):∃C,Rz 100 C/\∀(R:Type)(k:List W->Option R),xt (Cb (Ka n)) (Cb a) (Cb c) h k=k C:=by
 have z:{i:Nat}->i<n->∃f,Rz 4 f/\∀(R:Type)(k:List W->Option R),D6 (Cb (Ka n)) (Cb a) (Cb c) (.int (.ofNat i)) k=k f:=λ{i} G=>by
  have q:Jg (Cb (Ka n)) (.ofNat i)=J (.int (.ofNat i)):=Kg (by exact U (bf G) rfl);obtain⟨f,r,e⟩:=eM (g:=λR o y=>H (Ua (.int (.ofNat i))) λi=>H (Jg (Cb (Ka n)) i) λx=>M (nb x) (H (Ua o) λj=>H (Jg (Cb a) j) λw=>M (nb w) (y [.t [x,.str "!=",w]]) Y) Y) (d:=1) (xs:=Cb c) λv o=>by
   rw[Od]at o;obtain⟨j,p,rfl⟩:=Rb.mp o;have s:Jg (Cb a) (.ofNat j)=J (.int (.ofNat a[j]!)):=Kg (by exact U (Wa (A j p)) (U (getElem!_pos a j (A j p)) rfl));exact⟨[.t [.int (.ofNat i),.str "!=",.int (.ofNat a[j]!)]],⟨rfl,Gb _⟩,λR y=>(Lb q).trans (Lb s)⟩
  rw[wc,qac]at r;exact⟨f,r.mono F,λR k=>(Db (Kc (by refine U (wc _) ?_;lia))).trans ((e R _).trans (Db (Kc (ib r.len (by lia)))))⟩
 refine aa λr=>?_;obtain⟨w,I,e⟩:=Sr (g:=λR=>JG (R:=R) (Cb (Ka n)) (Cb a) (Cb c) h) (u:=()) (xs:=Cb (Ka n)) (j:=0) (m:=(([],Y,()):VX)) (B:=4) (λj m=>Rz (4*j) m.1) (by refine U (wc _) (U Ab (U (kh _) ?_));exact t) (λj v m o N i=>by
  rw[Od]at o;obtain⟨x,p,rfl⟩:=Rb.mp o;have p:=bc.mp p;have q:Jg h.pl.at (.ofNat x)=J (.int as[x]!):=by refine U E ?_;exact yp (by exact U (Wa (l.symm▸p)) (U (getElem!_pos as x (l.symm▸p)) rfl))
  have s:DA (.int as[x]!) (.l (Cb c))=J (Vk as[x]! (c.map jb)):=by refine U (Il _) ?_;exact Fz
  induction y:Vk as[x]! (c.map jb)with
  |true=>exact⟨(m.1,J (.int (.ofNat x)),()),i.mono (Nat.mul_le_mul_left 4 (se j)),λR k=>(Lb q).trans ((Lb s).trans (by refine U y ?_;rfl))⟩|false=>
   refine aa λr=>?_;obtain⟨f,D,K⟩:=z p;obtain⟨L,_⟩:=BM i D (by show 4*j+4<4096;lia);refine r ?_;exact⟨(m.1++f,J (.int (.ofNat x)),()),L,λR k=>(Lb q).trans ((Lb s).trans ((Db (by refine U y ?_;rfl)).trans ((K R _).trans (Db (b:=ac (len m.1+len f) 4096) (by refine U (Qe _) (U (Qe _) ?_);exact ud.mpr (ib (Kk i.len D.len) (show 4*j+4<4096 by lia)))))))⟩) ⟨rfl,Gb _⟩
 refine r ?_;refine⟨w.1,I.mono (by refine U (wc _) (U Ab ?_);lia),λR k=>?_⟩;have p:Vd (R:=R) (Sd (Cb (Ka n))) (λxs=>mh (JG (Cb (Ka n)) (Cb a) (Cb c) h) xs (([],Y,()):VX) () λm y=>k m.1)=k w.1:=by
  exact U Zf (U Ab ((wg (by lia) _).trans (e R _)))
 exact p
end
section
variable {V X:Type}
end
def zq(m:Nat)(us:List Nat):Nat:=us.foldl pp m
theorem d7(u:Nat):pp 0 u=0:=rfl
theorem S7:∀a:List Nat,zq 0 a=0:=by
 intro a
 induction a with
 |nil=>
  exact rfl
 |cons u a c=>
  show zq (pp 0 u) a=0;refine U (d7 _) ?_;exact c
theorem SS(m u:Nat):pp m u<=m:=by
 unfold pp
 induction Ye u (Mb m)with
 |true=>exact Nat.sub_le _ _|false=>exact Gb _
theorem Mk.le{m:Nat}(h:Mk m):1<=m/\m<=7:=Mk.all (P:=λm=>1<=m/\m<=7) (by decide) h
theorem fN{m u:Nat}{a:List Nat}(c:Mk m)(h:Mk (zq m (u::a))):Mk (pp m u):=by
 refine Mk.of (Nat.pos_of_ne_zero λe=>?_) (Za (SS m u) c.le.2);have:zq m (u::a)=0:=by show zq (pp m u) a=0;refine U e ?_;exact S7 a
 rw[this]at h;exact zc h.le.1 (by decide)
section
variable {n b x:Nat} {X:List Nat}
theorem SP{c:Type}{l:List c}{i:Nat}{a:c}(h:i<l.length):(l.set i a)[i]?=J a:=by exact U (je h) rfl
structure pW(X:List Nat)(b:Nat)(p:Ae)(h:H3):Prop where
 si:SI X b h.st
 pl:h.pl=p
theorem nD{y:Y3}{f:List W}{p:Ae}(j:x<X.length)(r:Ob f=Z)(t:f.length<4096){a:List Nat}:∀{m b:Nat}{h:H3}(d:Option W×Unit),(∀u∈a,V3 u)->Mk (zq m a)->b+a.length<=4000->pW (X.set x m) b p h->
 ∃g e,pW (X.set x (zq m a)) (b+a.length) p e/\∀(R:Type) k,kg (XM (R:=R) (.int (.ofNat x)) f y) (Cb a) d h k=k (.go g e):=by
 induction a with
 |nil=>exactλ{m b h} d z z z i=>⟨d,h,i,λR k=>rfl⟩|cons u a v=>
  intro m b h d l hT o i;have z:Mk m:=i.si.all m (Ma (SP j));have c:b+1+a.length=b+(u::a).length:=by exact U mc (U (qr _ _ _) (U (pi 1 _) rfl))
  obtain⟨A,q,B⟩:=kK i.si (rb (Yd (jh a.length)) o) (SP j) (l u sa) (fN z hT) r t λs=>c3.wR y (h.putS s);rw[List.set_set]at q;obtain⟨g,e,s,C⟩:=v (m:=pp m u) (b:=b+1) (h:=h.putS A) (J (.int (.ofNat u)),()) (λw D=>l w (oa _ D)) hT (c.symm▸o) ⟨q,i.pl⟩;exact⟨g,e,c▸s,λR k=>(B R _).trans (C R k)⟩
end
def Hk(o:Nat)(vs:List Nat)(m:Nat):List Nat:=if o<vs.length then[vs[o]!]else(Mb m).filter λu=> !Ye u vs
theorem pU{m:Nat}:Mk m->∀u∈Mb m,V3 u:=Mk.all (P:=λm=>∀u∈Mb m,V3 u) (by and_intros<;>(intro u a;exact V3.of (by revert u;decide)))
theorem Yr{R:Type}{a:List W}(h:a.length<4900)(k:List W->Option R):Nf (.l a) k=k a:=Db (Kc h)
theorem Oj{m:Nat}:Mk m->(Mb m).length<=3:=Mk.all (P:=λm=>(Mb m).length<=3) (by decide)
theorem LI{X a:List Nat}{b x m:Nat}{s:Ff}(I:SI X b s)(d:X[x]?=J m){R:Type}(k:List W->Option R):jz s.wL (Cb a) (.int (.ofNat x)) k=k (Cb ((Mb m).filter λu=> !Ye u a)):=by
 have c:=I.all m (Ma d);refine(qp I d _).trans ((Lb (O2 c)).trans ((Yr (by unfold Lw;refine U (wc _) ?_;have:=Oj c;lia) _).trans ?_));exact(Ch (p:=λu=> !Ye u a) (λu e f=>(Lb OG).trans rfl) _).trans (Db (Kc (U (wc _) (ib (Qb _ _) (by have:=Oj c;lia)))))
theorem NV{o:Nat}{c:List Nat}{m:Nat}(d:Mk m){R:Type}(k:List W->Option R):vG (.ofNat o) (Cb c) (Cb ((Mb m).filter λu=> !Ye u c)) k=k (Cb (Hk o c m)):=by
 have e:Ph (.ofNat o) (Sd (Cb c))=ac o c.length:=by refine U Zf ?_;rfl
 unfold Hk;by_cases h:o<c.length
 ·refine U (Dd h) ((Db (e.trans (ud.mpr h))).trans (Lb (o:=Jg (Cb c) (.ofNat o)) (a:=.int (.ofNat c[o]!)) ?_))
  exact Kg (by exact U (Wa h) (U (getElem!_pos c o h) rfl))
 ·refine U (fe h) ?_
  exact(ji (e.trans (Ys.mpr λz=>h (ud.mp z)))).trans (Db (Kc (by refine U (wc _) ?_;exact ib (Qb _ _) (by have:=Oj d;lia))))
theorem tz{xs:List W}{a:List Vf}(h:Oe (Zd 5) xs=J a):rk (.l xs) (.l [])=J xs.isEmpty:=by
 show((Oe (Zd 5) xs).map zD).bind _=_
 refine U h ?_
 induction xs using ma with
 |nil=>obtain rfl:=ba h;rfl|cons x xs=>
  refine aa λb=>(Vg h λd e c=>?_);refine Hs c λf g z=>?_;subst z;refine b ?_
  rfl
theorem zl(a:List Nat):rk (.l (Cb a)) (.l [])=J a.isEmpty:=by
 refine U (Il _) ((tz (iy _)).trans ?_)
 induction a using ma<;>rfl
theorem SI.mono{a:List Nat}{b c:Nat}{s:Ff}(I:SI a b s)(h:b<=c):SI a c s:=⟨I.all,I.wL,I.fst,I.trp,I.mkp,I.nwp,I.clp,Za I.trl h,Za I.mkl h,Za I.nwl h,I.bad⟩
def Dz(o:Nat)(vs ms:List Nat)(k:Nat):List Nat:=ms.set k (zq ms[k]! (Hk o vs ms[k]!))
def vm(o:Nat)(vs ms ks:List Nat):List Nat:=ks.foldl (Dz o vs) ms
theorem OQ{o:Nat}{vs:List Nat}{m:Nat}(a:Mk m):(Hk o vs m).length<=3:=by
 unfold Hk
 split
 ·exact gb rfl
 ·exact Za (Qb _ _) (Oj a)
theorem vI{o:Nat}{vs:List Nat}{m:Nat}(hv:∀v∈vs,V3 v)(hm:Mk m):∀u∈Hk o vs m,V3 u:=by
 unfold Hk
 split
 ·rename_i h
  intro u hu;exact U (Ra.mp hu) (U (getElem!_pos vs o h) (hv _ (mu h)))
 ·exactλu hu=>pU hm u (Vc.mp hu).1
theorem vc{a:List Nat}{k:Nat}(h:k<a.length):a[k]?=J a[k]! :=by exact U (Wa h) (U (getElem!_pos a k h) rfl)
section
variable {n o:Nat} {vs:List Nat} {y:Y3} {X:List W} {p:Ae}
theorem Uv(B:y.ca.wQ=Cb (Ka n))(r:y.ca.wP=Cb vs)(C:∀v∈vs,V3 v)(D:Ob X=Z)(E:X.length<4096){a:List Nat}:∀{ms:List Nat}{b:Nat}{h:H3}(c:W3),ms.length=n->a.Nodup->(∀k∈a,k<n/\Mk (zq ms[k]! (Hk o vs ms[k]!)))->b+3*a.length<=4000->pW ms b p h->
 ∃f e,pW (vm o vs ms a) (b+3*a.length) p e/\∀(R:Type) k,kg (WM (R:=R) (.ofNat o) X y) (Cb a) c h k=k (.go f e):=by
 induction a with
 |nil=>exactλ{ms b h} c q q q q i=>⟨c,h,i,λR k=>rfl⟩|cons k a F=>
  intro ms b h c s t v g i;obtain⟨d,hT⟩:=v k sa;have w:k<ms.length:=s.symm▸d;have l:=vc w;have m:=i.si.all _ (Ma l);rw[mc,E5,<-qr,lL]at g|-;have x:=OQ (o:=o) (vs:=vs) m;obtain⟨m1,N,A,G⟩:=nD (y:=y) w D E (c.2.2.1,()) (vI C m) hT (Za (Zj x b) (Za (Nc _ _) g)) (by refine U (List.set_getElem?_self' l) ?_;exact i:pW (ms.set k ms[k]!) b p h);obtain⟨f,e,I,K⟩:=F (ms:=Dz o vs ms k) (J (.int (.ofNat k)),J (.int (.ofNat k)),m1.1,J (.l (Cb ((Mb ms[k]!).filter λu=> !Ye u vs))),()) (by unfold Dz;refine U yb ?_;exact s) (Fc.mp t).2 (λj u=>by
   have q:k≠j:=λz=>(Fc.mp t).1 (z▸u);have L:(Dz o vs ms k)[j]! =ms[j]! :=by
    unfold Dz;exact U Cc (U (Xc q) (Ed Cc rfl))
   refine U L ?_;exact v j (oa _ u)) g ⟨A.si.mono (Zj x b),A.pl⟩
  refine⟨f,e,I,λR q=>dn ?_ (K R q)⟩;refine(Lb (by refine U B ?_;exact Kg (by exact U (bf d) rfl):Jg y.ca.wQ (.ofNat k)=J (.int (.ofNat k)))).trans ?_;show jz h.st.wL y.ca.wP (.int (.ofNat k)) _=_
  refine U r ((LI i.si l _).trans ?_);show vG (.ofNat o) y.ca.wP _ _=_
  exact U r ((NV m _).trans (G R _))
end
theorem ul{b c:Type}{o:Option b}{f g:b->Option c}(h:∀a,o=J a->f a=g a):H o f=H o g:=by
 induction o with
 |none=>rfl|some a=>exact h a rfl
theorem DN{a:List W}{i:Int}{w:W}(h:Jg a i=J w):w∈a:=by
 refine dp h λn z e=>?_;rw[Vz]at e;exact Ma e
theorem NA:∀{X:List Nat}{w:W},w∈gi X->∃b,w=.l b:=by
 intro X
 induction X with
 |nil=>
  rintro _ h;exact zc h Tb
 |cons r X c=>
  rintro w h;refine aa λa=>?_;cases h with
  |head=>refine a ?_;exact⟨_,rfl⟩|tail u h=>refine a ?_;exact c h
theorem GI{R:Type}{a b f:List W}{X:List Nat}{o:Int}{d:ub}(k:List W->Option R):Zo a (gi X) b f o d k=Zo a (gi X) b f o [] k:=
 Gc (λg=>Vd (Sd a) λe=>ze g e λc=>M (Jd 4096 c) (k c) Y) (funext λv=>funext λe=>Gc (H (Ua v)) (funext λi=>ul λr c=>by
  obtain⟨g,rfl⟩:=NA (DN c)
  rfl))
section
variable {V lo:List Nat} {fs:List Int}
theorem aQ(e:V.length<=4)(a:lo.length=V.length):∃b:List Nat,(∀j∈b,j<V.length)/\b.length<=4/\∀(R:Type)(k:List W->Option R),Cw (Cb V) (Cb lo) (fs.map W.int) k=k (Cb b):=by
 let p:Nat->Bool:=λi=> !Vk (.ofNat i) fs&&Ph 0 (.ofNat lo[i]!)
 have f:((Ka V.length).filter p).length<=V.length:=Za (Qb _ _) (by refine U Ab ?_;exact Gb _);refine⟨(Ka V.length).filter p,λj g=>bc.mp (Vc.mp g).1,Za f e,λR k=>?_⟩;show Vd (Sd (Cb V)) _=_
 refine U Zf ?_;refine(wg (by lia) _).trans ((Ch (p:=p) (λi c h=>?_) _).trans (Db (Kc ?_)))
 ·have c:=bc.mp c
  refine(Lb Fz).trans ?_
  induction d:Vk (.ofNat i) fs with
  |true=>show _=M (!Vk (.ofNat i) fs&&_) _ _;refine U d ?_;rfl|false=>
   refine(Lb (Kg (vc (a.symm▸c)):Jg (Cb lo) (.ofNat i)=J (.int (.ofNat lo[i]!)))).trans ?_;show M (Ph 0 (.ofNat lo[i]!)) _ _=M (!Vk (.ofNat i) fs&&Ph 0 (.ofNat lo[i]!)) _ _
   refine U d ?_;rfl
 ·refine U (wc _) ?_;lia
end
section
variable {n o:Nat} {V lo X:List Nat} {y:Y3}
structure LD(n:Nat)(V lo X:List Nat)(y:Y3):Prop where
 n4:n<=4
 v4:V.length<=4
 lo':lo.length=V.length
 v3:∀v∈V,V3 v
 wQ:y.ca.wQ=Cb (Ka n)
 wP:y.ca.wP=Cb V
 wO:y.ca.wO=Cb lo
 wM:y.wM=gi X
theorem px(a:LD n V lo X y){h:H3}{p:Ae}{f:List W}{r:Bool}{fs as:List Int}{d i:List Nat}{b:Nat}(D:qaJ y.wM y.wO y.wN (.ofNat o) h.pl=J (f,r,p))(v:f=fs.map W.int)(s:fs.length<=4)(w:p.at=as.map W.int)(m:as.length=n)
 (x:qdv y.ca.wQ y.wM p.at f (.ofNat o)=J (Cb d))(z:i.length=n)(E:d.Nodup)(F:∀k∈d,k<n/\Mk (zq i[k]! (Hk o V i[k]!)))(G:d.length<=4)(K:b+3*d.length<=4000)(I:SI i b h.st):
 ∃g,pW (vm o V i d) (b+3*d.length) p g/\∀(R:Type)(k:Kw R),PO 5000 (.ofNat o) y h k=k (.bool Z) g:=by
 have A:pW i b p (h.wX p):=⟨I,rfl⟩;have start:∀(R:Type)(k:Kw R),PO 5000 (.ofNat o) y h k=H (rk (.l (Cb d)) (.l [])) λb=>M b (k (.bool Z) (h.wX p)) (M r (Cw y.ca.wP y.ca.wO f λc=>xt y.ca.wQ y.ca.wP c (h.wX p) λX=>Uj (.ofNat o) (Cb d) X y (h.wX p) k) (Yx y.ca.wQ (h.wX p) (.l f) λX=>Uj (.ofNat o) (Cb d) X y (h.wX p) k)):=λR k=>by
  refine(QE R λt=>Zo y.ca.wQ y.wM t.2.2.at t.1 (.ofNat o) (c3.wR y (h.wX t.2.2)) λe=>H (rk (.l e) (.l [])) λb=>M b (k (.bool Z) (h.wX t.2.2)) (M t.2.1 (Cw y.ca.wP y.ca.wO t.1 λc=>xt y.ca.wQ y.ca.wP c (h.wX t.2.2) λX=>Uj (.ofNat o) e X y (h.wX t.2.2) k) (Yx y.ca.wQ (h.wX t.2.2) (.l t.1) λX=>Uj (.ofNat o) e X y (h.wX t.2.2) k))).trans ((Lb D).trans ?_);rw[a.wM]at x|-;exact(GI _).trans ((rO R _).trans (Lb x))
 induction j:d using ma with
 |nil=>
  refine aa λl=>?_;subst j;exact l (⟨h.wX p,A,λR k=>(start R k).trans (Lb (zl []))⟩)
 |cons k0 P=>
  refine Ed j ?_;have c:{X:List W}->Rz 100 X->∃g,pW (vm o V i d) (b+3*d.length) p g/\∀(R:Type)(k:Kw R),Uj (.ofNat o) (Cb d) X y (h.wX p) k=k (.bool Z) g:=λ{X} B=>by
   refine aa λl=>?_;obtain⟨t,g,q,e⟩:=Uv a.wQ a.wP a.v3 B.pl (ib B.len (by decide)) (Y,Y,Y,Y,()) z E F K A;refine l ?_;exact⟨g,q,λR k=>(Db (Kc (by refine U (wc _) ?_;lia))).trans (e R _)⟩
  have C:rk (.l (Cb d)) (.l [])=J ua:=(zl d).trans (by refine U j ?_;rfl)
  induction r with
  |true=>
   refine aa λl=>?_;obtain⟨Q,L,N,e⟩:=aQ (fs:=fs) a.v4 a.lo';obtain⟨S,t,O⟩:=TG (h:=h.wX p) a.n4 w m L N;obtain⟨g,q,u⟩:=c t;refine l (⟨g,q,λR k=>(start R k).trans ((Lb C).trans ?_)⟩);show Cw y.ca.wP y.ca.wO f _=_
   exact U v (U a.wP (U a.wO ((e R _).trans (U a.wQ ((O R _).trans (u R k))))))
  |false=>
   refine aa λl=>?_;obtain⟨L,t,e⟩:=lG (h:=h.wX p) I z a.n4 w m s;obtain⟨g,q,u⟩:=c t;refine l (⟨g,q,λR k=>(start R k).trans ((Lb C).trans ((ji rfl).trans ((ji rfl).trans ?_)))⟩);exact U v (U a.wQ ((e R _).trans (u R k)))
end
theorem WW{w:W}{b:Bool}(h:Oh w .none=J b):nb w=Z:=by induction w using W.casesOn<;>first|rfl|exact ja h
section
variable {n:Nat} {V lo X:List Nat} {y:Y3}
structure qfw(h h':H3):Prop where
 sb:SB h'.st
theorem tT(a:LD n V lo X y){h:H3}{c:List Nat}{b:Nat}(I:SI c b h.st)(g:c.length=n){as is:List Int}(q:h.pl.at=as.map W.int)(e:as.length=n)(r:is.length<=4){i:Nat}(d:i<n):∃j,SB j/\∀(R:Type)(k:Ff->Option R),GG (.int (.ofNat i)) (.l (is.map W.int)) y h k=k j:=by
 refine aa λt=>?_;obtain⟨f,l,u⟩:=lG I g a.n4 q e r;have m:=vc (g.symm▸d);obtain⟨o,v⟩:=WQ (x:=.ofNat i) (I.all _ (Ma m));have p:(f++Ws (.ofNat i) c[i]!).length<4096:=by
  have:=l.len;have:=o.len;refine U Ha ?_;lia
 obtain⟨z,A⟩:=yz I (rs:=f++Ws (.ofNat i) c[i]!) (Pj l.pl o.pl) p (λs=>c3.wR y (h.putS s)) (w:=.l (f++Ws (.ofNat i) c[i]!)) rfl;refine t ?_;refine⟨_,z,λR k=>(Lb (by refine U a.wQ ?_;exact Kg (by exact U (bf d) rfl):Jg y.ca.wQ (.ofNat i)=J (.int (.ofNat i)))).trans ?_⟩;exact(Db rfl).trans ((Db rfl).trans (U a.wQ ((u R _).trans ((Db rfl).trans ((qp I m _).trans ((v R _).trans ((Lb (rfl:Pe (.l (Ws (.ofNat i) c[i]!)) _=J _)).trans ((Db (Kc p)).trans (A R k)))))))))
theorem VE(a:LD n V lo X y){ms:List Nat}{b:Nat}(D:ms.length=n):∀{c:List Nat}{h:H3}{m:IK}{r:Bool×W×Ae},(∀k∈c,k<n)->SI ms b h.st->YO y.wM y.wN (Cb c) h.pl=J r->
 (r.1=Z->∃v,∀(R:Type) k,kg (uy (R:=R) y) (Cb c) m h k=k (.go v (h.wX r.2.2)))/\
 (r.1=ua->∀is as:List Int,r.2.1=.l (is.map W.int)->is.length<=4->r.2.2.at=as.map W.int->as.length=n->∃d,SB d/\∀(R:Type) k,kg (uy (R:=R) y) (Cb c) m h k=k (.ret (.bool ua) ((h.wX r.2.2).putS d))):=by
 intro c
 induction c with
 |nil=>
  rintro h m r _ I e;obtain rfl:=ba e;exact⟨λu=>⟨m,λR k=>rfl⟩,λh=>zc h.symm ia⟩
 |cons i c E=>
  rintro h m r x I e;refine aa λf=>?_;refine dp (show H (qel y.wM y.wN (.ofNat i) h.pl) _=J r from e) λj F G=>?_;obtain⟨w,p⟩:=j;refine dp G λA B C=>(f ?_);clear f;have step:∀(R:Type) k,uy (R:=R) y (.int (.ofNat i)) m h k=M A (GG (.int (.ofNat i)) w y (h.wX p) λs=>k (.ret (.bool ua) ((h.wX p).putS s))) (k (.go (J (.int (.ofNat i)),J w,()) (h.wX p))):=λR k=>
   (JO R λt=>M (nb t.1) (H (Oh t.1 .none) λr=>M r (GG (.int (.ofNat i)) t.1 y (h.wX t.2) λs=>k (.ret (.bool ua) ((h.wX t.2).putS s))) (k (.go (J (.int (.ofNat i)),J t.1,()) (h.wX t.2)))) Y).trans ((Lb F).trans ((Db (WW B)).trans (Lb B)))
  induction A with
  |false=>
   obtain⟨K,L⟩:=E (h:=h.wX p) (m:=(J (.int (.ofNat i)),J w,())) (λk g=>x k (oa _ g)) I C;exact⟨λg=>(K g).imp λv l=>λR k=>(step R _).trans (l R k),λg is as o q s t=>(L g is as o q s t).imp λd z=>⟨z.1,λR k=>(step R _).trans (z.2 R k)⟩⟩
  |true=>
   cases (ba C:(ua,w,p)=r);refine⟨λh=>zc h ia,λu is as o q s t=>?_⟩;refine aa λf=>?_;obtain⟨d,g,l⟩:=tT a (h:=h.wX p) I D s t q (x i sa);subst (o:w=.l (is.map W.int));refine f ?_;clear f;exact⟨d,g,λR k=>(step R _).trans (l R _)⟩
end
theorem Cv{R a b:Type}{g:W->a->b->(Fw a b->Option R)->Option R}{x:W}{c:List W}{m d:a}{h f:b}(e:∀k,g x m h k=k (.go d f))(k:Fw a b->Option R):kg g (x::c) m h k=kg g c d f k:=e _
theorem tE{a:Type}{b:Bool}{x:Option a}{r:a}(h:M b x Y=J r):b=Z/\x=J r:=by
 induction b with
 |true=>exact⟨rfl,h⟩|false=>exact ja h
section
variable {R:Type} {T:List Nat} {X:List W} {w V:W} {Q:Ae->ub}
theorem mJ{v:W}{m:M7}{h:Ae}{k:Fw M7 Ae->Option R}:sy (gi T) X w V Q v m h k=sy (gi T) X w V (λu=>[]) v m h k:=
 Gc (H (Ua v)) (funext λi=>Gc (H (Jg h.at i)) (funext λo=>Gc (λz=>M (nb o) z Y) (Gc (H (Ua v)) (funext λi=>ul λr a=>by
  obtain⟨b,rfl⟩:=NA (DN a)
  rfl))))
theorem NM{N:Nat}{i:Int}{h:Ae}{k:W->Ae->Option R}:tq N (gi T) X i Q h k=tq N (gi T) X i (λu=>[]) h k:=by
 delta tq cC VM dC
 exact U (funext λV=>funext λQ=>funext λv=>funext λm=>funext λh=>funext λk=>mJ:sy (R:=R) (gi T) X (.int i)=λV u=>sy (gi T) X (.int i) V λu=>[]) rfl
end
theorem Cq{a:List W}{is:List Int}(h:qN a=J is):a=is.map W.int/\is.length<=4:=by
 refine aa λc=>(dp h λg d e=>?_);obtain⟨b,f⟩:=tE e;obtain rfl:=ba f;exact c (⟨Gz d,by rw[Qe]at b;exact gb b⟩)
theorem FI{n:Nat}:{is:List Int}->tL n is=Z->∃c:List Nat,is=c.map jb/\∀j∈c,j<n:=by
 intro is
 induction is with
 |nil=>
  rintro _;exact⟨[],rfl,λu h=>(Tb h).elim⟩
 |cons i is d=>
  rintro h;have h:M (!Ph i 0) (M (Ph i (.ofNat n)) (tL n is) ua) ua=Z:=h;refine aa λa=>?_
  induction e:Ph i 0 with
  |true=>refine a ?_;clear a;rw[e]at h;exact zc h ia|false=>
   refine a ?_;clear a;rw[e]at h
   induction b:Ph i (.ofNat n)with
   |false=>rw[b]at h;exact zc h ia|true=>
    rw[b]at h;obtain⟨c,rfl,f⟩:=d h;rw[Og]at e b;have e:=of_decide_eq_false e;have b:i<(n:Int):=Nl b;refine⟨i.toNat::c,Gc (λx=>x::_) (EK (by lia)).symm,λj g=>?_⟩;refine aa λa=>?_;cases g with
    |head=>refine a ?_;clear a;lia|tail y h=>refine a ?_;clear a;exact f j h
structure qba(n a:Nat)(r:Bool×W×Ae)(js:List Nat)(as:List Int):Prop where
 out:r.2.1=.l (Cb js)
 js4:js.length<=4
 lt:∀j∈js,j<n
 ats:r.2.2.at=as.map W.int
 len:as.length=a
theorem ZF{lo hi T:List Nat}{n:Nat}{r:Bool×W×Ae}{x:Bool}(h:bad lo hi T n r=J x):(∃js as,qba n T.length r js as)/\x= !Ym lo hi T []:=by
 refine aa λnq=>(dp h λis e1 e2=>?_);obtain⟨e3,e4⟩:=tE e2;refine dp e4 λas e5 e6=>?_;obtain⟨e7,e8⟩:=tE e6;obtain rfl:=ba e8;refine dp e1 λxs e9 e10=>?_;obtain⟨rfl,h4⟩:=Cq e10;obtain⟨js,rfl,h5⟩:=FI e3;obtain⟨h6,_⟩:=Cq e5;refine nq (⟨⟨js,as,⟨?_,by rw[ya]at h4;exact h4,h5,h6,by rw[Qe,Qe]at e7;exact Uc e7⟩⟩,rfl⟩);refine U (Il _) ?_
 induction hw:r.2.1 using W.casesOn<;>rw[hw]at e9<;>first|exact ja e9|skip
 obtain rfl:=ba e9;rfl
section
variable {n:Nat} {S lo T:List Nat} {y:Y3}
theorem GQ{R:Type}{e:List W}{i:Nat}(d:i<lo.length)(k:Int->Int->Option R):Jp e (Cb (lo++[0])) (.int (.ofNat i)) k=Jp e (Cb lo) (.int (.ofNat i)) k:=by
 unfold Jp;refine ul λa u=>ul λc u=>ul λb f=>?_;cases (ba f:jb i=b);exact Gc (λo=>H o _) ((Kg (by refine U (Xa d) ?_;exact vc d):Jg (Cb (lo++[0])) (.ofNat i)=J (.int (.ofNat lo[i]!))).trans (Kg (vc d):Jg (Cb lo) (.ofNat i)=J (.int (.ofNat lo[i]!))).symm)
def SQ(R:Type)(y:Y3)(i N:Nat)(m:Option W×Unit)(h:H3)(k:Fw (Option W×Unit) H3->Option R):Option R:=a5 (λu h=>sQ (.int (.ofNat i)) y h) (Ev 5000 (.int (.ofNat i)) y) N m h k
theorem jE(g:LD n S lo T y)(O:y.wO=Cb (lo++[0])){i:Nat}(P:i<lo.length):∀{f N:Nat}{h:H3}{m:Option W×Unit}{r:Bool×W×Ae},f<=N->oB y.wM y.wO (.int (.ofNat i)) (.ofNat i) f h.pl=J r->
 (r.1=Z->∃E,∀(R:Type) k,SQ R y i N m h k=k (.go E (h.wX r.2.2)))/\
 (r.1=ua->∀o as,qba S.length n r o as->∀A b,SI A b h.st->∃C,SB C/\∀(R:Type) k,SQ R y i N m h k=k (.ret (.bool ua) ((h.wX r.2.2).putS C))):=by
 intro f
 induction f with
 |zero=>exactλu e=>ja e|succ f ih=>
  intro N h m r F e
  induction N using Sa with
  |zero=>exact zc F (BI f)|succ N=>
   have e:Jp h.pl.co y.wO (.int (.ofNat i)) (λx z=>M (Ph x z) (H (qaz y.wM y.wO (.ofNat i) h.pl) λr=>H (Oh r.1 .none) λb=>M b (J (ua,r.1,r.2)) (oB y.wM y.wO (.int (.ofNat i)) (.ofNat i) f r.2)) (J (Z,.none,h.pl)))=J r:=e;have tl:∀k:Int->Int->Option (Bool×W×Ae),Jp h.pl.co y.wO (.int (.ofNat i)) k=Jp h.pl.co y.ca.wO (.int (.ofNat i)) k:=λk=>by
    exact U O (U g.wO (GQ P k))
   have e:=(tl _).symm.trans e;refine aa λl=>(dp e λa ea e=>(dp e λc ec e=>(dp e λb eb e=>?_)));refine dp e λd ed e=>(dp e λx ex e=>(dp e λz ez e=>(l ?_)));clear l;have e:M (Ph x z) (H (qaz y.wM y.wO (.ofNat i) h.pl) λr=>H (Oh r.1 .none) λb=>M b (J (ua,r.1,r.2)) (oB y.wM y.wO (.int (.ofNat i)) (.ofNat i) f r.2)) (J (Z,.none,h.pl))=J r:=e;have start:∀(R:Type) k,SQ R y i (N+1) m h k=M (Ph x z) (Ev 5000 (.int (.ofNat i)) y m h λr=>Fw.rec (λm h=>SQ R y i N m h k) (λw h=>k (.ret w h)) r) (k (.go m h)):=λR k=>by
    show Jp h.pl.co y.ca.wO (.int (.ofNat i)) (λx z=>M (Ph x z) (Ev 5000 (.int (.ofNat i)) y m h λr=>Fw.rec (λm h=>SQ R y i N m h k) (λw h=>k (.ret w h)) r) (k (.go m h)))=_
    exact(Lb ea).trans ((Lb ec).trans ((Lb eb).trans ((Lb ed).trans ((Lb ex).trans (Lb ez)))))
   induction q:Ph x z with
   |false=>
    rw[q]at e;refine aa λl=>?_;cases (ba e:(Z,W.none,h.pl)=r);refine l ?_;clear l;exact⟨λu=>⟨m,λR k=>(start R k).trans (ji q)⟩,λh=>zc h.symm ia⟩
   |true=>
    rw[q]at e;refine aa λl=>?_;refine dp (show H (qaz y.wM y.wO (.ofNat i) h.pl) _=J r from e) λj e1 e2=>?_;obtain⟨w,p⟩:=j;refine dp e2 λG K L=>(l ?_);clear l;have step:∀(R:Type) k,Ev (R:=R) 5000 (.int (.ofNat i)) y m h k=M G (M (nb w) (H (Hl w) λos=>xt y.ca.wQ y.ca.wP os (h.wX p) λv=>Qo (.l v) (λs=>c3.wR y ((h.wX p).putS s)) h.st λs=>k (.ret (.bool ua) ((h.wX p).putS s))) Y) (k (.go (J w,()) (h.wX p))):=λR k=>by
     refine(Db rfl).trans ((Lb (rfl:Ua (.int (.ofNat i))=J _)).trans (dn ?_ ((jU (able:=y.wM) (lows:=y.wO) (N:=5000) (w:=.ofNat i) (σ:=λu=>[]) (h:=h.pl) R λt=>M (nb t.1) (H (Oh t.1 .none) λr=>M r (M (nb t.1) (H (Hl t.1) λos=>xt y.ca.wQ y.ca.wP os (h.wX t.2) λv=>Qo (.l v) (λs=>c3.wR y ((h.wX t.2).putS s)) h.st λs=>k (.ret (.bool ua) ((h.wX t.2).putS s))) Y) (k (.go (J t.1,()) (h.wX t.2)))) Y).trans ((Lb e1).trans ((Db (WW K)).trans (Lb K))))));exact U g.wM NM
    induction G with
    |false=>
     obtain⟨h1,h2⟩:=ih (h:=h.wX p) (m:=(J w,())) (Nat.le_of_succ_le_succ F) L;exact⟨λt=>(h1 t).imp λE D=>λR k=>(start R k).trans ((Db q).trans ((step R _).trans (D R k))),λt o as B A b I=>(h2 t o as B A b I).imp λC z=>⟨z.1,λR k=>(start R k).trans ((Db q).trans ((step R _).trans (z.2 R k)))⟩⟩
    |true=>
     cases (ba L:(ua,w,p)=r);refine⟨λh=>zc h ia,λu o as B A b I=>?_⟩;refine aa λl=>?_;obtain⟨v,t,D⟩:=TG (h:=h.wX p) g.n4 B.ats B.len B.lt B.js4;obtain⟨C,E⟩:=yz I t.pl (ib t.len (by decide)) (λs=>c3.wR y ((h.wX p).putS s)) (w:=.l v) rfl;have s:w=.l (Cb o):=B.out;subst s;refine l ?_;clear l;refine⟨_,C,λR k=>(start R k).trans ((Db q).trans ((step R _).trans ((Db rfl).trans ((Db rfl).trans ((Lb (rfl:Hl (.l (Cb o))=J (Cb o))).trans ?_)))))⟩;exact U g.wQ (U g.wP ((D R _).trans (E R _)))
theorem lJ(a:LD n S lo T y)(x:y.wO=Cb (lo++[0])):∀{c:List Nat}{h:H3}{m:IK}{r:Bool×W×Ae},(∀k∈c,k<lo.length)->MM y.wM y.wO (Cb c) h.pl=J r->
 (r.1=Z->∃q,∀(R:Type) k,kg (tB (R:=R) 5000 y) (Cb c) m h k=k (.go q (h.wX r.2.2)))/\
 (r.1=ua->∀d as,qba S.length n r d as->∀f b,SI f b h.st->∃l,SB l/\∀(R:Type) k,kg (tB (R:=R) 5000 y) (Cb c) m h k=k (.ret (.bool ua) ((h.wX r.2.2).putS l))):=by
 intro c
 induction c with
 |nil=>
  rintro h m r _ e;obtain rfl:=ba e;exact⟨λu=>⟨m,λR k=>rfl⟩,λh=>zc h.symm ia⟩
 |cons i c A=>
  rintro h m r s e;refine aa λg=>(dp (show H (oB y.wM y.wO (.int (.ofNat i)) (.ofNat i) 10 h.pl) _=J r from e) λt C o=>?_);obtain⟨D,E⟩:=jE a x (s i sa) (N:=5000) (m:=(m.2.1,())) (by decide) C;refine g ?_
  induction j:t.1 with
  |true=>
   rw[j]at o;refine aa λg=>?_;obtain⟨m1,v⟩:=D j;obtain⟨F,G⟩:=A (h:=h.wX t.2.2) (m:=(J (.int (.ofNat i)),m1.1,())) (λk p=>s k (oa _ p)) o;exact g (⟨λp=>(F p).imp λq K=>λR k=>(Cv (λk=>v R _) k).trans (K R k),λp d as B f b I=>(G p d as B f b I).imp λl z=>⟨z.1,λR k=>(Cv (λk=>v R _) k).trans (z.2 R k)⟩⟩)
  |false=>
   rw[j]at o;refine aa λg=>?_;cases (ba o:t=r);exact g (⟨λh=>zc (j.symm.trans h) ia,λu d as B f b I=>(E j d as B f b I).imp λl z=>⟨z.1,λR k=>z.2 R _⟩⟩)
end
section
variable {o r x:Nat} {rs:List Nat}
theorem nf:{xs:List Nat}->Ye o xs=Z↔o∈xs:=by
 intro xs
 induction xs with
 |nil=>
  exact⟨λh=>(zc h ia),λh=>((Tb h).elim)⟩
 |cons x xs a=>
  show M (Ub x o) Z (Ye o xs)=Z↔_
  refine U (propext fb) (Ed (propext a) (U wm ?_))
  induction e:Ub x o with
  |true=>exact⟨λu=>.inl (Uc e).symm,λu=>rfl⟩|false=>exact⟨.inr,λh=>h.elim (λh=>zc h.symm (Fg e)) id⟩
theorem mq:{a:List Nat}->jp o a=a.count o:=by
 intro a
 induction a with
 |nil=>
  exact rfl
 |cons x a b=>
  show M (Ub x o) (nc (jp o a)) (jp o a)=_
  refine U Ww (U b (U wm ?_))
  induction e:Ub x o with
  |true=>exact U (Dd rfl) (U (Dd (beq_iff_eq.mpr (Uc e))) rfl)|false=>refine U (fe ia) (U (fe λh=>Fg e (beq_iff_eq.mp h)) ?_);rfl
structure Yy(rs xs:List Nat):Prop where
 len:xs.length=rs.length
 mem:(i r x:Nat)->rs[i]?=J r->xs[i]?=J x->x∈Mb r
theorem Yy.cons{c:List Nat}(h:x∈Mb r)(k:Yy rs c):Yy (r::rs) (x::c):=
 ⟨Gc nc k.len,λi a b d e=>by
  induction i using Sa with
  |zero=>obtain rfl:=ba d;obtain rfl:=ba e;exact h|succ i=>exact k.mem i a b d e⟩
theorem Yy.tail{a:List Nat}(k:Yy (r::rs) (x::a)):x∈Mb r/\Yy rs a:=⟨k.mem 0 r x rfl rfl,Jh k.len,λi r x h=>k.mem (i+1) r x h⟩
def CK(lo hi a:List Nat):Prop:=∀i l g,lo[i]?=J l->hi[i]?=J g->l<=a.count i/\a.count i<=g
variable {lo hi:List Nat}
theorem YR{f:Nat->Bool}:{os:List Nat}->(gc ua (λo u z=>M (f o) Z z) os:Bool)=Z↔∃o,o∈os/\f o=Z:=by
 intro os
 induction os with
 |nil=>
  exact⟨λh=>(zc h ia),λa=>by obtain⟨_,h,_⟩:=a;exact((Tb h).elim)⟩
 |cons o os b=>
  show M (f o) Z (gc ua (λo u z=>M (f o) Z z) os:Bool)=Z↔_
  induction e:f o with
  |true=>exact⟨λu=>⟨o,sa,e⟩,λu=>rfl⟩|false=>exact(b).trans ⟨λa=>by obtain⟨x,h,k⟩:=a;exact⟨x,oa _ h,k⟩,λa=>by obtain⟨x,h,k⟩:=a;exact(fb.mp h).elim (λz=>by rw[z,e]at k;exact zc k ia) λh=>⟨x,h,k⟩⟩
theorem XY{acc:List Nat}:∀{lo:List Nat}{o:Nat}{hi:List Nat},(gc (motive:=λu=>Nat->List Nat->Bool) (λu u=>Z) (λl u ih o hi=>gc Z (λh hi u=>M (fh l (jp o acc)) (M (fh (jp o acc) h) (ih (nc o) hi) ua) ua) hi) lo o hi:Bool)=Z↔∀i l g,lo[i]?=J l->hi[i]?=J g->l<=acc.count (o+i)/\acc.count (o+i)<=g:=by
 intro lo
 induction lo with
 |nil=>
  intro o hi;exact⟨λu i l g h=>(ja h),λu=>rfl⟩
 |cons l lo ih0=>
  intro o hi
  induction hi using ma with
  |nil=>
   exact⟨λu i l g u h=>(ja h),λu=>rfl⟩
  |cons g hi=>
   show M (fh l (jp o acc)) (M (fh (jp o acc) g) (gc (motive:=λu=>Nat->List Nat->Bool) (λu u=>Z) (λl u ih o hi=>gc Z (λh hi u=>M (fh l (jp o acc)) (M (fh (jp o acc) h) (ih (nc o) hi) ua) ua) hi) lo (nc o) hi:Bool) ua) ua=Z↔_
   have ih:=ih0 (o:=nc o) (hi:=hi);refine U mq (U wm (U wm ?_))
   constructor
   ·intro h
    split at h
    ·rename_i h1
     split at h
     ·rename_i h2
      intro i a b ha hb
      induction i using Sa with
      |zero=>
       obtain rfl:=ba ha;obtain rfl:=ba hb;exact⟨gb h1,gb h2⟩
      |succ i=>
       have:=ih.mp h i a b ha hb;rw[H5]at this;exact this
     ·exact zc h ia
    ·exact zc h ia
   ·intro h
    have h0:l<=acc.count o/\acc.count o<=g:=h 0 l g rfl rfl;refine U (Dd (RF h0.1)) (U (Dd (RF h0.2)) (ih.mpr λi a b ha hb=>?_));have:=h (i+1) a b ha hb;exact U (H5 _ _) this
theorem iT:{rs a:List Nat}->Ym lo hi rs a=Z↔∃b,Yy rs b/\CK lo hi (b++a):=by
 intro rs
 induction rs with
 |nil=>
  intro a;have e:qeh lo hi a=Z↔CK lo hi a:=by
   refine XY.trans ?_;simp only[kh];rfl
  exact e.trans ⟨λh=>⟨[],⟨rfl,λu u u h=>(ja h)⟩,h⟩,λc=>by obtain⟨b,h,k⟩:=c;cases jg.mp h.len;exact k⟩
 |cons r rs d=>
  intro a;have e:Ym lo hi (r::rs) a=Z↔∃o,o∈Mb r/\Ym lo hi rs (o::a)=Z:=YR;have c:∀(o:Nat)(b:List Nat),CK lo hi (b++o::a)↔CK lo hi (o::b++a):=λo b=>by
   unfold CK;simp only[List.perm_middle.count_eq,Km]
  refine e.trans ⟨λw=>?_,λw=>?_⟩
  ·obtain⟨o,f,h⟩:=w
   obtain⟨b,g,i⟩:=d.mp h;exact⟨o::b,.cons f g,(c o b).mp i⟩
  ·refine aa λf=>?_
   obtain⟨b,h,k⟩:=w
   induction b using ma with
   |nil=>refine f ?_;exact zc h.len.symm (Zb _)|cons x b=>refine f ?_;exact⟨x,h.tail.1,d.mpr ⟨b,h.tail.2,(c x b).mpr k⟩⟩
theorem tu:Ym lo hi rs []=Z↔∃a,Yy rs a/\CK lo hi a:=iT.trans (by simp only[Wb])
theorem fY:∀{rs a:List Nat}{k j:Nat},j∈iq lo hi o rs a k->k<=j:=by
 intro rs
 induction rs with
 |nil=>
  rintro _ _ _ h;exact(Tb h).elim
 |cons r rs b=>
  rintro a k j h;have h:j∈M (Ye o (Mb r)) (M (Ym lo hi (a++Ki o::rs) []) (iq lo hi o rs (a++[r]) (nc k)) (k::iq lo hi o rs (a++[r]) (nc k))) (iq lo hi o rs (a++[r]) (nc k)):=h;have b:j∈iq lo hi o rs (a++[r]) (nc k)->k<=j:=λh=>Sf (b h);revert h
  induction Ye o (Mb r)with
  |false=>exact b|true=>
   induction Ym lo hi (a++Ki o::rs) []with
   |true=>exact b|false=>exactλh=>(fb.mp h).elim (λe=>e▸Gb _) b
theorem Jx:∀{rs pre:List Nat}{k:Nat},(iq lo hi o rs pre k).Nodup:=by
 intro rs
 induction rs with
 |nil=>
  rintro _ _;exact lW
 |cons r rs a=>
  rintro pre k;show(M (Ye o (Mb r)) (M (Ym lo hi (pre++Ki o::rs) []) (iq lo hi o rs (pre++[r]) (nc k)) (k::iq lo hi o rs (pre++[r]) (nc k))) (iq lo hi o rs (pre++[r]) (nc k))).Nodup
  induction Ye o (Mb r)with
  |false=>exact a|true=>
   induction Ym lo hi (pre++Ki o::rs) []with
   |true=>exact a|false=>exact Fc.mpr ⟨λh=>zc (fY h) (Nat.not_succ_le_self k),a⟩
theorem cH:∀{rs pre:List Nat}{k j:Nat},pre.length=k->(j∈iq lo hi o rs pre k↔k<=j/\∃r,(pre++rs)[j]?=J r/\Ye o (Mb r)=Z/\Ym lo hi ((pre++rs).set j (Ki o)) []=ua):=by
 intro rs
 induction rs with
 |nil=>
  rintro pre k j e;exact⟨λh=>((Tb h).elim),λa=>by
   obtain⟨h,r,c,_⟩:=a;rw[Wb,Rc (e▸h)]at c;exact ja c⟩
 |cons r rs b=>
  rintro pre k j e;have b:=b (pre:=pre++[r]) (k:=nc k) (j:=j) (by refine U Ha (U e ?_);rfl);rw[Dc]at b;have i:(pre++r::rs)[k]?=J r:=by refine Ed e (U (La (Gb _)) (U (gh _) ?_));rfl
  have l:(pre++r::rs).set k (Ki o)=pre++Ki o::rs:=by refine Ed e (U (List.set_append_right _ _ (Gb _)) (U (gh _) ?_));rfl
  show j∈M (Ye o (Mb r)) (M (Ym lo hi (pre++Ki o::rs) []) (iq lo hi o rs (pre++[r]) (nc k)) (k::iq lo hi o rs (pre++[r]) (nc k))) (iq lo hi o rs (pre++[r]) (nc k))↔_
  have a:(Ye o (Mb r)=Z->Ym lo hi (pre++Ki o::rs) []=Z)->(j∈iq lo hi o rs (pre++[r]) (nc k)↔k<=j/\∃x,(pre++r::rs)[j]?=J x/\Ye o (Mb x)=Z/\Ym lo hi ((pre++r::rs).set j (Ki o)) []=ua):=λm=>b.trans ⟨λh=>⟨Sf h.1,h.2⟩,λg=>by
   obtain⟨h,x,d,c,f⟩:=g;exact⟨by
   rcases Lk h with z|z
   ·rw[<-z]at d f
    rw[i]at d;obtain rfl:=ba d;rw[l,m c]at f;exact zc f.symm ia
   ·exact z,x,d,c,f⟩⟩
  induction c:Ye o (Mb r)with
  |false=>exact a λh=>zc (c.symm.trans h) ia|true=>
   induction d:Ym lo hi (pre++Ki o::rs) []with
   |true=>exact a λu=>d|false=>
    refine fb.trans ⟨λh=>h.elim (λz=>by subst z;exact⟨Gb _,r,i,c,by refine U l ?_;exact d⟩) λh=>(b.mp h).imp_left Sf,λw=>?_⟩;rcases Lk w.1 with z|z
    ·exact .inl z.symm
    ·exact .inr (b.mpr ⟨z,w.2⟩)
end
def zi(vs:List Nat)(u:Nat):Nat:=gc 0 (λv y ih=>M (Ub v u) 0 (nc ih)) vs
def H6(os:List Nat):Nat:=gc 0 (λo u ih=>Nat.lor (Ki o) ih) os
def re(vs:List Nat)(m:Nat):Nat:=H6 ((Mb m).map (zi vs))
noncomputable abbrev ye:List (List Nat):=[[0],[1],[2],[0,1],[1,2],[2,0]]
noncomputable abbrev Rm:List Nat:=[1,2,3,4,5,6,7]
noncomputable abbrev il:List Nat:=[0,1,2]
theorem Mk.mem{m:Nat}:Mk m->m∈Rm:=Mk.all (P:=λm=>m∈Rm) (by decide)
theorem Mk.mem'{m:Nat}(h:m∈Rm):Mk m:=Mk.of (by revert h;revert m;decide) (by revert h;revert m;decide)
theorem V3.mem{u:Nat}:V3 u->u∈il:=V3.all (P:=λu=>u∈il) (by decide)
theorem lD{i:Nat}(h:i<=2):i∈il:=(bc.mpr (Rg h):i∈Ka 3)
theorem V3.mem'{u:Nat}(h:u∈il):V3 u:=V3.of (by revert h;revert u;decide)
theorem th:∀a∈ye,(∀u∈il,zi a u<=a.length/\Ki (zi a u)=re a (Ki u))/\(∀i∈il,i<a.length->a[i]! ∈il/\zi a a[i]! =i)/\a.length<=2/\a≠[]:=by decide+kernel
theorem uQ:∀a∈ye,∀m∈Rm,∀o∈il,o<=a.length->∀u∈Mb m,Ye u (Hk o a m)=Ub (zi a u) o:=by decide+kernel
theorem Iw:∀a∈ye,∀m∈Rm,re a m∈Rm/\(∀o∈il,Ye o (Mb (re a m))=Ye o ((Mb m).map (zi a)))/\∀o∈Mb (re a m),o<=a.length:=by decide+kernel
theorem tV:∀m∈(0::Rm),∀u∈il,pp m u∈(0::Rm)/\∀w∈il,Ye w (Mb (pp m u))=(Ye w (Mb m)&& !Ub w u):=by decide+kernel
theorem Vj:∀m∈(0::Rm),∀w∈Mb m,w∈il:=by decide+kernel
theorem qaM:∀a∈(0::Rm),∀b∈(0::Rm),(∀w∈il,Ye w (Mb a)=Ye w (Mb b))->a=b:=by decide+kernel
def b9(vs:List Nat)(m:Nat):List Nat:=if((Ka vs.length).filter λi=>Ye vs[i]! (Mb m)).length<(Mb m).length then((Ka vs.length).filter λi=>Ye vs[i]! (Mb m))++[vs.length]else(Ka vs.length).filter λi=>Ye vs[i]! (Mb m)
theorem tQ:∀a∈ye,∀m∈Rm,b9 a m=Mb (re a m):=by decide+kernel
theorem MG:∀{d:List Nat}{m:Nat},m∈(0::Rm)->(∀u∈d,u∈il)->zq m d∈(0::Rm)/\∀w∈il,(w∈Mb (zq m d)↔w∈Mb m/\¬w∈d):=by
 intro d
 induction d with
 |nil=>
  rintro m h _;exact⟨h,λw y=>⟨λx=>⟨x,Tb⟩,λx=>x.1⟩⟩
 |cons u d j=>
  rintro m h i;refine aa λk=>?_;obtain⟨l,n⟩:=tV m h u (i u sa);obtain⟨o,p⟩:=j l λw g=>i w (oa _ g);refine k (⟨o,λw g=>(p w g).trans ?_⟩);refine Ed (propext (nf (xs:=Mb (pp m u)))) (U (n w g) (Ed (propext (nf (xs:=Mb m))) (U (Ad _ _) (U (propext fb) ?_))));have e:(!Ub w u)=Z↔w≠u:=by
   induction e:Ub w u with
   |true=>exact⟨λh=>(zc h ia),λh=>zc (Uc e) h⟩|false=>exact⟨λy=>Fg e,λy=>rfl⟩
  exact U (propext e) (⟨λf=>by obtain⟨⟨a,b⟩,c⟩:=f;exact⟨a,λx=>x.elim b c⟩,λf=>by obtain⟨a,b⟩:=f;exact⟨⟨a,λx=>b (.inl x)⟩,λx=>b (.inr x)⟩⟩)
theorem rE{o:Nat}{vs:List Nat}:∀{a ms:List Nat}{j:Nat},a.Nodup->(∀k∈a,k<ms.length)->(vm o vs ms a).length=ms.length/\(vm o vs ms a)[j]! =if j∈a then zq ms[j]! (Hk o vs ms[j]!)else ms[j]! :=by
 intro a
 induction a with
 |nil=>
  rintro ms j _ _;exact⟨rfl,rfl⟩
 |cons k a d=>
  rintro ms j b h;have c:(Dz o vs ms k).length=ms.length:=yb;obtain⟨f,g⟩:=d (ms:=Dz o vs ms k) (j:=j) (Fc.mp b).2 λx i=>c▸h x (oa _ i);refine⟨f.trans c,g.trans ?_⟩;by_cases e:k=j
  ·subst e
   refine U (fe ((Fc.mp b).1)) (U (Dd sa) ?_);refine U Cc (U (je (h k sa)) ?_);rfl
  ·have l:(Dz o vs ms k)[j]! =ms[j]! :=by
    unfold Dz;exact U Cc (U (Xc e) (Ed Cc rfl))
   refine U l ?_;by_cases x:j∈a
   ·exact U (Dd x) (U (Dd (oa _ x)) rfl)
   ·exact U (fe x) (U (fe λz=>(fb.mp z).elim (λz=>e z.symm) x) rfl)
theorem nA:∀x∈il,Mb (Ki x)=[x]:=by decide
theorem zn{W:List Nat}{k:Nat}(h:k<W.length):W[k]! ∈W:=Ma (vc h)
def TW(X lo V W:List Nat)(k u:Nat):Bool:=Ym lo V ((W.map (re X)).set k (Ki (zi X u))) []
section
variable {X lo V W T:List Nat} {o:Nat}
theorem dK(j:X∈ye)(l:∀m∈W,m∈Rm)(b:Ym lo V (W.map (re X)) []=Z){k:Nat}(c:k<W.length):∃u,u∈Mb W[k]! /\TW X lo V W k u=Z:=by
 refine aa λm=>?_;obtain⟨f,F,C⟩:=tu.mp b;have e:=vc (by refine U F.len (U (ya _) ?_);exact c:k<f.length);obtain⟨n,p,t⟩:=Iw X j _ (l _ (zn c));have b:=F.mem k _ _ (by refine U Ec (U (vc c) ?_);rfl:(W.map (re X))[k]?=J (re X W[k]!)) e;have g:f[k]! ∈il:=Vj _ (oa _ n) _ b;have h:=p _ g;rw[nf.mpr b]at h;obtain⟨u,q,s⟩:=Rb.mp (nf.mp h.symm);refine m ?_;refine⟨u,q,tu.mpr ⟨f,⟨by refine U yb ?_;exact F.len,λi r x d a=>?_⟩,C⟩⟩;by_cases z:k=i
 ·subst z
  rw[je (by refine U (ya _) ?_;exact c)]at d;obtain rfl:=ba d;rw[e]at a;obtain rfl:=ba a;exact U s (U (nA _ g) (Nm _))
 ·rw[Xc z]at d
  exact F.mem i r x d a
structure Ko(X lo V W:List Nat)(o:Nat)(T:List Nat):Prop where
 len:T.length=W.length
 msk:∀k,k<W.length->T[k]! ∈Rm
 mem:∀k,k<W.length->∀u∈il,(u∈Mb T[k]! ↔u∈Mb W[k]! /\(zi X u<o->TW X lo V W k u=Z))
theorem Ko.start(a:∀m∈W,m∈Rm):Ko X lo V W 0 W:=⟨rfl,λk b=>a _ (zn b),λk y u y=>⟨λh=>⟨h,λh=>zc h (We _)⟩,MX⟩⟩
theorem Ko.step(q:X∈ye)(B:∀m∈W,m∈Rm)(E:Ym lo V (W.map (re X)) []=Z)(C:o<=X.length)(I:Ko X lo V W o T):
 (∀k∈iq lo V o (W.map (re X)) [] 0,k<W.length/\Mk (zq T[k]! (Hk o X T[k]!)))/\Ko X lo V W (o+1) (vm o X T (iq lo V o (W.map (re X)) [] 0)):=by
 have x:o∈il:=by
  have:=(th X q).2.2.1;have:o<=2:=Za C this;exact lD this
 have l:∀k,k<W.length->(k∈iq lo V o (W.map (re X)) [] 0↔Ye o ((Mb W[k]!).map (zi X))=Z/\Ym lo V ((W.map (re X)).set k (Ki o)) []=ua):=λk g=>by
  have b:(W.map (re X))[k]?=J (re X W[k]!):=by refine U Ec (U (vc g) ?_);rfl
  have c:=(Iw X q _ (B _ (zn g))).2.1 o x;refine(cH rfl).trans ⟨λw=>?_,λa=>by obtain⟨m,s⟩:=a;exact⟨td _,_,b,c.trans m,s⟩⟩;refine aa λA=>?_;obtain⟨_,r,m,s,t⟩:=w;cases b.symm.trans m;exact A (⟨c.symm.trans s,t⟩)
 have w:∀k∈iq lo V o (W.map (re X)) [] 0,k<W.length:=λk h=>by
  refine aa λA=>?_;obtain⟨_,r,m,_⟩:=(cH rfl).mp h;refine A ?_;have:=(wb.mp m).1;rw[List.nil_append,ya]at this;exact this
 have get:=λj=>rE (o:=o) (vs:=X) (j:=j) (Jx (lo:=lo) (hi:=V) (o:=o) (rs:=W.map (re X)) (pre:=[]) (k:=0)) λk g=>I.len▸w k g;have n:∀k,k<W.length->∀u∈Mb T[k]!,(u∈Hk o X T[k]! ↔zi X u=o):=λk g u p=>by
  refine Ed (propext nf) (U (uQ X q _ (I.msk k g) o x C u p) ?_);exact⟨Uc,λh=>by refine U h ?_;exact Nat.beq_refl o⟩
 have D:∀k,k<W.length->∀u∈Hk o X T[k]!,u∈il:=λk g u p=>(vI (λv a=>by
  obtain⟨i,V,rfl⟩:=Gj a;have s:=(th X q).2.2.1;have t:i∈il:=by
   have:i<=2:=by lia
   exact lD this
  have:=((th X q).2.1 i t V).1;rw[getElem!_pos X i V]at this;exact V3.mem' this) (Mk.mem' (I.msk k g)) u p).mem
 have r:∀k,k<W.length->∀u∈il,(u∈Mb (vm o X T (iq lo V o (W.map (re X)) [] 0))[k]! ↔u∈Mb W[k]! /\(zi X u<o+1->TW X lo V W k u=Z)):=λk g u p=>by
  refine U ((get k).2) ?_;by_cases i:k∈iq lo V o (W.map (re X)) [] 0
  ·refine U (Dd i) ?_
   refine((MG (oa _ (I.msk k g)) (D k g)).2 u p).trans ⟨λ⟨a,b⟩=>?_,λ⟨a,b⟩=>?_⟩
   ·have e:zi X u≠o:=λz=>b ((n k g u a).mpr z)
    obtain⟨c,d⟩:=(I.mem k g u p).mp a;exact⟨c,λz=>d (Nk (Qf z) e)⟩
   ·have c:=(I.mem k g u p).mpr ⟨a,λz=>b (Tf z)⟩
    refine⟨c,λz=>?_⟩;have e:=(n k g u c).mp z;have f:=b (e▸pd _);unfold TW at f;rw[e,((l k g).mp i).2]at f;exact zc f ia
  ·refine U (fe i) ((I.mem k g u p).trans ⟨λ⟨a,b⟩=>⟨a,λz=>?_⟩,λ⟨a,b⟩=>⟨a,λz=>b (Tf z)⟩⟩)
   rcases Lk (Qf z)with e|e
   ·induction f:TW X lo V W k u with
    |true=>rfl|false=>
     unfold TW at f;rw[e]at f;exact zc ((l k g).mpr ⟨nf.mpr (Rb.mpr ⟨u,a,e⟩),f⟩) i
   ·exact b e
 have a:∀k,k<W.length->(vm o X T (iq lo V o (W.map (re X)) [] 0))[k]! ∈Rm:=λk g=>by
  refine aa λA=>?_;obtain⟨u,m,s⟩:=dK q B E g;refine A ?_;have t:=(r k g u (Vj _ (oa _ (B _ (zn g))) u m)).mpr ⟨m,λy=>s⟩;have b:(vm o X T (iq lo V o (W.map (re X)) [] 0))[k]! ∈(0::Rm):=by
   refine U ((get k).2) ?_
   split
   ·exact(MG (oa _ (I.msk k g)) (D k g)).1
   ·exact oa _ (I.msk k g)
  rcases fb.mp b with z|z
  ·rw[z]at t;cases t
  ·exact z
 exact⟨λk h=>⟨w k h,by have:=a k (w k h);rw[(get k).2,Dd h]at this;exact Mk.mem' this⟩,⟨(get 0).1.trans I.len,a,r⟩⟩
end
theorem YS:∀{b:List Int}{a:List Nat},qbA b a=Z->b=a.map jb:=by
 intro b
 induction b with
 |nil=>
  intro a h
  induction a using ma with
  |nil=>rfl|cons=>exact zc h ia
 |cons x b c=>
  intro a h
  induction a using ma with
  |nil=>exact zc h ia|cons y a=>
   have h:M (Rp x (.ofNat y)) (qbA b a) ua=Z:=h
   induction e:Rp x (.ofNat y)with
   |false=>rw[e]at h;exact zc h ia|true=>
    rw[e]at h;rw[vp]at e;refine U (Nl e) (U (c h) ?_);rfl
theorem aS{lo X:List Nat}{o:Nat}:∀{b a:List Nat}{k:Nat},(iq lo X o b a k).length<=b.length:=by
 intro b
 induction b with
 |nil=>exact Gb _|cons r b c=>
  intro a k;show(M (Ye o (Mb r)) (M (Ym lo X (a++Ki o::b) []) (iq lo X o b (a++[r]) (nc k)) (k::iq lo X o b (a++[r]) (nc k))) (iq lo X o b (a++[r]) (nc k))).length<=_
  induction Ye o (Mb r)with
  |false=>exact Kd c|true=>
   induction Ym lo X (a++Ki o::b) []with
   |true=>exact Kd c|false=>exact sf c
section
variable {n:Nat} {V lo X T:List Nat} {y:Y3}
theorem QO(a:LD n V lo (T.map (re V)) y)(v:V∈ye)(i:T.length=n)(A:∀m∈T,m∈Rm)(B:Ym lo X (T.map (re V)) []=Z):∀{os:List Nat}{o b:Nat}{h:H3}{m:Option W×Unit}{ns:List Nat}{x:Bool},os=NF o os.length->o+os.length=V.length+1->TL y.ca.wQ y.wM y.wO y.wN lo X (T.map (re V)) os h.pl=J x->Ko V lo X T o ns->SI ns b h.st->b+12*os.length<=4000->
 ∃C d g,Ko V lo X T (V.length+1) g/\SI g (b+12*os.length) d.st/\∀(R:Type) k,kg (vy (R:=R) 5000 y) (Cb os) m h k=k (.go C d):=by
 intro os
 induction os with
 |nil=>
  intro o b h m ns x _ e _ K I _;exact⟨m,h,ns,(show o=V.length+1 from e)▸K,I,λR k=>rfl⟩
 |cons o os D=>
  intro o' b h m ns x j E e K I F;rw[mc,List.range'_succ]at j;refine aa λs=>?_;cases (FK j).1;rw[mc]at E F;refine dp (show H (qaJ y.wM y.wO y.wN (.ofNat o) h.pl) _=J x from e) λz G e=>?_;obtain⟨f,r,p⟩:=z;refine dp e λfs L e=>(dp e λas N e=>?_);obtain⟨t,e⟩:=tE e;refine dp e λO P e=>(dp e λis Q e=>?_);obtain⟨S,e⟩:=tE e;obtain⟨f1,f2⟩:=Cq L;obtain⟨a1,a2⟩:=Cq N;have ht:as.length=n:=by
   rw[Qe,Qe,a.wQ,wc,Ab]at t;exact Uc t
  obtain⟨k1,k2⟩:=K.step v A B (by lia);have kl:(iq lo X o (T.map (re V)) [] 0).length<=4:=Za aS (by refine U (ya _) (U i ?_);exact a.n4);obtain⟨d,u,e9⟩:=px a (o:=o) G f1 f2 a1 ht ((by exact U (Gz Q) (U (YS S) (U (Il _) rfl)):O=Cb (iq lo X o (T.map (re V)) [] 0))▸P) (K.len.trans i) Jx (λk l=>i▸k1 k l) kl (by lia) I;obtain⟨m2,h2,l,K2,I2,q⟩:=D (m:=(J (.int (.ofNat o)),())) ((FK j).2) (by lia) (by refine U u.pl ?_;exact e:TL y.ca.wQ y.wM y.wO y.wN lo X (T.map (re V)) os d.pl=J x) k2 (u.si.mono (c:=b+12) (by lia)) (by lia);refine s ?_;clear s;have st:∀(R:Type) k,vy (R:=R) 5000 y (.int (.ofNat o)) m h k=k (.go (J (.int (.ofNat o)),()) d):=λR k=>e9 R λw h=>H (Li w) λb=>M (!b) (k (.ret (.bool ua) h)) (k (.go (J (.int (.ofNat o)),()) h));exact⟨m2,h2,l,K2,by refine U mc ?_;exact I2.mono (by lia),λR k=>(Cv (st R) k).trans (q R k)⟩
end
section
variable {V X:List Nat} {b:Nat} {s:Ff}
theorem DX(a:X∈ye){i:Nat}(c:i<X.length):V3 X[i]! :=by
 have e:=(th X a).2.2.1;have d:i∈il:=by
  have:i<=2:=by lia
  exact lD this
 exact V3.mem' ((th X a).2.1 i d c).1
theorem Hq(a c:List Nat):Cb (a++c)=Cb a++Cb c:=by exact U (Od _) (U (Od _) (U (Od _) (U IR rfl)))
theorem oU(I:SI V b s)(c:X∈ye){x m:Nat}(d:V[x]?=J m){R:Type}(k:List W->Option R):RO s.wL (Cb X) (.int (.ofNat x)) k=k (Cb (Mb (re X m))):=by
 have f:=I.all _ (Ma d);have g:=(th X c).2.2.1;refine Ed (tQ X c m f.mem) ?_;show VY s.wL (Cb X) _ _=_
 unfold VY;refine U Zf ?_;refine(wg (by lia) _).trans ((Ch (p:=λi=>Ye X[i]! (Mb m)) (λi a j=>?_) _).trans ((Db (Kc ?_)).trans ?_))
 ·have a:=bc.mp a
  have e:Jg (Cb X) (.ofNat i)=J (.int (.ofNat X[i]!)):=Kg (vc a);exact(Lb e).trans ((qp I d _).trans (Lb (N2 f (DX c a))))
 ·exact U (wc _) (ib (Qb _ _) (by refine U Ab ?_;lia))
 ·refine(Db rfl).trans ((qp I d _).trans ((Lb (J2 f)).trans ?_))
  have e:Ph (Sd (Cb ((Ka X.length).filter λi=>Ye X[i]! (Mb m)))) (.ofNat (len (Mb m)))=ac ((Ka X.length).filter λi=>Ye X[i]! (Mb m)).length (Mb m).length:=by
   refine U Zf (U (Qe _) ?_);rfl
  have l:((Ka X.length).filter λi=>Ye X[i]! (Mb m)).length<=2:=Za (Qb _ _) (by refine U Ab ?_;exact g);unfold b9;by_cases h:((Ka X.length).filter λi=>Ye X[i]! (Mb m)).length<(Mb m).length
  ·refine U (Dd h) (U (Hq _ _) ((Db (e.trans (ud.mpr h))).trans (Db (Kc ?_))))
   refine U Ha (U (wc _) ?_);show _+1<_;lia
  ·exact U (fe h) (ji (e.trans (Ys.mpr λz=>h (ud.mp z))))
structure MK(n:Nat)(X lo hi:List Nat)(ca:xr):Prop where
 n3:n<=3
 vs':X∈ye
 lo':lo.length=X.length
 hi':hi.length=X.length
 wQ:ca.wQ=Cb (Ka n)
 wP:ca.wP=Cb X
 wO:ca.wO=Cb lo
 wN:ca.wN=Cb hi
theorem Pu:∀a:List Nat,gi a=a.map λr=>W.l (Cb (Mb r)):=by
 intro a
 induction a with
 |nil=>
  exact rfl
 |cons r a c=>
  exact Gc (λx=>W.l (Cb (Mb r))::x) (c)
theorem RR{n:Nat}{lo a:List Nat}{c:xr}(C:MK n X lo a c)(I:SI V b s)(d:V.length=n){R:Type}(k:List W->Option R):rL s.wL c k=k (gi (V.map (re X))):=by
 unfold rL;have j:=C.n3;refine U C.wQ (U C.wP ?_);refine(Db (Kc (by refine U (wc _) (U Ab ?_);lia))).trans ((dJ (f:=λv=>Pp [] (λi=>[W.l (Cb (Mb (re X V[i.toNat]!)))]) (Ua v)) (λv g l=>?_) _).trans ?_)
 ·rw[Od]at g
  obtain⟨i,a,rfl⟩:=Rb.mp g;have a:=bc.mp a;exact oU I C.vs' (vc (d.symm▸a)) _
 ·have e:(Cb (Ka n)).flatMap (λv=>Pp [] (λi=>[W.l (Cb (Mb (re X V[i.toNat]!)))]) (Ua v))=gi (V.map (re X)):=by
   refine U (Od _) (U (Pu _) (U (List.flatMap_map _ _ _) (U Qd (Ed List.map_eq_flatMap (ft λi=>?_)))));refine U Ec (U Ec ?_);by_cases h:i<n
   ·refine U (bf h) (U (vc (d.symm▸h)) ?_);rfl
   ·refine U (Rc (by rw[Ab];lia)) (U (Rc (by lia)) ?_);rfl
  refine U e ?_;exact Db (Kc (by refine U (Pu _) (U (ya _) (U (ya _) ?_));lia))
end
theorem iN{b c:Bool}(h:M b c ua=Z):b=Z/\c=Z:=by
 induction b with
 |true=>exact⟨rfl,h⟩|false=>exact zc h ia
theorem ml{f:Nat->Bool}:{z:Nat}->RA f z=Z->∀a,1<=a->a<=z->f a=Z:=by
 intro z
 induction z with
 |zero=>
  rintro _ a d g;exact zc (Za d g) (BI 0)
 |succ z i=>
  rintro h a d g;obtain⟨j,k⟩:=iN (b:=f (z+1)) (c:=RA f z) h;rcases Lk g with e|e
  ·exact U e j
  ·exact i k a d (Qf e)
theorem QA{lo j os:List Nat}{z:Nat}(h:kt lo j os z=Z):{e:List Nat}->e≠[]->e.length<=3->(∀r∈e,1<=r/\r<=z)->chk lo j e e.length os=J Z:=by
 have d:{o:Option Bool}->yes o=Z->o=J Z:=λ{o} h=>by
  induction o with
  |none=>exact zc h ia|some b=>exact Gc J h
 obtain⟨l,h⟩:=iN h;obtain⟨m,h⟩:=iN h;intro e n p i
 induction e using ma with
 |nil=>exact zc rfl n|cons a e=>
  have f:=i a sa
  induction e using ma with
  |nil=>exact d (ml l a f.1 f.2)|cons b e=>
   have g:=i b (oa _ sa)
   induction e using ma with
   |nil=>exact d (ml (ml m a f.1 f.2) b g.1 g.2)|cons c e=>
    have k:=i c (oa _ (oa _ sa))
    induction e using ma with
    |nil=>exact d (ml (ml (ml h a f.1 f.2) b g.1 g.2) c k.1 k.2)|cons=>exact zc p (mL.mpr (Ve 4 _))
inductive AR:List Nat->List Nat->List Nat->Prop
 |one (v l h:Nat):l<=2->h<=l+2->AR [v] [l] [h]|two (v w l h g:Nat):l<=2->h<=l+2->g<=2->AR [v,w] [l,0] [h,g]
theorem JS:∀l∈Ka 3,∀h∈Ka 5,l<=h->h<=l+2->(l,h)∈[(0,0),(0,1),(0,2),(1,1),(1,2),(1,3),(2,2),(2,3),(2,4)]:=by decide
theorem eB{l h g:Nat}(a:l<=2)(b:h<=l+2)(c:g<=2)(d:l<=h):kt [l] [h] [0,1] 3=Z/\kt [l,0] [h,g] [0,1,2] 7=Z:=by
 have e:=Y6 _ (JS l (bc.mpr (Rg a)) h (bc.mpr (by lia)) d b);exact⟨e.1,V3.all (P:=λg=>kt [l,0] [h,g] [0,1,2] 7=Z) e.2 (V3.of (Rg c))⟩
theorem L1:∀a∈ye,∀m∈Rm,1<=re a m/\re a m<=(if a.length=1 then 3 else 7):=by decide+kernel
theorem IS{a lo c b:List Nat}(o:a∈ye)(p:AR a lo c)(j:∀i,i<a.length->lo[i]! <=c[i]!)(q:∀m∈b,m∈Rm)(s:b≠[])(i:b.length<=3):chk lo c (b.map (re a)) b.length (Ka (a.length+1))=J Z:=by
 have e:(b.map (re a)).length=b.length:=ya _;refine Ed e ?_;have k:b.map (re a)≠[]:=λz=>s (List.map_eq_nil_iff.mp z);have n:∀r∈b.map (re a),1<=r/\r<=(if a.length=1 then 3 else 7):=λr t=>by
  obtain⟨m,d,rfl⟩:=Rb.mp t;exact L1 a o m (q m d)
 cases p with
 |one v l h d f=>exact QA (eB d f (td 2) (j 0 (Mu _))).1 k (e▸i) n|two v w l h g d f m=>exact QA (eB d f m (j 0 (Mu _))).2 k (e▸i) n
theorem mH{x:Bool}(h:Z= !x):x=ua:=by induction x with|true=>exact zc h.symm ia|false=>rfl
theorem eO{n:Nat}(h:n<4096){v:W}{R:Type}(k:List W->Option R):JZ (.ofNat n) v k=k (Ia n v):=by
 exact(Db (by refine U (by rw[Og];exact decide_eq_false (Wi.mpr (wf n)):Ph (.ofNat n) 0=ua) ?_;rfl)).trans (Db (by refine U (Og _ _) ?_;exact decide_eq_true (show(n:Int)<4096 by lia):Ph (.ofNat n) 4096=Z))
theorem xP(n:Nat):vw n 0=Cb (Ka n):=by
 exact U (aA _ _) (U (Od _) (fg λi u=>Gc W.int (w5 (i:Int))))
inductive KF(X lo V T:List Nat)(b:Nat)(s:Ff):Bool->Prop
 |yes {ns:List Nat}:Ko X lo V T (X.length+1) ns->SI ns (b+36) s->KF X lo V T b s Z|no:SB s->KF X lo V T b s ua
theorem UL{g a c d:List W}{lo V f:List Nat}{x:Bool}:∀{os:List Nat}{h:Ae},TL g a c d lo V f os h=J x->Ym lo V f []=x:=by
 intro os
 induction os with
 |nil=>
  rintro h e;exact ba e
 |cons o os i=>
  rintro h e;refine aa λj=>(dp (show H (qaJ a c d (.ofNat o) h) _=J x from e) λz z e=>(dp e λz z e=>(dp e λz z e=>?_)));obtain⟨_,e⟩:=tE e;refine dp e λz z e=>(dp e λz z e=>?_);obtain⟨_,e⟩:=tE e;exact j (i e)
section
variable {n b:Nat} {X lo V T:List Nat} {S:xr} {s:Ff}
theorem rH(C:MK n X lo V S){R:Type}(k:List W->Option R):TO S k=k (Cb ((Ka X.length).filter λi=>Ph (.ofNat V[i]!) (.ofNat lo[i]!))):=by
 have c:=(th X C.vs').2.2.1;unfold TO;refine U C.wP (U Zf ?_);refine(wg (by lia) _).trans ((Ch (p:=λi=>Ph (.ofNat V[i]!) (.ofNat lo[i]!)) (λi a d=>?_) _).trans (Db (Kc ?_)))
 ·have a:=bc.mp a
  exact(Lb (by refine U C.wO ?_;exact Kg (vc (C.lo'.symm▸a)):Jg S.wO (.ofNat i)=J (.int (.ofNat lo[i]!)))).trans (Lb (by refine U C.wN ?_;exact Kg (vc (C.hi'.symm▸a)):Jg S.wN (.ofNat i)=J (.int (.ofNat V[i]!))))
 ·exact U (wc _) (ib (Qb _ _) (by refine U Ab ?_;lia))
theorem mU(C:MK n X lo V S)(B:AR X lo V)(I:SI T b s)(A:T.length=n)(h1:T≠[])(hb:b+40<=4000):∃g j,KF X lo V T b g (Ym lo V (T.map (re X)) [])/\∀(R:Type) k,Ly (R:=R) 5000 S s k=k (.bool (Ym lo V (T.map (re X)) [])) g j:=by
 have h2:=(th X C.vs').2.2.1;have Q:=C.n3;have N:∀m∈T,m∈Rm:=λm h=>(I.all m h).mem;by_cases E:(Ka X.length).filter (λi=>Ph (.ofNat V[i]!) (.ofNat lo[i]!))=[]
 ·have h0:∀i,i<X.length->lo[i]! <=V[i]! :=λi d=>by
   have:=ai.mp E i (bc.mpr d);rw[Og]at this;have:=λh=>this (decide_eq_true (p:=jb V[i]! <jb lo[i]!) h);exact ng λz=>this (oi.mpr z)
  have c:=IS C.vs' B h0 N h1 (A▸Q);have ey:S.wO++[.int 0]=Cb (lo++[0]):=by refine U C.wO (U (Hq _ _) ?_);rfl
  have eh:S.wN++[.int (Sd S.wQ+1)]=Cb (V++[n+1]):=by refine U C.wN (U C.wQ (U Zf (U Ab (U (Hq _ _) ?_))));rfl
  let rs:=T.map (re X)
  let y:Y3:=((),S,(gi rs,Cb (lo++[0]),Cb (V++[n+1]),()),())
  let h:H3:=(s,(),(Ia n (.int (-1)),Ia (X.length+1) (.int 0),()),())
  have a:LD n X lo rs y:=⟨Kd Q,by lia,C.lo',λv e=>by
   obtain⟨i,V,rfl⟩:=Gj e;have:=DX C.vs' V;rw[getElem!_pos X i V]at this;exact this,C.wQ,C.wP,C.wO,rfl⟩
  have lt:Sd y.ca.wQ=.ofNat n:=by show Sd S.wQ=_;exact U C.wQ (U Zf (U Ab rfl))
  have lw:Sd y.ca.wP=.ofNat X.length:=by show Sd S.wP=_;exact U C.wP (U Zf rfl)
  have l:∀(R:Type) m h k,eC (R:=R) y m h k=kg (uy y) (Cb (Ka n)) m h k:=λR m h k=>by
   unfold eC;refine U lt ?_;exact wg (by lia) _
  have t:∀(R:Type) m h k,fC (R:=R) 5000 y m h k=kg (tB 5000 y) (Cb (Ka lo.length)) m h k:=λR m h k=>by
   unfold fC;refine U lw (U C.lo' ?_);exact wg (by lia) _
  have O:∀(R:Type) m h k,iC (R:=R) 5000 y m h k=kg (vy 5000 y) (Cb (Ka (X.length+1))) m h k:=λR m h k=>by
   unfold iC;refine U lw ?_;exact wg (n:=X.length+1) (by lia) _
  have start:∀(R:Type) k,Ly (R:=R) 5000 S s k=eC y (Y,Y,()) h λr=>Fw.rec (λm h=>fC 5000 y (Y,Y,()) h λr=>Fw.rec (λm h=>iC 5000 y (m.1,()) h λr=>Fw.rec (λm h=>k (.bool Z) h.st [XO y h]) (λw h=>k w h.st [XO y h]) r) (λw h=>k w h.st [XO y h]) r) (λw h=>k w h.st [XO y h]) r:=λR k=>by
   unfold Ly;refine(rH C _).trans (U E ((Lb (zl [])).trans ((ji rfl).trans ((RR C I A _).trans (U ey (U eh ?_))))));refine(Db (Kc (by refine U (wc _) (U Ha (U C.lo' ?_));show X.length+1<_;lia))).trans ((Db (Kc (by refine U (wc _) (U Ha (U C.hi' ?_));show X.length+1<_;lia))).trans ?_);have e:Sd (gi rs)=.ofNat n:=by exact U (Pu _) (U Ln (U (ya _) (U A rfl)))
   have f:Sd (Cb (lo++[0]))=.ofNat (X.length+1):=by refine U Zf (U Ha (U C.lo' ?_));rfl
   unfold nN;exact U e (U f ((eO (by lia) _).trans (eO (by lia) _)))
  subst A;unfold chk at c;rw[Qe (Ka _),Ab,xP,xP,Qe lo]at c;refine aa λf=>(dp c λq c1 c=>?_);obtain⟨p1,p2⟩:=VE a (ms:=T) (b:=b) (h:=h) (m:=(Y,Y,())) rfl (λk L=>bc.mp L) I c1;refine f ?_
  induction F:q.1 with
  |false=>
   rw[F]at c;refine aa λf=>?_;obtain⟨⟨P,as,D⟩,e⟩:=ZF c;have e:=mH e;obtain⟨g,u,v⟩:=p2 F _ as (D.out.trans (Gc W.l (Il P))) (by refine U (ya _) ?_;exact D.js4) D.ats (D.len.trans (ya _));exact f (U e (⟨g,[XO y ((h.wX q.2.2).putS g)],.no u,λR k=>(start R k).trans ((l R _ _ _).trans (v R _))⟩))
  |true=>
   rw[F]at c;refine aa λf=>?_;obtain⟨m1,e1⟩:=p1 F;refine dp (show H (MM y.wM y.wO (Cb (Ka lo.length)) (h.wX q.2.2).pl) _=J Z from c) λG c2 c=>?_;obtain⟨p3,p4⟩:=lJ a rfl (h:=h.wX q.2.2) (m:=(Y,Y,())) (λk L=>bc.mp L) c2;refine f ?_
   induction L:G.1 with
   |false=>
    rw[L]at c;refine aa λf=>?_;obtain⟨⟨P,as,D⟩,e⟩:=ZF c;have e:=mH e;obtain⟨g,u,v⟩:=p4 L P as ⟨D.out,D.js4,C.lo'▸D.lt,D.ats,D.len.trans (ya _)⟩ T b I;exact f (U e (⟨g,[XO y (((h.wX q.2.2).wX G.2.2).putS g)],.no u,λR k=>(start R k).trans ((l R _ _ _).trans ((e1 R _).trans ((t R _ _ _).trans (v R _))))⟩))
   |true=>
    rw[L]at c;refine aa λf=>?_;obtain⟨m2,D⟩:=p3 L;have c:TL (Cb (Ka T.length)) y.wM y.wO y.wN lo V rs (Ka (X.length+1)) G.2.2=J Z:=c;have e:=UL c;obtain⟨m3,P,ns,K,I3,v⟩:=QO a C.vs' rfl N e (os:=Ka (X.length+1)) (o:=0) (b:=b) (h:=(h.wX q.2.2).wX G.2.2) (m:=(m2.1,())) (ns:=T) (x:=Z) (by exact U Ab (U QF rfl)) (by exact U Ab (U (kh _) rfl)) (by refine U a.wQ ?_;exact c) (Ko.start N) I (by refine U Ab ?_;lia);refine f (U (show Ym lo V (T.map (re X)) []=Z from e) ?_);exact⟨P.st,[XO y P],.yes K (I3.mono (by refine U Ab ?_;lia)),λR k=>(start R k).trans ((l R _ _ _).trans ((e1 R _).trans ((t R _ _ _).trans ((D R _).trans ((O R _ _ _).trans (v R _))))))⟩
 ·have e:Ym lo V (T.map (re X)) []=ua:=by
   induction z:Ym lo V (T.map (re X)) []with
   |false=>rfl|true=>
    obtain⟨a,F,c⟩:=tu.mp z;refine zc (ai.mpr λi d=>?_) E;have d:=bc.mp d;have:=c i _ _ (vc (C.lo'.symm▸d)) (vc (C.hi'.symm▸d));exact U (Og _ _) λh=>zc (Nl h) (Wi.mpr (v5.mpr (Za this.1 this.2)))
  obtain⟨u,D⟩:=yz I (rs:=[]) rfl (by decide) (λs=>c2.wR ((),S,[]) (s,(),())) (w:=.t []) rfl;refine U e (⟨_,[],.no u,λR k=>(rH C _).trans ((Lb (zl _)).trans ((Db ?_).trans (D R _)))⟩)
  induction z:(Ka X.length).filter λi=>Ph (.ofNat V[i]!) (.ofNat lo[i]!)using ma with
  |nil=>exact zc z E|cons=>rfl
end
section
variable {n b:Nat} {T lo V X:List Nat} {S:xr} {s:Ff}
theorem sU(C:MK n T lo V S)(B:AR T lo V)(I:SI X b s)(c:X.length=n)(d:X≠[])(f:b+40<=4000):∃a j,KF T lo V X b a (Ym lo V (X.map (re T)) [])/\∀(R:Type) k,BH (R:=R) 5000 S s k=k (Ym lo V (X.map (re T)) []) a j:=by
 refine aa λg=>?_;obtain⟨a,j,A,e⟩:=mU C B I c d f;refine g (⟨a,j,A,λR k=>?_⟩);refine(Db (by refine U (Og _ _) ?_;exact decide_eq_true (Ar (by decide) (wf _)):Ph (-1) (Sd s.trail)=Z)).trans ((e R _).trans ((Lb rfl).trans ?_))
 induction Ym lo V (X.map (re T)) []<;>rfl
end
theorem Ag{d R:Type}{g:W->(List W->Option R)->Option R}{w:d->W}{f:d->List W}:{c:List d}->(∀a∈c,∀k,g (w a) k=k (f a))->∀k,ze g (c.map w) k=k (c.flatMap f):=by
 intro c
 induction c with
 |nil=>
  rintro _ k;exact rfl
 |cons x c a=>
  rintro h k;exact(h x sa _).trans (a (λv e=>h v (oa _ e)) _)
def Tw(t:List Nat):W:=.t (Cb t)
def Pr(m:Nat)(ts:List (List Nat)):List (List Nat):=ts.flatMap λt=>(Mb m).map λu=>t++[u]
def Sy(X:List Nat):List (List Nat):=X.foldl (λts m=>Pr m ts) [[]]
theorem wz{m:Nat}(c:Mk m):∀a:List (List Nat),(Pr m a).length<=3*a.length:=by
 intro a
 induction a with
 |nil=>
  exact Gb _
 |cons t a d=>
  show(((Mb m).map λu=>t++[u])++Pr m a).length<=_
  have:=Oj c;have:=d;refine U Ha (U (ya _) (U mc ?_))
  lia
theorem cO:∀{X:List Nat}{ts:List (List Nat)}{t:List Nat},t∈X.foldl (λts m=>Pr m ts) ts↔∃p,p∈ts/\∃q,Yy X q/\t=p++q:=by
 intro X
 induction X with
 |nil=>
  rintro ts t;exact⟨λh=>⟨t,h,[],⟨rfl,λy y y h=>(ja h)⟩,(Wb t).symm⟩,λa=>by
   obtain⟨p,h,q,F,e⟩:=a;refine aa λc=>?_;cases jg.mp F.len;refine c ?_;refine U e (U (Wb _) ?_);exact h⟩
 |cons m X d=>
  rintro ts t;exact(d (ts:=Pr m ts)).trans ⟨λa=>by
   obtain⟨p,h,q,F,e⟩:=a;refine aa λc=>?_;obtain⟨f,g,i⟩:=ou.mp h;obtain⟨u,j,rfl⟩:=Rb.mp i;refine c ?_;exact⟨f,g,u::q,.cons j F,by refine U e (U (Dc _ _ _) ?_);rfl⟩,λa=>by
   obtain⟨p,h,q,F,e⟩:=a;refine aa λc=>?_
   induction q using ma with
   |nil=>refine c ?_;exact zc F.len.symm (Zb _)|cons u q=>refine c ?_;exact⟨p++[u],ou.mpr ⟨p,h,Rb.mpr ⟨u,F.tail.1,rfl⟩⟩,q,F.tail.2,by refine U e (U (Dc _ _ _) ?_);rfl⟩⟩
theorem Xn{X t:List Nat}:t∈Sy X↔Yy X t:=cO.trans ⟨λa=>by obtain⟨p,h,q,F,e⟩:=a;cases Ra.mp h;refine U e ?_;exact F,λh=>⟨[],Nm _,t,h,rfl⟩⟩
theorem Bn{c d:Type}{f:c->d}:{a:List c}->(a.flatMap λx=>[f x])=a.map f:=by
 intro a
 induction a with
 |nil=>
  exact rfl
 |cons x a e=>
  exact Gc (λy=>f x::y) (e)
theorem YM{m:Nat}(d:Mk m){c:List (List Nat)}(j:c.length<=9)(g:∀t∈c,t.length<=3){a:Option W}{h:ub}{u:Unit}{R:Type}(k:List W×Option W×Unit->Unit->Option R):Fv (.l (Lw m)) (c.map Tw,a,()) h u k=k ((Pr m c).map Tw,J (.l (Lw m)),()) u:=by
 have l:=Oj d;refine(Db (Kc (by refine U (ya _) ?_;lia))).trans ((Ag (f:=λt=>(Mb m).map λu=>Tw (t++[u])) (λt i o=>?_) _).trans ?_)
 ·refine(Yr (by unfold Lw;refine U (wc _) ?_;lia) _).trans ?_
  unfold Lw;refine U (Od _) ((Ag (f:=λu=>[Tw (t++[u])]) (λu p e=>?_) _).trans (by exact U Bn rfl));refine(Db (Kc (by refine U Ha (U (wc _) ?_);have:=g t i;show _+1<_;lia))).trans ?_;unfold Tw;refine U (Hq _ _) ?_;rfl
 ·have e:(c.flatMap λt=>(Mb m).map λu=>Tw (t++[u]))=(Pr m c).map Tw:=by
   unfold Pr;refine U List.map_flatMap ?_;exact Gc (λf=>c.flatMap f) (funext λt=>by refine U Qd ?_;rfl)
  refine U e ?_;exact Db (Kc (by refine U (ya _) ?_;have:=wz d c;lia))
theorem gD:∀{ms:List Nat}{ts:List (List Nat)}{j:Nat}{a:Option W},(∀m∈ms,Mk m)->j+ms.length<=3->ts.length<=3^j->(∀t∈ts,t.length=j)->∃b,∀(R:Type) k,mh (λv m h k=>Fv (R:=R) v m [] h k) (ms.map λm=>W.l (Lw m)) (ts.map Tw,a,()) () k=k ((ms.foldl (λts m=>Pr m ts) ts).map Tw,b,()) ():=by
 intro ms
 induction ms with
 |nil=>
  rintro ts j a _ _ _ _;exact⟨a,λR k=>rfl⟩
 |cons m ms g=>
  rintro ts j a c i d f;rw[mc]at i;have l:ts.length<=9:=Za d (by
   exact CI (n:=3) (by decide) (by lia:j<=2))
  obtain⟨b,e⟩:=g (ts:=Pr m ts) (j:=j+1) (a:=J (.l (Lw m))) (λx h=>c x (oa _ h)) (by lia) (Za (wz (c m sa) ts) (by refine U (F5 _ _) (U (JD _ _) ?_);exact AI 3 d)) (λt h=>by
   obtain⟨p,o,h⟩:=ou.mp h;obtain⟨u,_,rfl⟩:=Rb.mp h;refine U Ha (U (f p o) ?_);rfl)
  exact⟨b,λR k=>((λR k=>YM (c m sa) l (λt h=>by refine U (f t h) ?_;lia) k:∀(R:Type) k,Fv (R:=R) (.l (Lw m)) (ts.map Tw,a,()) [] () k=k ((Pr m ts).map Tw,J (.l (Lw m)),()) ()) R λm h=>mh (λv m h k=>Fv v m [] h k) (ms.map λm=>W.l (Lw m)) m h k).trans (e R k)⟩
theorem kL{m:Nat}:Hd (.l (Lw m))=Z:=mf _
theorem bw{b:Type}{f:b->W}:{a:List b}->(∀x∈a,Hd (f x)=Z)->Ob (a.map f)=Z:=by
 intro a
 induction a with
 |nil=>
  rintro _;exact rfl
 |cons x a c=>
  rintro h;exact Aa.mpr ⟨h x sa,c λy d=>h y (oa _ d)⟩
theorem uI{ms:List Nat}(b:∀m∈ms,Mk m)(d:ms.length<=3):LQ [.l (ms.map λm=>.l (Lw m))]=J (.l ((Sy ms).map Tw)):=by
 refine aa λc=>?_;obtain⟨f,e⟩:=gD (ms:=ms) (ts:=[[]]) (j:=0) (a:=Y) b (by lia) (by decide) λt h=>by refine U (Ra.mp h) ?_;rfl
 refine c ((Db (Aa.mpr ⟨bw λm u=>kL,rfl⟩:Ob [W.l (ms.map λm=>.l (Lw m))]=Z)).trans ((s7 W _ _).trans ?_));exact(Yr (by refine U (ya _) ?_;lia) _).trans (e W _)
noncomputable abbrev io:=Nat×Nat×Nat
noncomputable def Ie(r:io):W:=.t [.int (.ofNat r.1),.int (.ofNat r.2.1),.int (.ofNat r.2.2)]
noncomputable def Yv(t:List Nat)(r:io):Bool:= !ac (t.count r.1) r.2.1&& !ac r.2.2 (t.count r.1)
theorem sI{r:io}{R:Type}(k:W->W->W->Option R):qI (Ie r) k=k (.int (.ofNat r.1)) (.int (.ofNat r.2.1)) (.int (.ofNat r.2.2)):=rfl
theorem LN{t:List Nat}(g:t.length<=3){a:List io}(c:a.length<=9){R:Type}(k:Bool->Option R):KN (Tw t) (.l (a.map Ie)) k=k (a.all (Yv t)):=by
 refine(Yr (by refine U (ya _) ?_;lia) _).trans ((Ag (f:=λr=>Cb (if Yv t r then[]else[r.1])) (λr c b=>?_) _).trans ?_)
 ·refine(sI _).trans ?_
  refine(Db (Kc (by refine U (wc _) ?_;lia))).trans ?_;refine(Ch (p:=λu=>Ub u r.1) (λi d b=>Lb rfl) _).trans ((Db (Kc (by refine U (wc _) ?_;exact ib (Qb _ _) (by lia)))).trans ((Lb rfl).trans ?_));have e:(t.filter λu=>Ub u r.1).length=t.count r.1:=by
   refine U List.count_eq_length_filter ?_;exact Gc (λf=>(t.filter f).length) (funext λu=>by
    induction z:Ub u r.1 with
    |true=>exact(beq_iff_eq.mpr (Uc z)).symm|false=>exact(Ys.mpr λh=>Fg z (beq_iff_eq.mp h)).symm)
  refine U Zf (U e ?_);show M (!ac (t.count r.1) r.2.1) (M (!(!ac r.2.2 (t.count r.1))) (b [.int (.ofNat r.1)]) (b [])) (b [.int (.ofNat r.1)])=_
  unfold Yv
  induction ac (t.count r.1) r.2.1<;>induction ac r.2.2 (t.count r.1)<;>rfl
 ·have e:(a.flatMap λr=>Cb (if Yv t r then[]else[r.1]))=Cb ((a.filter λr=> !Yv t r).map λx=>x.1):=by
   clear c
   induction a with
   |nil=>rfl|cons r a d=>
    refine U gL (U d (U Ri ?_))
    induction Yv t r<;>rfl
  refine U e ?_;refine(Db (Kc (by refine U (wc _) (U (ya _) ?_);exact ib (Qb _ _) (by lia)))).trans ((Lb (zl _)).trans (Gc k ?_));refine U List.isEmpty_map ?_;clear e c
  induction a with
  |nil=>rfl|cons r a d=>
   refine U Ri (U yA ?_)
   induction Yv t r with
   |true=>exact d|false=>rfl
theorem Nu{t:List Nat}:Hd (Tw t)=Z:=mf _
theorem JV{t:List Nat}(b:t.length<=3){a:List io}(c:a.length<=9):IV [Tw t,.l (a.map Ie)]=J (.bool (a.all (Yv t))):=by
 exact(Db (Aa.mpr ⟨Nu,Aa.mpr ⟨bw λr u=>rfl,rfl⟩⟩:Ob [Tw t,W.l (a.map Ie)]=Z)).trans ((t7 W _ _ _).trans (LN b c _))
theorem EQ:∀{a:List Nat}{ts:List (List Nat)},(∀m∈a,Mk m)->(a.foldl (λts m=>Pr m ts) ts).length<=ts.length*3^a.length:=by
 intro a
 induction a with
 |nil=>
  rintro ts _;exact U HR (U (Nat.pow_zero _) (U (Nat.mul_one _) (Gb _)))
 |cons m a b=>
  rintro ts h;exact Za (b (ts:=Pr m ts) λx c=>h x (oa _ c)) (U mc (U (F5 _ _) (U (JD (3^a.length) 3) (Ed (Nat.mul_assoc _ _ _) (AI _ (JD _ _▸wz (h m sa) ts))))))
theorem EF{a:List Nat}(b:∀m∈a,Mk m)(c:a.length<=3):(Sy a).length<=27:=Za (EQ b) (by
 refine U Ii (U (qac _) ?_);exact CI (by decide) c)
def yn(ms:List Nat)(rs:List io):List (List Nat):=(Sy ms).filter λt=>rs.all (Yv t)
theorem ry{b c:Type}{f:b->c}{p:b->Bool}:{a:List b}->(a.flatMap λx=>if p x then[f x]else[])=(a.filter p).map f:=by
 intro a
 induction a with
 |nil=>
  exact rfl
 |cons x a d=>
  refine U gL (U d (U Ri ?_))
  induction p x<;>rfl
theorem eY{b:List Nat}(d:∀m∈b,Mk m)(c:b.length<=3){a:List io}(e:a.length<=9){R:Type}(k:List W->Option R):P5 (b.map λm=>.l (Lw m)) (a.map Ie) k=k ((yn b a).map Tw):=by
 have g:=EF d c;refine(Db rfl).trans ((Lb (uI d c)).trans ((Yr (by refine U (ya _) ?_;lia) _).trans ((Ag (f:=λt=>if a.all (Yv t)then[Tw t]else[]) (λt h j=>?_) _).trans ?_)))
 ·have i:t.length<=3:=by refine U ((Xn.mp h).len) ?_;exact c
  refine(Db rfl).trans ((Lb (JV i e)).trans ?_)
  induction a.all (Yv t)<;>rfl
 ·refine U ry ?_
  exact Db (Kc (by refine U (ya _) ?_;exact ib (Qb _ _) (by lia)))
section
variable {t:List Nat} {l h:Nat} {a:io}
theorem uV:∀b∈ye,∀i∈il,i<b.length->∀u∈il,Ub (zi b u) i=Ub u b[i]! :=by decide+kernel
theorem ay{b:List Nat}(c:b∈ye){i:Nat}(d:i<b.length):{t:List Nat}->(∀u∈t,u∈il)->(t.map (zi b)).count i=t.count b[i]! :=by
 intro t
 induction t with
 |nil=>exactλy=>rfl|cons u t e=>
  intro h;have j:=(th b c).2.2.1;have f:i∈il:=by
   have:i<=2:=by lia
   exact lD this
  refine Ed mq (Ed mq ?_);show M (Ub (zi b u) i) (nc (jp i (t.map (zi b)))) (jp i (t.map (zi b)))=M (Ub u b[i]!) (nc (jp b[i]! t)) (jp b[i]! t)
  exact U (uV b c i f d u (h u sa)) (U mq (U mq (U (e λw g=>h w (oa _ g)) rfl)))
theorem lU{r:io}:Yv t r=Z↔r.2.1<=t.count r.1/\t.count r.1<=r.2.2:=by
 unfold Yv;rw[Ad,Se,Se,<-lu,<-lu,ud,ud,Ud,Ud]
inductive Jj:List Nat->List Nat->List Nat->List io->Prop
 |r1 (v l1 h1 l2 h2:Nat):Jj [v] [max l1 l2] [min h1 h2] [(v,l1,h1),(v,l2,h2)]|s1 (v l h:Nat):Jj [v] [l] [h] [(v,l,h)]|r2 (v w l1 h1 l2 h2 g:Nat):Jj [v,w] [max l1 l2,0] [min h1 h2,g] [(v,l1,h1),(w,0,g),(v,l2,h2)]|s2 (v w l h g:Nat):Jj [v,w] [l,0] [h,g] [(v,l,h),(w,0,g)]
theorem W6{d:List Nat}:CK [l] [h] d↔l<=d.count 0/\d.count 0<=h:=⟨λc=>c 0 l h rfl rfl,λc i a b e f=>by
 induction i using Sa with
 |zero=>obtain rfl:=ba e;obtain rfl:=ba f;exact c|succ i=>exact ja e⟩
theorem X6{m g:Nat}{d:List Nat}:CK [l,m] [h,g] d↔(l<=d.count 0/\d.count 0<=h)/\m<=d.count 1/\d.count 1<=g:=⟨λc=>⟨c 0 l h rfl rfl,c 1 m g rfl rfl⟩,λc i a b e f=>by
 induction i using Sa with
 |zero=>obtain rfl:=ba e;obtain rfl:=ba f;exact c.1|succ i=>induction i using Sa with|zero=>obtain rfl:=ba e;obtain rfl:=ba f;exact c.2|succ i=>exact ja e⟩
theorem XR{b:List io}:b.all (Yv t)=Z↔∀r∈b,r.2.1<=t.count r.1/\t.count r.1<=r.2.2:=md.trans (forall_congr' λr=>imp_congr_right λu=>lU)
theorem N5{P:io->Prop}:(∀r∈[a],P r)↔P a:=⟨λh=>h a sa,λh=>Ac.mpr ⟨h,λu z=>(Tb z).elim⟩⟩
theorem dY{P:io->Prop}{b:io}:(∀r∈[a,b],P r)↔P a/\P b:=Ac.trans (and_congr_right λu=>N5)
theorem mm{b d e f c:Nat}:((b<=c/\c<=d)/\e<=c/\c<=f)↔max b e<=c/\c<=min d f:=by
 exact U (propext qbh) (U (propext Nat.le_min) (⟨λh=>⟨⟨h.1.1,h.2.1⟩,h.1.2,h.2.2⟩,λh=>⟨⟨h.1.1,h.2.1⟩,h.1.2,h.2.2⟩⟩))
theorem dr{b lo d:List Nat}{e:List io}(T:Jj b lo d e)(f:b∈ye)(i:∀u∈t,u∈il):e.all (Yv t)=Z↔CK lo d (t.map (zi b)):=by
 have c:0<b.length->(t.map (zi b)).count 0=t.count b[0]! :=λh=>ay f h i;have j:1<b.length->(t.map (zi b)).count 1=t.count b[1]! :=λh=>ay f h i;refine XR.trans ?_;cases T with
 |r1 v k m n o=>exact dY.trans (mm.trans (c qad▸W6.symm))|s1 v l h=>exact N5.trans (c qad▸W6.symm)|r2 v w k m n o g=>exact Ac.trans ((and_congr_right λy=>dY).trans ((and_left_comm.trans (and_comm.trans (and_congr_left λy=>mm))).trans (j (pd 1)▸c qae▸X6.symm)))|s2 v w l h g=>exact dY.trans (j (pd 1)▸c qae▸X6.symm)
end
section
variable {X:List Nat} {R:Type}
def lE(X t:List Nat):Bool:=((Ka t.length).filter λi=> !Ye t[i]! (Mb X[i]!)).isEmpty
theorem pB{t:List Nat}(b:t.length=X.length):lE X t=Z↔Yy X t:=by
 unfold lE;refine U (propext Be) (U (propext ai) ?_);refine⟨λh=>⟨b,λi r x d c=>?_⟩,λF i a=>?_⟩
 ·have a:i<t.length:=(wb.mp c).1
  have:=h i (bc.mpr a);cases (vc a).symm.trans c;cases (vc (b▸a)).symm.trans d;rw[Se]at this;exact nf.mp (Bool.not_eq_false _▸this)
 ·have a:=bc.mp a
  exact U (nf.mpr (F.mem i _ _ (vc (b▸a)) (vc a))) ia
theorem UG{b:Nat}{s:Ff}(I:SI X b s)(g:X.length<=3)(c:ub)(k:List W->Option R):Dy c s.wL k=k (X.map λm=>W.l (Lw m)):=by
 have e:Sd s.wL=.ofNat X.length:=by exact U (show s.wL=X.map Dn from I.wL) (U Ln rfl)
 unfold Dy;refine U e ((wg (by lia) _).trans (U (Od _) ?_));refine(Ag (f:=λi=>[W.l (Lw X[i]!)]) (λi a j=>?_) _).trans ?_
 ·have a:=bc.mp a
  have d:=vc a;exact(qp I d _).trans ((Db rfl).trans (MV c _ (I.all _ (Ma d))))
 ·have e:((Ka X.length).flatMap λi=>[W.l (Lw X[i]!)])=X.map λm=>W.l (Lw m):=by
   refine U Bn (ft λi=>?_);refine U Ec (U Ec ?_);by_cases h:i<X.length
   ·refine U (bf h) (U (vc h) ?_);rfl
   ·refine U (Rc (by rw[Ab];lia)) (U (Rc (by lia)) ?_);rfl
  refine U e ?_;exact Db (Kc (by refine U (ya _) ?_;lia))
theorem pZ{t:List Nat}{a:ub}(k:W->Option R):PN (Tw t) a k=k (.int (.ofNat t.length)):=by
 show k (.int (jb (len (Cb t))))=_
 exact U (Qe _) (U (wc _) rfl)
theorem ET(l:X.length<=3){a:List (List Nat)}(d:∀t∈a,t.length=X.length)(n:a.length<=27)(e:ub)(k:List W->Option R):SW e (X.map λm=>W.l (Lw m)) (a.map Tw) k=k ((a.filter (lE X)).map Tw):=by
 refine(Db (Kc (by refine U (ya _) ?_;lia))).trans ((Ag (f:=λt=>if lE X t then[Tw t]else[]) (λt c o=>?_) _).trans ?_)
 ·have g:=d t c
  refine(pZ _).trans ((Lb rfl).trans ?_);refine(wg (by lia) _).trans ((Ch (p:=λi=> !Ye t[i]! (Mb X[i]!)) (λi b h=>?_) _).trans ?_)
  ·have b:=bc.mp b
   have j:Jg (X.map λm=>W.l (Lw m)) (.ofNat i)=J (.l (Lw X[i]!)):=yp (f:=λm=>W.l (Lw m)) (vc (g▸b));exact(Lb (Kg (vc b):Jg (Cb t) (.ofNat i)=J (.int (.ofNat t[i]!)))).trans ((Lb j).trans (Lb OG))
  ·refine(Db (Kc (by refine U (wc _) ?_;exact ib (Qb _ _) (by refine U Ab ?_;lia)))).trans ((Lb (zl _)).trans ?_)
   show M (lE X t) _ _=_
   induction lE X t<;>rfl
 ·refine U ry ?_
  exact Db (Kc (by refine U (ya _) ?_;exact ib (Qb _ _) (by lia)))
end
theorem zy:∀is:List Int,Dl (is.map W.int)=J is:=by
 intro is
 induction is with
 |nil=>
  exact rfl
 |cons i is a=>
  exact Gc (λo:Option (List Int)=>(J i).bind λi=>o.map λx=>i::x) (a)
theorem vV:∀m∈Rm,(il.filter λu=>Ye u (Mb m))=Mb m:=by decide+kernel
theorem RL{m:Nat}(c:m∈Rm){is:List Nat}(h:∀u∈il,u∈Mb m↔u∈is):(Hg (is.map jb)).map W.int=Lw m:=by
 have e:Hg (is.map jb)=(Mb m).map jb:=by
  show(il.map jb).filter (λk=>(is.map jb).contains k)=_
  refine U List.filter_map (Ed (vV m c) ?_)
  congr 1
  refine fL λu d=>(Fh.mpr (U (propext nf) (U (propext (h u d)) (U (propext fo) (U (propext Rb) ?_)))));exact⟨λb=>by obtain⟨a,f,e⟩:=b;exact Ju e▸f,λh=>⟨u,h,rfl⟩⟩
 exact U e (U Qd ((Od _).symm))
theorem Y0{is:List Nat}(h:∀u∈is,u∈il)(b:ub):qax .set [.l (Cb is)] b=J (.iset (is.map jb)):=by
 have a:((is.map jb).all λi=>decide (0<=i)&&decide (i<=2))=Z:=by
  refine U (propext md) ?_;intro i c;obtain⟨u,d,rfl⟩:=Rb.mp c;exact V3.all (P:=λu=>(decide (0<=jb u)&&decide (jb u<=2))=Z) (by decide) (V3.mem' (h u d))
 show(((Dl (Cb is)).bind pX).map λw=>(w,b)).map oj=_
 refine U (by rw[Od,Qd];rfl:Cb is=(is.map jb).map W.int) (U (zy _) ?_);show(((Ge _).map _).map _).map _=_
 refine U a ?_;rfl
theorem GS{c:List Nat}(y:c.length<=3)(q:∀k,k<c.length->c[k]! ∈Rm){l:List W}(s:l.length=c.length){g:List (List Nat)}(z:g.length<=27)(n:∀t∈g,t.length=c.length/\∀u∈t,u∈il)(v:∀k,k<c.length->∀u∈il,u∈Mb c[k]! ↔∃t,t∈g/\t[k]! =u)(r:ub){R:Type}(k:List W->Option R):jG r l (g.map Tw) k=k (c.map λm=>W.l (Lw m)):=by
 have e:Sd l=.ofNat c.length:=by unfold Sd;exact U (Qe _) (U s rfl)
 unfold jG;refine U e ((wg (by lia) _).trans (U (Od _) ?_));refine(Ag (f:=λi=>[W.l (Lw c[i]!)]) (λi j A=>?_) _).trans ?_
 ·have j:=bc.mp j
  refine(Db (Kc (by refine U (ya _) ?_;lia))).trans ((Ag (f:=λt=>[W.int (.ofNat t[i]!)]) (λt d w=>?_) _).trans ?_)
  ·have a:Jg (Cb t) (.ofNat i)=J (.int (.ofNat t[i]!)):=Kg (vc (by refine U ((n t d).1) ?_;exact j))
   exact Lb a
  ·have x:∀u∈g.map λt=>t[i]!,u∈il:=λu o=>by
    obtain⟨t,d,rfl⟩:=Rb.mp o;exact(n t d).2 _ (zn (by refine U ((n t d).1) ?_;exact j))
   refine U (by rw[Bn,Od,Qd];rfl:(g.flatMap λt=>[W.int (.ofNat t[i]!)])=Cb (g.map λt=>t[i]!)) ?_;refine(Db (Kc (by refine U (wc _) (U (ya _) ?_);lia))).trans ((Lb (Y0 x r)).trans ((Lb rfl).trans ((Lb (Gc J (RL (q i j) λu o=>(v i j u o).trans ⟨λp=>by obtain⟨t,a,b⟩:=p;exact Rb.mpr ⟨t,a,b⟩,λh=>(Rb.mp h).imp λt h=>h⟩:(Hg ((g.map λt=>t[i]!).map jb)).map W.int=Lw c[i]!))).trans (Db (Kc ?_)))));unfold Lw;refine U (wc _) ?_;have:=Oj (Mk.mem' (q i j))
   lia
 ·have e:((Ka c.length).flatMap λi=>[W.l (Lw c[i]!)])=c.map λm=>W.l (Lw m):=by
   refine U Bn (ft λi=>?_);refine U Ec (U Ec ?_);by_cases h:i<c.length
   ·refine U (bf h) (U (vc h) ?_);rfl
   ·refine U (Rc (by rw[Ab];lia)) (U (Rc (by lia)) ?_);rfl
  refine U e ?_;exact Db (Kc (by refine U (ya _) ?_;lia))
def dL(m:Nat):Vf:=.list ((Mb m).map λu=>.int (.ofNat u))
theorem b7{m:Nat}:Mk m->Zd 5 (.l (Lw m))=J (dL m)/\Yc (dL m) (dL m)=Z:=Mk.all (P:=λm=>Zd 5 (.l (Lw m))=J (dL m)/\Yc (dL m) (dL m)=Z) (by and_intros<;>kernel_rfl)
theorem yY:{e:List Nat}->(∀m∈e,Mk m)->Oe (Zd 5) (e.map λm=>W.l (Lw m))=J (e.map dL)/\yd (e.map dL) (e.map dL)=Z:=by
 intro e
 induction e with
 |nil=>
  rintro _;exact⟨rfl,by rw[gt,yd]⟩
 |cons m e f=>
  rintro h;refine aa λg=>?_;obtain⟨a,b⟩:=b7 (h m sa);obtain⟨c,d⟩:=f λx i=>h x (oa _ i);refine g ?_;refine⟨?_,?_⟩
  ·show(Zd 5 (.l (Lw m))).bind _=_
   refine U a ?_;refine U c ?_;rfl
  ·rw[Vb,yd,b,d];rfl
theorem vM{a:List Nat}(h:∀m∈a,Mk m):rk (.l (a.map λm=>W.l (Lw m))) (.l (a.map λm=>W.l (Lw m)))=J Z:=by
 obtain⟨c,d⟩:=yY h;show((Oe (Zd 5) (a.map λm=>W.l (Lw m))).map zD).bind (λx=>((Oe (Zd 5) (a.map λm=>W.l (Lw m))).map zD).map λy=>Yc x y)=_
 refine U c ?_;show J (Yc _ _)=_
 rw[Yc,d]
theorem nM:∀b:List (List Nat),∃c,Oe (Zd 5) (b.map Tw)=J c:=by
 intro b
 induction b with
 |nil=>
  exact⟨[],rfl⟩
 |cons t b f=>
  obtain⟨c,h⟩:=f;have e:∀a:List Nat,Oe (Zd 4) (Cb a)=J (a.map λu=>qg (.ofNat u)):=λa=>by
   refine U (Od _) ?_
   induction a with
   |nil=>rfl|cons x a f=>exact Gc (λo:Option (List Vf)=>(J (qg (.ofNat x))).bind λd=>o.map λx=>d::x) f
  refine⟨.tuple (t.map λu=>qg (.ofNat u))::c,?_⟩;show((Oe (Zd 4) (Cb t)).map BA).bind _=_
  refine U (e _) ?_;refine U h ?_;rfl
theorem Ky(a:List (List Nat)):rk (.l (a.map Tw)) (.l [])=J a.isEmpty:=by
 obtain⟨b,h⟩:=nM a;refine(tz h).trans ?_
 induction a using ma<;>rfl
section
variable {V lo Q:List Nat}
theorem ZT(a:V∈ye){m:Nat}(c:m∈Rm){o:Nat}:o∈Mb (re V m)↔∃u,u∈Mb m/\zi V u=o:=by
 refine aa λg=>?_;obtain⟨i,d,k⟩:=Iw V a _ c;refine g ?_;refine⟨λh=>?_,λw=>?_⟩
 ·have:=d o (Vj _ (oa _ i) _ h)
  rw[nf.mpr h]at this;exact Rb.mp (nf.mp this.symm)
 ·obtain⟨u,h,e⟩:=w
  have f:=(th V a);have j:o∈il:=by
   have:=(f.1 u (Vj _ (oa _ c) _ h)).1;have:o<=2:=by have:=f.2.2.1;lia
   exact lD this
  exact nf.mp ((d o j).trans (nf.mpr (Rb.mpr ⟨u,h,e⟩)))
theorem BG(i:V∈ye):{X xs:List Nat}->(∀m∈X,m∈Rm)->(Yy (X.map (re V)) xs↔∃t,Yy X t/\t.map (zi V)=xs):=by
 intro X
 induction X with
 |nil=>
  intro xs z;exact⟨λF=>⟨[],⟨rfl,λy y y h=>(ja h)⟩,by cases jg.mp F.len;rfl⟩,λc=>by
   refine aa λa=>?_;obtain⟨t,F,e⟩:=c;cases jg.mp F.len;subst e;refine a ?_;clear a;exact⟨rfl,λy y y h=>(ja h)⟩⟩
 |cons m X c=>
  intro xs d;have f:=λxs=>c (xs:=xs) λx h=>d x (oa _ h);have g:=λo=>ZT i (d m sa) (o:=o);refine⟨λF=>?_,λw=>?_⟩
  ·induction xs using ma with
   |nil=>exact zc F.len.symm (Zb _)|cons x xs=>
    refine aa λa=>?_;obtain⟨u,j,e⟩:=(g x).mp F.tail.1;obtain⟨t,G,k⟩:=(f xs).mp F.tail.2;refine a ?_;clear a;exact⟨u::t,.cons j G,by exact U Vb (U e (U k rfl))⟩
  ·refine aa λa=>?_
   obtain⟨t,F,e⟩:=w
   induction t using ma with
   |nil=>refine a ?_;clear a;exact zc F.len.symm (Zb _)|cons u t=>
    refine a ?_;clear a;subst e;exact .cons ((g _).mpr ⟨u,F.tail.1,rfl⟩) ((f _).mpr ⟨t,F.tail.2,rfl⟩)
theorem zM(a:V∈ye){X:List Nat}(c:∀m∈X,m∈Rm):Ym lo Q (X.map (re V)) []=Z↔∃t,Yy X t/\CK lo Q (t.map (zi V)):=tu.trans ⟨λ⟨d,F,C⟩=>by
 obtain⟨t,G,e⟩:=(BG a c).mp F;exact⟨t,G,e▸C⟩,(by rintro⟨t,F,C⟩;exact⟨_,(BG a c).mpr ⟨t,F,rfl⟩,C⟩)⟩
theorem Yy.v3{X t:List Nat}(c:∀m∈X,m∈Rm)(F:Yy X t):∀u∈t,u∈il:=λu d=>by
 obtain⟨i,Q,rfl⟩:=Gj d;have a:i<X.length:=F.len▸Q;exact Vj _ (oa _ (c _ (mu a))) _ (F.mem i _ _ (Wa a) (Wa Q))
theorem pY:∀u∈il,Ki u∈Rm:=by decide
theorem kZ(o:V∈ye){X:List Nat}(v:∀m∈X,m∈Rm){k:Nat}(d:k<X.length){u:Nat}(j:u∈il):(u∈Mb X[k]! /\TW V lo Q X k u=Z)↔∃t,(Yy X t/\CK lo Q (t.map (zi V)))/\t[k]! =u:=by
 have e:(X.map (re V)).set k (Ki (zi V u))=(X.set k (Ki u)).map (re V):=by exact U U3 (U (((th V o).1 u j).2) rfl)
 have l:∀{t},(u∈Mb X[k]! /\Yy (X.set k (Ki u)) t)↔Yy X t/\t[k]! =u:=λ{t}=>by
  refine⟨λw=>?_,λw=>?_⟩
  ·obtain⟨a,F⟩:=w
   have p:t.length=X.length:=F.len.trans yb;have g:=vc (p▸d:k<t.length);have h:=F.mem k _ _ (je d) g;rw[nA u j]at h;have q:=Ra.mp h;refine⟨⟨p,λi r x c f=>?_⟩,q⟩;by_cases z:k=i
   ·subst z
    cases g.symm.trans f;cases (vc d).symm.trans c;exact U q a
   ·exact F.mem i r x (by refine U (Xc z) ?_;exact c) f
  ·obtain⟨F,a⟩:=w
   have g:=vc (F.len▸d:k<t.length);have h:=F.mem k _ _ (vc d) g;refine⟨a▸h,⟨F.len.trans yb.symm,λi r x c f=>?_⟩⟩;by_cases z:k=i
   ·subst z
    rw[je d]at c;obtain rfl:=ba c;cases g.symm.trans f;exact U a (U (nA u j) (Nm _))
   ·exact F.mem i r x (by rw[Xc z]at c;exact c) f
 unfold TW;exact U e (U (propext (zM o (λm h=>(dH h).elim (v m) λe=>e▸pY u j:∀m∈X.set k (Ki u),m∈Rm))) (⟨(by rintro⟨a,t,F,C⟩;exact⟨t,⟨(l.mp ⟨a,F⟩).1,C⟩,(l.mp ⟨a,F⟩).2⟩),(by rintro⟨t,⟨F,C⟩,a⟩;exact⟨(l.mpr ⟨F,a⟩).1,t,(l.mpr ⟨F,a⟩).2,C⟩)⟩))
structure Sub(X ns:List Nat):Prop where
 len:ns.length=X.length
 mem:∀k,k<X.length->∀u,u∈Mb ns[k]! ->u∈Mb X[k]!
theorem Sub.fit{X a t:List Nat}(S:Sub X a)(F:Yy a t):Yy X t:=⟨F.len.trans S.len,λi r x c d=>by
 have Q:=(wb.mp c).1;cases (vc Q).symm.trans c;exact S.mem i Q x (F.mem i _ x (vc (S.len▸Q:i<a.length)) d)⟩
variable {n b:Nat} {P X:List Nat} {O:List io} {N:xr} {s:Ff}
theorem iY(T:Jj V lo Q O)(p:V∈ye)(C:MK n V lo Q N)(B:AR V lo Q)(S:Sub P X)(L:∀m∈P,Mk m)(I:SI X b s)(hn:X.length=n)(D:X≠[])(E:X.length<=3)(hb:b+40<=4000):∃f j,(SB f\/∃g,SI g (b+36) f/\Sub X g)/\∀(R:Type) k,zL (R:=R) 5000 N s ((yn P O).map Tw) k=k (.bool Z) f j:=by
 have q:∀m∈X,m∈Rm:=λm h=>(I.all m h).mem;have v:(yn P O).length<=27:=Za (Qb _ _) (EF L (S.len▸E:P.length<=3));have G:∀t∈yn P O,t.length=X.length:=λt h=>((Xn.mp (Vc.mp h).1).len).trans S.len.symm
 let d:=(yn P O).filter (lE X)
 have mk:∀t,t∈d↔Yy X t/\CK lo Q (t.map (zi V)):=λt=>by
  refine⟨λh=>?_,λw=>?_⟩
  ·obtain⟨D,a⟩:=Vc.mp h
   have F:=(pB (G t D)).mp a;exact⟨F,(dr T p (F.v3 q)).mp (Vc.mp D).2⟩
  ·obtain⟨F,C⟩:=w
   exact Vc.mpr ⟨Vc.mpr ⟨Xn.mpr (S.fit F),(dr T p (F.v3 q)).mpr C⟩,(pB F.len).mpr F⟩
 refine aa λl=>?_;obtain⟨f,j,A,e⟩:=sU C B I hn D hb;refine l ?_;have F:Ym lo Q (X.map (re V)) []= !d.isEmpty:=by
  refine Fh.mpr ((zM p q).trans (U (Se _) (Ed (lu _) (U (propext Be) ?_))));refine⟨λw z=>?_,λh=>?_⟩
  ·obtain⟨t,h⟩:=w
   have:=(mk t).mpr h;rw[z]at this;cases this
  ·refine aa λl=>?_
   induction o:d using ma with
   |nil=>refine l ?_;exact zc o h|cons t a=>refine l ?_;exact⟨t,(mk t).mp (o▸sa)⟩
 have st:∀(R:Type) k,zL (R:=R) 5000 N s ((yn P O).map Tw) k=M d.isEmpty (k (.bool f.bad) f j) (Dy (c2.wR ((),N,j) (f,(),())) f.wL λa=>jG (c2.wR ((),N,j) (f,(),())) (X.map λm=>W.l (Lw m)) (d.map Tw) λc=>H (rk (.l a) (.l c)) λr=>k (.bool r) f j):=λR k=>by
  refine(UG I E _ _).trans ((ET E G v _ _).trans ((e R _).trans ((Lb (Ky d)).trans ?_)));exact(ji (by refine U F ?_;induction d.isEmpty<;>rfl:(Ym lo Q (X.map (re V)) []!= !d.isEmpty)=ua)).trans (Lb (Ky d))
 generalize Ym lo Q (X.map (re V)) []=x at A F;refine aa λl=>?_;cases A with
 |no a=>
  refine l ?_;have w:d.isEmpty=Z:=by revert F;induction d.isEmpty with|true=>exactλy=>rfl|false=>exactλh=>(zc h ia)
  exact⟨f,j,.inl a,λR k=>(st R k).trans ((Db w).trans (by exact U a.bad rfl))⟩
 | @yes g K c=>
  refine l ?_;have w:d.isEmpty=ua:=by revert F;induction d.isEmpty with|true=>exactλh=>(zc h.symm ia)|false=>exactλy=>rfl
  refine⟨f,j,.inr ⟨g,c,(⟨K.len,λk o u i=>((K.mem k o u (Vj _ (oa _ (K.msk k o)) _ i)).mp i).1⟩:Sub X g)⟩,λR k=>(st R k).trans ((ji w).trans ?_)⟩;have z:g.length<=3:=K.len▸E;refine(UG c z _ _).trans ((GS z (λk h=>K.msk k (K.len▸h):∀k,k<g.length->g[k]! ∈Rm) (by exact U (ya _) (U K.len rfl)) (Za (Qb _ _) v:d.length<=27) (λt h=>⟨((mk t).mp h).1.len.trans K.len.symm,((mk t).mp h).1.v3 q⟩) (λk o u i=>?_) _ _).trans (Lb (vM c.all)));have r:k<X.length:=K.len▸o;refine(K.mem k r u i).trans (qdp ⟨(by rintro⟨a,b⟩;exact⟨a,b ((λu i=>Rg ((th V p).1 u i).1:∀u∈il,zi V u<V.length+1) u i)⟩),(by rintro⟨a,b⟩;exact⟨a,λy=>b⟩)⟩ ((kZ p q r i).trans ?_));exact⟨(by rintro⟨t,h,e⟩;exact⟨t,(mk t).mpr h,e⟩),(by rintro⟨t,h,e⟩;exact⟨t,(mk t).mp h,e⟩)⟩
end
section
variable {R:Type} {s:Ff} {m:Nat}
section
variable {X:List Int}
theorem sh(X:List Int)(j:Nat){w:Nat}(a:0<w):∃z,z<w/\∀(R:Type) k,qk (R:=R) (X.map W.int) (.ofNat j) (.ofNat w) k=k (.ofNat z) (.ofNat (j+1)):=by
 have b:Ph (Sd (X.map W.int)) (jb j+1)=decide (X.length<=j):=by
  exact U Ln (U (Og _ _) (decide_eq_decide.mpr ⟨λh=>Qf (oi.mp h),λh=>oi.mpr (Rg h)⟩))
 by_cases h:X.length<=j
 ·exact⟨0,a,λR k=>Db (b.trans (decide_eq_true h))⟩
 ·have c:=mL.mp h
  have p:(0:Int)<(w:Int):=oi.mpr a;have e:=Int.fmod_lt_of_pos X[j] p;refine⟨(X[j].fmod w).toNat,by omega,λR k=>(ji (b.trans (decide_eq_false h))).trans ?_⟩;have d:jb (X[j].fmod w).toNat=X[j].fmod w:=EK (Int.fmod_nonneg_of_pos X[j] p);refine U d ?_;exact(Lb ((TK _ _:(jb j+1 - 1)=jb j).symm▸yp (Wa c):Jg (X.map W.int) (jb j+1 - 1)=J (.int X[j]))).trans ((Lb rfl).trans (Lb (fe (Int.ne_of_gt p):Nz X[j] (.ofNat w)=J (X[j].fmod w))))
theorem aO(X:List Int):∀(a:List W)(j:Nat),∃b:List Nat,(∀m∈b,Mk m)/\b.length=a.length/\∀(R:Type) k,nk (bH (R:=R) (X.map W.int)) a (.ofNat j) k=k (Cb b) (.ofNat (j+a.length)):=by
 intro a
 induction a with
 |nil=>
  rintro j;exact⟨[],λu h=>((Tb h).elim),rfl,λR k=>rfl⟩
 |cons w a c=>
  rintro j;refine aa λd=>?_;obtain⟨z,l,e⟩:=sh X j (w:=7) (by decide);obtain⟨b,f,g,i⟩:=c (j+1);refine d (⟨(1+z)::b,λm h=>(fb.mp h).elim (λh=>h▸Mk.of (Nc 1 z) (by lia)) (f m),Gc nc g,λR k=>?_⟩);refine U (by rw[mc];lia:j+(w::a).length=j+1+a.length) ?_;exact(e R _).trans (i R _)
end
theorem RN{a:List Nat}(b:∀m∈a,Mk m)(c:a.length<=3)(k:List W->Option R):QN (Cb a) k=k (a.map λm=>.l (Lw m)):=by
 refine(Db (Kc (by refine U (wc _) ?_;lia))).trans ?_;refine U (Od _) ((Ag (f:=λm=>[W.l (Lw m)]) (λm h d=>WT _ (b m h)) _).trans (U Bn ?_));exact Db (Kc (by refine U (ya _) ?_;lia))
def ZC(ds:List Nat):Ff:=(ds.map Dn,ds.map Dn,[],[],([],[]),-1,ua,[],())
theorem tF{a:List Nat}(h:∀m∈a,Mk m):SI a 0 (ZC a):=⟨h,rfl,zr h,rfl,rfl,rfl,rfl,Gb _,Gb _,Gb _,rfl⟩
theorem zH(h:Jf (Wg s).fs=Z):oe [Wg s]=Z:=Aa.mpr ⟨h,rfl⟩
theorem Cm{o:OF}(h:Jf (Wg s).fs=Z)(a:Jf o.fs=Z):oe [Wg s,o]=Z:=Aa.mpr ⟨h,Aa.mpr ⟨a,rfl⟩⟩
theorem qq{X:List W}(h:Hd (.t X)=Z):wl m (.t X)=J (.t X):=by
 show(Ge (Hd (.t X))).map _=_
 refine U h ?_;rfl
theorem sM{X:List W}(h:Hd (.l X)=Z):wl m (.l X)=J (.l X):=by
 show(Ge (Hd (.l X))).map _=_
 refine U h ?_;rfl
theorem OZ{a:Nat}{b:List Nat}(c:Mk a)(e:∀d∈b,Mk d)(n:b.length<=3)(k:List W->Ff->Option R):Ap m (.l (Lw a)) (ZC b) k=k [.int (.ofNat b.length)] (ZC (b++[a])):=by
 have j:rk (Dn a) (.t [])=J ua:=(uM (Mk.all (P:=λa=>a<=7) (by decide) c)).trans (Gc J (Mk.all (P:=λa=>Ub a 0=ua) (by decide) c));have f:ZC (b++[a])=((ZC b).1++[Dn a],(ZC b).2.1++[Dn a],(ZC b).2.2):=by unfold ZC;refine U IR ?_;rfl
 have l:Sd ((ZC b).1++[Dn a]) - 1=.ofNat b.length:=by
  unfold Sd;refine U (Qe _) (U Ha (U (ya _) ?_));exact(TK (jb b.length) 1:jb b.length+1 - 1=_)
 have g:Jd 4096 (ZC b).1=Z:=Kc (by show(b.map Dn).length<_;refine U (ya _) ?_;lia);refine(Db rfl).trans ((Lb (HV c)).trans ((Db rfl).trans ((Lb (qq (Iu c))).trans ((Db (zH (tF e).plain)).trans ((Db rfl).trans ((Db g).trans ((Db rfl).trans ((Db g).trans ((Lb j).trans ((ji rfl).trans ?_))))))))));have i:=(tF (λd h=>(Xb.mp h).elim (e d) λh=>Ra.mp h▸c:∀d∈b++[a],Mk d)).plain;rw[f]at i;exact U f (Ed l ((Db rfl).trans ((Db (zH i)).trans (Db rfl))))
theorem gU:{ms ds:List Nat}->(∀x∈ms,Mk x)->(∀x∈ds,Mk x)->ds.length+ms.length<=3->∀{R:Type}(k:List W->Ff->Option R),nk (Ap m) (ms.map λm=>W.l (Lw m)) (ZC ds) k=k (Cb (NF ds.length ms.length)) (ZC (ds++ms)):=by
 intro ms
 induction ms with
 |nil=>
  rintro ds _ _ _ R k;refine U (Wb _) ?_;rfl
 |cons a ms g=>
  rintro ds c e i R k;have f:=c a sa;rw[mc]at i;have st:nk (Ap m) ((a::ms).map λm=>W.l (Lw m)) (ZC ds) k=Ap m (.l (Lw a)) (ZC ds) λa h=>nk (Ap m) (ms.map λm=>W.l (Lw m)) h λb h=>k (a++b) h:=rfl;refine U st (U (OZ f e (by lia) _:Ap m (.l (Lw a)) (ZC ds) (λa h=>nk (Ap m) (ms.map λm=>W.l (Lw m)) h λb h=>k (a++b) h)=nk (Ap m) (ms.map λm=>W.l (Lw m)) (ZC (ds++[a])) λb h=>k ([.int (.ofNat ds.length)]++b) h) (U ((λk=>g (ds:=ds++[a]) (λx h=>c x (oa _ h)) (λd h=>(Xb.mp h).elim (e d) λh=>Ra.mp h▸f) (by rw[Ha,Ii];lia) (R:=R) k) _) (U Ha (U (Dc _ _ _) ?_))))
  rfl
end
theorem V3.all2{P:Nat->Nat->Prop}(b:P 0 0/\P 1 0/\P 2 0)(X:P 0 1/\P 1 1/\P 2 1)(V:P 0 2/\P 1 2/\P 2 2){m u:Nat}(a:V3 m)(c:V3 u):P m u:=
 V3.all (P:=λu=>P m u) ⟨V3.all (P:=λm=>P m 0) b a,V3.all (P:=λm=>P m 1) X a,V3.all (P:=λm=>P m 2) V a⟩ c
noncomputable def qdL(rs:List io):List W:=[.t (rs.map λr=>.int (.ofNat r.1)),.t (rs.map λr=>.int (.ofNat r.2.1)),.t (rs.map λr=>.int (.ofNat r.2.2))]
def Rk(n:Nat)(rs:List io)(q:ER):BK:=(Cb (Ka n),rs.map λr=>.int (.ofNat r.1),rs.map λr=>.int (.ofNat r.2.1),rs.map λr=>.int (.ofNat r.2.2),q,ua)
section
variable {R:Type} {m:Nat} {Q:ub} {k:BK->Option R} {n v l h T X S V g:Nat}
theorem IU:V3 n->V3 v->Uo m ([(v,l,h)].map Ie) (Cb (Ka (n+1))) Q k=k (Rk (n+1) [(v,l,h)] ([.int (.ofNat v)],[.int (max (.ofNat l) 0)],[.int (.ofNat h)],())):=
 V3.all2 (P:=λn v=>Uo m ([(v,l,h)].map Ie) (Cb (Ka (n+1))) Q k=k (Rk (n+1) [(v,l,h)] ([.int (.ofNat v)],[.int (max (.ofNat l) 0)],[.int (.ofNat h)],()))) (by and_intros<;>kernel_rfl) (by and_intros<;>kernel_rfl) (by and_intros<;>kernel_rfl)
theorem GU:V3 n->V3 v->Uo m ([(v,T,X),(v,S,V)].map Ie) (Cb (Ka (n+1))) Q k=k (Rk (n+1) [(v,T,X),(v,S,V)] ([.int (.ofNat v)],[.int (max (max (.ofNat T) 0) (max (.ofNat S) 0))],[.int (min (.ofNat X) (.ofNat V))],())):=
 V3.all2 (P:=λn v=>Uo m ([(v,T,X),(v,S,V)].map Ie) (Cb (Ka (n+1))) Q k=k (Rk (n+1) [(v,T,X),(v,S,V)] ([.int (.ofNat v)],[.int (max (max (.ofNat T) 0) (max (.ofNat S) 0))],[.int (min (.ofNat X) (.ofNat V))],()))) (by and_intros<;>kernel_rfl) (by and_intros<;>kernel_rfl) (by and_intros<;>kernel_rfl)
noncomputable def Xv(v:Nat):Nat:=Sa v 1 λv=>Sa v 2 λu=>0
theorem JU:V3 n->V3 v->Uo m ([(v,l,h),(Xv v,0,g)].map Ie) (Cb (Ka (n+1))) Q k=k (Rk (n+1) [(v,l,h),(Xv v,0,g)] ([.int (.ofNat v),.int (.ofNat (Xv v))],[.int (max (.ofNat l) 0),.int (max 0 0)],[.int (.ofNat h),.int (.ofNat g)],())):=
 V3.all2 (P:=λn v=>Uo m ([(v,l,h),(Xv v,0,g)].map Ie) (Cb (Ka (n+1))) Q k=k (Rk (n+1) [(v,l,h),(Xv v,0,g)] ([.int (.ofNat v),.int (.ofNat (Xv v))],[.int (max (.ofNat l) 0),.int (max 0 0)],[.int (.ofNat h),.int (.ofNat g)],()))) (by and_intros<;>kernel_rfl) (by and_intros<;>kernel_rfl) (by and_intros<;>kernel_rfl)
theorem HU:V3 n->V3 v->Uo m ([(v,T,X),(Xv v,0,g),(v,S,V)].map Ie) (Cb (Ka (n+1))) Q k=k (Rk (n+1) [(v,T,X),(Xv v,0,g),(v,S,V)] ([.int (.ofNat v),.int (.ofNat (Xv v))],[.int (max (max (.ofNat T) 0) (max (.ofNat S) 0)),.int (max 0 0)],[.int (min (.ofNat X) (.ofNat V)),.int (.ofNat g)],())):=
 V3.all2 (P:=λn v=>Uo m ([(v,T,X),(Xv v,0,g),(v,S,V)].map Ie) (Cb (Ka (n+1))) Q k=k (Rk (n+1) [(v,T,X),(Xv v,0,g),(v,S,V)] ([.int (.ofNat v),.int (.ofNat (Xv v))],[.int (max (max (.ofNat T) 0) (max (.ofNat S) 0)),.int (max 0 0)],[.int (min (.ofNat X) (.ofNat V)),.int (.ofNat g)],()))) (by and_intros<;>kernel_rfl) (by and_intros<;>kernel_rfl) (by and_intros<;>kernel_rfl)
end
theorem NO{v:Nat}(h:[v]∈ye):V3 v:=by
 rcases(by simpa [ye]using h:v=0\/v=1\/v=2)with rfl|rfl|rfl
 ·exact .v0
 ·exact .v1
 ·exact .v2
theorem HQ{v w:Nat}(h:[v,w]∈ye):V3 v/\w=Xv v:=by
 rcases(by simpa [ye]using h:(v=0/\w=1)\/(v=1/\w=2)\/v=2/\w=0)with⟨rfl,rfl⟩|⟨rfl,rfl⟩|⟨rfl,rfl⟩
 ·exact⟨.v0,rfl⟩
 ·exact⟨.v1,rfl⟩
 ·exact⟨.v2,rfl⟩
theorem JJ(a:Nat):max (jb a) 0=.ofNat a:=Int.max_eq_left (wf a)
theorem AZ(a b:Nat):max (jb a) (.ofNat b)=.ofNat (max a b):=by show max (a:Int) b=((max a b:Nat):Int);omega
theorem FZ(a b:Nat):min (jb a) (.ofNat b)=.ofNat (min a b):=by show min (a:Int) b=((min a b:Nat):Int);omega
section
variable {n:Nat} {V lo S:List Nat} {X:List io}
theorem FU(T:Jj V lo S X)(a:V∈ye)(b:V3 n):∃q,MK (n+1) V lo S (Sx (Rk (n+1) X q))/\∀(R:Type) m c k,Uo (R:=R) m (X.map Ie) (Cb (Ka (n+1))) c k=k (Rk (n+1) X q):=by
 have d:n+1<=3:=V3.all (P:=λn=>n+1<=3) (by decide) b;cases T with
 |r1 v e f i j=>exact⟨_,⟨d,a,rfl,rfl,rfl,rfl,by
  show[W.int (max (max (jb e) 0) (max (jb i) 0))]=_
  refine U (JJ _) (U (JJ _) (U (AZ _ _) ?_));rfl,by
  show[W.int (min (jb f) (jb j))]=_
  refine U (FZ _ _) ?_;rfl⟩,λR m c k=>GU b (NO a)⟩
 |s1 v l h=>exact⟨_,⟨d,a,rfl,rfl,rfl,rfl,by
  show[W.int (max (jb l) 0)]=_
  refine U (JJ _) ?_;rfl,rfl⟩,λR m c k=>IU b (NO a)⟩
 |r2 v w e f i j g=>
  obtain⟨o,rfl⟩:=HQ a;exact⟨_,⟨d,a,rfl,rfl,rfl,rfl,by
   show[W.int (max (max (jb e) 0) (max (jb i) 0)),W.int (max 0 0)]=_
   refine U (JJ _) (U (JJ _) (U (AZ _ _) ?_));rfl,by
   show[W.int (min (jb f) (jb j)),W.int (jb g)]=_
   refine U (FZ _ _) ?_;rfl⟩,λR m c k=>HU b o⟩
 |s2 v w l h g=>
  obtain⟨o,rfl⟩:=HQ a;exact⟨_,⟨d,a,rfl,rfl,rfl,rfl,by
   show[W.int (max (jb l) 0),W.int (max 0 0)]=_
   refine U (JJ _) ?_;rfl,rfl⟩,λR m c k=>JU b o⟩
theorem UT{ms:List Nat}(c:∀m∈ms,Mk m)(b:ms.length=n+1)(T:Jj V lo S X)(d:V∈ye)(f:V3 n):∃q,MK (n+1) V lo S (Sx (Rk (n+1) X q))/\∀(R:Type) a m k,yt (R:=R) a m (ms.map λm=>.l (Lw m)) (X.map Ie) k=k (ZC ms) (Rk (n+1) X q):=by
 refine aa λg=>?_;obtain⟨q,C,e⟩:=FU T d f;refine g ?_;have i:=C.n3;refine⟨q,C,λR a m k=>(Db (Kc (by refine U (ya _) ?_;lia))).trans ?_⟩;refine((λk=>gU (m:=m) (ms:=ms) (ds:=[]) c (λu h=>((Tb h).elim)) (by refine U b ?_;exact Za (Fd (kh _)) i) (R:=R) k) _).trans ?_;refine U b (U (show NF ([]:List Nat).length (n+1)=Ka (n+1)from QF.symm) ?_);exact(Db (Kc (by refine U (wc _) (U Ab ?_);lia))).trans (e R m _ _)
end
noncomputable def dT(t:List Nat):Vf:=.tuple (t.map λu=>.int (.ofNat u))
theorem aT(a b:Nat):Yc (.int (.ofNat a)) (.int (.ofNat b))=decide (a=b):=by
 exact U uz (U (vp _ _) (decide_eq_decide.mpr ⟨Ju,Gc _⟩))
theorem mB(t u:List Nat):yd (t.map λu=>.int (.ofNat u)) (u.map λu=>.int (.ofNat u))=decide (t=u):=match t,u with
 |[],[]=>by rw[gt,yd];rfl|[],y::z=>by rw[gt,Vb,yd];rfl|y::z,[]=>by rw[gt,Vb,yd];rfl|a::t,b::u=>by
  rw[Vb,Vb,yd,aT,mB t u,<-Bool.decide_and];exact decide_eq_decide.mpr (List.cons_eq_cons).symm
theorem rq(t u:List Nat):Yc (dT t) (dT u)=decide (t=u):=by
 unfold dT;rw[Yc,mB]
theorem nG(t:List Nat):Zd 5 (Tw t)=J (dT t):=by
 have e:∀a:List Nat,Oe (Zd 4) (Cb a)=J (a.map λu=>qg (.ofNat u)):=λa=>by
  refine U (Od _) ?_
  induction a with
  |nil=>rfl|cons x a b=>exact Gc (λo:Option (List Vf)=>(J (qg (.ofNat x))).bind λd=>o.map λx=>d::x) b
 show(Oe (Zd 4) (Cb t)).map BA=_
 refine U (e _) ?_;rfl
theorem ky:∀a:List (List Nat),Oe (Zd 5) (a.map Tw)=J (a.map dT):=by
 intro a
 induction a with
 |nil=>
  exact rfl
 |cons t a b=>
  show(Zd 5 (Tw t)).bind (λd=>(Oe (Zd 5) (a.map Tw)).map λx=>d::x)=_
  refine U (nG _) (U b ?_);rfl
theorem YY(t:List Nat)(a:List (List Nat)):DA (Tw t) (.l (a.map Tw))=J (decide (t∈a)):=by
 show(Zd 5 (Tw t)).bind (λe=>(Oe (Zd 5) (a.map Tw)).map λb=>b.any λd=>Yc d e)=_
 refine U (nG _) (U (ky _) ?_);show J ((a.map dT).any λd=>Yc d (dT t))=_
 refine Gc J ?_
 induction a with
 |nil=>rfl|cons u a b=>
  refine U Vb (U bq (U b (U (rq _ _) (Ed (Bool.decide_or _ _) ?_))));exact decide_eq_decide.mpr (by refine U (propext fb) ?_;exact or_congr_left eq_comm)
theorem ZS(a b c d:List Nat):rk (.t [.str "cardinality",Tw a,Tw b,Tw c,Tw d]) (.t [.str "cardinality",Tw a,Tw b,Tw c,Tw d])=J Z:=by
 have f:Zd 5 (.str "cardinality")=J (.str "cardinality"):=by kernel_rfl
 have e:Zd 6 (.t [.str "cardinality",Tw a,Tw b,Tw c,Tw d])=J (.tuple [.str "cardinality",dT a,dT b,dT c,dT d]):=by
  show((Zd 5 (.str "cardinality")).bind λx=>(Oe (Zd 5) ([a,b,c,d].map Tw)).map λy=>x::y).map BA=_
  refine U f (U (ky _) ?_);rfl
 show(Zd 6 (.t [.str "cardinality",Tw a,Tw b,Tw c,Tw d])).bind (λx=>(Zd 6 (.t [.str "cardinality",Tw a,Tw b,Tw c,Tw d])).map λy=>Yc x y)=_
 refine U e ?_;show J (Yc _ _)=_
 have z:Yc (.str "cardinality") (.str "cardinality")=Z:=qbi _ (by kernel_rfl);rw[Yc,yd,yd,yd,yd,yd,yd,z,rq,rq,rq,rq,decide_eq_true rfl,decide_eq_true rfl,decide_eq_true rfl,decide_eq_true rfl];rfl
noncomputable def Xh(f:io->Nat)(X:List io):List W:=X.map λr=>.int (.ofNat (f r))
theorem lp(f:io->Nat)(X:List io):Xh f X=Cb (X.map f):=by refine U (Od _) (U Qd ?_);rfl
theorem ui{n:Nat}{S lo V:List Nat}{X:List io}{q:ER}(C:MK n S lo V (Sx (Rk n X q))):Jf (Io (Rk n X q)).fs=Z/\Jf (Vh (Rk n X q)).fs=Z:=by
 have w:Ob q.1=Z:=(Gc Ob C.wP).trans (mf _);have l:Ob q.2.1=Z:=(Gc Ob C.wO).trans (mf _);have h:Ob q.2.2.1=Z:=(Gc Ob C.wN).trans (mf _);have t:Ob (Cb (Ka n))=Z:=mf _;have a:∀f:io->Nat,Ob (Xh f X)=Z:=λf=>lp f X▸mf _;have e:((Ob (Cb (Ka n))&&(Z&&(Ob (Cb (Ka n))&&((Ob (Xh (λx=>x.1) X)&&(Ob (Xh (λx=>x.2.1) X)&&(Ob (Xh (λx=>x.2.2) X)&&Z)))&&(Ob q.1&&(Ob q.2.1&&(Ob q.2.2.1&&(Z&&Z)))))))):Bool)=Z:=by
  refine U w (U l (U h (U t (U (a _) (U (a _) (U (a _) ?_))))));rfl
 exact⟨e,e⟩
section
variable {n:Nat} {S lo V:List Nat} {X:List io} {q:ER}
theorem ZJ{R:Type}(T:Jj S lo V X){a:ub}(k:List W->Option R):iG (X.map Ie) a k=k [.t (Xh (λx=>x.1) X),.t (Xh (λx=>x.2.1) X),.t (Xh (λx=>x.2.2) X)]:=by
 cases T with
 |r1 v b c d e=>kernel_rfl|s1 v l h=>kernel_rfl|r2 v w b c d e g=>kernel_rfl|s2 v w l h g=>kernel_rfl
theorem EU{R:Type}(c:V3 n){b:ub}(k:List W->Option R):M (ED 0 (.ofNat (n+1))) (H (fu (.rng 0 (.ofNat (n+1))) b) λa=>M (Jd 4096 a) (k a) Y) Y=k (Cb (Ka (n+1))):=
 V3.all (P:=λn=>M (ED 0 (.ofNat (n+1))) (H (fu (.rng 0 (.ofNat (n+1))) b) λa=>M (Jd 4096 a) (k a) Y) Y=k (Cb (Ka (n+1)))) (by and_intros<;>kernel_rfl) c
noncomputable abbrev qY(a b:List W):W:=.t ([.str "cardinality",.t a]++b)
abbrev o4(X:List io):List W:=[.t (Xh (λx=>x.1) X),.t (Xh (λx=>x.2.1) X),.t (Xh (λx=>x.2.2) X)]
theorem LU(T:Jj S lo V X)(e:V3 n)(C:MK (n+1) S lo V (Sx (Rk (n+1) X q)))(a:ub){R:Type}(k:Bool->Option R):BC (Rk (n+1) X q) (X.map Ie) (.ofNat (n+1)) a k=k ua:=by
 have f:oe [Io (Rk (n+1) X q)]=Z:=Aa.mpr ⟨(ui C).1,rfl⟩;have g:Hd (qY (Cb (Ka (n+1))) (o4 X))=Z:=by
  show(Ob (Cb (Ka (n+1)))&&(Ob (Xh (λx=>x.1) X)&&(Ob (Xh (λx=>x.2.1) X)&&(Ob (Xh (λx=>x.2.2) X)&&Z))))=Z
  refine U (lp _ _) (U (lp _ _) (U (lp _ _) (U (mf _) (U (mf _) (U (mf _) (U (mf _) ?_))))));rfl
 have h:rk (qY (Cb (Ka (n+1))) (o4 X)) (qY (Cb (Ka (n+1))) (o4 X))=J Z:=by
  delta qY o4
  exact U (lp _ _) (U (lp _ _) (U (lp _ _) (ZS (Ka (n+1)) _ _ _)))
 have st:BC (Rk (n+1) X q) (X.map Ie) (.ofNat (n+1)) a k=M (oe [Io (Rk (n+1) X q)]) (M (Hd (qY (Cb (Ka (n+1))) (o4 X))) (M (ED 0 (.ofNat (n+1))) (H (fu (.rng 0 (.ofNat (n+1))) a) λc=>M (Jd 4096 c) (iG (X.map Ie) a λd=>M (Jd 4096 d) (M (Jd 4096 ([.str "cardinality",.t c]++d)) (H (rk (qY (Cb (Ka (n+1))) (o4 X)) (qY c d)) λb=>k (!b)) Y) Y) Y) Y) Y) Y:=by kernel_rfl
 exact U st ((Db f).trans ((Db g).trans ((EU e _).trans ((ZJ T _).trans ((Db rfl).trans ((Db rfl).trans (Lb h)))))))
theorem Zx(u:Nat)(t:List Nat):(t.map jb).count (jb u)=t.count u:=match t with
 |[]=>rfl|a::t=>by
  refine U Vb (U Ww (U Ww (U (Zx u t) ?_)));by_cases z:a=u
  ·exact U (Dd (beq_iff_eq.mpr (Gc jb z))) (U (Dd (beq_iff_eq.mpr z)) rfl)
  ·exact U (fe λh=>z (Ju (beq_iff_eq.mp h))) (U (fe λh=>z (beq_iff_eq.mp h)) rfl)
theorem iM{t:List Nat}{u:Nat}{a:ub}:J4 (.l (Cb t)) "count" [.int (.ofNat u)] a=J (.int (.ofNat (t.count u))):=by
 have e:Dl (Cb t)=J (t.map jb):=by
  exact U (Od _) ((Gc Dl (Qd (f:=jb) (g:=W.int) (l:=t)).symm).trans (zy _))
 show(((Dl (Cb t)).map λis=>W.int (is.count (jb u))).map λw=>(w,a)).map oj=_
 refine U e ?_;show J (W.int ((t.map jb).count (jb u)))=_
 refine U (Zx _ _) ?_;rfl
theorem rD(X:List io):((Xh (λx=>x.1) X).zip ((Xh (λx=>x.2.1) X).zip (Xh (λx=>x.2.2) X))).map (λp=>W.t [p.1,p.2.1,p.2.2])=X.map Ie:=match X with|[]=>rfl|r::X=>Gc (λx=>Ie r::x) (rD X)
theorem lV{t:List Nat}(b:t.length<=3){r:io}{a:ub}{m:mW}{h:Unit×Unit}{R:Type}(k:Fw mW (Unit×Unit)->Option R):rt (Tw t) a (Ie r) m h k=M (Yv t r) (k (.go (J (.int (.ofNat r.1)),J (.int (.ofNat r.2.1)),J (.int (.ofNat r.2.2)),()) h)) (k (.ret (.bool ua) h)):=by
 have s:Jd 4096 (Cb t)=Z:=Kc (by refine U (wc _) ?_;omega);refine(sI _).trans ((Lb rfl).trans ((Db s).trans ((Db rfl).trans ((Lb iM).trans ((Lb rfl).trans ((Lb rfl).trans ?_))))));show M (!ac (t.count r.1) r.2.1) (M (!(!ac r.2.2 (t.count r.1))) _ _) _=_
 unfold Yv
 induction ac (t.count r.1) r.2.1<;>induction ac r.2.2 (t.count r.1)<;>rfl
theorem aD{t:List Nat}(a:t.length<=3){σ:ub}{h:Unit×Unit}{R:Type}(k:W->Option R)(X:List io)(m:mW):kg (rt (Tw t) σ) (X.map Ie) m h (λq=>Fw.rec (λu u=>k (.bool Z)) (λw u=>k w) q)=k (.bool (X.all (Yv t))):=match X,m with
 |[],m=>rfl|r::X,m=>by
  have b:=λm=>aD a (σ:=σ) (h:=h) k X m;have st:kg (rt (R:=R) (Tw t) σ) ((r::X).map Ie) m h (λq=>Fw.rec (λu u=>k (.bool Z)) (λw u=>k w) q)=rt (Tw t) σ (Ie r) m h λq=>Fw.rec (λm h=>kg (rt (Tw t) σ) (X.map Ie) m h λq=>Fw.rec (λu u=>k (.bool Z)) (λw u=>k w) q) (λw h=>k w) q:=rfl;refine U st (U (lV a _) (U yA ?_))
  induction Yv t r with
  |true=>exact b _|false=>rfl
theorem SL{t:List Nat}(a:t.length<=3)(e:X.length<=9){R:Type}(k:W->Option R):oz (Sx (Rk n X q),()) (Tw t) k=k (.bool (X.all (Yv t))):=by
 have l:∀f:io->Nat,(Xh f X).length=X.length:=λf=>ya _;have z:uA [Xh (λx=>x.1) X,Xh (λx=>x.2.1) X,Xh (λx=>x.2.2) X]=J (X.map Ie):=by
  show(Ge (decide ((Xh (λx=>x.1) X).length=(Xh (λx=>x.2.1) X).length/\(Xh (λx=>x.2.1) X).length=(Xh (λx=>x.2.2) X).length))).map _=_
  exact U (l _) (U (l _) (U (l _) (U (decide_eq_true ⟨rfl,rfl⟩) (Gc J (rD X)))))
 have b:Bl (X.map Ie)=J (X.map Ie):=by
  show(Ge (ac (X.map Ie).length 4900)).map _=_
  refine U (ya _) (U (ud.mpr (by omega)) ?_);rfl
 have st:oz (R:=R) (Sx (Rk n X q),()) (Tw t) k=H (uA [Xh (λx=>x.1) X,Xh (λx=>x.2.1) X,Xh (λx=>x.2.2) X]) λc=>H (Bl c) λd=>kg (rt (Tw t) (uW.wR (Sx (Rk n X q),()) ((),()))) d (Y,Y,Y,()) ((),()) λq=>Fw.rec (λu u=>k (.bool Z)) (λw u=>k w) q:=by kernel_rfl
 exact U st ((Lb z).trans ((Lb b).trans (aD a k X _)))
end
section
variable {R:Type} {t m x u m0:Nat} {c:OF}
variable {n:Nat} {Q lo L X:List Nat} {O V:List io} {q:ER}
theorem hU(k:Option R):ME (Rk n O q) k=k:=rfl
theorem Jj.len(T:Jj Q lo L O):O.length<=9:=by
 cases T with
 |r1=>exact gb rfl|s1=>exact gb rfl|r2=>exact gb rfl|s2=>exact gb rfl
theorem IH(d:Jj Q lo L V)(T:Jj Q lo L O)(a:Q∈ye)(e:∀m∈X,Mk m){t:List Nat}(f:t∈Sy X):V.all (Yv t)=O.all (Yv t):=by
 have v:=(Xn.mp f).v3 λm h=>(e m h).mem;exact Fh.mpr ((dr d a v).trans (dr T a v).symm)
theorem vL(a:Jj Q lo L V)(T:Jj Q lo L O)(d:Q∈ye)(e:∀m∈X,Mk m):yn X V=yn X O:=fL λt f=>IH a T d e f
theorem sP(g:Jj Q lo L V)(T:Jj Q lo L O)(i:Q∈ye)(C:MK n Q lo L (Sx (Rk n O q)))(a:∀m∈X,Mk m)(d:X.length<=3)(k:Bool->Option R):Zz m (Rk n O q) (X.map λm=>.l (Lw m)) ((yn X V).map Tw) k=k ua:=by
 have j:=EF a d;refine(Db ?_).trans ((Lb (uI a d)).trans ((Yr (by refine U (ya _) ?_;lia) _).trans ((Ag (f:=λu=>[]) (λt e p=>?_) _).trans ?_)))
 ·rfl
 ·have l:t.length<=3:=by refine U ((Xn.mp e).len) ?_;exact d
  have o:O.all (Yv t)=decide (t∈yn X V):=by
   refine Fh.mpr (qdp ?_ decide_eq_true_iff.symm);exact Ed (IH g T i a e) (⟨λh=>Vc.mpr ⟨e,h⟩,λh=>(Vc.mp h).2⟩)
  refine(Db rfl).trans ((Lb (qq Nu)).trans ((Db (Aa.mpr ⟨(ui C).1,rfl⟩:oe [Io (Rk n O q)]=Z)).trans ((hU _).trans ((SL l T.len _).trans ((Db rfl).trans ((Lb (YY t _)).trans (U o ?_)))))))
  induction decide (t∈yn X V)<;>rfl
 ·exact U (show((Sy X).flatMap λu=>([]:List W))=[]from List.flatMap_eq_nil_iff.mpr λu u=>rfl) ((Db rfl).trans (Lb (tz (xs:=[]) rfl)))
theorem Vy(a:List (List Nat)):Ob (a.map Tw)=Z:=match a with|[]=>rfl|t::a=>Aa.mpr ⟨Nu (t:=t),Vy a⟩
variable {N:List Nat} {b:Nat} {s:Ff}
theorem vC(p:Jj Q lo L V)(T:Jj Q lo L O)(h:Q∈ye)(B:AR Q lo L)(C:MK n Q lo L (Sx (Rk n O q)))(S:Sub N X)(i:∀m∈N,Mk m)(I:SI X b s)(l:X.length=n)(r:X≠[])(v:X.length<=3)(w:b+40<=4000)(y:Jf c.fs=Z){dec:Option R->Option R}(D:∀z,dec z=z)(k:Bool->Ff->Option R):
 ∃d,(SB d\/∃f,SI f (b+36) d/\Sub N f/\f.length=n)/\On 5000 m s c (Sx (Rk n O q)) dec ((yn N V).map Tw) k=k ua d:=by
 refine U (vL p T h i) (aa λz=>?_);obtain⟨d,j,A,e⟩:=iY T h C B S i I l r v w;refine z (⟨d,A.imp_right (by rintro⟨f,a,g⟩;exact⟨f,a,⟨g.len.trans S.len,λk o u E=>S.mem k o u (g.mem k (S.len▸o) u E)⟩,g.len.trans l⟩),?_⟩);refine(Lb (sM (Vy _))).trans ((Db (Cm I.plain y)).trans ((Lb rfl).trans ((D _).trans ((e R _).trans ((Db rfl).trans ((Db (Cm (A.elim SB.pl λ⟨_,a,_⟩=>a.plain:Jf (Wg d).fs=Z) (ui C).2)).trans (Lb rfl)))))))
theorem lI:∀t∈[0,1,2,3],∀m∈Rm,∀u∈il,Yh t m u∈(0::Rm)/\∀w∈il,Ye w (Mb (Yh t m u))=Z->Ye w (Mb m)=Z:=by decide+kernel
theorem S4.mem:S4 t->t∈[0,1,2,3]:=S4.all (P:=λt=>t∈[0,1,2,3]) (by decide)
theorem nU(I:SI X b s)(a:X[x]?=J m)(d:S4 t)(e:V3 u)(f:Jf c.fs=Z)(k:Bool->Option R):YB m0 [.int (.ofNat x),Ht t,.int (.ofNat u)] s c k=k (Rp (Pn m (Yh t m u)) 0):=by
 have g:Hd (.t [.int (.ofNat x),Ht t,.int (.ofNat u)])=Z:=S4.all (P:=λt=>Hd (.t [.int (.ofNat x),Ht t,.int (.ofNat u)])=Z) ⟨rfl,rfl,rfl,rfl⟩ d;refine(Db (by refine U I.bad ?_;rfl)).trans ((Lb (qq g)).trans ((Db (Cm I.plain f)).trans ((Lb rfl).trans ?_)));refine(Lb (rfl:Jg [W.int (.ofNat x),Ht t,.int (.ofNat u)] 0=J (.int (.ofNat x)))).trans ((qp I a _).trans ((Db (rfl:EA [.t [.int (.ofNat x),Ht t,.int (.ofNat u)],Dn m]=Z)).trans ((Lb (GV d (I.all m (Ma a)) e)).trans ((Db rfl).trans ((Db rfl).trans (Lb rfl))))))
theorem zY(d:S4 t)(a:Mk m)(e:V3 u)(h:Rp (Pn m (Yh t m u)) 0=Z):Mk (Yh t m u):=by
 rcases fb.mp (lI t d.mem m a.mem u e.mem).1 with z|z
 ·rw[z]at h
  exact zc h (Mk.all (P:=λm=>¬Rp (Pn m 0) 0=Z) (by and_intros<;>exactλh=>(zc h ia)) a)
 ·exact Mk.mem' z
theorem AY(I:SI X b s)(h:b+1<4000)(i:X[x]?=J m)(e:S4 t)(j:V3 u)(l:Mk (Yh t m u))(a:Jf c.fs=Z):
 ∃f,SI (X.set x (Yh t m u)) (b+2) f/\∀(R:Type) k,mM (R:=R) m0 [.int (.ofNat x),Ht t,.int (.ofNat u)] s c k=k f:=by
 have o:Hd (.t [.int (.ofNat x),Ht t,.int (.ofNat u)])=Z:=S4.all (P:=λt=>Hd (.t [.int (.ofNat x),Ht t,.int (.ofNat u)])=Z) ⟨rfl,rfl,rfl,rfl⟩ e;refine aa λp=>?_;obtain⟨y,d,r⟩:=xU I (by exact vd (by assumption));obtain⟨v,g,w⟩:=fJ d h i e j l λs=>[Wg s,c];exact p (⟨v,g,λR k=>(Db (Cm I.plain a)).trans ((r R _).trans ((Db (Cm d.plain a)).trans ((Lb (qq o)).trans ((Db (Cm d.plain a)).trans ((Lb rfl).trans ((w R _).trans (Db (Cm g.plain a))))))))⟩)
theorem RS(S:Sub N X)(f:X[x]?=J m)(i:S4 t)(j:∀m∈X,Mk m)(l:V3 u):Sub N (X.set x (Yh t m u)):=⟨yb.trans S.len,λk g w a=>by
 have d:x<X.length:=(wb.mp f).1;by_cases z:x=k
 ·subst z
  have e:(X.set x (Yh t m u))[x]! =Yh t m u:=by refine U Cc (U (je d) ?_);rfl
  rw[e]at a;have h:=lI t i.mem m (j m (Ma f)).mem u l.mem;have:=nf.mp (h.2 w (Vj _ h.1 w a) (nf.mpr a));refine S.mem x g w ?_;cases (vc d).symm.trans f;exact this
 ·have e:(X.set x (Yh t m u))[k]! =X[k]! :=by exact U Cc (U (Xc z) (Ed Cc rfl))
  rw[e]at a;exact S.mem k g w a⟩
end
section
variable {n:Nat} {Q lo P V:List Nat} {X S:List io}
def IB(x t u:Nat):List W:=[.int (.ofNat x),Ht t,.int (.ofNat u)]
theorem yC(v:Jj Q lo P S)(T:Jj Q lo P X)(j:Q∈ye)(B:AR Q lo P)(g:∀m∈V,Mk m)(k:V.length=n+1)(F:V3 n){x t u:Nat}(hx:x<n+1)(l:S4 t)(o:V3 u){R:Type}(m:Nat)(i:ub){w:Option R}{G I L p K J1 A N D:Ff->BK->Option R}
 (e0:w=yt i m (V.map λm=>.l (Lw m)) (X.map Ie) G)
 (e1:∀s c,G s c=BC c (X.map Ie) (.ofNat (n+1)) (i++[Wg s,Io c]) λr=>M r (J1 s c) (I s c))
 (e2:∀s c,I s c=Zz m c (V.map λm=>.l (Lw m)) ((yn V S).map Tw) λr=>M r (A s c) (L s c))
 (e3:∀s c,L s c=On 5000 m s (Io c) (Sx c) (ME c) ((yn V S).map Tw) λr s=>M r (N s c) (p s c))
 (e4:∀s c,p s c=YB m (IB x t u) s (Vh c) λr=>M r (mM m (IB x t u) s (Vh c) λs=>On 5000 m s (Vh c) (Sx c) (λz=>z) ((yn V S).map Tw) λr s=>M r (D s c) (K s c)) (K s c)):∃s c,w=K s c:=by
 refine aa λe=>?_;obtain⟨q,C,f0⟩:=UT g k T j F;have O:=C.n3;have W:V.length<=3:=k▸O;have ne:{b:List Nat}->b.length=n+1->b≠[]:=λh z=>by rw[z]at h;cases h
 obtain⟨f,W1,g1⟩:=vC v T j B C (⟨rfl,λy y y h=>h⟩:Sub V V) g (tF g) k (ne k) W (by decide) (m:=m) (ui C).1 (dec:=ME (Rk (n+1) X q)) (λy=>rfl) λr s=>M r (N s (Rk (n+1) X q)) (p s (Rk (n+1) X q));refine e (U (e0.trans ((f0 R _ _ _).trans ((e1 _ _).trans ((LU T F C _ _).trans ((ji rfl).trans ((e2 _ _).trans ((sP v T j C g W _).trans ((ji rfl).trans ((e3 _ _).trans (g1.trans (ji rfl)))))))))):w=p f (Rk (n+1) X q)) (U (e4 _ _) (aa λe=>?_)));rcases W1 with sb|⟨b,a,S1,l1⟩
 ·refine e ?_
  exact⟨f,_,(ji (by refine U sb.bad ?_;rfl):YB m (IB x t u) f (Vh (Rk (n+1) X q)) _=_).trans (ji rfl)⟩
 ·refine e ?_
  have d:=vc (l1▸hx:x<b.length);refine((by rintro⟨s,h⟩;exact⟨s,_,(nU a d l o (ui C).2 _).trans h⟩:(∃s,M (Rp (Pn b[x]! (Yh t b[x]! u)) 0) (mM m (IB x t u) f (Vh (Rk (n+1) X q)) λs=>On 5000 m s (Vh (Rk (n+1) X q)) (Sx (Rk (n+1) X q)) (λz=>z) ((yn V S).map Tw) λr s=>M r (D s (Rk (n+1) X q)) (K s (Rk (n+1) X q))) (K f (Rk (n+1) X q))=K s (Rk (n+1) X q))->_)) ?_
  induction he:Rp (Pn b[x]! (Yh t b[x]! u)) 0 with
  |false=>exact⟨f,rfl⟩|true=>
   refine aa λe=>?_;obtain⟨s2,A,g2⟩:=AY a (by decide) d l o (zY l (a.all _ (Ma d)) o he) (m0:=m) (ui C).2;have E:(b.set x (Yh t b[x]! u)).length=n+1:=yb.trans l1;obtain⟨s3,_,g3⟩:=vC v T j B C (RS S1 d l a.all o) g A E (ne E) (E▸O) (by decide) (m:=m) (ui C).2 (dec:=λz=>z) (λy=>rfl) λr s=>M r (D s (Rk (n+1) X q)) (K s (Rk (n+1) X q));exact e (⟨s3,(Db rfl).trans ((g2 R _).trans (g3.trans (ji rfl)))⟩)
end
section
variable {R:Type} {n v:Nat} {S lo Q T:List Nat} {X V:List io} {q:W} {xs:List Int}
theorem cV{t:Nat}:S4 t->Jg bQ (.ofNat t)=J (Ht t):=S4.all (P:=λt=>Jg bQ (.ofNat t)=J (Ht t)) ⟨rfl,rfl,rfl,rfl⟩
theorem qZ(xs:List Int)(n j:Nat):∃x t u,x<n+1/\S4 t/\V3 u/\∀(R:Type) k,d8 (R:=R) (.ofNat (n+1)) (xs.map W.int) (.ofNat j) k=k (IB x t u) (.ofNat (j+3)):=by
 obtain⟨x,b,c⟩:=sh xs j (w:=n+1) (jh n);obtain⟨t,a,d⟩:=sh xs (j+1) (w:=4) (by decide);obtain⟨u,e,f⟩:=sh xs (j+2) (w:=3) (by decide);exact⟨x,t,u,b,S4.of a,V3.of e,λR k=>(c R _).trans ((d R _).trans ((Lb (cV (S4.of a))).trans ((Db (S4.all (P:=λt=>nb (Ht t)=Z) ⟨rfl,rfl,rfl,rfl⟩ (S4.of a))).trans (f R _))))⟩
theorem qbF{K:fc->ub->Option R}{F:W->ub->Option R}{m:fc}{σ:ub}{w:W}(h:ac 13 m.length=Z):Fk.rec (motive:=λu=>Option R) (λa σ=>lk (.x 13) w a λa=>K a σ) F (.go m σ)=K (m.set 13 (J w)) σ:=by
 show M (ac 13 m.length) _ Y=_
 refine U h ?_;rfl
theorem mI(e:Jj S lo Q X)(y:Jj S lo Q V)(i:S∈ye)(B:AR S lo Q)(f:∀m∈T,Mk m)(g:T.length=n+1)(h:V3 n)(d:Int)(a:Option W)(j:Nat)(k:Fk->Option R):∃σ,Sg (Ze 5000) (rest 9) (L4 q (.int (.ofNat (n+1))) (Cb T) (T.map λm=>.l (Lw m)) (.ofNat v) d (X.map Ie) (V.map Ie) a) [wp (xs.map W.int) (.ofNat j)] k=k (.ret (.bool Z) σ):=by
 have z:n+1<=3:=V3.all (P:=λn=>n+1<=3) (by decide) h;obtain⟨x,t,u,l,o,p,A⟩:=qZ xs n j;have C:=(qcX 5000 q (xs.map W.int) (.ofNat j) k (.ofNat (n+1)) (.ofNat v) d (Cb T) (T.map λm=>.l (Lw m)) (X.map Ie) (V.map Ie) a).trans ((eY f (g▸z) e.len _).trans (A R _));refine U C (U (qcY _ _ _ _ _ _ _ _ _ _ _ _ _ _ _) ?_)
 let b:=wp (xs.map W.int) (.ofNat (j+3))
 obtain⟨s,c,D⟩:=yC e e i B f g h l o p (R:=R) 1 [b] (qfi 5000 q b _ (.ofNat (n+1)) (Cb T) _ (X.map Ie) (V.map Ie) _ _ (IB x t u) (.int (.ofNat v)) (.int d) _ a Y Y) (λs c=>qfk 5000 q b _ _ _ _ _ _ _ _ _ _ _ _ _ s c) (λs c=>qfm 5000 q b _ _ _ _ _ _ _ _ _ _ _ _ _ s c) (λs c=>qfo 5000 q b _ _ _ _ _ _ _ _ _ _ _ _ _ s c) λs c=>qfq 5000 q b _ _ _ _ _ _ _ _ _ _ _ _ _ s c;refine U D ?_;obtain⟨I,c2,E⟩:=yC e y i B f g h l o p (R:=R) 3 [b,Wg s,Vh c] (qfj 5000 q b (Wg s) (Vh c) _ (.ofNat (n+1)) (Cb T) _ (X.map Ie) (V.map Ie) _ _ (IB x t u) (.int (.ofNat v)) (.int d) _ a (J (.ref 1)) (J (.ref 2))) (λs c=>qfl 5000 q b _ _ _ _ _ _ _ _ _ _ _ _ _ _ _ s c) (λs c=>qfn 5000 q b _ _ _ _ _ _ _ _ _ _ _ _ _ _ _ s c) (λs c=>qfp 5000 q b _ _ _ _ _ _ _ _ _ _ _ _ _ _ _ s c) λs c=>qfr 5000 q b _ _ _ _ _ _ _ _ _ _ _ _ _ _ _ s c;exact⟨_,(qbF (K:=λG σ=>Sg (Ze 5000) (bt 0) G σ λr=>Fk.rec (λu σ=>k (.ret (.bool Z) σ)) (λw σ=>k (.ret w σ)) r) (F:=λw σ=>k (.ret w σ)) (m:=m1 q (.ofNat (n+1)) (Cb T) (T.map λm=>.l (Lw m)) (X.map Ie) (V.map Ie) (X.map Ie) ((yn T X).map Tw) (IB x t u) (.int (.ofNat v)) (.int d) (J (.int (0+1))) a) (σ:=[b,Wg s,Vh c]) (w:=.l (V.map Ie)) rfl).trans E⟩
end
section
variable {R:Type}
theorem J0{v:Nat}:V3 v->[v]∈ye:=V3.all (P:=λv=>[v]∈ye) (by decide)
theorem A2{v:Nat}:V3 v->[v,Xv v]∈ye:=V3.all (P:=λv=>[v,Xv v]∈ye) (by decide)
theorem SZ{v:Nat}:V3 v->Nz (.ofNat v+1) 3=J (.ofNat (Xv v)):=V3.all (P:=λv=>Nz (.ofNat v+1) 3=J (.ofNat (Xv v))) ⟨rfl,rfl,rfl⟩
theorem MO(z:Nat):(1:Int)+ .ofNat z=.ofNat (z+1):=Int.add_comm _ _
theorem mZ(q:W)(xs:List Int)(k:Fk->Option R):∃i,Sg (Ze 5000) (rest 1) (CZ q) [wp (xs.map W.int) 0] k=k (.ret (.bool Z) i):=by
 refine aa λp=>?_;obtain⟨n,j,z⟩:=sh xs 0 (w:=3) (by decide);have j:=V3.of j;have A:n+1<=3:=V3.all (P:=λn=>n+1<=3) (by decide) j;obtain⟨e,r,o,s⟩:=aO xs (Cb (Ka (n+1))) 1;rw[wc,Ab]at o s;obtain⟨v,l,B⟩:=sh xs (n+2) (w:=3) (by decide);have l:=V3.of l;obtain⟨b,C,D⟩:=sh xs (n+3) (w:=3) (by decide);obtain⟨c,E,F⟩:=sh xs (n+4) (w:=3) (by decide);obtain⟨a,G,I⟩:=sh xs (n+5) (w:=3) (by decide);obtain⟨d,K,L⟩:=sh xs (n+6) (w:=3) (by decide);obtain⟨f,V,N⟩:=sh xs (n+7) (w:=2) (by decide);obtain⟨g,X,O⟩:=sh xs (n+8) (w:=3) (by decide);refine p ?_;have Q:Sg (Ze 5000) (rest 1) (CZ q) [wp (xs.map W.int) 0] k=Sg (Ze 5000) (rest 3) (f8 q (.int (.ofNat (n+1))) (Cb e)) [wp (xs.map W.int) (.ofNat (n+2))] k:=by
  refine(qcV 5000 q (xs.map W.int) 0 k).trans ((z R _).trans (U (MO _) ((qcW 5000 q (xs.map W.int) (.ofNat 1) k (.ofNat (n+1))).trans ((wg (by lia) _).trans (((λk=>by exact U (s _ _) (U (pi 1 _) rfl):∀k,nk (bH (R:=R) (xs.map W.int)) (Cb (Ka (n+1))) (.ofNat 1) k=k (Cb e) (.ofNat (n+2))) _).trans (Db (Kc (by refine U (wc _) ?_;lia))))))))
 have S:Sg (Ze 5000) (rest 3) (f8 q (.int (.ofNat (n+1))) (Cb e)) [wp (xs.map W.int) (.ofNat (n+2))] k=Sg (Ze 5000) (rest 7) (DZ q (.int (.ofNat (n+1))) (Cb e) (e.map λm=>.l (Lw m)) (J (.int (.ofNat v))) (J (.o (.l [Ie (v,b,b+c),Ie (v,a,a+d)]))) (J (.int (0+1))) (J (.int (.ofNat a))) Y Y) [wp (xs.map W.int) (.ofNat (n+7))] k:=
  (r9 5000 q _ _ k _ _).trans ((RN r (o▸A) _).trans ((s9 5000 q _ _ k _ _ _).trans ((B R _).trans ((t9 5000 q _ _ k _ _ _ _).trans ((D R _).trans ((F R _).trans ((I R _).trans (L R _))))))))
 have t:=u9 5000 q (xs.map W.int) (.ofNat (n+7)) k (.int (.ofNat (n+1))) (Cb e) (e.map λm=>.l (Lw m)) (.ofNat v) (.ofNat b) (.ofNat (b+c)) (.ofNat a) (.ofNat (a+d));rw[AZ,FZ]at t;have u:=(Q.trans (S.trans t)).trans ((v9 5000 q (xs.map W.int) (.ofNat (n+7)) k (.int (.ofNat (n+1))) (Cb e) (e.map λm=>.l (Lw m)) [Ie (v,b,b+c),Ie (v,a,a+d)] [Ie (v,max b a,min (b+c) (a+d))] (.ofNat v) (.ofNat a)).trans (N R _));have x:max b a<=2:=by lia
 have y:min (b+c) (a+d)<=max b a+2:=by lia
 induction m:Rp (.ofNat f) 1 with
 |true=>
  have T:=u.trans ((Db m).trans ((Lb (SZ l)).trans ((O R _).trans ((Lb (rfl:oN 1 (row (.ofNat (Xv v)) 0 (.ofNat g)) [Ie (v,b,b+c),Ie (v,a,a+d)]=J ([(v,b,b+c),(Xv v,0,g),(v,a,a+d)].map Ie))).trans (Db rfl)))));obtain⟨i,h⟩:=mI (R:=R) (q:=q) (v:=v) (xs:=xs) (.r2 v (Xv v) b (b+c) a (a+d) g) (.s2 v (Xv v) (max b a) (min (b+c) (a+d)) g) (A2 l) (.two v (Xv v) (max b a) (min (b+c) (a+d)) g x y (by exact Qf (by assumption))) r o j (.ofNat a) (J (row (.ofNat (Xv v)) 0 (.ofNat g))) (n+9) k;exact⟨i,T.trans h⟩
 |false=>
  refine aa λp=>?_;obtain⟨i,h⟩:=mI (R:=R) (q:=q) (v:=v) (xs:=xs) (.r1 v b (b+c) a (a+d)) (.s1 v (max b a) (min (b+c) (a+d))) (J0 l) (.one v (max b a) (min (b+c) (a+d)) x y) r o j (.ofNat a) Y (n+8) k;exact p (⟨i,(u.trans (ji m)).trans h⟩)
end
section
variable {l:Nat} {V:List Int} {X:Nat->Option (List Int)} {cf:Yp} {T:Nat->fc->ub->al}
noncomputable abbrev XT(l:Nat):fc:=[J (.k (.ref l)),Y,Y,Y,Y,Y,Y,Y,Y,Y,Y,Y,Y,Y,Y,Y]
theorem OM(e:X l=J V):fS db X cf T (.q (.x 1) (.dict [(.str "cells"),(.str "at")] [(.cut (.x 0) 16),(.int 0)])) (XT l) []=J (.next,CZ (.k (.ref l)),[wp ((V.take 16).map W.int) 0]):=by
 have c:fX db X cf (.cut (.x 0) 16) (XT l) []=J (.l ((V.take 16).map W.int),[]):=by
  show(X l).bind _=_
  refine U e ?_;show(Ge (ac ((V.map W.int).take 16).length 4096)).map _=_
  refine U (show ac ((V.map W.int).take 16).length 4096=Z from ud.mpr (by rw[nu];lia)) (U List.map_take ?_);rfl
 have d:zG db X cf [.cut (.x 0) 16,.int 0] (XT l) []=J ([.l ((V.take 16).map W.int),.int 0],[]):=by
  show(fX db X cf (.cut (.x 0) 16) (XT l) []).bind _=_
  refine U c ?_;rfl
 have a:fX db X cf (.dict [(.str "cells"),(.str "at")] [(.cut (.x 0) 16),(.int 0)]) (XT l) []=J (.ref 0,[wp ((V.take 16).map W.int) 0]):=by
  show(zG db X cf [.cut (.x 0) 16,.int 0] (XT l) []).bind (λq=>qM [.str "cells",.str "at"] q.1 q.2)=_
  refine U d ?_
  kernel_rfl
 show((fX db X cf (.dict [(.str "cells"),(.str "at")] [(.cut (.x 0) 16),(.int 0)]) (XT l) []).bind λp=>(kf p.1).map λw=>(w,p.2)).bind (λp=>(fP db X cf (.x 1) p.1 (XT l) p.2).map TY)=_
 refine U a ?_
 kernel_rfl
theorem S0(e:X l=J V)(C:yh (Ze 5000) cf (Ee db Ib X cf 4)):∃a,Vo db Ib X cf oJ [.k (.ref l)] []=J (.bool Z,a):=by
 refine aa λb=>?_;obtain⟨a,h⟩:=mZ (R:=W×ub) (.k (.ref l)) (V.take 16) λr=>J (XS r);refine b ?_
 induction Jn C (rest 1) (CZ (.k (.ref l))) [wp ((V.take 16).map W.int) 0] (λr=>J (XS r)) _ h with|mk p f d g c=>
  refine aa λb=>?_;obtain⟨i,j,k⟩:=p;cases g;refine b (⟨a,?_⟩);have t:(Jw (kJ db X cf (Ee db Ib X cf 4) (rest 1))) (.next,CZ (.k (.ref l)),[wp ((V.take 16).map W.int) 0])=kJ db X cf (Ee db Ib X cf 4) (rest 1) (CZ (.k (.ref l))) [wp ((V.take 16).map W.int) 0]:=rfl;refine U (by kernel_rfl:Vo db Ib X cf oJ [.k (.ref l)] []=((fS db X cf (Ee db Ib X cf 4) (.q (.x 1) (.dict [(.str "cells"),(.str "at")] [(.cut (.x 0) 16),(.int 0)])) (XT l) []).bind (Jw (kJ db X cf (Ee db Ib X cf 4) (rest 1)))).map j7) (U (OM e) (U (Option.bind_some _ _) (U t (U d ?_))))
  induction i with
  |next=>cases c|ret w=>cases c;rfl
theorem GT(l:Nat)(V:List Int):∃a,Nb db Ib pc 12 (Sm l V) 481 [.k (.ref l)] []=J (.bool Z,a):=by
 obtain⟨a,h⟩:=S0 (cf:=Nb db Ib pc 11 (Sm l V)) (Dd rfl) (c9 (n:=1) (sc:=Sm l V) (cb:=Ee db Ib (Sm l V) (Nb db Ib pc 11 (Sm l V)) 4));exact⟨a,((λn=>rfl:∀n,Nb db Ib pc (n+1) (Sm l V) 481 [.k (.ref l)] []=(pc 481).bind λb=>zt b.mode (Vo db Ib (Sm l V) (Nb db Ib pc n (Sm l V)) b) (Vo db Ib (λu=>Y) (Nb db Ib pc n λu=>Y) b) [.k (.ref l)] []) 11).trans ((Gc (λo:Option Qg=>o.bind _) (rfl:pc 481=J oJ)).trans h)⟩
theorem dO:bz:=λl V u=>(GT l V).elim λu h=>j5 h
theorem done:Mh.Holds:=EN (RQ dO)
end
end
end Mine.Internal
theorem PySem.Challenge.cw_nz0028_01_holds : PySem.Challenge.rw_nz0028_01.Holds :=
  Mine.Internal.done
