import PyProof.Rows.All
import Wide.All
import OpenK.AllK
import Wide.FinOn
import PySem.Challenge.RW_nz0028_01
set_option Elab.async false
set_option maxRecDepth 100000
set_option linter.all false
set_option genSizeOf false
set_option genInjectivity false
set_option backward.match.sparseCases false
set_option tactic.hygienic false
set_option genCtorIdx false
set_option bootstrap.genMatcherCode false
open And renaming intro->xR,left->LX,elim->qes
open Array renaming size_push->cn,getElem?_toList->qD,mk->yR,toList->MX
open Bool renaming true->Z,false_ne_true->ia,false->ua,and_eq_true_iff->Aa,and_eq_true->Ad,noConfusion->Bd,not_eq_true'->Se,eq_iff_iff->Gh,false_eq_true->dk,eq_false_iff->Xs,not_eq_true->ku,or_false->uA,true_and->vA,or_eq_true_iff->uI,and_false->bW,false_or->NX
open Classical renaming byContradiction->aa
open Decidable renaming byContradiction->qet,rec->qeu
open Eq renaming trans->dn
open Exists renaming elim->rD
open ForInStep renaming yield->vf
open Iff renaming trans->qdk
open Int renaming ofNat->jb,natCast_nonneg->wf,ofNat_lt->oi,not_lt->Wi,lt_of_lt_of_le->zr,rec->Ot,negSucc_lt_zero->CK,toNat_of_nonneg->DK,add_sub_cancel->SK,toNat_natCast->fR,add_zero->j5,le_of_lt->l5,ofNat_le->n5,zero_add->o5,not_le->qaZ
open Int.ofNat renaming inj->Iu
open List renaming casesOn->ma,mem_cons_of_mem->oa,mem_cons_self->sa,length_map->ya,length_append->Ha,replicate->Ia,prefix_refl->Ja,range->Ka,getElem?_append_right->La,mem_of_getElem?->Ma,mem_singleton->Ra,getElem?_eq_getElem->Wa,getElem?_append_left->Xa,mem_cons->fb,getElem?_eq_some_iff->wb,length_set->yb,length_range->Ab,size_toArray->Hb,length_filter_le->Qb,mem_map->Rb,not_mem_nil->Tb,map_cons->Vb,append_nil->Wb,mem_append->Xb,mem_range->bc,rec->gc,getElem?_toArray->jc,length_cons->mc,forall_mem_cons->Ac,cons_ne_nil->Bc,getElem!_eq_getElem?_getD->Cc,append_assoc->Dc,getElem?_map->Ec,nodup_cons->Fc,prefix_append->Hc,lookup_cons->Mc,getElem?_eq_none->Rc,mem_filter->Vc,getElem?_set_ne->Xc,all_eq_true->md,tail_eq_of_cons_eq->wd,mem_append_right->Ld,map_map->Qd,head_eq_of_cons_eq->Xd,getElem?_set_self->je,isEmpty_iff->Be,mem_append_left->Je,getElem?_replicate->Te,getElem?_range->bf,map_congr_left->fg,length_eq_zero_iff->kg,eq_nil_of_length_eq_zero->sg,pairwise_cons->Ag,length_replicate->Ng,getElem?_eq_none_iff->fh,filter_eq_nil_iff->ai,nodup_append->di,length_singleton->Ii,filter_cons->Ri,length->nj,filterMap_cons->Fj,getElem_of_mem->Gj,replicate_succ->Hj,getElem?_zip_eq_some->bl,getElem?_set->jl,reverse_cons->ll,cons_append->Km,length_drop->Mm,mem_singleton_self->Nm,find?_cons->qn,forIn_cons->tn,contains_iff_mem->fo,pairwise_append->Oo,any_cons->bq,findIdx?_cons->kr,getElem?_take->lr,ext_getElem?->et,map_nil->ft,getElem_mem->lu,length_take->mu,mem_flatMap->nu,count_cons->Vw,forIn_nil->Bx,findIdx?_eq_none_iff->Yy,all_cons->wA,drop_nil->xA,eq_of_mem_replicate->yA,cons->FA,pairwise_singleton->GA,range_succ_eq_map->tD,take_of_length_le->uD,toArray->vD,findIdx?_toArray->GD,lookup->KF,range'->LF,range_eq_range'->MF,length_reverse->xI,getElem?_drop->FK,zip_cons_cons->GK,filter_congr->eL,flatMap_cons->fL,push_toArray->gL,getElem_inj->gR,map_reverse->iR,mem_reverse->jR,length_nil->GR,map_append->HR,of_mem_zip->IR,nodup_nil->kW,take_nil->TX,map_set->R3
open List.IsPrefix renaming subset->Lh
open List.Pairwise renaming filter->w5
open List.Perm renaming append_left->qex,cons->qey,eq_of_pairwise->qez,swap->qeA
open List.cons renaming inj->EK,injEq->qeB
open Nat renaming casesOn->Sa,le_trans->Za,le_of_ble_eq_true->gb,lt_of_le_of_lt->ib,lt_of_lt_of_le->rb,le_refl->Gb,beq->Ub,succ_ne_zero->Zb,blt->ac,lt_irrefl->dc,ne_of_lt->ic,succ->nc,le_add_right->Nc,eq_of_beq_eq_true->Uc,lt_succ_self->pd,zero_le->td,blt_eq->ud,le_of_lt->vd,le_of_eq->Fd,le_succ_of_le->Kd,not_lt->Ud,lt_add_of_pos_right->Yd,le_succ->se,le_add_left->Ve,not_lt_zero->We,succ_le_succ->sf,le_of_lt_succ->Qf,le_of_succ_le->Sf,lt_succ_of_lt->Tf,le_of_not_lt->og,lt_of_succ_lt_succ->Fg,ne_of_beq_eq_false->Gg,lt_succ_of_le->Sg,ble->gh,sub_self->jh,succ_pos->kh,zero_add->lh,add_comm->pi,ne_of_gt->qi,add_le_add_left->Zj,lt_or_ge->ck,add_le_add->Kk,eq_or_lt_of_le->Lk,lt_of_le_of_ne->Nk,rec->un,add_assoc->qr,add_sub_cancel->Ar,sub_add_cancel->Br,lt_trans->Pt,succ_ne_self->Ku,zero_lt_succ->Lu,le_antisymm->Yw,mul_comm->HD,ble_eq_true_of_le->NF,le_of_sub_eq_zero->QF,lt_of_sub_eq_succ->RF,mul_le_mul_right->yI,not_succ_le_zero->zI,pow_le_pow_right->AI,add_right_comm->kL,not_le->lL,succ_lt_succ->KR,mul_succ->B5,pow_succ->C5,sub_succ->D5,succ_add->E5,log2_lt->Y9,one_mul->Z9,one_pos->qaa,two_pos->qab,beq_eq->qbb,max_le->qbc,sub->qfr
open Nat.succ renaming inj->Kh
open Ne renaming symm->cq
open Option renaming some->J,none->Y,bind_eq_some_iff->Fa,isSome_iff_exists->Na,bind_assoc->Va,map_bind->Tc,map_eq_some_iff->ef,map_map->pf,bind_map->yh,isNone_iff_eq_none->ik,map_some->Vm,map->Op,rec->Pp,some_ne_none->ID,casesOn->mR
open Option.some renaming inj->ba,injEq->Bj
open Prod renaming fst->oj,snd->UF
open Prod.mk renaming inj->Ta,injEq->oR
open PyProof.Rows renaming IntsAre->Xi,subscriptTail_builtin->cr,reads_list_at->VJ,add_int->qac,floordiv_int->qad,getItem_tuple->qae,isub_int->qaf,len_tuple->qag,mod_int'->qah,neg_int->qai,sub_int->qaj,subscriptTail->qei
open PyProof.Rows.F renaming plain_set_update_loop->nn,entry_set_update_loop->JF
open PySem renaming wpAny_bind->ga,wpAny_pure->ta,Value->wa,Addr->Ca,wpAny_mono->Da,Shared->Ea,wpAny->Qa,model->bb,Heap->qb,World->zb,Str->Bb,wpAny_ite_false->Jb,wpAny_holding->Kb,Around->Yb,wpAny_standAt->lc,eval->yc,codeAny_mono->Oc,Comprehension->gd,NameKind->xd,strKind->ee,FuncData->te,Operator->He,wpAny_of_eq->af,wpAny_callSpecial?_slot->jf,sizeLine_eq->zf,wpAny_field->Af,DictEntry->Cf,wpAny_call_entry->Kf,PyData->Vf,rawInt->ag,codeAny_builtin->cg,compareOp->dg,callEnv->gg,intKind->jg,backTo->qg,wpAny_seqItems->Jg,codeAny_of_tree->Vg,pushCells->bh,codeAny->dh,wpAny_askSetting->Ih,behindInMarks->Vh,callEnvC->Xh,wpAny_onRaise->Zh,wpAny_ite_split->li,wpAny_pyIter_tuple->Di,wpAny_setField_rec->Ei,Program->Zi,holding->dj,spliced->kj,wpAny_newObj_type->lj,wpAny_setState_of->mj,Env->zj,cellsFrom->Lj,wpAny_rule->Xj,Builtin->Yj,plainId_quiet->ak,standAt->bk,Tok->jk,importedModules->Uk,valueAt->Wl,Sem->Yl,binaryOp->gm,intKind_is->xm,wpAny_setField->Jm,Pos->Om,IsRangeIter->gn,fastTable_eq_tree->kn,wpAny_assignInOrder_more->Zn,wpAny_assignInOrder_none->ao,wpAny_isInstance->Mo,builtinsNs->ip,pyNext->Dp,setAddHashed->Ep,wpAny_call->Np,letOwnedTupleGo->Sp,pushCells_keeps->Tp,theTreesLotGoes->Up,wpAny_updateSeq->Vp,CmpOp->xr,Result->Cr,wpAny_ite_true->Ws,swapsWith->Ht,treeTable->Mt,pairTrees_cons_walk->au,wpAny_setEntries_of->ju,arm_execs_nil->ou,execs->tu,methodCallPos->xu,swappedStores->Cu,wpAny_attempt->Fu,pyIter->nw,wpAny_Constant_str->Uw,foldedSetIterable->ix,setItem->sx,wpAny_typeOf->Ax,Stmt->bz,noteFrame->Oz,truthy->nA,wpAny_noted->DA,wpAny_point->EA,wpAny_loadPart'->nD,Obj->wD,operate->AD,relabel->BD,IsZip->FD,exec->fE,isSubtype_type->vE,wpAt_of_wpAny->VF,assignInOrder->GI,signature?_of->bK,wpAny_release->uK,Flow->OK,IsRange->TK,Keyword->cL,argsOk->vL,nsFind->pO,wpAny_alloc'->XQ,builtinLookup_eq_fast->tR,GenState->ER,bindName->nS,codeAny_call_builtin->DS,subscripted->pV,wpAny_letGo->RV,wpAny_loadName_local->SV,wpAny_loadName_free->FX,wpAny_setItem_pairs->GX,closureFor->pY,denote->zY,methodCall->CZ,setsByText->X0,wpAny_Constant_int->S2,wpAny_load->T2,wpAny_pyIter_range->U2,wpAny_unpack_tuple->V2,Const->K3,Model->U3,forTurn->w4,getItem->A4,hashInt->B4,hashStr->C4,newList->L4,setNext->R4,wpAny_pyIter_list->W4,wpAny_pyIter_slot->Y4,call->G5,arm_assign_Tuple->O5,checkBuiltinCall->F6,pickOrder->b9,seqIndex?->t9,storeName->E9,wpAny_getItem_of->S9,wpAny_setScan_of->T9,typeLookup_type->qaJ,wpAny_Dict_walk->qaR,wpAny_operating->qaS,wpAny_specialOf->qaT,Data->qaW,SetTable->qbe,bindC->qbi,bindL->qbj,compTurn->qbm,constantsAlone->qbo,entryFor->qbt,entryFor_alias->qbu,field->qby,firstArgMember->qbz,isSubtype_stop->qcp,markedBehindIn->qct,newFunctionEnv->qcy,newTuple->qcz,recursionLimit->qcL,runOwn->qcP,setAddHashedIn->qcU,wpAny_fieldsOf->qdd,wpAny_newTuple->qde,wpAny_runValue->qdf,arm_eval_Call->qdr,codeAny_block->qdF,comprehension->qdH,evalPairs_nil->qdK,foldedForSure->qdO,wpAny_newList->qer,callType_new->qeI,callerA->qeJ,firstIterPos->qeO,name_of_addr->qeW,release->qfa,setAddByScan->qfc,Reads->qfv,interactive->qfx,keywordEach->qfy,wpAny_alloc->qfz
open PySem.Around renaming under_plainId->Fe
open PySem.BindsTo renaming of_eq->cR
open PySem.Builtin.Frozenset renaming newClass->AR,updateFrom->BR
open PySem.Builtin.List renaming listTooLong->yj,listExtendWith->Wp,listLengthHint->Xp,listSameRef->Ys,listFitsIndex->U9
open PySem.Builtin.Range renaming rangeSize->Yg,small->a5
open PySem.Builtin.SmallTypes renaming nextOf->rd,ownedTupleIsFree->zg,ownedTupleHandOut->fk
open PySem.Builtin.Tuple renaming tupleExact->sr
open PySem.Calls renaming loadGlobal_builtin->uZ,loadGlobal_global->H4,evalArgs_plain->qbw
open PySem.Challenge renaming pw_nz0028_01->Mh,rw_nz0028_01->Nh
open PySem.Code renaming builtin->J3
open PySem.Env renaming kindOf->mn,blockKind->N3
open PySem.Expr renaming Starred->jd,Name->dR
open PySem.F renaming plain_extend_loop->xf,slot_tuple_iterator_next->Ef,called_set->xh,slot_zip_next->fi,slot_list_extend->Pk,args_tuple_iterator_next_1->Yo,entry_tuple_iterator_next->Qp,entry_extend_loop->Xw,args_zip_next_1->Fx,plain_list_iadd->Gx,entry_zip_next->az,plain_set_new->O3,slot_set_iter->P3
open PySem.Heap renaming get?_push_of_some->Ba,get?_push_size->Oa,lt_size->qc,get?_update_self->Qc,size_push->ie,SameBut->ff,get?_update_other->gf,dictOf_iff->Mf,IsTuple->sD,ExtBut->i5,get?->qaY
open PySem.Heap.IsTuple renaming push->bo
open PySem.Heap.SameBut renaming update->zd,refl->V9
open PySem.Manifest renaming owners->qfp,sig_set_iterator->qfq
open PySem.NameKind renaming free->Ic,cell->Gd
open PySem.Obj renaming data_mapFields->Ce,isFreed_of_fields->Si,mapSeq->Yi,mapFields->bm,cls_mapFields->Qt,putNameByArray->mL,putName_eq->VX,cls->qfs
open PySem.PyData renaming eqv->Yc,eqvAll->yd,int->rg,depthAll->Ah,canLayAll0->Uh,weightAll->gt,weight->Dx,tuple->zA,list->xD,canLay0->pR,keyHash->qR,depth->mW,strOk->nW
open PySem.SeqAt renaming shaped->XX,eqv_refl->qbd
open PySem.SetTable renaming below->Uf
open PySem.Shared renaming heap->zD
open PySem.Stmt renaming casesOn->X3
open PySem.Str renaming ofString->Hg
open PySem.Value renaming ref->Jc,type->uf,builtin->Ti,isStrOf->Ui,int->cm,isInt->Ho,none->fq,bool->H5,str->qaq
open PySem.Value.type renaming inj->qdp
open PySem.W renaming Frag->Ue,emptyDict->Gf,findIn->Tk,boot_heap->Zl,dictOf->qm,through->vx,ks_superIn->wE,SharedT->nL,typeIn->HQ,callWith_of->tS,lookIn->vZ,namesBound->JZ,stepOk->Z0,staticsOk->C9,gensDone->qch,laidKept->qcr,stepT->qcV,fencedOpening->qdN,instObj->qeR,topFrom->qfn,defOf->qfw
open PySem.W.Fast renaming tw10156331382660048174->Wm,tw11892475500146522536->Xm,tw6613529449190102663->jn,te10156331382660048174->qak,te11892475500146522536->qal,te4187177175401517315->qam,te6613529449190102663->qan,te9446332074065402090->qao,tw4187177175401517315->qap
open PySem.W.Hook renaming says->eR,obs->fW,val->gW
open PySem.W.RowW renaming records->yD
open PySem.W.Upd renaming head->qeE
open PySem PySem.W PySem.Calls PyProof.Rows
namespace Mine.Internal
noncomputable section
@[elab_as_elim] theorem U {α:Sort u} {motive:α->Prop} {a b:α} (h:a=b) (x:motive b):motive a:=h▸x
@[elab_as_elim] theorem Ed {α:Sort u} {motive:α->Prop} {a b:α} (h:b=a) (x:motive b):motive a:=h▸x
theorem Wg{c d:Type}{o:Option c}{f:c->Option d}{b:d}{P:Prop}(e:o.bind f=J b)(k:∀a,o=J a->f a=J b->P):P:=by
 obtain⟨a,g,h⟩:=Fa.mp e;exact k a g h
theorem Ds{c d:Type}{o:Option c}{f:c->d}{b:d}{P:Prop}(e:o.map f=J b)(k:∀a,o=J a->f a=b->P):P:=by
 obtain⟨a,g,h⟩:=ef.mp e;exact k a g h
theorem Gc{c:Sort _}{d:Sort _}{a b:c}(f:c->d)(h:a=b):f a=f b:=congrArg f h
theorem Dd{c:Prop}{h:Decidable c}(a:c){b:Sort _}{t e:b}:ite c t e=t:=if_pos a
theorem fe{c:Prop}{h:Decidable c}(a:¬c){b:Sort _}{t e:b}:ite c t e=e:=if_neg a
theorem zc{a b:Prop}(h:a)(n:¬a):b:=absurd h n
theorem Nl{p:Prop} [Decidable p](h:decide p=Z):p:=of_decide_eq_true h
set_option maxHeartbeats 0
abbrev P0:Zi:=Mh
abbrev rx:OpenRow:=Nh.row
noncomputable def qv:Zi:=view Mh [32]
noncomputable def Zr:List Bb:=["_wall","least","greatest","size","size_domains","next_from","has","has_domains","values","up_to","from_on","without","meet","negation","struck","said_of","Store","Propagator","standing","Placing","Cardinality","_law_draw","_law_domain","_law_tuples","_law_keeps","_law_made","_law_left","_law_is_asked_right"]
noncomputable def Do(c:String->Option Yj)(p:Zi)(w:zb)(a:Nat)(b:Option wa)(z:Nat)(j:nL)(q:Thread):Option nL:=match z,j,q with|0,u,y=>Y|n+1,s,t=>match vx t with|true=>J s|false=>match Z0 a b t with|false=>Y|true=>match qcV (zY c) p w s t with|some (d,e)=>Do c p w a b n d e|none=>Y
theorem qK{d:String->Option Yj}{p:Zi}{w:zb}{a:Nat}{b:Option wa}:∀{n:Nat}{s c:nL}{t:Thread},
 Do d p w a b n s t=J c->topRun d p w a b n s.abs t=J c.abs:=by
 intro n
 induction n with
 |zero=>
  rintro _ _ _ h;cases h
 |succ n k=>
  rintro s c t h;replace h:(match vx t with|true=>J s|false=>match Z0 a b t with|false=>Y|true=>match qcV (zY d) p w s t with|some (c,e)=>Do d p w a b n c e|none=>Y)=J c:=h;unfold topRun
  induction f:vx t with
  |true=>rw[f]at h;obtain rfl:=ba h;rfl|false=>
   rw[f]at h
   induction g:Z0 a b t with
   |false=>rw[g]at h;cases h|true=>
    rw[g]at h
    induction e:qcV (zY d) p w s t with
    |none=>rw[e]at h;cases h|some r=>obtain⟨i,j⟩:=r;rw[e]at h;rw[stepT_spec e];exact k h
noncomputable def Du(tb:String->Option Yj)(p:Zi)(w:zb)(n₀:Nat)(ann:Option wa)(z:Nat)(j:nL)(q:Thread):Option nL:=match z,j,q with|0,u,y=>Y|n+1,s,t=>match vx t with|true=>J s|false=>match jn n₀ ann t with|false=>Y|true=>match Wm (Xm tb) p w s t with|some (s',t')=>Du tb p w n₀ ann n s' t'|none=>Y
theorem yF{tb p w n₀ ann}:∀n s t,Do tb p w n₀ ann n s t=Du tb p w n₀ ann n s t:=by
 intro n
 induction n with
 |zero=>
  rintro _ _;exact rfl
 |succ n c=>
  rintro s t;show(match vx t with|true=>J s|false=>match Z0 n₀ ann t with|false=>Y|true=>match qcV (zY tb) p w s t with|some (a,b)=>Do tb p w n₀ ann n a b|none=>Y)=(match vx t with|true=>J s|false=>match jn n₀ ann t with|false=>Y|true=>match Wm (Xm tb) p w s t with|some (a,b)=>Du tb p w n₀ ann n a b|none=>Y)
  rw[<-qan,<-qak,<-qal]
  induction vx t<;>simp only
  induction Z0 n₀ ann t<;>simp only
  induction qcV (zY tb) p w s t<;>simp only
  exact c _ _
noncomputable def sW(P:Params):BT:=(Zl P).objs.toList.zipIdx.foldl (λt x=>t.ins x.2 x.1) .nil
set_option maxHeartbeats 200000
section
theorem ja{a:Type}{P:Prop}{x:a}(h:(Y:Option a)=J x):P:=nomatch h
set_option genCtorIdx true in
inductive V where
 |none|bool (b:Bool)|int (i:Int)|str (s:Bb)|t (xs:List V)|ref (i:Nat)|k (v:wa)|rng (a b:Int)|iset (xs:List Int)
 deriving Inhabited
inductive O where
 |list (xs:List V)|idict (es:List (Int×V))|h (es:List (Bb×V))|inst (c d:Nat)
 deriving Inhabited
noncomputable abbrev St:=List O
noncomputable abbrev Me:=List (Option V)
inductive CT where
 |x (i:Nat)|t (is:List Nat)
mutual
inductive X where
 |x (i:Nat)|k (v:wa)|none|bool (b:Bool)|int (i:Int)|str (s:Bb)|attr (o:X) (n:Bb)|sub (o i:X)|cut (o:X) (k:Int)|bin (op:He) (a b:X)|neg (a:X)|cmp (op:xr) (a b:X)|cmp2 (op1 op2:xr) (a b c:X)|ite (t:B) (a b:X)|t (xs:List X)|list (xs:List X)|dict (ks vs:List X)|comp (k:Nat) (iter:X) (tgt:CT) (ifs:List B) (rest:List G) (elt:X)|call (f:X) (args:List X)|meth (o:X) (n:Bb) (args:List X)|sup (i:Nat) (f:Nat) (args:List X)
inductive B where
 |and (a b:B)|or (a b:B)|not (a:B)|wK (x:X)
inductive G where
 |mk (iter:X) (tgt:CT) (ifs:List B)
end
inductive T where
 |x (i:Nat)|t (ts:List T)|attr (o:X) (n:Bb)|sub (o i:X)
inductive S where
 |assign (t:T) (e:X)|aug (o i:X) (op:He) (e:X)|expr (e:X)|ifs (t:B) (a b:List S)|whil (t:B) (b:List S)|fors (t:CT) (e:X) (b:List S)|forz (t:CT) (es:List X) (b:List S)|ret (e:X)
inductive Fl where
 |next|ret (v:V)
structure Fn where
 params:Nat
 slots:Nat
 body:List S
structure Ch where
 meth:Nat->Bb->Option Nat
 init:Nat->Option Nat
 attr:Nat->Bb->Bool
 sup:Nat->Option Nat
 scr:Nat->Option (List Int)
noncomputable abbrev Ch.w(t:Ch)(a:Nat->Option (List Int)):Ch:=⟨t.meth,t.init,t.attr,t.sup,a⟩
inductive It where
 |st (xs:List V)|dyn (i:Nat)
noncomputable def qh(z:V):Option Int:=match z with|.int k=>J k|_=>Y
noncomputable def gp(z:V):Option Bool:=match z with|.bool b=>J b|_=>Y
noncomputable def xx(z:V):Option (List V):=match z with|.t a=>J a|_=>Y
noncomputable def sw(z:V):Option Nat:=match z with|.ref i=>J i|_=>Y
noncomputable def iK(z:V):Option Bb:=match z with|.str s=>J s|_=>Y
noncomputable def Z7(z:O):Option (List V):=match z with|.list a=>J a|_=>Y
noncomputable def qfb(z:O):Option (List (Bb×V)):=match z with|.h a=>J a|_=>Y
noncomputable def T7(z:O):Option (Nat×Nat):=match z with|.inst c d=>J (c,d)|_=>Y
def tc(a:St)(i:Nat):Option (List V):=(a[i]?).bind Z7
def Vq(a:St)(i:Nat):Option (List (Bb×V)):=(a[i]?).bind qfb
def wi(a:St)(i:Nat):Option (Nat×Nat):=(a[i]?).bind T7
noncomputable def one{b:Type}(z:List b):Option b:=match z with|[a]=>J a|_=>Y
noncomputable def two{c:Type}(z:List c):Option (c×c):=match z with|[a,b]=>J (a,b)|_=>Y
noncomputable def Ge(b:Bool):Option Unit:=if b then J ()else Y
noncomputable def tt(a:Int)(n:Nat):List V:=(Ka n).map λ(i:Nat)=>V.int (a+(i:Int))
def Jo(a b:Int):List V:=tt a (b - a).toNat
noncomputable def Wo(a b:Int):Bool:=decide (-1000<a/\a<1000/\ -1000<b/\b<1000)
def zm(b:It)(i:Nat)(c:St):Option (Option V):=match b with|.st a=>J a[i]?|.dyn l=>(tc c l).map λa=>a[i]?
noncomputable def D9(f:V->St->Option (List V×St))(k:Nat->St->Option (List V×St))(i:Nat)(a:St)(z:Option V):Option (List V×St):=match z with|Y=>J ([],a)|some v=>(f v a).bind λp=>(k (i+1) p.2).map λq=>(p.1++q.1,q.2)
noncomputable def Ro(q:Nat)(d:It)(g:Nat)(l:(V->St->Option (List V×St)))(m:St):Option (List V×St):=match q,d,g,l,m with|0,u,y,z,j=>Y|n+1,b,i,f,a=>(zm b i a).bind (D9 f (λi a=>Ro n b i f a) i a)
noncomputable def dD(k:Me->St->Option (Fl×Me×St))(p:Fl×Me×St):Option (Fl×Me×St):=match p.1 with|.next=>k p.2.1 p.2.2|.ret u=>J p
noncomputable def sX(f:V->Me->St->Option (Fl×Me×St))(k:Nat->Me->St->Option (Fl×Me×St))(i:Nat)(a:Me)(b:St)(z:Option V):Option (Fl×Me×St):=match z with|Y=>J (.next,a,b)|some v=>(f v a b).bind (dD (k (i+1)))
noncomputable def Gq(d:Nat)(g:It)(l:Nat)(m:(V->Me->St->Option (Fl×Me×St)))(o:Me)(r:St):Option (Fl×Me×St):=match d,g,l,m,o,r with|0,u,y,z,j,q=>Y|n+1,c,i,f,b,a=>(zm c i a).bind (sX f (λi b a=>Gq n c i f b a) i b a)
noncomputable def JB(q:Nat)(d:(Me->St->Option (Bool×St)))(g:(Me->St->Option (Fl×Me×St)))(l:Me)(m:St):Option (Fl×Me×St):=match q,d,g,l,m with|0,u,y,z,j=>Y|n+1,t,f,a,b=>(t a b).bind λp=>match p.1 with|false=>J (.next,a,p.2)|true=>(f a p.2).bind (dD (JB n t f))
noncomputable def xe(j:List Nat)(q:List V)(d:Me):Option Me:=match j,q,d with|[],[],a=>J a|i::is,v::b,a=>if i<a.length then xe is b (a.set i (J v))else Y|u,y,z=>Y
def ql(z:CT)(y:V)(u:Me):Option Me:=match z,y,u with|.x i,v,a=>if i<a.length then J (a.set i (J v))else Y|.t is,v,a=>(xx v).bind λb=>xe is b a
noncomputable def free(a:Me)(i:Nat):Bool:=match a[i]? with|some Y=>Z|_=>ua
noncomputable def Dk(j:List Nat)(q:List V)(d:Me):Option Me:=match j,q,d with|[],[],a=>J a|i::is,v::b,a=>if free a i then Dk is b (a.set i (J v))else Y|u,y,z=>Y
def Kj(z:CT)(y:V)(u:Me):Option Me:=match z,y,u with|.x i,v,a=>if free a i then J (a.set i (J v))else Y|.t is,v,a=>(xx v).bind λb=>Dk is b a
noncomputable def Td(n:Nat):Bool:=ac n 4096
noncomputable def Ol(n:Nat)(k:Int):Option Nat:=if 0<=k then J k.toNat else if -(n:Int)<=k then J (k+n).toNat else Y
def F4(a:List V)(k:Int):Option V:=(Ol a.length k).bind λi=>a[i]?
noncomputable def Qm(z:List (Int×V))(y:Int):Option V:=match z,y with|[],u=>Y|(k,v)::r,x=>if k=x then J v else Qm r x
noncomputable def Pf(z:List (Bb×V))(y:Bb):Option V:=match z,y with|[],u=>Y|(k,v)::r,x=>if k=x then J v else Pf r x
noncomputable def iw(z:List (Int×V))(y:Int)(u:V):List (Int×V):=match z,y,u with|[],x,w=>[(x,w)]|(k,v)::r,x,w=>if k=x then(k,w)::r else(k,v)::iw r x w
noncomputable def Hh(z:List (Bb×V))(y:Bb)(u:V):List (Bb×V):=match z,y,u with|[],x,w=>[(x,w)]|(k,v)::r,x,w=>if k=x then(k,w)::r else(k,v)::Hh r x w
def qcX(k:V)(z:O):Option V:=match z with|.list a=>(qh k).bind (F4 a)|.idict a=>(qh k).bind (Qm a)|.h a=>(iK k).bind (Pf a)|.inst u y=>Y
def cD(o k:V)(a:St):Option V:=match o with|.t b=>(qh k).bind (F4 b)|.ref i=>(a[i]?).bind (qcX k)|_=>Y
noncomputable def u9(a:List V)(v:V)(i:Nat):Option (List V):=if i<a.length then J (a.set i v)else Y
def ZU(k v:V)(j:O):Option O:=match j with|.list a=>((qh k).bind (Ol a.length)).bind λi=>(u9 a v i).map .list|.idict a=>(qh k).bind λk=>(Ge (Td a.length)).map λu=>.idict (iw a k v)|.h a=>(iK k).bind λk=>(Ge (Td a.length)).map λu=>.h (Hh a k v)|.inst y z=>Y
def Ci(o k v:V)(a:St):Option St:=(sw o).bind λi=>((a[i]?).bind (ZU k v)).map (a.set i)
noncomputable def fH(z:V):Option V:=match z with|.k u=>Y|v=>J v
def Ni(W:Ch)(o:V)(n:Bb)(a:St):Option V:=((sw o).bind (wi a)).bind λp=>(Vq a p.2).bind λb=>(Ge (W.attr p.1 n)).bind λu=>(Pf b n).bind fH
def Qn(W:Ch)(o:V)(n:Bb)(v:V)(a:St):Option St:=((sw o).bind (wi a)).bind λp=>(Vq a p.2).bind λb=>(Ge (W.attr p.1 n&&ac b.length 900)).map λu=>a.set p.2 (.h (Hh b n v))
def gj(a:List V)(b:St):Option (V×St):=(Ge (Td a.length)).map λu=>(.ref b.length,b++[.list a])
def Bp(a:List V)(b:St):Option (V×St):=(Ge (Td a.length)).map λu=>(.t a,b)
def vC(a b:Int):Option (List V):=(Ge (Wo a b)).map λu=>Jo a b
def fj(v:V)(c:St):Option It:=match v with|.t a=>J (.st a)|.rng a b=>(vC a b).map .st|.ref i=>(tc c i).map λu=>.dyn i|_=>Y
noncomputable def SS(x y:Int):Option Int:=if 0<=x/\x<1000/\0<y/\y<1000 then J (x.fdiv y)else Y
noncomputable def Lz(x y:Int):Option Int:=if y=0 then Y else J (x.fmod y)
noncomputable def qU(x y:Int):Option Int:=if 0<=y/\y<=20/\0<=x/\x<=2 then J (x^y.toNat)else Y
def O4(f:Int->Int->Option Int)(a b:V)(c:St):Option (V×St):=(qh a).bind λx=>(qh b).bind λy=>(f x y).map λz=>(.int z,c)
def TR(a b:V)(c:St):Option (V×St):=match a with|.int x=>(qh b).map λy=>(.int (x+y),c)|.t d=>(xx b).bind λe=>Bp (d++e) c|.ref i=>(tc c i).bind λd=>((sw b).bind (tc c)).bind λe=>gj (d++e) c|_=>Y
def aU(a b:V)(c:St):Option (V×St):=(((sw a).bind (tc c)).bind one).bind λx=>(qh b).bind λk=>(Ge (decide (0<=k/\k<4096))).bind λu=>gj (Ia k.toNat x) c
def jS(d:He)(a b:V)(c:St):Option (V×St):=match d with|.Add=>TR a b c|.Sub=>O4 (λx y=>J (x - y)) a b c|.FloorDiv=>O4 SS a b c|.Mod=>O4 Lz a b c|.Pow=>O4 qU a b c|.Mult=>aU a b c|_=>Y
noncomputable def Ip(s:Bb):Bool:=s.cps.toList.all λn=>ac n 0x110000
theorem gK{s:Bb}(h:Ip s=Z):nW s=Z:=by
 unfold Ip at h;unfold nW;rw[md]at h;refine U (propext Array.all_eq_true') ?_;intro x a;have:=h x (by simpa using a)
 simpa [ud]using this
noncomputable def om(f:V->Option Vf)(z:List V):Option (List Vf):=match z with|[]=>J []|x::a=>(f x).bind λd=>(om f a).map λx=>d::x
def dB(z:V):Option Vf:=match z with|.none=>J .none|.bool b=>J (.bool b)|.int i=>J (.int i)|.str s=>if Ip s then J (.str s)else Y|_=>Y
noncomputable def mv(z:Nat)(y:V)(j:St):Option Vf:=match z,y,j with|0,v,u=>dB v|n+1,v,a=>match v with|.t b=>(om (λx=>mv n x a) b).map .tuple|.ref i=>(tc a i).bind λb=>(om (λx=>mv n x a) b).map .list|v=>dB v
def Z6(n:Nat)(a:List V)(b:St):Option (List Vf):=om (λx=>mv n x b) a
def Iv{c:Type}(f:Int->Int->c)(a b:V):Option c:=(qh a).bind λx=>(qh b).map (f x)
def j4(a b:V)(c:St):Option Bool:=(mv 6 a c).bind λd=>(mv 6 b c).map λe=>Yc d e
noncomputable def hH(z:V):Option Bool:=match z with|.none=>J Z|.t u=>J ua|.ref u=>J ua|.bool u=>J ua|.int u=>J ua|_=>Y
def qeS(a b:V):Option Bool:=match b with|.none=>hH a|_=>Y
def dZ(a b:V):Option Bool:=match b with|.none=>(hH a).map (λx=> !x)|.bool y=>(gp a).map (λx=>x !=y)|_=>Y
def tT(e:Vf)(a:List V)(b:St):Option Bool:=(Z6 5 a b).map λc=>c.any λd=>Yc d e
def qeQ(a:V)(b:St)(z:O):Option Bool:=match z with
 |.idict c=>(qh a).map λk=>(Qm c k).isSome|.list c=>match a with|.int k=>tT (.int k) c b|.t d=>(mv 5 (.t d) b).bind λe=>tT e c b|_=>Y
 |_=>Y
def qav(a b:V)(c:St):Option Bool:=(sw b).bind λi=>(c[i]?).bind (qeQ a c)
def lq(d:xr)(a b:V)(c:St):Option Bool:=match d with|.Lt=>Iv (λx y=>decide (x<y)) a b|.LtE=>Iv (λx y=>decide (x<=y)) a b|.Gt=>Iv (λx y=>decide (y<x)) a b|.GtE=>Iv (λx y=>decide (y<=x)) a b|.Eq=>j4 a b c|.NotEq=>(j4 a b c).map (λx=> !x)|.Is=>qeS a b|.IsNot=>dZ a b|.In=>qav a b c|.NotIn=>(qh a).bind λk=>(qav (.int k) b c).map λx=> !x
noncomputable def ki(z:List V):Option (List Int):=match z with|[]=>J []|v::r=>(qh v).bind λi=>(ki r).map λx=>i::x
noncomputable def qo(x:Int)(z:List Int):List Int:=match z with|[]=>[x]|y::r=>if x<=y then x::y::r else y::qo x r
noncomputable def Yq(z:List Int):List Int:=match z with|[]=>[]|x::r=>qo x (Yq r)
noncomputable def Ig(a:List Int):List Int:=([0,1,2]:List Int).filter λk=>a.contains k
def PP(v:V)(c:St):Option (List V):=match v with|.t a=>J a|.rng a b=>vC a b|.ref i=>tc c i|_=>Y
def K1(v:V)(a:St):Option (List V):=match v with|.t b=>J b|.ref i=>tc a i|_=>Y
def CW(v:V)(c:St):Option (List V):=match v with|.rng a b=>vC a b|.ref i=>tc c i|_=>Y
set_option genCtorIdx true in
inductive Bi where
 |len|max|min|sum|sorted|range|tuple|list|set
noncomputable def OD(z:wa):Option Bi:=match z with|.builtin n=>if n="len"then J .len else if n="max"then J .max else if n="min"then J .min else if n="sum"then J .sum else if n="sorted"then J .sorted else Y|.type n=>if n="range"then J .range else if n="tuple"then J .tuple else if n="list"then J .list else if n="set"then J .set else Y|_=>Y
def lZ(b:St)(z:V):Option Int:=match z with|.t a=>J a.length|.iset a=>J (Ig a).length|.ref i=>(tc b i).map λa=>(a.length:Int)|_=>Y
def qcN(b:Int):Option V:=(Ge (Wo 0 b)).map λu=>.rng 0 b
def qcO(a b:Int):Option V:=(Ge (Wo a b)).map λu=>.rng a b
def f9(z:List V):Option V:=match z with|[b]=>(qh b).bind qcN|[a,b]=>(qh a).bind λa=>(qh b).bind (qcO a)|_=>Y
def v9(is:List Int):Option V:=(Ge (is.all λi=>decide (0<=i)&&decide (i<=2))).map λu=>.iset is
def bQ(is:List Int):Option (List V):=(Ge (ac is.length 60)).map λu=>(Yq is).map V.int
def A9(z:O):Option (List V):=match z with|.list a=>(ki a).bind bQ|.idict a=>bQ (a.map λx=>x.1)|_=>Y
def qX(a:St)(z:V):Option (List V):=match z with|.iset b=>J ((Ig b).map V.int)|.ref i=>(a[i]?).bind A9|_=>Y
noncomputable def kD(a:St)(v:Option V):Option (V×St):=v.map λv=>(v,a)
def qay(f:Int->Int->Int)(p:V×V):Option V:=(Iv f p.1 p.2).map .int
def sR(b:Bi)(a:List V)(c:St):Option (V×St):=match b with|.len=>kD c (((one a).bind (lZ c)).map .int)|.max=>kD c ((two a).bind (qay max))|.min=>kD c ((two a).bind (qay min))|.sum=>kD c (((((one a).bind sw).bind (tc c)).bind ki).map λis=>.int is.sum)|.sorted=>((one a).bind (qX c)).bind λd=>gj d c|.range=>kD c (f9 a)|.tuple=>((one a).bind λx=>PP x c).bind λd=>Bp d c|.list=>((one a).bind xx).bind λd=>gj d c|.set=>kD c ((((one a).bind λx=>K1 x c).bind ki).bind v9)
def qds(f:wa)(a:List V)(c:St):Option (V×St):=(OD f).bind λb=>sR b a c
set_option genCtorIdx true in
inductive Lm where
 |append|extend|insert|index|count
noncomputable def Zt(n:Bb):Option Lm:=if n="append"then J .append else if n="extend"then J .extend else if n="insert"then J .insert else if n="index"then J .index else if n="count"then J .count else Y
def Q7(is:List Int)(k:Int):Option Int:=(Ge (is.contains k&&is.all (λi=>decide (-1000<i)&&decide (i<1000))&&ac is.length 60)).map λu=>(is.idxOf k:Int)
def qcn(a:List V)(k:Int)(v:V):Option (List V):=(Ge (decide (0<=k/\k<=a.length)&&Td a.length)).map λu=>a.take k.toNat++v::a.drop k.toNat
def qaB(m:Lm)(a:List V)(d:St)(b:List V):Option (List V):=match m with|.append=>(one a).bind λv=>(Ge (Td b.length)).map λu=>b++[v]|.extend=>((one a).bind λx=>CW x d).bind λc=>(Ge (Td (b.length+c.length))).map λu=>b++c|.insert=>(two a).bind λp=>(qh p.1).bind λk=>qcn b k p.2|_=>Y
def qeT(m:Lm)(a:List V)(b:List V):Option V:=match m with|.index=>((one a).bind qh).bind λk=>(ki b).bind λis=>(Q7 is k).map .int|.count=>((one a).bind qh).bind λk=>(ki b).map λis=>.int (is.count k)|_=>Y
noncomputable def sZ(z:Lm):Bool:=match z with|.index=>ua|.count=>ua|_=>Z
def NT(m:Lm)(i:Nat)(a:List V)(b:St)(c:List V):Option (V×St):=match sZ m with|true=>(qaB m a b c).map λd=>(.none,b.set i (.list d))|false=>(qeT m a c).map λv=>(v,b)
def QT(i:Nat)(n:Bb)(a:List V)(b:St):Option (V×St):=(Zt n).bind λm=>(tc b i).bind (NT m i a b)
section
variable (W:Ch) (R:Nat->List V->St->Option (V×St))
noncomputable def EE(a:St)(p:V×St):Option (V×St):=match p.1 with|.none=>J (.ref (a.length+1),p.2)|_=>Y
def cG(f:V)(b:List V)(c:St):Option (V×St):=match f with
 |.k (.ref a)=>match W.init a with|some g=>(R g (.ref (c.length+1)::b) (c++[.h [],.inst a c.length])).bind (EE c)|Y=>R a b c
 |.k v=>qds v b c|_=>Y
inductive cW where
 |fn (f:Nat) (o:V)|lm (i:Nat)
noncomputable def HE(c:Nat)(n:Bb)(o:V)(z:Option V):Option cW:=match z with|Y=>(W.meth c n).map λf=>.fn f o|some u=>Y
def qcM(n:Bb)(a:St)(i:Nat)(z:O):Option cW:=match z with|.inst c d=>(Vq a d).bind λb=>HE W c n (.ref i) (Pf b n)|.list u=>J (.lm i)|_=>Y
def cu(o:V)(n:Bb)(a:St):Option cW:=(sw o).bind λi=>(a[i]?).bind (qcM W n a i)
def ky(c:cW)(n:Bb)(a:List V)(b:St):Option (V×St):=match c with|.fn f o=>R f (o::a) b|.lm i=>QT i n a b
def X6(a:List V)(k:Int)(b:St):Option (V×St):=(Ge (decide (0<=k/\k<1000))).bind λu=>gj (a.take k.toNat) b
def KS(v:V)(k:Int)(b:St):Option (V×St):=match v with|.k (.ref a)=>(W.scr a).bind λc=>X6 (c.map V.int) k b|.ref i=>(tc b i).bind λc=>X6 c k b|_=>Y
def J9(f:Nat)(a:St)(j:Nat):Option Nat:=(wi a j).bind λp=>(Vq a p.2).bind λu=>if W.sup p.1=J f then J j else Y
def mG(k x:V)(b:St):Option (V×St):=(qh k).map λa=>(.ref b.length,b++[.idict [(a,x)]])
def nG(k l x y:V)(c:St):Option (V×St):=(iK k).bind λa=>(iK l).bind λb=>if a=b then Y else J (.ref c.length,c++[.h [(a,x),(b,y)]])
def oG(c b:List V)(a:St):Option (V×St):=match c with
 |[]=>(match b with|[]=>J (.ref a.length,a++[.idict []])|_=>Y)
 |[k]=>(one b).bind λx=>mG k x a|[k,l]=>(two b).bind λp=>nG k l p.1 p.2 a|_=>Y
noncomputable def Zk(a:Me)(i:Nat):Option V:=(a[i]?).bind id
noncomputable def ln{a:Type}(b:Bool)(x y:Option a):Option a:=match b with|true=>x|false=>y
mutual
noncomputable def evX(z:X)(d:Me)(g:St):Option (V×St):=match z,d,g with
 |.x i,h,e=>(Zk h i).map λv=>(v,e)|.k v,y,e=>J (.k v,e)|.none,y,e=>J (.none,e)|.bool b,y,e=>J (.bool b,e)|.int i,y,e=>J (.int i,e)|.str s,y,e=>J (.str s,e)|.attr o n,h,e=>(evX o h e).bind λp=>(Ni W p.1 n p.2).map λv=>(v,p.2)|.sub o i,h,e=>(evX o h e).bind λp=>(evX i h p.2).bind λq=>(cD p.1 q.1 q.2).map λv=>(v,q.2)|.cut o k,h,e=>(evX o h e).bind λp=>KS W p.1 k p.2|.bin c a b,h,e=>(evX a h e).bind λp=>(evX b h p.2).bind λq=>jS c p.1 q.1 q.2|.neg a,h,e=>(evX a h e).bind λp=>(qh p.1).map λi=>(.int (-i),p.2)|.cmp c a b,h,e=>(evX a h e).bind λp=>(evX b h p.2).bind λq=>(lq c p.1 q.1 q.2).map λr=>(.bool r,q.2)|.cmp2 f j a b c,h,e=>(evX a h e).bind λp=>(evX b h p.2).bind λq=>(lq f p.1 q.1 q.2).bind λr=>
  ln r ((evX c h q.2).bind λu=>(lq j q.1 u.1 u.2).map λr=>(.bool r,u.2)) (J (.bool ua,q.2))
 |.ite t a b,h,e=>(Wt t h e).bind λp=>ln p.1 (evX a h p.2) (evX b h p.2)|.t a,h,e=>(Mi a h e).bind λp=>Bp p.1 p.2|.list a,h,e=>(Mi a h e).bind λp=>gj p.1 p.2|.dict a b,h,e=>(Mi a h e).bind λp=>(Mi b h p.2).bind λq=>oG p.1 q.1 q.2|.comp k a f j rest l,h,e=>(evX a h e).bind λp=>(fj p.1 p.2).bind λm=>
  (Ro 5000 m 0 (λv e=>(Kj f v (h++Ia k Y)).bind λb=>(my j b e).bind λq=>ln q.1 (evRest rest (λh e=>evX l h e) b q.2) (J ([],q.2))) p.2).bind λq=>gj q.1 q.2
 |.call f a,h,e=>(evX f h e).bind λp=>(Mi a h p.2).bind λq=>cG W R p.1 q.1 q.2|.meth o n a,h,e=>(evX o h e).bind λp=>(cu W p.1 n p.2).bind λc=>(Mi a h p.2).bind λq=>ky R c n q.1 q.2|.sup i f a,h,e=>(((Zk h i).bind sw).bind (J9 W f e)).bind λj=>(Mi a h e).bind λq=>R f (.ref j::q.1) q.2
noncomputable def Mi(z:List X)(y:Me)(j:St):Option (List V×St):=match z,y,j with|[],u,a=>J ([],a)|x::c,b,a=>(evX x b a).bind λp=>(Mi c b p.2).map λq=>(p.1::q.1,q.2)
noncomputable def Wt(z:B)(y:Me)(u:St):Option (Bool×St):=match z,y,u with|.and a b,c,d=>(Wt a c d).bind λp=>ln p.1 (Wt b c p.2) (J (ua,p.2))|.or a b,c,d=>(Wt a c d).bind λp=>ln p.1 (J (Z,p.2)) (Wt b c p.2)|.not a,c,d=>(Wt a c d).map λp=>(!p.1,p.2)|.wK x,c,d=>(evX x c d).bind λp=>(gp p.1).map λb=>(b,p.2)
noncomputable def my(z:List B)(y:Me)(j:St):Option (Bool×St):=match z,y,j with|[],u,a=>J (Z,a)|t::c,b,a=>(Wt t b a).bind λp=>ln p.1 (my c b p.2) (J (ua,p.2))
noncomputable def evRest(z:List G)(y:(Me->St->Option (V×St)))(u:Me)(j:St):Option (List V×St):=match z,y,u,j with
 |[],a,e,b=>(a e b).map λp=>([p.1],p.2)|.mk c f g::h,a,e,b=>(evX c e b).bind λp=>(fj p.1 p.2).bind λi=>
  Ro 5000 i 0 (λv b=>(Kj f v e).bind λd=>(my g d b).bind λq=>ln q.1 (evRest h a d q.2) (J ([],q.2))) p.2
end
mutual
noncomputable def IK(z:T)(y:V)(j:Me)(d:St):Option (Me×St):=match z,y,j,d with|.x i,v,a,b=>(Ge (ac i a.length)).map λu=>(a.set i (J v),b)|.t c,v,a,b=>(xx v).bind λe=>dK c e a b|.attr o n,v,a,b=>(evX W R o a b).bind λp=>(Qn W p.1 n v p.2).map λb=>(a,b)|.sub o i,v,a,b=>(evX W R o a b).bind λp=>(evX W R i a p.2).bind λq=>(Ci p.1 q.1 v q.2).map λb=>(a,b)
noncomputable def dK(q:List T)(d:List V)(f:Me)(g:St):Option (Me×St):=match q,d,f,g with|[],[],a,b=>J (a,b)|t::c,v::e,a,b=>(IK t v a b).bind λp=>dK c e p.1 p.2|u,y,z,j=>Y
end
def YV(z:List (List V)):Option (List V):=match z with|[b,a,c]=>(Ge (decide (b.length=a.length/\a.length=c.length))).map λu=>(b.zip (a.zip c)).map λp=>V.t [p.1,p.2.1,p.2.2]|_=>Y
noncomputable def Wn(z:List V):Option (List (List V)):=match z with|[]=>J []|v::r=>(xx v).bind λa=>(Wn r).map λx=>a::x
noncomputable def AL(a:He)(x y:Int):Option Int:=match a with|.Add=>J (x+y)|.Sub=>J (x - y)|_=>Y
noncomputable def rG(z:V):Option Unit:=match z with|.none=>J ()|.bool u=>J ()|_=>Y
noncomputable def nJ(p:Me×St):Fl×Me×St:=(.next,p.1,p.2)
mutual
noncomputable def eE(d:S)(f:Me)(g:St):Option (Fl×Me×St):=match d,f,g with
 |.assign t e,c,h=>(evX W R e c h).bind λp=>(IK W R t p.1 c p.2).map nJ|.aug o i b e,c,h=>(evX W R o c h).bind λp=>(evX W R i c p.2).bind λq=>(cD p.1 q.1 q.2).bind λa=>(evX W R e c q.2).bind λu=>
  (qh a).bind λx=>(qh u.1).bind λy=>(AL b x y).bind λz=>(Ci p.1 q.1 (.int z) u.2).map λh=>(.next,c,h)
 |.expr e,c,h=>(evX W R e c h).bind λp=>(rG p.1).map λj=>(.next,c,p.2)|.ifs t a b,c,h=>(Wt W R t c h).bind λp=>ln p.1 (uv a c p.2) (uv b c p.2)|.whil t b,c,h=>JB 5000 (Wt W R t) (λc h=>uv b c h) c h|.fors t e b,c,h=>(evX W R e c h).bind λp=>(fj p.1 p.2).bind λi=>Gq 5000 i 0 (λv c h=>(ql t v c).bind λa=>uv b a h) c p.2|.forz t j b,c,h=>(Mi W R j c h).bind λp=>((Wn p.1).bind YV).bind λi=>Gq 5000 (.st i) 0 (λv c h=>(ql t v c).bind λa=>uv b a h) c p.2|.ret e,c,h=>(evX W R e c h).map λp=>(.ret p.1,c,p.2)
noncomputable def uv(z:List S)(y:Me)(u:St):Option (Fl×Me×St):=match z,y,u with|[],a,b=>J (.next,a,b)|s::c,a,b=>(eE s a b).bind (dD (uv c))
end
noncomputable def EY(p:Fl×Me×St):V×St:=match p.1 with|.ret v=>(v,p.2.2)|.next=>(.none,p.2.2)
def yP(b:Fn)(a:List V)(c:St):Option (V×St):=
 (Ge (Ub a.length b.params)).bind λu=>(uv W R b.body (a.map J++Ia (b.slots - b.params) Y) c).map EY
end
noncomputable def vl(W:Ch)(b:Nat->Option Fn)(j:Nat)(q:Nat)(d:List V)(f:St):Option (V×St):=match j,q,d,f with|0,u,y,z=>Y|n+1,a,c,e=>(b a).bind λg=>yP W (vl W b n) g c e
end
noncomputable def c8:List (Nat×List (String×Nat)):=[(256,[("new_var",127),("size",134),("dom",141),("low",155),("high",162),("has",169),("value",183),("width",190),("holds",197),("enter",204),("strike",211),("decide",218),("fail",225),("push",232)]),(357,[("members_at",328),("place",335),("fill",342),("move_along",349),("reached",354)]),(435,[("want",384),("options_of",389),("propagate",396),("strike_once",401),("confined",408),("lacking",413),("strike_option",418),("check",425),("told",432)])]
noncomputable def Q5:List (Nat×List String):=[(256,["domains","firsts","trail","marks","news","speaker","is_failed","clash"]),(357,["able","lows","highs","at","counts"]),(435,["number","scope","strength","taken","rows","wanted","lows","highs","has_twins"])]
noncomputable def tB:List (Nat×Nat):=[(256,120),(357,323),(435,377)]
noncomputable def D1:List (Nat×Nat):=[(435,274)]
def Uv:List (Nat×List (Bb×Nat)):=c8.map λp=>(p.1,p.2.map λq=>(Hg q.1,q.2))
def jq:List (Nat×List Bb):=Q5.map λp=>(p.1,p.2.map Hg)
def ux(scr:Nat->Option (List Int)):Ch where
 meth:=λc n=>match Uv.lookup c with|some ms=>ms.lookup n|none=>Y
 init:=λc=>tB.lookup c
 attr:=λc n=>match jq.lookup c with|some ns=>ns.contains n|none=>ua
 sup:=λc=>D1.lookup c
 scr:=scr
def db:Ch:=ux λu=>Y
set_option maxHeartbeats 200000
set_option genCtorIdx true in
inductive W where
 |none|bool (b:Bool)|int (i:Int)|str (s:Bb)|k (v:wa)|rng (a b:Int)|iset (xs:List Int)|t (xs:List W)|l (xs:List W)|dic (ks:List Int) (vs:List W)|ref (i:Nat)|fld (i:Nat) (n:Bb)|o (w:W)
structure OF where
 cls:Option Nat
 fs:List (Bb×W)
noncomputable abbrev ub:=List OF
noncomputable abbrev fc:=List (Option W)
inductive SF where
 |q (t:T) (e:X)|aug (o:X) (n:Bb) (i:X) (op:He) (e:X)|expr (e:X)|app (o:X) (m:Bb) (e:X)|ins (o k e:X)|ifs (t:B) (a b:List SF)|whil (t:B) (b:List SF)|fors (t:CT) (e:X) (b:List SF)|forz (t:CT) (es:List X) (b:List SF)|ret (e:X)|frz (i:Nat)|blk (i:Nat)
inductive eW where
 |next|ret (w:W)
set_option genCtorIdx true in
inductive Md where
 |all|pure|sub
structure Rg where
 params:Nat
 slots:Nat
 mode:Md
 body:List SF
abbrev io:=Option (W×ub)
abbrev kR:=Option (List W×ub)
abbrev C3:=Option (Bool×ub)
abbrev W3:=Option (fc×ub)
abbrev al:=Option (eW×fc×ub)
abbrev Yp:=Nat->List W->ub->io
noncomputable def de(z:List (Bb×W))(y:Bb):Option W:=match z,y with|[],u=>Y|(k,v)::r,x=>if k=x then J v else de r x
noncomputable def jj(z:List (Bb×W))(y:Bb)(u:W):List (Bb×W):=match z,y,u with|[],x,w=>[(x,w)]|(k,v)::r,x,w=>if k=x then(k,w)::r else(k,v)::jj r x w
noncomputable def By(j:List Int)(q:List W)(d:Int):Option W:=match j,q,d with|k::a,v::b,x=>if k=x then J v else By a b x|u,y,z=>Y
noncomputable def PJ(z:List Int)(y:Int):List Int:=match z,y with|[],x=>[x]|k::a,x=>if k=x then k::a else k::PJ a x
noncomputable def NJ(j:List Int)(q:List W)(d:Int)(f:W):List W:=match j,q,d,f with|k::b,v::a,x,w=>if k=x then w::a else v::NJ b a x w|u,y,z,w=>[w]
noncomputable def Ua(z:W):Option Int:=match z with|.int k=>J k|_=>Y
noncomputable def br(z:W):Option Bb:=match z with|.str k=>J k|_=>Y
noncomputable def Li(z:W):Option Bool:=match z with|.bool b=>J b|_=>Y
noncomputable def ng(z:W):Option (List W):=match z with|.t a=>J a|_=>Y
noncomputable def Bk(z:W):Option Nat:=match z with|.ref i=>J i|_=>Y
noncomputable def Hl(z:W):Option (List W):=match z with|.l a=>J a|_=>Y
noncomputable def sK(z:W):Option W:=match z with|.o c=>J c|_=>Y
noncomputable def xT(z:W):Bool:=match z with|.o u=>Z|_=>ua
noncomputable def qaw(z:W):Bool:=match z with|.k u=>Z|_=>ua
noncomputable def nb(z:W):Bool:=match z with|.fld u y=>ua|.o u=>ua|_=>Z
noncomputable def BA(z:List W):Bool:=match z with|[]=>Z|w::a=>nb w&&BA a
def kf(w:W):Option W:=(Ge (nb w)).map λu=>w
def Tr(a:List W):Option (List W):=(Ge (BA a)).map λu=>a
def ii(a:ub)(i:Nat)(n:Bb):Option W:=(a[i]?).bind λo=>de o.fs n
def pj(w:W)(a:ub):Option W:=match w with|.o c=>J c|.fld i n=>(ii a i n).bind sK|w=>J w
def Pe(w:W)(a:ub):Option (List W):=(pj w a).bind Hl
def qE(a:List W)(k:Int):Option W:=(Ol a.length k).bind λi=>a[i]?
noncomputable def kO(o:OF):Option (List (Bb×W)):=match o.cls with|none=>J o.fs|some u=>Y
def aF(a:ub)(i:Nat)(n:Bb):Option W:=((a[i]?).bind kO).bind λb=>(de b n).bind kf
def qcW(a:W)(c:ub)(z:W):Option W:=match z with|.t b=>(Ua a).bind (qE b)|.l b=>(Ua a).bind (qE b)|.dic b d=>(Ua a).bind (By b d)|.ref i=>(br a).bind (aF c i)|_=>Y
def nV(o b:W)(a:ub):Option W:=(pj o a).bind (qcW b a)
noncomputable def V0(a:List W)(v:W)(i:Nat):Option (List W):=if i<a.length then J (a.set i v)else Y
def kP(k:Int)(v:W)(z:W):Option W:=match z with|.l a=>(Ol a.length k).bind λi=>(V0 a v i).map .l|.dic a b=>(Ge (Td a.length)).map λu=>.dic (PJ a k) (NJ a b k v)|_=>Y
def Fm(a:ub)(i:Nat)(n:Bb)(w:W):ub:=match a[i]? with|some o=>a.set i ⟨o.cls,jj o.fs n w⟩|none=>a
def qbB(i:Nat)(n:Bb)(w:W):Option W:=ln (xT w) (J (.fld i n)) (ln (qaw w) Y (J w))
def Kx(V:Ch)(n:Bb)(a:ub)(i:Nat):Option W:=(a[i]?).bind λo=>o.cls.bind λc=>(Ge (V.attr c n)).bind λu=>(de o.fs n).bind (qbB i n)
def RJ(a:List (Bb×W))(n:Bb)(w:W):Option (List (Bb×W)):=ln (match de a n with|some w=>xT w|none=>ua) Y (J (jj a n w))
def Co(V:Ch)(n:Bb)(w:W)(a:ub)(i:Nat):Option ub:=(a[i]?).bind λo=>o.cls.bind λc=>(Ge (V.attr c n&&ac o.fs.length 900)).bind λu=>(RJ o.fs n w).map λb=>a.set i ⟨J c,b⟩
noncomputable def Dl(z:List W):Option (List Int):=match z with|[]=>J []|w::r=>(Ua w).bind λi=>(Dl r).map λx=>i::x
noncomputable def Oe(f:W->Option Vf)(z:List W):Option (List Vf):=match z with|[]=>J []|x::a=>(f x).bind λd=>(Oe f a).map λx=>d::x
def YD(z:W):Option Vf:=match z with|.none=>J .none|.bool b=>J (.bool b)|.int i=>J (.int i)|.str s=>if Ip s then J (.str s)else Y|_=>Y
noncomputable def Zd(z:Nat)(y:W):Option Vf:=match z,y with|0,w=>YD w|n+1,w=>match w with|.t a=>(Oe (Zd n) a).map .tuple|.l a=>(Oe (Zd n) a).map .list|.o w=>(Hl w).bind λa=>(Oe (Zd n) a).map .list|w=>YD w
noncomputable def Fz(z:W):Option Bool:=match z with|.none=>J Z|.t u=>J ua|.l u=>J ua|.ref u=>J ua|.bool u=>J ua|.int u=>J ua|_=>Y
def qax(a b:W):Option Bool:=match b with|.none=>Fz a|_=>Y
def Ph(a b:W):Option Bool:=match b with|.none=>(Fz a).map (λx=> !x)|.bool y=>(Li a).map (λx=>x !=y)|_=>Y
def qcl(e:Vf)(a:List W):Option Bool:=(Oe (Zd 5) a).map λb=>b.any λd=>Yc d e
def NW(a:W)(z:W):Option Bool:=match z with
 |.dic b u=>(Ua a).map λk=>decide (k∈b)|.l b=>match a with|.int k=>qcl (.int k) b|.t c=>(Zd 5 (.t c)).bind λe=>qcl e b|_=>Y
 |_=>Y
def qcm(a b:W)(c:ub):Option Bool:=(pj b c).bind (NW a)
def tE{c:Type}(f:Int->Int->c)(a b:W):Option c:=(Ua a).bind λx=>(Ua b).map (f x)
def l4(a b:W):Option Bool:=(Zd 6 a).bind λd=>(Zd 6 b).map λe=>Yc d e
def aM(d:xr)(a b:W)(c:ub):Option Bool:=match d with|.Lt=>tE (λx y=>decide (x<y)) a b|.LtE=>tE (λx y=>decide (x<=y)) a b|.Gt=>tE (λx y=>decide (y<x)) a b|.GtE=>tE (λx y=>decide (y<=x)) a b|.Eq=>l4 a b|.NotEq=>(l4 a b).map (λx=> !x)|.Is=>qax a b|.IsNot=>Ph a b|.In=>qcm a b c|.NotIn=>(Ua a).bind λk=>(qcm (.int k) b c).map λx=> !x
def So(a:List W)(b:ub):io:=(Ge (Td a.length)).map λu=>(.l a,b)
def cH(a:List W)(b:ub):io:=(Ge (Td a.length)).map λu=>(.t a,b)
def ZX(a b:W)(c:ub):io:=match a with|.int x=>(Ua b).map λy=>(.int (x+y),c)|.t d=>(ng b).bind λe=>cH (d++e) c|a=>(Pe a c).bind λd=>(Pe b c).bind λe=>So (d++e) c
def P4(f:Int->Int->Option Int)(a b:W)(c:ub):io:=(Ua a).bind λx=>(Ua b).bind λy=>(f x y).map λz=>(.int z,c)
def mY(d:He)(a b:W)(c:ub):io:=match d with|.Add=>ZX a b c|.Sub=>P4 (λx y=>J (x - y)) a b c|.FloorDiv=>P4 SS a b c|.Mod=>P4 Lz a b c|.Pow=>P4 qU a b c|_=>Y
noncomputable def sP(a b:Int):List W:=(Ka (b - a).toNat).map λ(i:Nat)=>W.int (a+(i:Int))
def DH(a b:Int):Option (List W):=(Ge (Wo a b)).map λu=>sP a b
def du(w:W)(c:ub):Option (List W):=match w with|.t a=>J a|.rng a b=>DH a b|w=>Pe w c
def qej(w:W)(a:ub):Option (List W):=match w with|.t b=>J b|w=>Pe w a
def Bl(a:List W):Option (List W):=(Ge (ac a.length 4900)).map λu=>a
def yN(z:W):Option (List W):=match z with|.t c=>J c|.rng a b=>DH a b|.l c=>J c|_=>Y
def zy(w:W):Option (List W):=(yN w).bind Bl
def mZ(w:W)(b:ub):Option Int:=match w with|.t a=>J a.length|.iset a=>J (Ig a).length|w=>(Pe w b).map λa=>(a.length:Int)
def i9(b:Int):Option W:=(Ge (Wo 0 b)).map λu=>.rng 0 b
def j9(a b:Int):Option W:=(Ge (Wo a b)).map λu=>.rng a b
def O0(z:List W):Option W:=match z with|[b]=>(Ua b).bind i9|[a,b]=>(Ua a).bind λa=>(Ua b).bind (j9 a)|_=>Y
def oX(is:List Int):Option W:=(Ge (is.all λi=>decide (0<=i)&&decide (i<=2))).map λu=>.iset is
def cQ(is:List Int):Option (List W):=(Ge (ac is.length 60)).map λu=>(Yq is).map W.int
def UC(z:W):Option (List W):=match z with|.l a=>(Dl a).bind cQ|.dic b u=>cQ b|.iset a=>J ((Ig a).map W.int)|_=>Y
noncomputable def zx(a:ub)(w:Option W):io:=w.map λw=>(w,a)
def qaz(f:Int->Int->Int)(p:W×W):Option W:=(tE f p.1 p.2).map .int
def b4(b:Bi)(a:List W)(c:ub):io:=match b with|.len=>zx c (((one a).bind λx=>mZ x c).map .int)|.max=>zx c ((two a).bind (qaz max))|.min=>zx c ((two a).bind (qaz min))|.sum=>zx c ((((one a).bind λx=>Pe x c).bind Dl).map λis=>.int is.sum)|.sorted=>(((one a).bind λx=>pj x c).bind UC).bind λd=>So d c|.range=>zx c (O0 a)|.tuple=>((one a).bind λx=>du x c).bind λd=>cH d c|.list=>((one a).bind ng).bind λd=>So d c|.set=>zx c ((((one a).bind λx=>qej x c).bind Dl).bind oX)
def qeU(m:Lm)(a:List W)(b:List W):Option W:=match m with|.index=>((one a).bind Ua).bind λk=>(Dl b).bind λis=>(Q7 is k).map .int|.count=>((one a).bind Ua).bind λk=>(Dl b).map λis=>.int (is.count k)|_=>Y
def qaA(o:W)(n:Bb)(a:List W)(b:ub):io:=(Zt n).bind λm=>(Pe o b).bind λc=>zx b (qeU m a c)
section
variable (V:Ch) (Q:Nat->Option (List Int)) (R:Yp)
def W6(k:Int)(b:ub)(z:W):io:=match z with|.k (.ref a)=>(Q a).bind λc=>(Ge (decide (0<=k/\k<1000))).bind λu=>So ((c.map W.int).take k.toNat) b|_=>Y
noncomputable def YG(i:Nat)(p:W×ub):io:=match p.1 with|.none=>J (.ref i,p.2)|_=>Y
def dG(c:List W)(d:ub)(z:W):io:=match z with
 |.k (.ref a)=>(Tr c).bind λc=>match V.init a with|some g=>(R g (.ref d.length::c) (d++[⟨J a,[]⟩])).bind (YG d.length)|none=>R a c d
 |.k v=>(OD v).bind λb=>b4 b c d|_=>Y
noncomputable def TW(c:Nat)(n:Bb)(z:Option W):Option Nat:=match z with|none=>V.meth c n|some u=>Y
noncomputable def Sx(a:ub)(i:Nat):Option (Nat×List (Bb×W)):=(a[i]?).bind λo=>o.cls.map λc=>(c,o.fs)
inductive ED where
 |fn (f i:Nat)|lm (o:W)
def xU(n:Bb)(w:W)(a:ub):Option ED:=match w with|.ref i=>(Sx a i).bind λp=>(TW V p.1 n (de p.2 n)).map λf=>.fn f i|o=>(Pe o a).map λu=>.lm o
def qbs(c:ED)(n:Bb)(a:List W)(b:ub):io:=match c with|.fn f i=>R f (.ref i::a) b|.lm o=>qaA o n a b
noncomputable def G1(f:Nat)(a:ub)(j:Nat):Option Nat:=(Sx a j).bind λp=>if V.sup p.1=J f then J j else Y
def pM(d e:List W)(c:ub):io:=(two d).bind λk=>(two e).bind λv=>(br k.1).bind λa=>(br k.2).bind λb=>if a=b then Y else J (.ref c.length,c++[⟨Y,[(a,v.1),(b,v.2)]⟩])
noncomputable def Em(j:List Nat)(q:List W)(d:fc):Option fc:=match j,q,d with|[],[],a=>J a|i::is,v::b,a=>if i<a.length then Em is b (a.set i (J v))else Y|u,y,z=>Y
def Lx(z:CT)(y:W)(u:fc):Option fc:=match z,y,u with|.x i,v,a=>if i<a.length then J (a.set i (J v))else Y|.t is,v,a=>(ng v).bind λb=>Em is b a
noncomputable def xq(a:fc)(i:Nat):Bool:=match a[i]? with|some Y=>Z|_=>ua
noncomputable def Ul(j:List Nat)(q:List W)(d:fc):Option fc:=match j,q,d with|[],[],a=>J a|i::is,v::b,a=>if xq a i then Ul is b (a.set i (J v))else Y|u,y,z=>Y
def Xu(z:CT)(y:W)(u:fc):Option fc:=match z,y,u with|.x i,v,a=>if xq a i then J (a.set i (J v))else Y|.t is,v,a=>(ng v).bind λb=>Ul is b a
noncomputable def Yr(f:W->ub->kR)(z:List W)(y:ub):kR:=match z,y with|[],a=>J ([],a)|x::b,a=>(f x a).bind λp=>(Yr f b p.2).map λq=>(p.1++q.1,q.2)
noncomputable def Iw(k:fc->ub->al)(p:eW×fc×ub):al:=match p.1 with|.next=>k p.2.1 p.2.2|.ret u=>J p
noncomputable def Ov(f:W->fc->ub->al)(z:List W)(y:fc)(u:ub):al:=match z,y,u with|[],a,b=>J (.next,a,b)|x::c,a,b=>(f x a b).bind (Iw (Ov f c))
noncomputable def Pv(t:fc->ub->C3)(f:fc->ub->al)(z:Nat)(j:fc)(q:ub):al:=match z,j,q with|0,u,y=>Y|n+1,a,b=>(t a b).bind λp=>match p.1 with|false=>J (.next,a,p.2)|true=>(f a p.2).bind (Iw (Pv t f n))
noncomputable def Ke(a:fc)(i:Nat):Option W:=(a[i]?).bind id
mutual
noncomputable def fX(z:X)(d:fc)(g:ub):io:=match z,d,g with
 |.x i,h,e=>(Ke h i).map λw=>(w,e)|.k v,y,e=>J (.k v,e)|.none,y,e=>J (.none,e)|.bool b,y,e=>J (.bool b,e)|.int i,y,e=>J (.int i,e)|.str s,y,e=>J (.str s,e)|.attr o n,h,e=>(fX o h e).bind λp=>((Bk p.1).bind (Kx V n p.2)).map λv=>(v,p.2)|.sub o i,h,e=>(fX o h e).bind λp=>(fX i h p.2).bind λq=>(nV p.1 q.1 q.2).map λv=>(v,q.2)|.cut o k,h,e=>(fX o h e).bind λp=>W6 Q k p.2 p.1|.bin c a b,h,e=>(fX a h e).bind λp=>(fX b h p.2).bind λq=>mY c p.1 q.1 q.2|.neg a,h,e=>(fX a h e).bind λp=>(Ua p.1).map λi=>(.int (-i),p.2)|.cmp c a b,h,e=>(fX a h e).bind λp=>(fX b h p.2).bind λq=>(aM c p.1 q.1 q.2).map λr=>(.bool r,q.2)|.cmp2 f j a b c,h,e=>(fX a h e).bind λp=>(fX b h p.2).bind λq=>(aM f p.1 q.1 q.2).bind λr=>
  ln r ((fX c h q.2).bind λu=>(aM j q.1 u.1 u.2).map λr=>(.bool r,u.2)) (J (.bool ua,q.2))
 |.ite t a b,h,e=>(fT t h e).bind λp=>ln p.1 (fX a h p.2) (fX b h p.2)|.t a,h,e=>(xG a h e).bind λp=>cH p.1 p.2|.list a,h,e=>(xG a h e).bind λp=>So p.1 p.2|.dict b f,h,e=>(xG b h e).bind λp=>(xG f h p.2).bind λq=>pM p.1 q.1 q.2|.comp k b j l rest m,h,e=>(fX b h e).bind λp=>(zy p.1).bind λa=>
  (Yr (λv e=>(Xu j v (h++Ia k Y)).bind λf=>(DM l f e).bind λq=>ln q.1 (vG rest (λh e=>(fX m h e).bind λr=>(kf r.1).map λw=>(w,r.2)) f q.2) (J ([],q.2))) a p.2).bind λq=>So q.1 q.2
 |.call f a,h,e=>(fX f h e).bind λp=>(w7 a h p.2).bind λq=>dG V R q.1 q.2 p.1|.meth o n a,h,e=>(fX o h e).bind λp=>(xU V n p.1 p.2).bind λc=>(xG a h p.2).bind λq=>qbs R c n q.1 q.2|.sup i f a,h,e=>(((Ke h i).bind Bk).bind (G1 V f e)).bind λj=>(xG a h e).bind λp=>R f (.ref j::p.1) p.2
noncomputable def xG(z:List X)(y:fc)(j:ub):kR:=match z,y,j with|[],u,a=>J ([],a)|x::c,b,a=>(fX x b a).bind λp=>(kf p.1).bind λw=>(xG c b p.2).map λq=>(w::q.1,q.2)
noncomputable def w7(z:List X)(y:fc)(j:ub):kR:=match z,y,j with|[],u,a=>J ([],a)|x::c,b,a=>(fX x b a).bind λp=>(w7 c b p.2).map λq=>(p.1::q.1,q.2)
noncomputable def fT(z:B)(y:fc)(u:ub):C3:=match z,y,u with|.and a b,c,d=>(fT a c d).bind λp=>ln p.1 (fT b c p.2) (J (ua,p.2))|.or a b,c,d=>(fT a c d).bind λp=>ln p.1 (J (Z,p.2)) (fT b c p.2)|.not a,c,d=>(fT a c d).map λp=>(!p.1,p.2)|.wK x,c,d=>(fX x c d).bind λp=>(Li p.1).map λb=>(b,p.2)
noncomputable def DM(z:List B)(y:fc)(j:ub):C3:=match z,y,j with|[],u,a=>J (Z,a)|t::c,b,a=>(fT t b a).bind λp=>ln p.1 (DM c b p.2) (J (ua,p.2))
noncomputable def vG(z:List G)(y:(fc->ub->io))(u:fc)(j:ub):kR:=match z,y,u,j with
 |[],a,e,b=>(a e b).map λp=>([p.1],p.2)|.mk c f g::h,a,e,b=>(fX c e b).bind λp=>(zy p.1).bind λi=>
  Yr (λv b=>(Xu f v e).bind λd=>(DM g d b).bind λq=>ln q.1 (vG h a d q.2) (J ([],q.2))) i p.2
end
def EM(a b:X)(c:fc)(d:ub):io:=(fX V Q R a c d).bind λp=>(kf p.1).bind λw=>(fX V Q R b c p.2).bind λq=>(Ua q.1).bind λk=>(Ge (decide (0<=k/\k<4096))).map λu=>(.o (.l (Ia k.toNat w)),q.2)
def u7(k v:X)(b:fc)(c:ub):io:=(fX V Q R k b c).bind λp=>(Ua p.1).bind λa=>(fX V Q R v b p.2).bind λq=>(kf q.1).map λw=>(.o (.dic [a] [w]),q.2)
def HM(e:X)(a:fc)(b:ub):io:=(fX V Q R e a b).bind λp=>(kf p.1).map λw=>(w,p.2)
noncomputable def zt(b:He)(z:X):Option X:=match z with
 |.list [a]=>(match b with|.Mult=>J a|_=>Y)
 |_=>Y
def fV(z:X)(y:fc)(j:ub):io:=match z,y,j with
 |.list a,f,d=>(xG V Q R a f d).bind λp=>(Ge (Td p.1.length)).map λu=>(.o (.l p.1),p.2)|.dict a b,f,d=>(match a,b with|[],[]=>J (.o (.dic [] []),d)|[k],[v]=>u7 V Q R k v f d|a,b=>HM V Q R (.dict a b) f d)
 |.bin e a b,f,d=>(match zt e a with|some c=>EM V Q R c b f d|none=>HM V Q R (.bin e a b) f d)
 |e,f,d=>HM V Q R e f d
noncomputable def qat(z:List X)(y:fc)(j:ub):kR:=match z,y,j with|[],u,a=>J ([],a)|x::c,b,a=>(fV V Q R x b a).bind λp=>(qat c b p.2).map λq=>(p.1::q.1,q.2)
def Wz(j:Nat)(d v:W)(e:fc)(b:ub)(z:W):W3:=match z with|.o c=>(Ua d).bind λk=>(kP k v c).map λc=>(e.set j (J (.o c)),b)|.ref i=>(br d).bind λs=>((b[i]?).bind kO).bind λa=>(Ge (Td a.length)).bind λu=>(RJ a s v).map λa=>(e,b.set i ⟨Y,a⟩)|_=>Y
def dw(n:Bb)(b v:W)(a:ub)(i:Nat):Option ub:=((ii a i n).bind sK).bind λc=>(Ua b).bind λk=>(kP k v c).map λc=>Fm a i n (.o c)
def Bm(V:Ch)(n:Bb)(a:ub)(w:W):Option Nat:=(Bk w).bind λi=>(Kx V n a i).bind λu=>((ii a i n).bind sK).map λu=>i
def lT(o e:X)(v:W)(a:fc)(b:ub):W3:=match o with|.x j=>(fX V Q R e a b).bind λp=>(Ke a j).bind (Wz j p.1 v a p.2)|.attr o n=>(fX V Q R o a b).bind λp=>(Bm V n p.2 p.1).bind λi=>(fX V Q R e a p.2).bind λq=>(dw n q.1 v q.2 i).map λb=>(a,b)|_=>Y
mutual
noncomputable def fP(z:T)(y:W)(j:fc)(q:ub):W3:=match z,y,j,q with|.x i,v,a,b=>(Ge (ac i a.length)).map λu=>(a.set i (J v),b)|.t c,v,a,b=>(ng v).bind λd=>v7 c d a b|.attr o n,v,a,b=>(fX V Q R o a b).bind λp=>((Bk p.1).bind (Co V n v p.2)).map λb=>(a,b)|.sub o e,v,a,b=>(kf v).bind λv=>lT V Q R o e v a b
noncomputable def v7(q:List T)(d:List W)(f:fc)(g:ub):W3:=match q,d,f,g with|[],[],a,b=>J (a,b)|t::c,v::e,a,b=>(fP t v a b).bind λp=>v7 c e p.1 p.2|u,y,z,j=>Y
end
noncomputable def RY(p:fc×ub):eW×fc×ub:=(.next,p.1,p.2)
def vv(z:W):Option (List W):=match z with|.rng a b=>DH a b|.l a=>J a|_=>Y
def pZ(m:Lm)(v:W)(a:List W):Option (List W):=match m with|.append=>(Ge (Td a.length)).map λu=>a++[v]|.extend=>(vv v).bind λb=>(Ge (Td (a.length+b.length))).map λu=>a++b|_=>Y
def nN(k:Int)(v:W)(a:List W):Option (List W):=(Ge (decide (0<=k/\k<=a.length)&&Td a.length)).map λu=>a.take k.toNat++v::a.drop k.toNat
def cs(w:W):Option (List W):=(sK w).bind Hl
def fY(m:Bb)(o e:X)(a:fc)(d:ub):al:=match o with|.x j=>((Ke a j).bind cs).bind λb=>(fX V Q R e a d).bind λp=>(kf p.1).bind λv=>(Zt m).bind λm=>(pZ m v b).map λc=>(.next,a.set j (J (.o (.l c))),p.2)|.attr o n=>(fX V Q R o a d).bind λq=>(Bm V n q.2 q.1).bind λi=>((ii q.2 i n).bind cs).bind λu=>(fX V Q R e a q.2).bind λp=>(kf p.1).bind λv=>(Zt m).bind λm=>((ii p.2 i n).bind cs).bind λb=>(pZ m v b).map λc=>(.next,a,Fm p.2 i n (.o (.l c)))|_=>Y
def XY(o k e:X)(a:fc)(b:ub):al:=match o with|.x j=>((Ke a j).bind cs).bind λc=>(fX V Q R k a b).bind λq=>(Ua q.1).bind λk=>(fX V Q R e a q.2).bind λp=>(kf p.1).bind λv=>(nN k v c).map λd=>(.next,a.set j (J (.o (.l d))),p.2)|_=>Y
noncomputable def zF(e:X):Option (List X):=match e with|.t a=>J a|_=>Y
def gY(t:T)(e:X)(a:fc)(b:ub):al:=match t with
 |.t c=>(match zF e with|some d=>(qat V Q R d a b).bind λp=>(Ge (Td p.1.length)).bind λu=>(v7 V Q R c p.1 a p.2).map RY|none=>(HM V Q R e a b).bind λp=>(fP V Q R (.t c) p.1 a p.2).map RY)
 |t=>(fV V Q R e a b).bind λp=>(fP V Q R t p.1 a p.2).map RY
def iY(n:Bb)(i e:X)(d:He)(a:fc)(b:ub)(j:Nat):al:=(fX V Q R i a b).bind λq=>(nV (.fld j n) q.1 q.2).bind λc=>(fX V Q R e a q.2).bind λr=>
 (Ua c).bind λx=>(Ua r.1).bind λy=>(AL d x y).bind λz=>(dw n q.1 (.int z) r.2 j).map λb=>(.next,a,b)
noncomputable def sG(z:W):Option Unit:=match z with|.none=>J ()|.bool u=>J ()|_=>Y
noncomputable def M0(z:W):Option W:=match z with|.o c=>J c|.fld u y=>Y|w=>J w
def qbx(e:X)(a:fc)(b:ub):io:=match e with|.x i=>((Ke a i).bind M0).map λw=>(w,b)|e=>HM V Q R e a b
noncomputable def fm(z:List W):Option (List (List W)):=match z with|[]=>J []|w::a=>(ng w).bind λb=>(fm a).map λx=>b::x
def sA(z:List (List W)):Option (List W):=match z with|[b,a,c]=>(Ge (decide (b.length=a.length/\a.length=c.length))).map λu=>(b.zip (a.zip c)).map λp=>W.t [p.1,p.2.1,p.2.2]|_=>Y
variable (O:Nat->fc->ub->al)
mutual
noncomputable def fS(z:SF)(y:fc)(q:ub):al:=match z,y,q with|.q t e,d,f=>gY V Q R t e d f|.aug o n i a e,d,f=>(fX V Q R o d f).bind λp=>(Bm V n p.2 p.1).bind λj=>iY V Q R n i e a d p.2 j|.expr e,d,f=>(fX V Q R e d f).bind λp=>(sG p.1).map λu=>(.next,d,p.2)|.app o m e,d,f=>fY V Q R m o e d f|.ins o k e,d,f=>XY V Q R o k e d f|.ifs t a b,d,f=>(fT V Q R t d f).bind λp=>ln p.1 (iJ a d p.2) (iJ b d p.2)|.whil t b,d,f=>Pv (fT V Q R t) (λd f=>iJ b d f) 5000 d f|.fors t e b,d,f=>(fX V Q R e d f).bind λp=>(zy p.1).bind λc=>Ov (λv d f=>(Lx t v d).bind λa=>iJ b a f) c d p.2|.forz t g b,d,f=>(xG V Q R g d f).bind λp=>(((fm p.1).bind sA).bind Bl).bind λc=>Ov (λv d f=>(Lx t v d).bind λa=>iJ b a f) c d p.2|.ret e,d,f=>(qbx V Q R e d f).map λp=>(.ret p.1,d,p.2)|.frz i,d,f=>((Ke d i).bind sK).map λc=>(.next,d.set i (J c),f)|.blk i,d,f=>O i d f
noncomputable def iJ(z:List SF)(y:fc)(u:ub):al:=match z,y,u with|[],a,b=>J (.next,a,b)|s::c,a,b=>(fS s a b).bind (Iw (iJ c))
end
noncomputable def d7(p:eW×fc×ub):W×ub:=match p.1 with|.ret w=>(w,p.2.2)|.next=>(.none,p.2.2)
end
noncomputable def Lv(j:SF):Bool:=match j with|.whil u y=>Z|.fors u y z=>Z|.forz u y z=>Z|_=>ua
section
variable (V:Ch) (P:Nat->Option SF) (Q:Nat->Option (List Int)) (R:Yp)
noncomputable def Ee(q:Nat)(d:Nat)(f:fc)(g:ub):al:=match q,d,f,g with|0,y,z,j=>Y|n+1,i,a,b=>(P i).bind λs=>(Ge (Lv s)).bind λu=>fS V Q R (Ee n) s a b
def Vo(b:Rg)(a:List W)(c:ub):io:=
 (Ge (Ub a.length b.params)).bind λu=>(iJ V Q R (Ee V P Q R 4) b.body (a.map J++Ia (b.slots - b.params) Y) c).map d7
end
mutual
noncomputable def Hd(z:W):Bool:=match z with|.t a=>Ob a|.l a=>Ob a|.dic u a=>Ob a|.ref u=>ua|_=>Z
noncomputable def Ob(z:List W):Bool:=match z with|[]=>Z|x::a=>Hd x&&Ob a
end
noncomputable def c9(a:ub)(p:W×ub):io:=match p.2 with|[]=>J (p.1,a)|_=>Y
def YO(z:W):Bool:=match z with|.o c=>Hd c|w=>Hd w
noncomputable def Jf(z:List (Bb×W)):Bool:=match z with|[]=>Z|p::a=>YO p.2&&Jf a
noncomputable def oe(z:ub):Bool:=match z with|[]=>Z|o::os=>Jf o.fs&&oe os
def wl(m:Nat)(z:W):Option W:=match z with|.ref i=>if m<=i then J (.ref (i - m))else Y|w=>(Ge (Hd w)).map λu=>w
noncomputable def gB(m:Nat)(z:List W):Option (List W):=match z with|[]=>J []|w::a=>(wl m w).bind λv=>(gB m a).map λx=>v::x
def qfo(m:Nat)(a:ub)(p:W×ub):io:=(Ge (Hd p.1&&oe (p.2.take (a.length - m)))).map λu=>(p.1,a.take m++p.2.take (a.length - m))
noncomputable def uq(z:List W):Option Nat:=match z with|.ref i::u=>J i|_=>Y
def G9(run:List W->ub->io)(a:List W)(b:ub):io:=
 (uq a).bind λm=>(Ge (decide (m<=b.length))).bind λu=>(gB m a).bind λc=>(Ge (oe (b.drop m))).bind λu=>(run c (b.drop m)).bind (qfo m b)
def yt(d:Md)(run b:List W->ub->io)(a:List W)(c:ub):io:=match d with|.all=>run a c|.pure=>(Ge (Ob a)).bind λu=>(b a []).bind (c9 c)|.sub=>G9 run a c
noncomputable def Nb(V:Ch)(P:Nat->Option SF)(b:Nat->Option Rg):Nat->(Nat->Option (List Int))->Yp
 |0,y,z,j,q=>Y|n+1,Q,a,c,e=>(b a).bind λd=>yt d.mode (Vo V P Q (Nb V P b n Q) d) (Vo V P (λu=>Y) (Nb V P b n λu=>Y) d) c e
mutual
noncomputable def aT(c:Nat->S)(z:SF):Option S:=match z with|.q t e=>J (.assign t e)|.aug o n i a e=>J (.aug (.attr o n) i a e)|.expr e=>J (.expr e)|.app o m e=>J (.expr (.meth o m [e]))|.ins o k e=>J (.expr (.meth o "insert" [k,e]))|.ifs t a b=>J (.ifs t (sv c a) (sv c b))|.whil t b=>J (.whil t (sv c b))|.fors t e b=>J (.fors t e (sv c b))|.forz t a b=>J (.forz t a (sv c b))|.ret e=>J (.ret e)|.frz u=>Y|.blk i=>J (c i)
noncomputable def sv(a:Nat->S)(z:List SF):List S:=match z with|[]=>[]|s::b=>match aT a s with|some c=>c::sv a b|none=>sv a b
end
noncomputable def o4(P:Nat->Option SF)(z:Nat)(y:Nat):S:=match z,y with|0,u=>.expr .none|n+1,i=>((P i).bind (aT (o4 P n))).getD (.expr .none)
def u4(P:Nat->Option SF)(a:Rg):Fn:=⟨a.params,a.slots,sv (o4 P 4) a.body⟩
noncomputable def S5:SF:=.fors (.x 5) (.sub (.attr (.x 0) "able") (.x 1)) [.q (.sub (.x 2) (.x 5)) (.t [(.x 1),(.neg (.int 1))]),.app (.x 3) "append" (.x 5)]
noncomputable def T5:SF:=.whil (.wK (.cmp .Lt (.x 4) (.call (.k (.builtin "len")) [(.x 3)]))) [.q (.t [(.x 6),(.x 4)]) (.t [(.sub (.x 3) (.x 4)),(.bin .Add (.x 4) (.int 1))]),.ifs (.wK (.cmp .Lt (.sub (.attr (.x 0) "counts") (.x 6)) (.sub (.attr (.x 0) "highs") (.x 6)))) [.aug (.x 0) "counts" (.x 6) .Add (.int 1),.blk 3353,.ret .none] [],.blk 3354]
noncomputable def U5:SF:=.whil (.wK (.cmp .GtE (.x 6) (.int 0))) [.q (.t [(.x 7),(.x 8)]) (.sub (.x 2) (.x 6)),.q (.sub (.attr (.x 0) "at") (.x 7)) (.x 6),.q (.x 6) (.x 8)]
noncomputable def V5:SF:=.fors (.x 7) (.meth (.x 0) "members_at" [(.x 6)]) [.blk 3355]
noncomputable def W5:SF:=.fors (.x 5) (.sub (.attr (.x 0) "able") (.x 7)) [.ifs (.wK (.cmp .NotIn (.x 5) (.x 2))) [.q (.sub (.x 2) (.x 5)) (.t [(.x 7),(.x 6)]),.app (.x 3) "append" (.x 5)] []]
noncomputable def X5:SF:=.whil (.wK (.cmp .Lt (.x 4) (.call (.k (.builtin "len")) [(.x 3)]))) [.q (.t [(.x 5),(.x 4)]) (.t [(.sub (.x 3) (.x 4)),(.bin .Add (.x 4) (.int 1))]),.blk 3422]
noncomputable def Y5:SF:=.fors (.x 6) (.call (.k (.type "range")) [(.call (.k (.builtin "len")) [(.attr (.x 0) "at")])]) [.q (.x 7) (.sub (.attr (.x 0) "at") (.x 6)),.ifs (.and (.wK (.cmp .In (.x 5) (.sub (.attr (.x 0) "able") (.x 6)))) (.wK (.cmp .NotIn (.x 7) (.x 2)))) [.q (.sub (.x 2) (.x 7)) (.t [(.x 6),(.x 5)]),.app (.x 3) "append" (.x 7),.ifs (.wK (.cmp .Gt (.sub (.attr (.x 0) "counts") (.x 7)) (.sub (.attr (.x 0) "lows") (.x 7)))) [.frz 2,.expr (.meth (.x 0) "move_along" [(.x 7),(.x 1),(.x 2)]),.ret .none] []] []]
noncomputable def Z5:SF:=.whil (.wK (.cmp .NotEq (.x 1) (.x 2))) [.q (.t [(.x 4),(.x 1)]) (.sub (.x 3) (.x 1)),.q (.sub (.attr (.x 0) "at") (.x 4)) (.x 1)]
noncomputable def a6:SF:=.whil (.wK (.cmp .Lt (.x 4) (.call (.k (.builtin "len")) [(.x 3)]))) [.q (.t [(.x 6),(.x 4),(.x 7)]) (.t [(.sub (.x 3) (.x 4)),(.bin .Add (.x 4) (.int 1)),(.list [])]),.ifs (.and (.not (.wK (.x 5))) (.wK (.cmp .Lt (.sub (.attr (.x 0) "counts") (.x 6)) (.sub (.attr (.x 0) "highs") (.x 6))))) [.q (.x 5) (.bool Z),.app (.x 7) "extend" (.comp 2 (.call (.k (.type "range")) [(.call (.k (.builtin "len")) [(.attr (.x 0) "lows")])]) (.x 11) [(.wK (.cmp .Gt (.sub (.attr (.x 0) "counts") (.x 11)) (.sub (.attr (.x 0) "lows") (.x 11))))] [] (.x 11))] [],.blk 3542,.frz 7,.blk 3543]
noncomputable def b6:SF:=.fors (.x 9) (.meth (.x 0) "members_at" [(.x 6)]) [.app (.x 7) "extend" (.sub (.attr (.x 0) "able") (.x 9))]
noncomputable def c6:SF:=.fors (.x 8) (.x 7) [.ifs (.wK (.cmp .NotIn (.x 8) (.x 2))) [.q (.sub (.x 2) (.x 8)) (.bool Z),.app (.x 3) "append" (.x 8)] []]
noncomputable def d6:SF:=.forz (.t [5,6,7]) [(.x 2),(.x 3),(.x 4)] [.expr (.meth (.x 0) "want" [(.x 5),(.call (.k (.builtin "max")) [(.x 6),(.int 0)]),(.x 7)])]
noncomputable def f6:SF:=.fors (.x 5) (.call (.k (.type "range")) [(.call (.k (.builtin "len")) [(.attr (.x 0) "taken")])]) [.q (.x 6) (.meth (.x 4) "place" [(.x 5)]),.ifs (.wK (.cmp .IsNot (.x 6) .none)) [.q (.x 2) (.sub (.attr (.x 0) "taken") (.x 5)),.ret (.meth (.x 1) "fail" [(.bin .Add (.meth (.x 0) "confined" [(.x 1),(.x 4),(.x 6)]) (.call (.k (.ref 309)) [(.x 2),(.meth (.x 1) "dom" [(.x 2)])]))])] []]
noncomputable def i6:SF:=.fors (.x 7) (.call (.k (.type "range")) [(.call (.k (.builtin "len")) [(.attr (.x 0) "wanted")])]) [.blk 4013]
noncomputable def qW:SF:=.whil (.wK (.cmp .Lt (.sub (.attr (.x 4) "counts") (.x 7)) (.sub (.attr (.x 0) "lows") (.x 7)))) [.q (.x 8) (.meth (.x 4) "fill" [(.x 7)]),.ifs (.wK (.cmp .IsNot (.x 8) .none)) [.ret (.meth (.x 1) "fail" [(.meth (.x 0) "lacking" [(.x 4),(.x 8)])])] []]
noncomputable def rW:SF:=.fors (.x 7) (.call (.k (.type "range")) [(.bin .Add (.call (.k (.builtin "len")) [(.attr (.x 0) "wanted")]) (.int 1))]) [.ifs (.not (.wK (.meth (.x 0) "strike_option" [(.x 1),(.x 4),(.x 7)]))) [.ret (.bool ua)] []]
noncomputable def j6:SF:=.fors (.x 5) (.x 3) [.blk 4082]
noncomputable def l6:SF:=.fors (.x 6) (.meth (.x 2) "members_at" [(.x 5)]) [.app (.x 4) "extend" (.call (.k (.ref 309)) [(.sub (.attr (.x 0) "taken") (.x 6)),(.meth (.x 1) "dom" [(.sub (.attr (.x 0) "taken") (.x 6))])])]
noncomputable def n6:SF:=.fors (.x 4) (.call (.k (.type "range")) [(.call (.k (.builtin "len")) [(.attr (.x 0) "taken")])]) [.ifs (.wK (.cmp .NotIn (.sub (.attr (.x 1) "at") (.x 4)) (.x 2))) [.app (.x 3) "extend" (.comp 2 (.x 2) (.x 6) [] [] (.t [(.sub (.attr (.x 0) "taken") (.x 4)),(.str "!="),(.sub (.attr (.x 0) "wanted") (.x 6))]))] []]
noncomputable def o6:SF:=.fors (.x 9) (.x 6) [.q (.x 10) (.sub (.attr (.x 0) "taken") (.x 9)),.q (.x 12) (.comp 2 (.call (.k (.ref 61)) [(.meth (.x 1) "dom" [(.x 10)])]) (.x 14) [(.wK (.cmp .NotIn (.x 14) (.attr (.x 0) "wanted")))] [] (.x 14)),.blk 4182]
noncomputable def u6:SF:=.fors (.x 11) (.ite (.wK (.cmp .Lt (.x 3) (.call (.k (.builtin "len")) [(.attr (.x 0) "wanted")]))) (.list [(.sub (.attr (.x 0) "wanted") (.x 3))]) (.x 12)) [.ifs (.not (.wK (.meth (.x 1) "strike" [(.t [(.x 10),(.str "!="),(.x 11)]),(.x 8)]))) [.ret (.bool ua)] []]
noncomputable def v6:SF:=.forz (.t [2,3,4]) [(.sub (.attr (.x 0) "rows") (.int 0)),(.sub (.attr (.x 0) "rows") (.int 1)),(.sub (.attr (.x 0) "rows") (.int 2))] [.ifs (.not (.wK (.cmp2 .LtE .LtE (.x 3) (.meth (.call (.k (.type "list")) [(.x 1)]) "count" [(.x 2)]) (.x 4)))) [.ret (.bool ua)] []]
noncomputable def w6:SF:=.fors (.x 2) (.x 0) [.q (.x 1) (.comp 3 (.x 1) (.x 4) [] [.mk (.x 2) (.x 5) []] (.bin .Add (.x 4) (.t [(.x 5)])))]
def qeH:List (Nat×SF):=[(3351,S5),(3352,T5),(3353,U5),(3354,V5),(3355,W5),(3421,X5),(3422,Y5),(3491,Z5),(3541,a6),(3542,b6),(3543,c6),(3771,d6),(4011,f6),(4012,i6),(4013,qW),(4014,rW),(4081,j6),(4082,l6),(4131,n6),(4181,o6),(4182,u6),(4251,v6),(4561,w6)]
def Ib(i:Nat):Option SF:=qeH.lookup i
noncomputable def qdP:Rg:=⟨1,1,.pure,[.ret (.sub (.sub (.x 0) (.int 0)) (.int 0))]⟩
noncomputable def qdQ:Rg:=⟨1,1,.pure,[.ret (.sub (.sub (.x 0) (.neg (.int 1))) (.int 1))]⟩
noncomputable def qdR:Rg:=⟨1,1,.pure,[.ret (.call (.k (.builtin "sum")) [(.comp 3 (.x 0) (.t [2,3]) [] [] (.bin .Add (.bin .Sub (.x 3) (.x 2)) (.int 1)))])]⟩
noncomputable def qdS:Rg:=⟨2,4,.pure,[.fors (.t [2,3]) (.x 0) [.ifs (.wK (.cmp .LtE (.x 1) (.x 3))) [.ret (.call (.k (.builtin "max")) [(.x 2),(.x 1)])] []],.ret .none]⟩
noncomputable def qdT:Rg:=⟨2,2,.pure,[.ret (.cmp .Eq (.call (.k (.ref 47)) [(.x 0),(.x 1)]) (.x 1))]⟩
noncomputable def qdU:Rg:=⟨1,4,.pure,[.q (.x 1) (.list []),.fors (.t [2,3]) (.x 0) [.app (.x 1) "extend" (.call (.k (.type "range")) [(.x 2),(.bin .Add (.x 3) (.int 1))])],.ret (.x 1)]⟩
noncomputable def qdV:Rg:=⟨2,2,.pure,[.ret (.call (.k (.type "tuple")) [(.comp 3 (.x 0) (.t [3,4]) [(.wK (.cmp .LtE (.x 3) (.x 1)))] [] (.t [(.x 3),(.call (.k (.builtin "min")) [(.x 4),(.x 1)])]))])]⟩
noncomputable def qdW:Rg:=⟨2,2,.pure,[.ret (.call (.k (.type "tuple")) [(.comp 3 (.x 0) (.t [3,4]) [(.wK (.cmp .GtE (.x 4) (.x 1)))] [] (.t [(.call (.k (.builtin "max")) [(.x 3),(.x 1)]),(.x 4)]))])]⟩
noncomputable def qdX:Rg:=⟨2,2,.pure,[.ret (.bin .Add (.call (.k (.ref 66)) [(.x 0),(.bin .Sub (.x 1) (.int 1))]) (.call (.k (.ref 71)) [(.x 0),(.bin .Add (.x 1) (.int 1))]))]⟩
noncomputable def qdY:Rg:=⟨2,7,.pure,[.q (.t [(.x 2),(.x 3),(.x 4)]) (.t [(.list []),(.int 0),(.int 0)]),.whil (.and (.wK (.cmp .Lt (.x 3) (.call (.k (.builtin "len")) [(.x 0)]))) (.wK (.cmp .Lt (.x 4) (.call (.k (.builtin "len")) [(.x 1)])))) [.q (.t [(.x 5),(.x 6)]) (.t [(.call (.k (.builtin "max")) [(.sub (.sub (.x 0) (.x 3)) (.int 0)),(.sub (.sub (.x 1) (.x 4)) (.int 0))]),(.call (.k (.builtin "min")) [(.sub (.sub (.x 0) (.x 3)) (.int 1)),(.sub (.sub (.x 1) (.x 4)) (.int 1))])]),.ifs (.wK (.cmp .LtE (.x 5) (.x 6))) [.app (.x 2) "append" (.t [(.x 5),(.x 6)])] [],.ifs (.wK (.cmp .Lt (.sub (.sub (.x 0) (.x 3)) (.int 1)) (.sub (.sub (.x 1) (.x 4)) (.int 1)))) [.q (.x 3) (.bin .Add (.x 3) (.int 1))] [.q (.x 4) (.bin .Add (.x 4) (.int 1))]],.ret (.call (.k (.type "tuple")) [(.x 2)])]⟩
noncomputable def qdZ:Rg:=⟨1,4,.pure,[.q (.t [(.x 1),(.x 2),(.x 3)]) (.x 0),.ifs (.wK (.cmp .Eq (.x 2) (.str "<="))) [.ret (.t [(.x 1),(.str ">="),(.bin .Add (.x 3) (.int 1))])] [],.ifs (.wK (.cmp .Eq (.x 2) (.str ">="))) [.ret (.t [(.x 1),(.str "<="),(.bin .Sub (.x 3) (.int 1))])] [],.ret (.ite (.wK (.cmp .Eq (.x 2) (.str "="))) (.t [(.x 1),(.str "!="),(.x 3)]) (.t [(.x 1),(.str "="),(.x 3)]))]⟩
noncomputable def qea:Rg:=⟨2,4,.pure,[.q (.t [(.x 2),(.x 3)]) (.t [(.sub (.x 0) (.int 1)),(.sub (.x 0) (.int 2))]),.ifs (.wK (.cmp .Eq (.x 2) (.str "<="))) [.ret (.call (.k (.ref 66)) [(.x 1),(.x 3)])] [],.ifs (.wK (.cmp .Eq (.x 2) (.str ">="))) [.ret (.call (.k (.ref 71)) [(.x 1),(.x 3)])] [],.ret (.ite (.wK (.cmp .Eq (.x 2) (.str "="))) (.call (.k (.ref 85)) [(.x 1),(.t [(.t [(.x 3),(.x 3)])])]) (.call (.k (.ref 78)) [(.x 1),(.x 3)]))]⟩
noncomputable def B7:Rg:=⟨2,3,.pure,[.q (.x 2) (.call (.k (.ref 99)) [(.x 0),(.x 1)]),.ifs (.wK (.cmp .Eq (.x 2) (.x 1))) [.ret (.int 1)] [],.ret (.ite (.wK (.cmp .Eq (.x 2) (.t []))) (.neg (.int 1)) (.int 0))]⟩
noncomputable def qbD:Rg:=⟨1,1,.sub,[.q (.attr (.x 0) "domains") (.list []),.q (.attr (.x 0) "firsts") (.list []),.q (.attr (.x 0) "trail") (.list []),.q (.attr (.x 0) "marks") (.list []),.q (.attr (.x 0) "news") (.dict [] []),.q (.attr (.x 0) "speaker") (.neg (.int 1)),.q (.attr (.x 0) "is_failed") (.bool ua),.q (.attr (.x 0) "clash") (.t [])]⟩
noncomputable def qbE:Rg:=⟨2,2,.sub,[.app (.attr (.x 0) "domains") "append" (.x 1),.app (.attr (.x 0) "firsts") "append" (.x 1),.ifs (.wK (.cmp .Eq (.x 1) (.t []))) [.expr (.meth (.x 0) "fail" [(.t [])])] [],.ret (.bin .Sub (.call (.k (.builtin "len")) [(.attr (.x 0) "domains")]) (.int 1))]⟩
noncomputable def qbF:Rg:=⟨1,1,.all,[.ret (.call (.k (.builtin "len")) [(.attr (.x 0) "domains")])]⟩
noncomputable def qbG:Rg:=⟨2,2,.all,[.ret (.sub (.attr (.x 0) "domains") (.x 1))]⟩
noncomputable def qbH:Rg:=⟨2,2,.all,[.ret (.call (.k (.ref 28)) [(.sub (.attr (.x 0) "domains") (.x 1))])]⟩
noncomputable def qbI:Rg:=⟨2,2,.all,[.ret (.call (.k (.ref 35)) [(.sub (.attr (.x 0) "domains") (.x 1))])]⟩
noncomputable def qbJ:Rg:=⟨3,3,.all,[.ret (.call (.k (.ref 54)) [(.sub (.attr (.x 0) "domains") (.x 1)),(.x 2)])]⟩
noncomputable def qbK:Rg:=⟨2,2,.all,[.ret (.sub (.sub (.sub (.attr (.x 0) "domains") (.x 1)) (.int 0)) (.int 0))]⟩
noncomputable def qbL:Rg:=⟨2,2,.all,[.ret (.call (.k (.ref 40)) [(.sub (.attr (.x 0) "domains") (.x 1))])]⟩
noncomputable def qbM:Rg:=⟨2,2,.sub,[.ret (.call (.k (.ref 106)) [(.x 1),(.sub (.attr (.x 0) "domains") (.sub (.x 1) (.int 0)))])]⟩
noncomputable def qbN:Rg:=⟨4,7,.all,[.q (.x 4) (.sub (.x 1) (.int 0)),.q (.x 5) (.sub (.attr (.x 0) "domains") (.x 4)),.q (.x 6) (.call (.k (.ref 99)) [(.x 1),(.x 5)]),.ifs (.wK (.cmp .Eq (.x 6) (.t []))) [.ret (.meth (.x 0) "fail" [(.bin .Add (.ite (.wK (.cmp .Is (.x 2) .none)) (.t []) (.x 2)) (.t [(.call (.k (.ref 92)) [(.x 1)])]))])] [],.ifs (.wK (.cmp .Eq (.x 6) (.x 5))) [.ret (.bool Z)] [],.app (.attr (.x 0) "trail") "append" (.t [(.x 4),(.x 5),(.x 1),(.x 2),(.x 3)]),.q (.sub (.attr (.x 0) "domains") (.x 4)) (.x 6),.q (.sub (.attr (.x 0) "news") (.x 4)) (.bool Z),.ret (.bool Z)]⟩
noncomputable def qbO:Rg:=⟨3,3,.all,[.ret (.meth (.x 0) "enter" [(.x 1),(.call (.k (.type "tuple")) [(.x 2)]),(.attr (.x 0) "speaker")])]⟩
noncomputable def qbP:Rg:=⟨2,2,.sub,[.ret (.meth (.x 0) "enter" [(.x 1),.none,(.neg (.int 1))])]⟩
noncomputable def qbQ:Rg:=⟨2,2,.all,[.q (.attr (.x 0) "is_failed") (.bool Z),.q (.attr (.x 0) "clash") (.call (.k (.type "tuple")) [(.x 1)]),.ret (.bool ua)]⟩
noncomputable def qbR:Rg:=⟨1,1,.sub,[.app (.attr (.x 0) "marks") "append" (.call (.k (.builtin "len")) [(.attr (.x 0) "trail")])]⟩
noncomputable def qbS:Rg:=⟨3,3,.all,[.q (.attr (.x 0) "number") (.neg (.int 1)),.q (.attr (.x 0) "scope") (.call (.k (.type "tuple")) [(.x 1)]),.q (.attr (.x 0) "strength") (.x 2)]⟩
noncomputable def qbT:Rg:=⟨2,2,.all,[.ret (.cmp .Eq (.call (.k (.builtin "len")) [(.x 1)]) (.call (.k (.builtin "len")) [(.attr (.x 0) "scope")]))]⟩
noncomputable def qbU:Rg:=⟨1,1,.all,[.ret (.t [])]⟩
noncomputable def C7:Rg:=⟨2,7,.pure,[.q (.t [(.x 2),(.x 3)]) (.t [(.list [(.t [(.x 0),(.str ">="),(.call (.k (.ref 28)) [(.x 1)])]),(.t [(.x 0),(.str "<="),(.call (.k (.ref 35)) [(.x 1)])])]),(.bin .Sub (.call (.k (.ref 28)) [(.x 1)]) (.int 1))]),.fors (.t [4,5]) (.x 1) [.fors (.x 6) (.call (.k (.type "range")) [(.bin .Add (.x 3) (.int 1)),(.x 4)]) [.app (.x 2) "append" (.t [(.x 0),(.str "!="),(.x 6)])],.q (.x 3) (.x 5)],.ret (.x 2)]⟩
noncomputable def qbV:Rg:=⟨4,4,.all,[.q (.attr (.x 0) "able") (.x 1),.q (.attr (.x 0) "lows") (.x 2),.q (.attr (.x 0) "highs") (.x 3),.q (.attr (.x 0) "at") (.bin .Mult (.list [(.neg (.int 1))]) (.call (.k (.builtin "len")) [(.x 1)])),.q (.attr (.x 0) "counts") (.bin .Mult (.list [(.int 0)]) (.call (.k (.builtin "len")) [(.x 2)]))]⟩
noncomputable def qbW:Rg:=⟨2,2,.all,[.ret (.comp 2 (.call (.k (.type "range")) [(.call (.k (.builtin "len")) [(.attr (.x 0) "at")])]) (.x 3) [(.wK (.cmp .Eq (.sub (.attr (.x 0) "at") (.x 3)) (.x 1)))] [] (.x 3))]⟩
noncomputable def qbX:Rg:=⟨2,9,.all,[.q (.t [(.x 2),(.x 3),(.x 4)]) (.t [(.dict [] []),(.list []),(.int 0)]),.blk 3351,.blk 3352,.ret (.call (.k (.builtin "sorted")) [(.x 3)])]⟩
noncomputable def D7:Rg:=⟨2,8,.all,[.q (.t [(.x 2),(.x 3),(.x 4)]) (.t [(.dict [(.x 1)] [(.t [(.neg (.int 1)),(.neg (.int 1))])]),(.list [(.x 1)]),(.int 0)]),.blk 3421,.ret (.call (.k (.builtin "sorted")) [(.x 3)])]⟩
noncomputable def E7:Rg:=⟨4,5,.all,[.aug (.x 0) "counts" (.x 1) .Sub (.int 1),.aug (.x 0) "counts" (.x 2) .Add (.int 1),.blk 3491]⟩
noncomputable def F7:Rg:=⟨2,10,.all,[.q (.t [(.x 2),(.x 3),(.x 4),(.x 5)]) (.t [(.dict [(.x 1)] [(.bool Z)]),(.list [(.x 1)]),(.int 0),(.bool ua)]),.blk 3541,.ret (.t [(.call (.k (.builtin "sorted")) [(.x 2)]),(.x 5)])]⟩
noncomputable def qbY:Rg:=⟨5,8,.sub,[.expr (.sup 0 274 [(.x 1),(.str "values")]),.q (.attr (.x 0) "taken") (.call (.k (.type "tuple")) [(.x 1)]),.q (.attr (.x 0) "rows") (.t [(.call (.k (.type "tuple")) [(.x 2)]),(.call (.k (.type "tuple")) [(.x 3)]),(.call (.k (.type "tuple")) [(.x 4)])]),.q (.attr (.x 0) "wanted") (.list []),.q (.attr (.x 0) "lows") (.list []),.q (.attr (.x 0) "highs") (.list []),.blk 3771,.q (.attr (.x 0) "has_twins") (.cmp .Lt (.call (.k (.builtin "len")) [(.call (.k (.type "set")) [(.x 1)])]) (.call (.k (.builtin "len")) [(.attr (.x 0) "taken")]))]⟩
noncomputable def qbZ:Rg:=⟨4,5,.all,[.ifs (.wK (.cmp .In (.x 1) (.attr (.x 0) "wanted"))) [.q (.x 4) (.meth (.attr (.x 0) "wanted") "index" [(.x 1)]),.q (.t [(.sub (.attr (.x 0) "lows") (.x 4)),(.sub (.attr (.x 0) "highs") (.x 4))]) (.t [(.call (.k (.builtin "max")) [(.sub (.attr (.x 0) "lows") (.x 4)),(.x 2)]),(.call (.k (.builtin "min")) [(.sub (.attr (.x 0) "highs") (.x 4)),(.x 3)])])] [.app (.attr (.x 0) "wanted") "append" (.x 1),.app (.attr (.x 0) "lows") "append" (.x 2),.app (.attr (.x 0) "highs") "append" (.x 3)]]⟩
noncomputable def qca:Rg:=⟨3,4,.all,[.q (.x 3) (.comp 2 (.call (.k (.type "range")) [(.call (.k (.builtin "len")) [(.attr (.x 0) "wanted")])]) (.x 5) [(.wK (.meth (.x 1) "has" [(.x 2),(.sub (.attr (.x 0) "wanted") (.x 5))]))] [] (.x 5)),.ret (.ite (.wK (.cmp .Gt (.meth (.x 1) "width" [(.x 2)]) (.call (.k (.builtin "len")) [(.x 3)]))) (.bin .Add (.x 3) (.list [(.call (.k (.builtin "len")) [(.attr (.x 0) "wanted")])])) (.x 3))]⟩
noncomputable def G7:Rg:=⟨2,3,.all,[.q (.x 2) (.neg (.int 1)),.whil (.wK (.cmp .Lt (.x 2) (.call (.k (.builtin "len")) [(.attr (.x 1) "trail")]))) [.q (.x 2) (.call (.k (.builtin "len")) [(.attr (.x 1) "trail")]),.ifs (.not (.wK (.meth (.x 0) "strike_once" [(.x 1)]))) [.ret (.bool ua)] [],.ifs (.not (.wK (.attr (.x 0) "has_twins"))) [.ret (.bool Z)] []],.ret (.bool Z)]⟩
noncomputable def H7:Rg:=⟨2,9,.all,[.ifs (.wK (.cmp .NotEq (.comp 2 (.call (.k (.type "range")) [(.call (.k (.builtin "len")) [(.attr (.x 0) "wanted")])]) (.x 10) [(.wK (.cmp .Gt (.sub (.attr (.x 0) "lows") (.x 10)) (.sub (.attr (.x 0) "highs") (.x 10))))] [] (.x 10)) (.list []))) [.ret (.meth (.x 1) "fail" [(.t [])])] [],.q (.x 3) (.comp 2 (.attr (.x 0) "taken") (.x 10) [] [] (.meth (.x 0) "options_of" [(.x 1),(.x 10)])),.q (.x 4) (.call (.k (.ref 357)) [(.x 3),(.bin .Add (.attr (.x 0) "lows") (.list [(.int 0)])),(.bin .Add (.attr (.x 0) "highs") (.list [(.bin .Add (.call (.k (.builtin "len")) [(.attr (.x 0) "taken")]) (.int 1))]))]),.blk 4011,.blk 4012,.blk 4014,.ret (.bool Z)]⟩
noncomputable def qcb:Rg:=⟨4,7,.all,[.q (.x 4) (.list []),.blk 4081,.ret (.x 4)]⟩
noncomputable def qcc:Rg:=⟨3,5,.all,[.q (.x 3) (.list []),.blk 4131,.ret (.x 3)]⟩
noncomputable def I7:Rg:=⟨4,13,.all,[.q (.t [(.x 4),(.x 5)]) (.meth (.x 2) "reached" [(.x 3)]),.q (.x 6) (.comp 2 (.call (.k (.type "range")) [(.call (.k (.builtin "len")) [(.attr (.x 0) "taken")])]) (.x 14) [(.and (.wK (.cmp .In (.x 3) (.sub (.attr (.x 2) "able") (.x 14)))) (.wK (.cmp .NotIn (.sub (.attr (.x 2) "at") (.x 14)) (.x 4))))] [] (.x 14)),.ifs (.wK (.cmp .Eq (.x 6) (.list []))) [.ret (.bool Z)] [],.ifs (.wK (.x 5)) [.q (.x 7) (.comp 2 (.call (.k (.type "range")) [(.call (.k (.builtin "len")) [(.attr (.x 0) "wanted")])]) (.x 14) [(.and (.wK (.cmp .NotIn (.x 14) (.x 4))) (.wK (.cmp .Gt (.sub (.attr (.x 0) "lows") (.x 14)) (.int 0))))] [] (.x 14)),.q (.x 8) (.meth (.x 0) "lacking" [(.x 2),(.x 7)])] [.q (.x 8) (.meth (.x 0) "confined" [(.x 1),(.x 2),(.x 4)])],.blk 4181,.ret (.bool Z)]⟩
noncomputable def qcd:Rg:=⟨2,5,.sub,[.blk 4251,.ret (.bool Z)]⟩
noncomputable def qce:Rg:=⟨1,1,.sub,[.ret (.bin .Add (.t [(.str "cardinality"),(.attr (.x 0) "taken")]) (.attr (.x 0) "rows"))]⟩
noncomputable def qcf:Rg:=⟨2,2,.all,[.q (.sub (.x 0) (.str "at")) (.bin .Add (.sub (.x 0) (.str "at")) (.int 1)),.ifs (.wK (.cmp .Gt (.sub (.x 0) (.str "at")) (.call (.k (.builtin "len")) [(.sub (.x 0) (.str "cells"))]))) [.ret (.int 0)] [],.ret (.bin .Mod (.sub (.sub (.x 0) (.str "cells")) (.bin .Sub (.sub (.x 0) (.str "at")) (.int 1))) (.x 1))]⟩
noncomputable def J7:Rg:=⟨1,3,.pure,[.q (.x 1) (.list []),.fors (.x 2) (.x 0) [.ifs (.and (.wK (.cmp .NotEq (.x 1) (.list []))) (.wK (.cmp .Eq (.sub (.sub (.x 1) (.neg (.int 1))) (.int 1)) (.bin .Sub (.x 2) (.int 1))))) [.q (.sub (.x 1) (.neg (.int 1))) (.t [(.sub (.sub (.x 1) (.neg (.int 1))) (.int 0)),(.x 2)])] [.app (.x 1) "append" (.t [(.x 2),(.x 2)])]],.ret (.call (.k (.type "tuple")) [(.x 1)])]⟩
noncomputable def PY:Rg:=⟨1,3,.pure,[.q (.x 1) (.list [(.t [])]),.frz 1,.blk 4561,.ret (.x 1)]⟩
noncomputable def QY:Rg:=⟨2,2,.pure,[.ret (.cmp .Eq (.comp 4 (.x 1) (.t [3,4,5]) [(.not (.wK (.cmp2 .LtE .LtE (.x 4) (.call (.k (.builtin "len")) [(.comp 2 (.x 0) (.x 7) [(.wK (.cmp .Eq (.x 7) (.x 3)))] [] (.x 7))]) (.x 5))))] [] (.x 3)) (.list []))]⟩
noncomputable def lJ:Rg:=⟨2,5,.all,[.q (.x 2) (.call (.k (.ref 256)) []),.q (.x 3) (.call (.k (.type "tuple")) [(.comp 2 (.x 0) (.x 6) [] [] (.meth (.x 2) "new_var" [(.call (.k (.ref 451)) [(.x 6)])]))]),.q (.x 4) (.comp 2 (.call (.k (.type "range")) [(.int 3)]) (.x 6) [] [] (.call (.k (.type "tuple")) [(.comp 2 (.x 1) (.x 8) [] [] (.sub (.x 8) (.x 6)))])),.ret (.t [(.x 2),(.call (.k (.ref 435)) [(.x 3),(.sub (.x 4) (.int 0)),(.sub (.x 4) (.int 1)),(.sub (.x 4) (.int 2))])])]⟩
noncomputable def qcg:Rg:=⟨1,1,.all,[.ret (.comp 2 (.call (.k (.type "range")) [(.meth (.x 0) "size" [])]) (.x 2) [] [] (.comp 4 (.meth (.x 0) "dom" [(.x 2)]) (.t [4,5]) [] [.mk (.call (.k (.type "range")) [(.x 4),(.bin .Add (.x 5) (.int 1))]) (.x 6) []] (.x 6)))]⟩
noncomputable def K7:Rg:=⟨3,5,.sub,[.q (.x 3) (.call (.k (.ref 471)) [(.x 0)]),.q (.x 4) (.comp 2 (.x 2) (.x 6) [(.wK (.cmp .Eq (.comp 2 (.call (.k (.type "range")) [(.call (.k (.builtin "len")) [(.x 6)])]) (.x 8) [(.wK (.cmp .NotIn (.sub (.x 6) (.x 8)) (.sub (.x 3) (.x 8))))] [] (.x 8)) (.list [])))] [] (.x 6)),.ifs (.wK (.cmp .IsNot (.meth (.x 1) "propagate" [(.x 0)]) (.cmp .NotEq (.x 4) (.list [])))) [.ret (.bool ua)] [],.ifs (.wK (.cmp .Eq (.x 4) (.list []))) [.ret (.attr (.x 0) "is_failed")] [],.ret (.cmp .Eq (.call (.k (.ref 471)) [(.x 0)]) (.comp 2 (.call (.k (.type "range")) [(.call (.k (.builtin "len")) [(.x 3)])]) (.x 6) [] [] (.call (.k (.builtin "sorted")) [(.call (.k (.type "set")) [(.comp 2 (.x 4) (.x 8) [] [] (.sub (.x 8) (.x 6)))])])))]⟩
noncomputable def mJ:Rg:=⟨1,16,.all,[.q (.x 1) (.dict [(.str "cells"),(.str "at")] [(.cut (.x 0) 16),(.int 0)]),.q (.x 2) (.bin .Add (.int 1) (.call (.k (.ref 444)) [(.x 1),(.int 3)])),.q (.x 3) (.comp 2 (.call (.k (.type "range")) [(.x 2)]) (.x 17) [] [] (.bin .Add (.int 1) (.call (.k (.ref 444)) [(.x 1),(.int 7)]))),.q (.x 5) (.comp 2 (.x 3) (.x 17) [] [] (.comp 2 (.call (.k (.type "range")) [(.int 3)]) (.x 19) [(.wK (.cmp .Eq (.bin .Mod (.bin .FloorDiv (.x 17) (.bin .Pow (.int 2) (.x 19))) (.int 2)) (.int 1)))] [] (.x 19))),.q (.x 4) (.call (.k (.ref 444)) [(.x 1),(.int 3)]),.q (.x 6) (.list []),.fors (.x 7) (.call (.k (.type "range")) [(.int 2)]) [.q (.x 8) (.call (.k (.ref 444)) [(.x 1),(.int 3)]),.app (.x 6) "append" (.t [(.x 4),(.x 8),(.bin .Add (.x 8) (.call (.k (.ref 444)) [(.x 1),(.int 3)]))])],.q (.x 9) (.list [(.t [(.x 4),(.call (.k (.builtin "max")) [(.sub (.sub (.x 6) (.int 0)) (.int 1)),(.sub (.sub (.x 6) (.int 1)) (.int 1))]),(.call (.k (.builtin "min")) [(.sub (.sub (.x 6) (.int 0)) (.int 2)),(.sub (.sub (.x 6) (.int 1)) (.int 2))])])]),.ifs (.wK (.cmp .Eq (.call (.k (.ref 444)) [(.x 1),(.int 2)]) (.int 1))) [.q (.x 10) (.t [(.bin .Mod (.bin .Add (.x 4) (.int 1)) (.int 3)),(.int 0),(.call (.k (.ref 444)) [(.x 1),(.int 3)])]),.ins (.x 6) (.int 1) (.x 10),.app (.x 9) "append" (.x 10)] [],.frz 6,.frz 9,.q (.x 11) (.comp 2 (.call (.k (.ref 456)) [(.x 5)]) (.x 17) [(.wK (.call (.k (.ref 461)) [(.x 17),(.x 6)]))] [] (.x 17)),.q (.x 12) (.t [(.call (.k (.ref 444)) [(.x 1),(.x 2)]),(.sub (.list [(.str "<="),(.str ">="),(.str "!="),(.str "=")]) (.call (.k (.ref 444)) [(.x 1),(.int 4)])),(.call (.k (.ref 444)) [(.x 1),(.int 3)])]),.fors (.x 13) (.t [(.x 6),(.x 9)]) [.q (.t [(.x 14),(.x 15)]) (.call (.k (.ref 466)) [(.x 5),(.x 13)]),.ifs (.wK (.cmp .NotEq (.meth (.x 15) "told" []) (.bin .Add (.t [(.str "cardinality"),(.call (.k (.type "tuple")) [(.call (.k (.type "range")) [(.x 2)])])]) (.call (.k (.type "tuple")) [(.comp 2 (.call (.k (.type "range")) [(.int 3)]) (.x 17) [] [] (.call (.k (.type "tuple")) [(.comp 2 (.x 13) (.x 19) [] [] (.sub (.x 19) (.x 17)))]))])))) [.ret (.bool ua)] [],.ifs (.wK (.cmp .NotEq (.comp 2 (.call (.k (.ref 456)) [(.x 5)]) (.x 17) [(.wK (.cmp .IsNot (.meth (.x 15) "check" [(.x 17)]) (.cmp .In (.x 17) (.x 11))))] [] (.x 17)) (.list []))) [.ret (.bool ua)] [],.ifs (.not (.wK (.call (.k (.ref 476)) [(.x 14),(.x 15),(.x 11)]))) [.ret (.bool ua)] [],.ifs (.and (.not (.wK (.attr (.x 14) "is_failed"))) (.wK (.cmp .Eq (.meth (.x 14) "holds" [(.x 12)]) (.int 0)))) [.expr (.meth (.x 14) "push" []),.expr (.meth (.x 14) "decide" [(.x 12)]),.ifs (.not (.wK (.call (.k (.ref 476)) [(.x 14),(.x 15),(.x 11)]))) [.ret (.bool ua)] []] []],.ret (.bool Z)]⟩
def KY:List (Nat×Rg):=[(28,qdP),(35,qdQ),(40,qdR),(47,qdS),(54,qdT),(61,qdU),(66,qdV),(71,qdW),(78,qdX),(85,qdY),(92,qdZ),(99,qea),(106,B7),(120,qbD),(127,qbE),(134,qbF),(141,qbG),(155,qbH),(162,qbI),(169,qbJ),(183,qbK),(190,qbL),(197,qbM),(204,qbN),(211,qbO),(218,qbP),(225,qbQ),(232,qbR),(274,qbS),(288,qbT),(295,qbU),(309,C7),(323,qbV),(328,qbW),(335,qbX),(342,D7),(349,E7),(354,F7),(377,qbY),(384,qbZ),(389,qca),(396,G7),(401,H7),(408,qcb),(413,qcc),(418,I7),(425,qcd),(432,qce),(444,qcf),(451,J7),(456,PY),(461,QY),(466,lJ),(471,qcg),(476,K7),(481,mJ)]
def pc(a:Nat):Option Rg:=KY.lookup a
def QM:List (Nat×Fn):=KY.map λp=>(p.1,u4 Ib p.2)
def qT(a:Nat):Option Fn:=QM.lookup a
section
variable {x:V} {v:wa} {X:List V} {T:List wa} {i:Nat} {a:Ca} {o:O}
noncomputable abbrev pg:Zi:=Mh
noncomputable abbrev gu(T:List wa)(n:Nat):wD:={cls:=.type "tuple",data:=.seq T.toArray n}
def Jh(o:wD):Prop:=match o.data with|.seq u y=>o.cls=.type "tuple"|.fields u=>o.cls=.type "range"|.set .. =>True|_=>False
noncomputable def iB(k:Int)(o:Option jk):List (Int×wa):=match o with|some t=>[(k,.int k t)]|none=>[]
noncomputable def mX(k:Nat)(o:Option jk):List Nat:=match o with|some u=>[k]|none=>[]
def v5(w:zb)(h:qb)(a:Ca)(b c d:Option jk):Prop:=∃e,h.get? a=J {cls:=.type "set",dict:=Y,data:=.set (iB 0 b++(iB 1 c++iB 2 d)).toArray e ⟨7,(mX 0 b++(mX 1 c++mX 2 d)).toArray,#[],0,!w.params.followText "set-order",0,Z⟩,slots:= #[]}
class Av where
 av:Ca->Prop
variable [av:Av]
mutual
inductive VR(w:zb)(ρ:List Ca)(h:qb):V->wa->Prop
 |none:VR w ρ h .none .none|bool (b:Bool):VR w ρ h (.bool b) (.bool b)|int (i:Int) (t:jk):VR w ρ h (.int i) (.int i t)|str (x:Bb) (t:jk):VR w ρ h (.str x) (.str x t)|ref {i:Nat} {a:Ca}:ρ[i]?=J a->VR w ρ h (.ref i) (.ref a)|k (v:wa):VR w ρ h (.k v) v|rng {a:Ca} {lo hi:Int} {t u v:jk}:TK h a lo hi 1 t u v->VR w ρ h (.rng lo hi) (.ref a)|iset {a:Ca} {X:List Int} {o0 o1 o2:Option jk}:o0.isSome=X.contains 0->o1.isSome=X.contains 1->o2.isSome=X.contains 2->v5 w h a o0 o1 o2->VR w ρ h (.iset X) (.ref a)|t {a:Ca} {X:List V} {T:List wa} {n:Nat}:¬Av.av a->h.get? a=J (gu T n)->X.length<=4096->ue w ρ h X T->VR w ρ h (.t X) (.ref a)
inductive ue(w:zb)(ρ:List Ca)(h:qb):List V->List wa->Prop
 |nil:ue w ρ h [] []|cons {x:V} {X:List V} {v:wa} {T:List wa}:VR w ρ h x v->ue w ρ h X T->ue w ρ h (x::X) (v::T)
end
section
variable {w:zb} {ρ W:List Ca} {h S:qb}
theorem VR.mono(d:ρ<+:W)(c:∀a o,h.get? a=J o->Jh o->S.get? a=J o)(q:VR w ρ h x v):VR w W S x v:=
 VR.rec (motive_1:=λx v u=>VR w W S x v) (motive_2:=λX T u=>ue w W S X T) .none (λb=>.bool b) (λi t=>.int i t) (λx t=>.str x t) (λe=>.ref (by
  obtain⟨t,rfl⟩:=d;refine U (Xa (wb.mp e).1) ?_;exact e)) (λv=>.k v) (λe=>.rng (c _ _ e rfl)) (λb f g e=>.iset b f g (rD e λj x=>⟨j,c _ _ x trivial⟩)) (λb e l u r=>.t b (c _ _ e rfl) l r) .nil (λu u a r=>.cons a r) q
def qdn(w:zb)(ρ:List Ca)(h:qb)(z:V)(y:wa):Prop:=match z,y with|.none,v=>v=.none|.bool b,v=>v=.bool b|.int i,v=>∃t,v=.int i t|.str x,v=>∃t,v=.str x t|.ref i,v=>∃a,v=.ref a/\ρ[i]?=J a|.k c,v=>v=c|.rng lo b,v=>∃a t u s,v=.ref a/\TK h a lo b 1 t u s|.iset X,v=>∃a b c d,v=.ref a/\b.isSome=X.contains 0/\c.isSome=X.contains 1/\d.isSome=X.contains 2/\v5 w h a b c d|.t X,v=>∃a T n,v=.ref a/\¬Av.av a/\h.get? a=J (gu T n)/\X.length<=4096/\ue w ρ h X T
theorem VR.wF(r:VR w ρ h x v):qdn w ρ h x v:=
 VR.rec (motive_1:=λx v u=>qdn w ρ h x v) (motive_2:=λu u u=>True) rfl (λu=>rfl) (λu t=>⟨t,rfl⟩) (λu t=>⟨t,rfl⟩) (λe=>⟨_,rfl,e⟩) (λu=>rfl) (λe=>⟨_,_,_,_,rfl,e⟩) (λa b c d=>⟨_,_,_,_,rfl,a,b,c,d⟩) (λa b c d u=>⟨_,_,_,rfl,a,b,c,d⟩) trivial (λu u u u=>trivial) r
theorem ue.ind{P:List V->List wa->Prop}(b:P [] [])(c:∀x X v T,VR w ρ h x v->ue w ρ h X T->P X T->P (x::X) (v::T))(r:ue w ρ h X T):P X T:=
 ue.rec (motive_1:=λu u u=>True) (motive_2:=λx v u=>P x v) trivial (λu=>trivial) (λu u=>trivial) (λu u=>trivial) (λu=>trivial) (λu=>trivial) (λu=>trivial) (λu u u u=>trivial) (λu u u u u=>trivial) b (λa t u d=>c _ _ _ _ a t d) r
theorem ue.mono(b:ρ<+:W)(c:∀a o,h.get? a=J o->Jh o->S.get? a=J o)(q:ue w ρ h X T):ue w W S X T:=
 q.ind (P:=λX T=>ue w W S X T) .nil λu u u u a u d=>.cons (a.mono b c) d
theorem ue.length(r:ue w ρ h X T):X.length=T.length:=by
 induction X generalizing T with
 |nil=>cases r;rfl|cons x X b=>cases r with|cons _ r=>simp[b r]
theorem ue.append{b:List V}{c:List wa}(r:ue w ρ h X T)(q:ue w ρ h b c):ue w ρ h (X++b) (T++c):=by
 induction X generalizing T with
 |nil=>cases r;exact q|cons x X d=>cases r with|cons a r=>exact .cons a (d r)
theorem ue.one(r:VR w ρ h x v):ue w ρ h [x] [v]:=.cons r .nil
theorem ue.get(r:ue w ρ h X T)(e:X[i]?=J x):∃v,T[i]?=J v/\VR w ρ h x v:=by
 induction X generalizing T i with
 |nil=>simp at e|cons y X c=>
  refine aa λb=>?_;cases r with
  |cons a r=>
   refine b ?_;clear b
   induction i using Sa with
   |zero=>simp at e;subst e;exact⟨_,rfl,a⟩|succ i=>simpa using c r (by simpa using e)
theorem ue.none_of(r:ue w ρ h X T)(e:X[i]?=Y):T[i]?=Y:=by
 rw[fh]at e|-;exact Ed r.length e
theorem ue.set(r:ue w ρ h X T)(i:Nat)(q:VR w ρ h x v):ue w ρ h (X.set i x) (T.set i v):=by
 induction X generalizing T i with
 |nil=>cases r;exact .nil|cons y X b=>
  cases r with
  |cons a r=>
   induction i using Sa with
   |zero=>exact .cons q r|succ i=>exact .cons a (b r i)
theorem ue.take(r:ue w ρ h X T)(i:Nat):ue w ρ h (X.take i) (T.take i):=by
 induction X generalizing T i with
 |nil=>cases r;simp;exact .nil|cons y X b=>
  cases r with
  |cons a r=>
   induction i using Sa with
   |zero=>exact .nil|succ i=>exact .cons a (b r i)
theorem ue.drop(r:ue w ρ h X T)(i:Nat):ue w ρ h (X.drop i) (T.drop i):=by
 induction X generalizing T i with
 |nil=>cases r;simp;exact .nil|cons y X b=>
  cases r with
  |cons a r=>
   induction i using Sa with
   |zero=>exact .cons a r|succ i=>exact b r i
end
class inductive SE(w:zb)(ρ:List Ca)(h:qb):List (Bb×V)->List Cf->Prop
 |nil:SE w ρ h [] []|cons {k:Bb} {x:V} {t:jk} {v:wa} {es ents}:VR w ρ h x v->SE w ρ h es ents->SE w ρ h ((k,x)::es) (⟨C4 w k,.str k t,v⟩::ents)
def OR(w:zb)(ρ:List Ca)(h:qb)(z:O)(y:Ca):Prop:=match z,y with|.list X,a=>∃T n,h.get? a=J (listOf T.toArray n)/\X.length<=4096/\ue w ρ h X T|.idict c,a=>∃o b,h.get? a=J o/\o.IsDictOf (jg pg w) b/\b.map (λx=>x.1)=c.map (λx=>x.1)/\ue w ρ h (c.map λx=>x.2) (b.map λx=>x.2)/\c.length<=4096|.h c,a=>∃b n,h.get? a=J (qm b n)/\SE w ρ h c b/\(c.map λx=>x.1).Nodup/\c.length<=4096|.inst c d,a=>∃b,ρ[d]?=J b/\h.get? a=J (qeR c b)
structure R(w:zb)(Q:qb)(ρ:List Ca)(N:St)(h:qb):Prop where
 len:ρ.length=N.length
 nodup:ρ.Nodup
 fresh:∀a∈ρ,Q.get? a=Y
 avl:∀a,Av.av a->∃o,h.get? a=J o/\Jh o
 wK:∀a o,Q.get? a=J o->h.get? a=J o
 obj:∀(i:Nat)(o:O)(a:Ca),N[i]?=J o->ρ[i]?=J a->OR w ρ h o a
structure Kp(eo:Ca->Prop)(ρ:List Ca)(h S:qb)(W:List Ca):Prop where
 pre:ρ<+:W
 fresh:∀a∈W,a∈ρ\/h.get? a=Y
 keep:∀a o,h.get? a=J o->a∉ρ->¬eo a->S.get? a=J o
 imm:∀a o,h.get? a=J o->Jh o->S.get? a=J o
 live:∀a,(h.get? a).isSome=Z->(S.get? a).isSome=Z
variable {w:zb} {Q h S K:qb} {ρ W L:List Ca} {N I:St} {eo:Ca->Prop}
theorem Kp.refl:Kp eo ρ h h ρ:=⟨Ja _,λu h=>.inl h,λu u e u u=>e,λu u e u=>e,λu e=>e⟩
theorem Kp.trans(x:Kp eo ρ h S W)(y:Kp eo W S K L):Kp eo ρ h K L where
 pre:=x.pre.trans y.pre
 fresh a ha:=by
  rcases y.fresh a ha with q|q
  ·exact x.fresh a q
  ·refine .inr ?_
   induction e:h.get? a with
   |none=>rfl|some o=>have:=x.live a (by refine U e ?_;rfl);rw[q]at this;exact zc this ia
 keep a o e n1 n2:=y.keep a o (x.keep a o e n1 n2) (λq=>by
  rcases x.fresh a q with q|q
  ·exact n1 q
  ·rw[q]at e;exact ja e) n2
 imm a o e i:=y.imm a o (x.imm a o e i) i
 live a e:=y.live a (x.live a e)
theorem Kp.weaken{b:Ca->Prop}(x:Kp eo ρ h S W)(c:∀a,eo a->b a):Kp b ρ h S W:=
 ⟨x.pre,x.fresh,λa o e d f=>x.keep a o e d λq=>f (c a q),x.imm,x.live⟩
theorem Kp.vr(k:Kp eo ρ h S W)(r:VR w ρ h x v):VR w W S x v:=r.mono k.pre k.imm
theorem Kp.vrs{x:List V}{v:List wa}(k:Kp eo ρ h S W)(r:ue w ρ h x v):ue w W S x v:=r.mono k.pre k.imm
theorem SE.mono(d:ρ<+:W)(e:∀a o,h.get? a=J o->Jh o->S.get? a=J o){c:List (Bb×V)}{b:List Cf}(r:SE w ρ h c b):SE w W S c b:=by
 induction r with
 |nil=>exact .nil|cons a u f=>exact .cons (a.mono d e) f
theorem Dm(b:ρ<+:W)(e:ρ[i]?=J a):W[i]?=J a:=by
 obtain⟨t,rfl⟩:=b;refine U (Xa (wb.mp e).1) ?_;exact e
theorem OR.mono(f:ρ<+:W)(j:∀a o,h.get? a=J o->Jh o->S.get? a=J o)(g:∀x,h.get? a=J x->S.get? a=J x)(r:OR w ρ h o a):OR w W S o a:=by
 induction o with
 |list X=>obtain⟨T,n,e,l,q⟩:=r;exact⟨T,n,g _ e,l,q.mono f j⟩|idict m=>obtain⟨o,b,e,d,k,q,l⟩:=r;exact⟨o,b,g _ e,d,k,q.mono f j,l⟩|h m=>obtain⟨b,n,e,q,d,l⟩:=r;exact⟨b,n,g _ e,q.mono f j,d,l⟩|inst c d=>obtain⟨b,e,q⟩:=r;exact⟨b,Dm f e,g _ q⟩
theorem OR.get(r:OR w ρ h o a):∃x,h.get? a=J x/\¬Jh x:=by
 induction o with
 |list X=>obtain⟨T,n,e,_⟩:=r;exact⟨_,e,by simp[Jh]⟩|idict c=>
  refine aa λb=>?_;obtain⟨o,f,e,⟨g,j,_,d,_⟩,_⟩:=r;exact b (⟨_,e,by simp[Jh,d]⟩)
 |h c=>obtain⟨b,n,e,_⟩:=r;exact⟨_,e,by simp[Jh]⟩|inst c d=>obtain⟨b,e,q⟩:=r;exact⟨_,q,by simp[Jh]⟩
theorem R.at(r:R w Q ρ N h)(e:N[i]?=J o):∃a,ρ[i]?=J a/\OR w ρ h o a:=by
 have b:i<ρ.length:=by refine U r.len ?_;exact((wb.mp e).1)
 exact⟨ρ[i],Wa b,r.obj i o _ e (Wa b)⟩
theorem R.mem(r:R w Q ρ N h)(d:a∈ρ):∃(i:Nat)(o:O),ρ[i]?=J a/\N[i]?=J o/\OR w ρ h o a:=by
 refine aa λe=>?_;obtain⟨i,b,rfl⟩:=Gj d;refine e ?_;have c:i<N.length:=by refine Ed r.len ?_;exact b
 exact⟨i,N[i],Wa b,Wa c,r.obj i _ _ (Wa c) (Wa b)⟩
theorem R.live(r:R w Q ρ N h)(b:a∈ρ):∃x,h.get? a=J x/\¬Jh x:=by
 refine aa λc=>?_;obtain⟨i,o,_,_,q⟩:=r.mem b;exact c q.get
theorem R.notIn(r:R w Q ρ N h){o:wD}(e:h.get? a=J o)(i:Jh o):a∉ρ:=λc=>by
 obtain⟨x,b,d⟩:=r.live c;rw[e]at b;obtain rfl:=ba b;exact d i
theorem R.notAv(r:R w Q ρ N h)(e:h.get? a=Y):¬Av.av a:=λq=>by obtain⟨o,b,_⟩:=r.avl a q;rw[e]at b;exact ja b
theorem R.wI(r:R w Q ρ N h)(b:∀a o,h.get? a=J o->S.get? a=J o):R w Q ρ N S:=
 ⟨r.len,r.nodup,r.fresh,λa c=>(by obtain⟨o,d,e⟩:=r.avl a c;exact⟨o,b a o d,e⟩),λa o e=>b a o (r.wK a o e),λi o a d f=>(r.obj i o a d f).mono (Ja _) (λa o e u=>b a o e) (b a)⟩
theorem Kp.wI(b:∀a o,h.get? a=J o->S.get? a=J o):Kp eo ρ h S ρ:=
 ⟨Ja _,λu h=>.inl h,λa o e u u=>b a o e,λa o e u=>b a o e,λa e=>by
  obtain⟨o,c⟩:=Na.mp e;refine U (b a o c) ?_;rfl⟩
theorem R.beside(r:R w Q ρ N h){wr:Ca->Prop}(b:∀a o,¬wr a->h.get? a=J o->S.get? a=J o)(c:∀a,wr a->a∉ρ/\Q.get? a=Y/\∀o,h.get? a=J o->¬Jh o):R w Q ρ N S:=
 ⟨r.len,r.nodup,r.fresh,λa f=>(by obtain⟨o,d,e⟩:=r.avl a f;exact⟨o,b a o (λq=>(c a q).2.2 o d e) d,e⟩),λa o e=>b a o (λq=>by rw[(c a q).2.1]at e;exact ja e) (r.wK a o e),λi o a g d=>
  (r.obj i o a g d).mono (Ja _) (λa o e q=>b a o (λz=>(c a z).2.2 o e q) e) λx e=>b a x (λq=>(c a q).1 (Ma d)) e⟩
theorem Kp.beside{wr:Ca->Prop}(b:∀a o,¬wr a->h.get? a=J o->S.get? a=J o)(c:∀a,wr a->(∀o,h.get? a=J o->¬Jh o/\eo a/\(S.get? a).isSome=Z)):Kp eo ρ h S ρ:=
 ⟨Ja _,λu h=>.inl h,λa o e u f=>b a o (λq=>f (c a q o e).2.1) e,λa o e i=>b a o (λq=>(c a q o e).1 i) e,λa e=>by
  obtain⟨o,d⟩:=Na.mp e;by_cases q:wr a
  ·exact(c a q o d).2.2
  ·refine U (b a o q d) ?_;rfl⟩
theorem R.upd(r:R w Q ρ N h)(m:ρ[i]?=J a)(f:∀b x,b≠a->h.get? b=J x->S.get? b=J x)(k:OR w ρ S o a):R w Q ρ (N.set i o) S/\Kp eo ρ h S ρ:=by
 have n:a∈ρ:=Ma m;refine aa λs=>?_;obtain⟨E,g,t⟩:=r.live n;refine s ?_;have c:∀b x,h.get? b=J x->Jh x->S.get? b=J x:=λb x e A=>f b x (λq=>by subst q;rw[e]at g;obtain rfl:=ba g;exact t A) e;refine⟨⟨by refine U yb ?_;exact r.len,r.nodup,r.fresh,λb Q=>(by obtain⟨o,k,d⟩:=r.avl b Q;exact⟨o,c b o k d,d⟩),λb x e=>f b x (λq=>by subst q;rw[r.fresh b n]at e;exact ja e) (r.wK b x e),λj p b d l=>?_⟩,
  Ja _,λu h=>.inl h,λb x e B u=>f b x (λq=>B (q▸n)) e,c,λb e=>?_⟩
 ·by_cases q:i=j
  ·subst q
   rw[m]at l;obtain rfl:=ba l;rw[jl]at d;simp only[if_true]at d
   split at d<;>(first|exact ja d|obtain rfl:=ba d)
   exact k
  ·rw[Xc q]at d
   have y:b≠a:=λz=>by
    subst z;obtain⟨F,C⟩:=wb.mp m;obtain⟨G,D⟩:=wb.mp l;exact q ((gR r.nodup).mp (C.trans D.symm))
   exact(r.obj j p b d l).mono (Ja _) c λx e=>f b x y e
 ·by_cases q:b=a
  ·refine aa λs=>?_
   subst q;obtain⟨x,d,_⟩:=k.get;refine s ?_;refine U d ?_;rfl
  ·obtain⟨x,d⟩:=Na.mp e
   refine U (f b x q d) ?_;rfl
theorem R.new(r:R w Q ρ N h)(d:∀b x,h.get? b=J x->S.get? b=J x)(s:h.get? a=Y)(t:OR w (ρ++[a]) S o a):R w Q (ρ++[a]) (N++[o]) S/\Kp eo ρ h S (ρ++[a]):=by
 have z:Q.get? a=Y:=by
  induction e:Q.get? a with
  |none=>rfl|some x=>have:=r.wK a x e;rw[s]at this;exact ja this
 have m:a∉ρ:=λq=>by obtain⟨x,g,_⟩:=r.live q;rw[s]at g;exact ja g
 refine⟨⟨by simp[r.len],?_,?_,λb Q=>(by obtain⟨o,t,c⟩:=r.avl b Q;exact⟨o,d b o t,c⟩),λb x e=>d b x (r.wK b x e),λj p b c l=>?_⟩,Hc _ _,λb f=>?_,λb x e u u=>d b x e,λb x e u=>d b x e,λb e=>?_⟩
 ·exact U (propext di) (⟨r.nodup,by simp,λx g y k=>by rw[Ra]at k;subst k;exactλq=>m (q▸g)⟩)
 ·intro b f
  rcases Xb.mp f with q|q
  ·exact r.fresh b q
  ·rw[Ra]at q;subst q;exact z
 ·by_cases q:j<N.length
  ·rw[Xa q]at c
   rw[Xa (by refine U r.len ?_;exact q)]at l;exact(r.obj j p b c l).mono (Hc _ _) (λb x e u=>d b x e) λx e=>d b x e
  ·rw[La (og q)]at c
   rw[La (by refine U r.len ?_;exact og q),r.len]at l;refine aa λn=>?_
   induction p:j - N.length using Sa with
   |zero=>refine n ?_;clear n;rw[p]at c l;simp at c l;subst c l;exact t|succ k=>refine n ?_;clear n;rw[p]at c;simp at c
 ·rcases Xb.mp f with q|q
  ·exact .inl q
  ·rw[Ra]at q;subst q;exact .inr s
 ·obtain⟨x,g⟩:=Na.mp e
  refine U (d b x g) ?_;rfl
end
section
variable {i n k:Nat} {c a:Ca} {P:Prop} {b:Bool} {r:Om}
theorem Cn{m:U3}{A:Yb}{F:Type}{t:Yl F}{O:F->Ea->Prop}{R:wa->Ea->Prop}{s:Ea}(h:∀(q:F->Ea->Prop)(G:wa->Ea->Prop),(∀a s',O a s'->q a s')->Qa m A t q G s):Qa m A t O R s:=h O R λq q h=>h
variable [e:Av]
noncomputable def xc(m:List Bb)(q:Bb):Option Nat:=match m,q with|[],G=>Y|y::G,x=>match xc G x with|some i=>J (i+1)|none=>if y=x then J 0 else Y
theorem SC{y x:Bb}{m:List Bb}(h:xc (y::m) x=J i):(∃G,xc m x=J G/\i=G+1)\/(y=x/\i=0):=by
 replace h:(match xc m x with|some i=>J (i+1)|none=>if y=x then J 0 else Y)=J i:=h
 induction O:xc m x with
 |some G=>rw[O]at h;exact .inl ⟨G,rfl,(ba h).symm⟩|none=>
  rw[O]at h;by_cases q:y=x
  ·exact .inr ⟨q,(ba ((Dd q).symm.trans h)).symm⟩
  ·exact ja ((fe q).symm.trans h)
theorem Tj{N:List Bb}{x:Bb}:{i:Nat}->xc N x=J i->N[i]?=J x:=by
 induction N with
 |nil=>exactλh=>ja h|cons y m O=>
  intro i h;rcases SC h with⟨q,G,rfl⟩|⟨rfl,rfl⟩
  ·exact O G
  ·rfl
theorem Oy{N:List Bb}{x:Bb}(h:xc N x=J i):i<N.length:=(wb.mp (Tj h)).1
theorem Wk:∀(N own:List Bb)(x:Bb),xc (N++own) x=match xc own x with|some i=>J (N.length+i)|none=>xc N x:=by
 intro N
 induction N with
 |nil=>
  rintro own x;show xc own x=_;induction xc own x with
  |none=>rfl|some i=>exact Gc J (lh i).symm
 |cons y m ih=>
  rintro own x;have R:∀q:List Bb,xc (y::q) x=match xc q x with|some i=>J (i+1)|none=>if y=x then J 0 else Y:=λG=>rfl
  refine U Km (U (R _) (U (R _) (U (ih own x) ?_)))
  induction O:xc own x with
  |some i=>simp only[mc,Bj];lia|none=>rfl
structure KX(L:Ca)(ρ:List Ca)(h u:qb)(B:List Ca):Prop extends Kp (λa=>a=L) ρ h u B where
 ns:∀m,h.Ns L m->u.Ns L m
structure Lc(w:zb)(W:qb)(X:zj)(E:Ca->Prop)(N:List Bb)(lo:Nat)(D:Me)(ρ:List Ca)(h:qb):Prop where
 kind:X.scope.kind=.function
 globals:X.globals=mainGlobals
 builtins:X.builtins=ip
 len:D.length=N.length
 ns:∃m,h.Ns X.locals m/\∀(x:Bb)(i:Nat)(v:V),xc N x=J i->X.kindOf x=J .local->D[i]?=J (J v)->∃S,m x=J S/\VR w ρ h v S
 cells:∀(x:Bb)(i:Nat)(v:V),xc N x=J i->(X.kindOf x=J .cell\/X.kindOf x=J .free)->D[i]?=J (J v)->∃c S,X.cells.lookup x=J c/\h.IsCell c (J S)/\VR w ρ h v S
 loc:X.locals∉ρ/\W.get? X.locals=Y/\E X.locals
 has:∀x k,(x,k)∈X.scope.names->k=.cell\/k=.free->∃c v,X.cells.lookup x=J c/\h.IsCell c v
 apart:X.cells.Pairwise λx y=>x.2≠y.2
 own:∀(x:Bb)(i:Nat),xc N x=J i->lo<=i->X.kindOf x=J .local\/(X.kindOf x=J .cell/\∃c v,X.cells.lookup x=J c/\h.IsCell c v/\W.get? c=Y/\E c)
 eoh:∀a,E a->W.get? a=Y
 eol:∀a,E a->(h.get? a).isSome=Z
section
variable {w:zb} {W h u h'':qb} {ρ B g:List Ca} {K Q:St} {E:Ca->Prop} {L:Ca} {X:zj} {N:List Bb} {lo:Nat} {D:Me}
theorem KX.refl:KX L ρ h h ρ:=⟨Kp.refl,λm n=>n⟩
theorem KX.trans(x:KX L ρ h u B)(y:KX L B u h'' g):KX L ρ h h'' g:=⟨x.toKp.trans y.toKp,λm n=>y.ns m (x.ns m n)⟩
theorem KX.wI(q:∀a o,h.get? a=J o->u.get? a=J o):KX L ρ h u ρ:=⟨Kp.wI q,λm n=>n.keeps q⟩
theorem ZI{v:Option wa}(x:h.IsCell c v):∃o,h.get? c=J o/\¬Jh o:=by
 obtain⟨o,m,q⟩:=x;exact⟨o,m,by simp[Jh,q]⟩
theorem OR.notCell{o:O}(m:OR w ρ h o a){v:Option wa}:¬h.IsCell a v:=λx1=>by
 obtain⟨x,q,G⟩:=x1
 induction o with
 |list xs=>obtain⟨vs,n,R,_⟩:=m;rw[q]at R;obtain rfl:=ba R;cases G|idict es=>obtain⟨o,x3,R,⟨x4,ep,_,d',_⟩,_⟩:=m;rw[q]at R;obtain rfl:=ba R;rw[G]at d';cases d'|h es=>obtain⟨x2,n,R,_⟩:=m;rw[q]at R;obtain rfl:=ba R;cases G|inst c G=>obtain⟨dx,_,R⟩:=m;rw[q]at R;obtain rfl:=ba R;cases G
theorem R.cellNot(m:R w W ρ K h){v:Option wa}(x:h.IsCell c v):c∉ρ:=λq=>by
 obtain⟨i,o,_,_,G⟩:=m.mem q;exact G.notCell x
theorem Mn{m:Bb->Option wa}{v:Option wa}(n:h.Ns L m):¬h.IsCell L v:=λO=>by
 obtain⟨o,q,G⟩:=O;obtain⟨o',es,ep,R,d',_⟩:=n;rw[q]at R;obtain rfl:=ba R;rw[G]at d';cases d'
theorem Lc.kx(G:Lc w W X E N lo D ρ h)(O:R w W ρ K h)(k:KX X.locals ρ h u B):Lc w W X E N lo D B u:=by
 refine aa λnq=>?_;obtain⟨x1,hm,hv⟩:=G.ns;refine nq ?_;have x3:∀c v,h.IsCell c v->u.IsCell c v:=λc v x=>by
  have hn:=O.cellNot x;obtain⟨o,m,q⟩:=x;exact⟨o,k.keep c o m hn λx2=>Mn hm (v:=v) ⟨o,by refine Ed x2 ?_;exact m,q⟩,q⟩
 refine⟨G.kind,G.globals,G.builtins,G.len,⟨x1,k.ns x1 hm,λx i v a b c=>?_⟩,λx i v a b c=>?_,⟨λx2=>?_,G.loc.2⟩,λx k a b=>?_,G.apart,λx i a b=>?_,G.eoh,λa m=>k.live a (G.eol a m)⟩
 ·refine aa λnq=>?_
  obtain⟨S,q,q2⟩:=hv x i v a b c;exact nq (⟨S,q,k.vr q2⟩)
 ·refine aa λnq=>?_
  obtain⟨c,S,q,q2,q3⟩:=G.cells x i v a b c;exact nq (⟨c,S,q,x3 _ _ q2,k.vr q3⟩)
 ·refine aa λnq=>?_
  rcases k.fresh _ x2 with x2|x2
  ·exact nq (G.loc.1 x2)
  ·refine nq ?_
   obtain⟨o,_,_,m,_⟩:=hm;rw[x2]at m;exact ja m
 ·refine aa λnq=>?_
  obtain⟨c,v,q,q2⟩:=G.has x k a b;exact nq (⟨c,v,q,x3 _ _ q2⟩)
 ·refine aa λnq=>?_
  rcases G.own x i a b with x2|⟨x2,c,v,q,q2,q3⟩
  ·exact nq (.inl x2)
  ·exact nq (.inr ⟨x2,c,v,q,x3 _ _ q2,q3⟩)
theorem Lc.wI(m:Lc w W X E N lo D ρ h)(q:R w W ρ K h)(G:∀a o,h.get? a=J o->u.get? a=J o):Lc w W X E N lo D ρ u:=m.kx q (KX.wI G)
theorem R.new'(m:R w W ρ K h){o:O}(G:∀b x,h.get? b=J x->u.get? b=J x)(hn:h.get? a=Y)(ho:OR w (ρ++[a]) u o a):R w W (ρ++[a]) (K++[o]) u/\KX L ρ h u (ρ++[a]):=
 qes (λx y=>⟨x,y,λq n=>n.keeps G⟩) (m.new (eo:=λa=>a=L) G hn ho)
theorem R.upd'(m:R w W ρ K h){o:O}(ea:ρ[i]?=J a)(hk:ff a h u)(ho:OR w ρ u o a)(hL:L∉ρ):R w W ρ (K.set i o) u/\KX L ρ h u ρ:=
 qes (λx y=>⟨x,y,λG n=>n.sameBut hk λq=>hL (q▸Ma ea)⟩) (m.upd (eo:=λa=>a=L) ea (λb x n G=>(hk.2 b n).trans G) ho)
end
def Bh(s s':Ea):Prop:=s'={s with heap:=s'.heap,toks:=s'.toks}
theorem Bh.trans{s s' m:Ea}(a:Bh s s')(b:Bh s' m):Bh s m:=by
 unfold Bh at a b|-;rw[a]at b;exact b
inductive PR{F I:Type}(Rel:List Ca->qb->F->I->Prop)(w:zb)(W:qb)(L:Ca)(ρ:List Ca)(s:Ea)(Q:St)(v:F)(S:I)(s':Ea):Prop
 |mk (B:List Ca):Bh s s'->KX L ρ s.heap s'.heap B->R w W B Q s'.heap->Rel B s'.heap v S->PR Rel w W L ρ s Q v S s'
noncomputable abbrev RB:List Ca->qb->Bool->Bool->Prop:=λm m b q=>q=b
abbrev PV(w:zb)(W:qb)(L:Ca)(ρ:List Ca)(s:Ea)(Q:St)(v:V)(S:wa)(s':Ea):Prop:=PR (VR w) w W L ρ s Q v S s'
abbrev qfu(w:zb)(W:qb)(L:Ca)(ρ:List Ca)(s:Ea)(Q:St)(q:List V)(m:List wa)(s':Ea):Prop:=PR (ue w) w W L ρ s Q q m s'
abbrev PB(w:zb)(W:qb)(L:Ca)(ρ:List Ca)(s:Ea)(Q:St)(b:Bool)(m:Bool)(s':Ea):Prop:=PR RB w W L ρ s Q b m s'
noncomputable abbrev No:wa->Ea->Prop:=λm m=>False
structure Eg(n:Nat)(A:Yb):Prop where
 hh:A.handled=Y
 depth:A.depth+3*n+10<=900
 units:A.units+20*n+200<=9900
theorem Eg.u64{A:Yb}(a:Eg n A):A.units+100<cLine:=by have:=a.units;have:=cLine_is;lia
theorem Eg.room{A:Yb}(a:Eg n A):A.depth<qcL:=by have:=a.depth;have:qcL=1000:=rfl;lia
theorem ab{F I:Type}{o:Option F}{f:F->Option I}{b:I}(m:o.bind f=J b)(k:∀a,o=J a->f a=J b->P):P:=by
 obtain⟨a,q,G⟩:=Fa.mp m;exact k a q G
theorem qe{F I:Type}{o:Option F}{f:F->I}{b:I}(m:o.map f=J b)(k:∀a,o=J a->f a=b->P):P:=by
 obtain⟨a,q,G⟩:=ef.mp m;exact k a q G
theorem Iq{F I l:Type}{o:Option F}{f:F->I×l}{v:I}{G:l}{P:I->l->Prop}(m:o.map f=J (v,G))(h:∀a,o=J a->P (f a).1 (f a).2):P v G:=by
 induction o with
 |none=>exact ja m|some a=>
  have q:f a=(v,G):=ba m;obtain⟨rfl,rfl⟩:(f a).1=v/\(f a).2=G:=⟨Gc oj q,Gc UF q⟩;exact h a rfl
theorem yf{m:Unit}(h:Ge b=J m):b=Z:=by induction b<;>first|rfl|exact ja h
def Ga{F I:Type}(m:List Ca->qb->F->I->Prop)(w:zb)(W:qb)(A:Yb)(L:Ca)(ρ:List Ca)(s:Ea)(t:Yl I)(o:Option (F×St)):Prop:=
 ∀v Q,o=J (v,Q)->Qa (bb pg w) A t (PR m w W L ρ s Q v) No s
def ct{F I:Type}(q:List Ca->qb->F->I->Prop)(w:zb)(W:qb)(A:Yb)(X:zj)(E:Ca->Prop)(N:List Bb)(lo:Nat)(D:Me)(t:Yl I)(m:St->Option (F×St)):Prop:=
 ∀ρ K s,R w W ρ K s.heap->Lc w W X E N lo D ρ s.heap->Ga q w W A X.locals ρ s t (m K)
abbrev uc(w:zb)(W:qb)(A:Yb)(X:zj)(E:Ca->Prop)(N:List Bb)(lo:Nat)(D:Me)(t:Yl wa)(m:St->Option (V×St)):Prop:=ct (VR w) w W A X E N lo D t m
abbrev Vi(w:zb)(W:qb)(A:Yb)(X:zj)(E:Ca->Prop)(N:List Bb)(lo:Nat)(D:Me)(t:Yl (List wa))(m:St->Option (List V×St)):Prop:=ct (ue w) w W A X E N lo D t m
abbrev Zg(w:zb)(W:qb)(A:Yb)(X:zj)(E:Ca->Prop)(N:List Bb)(lo:Nat)(D:Me)(t:Yl Bool)(m:St->Option (Bool×St)):Prop:=ct RB w W A X E N lo D t m
section
variable {w:zb} {W:qb} {A:Yb} {L:Ca} {ρ C:List Ca} {s s':Ea} {Q:St}
theorem PR.after{F I:Type}{m:List Ca->qb->F->I->Prop}{s1:Ea}(t:Bh s s1)(k:KX L ρ s.heap s1.heap C){v:F}{S:I}(x:PR m w W L C s1 Q v S s'):PR m w W L ρ s Q v S s':=by
 obtain⟨B,q,G,O,R⟩:=x;exact⟨B,t.trans q,k.trans G,O,R⟩
variable {F I l d κ:Type} {R1:List Ca->qb->F->I->Prop} {z:List Ca->qb->l->d->Prop} {f:Yl I} {t:I->Yl d} {T:Yl d} {o:Option (F×St)} {x y:Option (l×St)} {p:Option κ}
abbrev u5(w:zb)(A:Yb)(s:Ea)(f:Yl I)(t:I->Yl d)(T:Yl d):Prop:=∀m,Qa (bb pg w) A f (λb s1=>Qa (bb pg w) A (t b) m No s1) No s->Qa (bb pg w) A T m No s
theorem Ga.bind{k:F×St->Option (l×St)}(O:Ga R1 w W A L ρ s f o)(ht:∀b a C s1 j,KX L ρ s.heap s1.heap C->R w W C j s1.heap->R1 C s1.heap a b->Ga z w W A L C s1 (t b) (k (a,j)))(hT:u5 w A s f t T):Ga z w W A L ρ s T (o.bind k):=
 λv Q m=>ab m λp e1 e2=>hT _ (Da (O p.1 p.2 e1) (λb s1 q=>by
  obtain⟨C,t1,k1,r1,x1⟩:=q;exact Da (ht b p.1 C s1 p.2 k1 r1 x1 v Q e2) (λc G q=>PR.after t1 k1 q) λG G x=>x) λG G x=>x)
theorem Ga.map{m:κ->l×St}(h:∀a,p=J a->Qa (bb pg w) A T (PR z w W L ρ s (m a).2 (m a).1) No s):Ga z w W A L ρ s T (p.map m):=
 λq q G=>Iq (P:=λv O=>Qa (bb pg w) A T (PR z w W L ρ s O v) No s) G h
theorem Ga.opt{k:κ->Option (l×St)}(h:∀a,p=J a->Ga z w W A L ρ s T (k a)):Ga z w W A L ρ s T (p.bind k):=λm m q=>ab q λa G O=>h a G _ _ O
theorem Ga.okb{c:Bool}{k:Unit->Option (l×St)}(h:c=Z->Ga z w W A L ρ s T (k ())):Ga z w W A L ρ s T ((Ge c).bind k):=Ga.opt λm q=>h (yf q)
theorem Ga.ifB{c:Bool}(m:c=Z->Ga z w W A L ρ s T x)(q:c=ua->Ga z w W A L ρ s T y):Ga z w W A L ρ s T (ln c x y):=by
 induction c with
 |true=>exact m rfl|false=>exact q rfl
theorem Ga.ret{v:l}{G:St}(h:Qa (bb pg w) A T (PR z w W L ρ s G v) No s):Ga z w W A L ρ s T (J (v,G)):=λm m q=>by
 obtain⟨rfl,rfl⟩:=Ta (ba q);exact h
theorem Ga.no:Ga z w W A L ρ s T Y:=λm m q=>ja q
theorem Ga.of{q:Yl d}(h:Ga z w W A L ρ s q x)(hT:∀m,Qa (bb pg w) A q m No s->Qa (bb pg w) A T m No s):Ga z w W A L ρ s T x:=λv Q m=>hT _ (h v Q m)
end
variable {w:zb} {W:qb} {L:Ca} {ρ C:List Ca} {K j Q:St} {s s1:Ea} {v:V} {S:wa} {A:Yb} {X:zj} {E:Ca->Prop} {N:List Bb} {lo:Nat} {D:Me}
theorem PV.same{q:Nat}(m:R w W ρ K s.heap)(x:VR w ρ s.heap v S):PV w W L ρ s K v S {s with toks:=q}:=⟨ρ,rfl,.refl,m,x⟩
theorem PV.wU(m:R w W ρ K s.heap)(x:VR w ρ s.heap v S):PV w W L ρ s K v S s:=⟨ρ,rfl,.refl,m,x⟩
theorem PB.wU(m:R w W ρ K s.heap):PB w W L ρ s K b b s:=⟨ρ,rfl,.refl,m,rfl⟩
theorem PR.id{F I:Type}{G:List Ca->qb->F->I->Prop}{x:F}{y:I}(m:R w W ρ K s.heap)(q:G ρ s.heap x y):PR G w W L ρ s K x y s:=⟨ρ,rfl,.refl,m,q⟩
theorem N2{x:Bb}(hs:xc N x=J i)(R:X.kindOf x=J .local\/X.kindOf x=J .cell\/X.kindOf x=J .free)(hd:(x==("__debug__":Bb))=ua)(x1:(x==("__classdict__":Bb))=ua):
 uc w W A X E N lo D (yc (.Name x r) X) (λK=>(Zk D i).map λv=>(v,K)):=λρ K s q G=>Ga.map λv O=>wpAny_Name (by
 refine aa λnq=>?_;obtain⟨_,e1,rfl⟩:=Fa.mp O;refine nq ?_;rcases R with R|R|R
 ·refine aa λnq=>?_
  obtain⟨m,x2,hv⟩:=G.ns;obtain⟨S,q1,q2⟩:=hv x i _ hs R e1;exact nq (SV G.kind R x2 q1 (PV.wU q q2))
 ·obtain⟨c,S,q1,q2,m⟩:=G.cells x i _ hs (.inl R) e1
  exact wpAny_loadName_cell G.kind R q1 q2 (PV.wU q m)
 ·obtain⟨c,S,q1,q2,m⟩:=G.cells x i _ hs (.inr R) e1
  exact FX G.kind R q1 q2 (PV.wU q m) x1) hd
theorem ZY{i:Int}:uc w W A X E N lo D (yc (.Constant (.int i) k r) X) (λK=>J (.int i,K)):=λm m m q m=>Ga.ret (S2 (PV.same q (.int _ _)))
theorem A1{i:Bb}:uc w W A X E N lo D (yc (.Constant (.str i) k r) X) (λK=>J (.str i,K)):=λm m m q m=>Ga.ret (Uw (PV.same q (.str _ _)))
theorem qS{i:Bool}:uc w W A X E N lo D (yc (.Constant (.bool i) k r) X) (λK=>J (.bool i,K)):=λm m m q m=>Ga.ret (wpAny_Constant_bool (PV.wU q (.bool _)))
theorem hU:uc w W A X E N lo D (yc (.Constant .none k r) X) (λK=>J (.none,K)):=λm m m q m=>Ga.ret (wpAny_Constant_none (PV.wU q .none))
theorem Qw{F I:Type}{z:List Ca->qb->F->I->Prop}{f m:Yl wa}{O G:St->Option (V×St)}{q:V×St->V×St->Option (F×St)}{t:wa->wa->Yl I}{T:Yl I}
 (hf:uc w W A X E N lo D f O)(hg:uc w W A X E N lo D m G)
 (ht:∀a b e bv ρ K s τ,R w W ρ K s.heap->Lc w W X E N lo D ρ s.heap->VR w ρ s.heap e a->VR w ρ s.heap bv b->Ga z w W A X.locals ρ s (t a b) (q (e,τ) (bv,K)))
 (hT:∀(x3:I->Ea->Prop) s,Qa (bb pg w) A f (λa s1=>Qa (bb pg w) A m (λb s2=>Qa (bb pg w) A (t a b) x3 No s2) No s1) No s->Qa (bb pg w) A T x3 No s):
 ct z w W A X E N lo D T (λK=>(O K).bind λp=>(G p.2).bind (q p)):=λρ K s x4 x5 v Q x6=>ab x6 λp e1 e2=>ab e2 λx8 e3 e4=>hT _ _ (Da (hf ρ K s x4 x5 p.1 p.2 e1) (λa s1 p1=>by
 obtain⟨C,t1,k1,r1,x1⟩:=p1;have E1:=x5.kx x4 k1;refine Da (hg C p.2 s1 r1 E1 x8.1 x8.2 e3) (λb s2 p2=>?_) λx7 x7 x=>x;obtain⟨x9,t2,k2,r2,x2⟩:=p2;exact Da (ht a b p.1 x8.1 x9 x8.2 s2 p.2 r2 (E1.kx r1 k2) (k2.vr x1) x2 v Q e4) (λc s3 p3=>PR.after t1 k1 (PR.after t2 k2 p3)) λx7 x7 x=>x) λx7 x7 x=>x)
theorem Hs{F I x1 x2:Type}{R1:List Ca->qb->x1->x2->Prop}{z:List Ca->qb->F->I->Prop}{f:Yl x2}{m:St->Option (x1×St)}{q:x1×St->Option (F×St)}{t:x2->Yl I}{T:Yl I}
 (hf:ct R1 w W A X E N lo D f m)
 (ht:∀a e ρ K s,R w W ρ K s.heap->Lc w W X E N lo D ρ s.heap->R1 ρ s.heap e a->Ga z w W A X.locals ρ s (t a) (q (e,K)))
 (hT:∀s,u5 w A s f t T):
 ct z w W A X E N lo D T (λK=>(m K).bind q):=λρ K s G O=>(hf ρ K s G O).bind (λb a C s1 j k r1 x=>ht b a C j s1 r1 (O.kx G k) x) (hT s)
end
section
variable {i m:Nat} {N:List V} {O:List wa} {d:Vf} {K:xr} {b:Bool}
variable [I:Av]
theorem vB{v:V}{i:Int}(h:qh v=J i):v=.int i:=by induction v using V.casesOn<;>first|exact ja h|exact Gc V.int (ba h)
theorem dv{v:V}{i:Bool}(h:gp v=J i):v=.bool i:=by induction v using V.casesOn<;>first|exact ja h|exact Gc V.bool (ba h)
theorem Th{v:V}(h:sw v=J i):v=.ref i:=by induction v using V.casesOn<;>first|exact ja h|exact Gc V.ref (ba h)
theorem Vl{v:V}{i:List V}(h:xx v=J i):v=.t i:=by induction v using V.casesOn<;>first|exact ja h|exact Gc V.t (ba h)
theorem bD{v:V}{i:Bb}(h:iK v=J i):v=.str i:=by induction v using V.casesOn<;>first|exact ja h|exact Gc V.str (ba h)
theorem EB{T:St}(h:tc T i=J N):T[i]?=J (.list N):=by
 refine Wg h λo e c=>?_
 induction o with
 |list f=>exact e.trans (Gc _ (Gc _ (ba c)))|_=>exact ja c
variable {w:zb} {S h:qb} {L:Ca} {X:List Ca} {T G:St} {s:Ea} {v u:V} {W a Q:wa} {A:Yb} {n:Nat}
theorem VR.wZ(x:VR w X h v W){i:Int}(e:qh v=J i):∃t,W=.int i t:=(vB e▸x:VR w X h (.int i) W).wF
theorem R.list(r:R w S X T h){W:wa}(e:tc T i=J N)(x:VR w X h (.ref i) W):
 ∃a O m,W=.ref a/\X[i]?=J a/\h.get? a=J (listOf O.toArray m)/\N.length<=4096/\ue w X h N O:=by
 refine aa λf=>?_;obtain⟨a,g,c⟩:=x.wF;obtain⟨O,m,z⟩:=r.obj i _ a (EB e) c;exact f (⟨a,O,m,g,c,z⟩)
theorem ve{a:Ca}(e:h.get? a=J (listOf O.toArray m)):h.IsList a O.toArray:=⟨_,e,rfl,_,rfl⟩
theorem eB(x:VR w X h v W)(e:dB v=J d):(∃as,qfv h W d as)/\d.canLay0=Z/\d.depth=0:=by
 have y:=x.wF;refine aa λnq=>?_
 induction v using V.casesOn with
 |none=>refine nq ?_;clear nq;exact ba e▸y▸⟨⟨_,.none⟩,rfl,rfl⟩|bool b=>refine nq ?_;clear nq;exact ba e▸y▸⟨⟨_,.bool b⟩,rfl,rfl⟩|int i=>refine nq ?_;clear nq;obtain⟨t,rfl⟩:=y;exact ba e▸⟨⟨_,.int i t⟩,rfl,rfl⟩|str s=>
  refine nq ?_;clear nq;obtain⟨t,rfl⟩:=y;replace e:(if Ip s=Z then J (Vf.str s)else Y)=J d:=e
  split at e
  ·rename_i c;exact ba e▸⟨⟨_,.str s t⟩,gK c,rfl⟩
  ·exact ja e
 |_=>refine nq ?_;clear nq;exact ja e
def NK(w:zb)(X:List Ca)(h:qb)(n:Nat)(f:V->Option Vf):Prop:=∀v W d,VR w X h v W->f v=J d->(∃as,qfv h W d as)/\d.canLay0=Z/\d.depth<=n
theorem Lr{f:V->Option Vf}(j:NK w X h n f){c:List wa}(x:ue w X h N c):∀{g},om f N=J g->(∃as,ReadsAll h c g as)/\Uh g=Z/\Ah g<=n:=
 x.ind (P:=λN c=>∀{g},om f N=J g->(∃as,ReadsAll h c g as)/\Uh g=Z/\Ah g<=n)
  (λe=>ba e▸⟨⟨_,.nil⟩,rfl,td _⟩) λu u u u a u t u e=>by
   refine aa λk=>(Wg e λd l o=>?_);refine Ds o λg p z=>?_;subst z;obtain⟨⟨_,q⟩,r,y⟩:=j _ _ _ a l;obtain⟨⟨_,B⟩,C,D⟩:=t p;exact k (⟨⟨_,.cons q B⟩,Aa.mpr ⟨r,C⟩,qbc.mpr ⟨y,D⟩⟩)
theorem ru(r:R w S X T h):∀n:Nat,NK w X h n λv=>mv n v T:=by
 intro n
 induction n with
 |zero=>
  exactλu u u x e=>have z:=eB x e;⟨z.1,z.2.1,Fd z.2.2⟩
 |succ n o=>
  exactλv W d x e=>by
   have p:dB v=J d->(∃as,qfv h W d as)/\d.canLay0=Z/\d.depth<=n+1:=λe=>have z:=eB x e;⟨z.1,z.2.1,Za (Fd z.2.2) (td _)⟩;refine aa λc=>?_
   induction v using V.casesOn with
   |t N=>
    refine c ?_;clear c;refine aa λc=>?_;refine Ds e λq f y=>?_;subst y;obtain⟨a,O,m,rfl,_,g,_,z⟩:=x.wF;obtain⟨⟨_,j⟩,k,l⟩:=Lr (o) z f;refine c ?_;clear c;exact⟨⟨_,reads_tuple_at g rfl rfl j⟩,k,sf l⟩
   |ref i=>
    refine c ?_;clear c;refine aa λc=>(Wg e λN t B=>?_);refine Ds B λq f y=>?_;subst y;obtain⟨a,O,m,rfl,_,g,_,z⟩:=r.list t x;obtain⟨⟨_,j⟩,k,l⟩:=Lr (o) z f;refine c ?_;clear c;exact⟨⟨_,VJ g rfl rfl j⟩,k,sf l⟩
   |_=>refine c ?_;clear c;exact p e
theorem pk(c:d.canLay0=Z)(e:d.depth<=6):XX d=Z:=by
 simp only[XX,c,vA,decide_eq_true_eq];lia
def qbf(w:zb)(X:List Ca)(h:qb)(z:List V)(y:List wa):Prop:=match z,y with|[],O=>O=[]|x::N,O=>∃u c,O=u::c/\VR w X h x u/\ue w X h N c
theorem ue.wF(q:ue w X h N O):qbf w X h N O:=q.ind rfl λy y u c a t y=>⟨u,c,rfl,a,t⟩
theorem Dy{g:Type} [DecidableEq g]{look:List (g×V)->g->Option V}(o:∀k,look [] k=Y)(t:∀p r k,look (p::r) k=if p.1=k then J p.2 else look r k){j:List (g×V)}{f:List (g×wa)}(l:f.map (λx=>x.1)=j.map λx=>x.1)(r:ue w X h (j.map λx=>x.2) (f.map λx=>x.2))(k:g):
 (look j k=Y/\Wl f k=Y)\/∃x W,look j k=J x/\Wl f k=J W/\VR w X h x W:=by
 induction j generalizing f with
 |nil=>induction f using ma with|nil=>exact .inl ⟨o k,rfl⟩|cons u y=>exact zc l (Bc _ _)
 |cons p j y=>
  induction f using ma with
  |nil=>exact zc l.symm (Bc _ _)|cons q f=>
   refine aa λz=>?_;obtain⟨_,_,e,a,b⟩:=r.wF;cases e;refine z ?_;have B:Wl (q::f) k=if q.1=k then J q.2 else Wl f k:=by
    unfold Wl;refine U qn ?_;by_cases c:q.1=k
    ·refine U (Dd c) (U (decide_eq_true c) ?_);rfl
    ·exact U (fe c) (U (decide_eq_false c) rfl)
   refine U B (U (t _ _ _) (U (Xd l:q.1=p.1) ?_));by_cases c:p.1=k
   ·exact U (Dd c) (U (Dd c) (.inr ⟨_,_,rfl,rfl,a⟩))
   ·exact U (fe c) (U (fe c) (y (wd l) b))
theorem Nv{e:List (Int×V)}{c:List (Int×wa)}(f:c.map (λx=>x.1)=e.map λx=>x.1)(g:ue w X h (e.map λx=>x.2) (c.map λx=>x.2))(k:Int):
 (Qm e k=Y/\Wl c k=Y)\/∃x W,Qm e k=J x/\Wl c k=J W/\VR w X h x W:=Dy (look:=Qm) (λu=>rfl) (λu u u=>rfl) f g k
theorem DJ{e:List (Int×V)}{c:List (Int×wa)}(j:c.map (λx=>x.1)=e.map λx=>x.1)(l:ue w X h (e.map λx=>x.2) (c.map λx=>x.2))(k:Int):(Wl c k).isSome=(Qm e k).isSome:=by
 rcases Nv j l k with⟨f,g⟩|⟨x,W,f,g,_⟩<;>refine U f (U g ?_)<;>rfl
theorem R.notMods(r:R w S X T h)(c:S.get? sysModules≠Y){a:Ca}(e:a∈X):(a==sysModules)=ua:=
 beq_eq_false_iff_ne.mpr λq=>c (q▸r.fresh _ e)
theorem Qv{a:Ca}{o:wD}{c:List (Int×wa)}(e:h.get? a=J o)(d:o.IsDictOf (jg pg w) c):h.MapOf (jg pg w) a (Wl c):=
 (Mf.mpr ⟨o,e,d⟩).mapOf
abbrev QX(w:zb)(S:qb)(A:Yb)(L:Ca)(X:List Ca)(T:St)(s:Ea)(K:xr)(a Q:wa)(o:Option Bool):Prop:=∀b,o=J b->Qa (bb pg w) A (dg K a Q) (PV w S L X s T (.bool b)) No s
theorem vu{f:Int->Int->Bool}(c:VR w X s.heap v a)(g:VR w X s.heap u Q)(h:∀i j t e,Qa (bb pg w) A (dg K (.int i t) (.int j e)) (PV w S L X s T (.bool (f i j))) No s):QX w S A L X T s K a Q (Iv f v u):=λb e=>by
 refine Wg e λi k l=>?_;refine Ds l λj o z=>?_;subst z;obtain⟨_,rfl⟩:=c.wZ k;obtain⟨_,rfl⟩:=g.wZ o;exact h _ _ _ _
theorem AW(g:Eg n A)(r:R w S X T s.heap)(t:VR w X s.heap v a)(B:VR w X s.heap u Q):QX w S A L X T s .Eq a Q (j4 v u T)/\QX w S A L X T s .NotEq a Q ((j4 v u T).map λx=> !x):=by
 have c:∀b,j4 v u T=J b->Qa (bb pg w) A (dg .Eq a Q) (PV w S L X s T (.bool b)) No s/\Qa (bb pg w) A (dg .NotEq a Q) (PV w S L X s T (.bool !b)) No s:=λb e=>by
  refine Wg e λd f x=>?_;refine Ds x λC y z=>?_;subst z;obtain⟨⟨_,j⟩,k,l⟩:=ru r 6 _ _ _ t f;obtain⟨⟨_,o⟩,p,q⟩:=ru r 6 _ _ _ B y;exact⟨eq_dataH j o (pk k l) (pk p q) (ib (by lia) g.u64) (PV.wU r (.bool _)),ne_dataH j o (pk k l) (pk p q) (ib (by lia) g.u64) (PV.wU r (.bool _))⟩
 exact⟨λb e=>(c b e).1,λb e=>by
  refine Ds e λy f z=>?_;subst z;exact(c _ f).2⟩
theorem jN(p:Eg n A)(r:R w S X T s.heap){c:Ca}(f:s.heap.get? c=J (listOf O.toArray m))(z:ue w X s.heap N O){as:List Ca}(g:qfv s.heap a d as)(j:d.canLay0=Z)(q:d.depth<=5)(e:tT d N T=J b):
 Qa (bb pg w) A (dg .In a (.ref c)) (PV w S L X s T (.bool b)) No s/\Qa (bb pg w) A (dg .NotIn a (.ref c)) (PV w S L X s T (.bool !b)) No s:=by
 refine aa λt=>?_;refine Ds e λx B y=>?_;subst y;obtain⟨⟨_,k⟩,l,C⟩:=Lr (ru r 5) z B;refine t ?_;have o:A.units+1+min (Ah x) d.depth<cLine:=ib (Kk (Zj (Gb 1) _) (Za (Nat.min_le_right _ _) q)) (ib (Qf (by lia:A.units+1+5<A.units+100+1)) p.u64);exact⟨SeqAt.in_list_reads (VJ f rfl rfl k) g l j o (PV.wU r (.bool _)),SeqAt.notIn_list_reads (VJ f rfl rfl k) g l j o (PV.wU r (.bool _))⟩
theorem OW(hm:S.get? sysModules≠Y)(B:Eg n A)(r:R w S X T s.heap)(q:VR w X s.heap v a)(C:VR w X s.heap u Q)(e:qav v u T=J b):
 Qa (bb pg w) A (dg .In a Q) (PV w S L X s T (.bool b)) No s/\(∀k,v=.int k->Qa (bb pg w) A (dg .NotIn a Q) (PV w S L X s T (.bool !b)) No s):=by
 refine aa λf=>(Wg e λi e1 e2=>(Wg e2 λo D g=>?_));rw[Th e1]at C;obtain⟨c,rfl,x⟩:=C.wF;refine f ?_;clear f;refine aa λf=>?_
 induction o with
 |list N=>
  refine f ?_;clear f;refine aa λf=>?_;obtain⟨O,m,l,_,p⟩:=r.obj i _ c D x;refine f ?_;clear f
  induction v using V.casesOn with
  |int k=>
   obtain⟨t,rfl⟩:=q.wF;exact(jN B r l p (.int k t) rfl (td _) g).imp_right λz y y=>z
  |t ys=>
   refine aa λf=>(Wg g λd z j=>?_);obtain⟨⟨_,E⟩,F,P⟩:=ru r 5 _ _ _ q z;refine f ?_;clear f;exact⟨(jN B r l p E F P j).1,λy h=>nomatch h⟩
  |_=>exact ja g
 |idict es=>
  refine f ?_;clear f;refine aa λf=>?_;refine Ds g λk z j=>?_;subst j;obtain⟨t,rfl⟩:=q.wZ z;obtain⟨o,x1,l,E,p,q4,q5⟩:=r.obj i _ c D x;refine f ?_;clear f;have F:Ho k (.int k t)=Z:=decide_eq_true rfl;have P:=r.notMods hm (Ma x);exact Ed (DJ p q4 _) (⟨wpAny_in_of (knd:=jg pg w) (k:=k) F P (Qv l E) (PV.same r (.bool _)),λy y=>wpAny_notIn_of (knd:=jg pg w) (k:=k) F P (Qv l E) (PV.same r (.bool _))⟩)
 |_=>refine f ?_;clear f;exact ja g
theorem MB(c:VR w X s.heap v a)(e:hH v=J b):b=(a== .none):=by
 have y:=c.wF
 induction v using V.casesOn with
 |none=>rw[(y:a=.none)];exact(ba e).symm|bool=>exact y▸(ba e).symm|int=>obtain⟨_,rfl⟩:=y;exact(ba e).symm|ref=>obtain⟨_,rfl,_⟩:=y;exact(ba e).symm|t=>obtain⟨_,_,_,rfl,_⟩:=y;exact(ba e).symm|_=>exact ja e
theorem VD{I j:V}{a Q:wa}(o:S.get? sysModules≠Y)(l:Eg n A)(r:R w S X T s.heap)(c:VR w X s.heap I a)(f:VR w X s.heap j Q)
 (e:lq K I j T=J b):Qa (bb pg w) A (dg K a Q) (PV w S L X s T (.bool b)) No s:=by
 induction K with
 |Lt=>exact vu c f (λu u u u=>lt_int (PV.wU r (.bool _))) b e|LtE=>exact vu c f (λu u u u=>le_int (PV.wU r (.bool _))) b e|Gt=>exact vu c f (λu u u u=>gt_int (PV.wU r (.bool _))) b e|GtE=>exact vu c f (λu u u u=>ge_int (PV.wU r (.bool _))) b e|Eq=>exact(AW l r c f).1 b e|NotEq=>exact(AW l r c f).2 b e|In=>exact(OW o l r c f e).1|NotIn=>
  refine Wg e λk g p=>?_;refine Ds p λb q z=>?_;subst z;exact(OW o l r (vB g▸c) f q).2 k rfl
 |Is=>
  induction j using V.casesOn with
  |none=>rw[MB c e,(f.wF:Q=.none)];exact is_none (PV.wU r (.bool _))|_=>exact ja e
 |IsNot=>
  induction j using V.casesOn with
  |none=>
   refine aa λk=>?_;refine Ds e λb g z=>?_;subst z;refine k ?_;rw[MB c g,(f.wF:Q=.none)];exact isNot_none (PV.wU r (.bool _))
  |bool y=>
   refine Ds e λx g z=>?_;subst z;rw[((dv g▸c:VR w X s.heap (.bool x) a).wF:a=.bool x),(f.wF:Q=.bool y)];exact wpAny_isNot_plain rfl (by
    have:(!(H5 x==H5 y))=(x !=y):=by induction x<;>induction y<;>rfl
    refine U this ?_;exact PV.wU r (.bool _))
  |_=>exact ja e
end
section
variable {o o':wD} {D:Ca} {i k tk':Nat} {G:Type} {N F:List V} {T:Yl wa} {vs:List wa}
variable [K:Av]
noncomputable abbrev hE:qb:={}
theorem JG(a:Ca):hE.get? a=Y:=by simp[qaY]
noncomputable def Ai(h:qb)(L:Ca):List (Ca×wD):=(Ka h.objs.size).filterMap λa=>if a=L then Y else(h.get? a).map λo=>(a,o)
theorem we{h:qb}{L:Ca}{a:Ca}:(a,o)∈Ai h L↔a≠L/\h.get? a=J o:=by
 unfold Ai;refine U (propext List.mem_filterMap) ?_
 constructor
 ·rintro⟨b,_,e⟩
  split at e
  ·exact ja e
  ·rename_i n
   induction q:h.get? b with
   |none=>rw[q]at e;exact ja e|some o'=>rw[q]at e;obtain⟨rfl,rfl⟩:=Ta (ba e);exact⟨n,q⟩
 ·rintro⟨n,e⟩
  exact⟨a,bc.mpr (qc e),by refine U (fe n) (U e ?_);rfl⟩
theorem cj{h:qb}{L:Ca}{m}(n:h.Ns L m):Fr hE L h m:=⟨n,λb o e=>(by rw[JG]at e;exact ja e),td _⟩
theorem vg{h:qb}{L:Ca}:News hE L h (Ai h L):=λp c=>by
 obtain⟨a,o⟩:=p;obtain⟨n,e⟩:=we.mp c;exact⟨e,n,JG _⟩
theorem Tq{h:qb}{L:Ca}:(Ai h L).Pairwise λp q=>p.1≠q.1:=by
 unfold Ai;refine U (propext List.pairwise_filterMap) ((List.nodup_range (n:=h.objs.size)).imp λ{a b} e p c q d=>?_);replace c:(if a=L then Y else(h.get? a).map λo=>(a,o))=J p:=c;replace d:(if b=L then Y else(h.get? b).map λo=>(b,o))=J q:=d
 split at c
 ·exact ja c
 split at d
 ·exact ja d
 induction f:h.get? a with
 |none=>rw[f]at c;exact ja c|some j=>
  induction g:h.get? b with
  |none=>rw[g]at d;exact ja d|some l=>rw[f]at c;rw[g]at d;obtain rfl:=ba c;obtain rfl:=ba d;exact e
theorem C2:{d:List (Ca×wD)}->(d.Pairwise λp q=>p.1≠q.1)->(D,o)∈d->∃f,Upd D o o' d f/\(D,o')∈f/\∀p∈d,p.1≠D->p∈f:=by
 intro d
 induction d with
 |nil=>
  rintro _ m;cases m
 |cons p r x=>
  rintro j m;rw[Ag]at j;rcases fb.mp m with e|e
  ·subst e
   exact⟨(D,o')::r,.head λq g=>(j.1 q g).symm,sa,λq g n=>by
    rcases fb.mp g with e|e
    ·subst e;exact zc rfl n
    ·exact oa _ e⟩
  ·refine aa λl=>?_
   obtain⟨O,c,a,b⟩:=x j.2 e;refine l ?_;clear l;exact⟨p::O,.tail (j.1 _ e) c,oa _ a,λq g n=>by
    rcases fb.mp g with e|e
    ·subst e;exact sa
    ·exact oa _ (b q e n)⟩
theorem Eu{h:qb}{L:Ca}(e:h.get? D=J o)(n:D≠L):∃c,Upd D o o' (Ai h L) c/\(D,o')∈c/\∀p∈Ai h L,p.1≠D->p∈c:=
 C2 Tq (we.mpr ⟨n,e⟩)
theorem PZ{h:qb}{L:Ca}{m m'}(a:h.Ns L m)(b:h.Ns L m'):m=m':=by
 refine aa λg=>?_;obtain⟨o,r,O,e,d,_,q⟩:=a;obtain⟨o',j,l,c,f,_,p⟩:=b;refine g ?_;rw[e]at c;obtain rfl:=ba c;rw[d]at f;cases f
 funext x;exact Ed (q _) (Ed (p _) rfl)
structure Um(W:qb)(L:Ca)(ρ:List Ca)(h:qb):Prop where
 ns:∃m,h.Ns L m
 out:L∉ρ
 wK:W.get? L=Y
theorem Cg{h:qb}{L:Ca}{m}(n:h.Ns L m)(e:h.get? L=J o):¬Jh o:=by
 refine aa λf=>?_;obtain⟨o',g,j,c,d,_⟩:=n;refine f ?_;rw[e]at c;obtain rfl:=ba c;simp[Jh,d]
section
variable {w:zb} {W h S:qb} {ρ E:List Ca} {Q X:St} {L:Ca} {B:zj} {z:Ca->Prop} {u:List Bb} {lo:Nat} {y:Me}
theorem Lc.lok(c:Lc w W B z u lo y ρ h):Um W B.locals ρ h:=⟨c.ns.elim λm a=>⟨m,a.1⟩,c.loc.1,c.loc.2.1⟩
theorem KX.ofNs{m}(e:h.Ns L m)(c:S.Ns L m):∀d,h.Ns L d->S.Ns L d:=λd q=>by refine U (PZ q e) ?_;exact c
theorem Kp.ofBut(d:∀a o,a≠L->h.get? a=J o->S.get? a=J o){m}(g:h.Ns L m)(f:S.Ns L m):Kp (λa=>a=L) ρ h S ρ:=
 ⟨Ja _,λc h=>.inl h,λa o e c n=>d a o n e,λa o e i=>d a o (λq=>by subst q;exact Cg g e i) e,λa e=>by
  obtain⟨o,j⟩:=Na.mp e;by_cases q:a=L
  ·subst q;obtain⟨o',_,_,l,_⟩:=f;refine U l ?_;rfl
  ·refine U (d a o q j) ?_;rfl⟩
theorem KX.ofBut(e:∀a o,a≠L->h.get? a=J o->S.get? a=J o){m}(d:h.Ns L m)(c:S.Ns L m):KX L ρ h S ρ:=⟨Kp.ofBut e d c,KX.ofNs d c⟩
theorem R.ofBut(r:R w W ρ Q h)(l:Um W L ρ h)(c:∀a o,a≠L->h.get? a=J o->S.get? a=J o):R w W ρ Q S:=by
 obtain⟨m,d⟩:=l.ns;exact r.beside (wr:=λa=>a=L) (λa o n e=>c a o n e) λa q=>by subst q;exact⟨l.out,l.wK,λo e=>Cg d e⟩
theorem R.newL(r:R w W ρ Q h)(l:Um W L ρ h){a:Ca}{o:O}{m}(hn:h.Ns L m)(x1:S.Ns L m)(hk:∀b x,b≠L->h.get? b=J x->S.get? b=J x)(ha:h.get? a=Y)(ho:OR w (ρ++[a]) S o a):
 R w W (ρ++[a]) (Q++[o]) S/\KX L ρ h S (ρ++[a]):=by
 have k:KX L ρ h S ρ:=KX.ofBut hk hn x1;have r':R w W ρ Q S:=r.ofBut l hk;have x2:W.get? a=Y:=by
  induction e:W.get? a with
  |none=>rfl|some x=>have:=r.wK a x e;rw[ha]at this;exact ja this
 have P:a∉ρ:=λq=>by obtain⟨x,hx,_⟩:=r.live q;rw[ha]at hx;exact ja hx
 refine⟨⟨by simp[r.len],?_,?_,r'.avl,r'.wK,λj p b d g=>?_⟩,⟨Hc _ _,λb f=>?_,λb x e c n2=>k.keep b x e c n2,k.imm,k.live⟩,k.ns⟩
 ·exact U (propext di) (⟨r.nodup,by simp,λx hx c hy=>by rw[Ra]at hy;subst hy;exactλq=>P (q▸hx)⟩)
 ·intro b f
  rcases Xb.mp f with q|q
  ·exact r.fresh b q
  ·rw[Ra]at q;subst q;exact x2
 ·by_cases q:j<Q.length
  ·rw[Xa q]at d
   rw[Xa (by refine U r.len ?_;exact q)]at g;exact(r'.obj j p b d g).mono (Hc _ _) (λb x e c=>e) λx e=>e
  ·rw[La (og q)]at d
   rw[La (by refine U r.len ?_;exact og q),r.len]at g;refine aa λe=>?_
   induction p:j - Q.length using Sa with
   |zero=>refine e ?_;clear e;rw[p]at d g;simp at d g;subst d g;exact ho|succ c=>refine e ?_;clear e;rw[p]at d;simp at d
 ·rcases Xb.mp f with q|q
  ·exact .inl q
  ·rw[Ra]at q;subst q;exact .inr ha
theorem R.updL(r:R w W ρ Q h)(l:Um W L ρ h){a:Ca}{o:O}{m}(ea:ρ[i]?=J a)(hn:h.Ns L m)(P:S.Ns L m)(hk:∀b x,b≠L->b≠a->h.get? b=J x->S.get? b=J x)(ho:OR w ρ S o a):
 R w W ρ (Q.set i o) S/\KX L ρ h S ρ:=by
 have ha:a∈ρ:=Ma ea;refine aa λnq=>?_;obtain⟨xa,x1,x2⟩:=r.live ha;refine nq ?_;clear nq;have f:∀b x,h.get? b=J x->Jh x->S.get? b=J x:=λb x e im=>
  hk b x (λq=>by subst q;exact Cg hn e im) (λq=>by subst q;rw[e]at x1;obtain rfl:=ba x1;exact x2 im) e
 refine⟨⟨by refine U yb ?_;exact r.len,r.nodup,r.fresh,λb W=>(by obtain⟨o,ho,c⟩:=r.avl b W;exact⟨o,f b o ho c,c⟩),λb x e=>hk b x (λq=>by subst q;rw[l.wK]at e;exact ja e) (λq=>by subst q;rw[r.fresh b ha]at e;exact ja e) (r.wK b x e),λj p b g e2=>?_⟩,
  ⟨Ja _,λc h=>.inl h,λb x e n1 n2=>hk b x n2 (λq=>n1 (q▸ha)) e,f,λb e=>?_⟩,KX.ofNs hn P⟩
 ·by_cases q:i=j
  ·subst q
   rw[ea]at e2;obtain rfl:=ba e2;rw[jl]at g;simp only[if_true]at g
   split at g<;>(first|exact ja g|obtain rfl:=ba g)
   exact ho
  ·rw[Xc q]at g
   have x3:b≠a:=λd=>by
    subst d;obtain⟨h1,h2⟩:=wb.mp ea;obtain⟨h3,h4⟩:=wb.mp e2;exact q ((gR r.nodup).mp (h2.trans h4.symm))
   exact(r.obj j p b g e2).mono (Ja _) f λx e=>hk b x (λd=>by subst d;exact l.out (Ma e2)) x3 e
 ·obtain⟨x,d⟩:=Na.mp e
  by_cases q:b=a
  ·subst q
   obtain⟨x,d,_⟩:=ho.get;refine U d ?_;rfl
  ·by_cases g:b=L
   ·subst g;obtain⟨o',_,_,j,_⟩:=P;refine U j ?_;rfl
   ·refine U (hk b x g q d) ?_;rfl
theorem Fr.now{m}(c:Fr hE L h m):h.Ns L m:=c.ns
theorem News.keepAll(c:News hE L S (Ai h L)):∀b x,b≠L->h.get? b=J x->S.get? b=J x:=λb x n e=>(c (b,x) (we.mpr ⟨n,e⟩)).1
theorem News.keepAll1{p:Ca×wD}(c:News hE L S (p::Ai h L)):∀b x,b≠L->h.get? b=J x->S.get? b=J x:=λb x n e=>(c (b,x) (oa _ (we.mpr ⟨n,e⟩))).1
theorem News.keepUpd{d:List (Ca×wD)}(c:News hE L S d)(q:∀p∈Ai h L,p.1≠D->p∈d):∀b x,b≠L->b≠D->h.get? b=J x->S.get? b=J x:=λb x n f e=>(c (b,x) (q _ (we.mpr ⟨n,e⟩) f)).1
theorem Fb(h:qb):h.get? h.objs.size=Y:=by
 induction e:h.get? h.objs.size with
 |none=>rfl|some o=>exact zc (qc e) (dc _)
end
inductive PS(w:zb)(W:qb)(L:Ca)(ρ:List Ca)(s:Ea)(X:St)(s':Ea):Prop
 |mk (E:List Ca):Bh s s'->KX L ρ s.heap s'.heap E->R w W E X s'.heap->PS w W L ρ s X s'
variable {w:zb} {W h:qb} {L:Ca} {ρ:List Ca} {Q X:St} {s:Ea} {v:V} {t:wa} {A:Yb} {n:Nat}
theorem Qi{n:Nat}(h:Td n=Z):n<4096:=gb h
theorem N4{p:Prop} [Decidable p]{c:Unit}(h:Ge (decide p)=J c):p:=Nl (yf h)
theorem El{c:Prop} [Decidable c]{x d:G}(e:(if c then J x else Y)=J d):c/\x=d:=by
 by_cases h:c
 ·rw[Dd h]at e;exact⟨h,ba e⟩
 ·rw[fe h]at e;exact ja e
theorem Ao{P:V->St->Prop}(e:Bp N Q=J (v,X))(h:N.length<4096->P (.t N) Q):P v X:=Iq e λc d=>h (Qi (yf d))
theorem yo{P:V->St->Prop}(e:gj N Q=J (v,X))(h:N.length<4096->P (.ref Q.length) (Q++[.list N])):P v X:=Iq e λc d=>h (Qi (yf d))
abbrev WV(w:zb)(W:qb)(L:Ca)(ρ:List Ca)(s:Ea)(A:Yb)(T:Yl wa)(v:V)(c:St):Prop:=Qa (bb pg w) A T (PV w W L ρ s c v) No s
theorem XN{o:Option G}{f:G->V×St}(e:o.map f=J (v,X))(h:∀a,o=J a->WV w W L ρ s A T (f a).1 (f a).2):Qa (bb pg w) A T (PV w W L ρ s X v) No s:=Iq (P:=WV w W L ρ s A T) e h
theorem iO(e:Bp N Q=J (v,X))(h:N.length<4096->WV w W L ρ s A T (.t N) Q):Qa (bb pg w) A T (PV w W L ρ s X v) No s:=Ao (P:=WV w W L ρ s A T) e h
theorem LZ(e:gj N Q=J (v,X))(h:N.length<4096->WV w W L ρ s A T (.ref Q.length) (Q++[.list N])):Qa (bb pg w) A T (PV w W L ρ s X v) No s:=yo (P:=WV w W L ρ s A T) e h
theorem ue.line(x:ue w ρ h N vs)(c:N.length<4096):vs.length<=PySem.sizeLine:=by refine Ed x.length (U zf ?_);lia
theorem yi(x:ue w ρ h N vs):{is:List Int}->ki N=J is->Xi vs is:=
 x.ind (P:=λN vs=>{is:List Int}->ki N=J is->Xi vs is) (λe=>ba e▸.nil) λc c c c a c g c e=>by
  refine Wg e λi j l=>?_;refine Ds l λis m d=>?_;subst d;obtain⟨f,rfl⟩:=a.wZ j;exact .cons _ f (g m)
theorem ir{is:List Int}(x:Xi vs is):ue w ρ h (is.map V.int) vs:=by
 induction x with
 |nil=>exact .nil|cons i c d e=>exact .cons (.int i c) e
theorem eU(r:R w W ρ Q s.heap)(x:ue w ρ s.heap N vs)(e:Bp N Q=J (v,X)):
 Qa (bb pg w) A (qcz vs) (PV w W L ρ s X v) No s:=
 iO e λf=>qde (
  have d:∀a o,s.heap.get? a=J o->(s.heap.push (gu vs 0)).get? a=J o:=λa o e=>Ba _ e
  ⟨ρ,rfl,KX.wI d,r.wI d,.t (n:=0) (r.notAv (Fb _)) (Oa _ rfl) (vd f) (x.mono (Ja _) λa o e c=>d a o e)⟩) (x.line f)
theorem Hr{a:Ca}(r:R w W ρ Q h):(ρ++[a])[Q.length]?=J a:=by refine Ed r.len ?_;exact List.getElem?_concat_length
theorem cU(r:R w W ρ Q s.heap)(x:ue w ρ s.heap N vs)(e:gj N Q=J (v,X)):
 Qa (bb pg w) A (L4 vs) (PV w W L ρ s X v) No s:=
 LZ e λf=>qer (
  have g:∀a o,s.heap.get? a=J o->(s.heap.push (listOf vs.toArray 0)).get? a=J o:=λa o e=>Ba _ e;have c:=r.new' (L:=L) (a:=s.heap.objs.size) (o:=.list N) g (Fb _) ⟨vs,0,Oa _ rfl,vd f,x.mono (Hc _ _) λa o e d=>g a o e⟩
  ⟨_,rfl,c.2,c.1,.ref (Hr r)⟩) (x.line f)
theorem Jq{a:Ca}{S:qb}{m}(r:R w W ρ Q s.heap)(l:Um W L ρ s.heap)(f:s.heap.Ns L m)(d:S.Ns L m)(g:∀b x,b≠L->s.heap.get? b=J x->S.get? b=J x)
 (j:s.heap.get? a=Y)(p:S.get? a=J (listOf vs.toArray k))(x:ue w ρ s.heap N vs)(e:gj N Q=J (v,X)):
 PV w W L ρ s X v (.ref a) {s with heap:=S,toks:=tk'}:=
 yo (P:=λv X=>PV w W L ρ s X v (.ref a) {s with heap:=S,toks:=tk'}) e λq=>
  have c:=r.newL l (a:=a) (o:=.list N) f d g j ⟨vs,_,p,vd q,x.mono (Hc _ _) (KX.ofBut (ρ:=ρ) g f d).imm⟩
  ⟨_,rfl,c.2,c.1,.ref (Hr r)⟩
theorem dU{a:Ca}{S:qb}{m}(r:R w W ρ Q s.heap)(l:Um W L ρ s.heap)(g:s.heap.Ns L m)(c:S.Ns L m)(d:∀b x,b≠L->s.heap.get? b=J x->S.get? b=J x)
 (j:s.heap.get? a=Y)(p:S.get? a=J (gu vs k))(x:ue w ρ s.heap N vs)(e:Bp N Q=J (v,X)):
 PV w W L ρ s X v (.ref a) {s with heap:=S,toks:=tk'}:=
 Ao (P:=λv X=>PV w W L ρ s X v (.ref a) {s with heap:=S,toks:=tk'}) e λq=>
  have f:KX L ρ s.heap S ρ:=KX.ofBut d g c
  ⟨ρ,rfl,f,r.ofBut l d,.t (r.notAv j) p (vd q) (x.mono (Ja _) f.imm)⟩
theorem lf{a:Ca}(e:h.get? a=J (gu vs k)):IsTup h a vs.toArray:=⟨_,e,rfl,_,rfl⟩
theorem ue.replicate{x:V}{c:wa}(q:VR w ρ h x c):∀k,ue w ρ h (Ia k x) (Ia k c):=by
 intro k
 induction k with
 |zero=>
  exact .nil
 |succ k d=>
  exact U Hj (U Hj (.cons q (d)))
theorem RM(c:wa):∀(k:Nat)(d:Array wa),List.foldl (λe f=>e++f) d (Ia k #[c])=(d.toList++Ia k c).toArray:=by
 intro k
 induction k with
 |zero=>
  rintro d;simp
 |succ k e=>
  rintro d;refine U Hj (U List.foldl_cons (U (e _) ?_));simp[Hj]
theorem qz{x:Int}(h0:0<=x)(h1:x<1000):(if(x==0)=Z then 0 else x.natAbs.log2/30+1)<=1:=by
 split
 ·exact td _
 ·rename_i q
  have:x.natAbs<2^10:=by lia
  have:=(Y9 (by simp at q;lia)).mpr this
  lia
theorem IE(q:ue w ρ h N []):N=[]:=sg q.length
theorem nH{l:List G}{a:G}(e:one l=J a):l=[a]:=by
 induction l using ma with
 |nil=>exact ja e|cons a l=>
  induction l using ma with
  |nil=>exact ba e▸rfl|cons=>exact ja e
omit [K:Av]in
theorem lI{l:List G}{p:G×G}(e:two l=J p):l=[p.1,p.2]:=by
 induction l using ma with
 |nil=>exact ja e|cons a l=>
  induction l using ma with
  |nil=>exact ja e|cons b l=>
   induction l using ma with
   |nil=>exact ba e▸rfl|cons=>exact ja e
variable {K I:V} {a b:wa} {C:He}
theorem Uz{f:Int->Int->Option Int}(l:VR w ρ s.heap K a)(m:VR w ρ s.heap I b)(h:∀i j c g d,f i j=J d->Qa (bb pg w) A (gm C (.int i c) (.int j g)) (PV w W L ρ s Q (.int d)) No s)(e:O4 f K I Q=J (v,X)):Qa (bb pg w) A (gm C a b) (PV w W L ρ s X v) No s:=by
 refine aa λj=>(Wg e λx p e=>(Wg e λd q e=>?_));obtain⟨c,rfl⟩:=l.wZ p;obtain⟨g,rfl⟩:=m.wZ q;replace h:=h x d c g;generalize gm C _ _=T at h j;exact j (XN e h)
theorem MD(r:R w W ρ Q s.heap)(l:Um W L ρ s.heap)(p:VR w ρ s.heap (.t N) a)(q:VR w ρ s.heap (.t F) b)(e:Bp (N++F) Q=J (v,X)):Qa (bb pg w) A (gm .Add a b) (PV w W L ρ s X v) No s:=by
 refine aa λO=>?_;obtain⟨m,x⟩:=l.ns;obtain⟨_,_,_,rfl,na,ea,la,f⟩:=p.wF;obtain⟨_,_,_,rfl,nb,eb,lb,g⟩:=q.wF;refine O ?_;refine add_tuples (cj x) vg (lf ea) (lf eb) (λc=>Ao (P:=λv j=>PV w W L ρ s j v _ s) e λd=>PV.wU r ?_) (λd c=>Ao (P:=λv j=>PV w W L ρ s j v _ s) e λd=>PV.wU r ?_) (λd d S F' j=>dU r l x F'.ns (News.keepAll1 j) (Fb _) (j _ sa).1 (f.append g) e) (Ao (P:=λd d=>_) e λj=>(f.append g).line j |> λc=>by rw[Ha]at c;exact c)
 ·exact U (IE (show ue w ρ s.heap N []from c▸f)) q
 ·exact U (IE (show ue w ρ s.heap F []from c▸g)) (U (Wb _) p)
theorem MA(r:R w W ρ Q s.heap)(l:Um W L ρ s.heap)(p:VR w ρ s.heap (.ref i) a)(q:tc Q i=J N){j:Nat}(x:VR w ρ s.heap (.ref j) b)(O:tc Q j=J F)(e:gj (N++F) Q=J (v,X)):Qa (bb pg w) A (gm .Add a b) (PV w W L ρ s X v) No s:=by
 refine aa λnq=>?_;obtain⟨m,d⟩:=l.ns;obtain⟨_,_,_,rfl,_,q1,_,f⟩:=r.list q p;obtain⟨_,_,_,rfl,_,p1,_,g⟩:=r.list O x;exact nq (add_lists (cj d) vg (ve q1) (ve p1) (λS F' c=>Jq r l d F'.ns (News.keepAll1 c) (Fb _) (c _ sa).1 (f.append g) e) (yo (P:=λc c=>_) e λhl=>(f.append g).line hl |> λc=>by rw[Ha]at c;exact c))
theorem aY(r:R w W ρ Q s.heap)(l:Um W L ρ s.heap)(g:VR w ρ s.heap K a)(m:VR w ρ s.heap I b)(e:TR K I Q=J (v,X)):Qa (bb pg w) A (gm .Add a b) (PV w W L ρ s X v) No s:=by
 refine aa λf=>?_
 induction K using V.casesOn with
 |int x=>
  refine f ?_;clear f;obtain⟨c,rfl⟩:=g.wF;exact XN e λd j=>by
   obtain⟨p,rfl⟩:=m.wZ j;exact qac (PV.same r (.int _ _))
 |t N=>
  refine f ?_;clear f;refine aa λf=>(Wg e λF c e=>(f ?_));clear f;exact MD r l g (Vl c▸m) e
 |ref i=>
  refine f ?_;clear f;refine aa λf=>(Wg e λN c e=>(Wg e λF d e=>(Wg d λj p q=>?_)));refine f ?_;clear f;exact MA r l g c (Th p▸m) q e
 |_=>refine f ?_;clear f;exact ja e
theorem IZ(r:R w W ρ Q s.heap)(l:Um W L ρ s.heap)(P:VR w ρ s.heap K a)(xb:VR w ρ s.heap I b)(e:aU K I Q=J (v,X)):Qa (bb pg w) A (gm .Mult a b) (PV w W L ρ s X v) No s:=by
 refine aa λnq=>(Wg e λx e1 e=>(Wg e λk e2 e=>(Wg e λc e3 e=>?_)));refine Wg e1 λN e4 e5=>(Wg e4 λi e6 j=>?_);rw[nH e5]at j;have hk:=N4 e3;obtain⟨a',vs,m1,rfl,_,p,la,q3⟩:=r.list j (Th e6▸P);obtain⟨d,rfl⟩:=xb.wZ e2;obtain⟨m,q⟩:=l.ns;obtain⟨f,us,rfl,a1,g⟩:=q3.wF;refine nq ?_;rw[(g.wF:us=[])]at p;refine mul_list (cj q) vg p (by lia) (by lia) (by simp;lia) λS F' O=>(Jq r l q F'.ns (News.keepAll1 O) (Fb _) (vs:=Ia k.toNat _) (k:=0) ?_ (ue.replicate a1 _) e);have:=(O _ sa).1;rw[RM]at this;exact this
theorem nY{K I:V}{a b:wa}(m:Eg n A)(r:R w W ρ Q s.heap)(l:Um W L ρ s.heap)(g:VR w ρ s.heap K a)(j:VR w ρ s.heap I b)
 (e:jS C K I Q=J (v,X)):Qa (bb pg w) A (gm C a b) (PV w W L ρ s X v) No s:=by
 induction C with
 |Add=>exact aY r l g j e|Sub=>exact Uz g j (λc c c c c h=>by refine Ed (ba h) ?_;exact qaj (PV.same r (.int _ _))) e|FloorDiv=>
  exact Uz g j (λx d c c c h=>by
   obtain⟨q,rfl⟩:=El h;refine qad (by omega) (PV.same r (.int _ _)) (.inl ?_);have f:=qz (l5 q.2.2.1) q.2.2.2;simp only[Yj.divisionGoesByPylong];refine U (decide_eq_false (by omega)) ?_;rfl) e
 |Mod=>
  exact Uz g j (λx d c c f h=>by
   replace h:(if d=0 then Y else J (x.fmod d))=J f:=h;by_cases q:d=0
   ·rw[Dd q]at h;exact ja h
   ·rw[fe q]at h;refine Ed (ba h) ?_;exact qah q (PV.same r (.int _ _))) e
 |Pow=>
  exact Uz g j (λx d c c c h=>by
   obtain⟨q,rfl⟩:=El h;exact pow_int_small q.1 (by omega) (by omega) (PV.same r (.int _ _))) e
 |Mult=>exact IZ r l g j e|_=>exact ja e
end
section
variable {T:List (Bb×V)} {X:List Cf} {m i c d:Nat} {x I:V} {y o:wa} {nm:Bb}
variable [F:Av]
structure Jk(hb:qb)(K:Ue)(Q:Ch):Prop where
 kin:K.In hb
 get:∀c n,Q.attr c n=Z->Tk K (.ref c) "__getattribute__"=J (J (.builtin "object.__getattribute__"))/\hasDictIn K c=Z/\(∃a,Tk K (.ref c) n=J a/\noGet K a=Z)
 set:∀c n,Q.attr c n=Z->Tk K (.ref c) "__setattr__"=J (J (.builtin "object.__setattr__"))/\plainOver K c=Z/\takerIn K c n=J Y
 mods:hb.get? sysModules≠Y
 statics:hb.NoLimit
 scr:∀a xs,Q.scr a=J xs->xs.length<=4096/\∃vs,hb.IsList a vs.toArray/\Xi vs xs
variable {w:zb} {hb h:qb} {L:Ca} {S:List Ca} {O N:St} {s:Ea} {v:V} {P:wa} {A:Yb} {n:Nat} {K:Ue} {Q:Ch}
theorem R.kin(r:R w hb S O h)(B:Jk hb K Q):K.In h:=λa o e=>r.wK a o (B.kin a o e)
theorem Cj(a b:Bb)(t:jk):(qaq a t).isStr b=decide (a=b):=by
 show(a==b)=_
 by_cases e:a=b
 ·subst e;simp
 ·simp[e]
theorem SE.find(q:SE w S h T X)(k:Bb):
 (Pf T k=Y/\X.find? (λx=>x.key.isStr k)=Y)\/∃x e,Pf T k=J x/\X.find? (λx=>x.key.isStr k)=J e/\VR w S h x e.val:=by
 induction q with
 |nil=>exact .inl ⟨rfl,rfl⟩| @cons b x t v T X a u l=>
  by_cases e:b=k
  ·subst e
   exact .inr ⟨x,⟨C4 w b,.str b t,v⟩,(Dd rfl:(if b=b then J x else _)=J x),by simp[qn,Cj],a⟩
  ·refine aa λj=>?_
   rcases l with⟨f,g⟩|⟨p,r,f,g,z⟩
   ·refine j ?_
    exact .inl ⟨((fe e).trans f:(if b=k then J x else Pf T k)=_),by simp[qn,Cj,e,g]⟩
   ·refine j ?_
    exact .inr ⟨p,r,((fe e).trans f:(if b=k then J x else Pf T k)=_),by simp[qn,Cj,e,g],z⟩
theorem SE.noRef(q:SE w S h T X):X.any (λx=>x.refKey)=ua:=by
 induction q with
 |nil=>rfl|cons a u b=>simp only[bq,b,uA];rfl
theorem SE.length(q:SE w S h T X):T.length=X.length:=by
 induction q with
 |nil=>rfl|cons a u b=>simp[b]
theorem SE.wJ(q:SE w S h T X)(k:Bb):
 (Pf T k=Y/\vZ k (qm X m)=J Y)\/∃x y,Pf T k=J x/\vZ k (qm X m)=J (J y)/\VR w S h x y:=by
 refine aa λf=>?_;rcases q.find k with⟨a,b⟩|⟨x,e,a,b,g⟩
 ·exact f (.inl ⟨a,by simp[vZ,b,q.noRef]⟩)
 ·exact f (.inr ⟨x,e.val,a,by simp[vZ,b],g⟩)
theorem SE.put(q:SE w S h T X)(k:Bb)(t:jk)(a:VR w S h x y):
 (∃i,X.findIdx? (λx=>x.key.isStr k)=J i/\SE w S h (Hh T k x) (X.modify i λe=>{e with val:=y}))\/(X.findIdx? (λx=>x.key.isStr k)=Y/\SE w S h (Hh T k x) (X++[⟨C4 w k,.str k t,y⟩])):=by
 induction q with
 |nil=>exact .inr ⟨rfl,.cons a .nil⟩| @cons f l u v T X b p r=>
  by_cases e:f=k
  ·subst e
   exact .inl ⟨0,by simp[kr,Cj],by show SE w S h (if f=f then(f,x)::T else _) _;exact U (Dd rfl) (SE.cons a p)⟩
  ·rcases r with⟨i,g,j⟩|⟨g,j⟩
   ·refine .inl ⟨i+1,by simp[kr,Cj,e,g],?_⟩
    show SE w S h (if f=k then _ else(f,l)::Hh T k x) _
    exact U (fe e) (.cons b j)
   ·refine .inr ⟨by simp[kr,Cj,e,g],?_⟩
    show SE w S h (if f=k then _ else(f,l)::Hh T k x) _
    exact U (fe e) (.cons b j)
theorem My(k:Bb)(x:V):∀T:List (Bb×V),(Hh T k x).map (λx=>x.1)=if k∈T.map λx=>x.1 then T.map λx=>x.1 else T.map (λx=>x.1)++[k]:=by
 intro T
 induction T with
 |nil=>
  exact rfl
 |cons b T f=>
  obtain⟨a,g⟩:=b;by_cases e:a=k
  ·subst e
   show(if a=a then(a,x)::T else _).map (λx=>x.1)=_
   exact U (Dd rfl) (Dd sa).symm
  ·show(if a=k then _ else(a,g)::Hh T k x).map (λx=>x.1)=if k∈a::T.map λx=>x.1 then _ else _
   refine U (fe e) ?_;show a::(Hh T k x).map (λx=>x.1)=_
   refine U f ?_;by_cases c:k∈T.map λx=>x.1
   ·exact U (Dd c) (Dd (oa _ c)).symm
   ·exact U (fe c) (fe λz=>(fb.mp z).elim (λz=>e z.symm) c).symm
theorem mw{k:Bb}(d:(T.map λx=>x.1).Nodup):((Hh T k x).map λx=>x.1).Nodup:=by
 refine U (My _ _ _) ?_
 split
 ·exact d
 ·rename_i q
  exact U (propext di) (⟨d,by simp,λa ha b hb=>by rw[Ra]at hb;subst hb;exactλz=>q (z▸ha)⟩)
theorem qC(k:Bb)(x:V)(T:List (Bb×V)):(Hh T k x).length<=T.length+1:=by
 have:=Gc nj (My k x T);rw[ya]at this;refine U this ?_;split<;>simp
theorem sB(q:VR w S h x y)(a:∀v,x≠ .k v):handedIn y=Z:=by
 have z:=q.wF
 induction x using V.casesOn with
 |k c=>exact zc rfl (a c)|none=>rw[(z:y=_)];rfl|bool=>rw[(z:y=_)];rfl|int=>obtain⟨_,rfl⟩:=z;rfl|str=>obtain⟨_,rfl⟩:=z;rfl|ref=>obtain⟨_,rfl,_⟩:=z;rfl|rng=>obtain⟨_,_,_,_,rfl,_⟩:=z;rfl|iset=>obtain⟨_,_,_,_,rfl,_⟩:=z;rfl|t=>obtain⟨_,_,_,rfl,_⟩:=z;rfl
theorem oN(e:wi O i=J (c,d)):O[i]?=J (.inst c d):=by
 refine aa λa=>(Wg e λo f b=>(a ?_));clear a;refine aa λa=>?_
 induction o with
 |inst=>refine a ?_;clear a;obtain⟨rfl,rfl⟩:=Ta (ba b);exact f|_=>refine a ?_;clear a;exact ja b
theorem T0(e:Vq O i=J T):O[i]?=J (.h T):=by
 refine Wg e λo b a=>?_
 induction o with
 |h=>obtain rfl:=ba a;exact b|_=>exact ja a
theorem KJ(e:fH x=J v):x=v/\∀c,x≠ .k c:=by
 induction x using V.casesOn<;>first|exact ja e|exact⟨ba e,λu q=>V.noConfusion q⟩
inductive iW [F:Av](w:zb)(h:qb)(S:List Ca)(i:Nat)(c:Nat)(d:Nat)(T:List (Bb×V))(P:wa):Prop
 |mk:∀a dx X m,P=.ref a->S[i]?=J a->S[d]?=J dx->h.get? a=J (qeR c dx)->h.get? dx=J (qm X m)->SE w S h T X->(T.map λx=>x.1).Nodup->T.length<=4096->W.InstAt h a (qeR c dx) c (J (qm X m))->iW w h S i c d T P
theorem R.inst(r:R w hb S O h){P:wa}(k:wi O i=J (c,d))(l:Vq O d=J T)(x:VR w S h (.ref i) P):
 iW w h S i c d T P:=by
 refine aa λp=>?_;obtain⟨a,rfl,b⟩:=x.wF;obtain⟨e,f,g⟩:=r.obj _ _ a (oN k) b;obtain⟨X,m,j,q,t,u⟩:=r.obj _ _ e (T0 l) f;exact p (⟨a,e,X,m,rfl,b,f,g,j,q,t,u,⟨g,rfl,rfl,j⟩⟩)
theorem mE{t:Bool}(B:Jk hb K Q)(r:R w hb S O s.heap)(z:VR w S s.heap I o)(e:Ni Q I nm O=J v):
 Qa (bb pg w) A (getAttr o nm t) (PV w hb L S s O v) No s:=by
 refine ab e λp l e=>ab l λi C D=>ab e λT E e=>ab e λu W e=>ab e λx g e6=>?_;clear e l;obtain⟨rfl,hc⟩:=KJ e6;obtain⟨a,dx,X,m,rfl,_,_,_,_,p2,_,_,b⟩:=r.inst D E (Th C▸z);have G:=B.get _ _ (yf W);refine aa λf=>?_;obtain⟨a',g3,g4⟩:=G.2.2;refine f (aa λf=>?_);rcases p2.wJ (m:=m) nm with⟨j,q⟩|⟨x,y,j,q,k⟩
 ·refine f ?_
  rw[j]at g;exact ja g
 ·refine f ?_
  rw[<-(ba (g.symm.trans j):_=x)]at k;exact get_value (r.kin B) b G.1 (findObj_own G.2.1 g3 g4 q) (sB k hc) (PV.same r k)
theorem iQ{l:List (Ca×wD)}(e:l.Pairwise λp q=>p.1≠q.1){p:Ca×wD}(m:p∈l):∃b a,l=b++p::a/\(∀q∈b,q.1≠p.1)/\(∀q∈a,q.1≠p.1):=by
 refine aa λg=>?_;obtain⟨b,a,rfl⟩:=List.append_of_mem m;refine g ?_;rw[Oo]at e;exact⟨b,a,rfl,λq f=>e.2.2 q f p sa,λq f=>((Ag.mp e.2.1).1 q f).symm⟩
inductive F5(w:zb)(S:List Ca)(h:qb)(nm:Bb)(t:jk)(x:V)(y:wa)(T:List (Bb×V))(X:List Cf)(m:Nat):Prop
 |mk (ents':List Cf) (m':Nat):wD.putName nm (qR w.params nm) (.str nm t) y (qm X m)=qm ents' m'->SE w S h (Hh T nm x) ents'->F5 w S h nm t x y T X m
theorem SE.putE{t:jk}(f:SE w S h T X)(g:VR w S h x y):F5 w S h nm t x y T X m:=by
 refine aa λe=>?_;rcases f.put nm t g with⟨i,a,b⟩|⟨a,b⟩
 ·refine e ?_
  exact⟨_,m,by refine U VX ?_;simp only[mL,GD,a];simp,b⟩
 ·refine e ?_
  exact⟨_,m+1,by refine U VX ?_;simp only[mL,GD,a];rfl,by
   refine U (show qR w.params nm=C4 w nm from rfl) ?_
   simpa using b⟩
theorem IN{k:qb}{j:Ca}{o l:wD}{g f:List (Ca×wD)}(p:Ai h L=g++(j,o)::f)(a:News hE L k (g++(j,l)::f)):∀b z,b≠L->b≠j->h.get? b=J z->k.get? b=J z:=λb z r t e=>by
 refine(a (b,z) ?_).1;rcases Xb.mp (p▸we.mpr ⟨r,e⟩:(b,z)∈g++(j,o)::f)with q|q
 ·exact Je _ q
 ·rcases fb.mp q with q|q
  ·exact zc (Gc oj q) t
  ·exact Ld _ (oa _ q)
theorem pP(h:T.length<900):(Hh T nm x).length<=900:=Za (qC nm x T) h
theorem gF(B:Jk hb K Q)(r:R w hb S O s.heap)(l:Um hb L S s.heap)(xo:VR w S s.heap I o)(xv:VR w S s.heap x y)(e:Qn Q I nm x O=J N):
 Qa (bb pg w) A (setAttr o nm y) (λu=>PS w hb L S s N) No s:=by
 refine ab e λp C e=>ab C λi e1 e2=>ab e λT e3 e=>qe e λu e4 e=>?_;clear C;refine aa λnq=>?_;subst e;have G:=Aa.mp (yf e4);have k:T.length<900:=gb G.2;obtain⟨a,dx,X,m,rfl,_,ed,hx,hd,p2,p3,p4,f⟩:=r.inst e2 e3 (Th e1▸xo);obtain⟨g1,g2,g3⟩:=B.set _ _ G.1;obtain⟨mm,W⟩:=l.ns;obtain⟨pre,post,C,q1,q2⟩:=iQ Tq (we.mpr ⟨(λq=>l.out (q▸Ma ed):dx≠L),hd⟩);have hl:(vZ nm (qm X m)).isSome=Z:=by
  rcases p2.wJ (m:=m) nm with⟨_,b⟩|⟨_,_,_,b,_⟩<;>refine U b ?_ <;>rfl
 obtain⟨g,m',D,E⟩:=p2.putE (m:=m) (nm:=nm) (t:=s.toks+1) xv;refine nq ?_;refine set_plain (r.kin B) f g1 (osa_dict (s:={s with toks:=s.toks+1}) (pre:=pre) (post:=post) (od':=qm g m') (cj W) (C▸vg) (r.kin B) f rfl g2 g3 (B.get _ _ G.1).2.1 hl q1 q2 D rfl (by refine Ed E.length ?_;exact Za (pP k) (by decide)) λh' F' N'=>?_);have j:=IN C N';have z:=r.updL l (o:=.h (Hh T nm x)) ed W F'.ns j ⟨g,m',(N' _ (Ld _ sa)).1,E.mono (Ja _) λb z e im=>j b z (λq=>Cg W (q▸e) im) (λq=>nomatch (by rw[q,hd]at e;obtain rfl:=ba e;exact im:Jh (qm X m))) e,mw p3,Za (pP k) (by exact Ve _ _)⟩;exact⟨_,rfl,z.2,z.1⟩
end
section
variable {es:List (Bb×V)} {k:Int} {m:Nat} {P D:Type} {S:List V} {t:jk} {T:qb} {ob:wD}
variable [C:Av]
variable {w:zb} {X h:qb} {L:Ca} {ρ:List Ca} {W E:St} {s:Ea} {v:V} {N:wa} {A:Yb} {n:Nat} {K:Ue} {B:Ch}
inductive jW [C:Av](w:zb)(h:qb)(ρ:List Ca)(es:List (Bb×V))(ents:List Cf):Prop
 |mk:∀kvs,Pairs (ee pg w) ents kvs->kvs.map (λx=>x.1)=es.map (λx=>x.1)->ue w ρ h (es.map λx=>x.2) (kvs.map λx=>x.2)->(∀e∈ents,∃k,(ee pg w).is k e.key=Z/\e.hash=(ee pg w).hash k)->jW w h ρ es ents
theorem SE.pairs{b:List Cf}(q:SE w ρ h es b):
 jW w h ρ es b:=by
 induction q with
 |nil=>exact⟨[],.nil,rfl,.nil,λe d=>by cases d⟩| @cons k x t v es b a u l=>
  obtain⟨f,p,r,z,O⟩:=l;have g:(ee pg w).is k (.str k t)=Z:=by show Ui k (.str k t)=Z;simp[Ui]
  refine⟨(k,v)::f,.cons g rfl p,by simp[r],.cons a z,λe d=>?_⟩;rcases fb.mp d with q|q
  ·subst q;exact⟨k,g,rfl⟩
  ·exact O e q
theorem xB{k:Bb}{y:wa}(e:Ui k y=Z):∃t,y=.str k t:=by
 induction y<;>simp[Ui]at e
 subst e;exact⟨_,rfl⟩
theorem n9:∀{d:List Cf}{f:List (Bb×wa)},Pairs (ee pg w) d f->f.map (λx=>x.1)=es.map (λx=>x.1)->ue w ρ h (es.map λx=>x.2) (f.map λx=>x.2)->
 (∀e∈d,∃k,(ee pg w).is k e.key=Z/\e.hash=(ee pg w).hash k)->SE w ρ h es d:=by
 induction es with
 |nil=>intro d f p g l _;induction f using ma with|nil=>cases p;exact .nil|cons u z=>simp at g
 |cons p es ih=>
  intro d f q g l O;obtain⟨k,x⟩:=p
  induction f using ma with
  |nil=>simp at g|cons kv f=>
   obtain⟨k',y⟩:=kv;simp only[Vb,qeB]at g;obtain⟨rfl,g⟩:=g;cases q with
   | @cons e u x1 z a b c=>
    refine aa λR=>?_;cases l with
    |cons l r=>
    refine R ?_;clear R;obtain⟨x2,x3,N⟩:=e
    dsimp only at a b
    subst b;obtain⟨k2,z1,z2⟩:=O _ sa;have:k2=k':=wa.isStrOf_inj _ _ _ z1 a;subst this;obtain⟨t,rfl⟩:=xB a
    dsimp only at z2
    subst z2;exact .cons l (ih c g r λe he=>O e (oa _ he))
theorem SE.isDict{a:List Cf}(q:SE w ρ h es a)(d:(es.map λx=>x.1).Nodup):
 ∃b,(qm a m).IsDictOf (ee pg w) b/\b.map (λx=>x.1)=es.map (λx=>x.1)/\ue w ρ h (es.map λx=>x.2) (b.map λx=>x.2):=by
 refine aa λg=>?_;obtain⟨b,l,f,p,r⟩:=q.pairs;refine g ?_;exact⟨b,⟨a.toArray,m,⟨rfl,rfl,rfl⟩,rfl,λe u=>r e (by simpa using u),by simpa using l,by refine U f ?_;exact d⟩,f,p⟩
theorem pG{o:wD}{b:List (Bb×wa)}(q:o.IsDictOf (ee pg w) b)(z:b.map (λx=>x.1)=es.map λx=>x.1)(O:ue w ρ h (es.map λx=>x.2) (b.map λx=>x.2)):
 ∃a m,o=qm a m/\SE w ρ h es a:=by
 refine aa λR=>?_;obtain⟨f,m,⟨l,c2,c3⟩,d,k,p,_⟩:=q;obtain⟨x1,r,u,g⟩:=o
 dsimp only at l c2 c3 d
 subst l c2 c3 d;exact R (⟨f.toList,m,by rfl,n9 p z O λe he=>k e (by simpa using he)⟩)
theorem AE{a:List (Bb×wa)}(b:a.map (λx=>x.1)=es.map λx=>x.1)(d:ue w ρ h (es.map λx=>x.2) (a.map λx=>x.2))(k:Bb):
 (Pf es k=Y/\Wl a k=Y)\/∃x N,Pf es k=J x/\Wl a k=J N/\VR w ρ h x N:=Dy (look:=Pf) (λu=>rfl) (λu u u=>rfl) b d k
theorem Ew [DecidableEq P](f:List (P×V)->P->V->List (P×V))(h0:∀k x,f [] k x=[(k,x)])(h1:∀p r k x,f (p::r) k x=if p.1=k then(p.1,x)::r else p::f r k x)
 {k:P}{x:V}{y:wa}(a:VR w ρ h x y):∀{es:List (P×V)}{d:List (P×wa)},(d.map λx=>x.1).Nodup->d.map (λx=>x.1)=es.map (λx=>x.1)->ue w ρ h (es.map λx=>x.2) (d.map λx=>x.2)->
 (stored d k y).map (λx=>x.1)=(f es k x).map (λx=>x.1)/\ue w ρ h ((f es k x).map λx=>x.2) ((stored d k y).map λx=>x.2):=by
 intro es
 induction es with
 |nil=>intro d _ l O;induction d using ma with|nil=>refine U (h0 _ _) ?_;exact⟨rfl,.cons a .nil⟩|cons u j=>exact zc l (Bc _ _)
 |cons p es ih=>
  intro d r l O
  induction d using ma with
  |nil=>exact zc l.symm (Bc _ _)|cons g d=>
   have u:g.1=p.1:=Xd l;have R:=wd l;have r:=Fc.mp r;refine aa λnq=>?_;obtain⟨_,_,q,b,c⟩:=O.wF;cases q;obtain⟨i1,i2⟩:=ih r.2 R c;refine nq (U (h1 _ _ _ _) (Ed u ?_));by_cases e:g.1=k
   ·refine U (Dd e) ?_
    have hn:d.map (λg=>if g.1=k then(g.1,y)else g)=d:=
     (fg λz hz=>fe λq=>r.1 (Rb.mpr ⟨z,hz,q.trans e.symm⟩)).trans (List.map_id d)
    have:stored (g::d) k y=(g.1,y)::d:=by
     simp only[stored,bq,e,decide_true,Bool.true_or,if_true,Vb,hn]
    exact U this (⟨Gc (λx=>g.1::x) R,.cons a c⟩)
   ·refine U (fe e) ?_
    have:stored (g::d) k y=g::stored d k y:=by
     simp only[stored,bq,e,decide_false,NX,Vb,if_false,Km]
     split<;>rfl
    exact U this (⟨by exact U Vb (U Vb (U i1 (U u rfl))),.cons b i2⟩)
theorem OJ(k:Int)(x:V):∀es:List (Int×V),(iw es k x).length<=es.length+1:=by
 intro es
 induction es with
 |nil=>
  exact Gb 1
 |cons p es a=>
  refine U (show iw (p::es) k x=if p.1=k then(p.1,x)::es else p::iw es k x from rfl) ?_
  split
  ·exact se _
  ·exact sf (a)
inductive At(n:Nat)(k:Int)(j:Nat):Prop
 |fwd:0<=k->k.toNat=j->At n k j|back:k<0-> -(n:Int)<=k->(k+n).toNat=j->At n k j
theorem Ls{n:Nat}{j:Nat}(e:Ol n k=J j):At n k j:=by
 unfold Ol at e;by_cases h:0<=k
 ·rw[Dd h]at e;exact .fwd h (ba e)
 ·rw[fe h]at e
  have:=El e;exact .back (qaZ.mp h) this.1 this.2
theorem At.seq{n:Nat}{j:Nat}(e:At n k j)(h:j<n):t9 k n=J j:=by
 refine aa λa=>?_
 induction e with
 |fwd b q=>refine a ?_;clear a;subst q;simp[t9,Wi.mpr b];lia|back b d q=>refine a ?_;clear a;subst q;simp[t9,b];lia
theorem At.rng{n:Nat}{j:Nat}(e:At n k j)(h:j<n)(b:n<=4096): -(2^63:Int)<=k/\k<2^63:=by
 induction e with
 |fwd a q=>lia|back a d q=>lia
theorem Gn(k:Int)(t:jk):(jg pg w).is k (.int k t)=Z:=by show Ho k (.int k t)=Z;simp[Ho]
theorem Ek(k:Bb)(t:jk):(ee pg w).is k (.str k t)=Z:=by show Ui k (.str k t)=Z;simp[Ui]
section
variable {F Q:Expr} {I G:V} {o i:wa}
inductive NR(s:Ea)(o:wa):Prop
 |t:s.TypeIs o "tuple"->NR s o|list:s.TypeIs o "list"->NR s o|dict:s.TypeIs o "dict"->NR s o
abbrev oL(w:zb)(X:qb)(A:Yb)(L:Ca)(ρ:List Ca)(W:St)(s:Ea)(o i:wa)(v:V):Prop:=NR s o/\Qa (bb pg w) A (A4 o i) (PV w X L ρ s W v) No s
theorem oV(r:R w X ρ W s.heap)(l:VR w ρ s.heap (.t S) o)(e:F4 S k=J v):oL w X A L ρ W s o (.int k t) v:=ab e λj p b=>by
 have a:=Ls p;refine aa λq=>?_;obtain⟨c,O,m,rfl,_,d,lo,f⟩:=l.wF;obtain⟨y,u,z⟩:=f.get b;refine q ?_;have g:=(wb.mp b).1;have X:=a.rng g lo;exact⟨.t ⟨_,d,rfl⟩,qae (lf d) X.1 X.2 (by refine U Hb (Ed f.length ?_);exact a.seq g) (by refine U jc ?_;exact u) (PV.wU r z)⟩
theorem mQ{c:Ca}(r:R w X ρ W s.heap)(q:OR w ρ s.heap (.list S) c)(e:F4 S k=J v):oL w X A L ρ W s (.ref c) (.int k t) v:=ab e λj z l=>by
 have a:=Ls z;refine aa λb=>?_;obtain⟨vs,m,d,O,f⟩:=q;obtain⟨y,p,u⟩:=f.get l;refine b ?_;have X:=a.rng ((wb.mp l).1) O;refine⟨.list ⟨_,d,rfl⟩,?_⟩;refine aa λb=>?_
 induction a with
 |fwd g q=>refine b ?_;exact wpAny_getItem_list (ve d) g X.2 (by refine U q (U jc ?_);exact p) (PV.wU r u)|back g h1 q=>refine b ?_;exact wpAny_getItem_list_neg (ve d) g (by refine U Hb (Ed f.length ?_);exact h1) X.1 (by refine U Hb (Ed f.length (U q (U jc ?_)));exact p) (PV.wU r u)
theorem kK{es:List (Int×V)}{c:Ca}(r:R w X ρ W s.heap)(q:OR w ρ s.heap (.idict es) c)(e:Qm es k=J v):oL w X A L ρ W s (.ref c) (.int k t) v:=by
 refine aa λa=>?_;obtain⟨O,p,d,f,u,z,q5⟩:=q;refine a (aa λa=>?_);rcases Nv u z k with⟨b,g⟩|⟨x,y,b,g,l⟩
 ·exact a (ja (b.symm.trans e))
 ·refine a ?_
  rw[ba (b.symm.trans e)]at l;exact⟨.dict ⟨_,d,f.choose_spec.choose_spec.1.1⟩,S9 (Gn k t) (Qv d f) g (PV.same r l)⟩
theorem lK{k:Bb}{c:Ca}(r:R w X ρ W s.heap)(q:OR w ρ s.heap (.h es) c)(e:Pf es k=J v):oL w X A L ρ W s (.ref c) (.str k t) v:=by
 refine aa λa=>?_;obtain⟨d,m,f,p,u,q4⟩:=q;obtain⟨z,O,d2,d3⟩:=p.isDict (m:=m) u;refine a (aa λa=>?_);rcases AE d2 d3 k with⟨b,g⟩|⟨x,y,b,g,l⟩
 ·exact a (ja (b.symm.trans e))
 ·refine a ?_
  rw[ba (b.symm.trans e)]at l;exact⟨.dict ⟨_,f,rfl⟩,S9 (Ek k t) ((Mf.mpr ⟨_,f,O⟩).mapOf) g (PV.same r l)⟩
theorem Fv(r:R w X ρ W s.heap)(p:VR w ρ s.heap I o)(g:VR w ρ s.heap G i)(e:cD I G W=J v):oL w X A L ρ W s o i v:=by
 refine aa λa=>?_
 induction I using V.casesOn with
 |t S=>
  refine a ?_;clear a;refine ab e λk l b=>?_;obtain⟨t,rfl⟩:=g.wZ l;exact oV r p b
 |ref j=>
  refine a ?_;clear a;refine ab e λob l b=>?_;obtain⟨c,rfl,u⟩:=p.wF;have q:=r.obj _ _ c l u;refine aa λa=>?_
  induction ob with
  |list S=>
   refine a ?_;clear a;refine ab b λk d f=>?_;obtain⟨t,rfl⟩:=g.wZ d;exact mQ r q f
  |idict es=>
   refine a ?_;clear a;refine ab b λk d f=>?_;obtain⟨t,rfl⟩:=g.wZ d;exact kK r q f
  |h es=>
   refine a ?_;clear a;refine ab b λk d f=>?_;obtain⟨t,rfl⟩:=(bD d▸g:VR w ρ s.heap (.str k) i).wF;exact lK r q f
  |_=>refine a ?_;clear a;exact ja b
 |_=>refine a ?_;clear a;exact ja e
theorem B1(r:R w X ρ W s.heap)(b:VR w ρ s.heap I o)(d:VR w ρ s.heap G i)(e:cD I G W=J v)(a:pV Q ua o i=AD [o,i] (A4 o i)):Qa (bb pg w) A (qei F Q o i) (PV w X L ρ s W v) No s:=by
 refine kba_turn (value':=.Name "x" default) (λu=>rfl) ?_;obtain⟨f,z⟩:=Fv (A:=A) (L:=L) r b d e
 induction f with
 |t hT=>exact cr hT (id:="tuple.__getitem__") PySem.F.slot_tuple_getitem.lookup z a|list hT=>exact cr hT (id:="list.__getitem__") PySem.F.slot_list_getitem.lookup z a|dict hT=>exact cr hT (id:="dict.__getitem__") slot_dict_getitem.lookup z a
end
theorem qI{a:Ca}{b:Array wa}(f:Array wa->Array wa)(e:h.get? a=J (listOf b m)):∃d,(h.update a (Yi f)).get? a=J (listOf (f b) d):=by
 have:=Qc (Yi f) e (by rfl);exact⟨_,this⟩
variable {I G x:V} {o i y:wa} {c:Ca} {j:Nat}
theorem Aq(a:ff c h T)(d:h.get? c=J ob)(f:¬Jh ob):∀b z,h.get? b=J z->Jh z->T.get? b=J z:=λb z e g=>(a.2 b λq=>f (ba (d.symm.trans (q▸e))▸g)).trans e
theorem Ct{a:Array wa}:¬Jh (listOf a m):=by simp[Jh]
theorem OB{a:List Cf}:¬Jh (qm a m):=by simp[Jh]
theorem PS.upd{b:Nat}{ob:O}{a:wD}(r:R w X ρ W s.heap)(l:Um X L ρ s.heap)(d:ρ[j]?=J c)(g:s.heap.get? c=J a)(e:ff c s.heap T)(f:OR w ρ T ob c):PS w X L ρ s (W.set j ob) {s with heap:=T,toks:=b}:=
 have z:=r.upd' (L:=L) d e f l.out
 ⟨ρ,rfl,z.2,z.1⟩
theorem TP(r:R w X ρ W s.heap)(l:Um X L ρ s.heap)(ec:ρ[j]?=J c)(q:OR w ρ s.heap (.list S) c)(xv:VR w ρ s.heap x y){p:Nat}(e1:Ol S.length k=J p)(hp:p<S.length):
 Qa (bb pg w) A (sx (.ref c) (.int k t) y) (λu=>PS w X L ρ s (W.set j (.list (S.set p x)))) No s:=by
 have a:=Ls e1;refine aa λO=>?_;obtain⟨f,m,b,lx,e⟩:=q;refine O ?_;clear O;have d:=a.rng hp lx;have go:∀T,(∃g,T.get? c=J (listOf (f.toArray.setIfInBounds p y) g))->ff c s.heap T->PS w X L ρ s (W.set j (.list (S.set p x))) {s with heap:=T}:=λT ⟨g,e'⟩ sb=>
  PS.upd r l ec b sb ⟨f.set p y,g,by exact U e' (U (List.setIfInBounds_toArray _ _ _) rfl),by refine U yb ?_;exact lx,(e.set p xv).mono (Ja _) (Aq sb b Ct)⟩
 induction a with
 |fwd u q=>subst q;exact ki_setAt b u d.2 (by refine U Hb (Ed e.length ?_);lia) (go _ (qI _ b) (zd ..))|back u h1 q=>
  refine ki_setBack b u (by refine U Hb (Ed e.length ?_);exact h1) d.1 (go _ ?_ (zd ..));have:=qI (λz=>z.setIfInBounds (k+f.toArray.size).toNat y) b;rw[Hb,<-e.length,q]at this|-;exact this
theorem UG{es:List P}{a:List D}(h:a.length=es.length)(b:es.length<4096):a.length<=sizeLine:=by refine U h (U zf ?_);lia
theorem Mv{b:Type}{es:List (P×D)}{a:List (P×b)}(h:a.map (λx=>x.1)=es.map λx=>x.1):a.length=es.length:=by have:=Gc nj h;rwa [ya,ya]at this
theorem Cz{a:List (Int×wa)}(q:ob.IsDictOf (jg pg w) a):¬Jh ob:=by
 refine aa λb=>?_;obtain⟨_,_,_,d,_⟩:=q;refine b ?_;simp[Jh,d]
theorem ZJ{es:List (Int×V)}(r:R w X ρ W s.heap)(l:Um X L ρ s.heap)(p:ρ[j]?=J c)(q:OR w ρ s.heap (.idict es) c)(z:VR w ρ s.heap x y)(e:es.length<4096):
 Qa (bb pg w) A (sx (.ref c) (.int k t) y) (λu=>PS w X L ρ s (W.set j (.idict (iw es k x)))) No s:=by
 refine aa λa=>?_;obtain⟨O,x1,b,d,f,q4,q5⟩:=q;refine a (GX (Gn k t) (Mf.mpr ⟨O,b,d⟩) (λT hd g=>?_) (UG (Mv f) e));refine aa λa=>?_;obtain⟨o2,e2,d2⟩:=Mf.mp hd;refine a ?_;have st:=Ew iw (λu u=>rfl) (λu u u u=>rfl) z d.choose_spec.choose_spec.2.2.2.2 f q4 (k:=k);exact PS.upd r l p b g ⟨o2,_,e2,d2,st.1,st.2.mono (Ja _) (Aq g b (Cz d)),Za (OJ k x es) e⟩
theorem aK{k:Bb}(r:R w X ρ W s.heap)(l:Um X L ρ s.heap)(ec:ρ[j]?=J c)(q:OR w ρ s.heap (.h es) c)(xv:VR w ρ s.heap x y)(g:es.length<4096):
 Qa (bb pg w) A (sx (.ref c) (.str k t) y) (λu=>PS w X L ρ s (W.set j (.h (Hh es k x)))) No s:=by
 refine aa λb=>?_;obtain⟨p,m,d,q2,z,q4⟩:=q;obtain⟨x1,O,d2,d3⟩:=q2.isDict (m:=m) z;refine b (GX (Ek k t) (Mf.mpr ⟨_,d,O⟩) (λT hd sb=>?_) (UG (Mv d2) g));refine aa λb=>?_;have st:=Ew Hh (λu u=>rfl) (λu u u u=>rfl) xv O.choose_spec.choose_spec.2.2.2.2 d2 d3 (k:=k);obtain⟨o2,u,e⟩:=Mf.mp hd;obtain⟨a,m',rfl,f⟩:=pG e st.1 (st.2.mono (Ja _) (Aq sb d OB));exact b (PS.upd r l ec d sb ⟨a,m',u,f,mw z,Za (qC k x es) g⟩)
theorem Ny(r:R w X ρ W s.heap)(l:Um X L ρ s.heap)(xo:VR w ρ s.heap I o)(xi:VR w ρ s.heap G i)(xv:VR w ρ s.heap x y)(e:Ci I G x W=J E):
 Qa (bb pg w) A (sx o i y) (λu=>PS w X L ρ s E) No s:=by
 refine ab e λj e1 e=>qe e λob e2 e=>ab e2 λx1 e3 O=>?_;subst e;clear e2;obtain⟨c,rfl,ec⟩:=(Th e1▸xo:VR w ρ s.heap (.ref j) o).wF;have q:=r.obj _ _ c e3 ec;refine aa λa=>?_
 induction x1 with
 |list S=>
  refine a ?_;clear a;refine ab O λp b d=>ab b λk f g=>qe d λys e9 x2=>?_;obtain⟨t,rfl⟩:=xi.wZ f;have z:=El e9;exact Ed x2 (Ed z.2 (TP r l ec q xv g z.1))
 |idict es=>
  refine a ?_;clear a;refine ab O λk b d=>qe d λu f g=>?_;obtain⟨t,rfl⟩:=xi.wZ b;exact Ed g (ZJ r l ec q xv (Qi (yf f)))
 |h es=>
  refine a ?_;clear a;refine ab O λk b d=>qe d λu f g=>?_;obtain⟨t,rfl⟩:=(bD b▸xi:VR w ρ s.heap (.str k) i).wF;exact Ed g (aK r l ec q xv (Qi (yf f)))
 |_=>refine a ?_;clear a;exact ja O
end
section
variable {Q:qb} {vs:List wa} {O:List V} {a:Ca} {k tk' i:Nat} {is:List Int} {t u:jk} {o:wa} {b:Int}
variable [G:Av]
variable {w:zb} {W h:qb} {L:Ca} {ρ:List Ca} {S X:St} {s:Ea} {v:V} {I:wa} {A:Yb} {n:Nat} {K:Ue} {N:Ch}
theorem PV.wI{d:Nat}{x:V}{y:wa}(r:R w W ρ S s.heap)(c:∀a o,s.heap.get? a=J o->Q.get? a=J o)(q:VR w ρ Q x y):PV w W L ρ s S x y {s with heap:=Q,toks:=d}:=
 ⟨ρ,rfl,KX.wI c,r.wI c,q⟩
theorem Gy(r:R w W ρ S s.heap)(c:∀b x,s.heap.get? b=J x->Q.get? b=J x)
 (d:s.heap.get? a=Y)(f:Q.get? a=J (listOf vs.toArray k))(x:ue w ρ s.heap O vs)(e:gj O S=J (v,X)):
 PV w W L ρ s X v (.ref a) {s with heap:=Q,toks:=tk'}:=
 yo (P:=λv X=>PV w W L ρ s X v (.ref a) {s with heap:=Q,toks:=tk'}) e λg=>
  have z:=r.new' (L:=L) (a:=a) (o:=.list O) c d ⟨vs,_,f,vd g,x.mono (Hc _ _) λa o e u=>c a o e⟩
  ⟨_,rfl,z.2,z.1,.ref (Hr r)⟩
theorem Hy(r:R w W ρ S s.heap)(c:∀b x,s.heap.get? b=J x->Q.get? b=J x)
 (d:s.heap.get? a=Y)(f:Q.get? a=J (gu vs k))(x:ue w ρ s.heap O vs)(e:Bp O S=J (v,X)):
 PV w W L ρ s X v (.ref a) {s with heap:=Q,toks:=tk'}:=
 Ao (P:=λv X=>PV w W L ρ s X v (.ref a) {s with heap:=Q,toks:=tk'}) e λg=>
  PV.wI r c (.t (r.notAv d) f (vd g) (x.mono (Ja _) λa o e u=>c a o e))
theorem xk{h:qb}(c:∀b x,h.get? b=J x->Q.get? b=J x)(e:Q.get? a=Y):h.get? a=Y:=by
 induction q:h.get? a with
 |none=>rfl|some o=>rw[c a o q]at e;exact ja e.symm
theorem rt(x:Xi vs is):vs.length=is.length:=by
 induction x with
 |nil=>rfl|cons u y z c=>simp[c]
theorem ue.fit(q:ue w ρ h O vs)(c:O.length<=4096):vs.toArray.size<=sizeLine:=by refine U Hb (Ed q.length (U zf ?_));lia
theorem ue.int(q:ue w ρ h O vs):VR w ρ h (.int O.length) (.int vs.toArray.size t):=by refine U Hb (Ed q.length ?_);exact .int _ _
theorem BB(r:R w W ρ S s.heap)(e:tc S i=J O)(x:VR w ρ s.heap (.ref i) o):
 Qa (bb pg w) A (call (.builtin "len") [o]) (PV w W L ρ s S (.int O.length)) No s:=by
 refine aa λd=>?_;obtain⟨a,vs,m,rfl,_,f,g,c⟩:=r.list e x;refine d ?_;exact call_len_list (ve f) (by refine U Hb (Ed c.length ?_);lia) (PV.same r c.int)
theorem yE(r:R w W ρ S s.heap)(x:VR w ρ s.heap (.t O) o):
 Qa (bb pg w) A (call (.builtin "len") [o]) (PV w W L ρ s S (.int O.length)) No s:=by
 refine aa λc=>?_;obtain⟨a,vs,m,rfl,_,e,l,q⟩:=x.wF;refine c ?_;exact qag (lf e) (by refine U Hb (Ed q.length ?_);lia) (PV.same r q.int)
theorem TJ(r:R w W ρ S s.heap):
 Qa (bb pg w) A (call (.type "range") [.int b t]) (PV w W L ρ s S (.rng 0 b)) No s:=
 call_range_1 (PV.wI r (λa o e=>Ba _ e) (.rng (Oa _ rfl)))
theorem UJ{a:Int}(r:R w W ρ S s.heap):
 Qa (bb pg w) A (call (.type "range") [.int a t,.int b u]) (PV w W L ρ s S (.rng a b)) No s:=
 call_range_2 (PV.wI r (λa o e=>Ba _ e) (.rng (Oa _ rfl)))
theorem zZ{a:Int}(c:Eg n A)(r:R w W ρ S s.heap):
 Qa (bb pg w) A (call (.builtin "max") [.int a t,.int b u]) (PV w W L ρ s S (.int (max a b))) No s:=
 max_two_ints c.hh λQ e d=>PV.wI r d (by
  split
  ·exact U (show max a b=b from by lia) (.int _ _)
  ·refine U (show max a b=a from by lia) ?_;exact .int _ _)
theorem EZ{a:Int}(c:Eg n A)(r:R w W ρ S s.heap):
 Qa (bb pg w) A (call (.builtin "min") [.int a t,.int b u]) (PV w W L ρ s S (.int (min a b))) No s:=
 min_two_ints c.hh λQ e d=>PV.wI r d (by
  split
  ·exact U (show min a b=b from by lia) (.int _ _)
  ·refine U (show min a b=a from by lia) ?_;exact .int _ _)
theorem C1(l:Eg n A)(r:R w W ρ S s.heap)(e:tc S i=J O)(p:ki O=J is)(x:VR w ρ s.heap (.ref i) o):
 Qa (bb pg w) A (call (.builtin "sum") [o]) (PV w W L ρ s S (.int is.sum)) No s:=by
 refine aa λq=>?_;obtain⟨a,vs,m,rfl,_,y,D,z⟩:=r.list e x;have c:=yi z p;obtain⟨d,f⟩:=c.allInts.items;refine q ?_;have g:=ve y;rw[f]at g;refine sum_intListG l.hh g λQ E F B=>PV.wI r B ?_;have j:=nums_intItems d;rw[<-f]at j;have:preSum (numAt d) d.size=is.sum:=by
  rw[preSum_eq,<-j,show vs.toArray.toList=vs from rfl,c.numsOf,uD];have:=rt c;have C:=Gc Array.size f;simp[intItems]at C
  lia
 exact U this (.int _ _)
theorem oA(r:R w W ρ S s.heap)(x:VR w ρ s.heap (.t O) o)(e:Bp O S=J (v,X)):
 Qa (bb pg w) A (call (.type "tuple") [o]) (PV w W L ρ s X v) No s:=iO e λu=>by
 refine aa λc=>?_;obtain⟨a,vs,m,rfl,d,e,l,q⟩:=x.wF;exact c (call_tuple_tup (lf e) (PV.wU r x))
theorem yx(r:R w W ρ S s.heap)(e:tc S i=J O)(x:VR w ρ s.heap (.ref i) o)(f:Bp O S=J (v,X)):
 Qa (bb pg w) A (call (.type "tuple") [o]) (PV w W L ρ s X v) No s:=by
 refine aa λg=>?_;obtain⟨a,vs,m,rfl,_,j,l,c⟩:=r.list e x;refine g ?_;exact call_tuple_list (ve j) (λQ d=>Hy (vs:=vs) (k:=0) (tk':=s.toks) r (λb x e=>Ba _ (d b x e)) (xk d (Fb Q)) (Oa _ rfl) c f) (c.fit l)
theorem FB(r:R w W ρ S s.heap)(x:VR w ρ s.heap (.t O) o)(e:gj O S=J (v,X)):
 Qa (bb pg w) A (call (.type "list") [o]) (PV w W L ρ s X v) No s:=by
 refine aa λc=>?_;obtain⟨a,vs,m,rfl,j,d,l,q⟩:=x.wF;exact c (call_list_seq a (T:="tuple") (.inr rfl) d rfl rfl (λQ p f g=>Gy (tk':=s.toks) r f (Fb _) g q e) (q.fit l))
theorem Bq(x:Int):∀l,(qo x l).Perm (x::l):=by
 intro l
 induction l with
 |nil=>
  exact .refl _
 |cons y r c=>
  show(if x<=y then x::y::r else y::qo x r).Perm _
  by_cases q:x<=y
  ·rw[Dd q]
  ·exact U (fe q) (((c).cons y).trans (.swap x y r))
theorem oF:∀l,(Yq l).Perm l:=by
 intro l
 induction l with
 |nil=>
  exact .refl _
 |cons x r c=>
  exact(Bq x _).trans ((c).cons x)
theorem Hv(x:Int):∀l:List Int,l.Pairwise (λx y=>x<=y)->(qo x l).Pairwise (λx y=>x<=y):=by
 intro l
 induction l with
 |nil=>
  rintro _;exact GA _ _
 |cons y r d=>
  rintro h;have Q:=Ag.mp h;show(if x<=y then x::y::r else y::qo x r).Pairwise _
  by_cases q:x<=y
  ·exact U (Dd q) (Ag.mpr ⟨λz c=>(fb.mp c).elim (λe=>e▸q) λe=>Int.le_trans q (Q.1 z e),h⟩)
  ·exact U (fe q) (Ag.mpr ⟨λz c=>(fb.mp ((Bq x r).mem_iff.mp c)).elim (λe=>e▸l5 (qaZ.mp q)) (Q.1 z),d Q.2⟩)
theorem fA:∀l:List Int,(Yq l).Pairwise (λx y=>x<=y):=by
 intro l
 induction l with
 |nil=>
  exact .nil
 |cons x r c=>
  exact Hv x _ (c)
theorem Zq{l c:List Int}(p:c.Perm l)(q:c.Pairwise λx y=>x<=y):c=Yq l:=
 qez (le:=λx y=>x<=y) (λa b u u d e=>Int.le_antisymm d e) q (fA l) (p.trans (oF l).symm)
theorem Dw(r:R w W ρ S s.heap)(l:Um W L ρ s.heap)(e:tc S i=J O)(j:ki O=J is)(x:VR w ρ s.heap (.ref i) o)(c:is.length<60)
 (p:gj ((Yq is).map V.int) S=J (v,X)):Qa (bb pg w) A (call (.builtin "sorted") [o]) (PV w W L ρ s X v) No s:=by
 refine aa λy=>?_;obtain⟨a,vs,m,rfl,_,z,q2,B⟩:=r.list e x;have d:=yi B j;obtain⟨mm,f⟩:=l.ns;refine y ?_;refine sorted_N (cj f) vg (ve z) d (by refine U (rt d) ?_;lia) λQ C D e' E g F P T=>?_;have:=Zq P T;subst this;have hg:s.heap.get? (s.heap.objs.size+1)=Y:=by
  induction q:s.heap.get? (s.heap.objs.size+1)with
  |none=>rfl|some u=>exact zc (qc q) (Ud.mpr (se _))
 exact Jq (tk':=s.toks) r l f E.ns (News.keepAll1 g) hg (g _ sa).1 (ir F) p
theorem sJ{k:Int}{v:wa}(h:Ho k v=Z):∃t,v=.int k t:=by
 induction v<;>simp[Ho]at h
 exact⟨_,by exact U h rfl⟩
theorem Dq{c:List (Int×wa)}:{vs:List wa}->vs.length=c.length->(∀(j:Nat)(v:wa),vs[j]?=J v->∃k x,c[j]?=J (k,x)/\(jg pg w).is k v=Z)->Xi vs (c.map λx=>x.1):=by
 induction c with
 |nil=>intro vs e _;refine U (sg e) ?_;exact .nil|cons f c g=>
  intro vs e d
  induction vs using ma with
  |nil=>exact zc e.symm (Zb _)|cons v vs=>
   obtain⟨k,x,l,m⟩:=d 0 v rfl;obtain⟨t,rfl⟩:=sJ m;have:f=(k,x):=ba l;exact U this (.cons _ _ (g (Kh e) λj v q=>d (j+1) v q))
theorem Cw{m:List (Int×V)}(AK:Eg n A)(hm:W.get? sysModules≠Y)(r:R w W ρ S s.heap)(l:Um W L ρ s.heap)(e:S[i]?=J (.idict m))(x:VR w ρ s.heap (.ref i) o)(C:m.length<60)
 (en:gj ((Yq (m.map λx=>x.1)).map V.int) S=J (v,X)):Qa (bb pg w) A (call (.builtin "sorted") [o]) (PV w W L ρ s X v) No s:=by
 refine aa λnq=>?_;obtain⟨a,rfl,E⟩:=x.wF;obtain⟨o',kvs,q1,q2,F,q4,q5⟩:=r.obj _ _ a e E;obtain⟨mm,P⟩:=l.ns;obtain⟨y,ep,d⟩:=q2;refine nq ?_;have f:=Mv F;refine kdu_sorted (kdl_dict (knd:=jg pg w) (kvs:=kvs) (ep:=ep) (r.notMods hm (Ma E))) AK.hh (cj P) vg ⟨o',y,q1,d⟩ (by refine U f (U zf ?_);lia) λD Q T vs F' N' hD z hv=>?_;refine ksk_lsort (A:=A.in1) (s:={s with heap:=Q,toks:=T}) (news':=λo=>(D,o)::Ai s.heap L) (its:=vs.toArray) F' N' (λo=>qeE λp c=>ic (hD p c)) rfl (Dq z hv:Xi vs (kvs.map λx=>x.1)) (by refine U (ya _) ?_;lia) λx1 x2 c x3 p g i' u p' B u=>?_;have:=Zq p' B;subst this;have hg:s.heap.get? D=Y:=by
  induction q:s.heap.get? D with
  |none=>rfl|some ob=>
   by_cases j:D=L
   ·exact zc j (g _ sa).2.1
   ·exact zc (hD _ (we.mpr ⟨j,q⟩)) (dc _)
 rw[F]at i';exact Jq (tk':=T) r l P p.ns (News.keepAll1 g) hg (g _ sa).1 (ir i') en
end
section
variable {a:Ca} {k:Int} {x:V} {t:jk}
variable [I:Av]
variable {w:zb} {Q h:qb} {L:Ca} {X:List Ca} {T N:St} {s:Ea} {v:V} {O:wa} {A:Yb} {n:Nat} {K:Ue} {P:Ch}
theorem Sj{i:Nat}{d:List V}{vs:List wa}{k:Nat}{c:qb}{tk':Nat}{m}(r:R w Q X T s.heap)(l:Um Q L X s.heap)(g:X[i]?=J a)(j:s.heap.Ns L m)(f:c.Ns L m)
 (p:∀b x,b≠L->b≠a->s.heap.get? b=J x->c.get? b=J x)(y:c.get? a=J (listOf vs.toArray k))(B:d.length<=4096)(x:ue w X s.heap d vs):
 PV w Q L X s (T.set i (.list d)) .none .none {s with heap:=c,toks:=tk'}:=
 have z:=r.updL l (o:=.list d) g j f p ⟨vs,k,y,B,x.mono (Ja _) (λb z e u=>p b z (λq=>Cg j (q▸e) u) (λq=>r.notIn e u (q▸Ma g)) e:∀b z,s.heap.get? b=J z->Jh z->c.get? b=J z)⟩
 ⟨X,rfl,z.2,z.1,.none⟩
theorem Um.ne(l:Um Q L X h){i:Nat}(b:X[i]?=J a):a≠L:=λq=>l.out (q▸Ma b)
theorem FI{i:Nat}{c:List V}{o y:wa}(r:R w Q X T s.heap)(l:Um Q L X s.heap)(e:tc T i=J c)(q:VR w X s.heap (.ref i) o)(u:VR w X s.heap x y)(z:c.length<4096):
 Qa (bb pg w) A (call (.builtin "list.append") [o,y]) (PV w Q L X s (T.set i (.list (c++[x]))) .none) No s:=by
 refine aa λB=>?_;obtain⟨a,vs,m,rfl,f,C,D,g⟩:=r.list e q;obtain⟨mm,j⟩:=l.ns;obtain⟨d,b,E,F⟩:=Eu (o':=listOf (vs.toArray.push y) (m+1)) C (l.ne f);refine B ?_;exact append_K (cj j) vg b (λS G p=>Sj (tk':=s.toks) r l f j G.ns (News.keepUpd p F) (vs:=vs++[y]) ((p _ E).1.trans (by exact U (gL _ _) rfl)) (by refine U Ha ?_;exact z) (g.append (ue.one u))) (g.fit D)
theorem iH{xs:List V}{b c:Array wa}(h:b.size+c.size<=4096):¬(!b.isEmpty&&yj (b.size+c.size))=Z:=by
 have:yj (b.size+c.size)=ua:=by
  simp only[yj,decide_eq_false_iff_not,zf];lia
 exact U this (U (bW _) ia)
theorem wv{i j:Nat}{xs g:List V}{o y:wa}(r:R w Q X T s.heap)(l:Um Q L X s.heap)(e:tc T i=J xs)(e2:tc T j=J g)(xo:VR w X s.heap (.ref i) o)(xy:VR w X s.heap (.ref j) y)(hl:xs.length+g.length<4096):
 Qa (bb pg w) A (call (.builtin "list.extend") [o,y]) (PV w Q L X s (T.set i (.list (xs++g))) .none) No s:=by
 refine aa λnq=>?_;obtain⟨a,vs,m,rfl,B,q1,q2,p⟩:=r.list e xo;obtain⟨b,u,m2,rfl,eb,p1,p2,D⟩:=r.list e2 xy;obtain⟨mm,C⟩:=l.ns;refine nq ?_;have E:vs.toArray.size+u.toArray.size<=4096:=by refine U Hb (U Hb (Ed p.length (Ed D.length ?_)));exact vd hl
 have hz:vs.toArray.size+u.toArray.size<=sizeLine+1:=Za E (by refine U zf ?_;exact Ve _ _);have d:(xs++g).length<=4096:=by refine U Ha ?_;exact vd hl
 by_cases F:u=[]
 ·obtain⟨f,c,G,S⟩:=Eu (o':=listOf vs.toArray m) q1 (l.ne B)
  exact kxn_extend (cj C) vg (we.mpr ⟨l.ne eb,p1⟩) F c (iH (xs:=[]) E) (p.fit q2) hz λh' W z=>Sj (tk':=s.toks) r l B C W.ns (News.keepUpd z S) (vs:=vs) (z _ G).1 d (U (IE (show ue w X s.heap g []from F▸D)) (U (Wb _) p))
 ·obtain⟨f,c,G,S⟩:=Eu (o':=listOf (vs++u).toArray (m+1)) q1 (l.ne B)
  exact kl_extend (cj C) vg (we.mpr ⟨l.ne eb,p1⟩) rfl (λq=>F (sg q)) c (iH (xs:=[]) E) (p.fit q2) hz λh' W z=>Sj (tk':=s.toks) r l B C W.ns (News.keepUpd z S) (vs:=vs++u) (z _ G).1 d (p.append D)
theorem pJ{i:Nat}{c:List V}{o y:wa}(r:R w Q X T s.heap)(l:Um Q L X s.heap)(e:tc T i=J c)(u:VR w X s.heap (.ref i) o)(z:VR w X s.heap x y)
 (B:0<=k)(W:k<=c.length)(hl:c.length<4096):
 Qa (bb pg w) A (call (.builtin "list.insert") [o,.int k t,y]) (PV w Q L X s (T.set i (.list (c.take k.toNat++x::c.drop k.toNat))) .none) No s:=by
 refine aa λC=>?_;obtain⟨a,vs,m,rfl,j,D,E,f⟩:=r.list e u;obtain⟨mm,p⟩:=l.ns;have d:kl_ins vs.toArray.toList k y=vs.take k.toNat++y::vs.drop k.toNat:=by
  unfold kl_ins;simp only[Wi.mpr B,if_false,Nat.min_eq_left (by refine Ed f.length ?_;omega:k.toNat<=vs.length)]
 obtain⟨g,b,F,G⟩:=Eu (o':=listOf (vs.take k.toNat++y::vs.drop k.toNat).toArray (m+1)) D (l.ne j);refine C ?_;exact kl_insert (cj p) vg (by simp only[U9,Ad,decide_eq_true_eq];omega) d b (f.fit E) λh' S q=>Sj (tk':=s.toks) r l j p S.ns (News.keepUpd q G) (vs:=_) (q _ F).1 (by refine U Ha (U mc (U mu (U Mm ?_)));omega) ((f.take _).append (.cons z (f.drop _)))
theorem NN:∀is:List Int,is.all (λi=>decide (-1000<i)&&decide (i<1000))=Z->Uh (is.map rg)=Z/\Ah (is.map rg)=0/\gt (is.map rg)<=is.length*12:=by
 intro is
 induction is with
 |nil=>
  rintro _;simp[Uh,Ah,gt]
 |cons i is ih=>
  rintro h;simp only[wA,Ad,decide_eq_true_eq]at h;refine aa λnq=>?_;obtain⟨a,b,c⟩:=ih h.2;refine nq ?_;have hw:Dx (.int i)<=11:=by
   simp only[Dx]
   split
   ·exact td _
   ·rename_i q
    have:i.natAbs<2^10:=by lia
    have:=(Y9 (by simp at q;lia)).mpr this;exact Tf (by assumption)
  simp only[Vb,Uh,Ah,gt,pR,mW,a,b,mc];refine⟨rfl,rfl,?_⟩
  lia
theorem lN{i:Nat}{b:List V}{is:List Int}{o:wa}(r:R w Q X T s.heap)(e:tc T i=J b)(c:ki b=J is)(d:VR w X s.heap (.ref i) o)
 (f:is.contains k=Z)(g:is.all (λi=>decide (-1000<i)&&decide (i<1000))=Z)(u:is.length<60):
 Qa (bb pg w) A (call (.builtin "list.index") [o,.int k t]) (PV w Q L X s T (.int (is.idxOf k))) No s:=by
 refine aa λj=>?_;obtain⟨a,y,m,rfl,z,l,B,p⟩:=r.list e d;obtain⟨q,c2,c3⟩:=NN is g;refine j (index_list_ints (ve l) (yi p c) ?_ (fo.mp f) (PV.same r (.int _ _)));simp only[Vf.layable0,pR,q,mW,c2,Dx,vA,Ad,decide_eq_true_eq];exact⟨by decide,decide_eq_true (Za c3 (show is.length*12<=1048576 by lia))⟩
theorem gM{i:Nat}{b:List V}{is:List Int}{o:wa}(r:R w Q X T s.heap)(e:tc T i=J b)(c:ki b=J is)(d:VR w X s.heap (.ref i) o):
 Qa (bb pg w) A (call (.builtin "list.count") [o,.int k t]) (PV w Q L X s T (.int (is.count k))) No s:=by
 refine aa λf=>?_;obtain⟨a,l,m,rfl,p,g,q,j⟩:=r.list e d;exact f (count_list_ints (ve g) (yi j c) (PV.same r (.int _ _)))
theorem lB{p:Zi}{f S:Ca}{fp wr:List Ca}{k:Nat}{g:Nat->wa->Prop}{St:Nat->qb->Prop}{Rr:Cr->Ea->Prop}(W:Walks p w A.in1 f fp wr k g St)(hS:S∉fp)(C:wa)(c0:List wa)(hz:c0.length+k<=4096):
 ∀(d i:Nat)(s:Ea)(l:List wa)(c:Nat),k - i=d->i<=k->St i s.heap->s.heap.get? S=J (listOf (c0++l).toArray c)->l.length=i->(∀j v,l[j]?=J v->g j v)->
 (∀r tk m c',(∀b o,b≠S->b∉wr->s.heap.get? b=J o->r.get? b=J o)->r.get? S=J (listOf (c0++m).toArray c')->m.length=k->(∀j v,m[j]?=J v->g j v)->Rr (.ok (.ret C)) {s with heap:=r,toks:=tk})->
 dh (bb p w) A (.builtin "list.extend.loop" ⟨[.ref S,.ref f,C],[]⟩) Rr s:=by
 have D:S∉wr:=λh=>hS (W.sub _ h);intro d
 induction d with
 |zero=>
  intro i s l c hd hi y z B hP hR;have:i=k:=Yw hi (QF hd);subst this;exact cg Xw (U (Fe xf _) (ga (W.done s _ _ y λr tk E=>ta (hR r tk l c (λb o u q e=>E b o q e) (E S _ D z) B hP))))
 |succ d ih=>
  intro i s l c hd hi y z B hP hR;have u:i<k:=RF hd;have x5:(c0++l).length<=4096:=by refine U Ha (U B ?_);exact Za (Zj hi _) hz
  refine cg Xw (U (Fe xf _) (ga (W.item i s _ _ u y λv h1 tk hp F E=>?_)));have G:=E S _ D z;refine ga (Vp G rfl (ta ⟨ak xf _,ih (i+1) _ (l++[v]) (c+1) (by refine U (D5 _ _) (U hd ?_);rfl) u (W.frame _ _ _ F λb R o e=>(gf _ _ λq:S=b=>hS (q▸R)).trans e) ?_ (by refine U Ha (U B ?_);rfl) (λj x q=>?_) λr x1 m c' x2 R x3 x4=>hR r x1 m c' (λb o n1 n2 e=>x2 b o n1 n2 ((gf _ _ (cq n1)).trans (E b o n2 e))) R x3 x4⟩) ?_ ?_)
  ·refine(Qc (Yi λx=>x.push v) G rfl).trans ?_
   simp[Yi]
  ·rcases ck j l.length with b|b
   ·rw[Xa b]at q;exact hP j x q
   ·rw[La b]at q
    induction e:j - l.length using Sa with
    |zero=>
     rw[e]at q;exact Ed (ba q) (U (show j=i from Yw (B▸QF e) (B▸b)) hp)
    |succ t=>rw[e]at q;exact ja q
  ·refine U Hb (U zf ?_);lia
  ·refine U (cn _) (U Hb (U zf ?_));lia
end
section
variable {a b:Int}
variable [I:Av]
def dq(a b:Int)(c:List wa):Prop:=c.length=(b - a).toNat/\∀(j:Nat)(x:wa),c[j]?=J x->∃t,x=cm (a+(j:Int)*1) t
variable {w:zb} {X h:qb} {L:Ca} {W:List Ca} {Q N:St} {s:Ea} {v:V} {O:wa} {A:Yb} {n:Nat} {K:Ue} {P:Ch}
theorem To(a b:Int):Yg a b 1=((b - a).toNat:Int):=by
 simp only[Yg,show(1:Int)>0 from by decide,if_true,Int.ediv_one]
 split<;>lia
theorem Al{prog:Zi}{Rr:Cr->Ea->Prop}{r S:Ca}{t u v:jk}{c0:List wa}{c:Nat}{res:wa}(hh:A.handled=Y)(C:TK s.heap r a b 1 t u v)(D:s.heap.get? S=J (listOf c0.toArray c))
 (ha: -1000<a)(x1:a<1000)(x2: -1000<b)(G:b<1000)(hz:c0.length+(b - a).toNat<=4096)
 (hR:∀p z g m,(∀b o,b≠S->s.heap.get? b=J o->p.get? b=J o)->p.get? S=J (listOf (c0++g).toArray m)->g.length=(b - a).toNat->(∀(j:Nat)(x:wa),g[j]?=J x->∃t,x=cm (a+(j:Int)*1) t)->Rr (.ok (.ret res)) {s with heap:=p,toks:=z}):
 Qa (bb prog w) A.in1 (Wp (.ref S) (.ref r) res)
  (λe d=>match e with|.done f=>Rr (.ok f) d|.again m=>m.quiet=Z/\dh (bb prog w) A m Rr d) (λe d=>Rr (.error e) d) s:=by
 have E:S≠r:=λe=>by rw[e,C]at D;simp at D
 have l:S≠s.heap.objs.size:=ic (qc D:S<s.heap.objs.size);have R:=To a b;have B:∀(h:qb)(i z:Nat),gn h s.heap.objs.size (a+((0:Nat):Int)*1) (((b - a).toNat:Int) - ((0:Nat):Int)) 1->(∀b o,b≠S->s.heap.get? b=J o->h.get? b=J o)->
  h.get? S=J (listOf c0.toArray i)->dh (bb prog w) A (.builtin "list.extend.loop" ⟨[.ref S,.ref s.heap.objs.size,res],[]⟩) Rr {s with heap:=h,toks:=z}:=by
  intro h i z f hk d;refine lB (Walks.range (prog:=prog) (w:=w) (A:=A.in1) hh s.heap.objs.size a 1 (b - a).toNat) (λk=>l (Ra.mp k):S∉[s.heap.objs.size]) res c0 hz (b - a).toNat 0 {s with heap:=h,toks:=z} [] i rfl (td _) f (by simpa using d) rfl (λj v q=>by simp at q) λp q g m y F hl hP=>(hR p q g m (λb o X e=>y b o X (λk=>?_) (hk b o X e)) F hl hP);exact zc (qc e) (by refine U (Ra.mp k) ?_;exact dc _)
 unfold Wp;refine ga (Ax (T:="range") ⟨_,C,rfl⟩ ?_);have h1:Ys (.ref S) (.ref r)=ua:=by simp[Ys,E]
 simp only[h1,(by decide:(uf "range"==uf "list")=ua),(by decide:(uf "range"==uf "tuple")=ua),uA,dk,if_false];refine ga (U2 C (small_one (by lia) (by lia) (by lia) (by lia):a5 a b 1=Z) ?_);refine ga (Kb (wpAny_hint_range (n:=(b - a).toNat) (Ba _ C) R (by lia) ?_));have f:gn (s.heap.push {cls:=.type "range_iterator",data:=.fields #[ag a,ag (Yg a b 1),ag 1]}) s.heap.objs.size (a+((0:Nat):Int)*1) (((b - a).toNat:Int) - ((0:Nat):Int)) 1:=by
  show gn _ _ _ _ _;refine U R ?_;simpa using Oa _ rfl
 have d:=Ba {cls:=.type "range_iterator",data:=.fields #[ag a,ag (Yg a b 1),ag 1]} D;have F:c0.toArray.size<=4096:=by refine U Hb ?_;lia
 have x3:sizeLine=16777216:=zf;have q:c0.toArray.size<=sizeLine:=by lia
 refine li (λy=>?_) λy=>ta ⟨ak xf _,B _ c _ f (λb o y e=>Ba _ e) d⟩;refine ga (Xj (ga ?_));refine ga (Vp d rfl ?_ q (by refine U (cn _) ?_;exact Sg (by assumption)));have k:=Qc (Yi λx=>x.push fq) d rfl;refine Vp k rfl ?_ (by refine U (cn _) ?_;lia) (by refine U Array.size_pop (U (cn _) ?_);exact Kd (by assumption));refine ta ⟨ak xf _,B _ _ _ ?_ (λb o X e=>?_) ((Qc (Yi λx=>x.pop) k rfl).trans (by simp[Yi];rfl))⟩
 ·exact(gf _ _ l).trans ((gf _ _ l).trans f)
 ·exact(gf _ _ (cq X)).trans ((gf _ _ (cq X)).trans (Ba _ e))
theorem dq.of{c:List wa}(d:c.length=(b - a).toNat)(e:∀(j:Nat)(x:wa),c[j]?=J x->∃t,x=cm (a+(j:Int)*1) t):dq a b c:=⟨d,e⟩
theorem uE(a:Int)(k:Nat):tt a (k+1)=.int a::tt (a+1) k:=by
 unfold tt;exact U tD (U Vb (U Qd (congr (Gc _ (Gc V.int (j5 a))) (fg λi u=>Gc V.int (show a+((i+1:Nat):Int)=a+1+i by lia)))))
theorem tK(k:Nat):∀(c:List wa)(a:Int),c.length=k->(∀(j:Nat)(x:wa),c[j]?=J x->∃t,x=cm (a+(j:Int)*1) t)->ue w W h (tt a k) c:=by
 induction k with
 |zero=>exactλc a d u=>by refine U (sg d) ?_;exact .nil|succ k g=>
  intro c a d f
  induction c using ma with
  |nil=>exact zc d.symm (Zb _)|cons x c=>
   obtain⟨t,rfl⟩:=f 0 x rfl;refine U (uE _ _) (U (show a+((0:Nat):Int)*1=a by lia) ?_);exact .cons (.int _ t) (g c (a+1) (Kh d) λj y q=>by
    obtain⟨t,e⟩:=f (j+1) y q;exact⟨t,by exact U e (U (show a+((j+1:Nat):Int)*1=a+1+(j:Int)*1 by lia) rfl)⟩)
theorem Vy{c:List wa}(q:dq a b c):ue w W h (Jo a b) c:=tK _ c a q.1 q.2
theorem Yt{i:Nat}{g:List V}{o y:wa}(AK:Eg n A)(r:R w X W Q s.heap)(l:Um X L W s.heap)(e:tc Q i=J g)(xo:VR w W s.heap (.ref i) o)(xy:VR w W s.heap (.rng a b) y)
 (ha: -1000<a)(k:a<1000)(p: -1000<b)(c:b<1000)(hl:g.length+(Jo a b).length<4096):
 Qa (bb pg w) A (call (.builtin "list.extend") [o,y]) (PV w X L W s (Q.set i (.list (g++Jo a b))) .none) No s:=by
 refine aa λB=>?_;obtain⟨ad,vs,m,rfl,F,G,q2,S⟩:=r.list e xo;obtain⟨ra,t,u,v',rfl,hr⟩:=xy.wF;have T:(Jo a b).length=(b - a).toNat:=by unfold Jo tt;exact U (ya _) (U Ab rfl)
 have hv:=S.length;obtain⟨mm,hn⟩:=l.ns;refine B (Np (DS Pk.plain PySem.F.entry_list_extend (Pk.check _ _ _ _ _ _ _ _ ⟨_,G,rfl⟩ (PySem.F.args_list_extend_2 _ _) ?_)));refine Da (Al (Rr:=λq C=>∃r,q=.ok (.ret r)/\PV w X L W s (Q.set i (.list (g++Jo a b))) .none r C) AK.hh hr G ha k p c (by lia) λh' tk d c' hk hS D hP=>⟨.none,rfl,?_⟩) (λE C z=>?_) λe C z=>by obtain⟨_,q,_⟩:=z;cases q
 rotate_left
 ·induction E with|done f=>obtain⟨j,q,z⟩:=z;cases q;exact z|again c'=>exact⟨z.1,Oc z.2 λq s2 z2=>by obtain⟨j,f,x⟩:=z2;subst f;exact x⟩
 exact Sj (tk':=tk) r l F hn (by
  refine aa λB=>?_;obtain⟨f,j,q,x,e2⟩:=hn;refine B ?_;exact⟨f,j,q,hk _ _ (cq (l.ne F)) x,e2⟩) (λb x j f e=>hk b x f e) (vs:=vs++d) hS (by refine U Ha ?_;exact vd hl) (S.append (Vy ⟨D,hP⟩))
end
section
variable [N:Av]
variable {w:zb} {T h:qb} {L:Ca} {W:List Ca} {Q X:St} {s:Ea} {v:V} {O:wa} {A:Yb} {n:Nat} {K:Ue} {P:Ch}
inductive aL(s:Ea)(a b:Int)(q:Cr)(s':Ea):Prop
 |mk:∀(h':qb)(tk:Nat)(acc':List wa)(c':Nat),q=.ok (.ret (.ref s.heap.objs.size))->s'={s with heap:=h',toks:=tk}->((∀b o,s.heap.get? b=J o->h'.get? b=J o))->h'.get? s.heap.objs.size=J (listOf acc'.toArray c')->dq a b acc'->aL s a b q s'
theorem bx{prog:Zi}{E:wa->Ea->Prop}{d:List wa->Ea->Prop}{r:Ca}{a b:Int}{t u v:jk}(R:A.handled=Y)(hr:TK s.heap r a b 1 t u v)
 (ha: -1000<a)(z:a<1000)(B: -1000<b)(m:b<1000)
 (G:∀k l e,(∀b o,s.heap.get? b=J o->k.get? b=J o)->dq a b e->d e {s with heap:=k,toks:=l}):
 Qa (bb prog w) A (collect (.ref r)) d E s:=by
 unfold collect;refine ga (qdf (cg entry_proto_collect' (U (Fe PySem.F.plain_proto_collect _) (ga (lj (ta ⟨ak Gx _,cg entry_list_iadd' ?_⟩))))));refine U (Fe Gx _) ?_;have C:=Al (prog:=prog) (w:=w) (A:=A) (s:={s with heap:=s.heap.push {cls:=.type "list",data:=.seq ([]:List wa).toArray}}) (S:=s.heap.objs.size) (c0:=[]) (c:=0) (res:=.ref s.heap.objs.size)
  (Rr:=λ(q:Cr)(D:Ea)=>aL s a b q D)
  R (Ba _ hr) (Oa _ rfl:(s.heap.push {cls:=.type "list",data:=.seq ([]:List wa).toArray}).get? s.heap.objs.size=J (listOf ([]:List wa).toArray 0)) ha z B m (by simp;lia)
  (λk l g F p i f j=>⟨k,l,g,F,rfl,rfl,λb o e=>p b o (ic (qc e)) (Ba _ e),by simpa using i,f,j⟩)
 refine Da C (λo D x=>?_) λe D x=>?_
 ·induction o with
  |done f=>
   obtain⟨k,l,g,F,e,rfl,p,i,j⟩:=x;cases e;exact ga (T2 i (ta (G k l g p j)))
  |again f=>
   refine⟨x.1,Oc x.2 λq I y=>?_⟩;obtain⟨k,l,g,F,rfl,rfl,p,i,j⟩:=y;exact ga (T2 i (ta (G k l g p j)))
 ·obtain⟨_,_,_,_,f,_⟩:=x
  cases f
theorem Zm(r:Ca)(a b:Int)(t u v:jk)(q: -1000<a)(g:a<1000)(i: -1000<b)(e:b<1000):
 Meets (Yj.«tuple.__new__» ⟨[.type "tuple",.ref r],[]⟩)
  (λA R s=>A.handled=Y/\TK s.heap r a b 1 t u v/\∀(f:qb)(j:Nat)(c:List wa),(∀b o,s.heap.get? b=J o->f.get? b=J o)->dq a b c->
   R (.ok (.ret (.ref f.objs.size))) {s with heap:=f.push {cls:=.type "tuple",data:=.seq c.toArray},toks:=j}):=
 .of_wp λm w A R s h=>by
  refine aa λx=>?_;obtain⟨y,o,h⟩:=h;refine x ?_;have p:=sub_tuple_self;have k:=init_tuple_lookup;have z:=madeHere_tuple;have hT:s.TypeIs (.ref r) "range":=⟨_,o,rfl⟩;have l:A.in1.handled=Y:=y
  wp_delta
  refine ga ?_
  wp_delta
  refine ta (Jb rfl (ga (af (by assumption) (Jb rfl (Jb rfl (ga (af (by assumption) (ga (af (by assumption) (Ws rfl (ga ?_)))))))))))
  wp_delta
  refine Ws rfl (ta (ga ?_))
  wp_delta
  refine Jb rfl (Jb rfl (Jb rfl (ta (Ws rfl (ga ?_)))))
  wp_delta
  refine ga ?_
  with_reducible apply Ax hT
  refine ta (Jb rfl (ga ?_))
  with_reducible apply bx l o q g i e
  intro f j c B d;show Qa _ _ (sr c.toArray>>=λv=>ret v) _ _ _
  unfold sr;refine ga (lj ?_ (show c.toArray.size<=sizeLine by have:=d.1;refine U Hb (U zf ?_);lia));exact ta ⟨_,rfl,h f j c B d⟩
theorem Nw{a b:Int}{o:wa}(l:Eg n A)(r:R w T W Q s.heap)(x:VR w W s.heap (.rng a b) o)(m: -1000<a)(f:a<1000)(g: -1000<b)(c:b<1000)(e:Bp (Jo a b) Q=J (v,X)):
 Qa (bb pg w) A (call (.type "tuple") [o]) (PV w T L W s X v) No s:=by
 refine aa λp=>?_;obtain⟨q,t,u,y,rfl,z⟩:=x.wF;refine p ?_;refine qeI PySem.F.called_tuple (by decide) (PySem.F.typeCall_tuple_1 _) (PySem.F.newCall_tuple_1 _) (λd=>PySem.F.args_object_init_2 d _) PySem.F.entry_tuple_new
  (Zm q a b t u y m f g c) ⟨l.hh,z,λC B i j d=>⟨⟨_,Oa _ rfl,rfl⟩,?_⟩⟩
 exact Hy (vs:=i) (k:=0) (tk':=B) r (λb x e=>Ba _ (j b x e)) (xk j (Fb _)) (Oa _ rfl) (Vy d) e
end
section
variable {e:Expr}
structure Gl where
 glob:Bb->Option wa
 sup:Option Nat
structure Sc where
 kinds:List (Bb×xd)
 sl:List Bb
noncomputable def Am(x:Bb):Bool:= !(x==("__debug__":Bb))&& !(x==("__classdict__":Bb))
noncomputable def tJ:xd->Bool
 |.local|.cell|.free=>Z|_=>ua
def Us(f:Sc)(x:Bb):Option Nat:=(f.kinds.lookup x).bind λk=>(Ge (tJ k&&Am x)).bind λu=>xc f.sl x
noncomputable def Vv(z:Expr):Option Bb:=match z with|.Name x u=>J x|_=>Y
theorem Ll{x:Bb}(h:Vv e=J x):∃p,e=.Name x p:=by
 induction e using Expr.casesOn<;>first|exact ja h|exact⟨_,by exact U (ba h) rfl⟩
noncomputable def AF(z:Expr):Option (List Expr):=match z with|.Tuple f u y=>J f|_=>Y
theorem Mw{x:List Expr}(h:AF e=J x):∃k p,e=.Tuple x k p:=by
 induction e using Expr.casesOn<;>first|exact ja h|exact⟨_,_,by exact U (ba h) rfl⟩
noncomputable def oz(z:Expr):Option K3:=match z with|.Constant c u y=>J c|_=>Y
theorem lv{c:K3}(h:oz e=J c):∃k p,e=.Constant c k p:=by
 induction e using Expr.casesOn<;>first|exact ja h|exact⟨_,_,by exact U (ba h) rfl⟩
noncomputable def F9(z:K3):Option Bb:=match z with|.str a=>J a|_=>Y
noncomputable def YY(z:K3):Option Int:=match z with|.int a=>J a|_=>Y
theorem kQ{c:K3}{a:Bb}(h:F9 c=J a):c=.str a:=by
 induction c<;>first|exact ja h|exact Ed (ba h) rfl
theorem qN{c:K3}{a:Int}(h:YY c=J a):c=.int a:=by
 induction c<;>first|exact ja h|exact Ed (ba h) rfl
noncomputable def lF(z:Expr):Option (Option Expr×Option Expr×Option Expr):=match z with|.Slice a b c u=>J (a,b,c)|_=>Y
theorem mF{a b c:Option Expr}(h:lF e=J (a,b,c)):∃p,e=.Slice a b c p:=by
 induction e using Expr.casesOn<;>first|exact ja h|cases ba h;exact⟨_,rfl⟩
noncomputable def Pl:Expr->Bool
 |.Name .. |.Attribute .. |.Subscript .. =>Z|.Call (.Name ..) (u::y) z j=>Z|_=>ua
def f8(f:Sc)(e:Expr):Option Nat:=(Vv e).bind (Us f)
noncomputable def Mz(f:Sc)(z:List Expr):Option (List Nat):=match z with|[]=>J []|e::g=>(f8 f e).bind λi=>(Mz f g).map λx=>i::x
def Xk(f:Sc)(e:Expr):Option CT:=match Vv e with|some x=>(Us f x).map CT.x|none=>(AF e).bind λg=>(Mz f g).map CT.t
noncomputable def Vt(lo:Nat)(z:CT):Bool:=match z with|.x i=>decide (lo<=i)|.t is=>is.all λi=>decide (lo<=i)
noncomputable def Et(f g:List (Bb×xd)):List (Bb×xd):=
 f.map λ(n,k)=>if(k== .free&&g.lookup n==J .cell)then(n,.cell)else(n,k)
noncomputable def ah(f:List (Bb×xd)):List Bb:=(f.filter λx=>x.2== .local||x.2== .cell).map λx=>x.1
def eM(g:Sc)(f:Scope):Option Sc:=
 if f.kind== .function&& !f.isGenerator&& !f.isCoroutine&&f.names.all (λx=>(x.2== .local)==(f.names.lookup x.1==J .local))
  &&f.names.all (λx=> !(x.2== .free)||(g.kinds.lookup x.1==J .cell||g.kinds.lookup x.1==J .free))
  &&f.names.all (λx=>f.names.lookup x.1==J x.2)
  &&f.names.all (λx=> !(x.2== .globalExplicit))&&decide (f.names.map λx=>x.1).Nodup
 then J ⟨Et f.names g.kinds,g.sl++ah f.names⟩else Y
def j1(k:Option Expr):Option Bb:=(k.bind oz).bind F9
theorem fI{k:Option Expr}{a:Bb}(h:j1 k=J a):∃d p,k=J (.Constant (.str a) d p):=by
 refine aa λf=>(Wg h λc g i=>?_);refine Wg g λe z j=>?_;subst z;obtain⟨d,p,rfl⟩:=lv j;exact f (⟨d,p,by exact U (kQ i) rfl⟩)
def xp(e:Expr):Bool:=(Vv e).isSome
theorem Ur(h:xp e=Z):∃x p,e=.Name x p:=by
 obtain⟨x,h⟩:=Na.mp h;exact⟨x,Ll h⟩
def ym(e:Expr):Bool:=(lF e).isSome
def qbp(z:Option Expr×Option Expr×Option Expr):Option Int:=match z with|(Y,J e,Y)=>(oz e).bind YY|_=>Y
def tY(e:Expr):Option Int:=(lF e).bind qbp
theorem JS{k:Int}(h:tY e=J k):∃d p q,e=.Slice Y (J (.Constant (.int k) d p)) Y q:=by
 refine aa λf=>?_;refine Wg h λz i g=>?_;obtain⟨a,b,c⟩:=z;obtain⟨q,rfl⟩:=mF i;refine f ?_;clear f
 induction a with
 |some u=>exact ja g|none=>induction b with
  |none=>exact ja g|some b=>induction c with
   |some u=>exact ja g|none=>
    refine aa λf=>(Wg (show(oz b).bind YY=J k from g) λc j l=>?_);obtain⟨d,p,rfl⟩:=lv j;refine f ?_;clear f;exact⟨d,p,q,by exact U (qN l) rfl⟩
noncomputable def kt{W V:Type}(a:Option W)(f:W->Option V):Option V:=match a with|some x=>f x|none=>Y
noncomputable def Ir{W V T:Type}(a:Option W)(b:Option V)(f:W->V->Option T):Option T:=match a with
 |some x=>(match b with|some y=>f x y|none=>Y)
 |none=>Y
noncomputable def YF{W V T S:Type}(a:Option W)(b:Option V)(c:Option T)(f:W->V->T->Option S):Option S:=match a with
 |some x=>(match b with
  |some y=>(match c with|some z=>f x y z|none=>Y)
  |none=>Y)
 |none=>Y
def qbh{W V T S R:Type}(a:Option W)(b:Option V)(c:Option T)(d:Option S)(f:W->V->T->S->Option R):Option R:=match a with|some x=>YF b c d (f x)|none=>Y
section
variable {W V T S R:Type} {a:Option W} {b:Option V} {c:Option T} {d:Option S} {P:Prop}
theorem De{f:W->Option V}{r:V}(h:kt a f=J r)(k:∀x,a=J x->f x=J r->P):P:=by
 induction a with
 |none=>exact ja h|some x=>exact k x rfl h
theorem qd{f:W->V->Option T}{r:T}(h:Ir a b f=J r)(k:∀x y,a=J x->b=J y->f x y=J r->P):P:=by
 induction a with
 |none=>exact ja h|some x=>induction b with|none=>exact ja h|some y=>exact k x y rfl rfl h
theorem Ji{f:W->V->T->Option S}{r:S}(h:YF a b c f=J r)(k:∀x y z,a=J x->b=J y->c=J z->f x y z=J r->P):P:=by
 induction a with
 |none=>exact ja h|some x=>induction b with|none=>exact ja h|some y=>induction c with|none=>exact ja h|some z=>exact k x y z rfl rfl rfl h
theorem Vu{f:W->V->T->S->Option R}{r:R}(h:qbh a b c d f=J r)(k:∀x y z u,a=J x->b=J y->c=J z->d=J u->f x y z u=J r->P):P:=by
 induction a with
 |none=>exact ja h|some x=>exact Ji h λy z u=>k x y z u rfl
theorem ae{c:Bool}{a:Option W}{r:W}(h:(if c then a else Y)=J r)(k:c=Z->a=J r->P):P:=by
 induction c with
 |false=>exact ja h|true=>exact k rfl h
theorem Dj{c:Bool}{a:Option W}{r:W}(h:(if c then Y else a)=J r)(k:c=ua->a=J r->P):P:=by
 induction c with
 |false=>exact k rfl h|true=>exact ja h
end
mutual
noncomputable def Fh(g:Gl)(q:Nat)(d:Sc)(m:Expr):Option X:=match q,d,m with
 |0,u,j=>Y|n+1,h,e=>match e with
  |.Name x u=>if h.kinds.lookup x==J .globalImplicit then(if Am x then kt (g.glob x) λf=>J (.k f)else Y)else kt (Us h x) (λi=>J (.x i))|.Constant c u j=>match c with|.none=>J .none|.bool b=>J (.bool b)|.int i=>J (.int i)|.str s=>J (.str s)|_=>Y
  |.Attribute o a u=>if Pl o then kt (Fh g n h o) λx=>J (.attr x a)else Y|.Subscript o i u=>if ym i then kt (tY i) (λk=>if xp o then kt (Fh g n h o) λx=>J (.cut x k)else Y)
   else Ir (Fh g n h o) (Fh g n h i) (λa b=>J (.sub a b))
  |.BinOp a i b u=>Ir (Fh g n h a) (Fh g n h b) (λx y=>J (.bin i x y))|.UnaryOp i a u=>(match i with|.USub=>kt (Fh g n h a) (λx=>J (.neg x))|_=>Y)|.Compare l p s u=>(match p with
   |[i]=>(match s with|[r]=>if Vh i r then Y else Ir (Fh g n h l) (Fh g n h r) (λx y=>J (.cmp i x y))|_=>Y)
   |_=>Y)
  |.IfExp t a b u=>YF (vV g n h t) (Fh g n h a) (Fh g n h b) (λx y z=>J (.ite x y z))|.Tuple i u j=>kt (wx g n h i) (λl=>J (.t l))|.List i u=>kt (wx g n h i) (λl=>J (.list l))|.Dict r i u=>(match r,i with|[],[]=>J (.dict [] [])|[k],[v]=>kt k (λk=>if xp k then Ir (Fh g n h k) (Fh g n h v) λx y=>J (.dict [x] [y])else Y)|[k,p],[v,s]=>Ir (j1 k) (j1 p) λa b=>Ir (Fh g n h v) (Fh g n h s) λy z=>if a=b then Y else J (.dict [.str a,.str b] [y,z])|u,j=>Y)
  |.ListComp s k i u=>(match k with
   |[]=>Y|p::rest=>if p.is_async==0 then Ir (Fh g n h p.iter) (eM h i) (λv j=>
    qbh (Xk j p.target) (yQ g n j p.ifs) (xV g n h.sl.length j rest) (Fh g n j s) λt w y x=>if Vt h.sl.length t then J (.comp (ah i.names).length v t w y x)else Y)else Y)
  |.Call f i r j=>(match r with
   |[]=>(match f with|.Name x p=>Ir (Fh g n h (.Name x p)) (wx g n h i) (λf l=>(match f with|.k f=>J (.call (.k f) l)|_=>Y))|.Attribute o a k=>if Pl o&&(k.endLine==j.line)&&decide (i.length<29)then Ir (Fh g n h o) (wx g n h i) λx l=>J (.meth x a l)else Y|_=>Y)
   |_=>Y)
  |_=>Y
noncomputable def wx(g:Gl)(z:Nat)(j:Sc)(q:List Expr):Option (List X):=match z,j,q with|0,u,y=>Y|u+1,y,[]=>J []|n+1,f,e::h=>Ir (Fh g n f e) (wx g n f h) λx i=>J (x::i)
noncomputable def vV(g:Gl)(q:Nat)(d:Sc)(t:Expr):Option B:=match q,d,t with
 |0,u,j=>Y|n+1,h,e=>match e with
  |.UnaryOp f x u=>(match f with|.Not=>kt (vV g n h x) (λb=>J (.not b))|_=>Y)|.BoolOp f i u=>(match i with|[a,b]=>Ir (vV g n h a) (vV g n h b) (λx y=>(match f with|.And=>J (.and x y)|.Or=>J (.or x y)))|_=>Y)
  |.Compare l i k u=>(match i with
   |[f]=>(match k with|[r]=>if Vh f r then Y else Ir (Fh g n h l) (Fh g n h r) (λx y=>J (.wK (.cmp f x y)))|_=>Y)
   |[j,f]=>(match k with|[m,r]=>if Vh f r then Y else YF (Fh g n h l) (Fh g n h m) (Fh g n h r) (λx y z=>J (.wK (.cmp2 j f x y z)))|_=>Y)
   |_=>Y)
  |.Name x p=>kt (Fh g n h (.Name x p)) (λx=>J (.wK x))|.Attribute o a p=>kt (Fh g n h (.Attribute o a p)) (λx=>J (.wK x))|.Subscript o i p=>kt (Fh g n h (.Subscript o i p)) (λx=>J (.wK x))|.Call f as i p=>kt (Fh g n h (.Call f as i p)) (λx=>J (.wK x))|_=>Y
noncomputable def yQ(g:Gl)(z:Nat)(j:Sc)(q:List Expr):Option (List B):=match z,j,q with|0,u,y=>Y|u+1,y,[]=>J []|n+1,f,e::h=>Ir (vV g n f e) (yQ g n f h) λx i=>J (x::i)
noncomputable def xV(g:Gl)(j:Nat)(q:Nat)(d:Sc)(f:List gd):Option (List G):=match j,q,d,f with|0,u,y,z=>Y|u+1,y,z,[]=>J []|n+1,lo,h,i::k=>if i.is_async==0 then qbh (Fh g n h i.iter) (Xk h i.target) (yQ g n h i.ifs) (xV g n lo h k) λl t m r=>if Vt lo t then J (.mk l t m::r)else Y else Y
end
end
section
variable {o a b e:Expr} {W:Om} {F G:St->Option (V×St)} {E:xr} {D:List Expr} {s:Ea} {I:List Ca} {N:Yl wa} {L:Ca}
variable [z:Av]
variable {w:zb} {S:qb} {A:Yb} {X:zj} {Q:Ca->Prop} {O:List Bb} {lo:Nat} {P:Me} {K:Ue} {C:Ch} {n:Nat}
theorem Uu{a:Bb}(h:Pl o=Z)(N:Yl wa):attributeBase o a X N=N:=by
 induction o using Expr.casesOn with
 |Call f c d W=>
  induction f using Expr.casesOn<;>try (exact zc h ia)
  induction c using ma with
  |nil=>exact zc h ia|cons u y=>rfl
 |_=>first|exact zc h ia|rfl
theorem zL{a:Bb}(B:Jk S K C)(c:Pl o=Z)(d:uc w S A X Q O lo P (yc o X) F):
 uc w S A X Q O lo P (yc (.Attribute o a W) X) (λf=>(F f).bind λp=>(Ni C p.1 a p.2).map λv=>(v,p.2)):=
 Hs (t:=λv=>getAttr v a Z) d (λu u u u u r u x=>Ga.map λu e=>mE B r x e) λu u h=>Attribute_any_ h (by exact U (arm_eval_Attribute _ _ _ _) (U (Uu c _) rfl))
theorem lQ{i:Expr}(c:∀a b,pV i ua a b=AD [a,b] (A4 a b))(d:uc w S A X Q O lo P (yc o X) F)(f:uc w S A X Q O lo P (yc i X) G):
 uc w S A X Q O lo P (yc (.Subscript o i W) X) (λg=>(F g).bind λp=>(G p.2).bind λq=>(cD p.1 q.1 q.2).map λv=>(v,q.2)):=
 Qw (t:=λa b=>qei o i a b) d f (λu u u u u u u u r u g h=>Ga.map λu e=>B1 r g h e (c _ _)) λu u h=>Subscript_ h
theorem DL{E:He}(d:Eg n A)(f:uc w S A X Q O lo P (yc a X) F)(g:uc w S A X Q O lo P (yc b X) G):
 uc w S A X Q O lo P (yc (.BinOp a E b W) X) (λc=>(F c).bind λp=>(G p.2).bind λq=>jS E p.1 q.1 q.2):=
 Qw (t:=λa b=>gm E a b) f g (λu u u u u u u u r c h i u u e=>nY d r c.lok h i e) λu u h=>wpAny_BinOp h
theorem gO(c:uc w S A X Q O lo P (yc a X) F):
 uc w S A X Q O lo P (yc (.UnaryOp .USub a W) X) (λd=>(F d).bind λp=>(qh p.1).map λi=>(.int (-i),p.2)):=
 Hs (t:=λv=>unaryOp .USub v) c (λu u u u u r u x=>Ga.map λu e=>by
  obtain⟨_,rfl⟩:=x.wZ e;exact qai (PV.same r (.int _ _))) λu u h=>UnaryOp_ h
theorem ls{r:Expr}{t:Yl wa}(h:Vh E r=ua):qct E r t=t:=by
 unfold qct;exact U h rfl
theorem bM(c:S.get? sysModules≠Y)(d:Eg n A)(f:Vh E b=ua)(g:uc w S A X Q O lo P (yc a X) F)(i:uc w S A X Q O lo P (yc b X) G):
 uc w S A X Q O lo P (yc (.Compare a [E] [b] W) X) (λh=>(F h).bind λp=>(G p.2).bind λq=>(lq E p.1 q.1 q.2).map λv=>(.bool v,q.2)):=
 Qw (t:=λa b=>dg E a b) g i (λu u u u u u u u r u h j=>Ga.map λu e=>VD c d r h j e) λu u h=>by
  exact U (eval_Compare1 _ _ _ _ _) (U (ls f) (ga (Da h (λa l j=>ga (Kb (Da j (λb m k=>ga (lc (qaS k))) λu u x=>x))) λu u x=>x)))
theorem jH(h:∀x p,e≠ .Starred x p)(rest:List Expr):starEach (e::rest) X=(ua,yc e X)::starEach rest X:=by
 induction e using Expr.casesOn<;>first|rfl|exact zc rfl (h _ _)
theorem O2:Vi w S A X Q O lo P (kj (qg W (starEach [] X))) (λc=>J ([],c)):=λu u u r u=>Ga.ret (wpAny_items_nil (PR.id r .nil))
theorem OV{G:St->Option (List V×St)}(h:∀x p,e≠ .Starred x p)(i:uc w S A X Q O lo P (yc e X) F)(j:Vi w S A X Q O lo P (kj (qg W (starEach D X))) G):
 Vi w S A X Q O lo P (kj (qg W (starEach (e::D) X))) (λd=>(F d).bind λp=>(G p.2).map λq=>(p.1::q.1,q.2)):=λI d s r c v k l=>ab l λp m t=>qe t λq y B=>wpAny_items_cons (Da (i I d s r c _ _ m) (λa s1 R=>by
 obtain⟨f,T,k1,r1,x1⟩:=R;refine Da (j f _ _ r1 (c.kx r k1) _ _ y) (λb s2 p2=>?_) λu u x=>x;obtain⟨g,t2,k2,r2,x2⟩:=p2;obtain⟨rfl,rfl⟩:=Ta B;exact⟨g,T.trans t2,k1.trans k2,r2,.cons (k2.vr x1) x2⟩) λu u x=>x) (jH h D)
theorem CQ{k:Nat}{G:St->Option (List V×St)}(c:Vi w S A X Q O lo P (kj (qg W (starEach D X))) G):
 uc w S A X Q O lo P (yc (.Tuple D k W) X) (λd=>(G d).bind λp=>Bp p.1 p.2):=
 Hs (t:=λd=>qcz d) c (λu u u u u r u x u u e=>eU r x e) λu u h=>by
  exact U (arm_eval_Tuple _ _ _ _) (ga (lc (ga h)))
theorem zJ{G:St->Option (List V×St)}(c:Vi w S A X Q O lo P (kj (qg W (starEach D X))) G):
 uc w S A X Q O lo P (yc (.List D W) X) (λd=>(G d).bind λp=>gj p.1 p.2):=
 Hs (t:=λd=>L4 d) c (λu u u u u r u x u u e=>cU r x e) λu u h=>by
  exact U (arm_eval_List _ _ _) (ga (lc (ga h)))
theorem Vn{b:Bool}{c:U3}{d:Bool->Ea->Prop}{f:wa->Ea->Prop}(h:d b s):Qa c A (nA (.bool b)) d f s:=λu u u=>h
theorem VR.bool_of{h:qb}{v:V}{c:wa}(x:VR w I h v c){i:Bool}(e:gp v=J i):c=.bool i:=(dv e▸x:VR w I h (.bool i) c).wF
theorem KI(c:isTrue e X (yc e X)=(do let v<-yc e X;bk e.pos;dj [v] (nA v)))(d:uc w S A X Q O lo P (yc e X) F):
 Zg w S A X Q O lo P (isTrue e X (yc e X)) (λf=>(F f).bind λp=>(gp p.1).map λb=>(b,p.2)):=
 Hs (t:=λv=>bk e.pos>>=λu=>dj [v] (nA v)) d (λu u u u u r u x=>Ga.map λu e=>by
  refine U (x.bool_of e) ?_;exact ga (lc (Kb (Vn (PB.wU r))))) λu u h=>by
  exact U c (ga h)
theorem nO{F:St->Option (Bool×St)}(g:Zg w S A X Q O lo P (isTrue e X (yc e X)) F):
 Zg w S A X Q O lo P (isTrue (.UnaryOp .Not e W) X N) (λd=>(F d).map λp=>(!p.1,p.2)):=λI d s r c=>Ga.map λp e=>isTrue_not (Da (g I d s r c p.1 p.2 e) (λa k h=>by
 obtain⟨f,i,k1,j,rfl⟩:=h;exact⟨f,i,k1,j,rfl⟩) λu u x=>x)
theorem PB.be{f:Ea}{d:St}{b c:Bool}(p:PB w S L I s d b c f):c=b:=by obtain⟨_,_,_,_,e⟩:=p;exact e
theorem tL{F G:St->Option (Bool×St)}(l:Zg w S A X Q O lo P (isTrue a X (yc a X)) F)(m:Zg w S A X Q O lo P (isTrue b X (yc b X)) G):
 Zg w S A X Q O lo P (isTrue (.BoolOp .And [a,b] W) X N) (λg=>(F g).bind λp=>ln p.1 (G p.2) (J (ua,p.2))):=λI g s r c v h e=>ab e λp q f=>isTrue_and (Da (l I g s r c p.1 p.2 q) (λa y d=>by
 induction a with
 |false=>
  rw[<-PB.be d]at f d;obtain⟨rfl,rfl⟩:=Ta (ba f);exact d
 |true=>
  rw[<-PB.be d]at f;obtain⟨i,j,k1,t,_⟩:=d;exact isTrue_and (Da (m i p.2 _ t (c.kx r k1) v h f) (λb u k=>by
   induction b with
   |false=>exact PR.after j k1 k|true=>exact isTrue_and_nil (PR.after j k1 k)) λu u x=>x)) λu u x=>x)
theorem pU{F G:St->Option (Bool×St)}(l:Zg w S A X Q O lo P (isTrue a X (yc a X)) F)(m:Zg w S A X Q O lo P (isTrue b X (yc b X)) G):
 Zg w S A X Q O lo P (isTrue (.BoolOp .Or [a,b] W) X N) (λg=>(F g).bind λp=>ln p.1 (J (Z,p.2)) (G p.2)):=λI g s r c v h e=>ab e λp q f=>isTrue_or (Da (l I g s r c p.1 p.2 q) (λa y d=>by
 induction a with
 |true=>
  rw[<-PB.be d]at f d;obtain⟨rfl,rfl⟩:=Ta (ba f);exact d
 |false=>
  rw[<-PB.be d]at f;obtain⟨i,j,k1,t,_⟩:=d;exact isTrue_or (Da (m i p.2 _ t (c.kx r k1) v h f) (λb u k=>by
   induction b with
   |true=>exact PR.after j k1 k|false=>exact isTrue_or_nil (PR.after j k1 k)) λu u x=>x)) λu u x=>x)
theorem vN{t:Expr}{T:St->Option (Bool×St)}(i:Zg w S A X Q O lo P (isTrue t X (yc t X)) T)(j:uc w S A X Q O lo P (yc a X) F)(k:uc w S A X Q O lo P (yc b X) G):
 uc w S A X Q O lo P (yc (.IfExp t a b W) X) (λf=>(T f).bind λp=>ln p.1 (F p.2) (G p.2)):=
 Hs (t:=λc=>if c then yc a X else yc b X) i (λc g I f s r d x=>Ga.ifB (λh=>by refine U (show c=Z from(x:c=g).trans h) ?_;exact j I f s r d) λh=>by refine U (show c=ua from(x:c=g).trans h) ?_;exact k I f s r d) λu u h=>by
  exact U (arm_eval_IfExp _ _ _ _ _) (ga h)
theorem XA{a b:wa}{z g:V}{d:St}(h:S.get? sysModules≠Y)(i:Eg n A)(r:R w S I d s.heap)(j:VR w I s.heap z a)(k:VR w I s.heap g b):
 Ga RB w S A L I s (do bk W;let c<-AD [a,b] (dg E a b);dj [c] (nA c)) ((lq E z g d).map λr=>(r,d)):=Ga.map λt e=>ga (lc (ga (qaS (Da (VD h i r j k e) (λl v m=>by
 obtain⟨f,p,k5,q,u⟩:=m;rw[(u.wF:l=.bool t)];exact Kb (Vn ⟨f,p,k5,q,rfl⟩)) λu u x=>x))))
theorem cM(d:S.get? sysModules≠Y)(f:Eg n A)(g:Vh E b=ua)(i:uc w S A X Q O lo P (yc a X) F)(j:uc w S A X Q O lo P (yc b X) G):
 Zg w S A X Q O lo P (isTrue (.Compare a [E] [b] W) X N) (λh=>(F h).bind λp=>(G p.2).bind λq=>(lq E p.1 q.1 q.2).map λr=>(r,q.2)):=
 Qw (t:=λa b=>do bk W;let c<-AD [a,b] (dg E a b);dj [c] (nA c)) i j (λu u u u u u u u r u h k=>XA d f r h k) λu u h=>by
  exact U (isTrue_Compare1 _ _ _ _ _ _) (U (ls g) (ga (Da h (λa l k=>ga (Kb k)) λu u x=>x)))
theorem aJ{c:Expr}{j i:xr}{d:St->Option (V×St)}(R:S.get? sysModules≠Y)(AK:Eg n A)(hk:Vh i c=ua)
 (hf:uc w S A X Q O lo P (yc a X) F)(hg:uc w S A X Q O lo P (yc b X) G)(hh:uc w S A X Q O lo P (yc c X) d):
 Zg w S A X Q O lo P (isTrue (.Compare a [j,i] [b,c] W) X N) (λB=>(F B).bind λp=>(G p.2).bind λq=>(lq j p.1 q.1 q.2).bind λr=>ln r ((d q.2).bind λu=>(lq i q.1 u.1 u.2).map λr=>(r,u.2)) (J (ua,q.2))):=
 Qw (t:=λa b=>do bk W;let x<-dj [a,b] (dg j a b);qfa [a,b] [x];if<-dj [x,b] (nA x)then testChain W b [i] [yc c X]else pure ua) hf hg (λa b z bv I B s τ r f xa q=>Ga.opt λt1 e1 v p e=>ga (lc (ga (Kb (Da (VD (L:=X.locals) R AK r xa q e1) (λc' s3 p3=>by
  refine aa λnq=>?_;obtain⟨l,t3,m,r3,x3⟩:=p3;refine nq ?_;clear nq;rw[(x3.wF:c'=.bool t1)];refine ga (uK (ga (Kb (Vn ?_))))
  induction t1 with
  |false=>obtain⟨rfl,rfl⟩:=Ta (ba e);exact ta ⟨l,t3,m,r3,rfl⟩|true=>
   exact Da (((hh l B s3 r3 (f.kx r m)).bind (T:=testChain W b [i] [yc c X]) (k:=λu=>(lq i bv u.1 u.2).map λr=>(r,u.2)) (t:=λc=>do bk W;let x<-AD [b,c] (dg i b c);dj [x] (nA x)) (λc cv g s4 h u y x4=>XA R AK y (u.vr (m.vr q)) x4) λg h=>ga (Kb h)) v p e) (λy y=>PR.after t3 m) λy y x=>x) λy y x=>x))))) λy y h=>by
  exact U (arm_isTrue_Compare _ _ _ _ _ _) (U (show markedEach [j,i] [b,c] (evalEach [b,c] X)=[yc b X,yc c X]from Gc (λx=>[yc b X,x]) (ls hk)) (ga (Da h (λa l g=>ga (Kb g)) λy y x=>x)))
end
section
variable {a:Ca} {r:U3} {f:wa} {m:Lm}
variable [B:Av]
section
variable {w:zb} {S h C:qb} {T:List Ca} {Q:St} {L:Ca}
theorem R.add(c:R w S T Q h){o:O}(ha:a∉T)(X:S.get? a=Y)(ho:OR w (T++[a]) h o a):R w S (T++[a]) (Q++[o]) h:=by
 refine⟨by simp[c.len],?_,?_,c.avl,c.wK,λj p b l P=>?_⟩
 ·exact U (propext di) (⟨c.nodup,by simp,λx k d e=>by rw[Ra]at e;subst e;exactλq=>ha (q▸k)⟩)
 ·intro b d
  refine aa λk=>?_;rcases Xb.mp d with q|q
  ·refine k ?_
   clear k;exact c.fresh b q
  ·refine k ?_
   clear k;rw[Ra]at q;subst q;exact X
 ·by_cases q:j<Q.length
  ·rw[Xa q]at l
   rw[Xa (by refine U c.len ?_;exact q)]at P;exact(c.obj j p b l P).mono (Hc _ _) (λb x e u=>e) λx e=>e
  ·rw[La (og q)]at l
   rw[La (by refine U c.len ?_;exact og q),c.len]at P;refine aa λk=>?_
   induction b:j - Q.length using Sa with
   |zero=>refine k ?_;clear k;rw[b]at l P;simp at l P;subst l P;exact ho|succ d=>refine k ?_;clear k;rw[b]at l;simp at l
theorem KX.add{c:List Ca}(k:KX L T h C c)(d:h.get? a=Y):KX L T h C (c++[a]):=
 ⟨⟨k.pre.trans (Hc _ _),λb S=>by
  rcases Xb.mp S with q|q
  ·exact k.fresh b q
  ·rw[Ra]at q;subst q;exact .inr d,k.keep,k.imm,k.live⟩,k.ns⟩
theorem Rd(b:R w S T Q h)(c:h.get? a=Y):S.get? a=Y:=by
 induction e:S.get? a with
 |none=>rfl|some x=>have:=b.wK a x e;rw[c]at this;exact ja this
theorem Hf(b:R w S T Q h)(d:h.get? a=Y):a∉T:=λq=>by obtain⟨x,c,_⟩:=b.live q;rw[d]at c;exact ja c
end
def Gi(w:zb)(S:qb)(D:Nat->List V->St->Option (V×St))(n:Nat):Prop:=
 ∀(A:Yb),Eg n A->∀f N W T Q s v G L,R w S T Q s.heap->L∉T->ue w T s.heap N W->D f N Q=J (v,G)->
  dh (bb pg w) A (.call (.ref f) ⟨W,[]⟩) (λq c=>∃b,q=.ok (.ret b)/\PV w S L T s G v b c) s
noncomputable def AB(K:Ue)(f:wa):Bool:=match f with|.ref u=>keepIn K f|.builtin u=>Z|.type u=>Z|_=>ua
structure Zp(S:qb)(K:Ue)(E:Ch):Prop where
 meth:∀c nm f,E.meth c nm=J f->Tk K (.ref c) "__getattribute__"=J (J (.builtin "object.__getattribute__"))/\Tk K (.ref c) "__getattr__"=J Y/\Tk K (.ref c) nm=J (J (.ref f))/\HQ K (.ref f)=J (.type "function")/\keepIn K (.ref f)=Z
 init:∀c f,E.init c=J f->makesIn K c=Z/\Tk K (.ref c) "__init__"=J (J (.ref f))/\HQ K (.ref f)=J (.type "function")
structure Xy(S:qb)(K:Ue)(g:Gl):Prop where
 glob:∀x v,g.glob x=J v->AB K v=Z/\∃m,S.Ns mainGlobals m/\(m x=J v\/(m x=Y/\∃mb,S.Ns ip mb/\mb x=J v))
variable {w:zb} {S:qb} {A:Yb} {F:zj} {z:Ca->Prop} {t:List Bb} {lo:Nat} {y:Me} {K:Ue} {E:Ch} {n:Nat} {g:Gl} {T:List Ca} {Q G:St} {s:Ea} {v:V} {L:Ca} {D:Nat->List V->St->Option (V×St)}
theorem Gm:{b:List Expr}->(∀e∈b,∀x p,e≠jd x p)->starEach b F=b.map λe=>(ua,yc e F):=by
 intro b
 induction b with
 |nil=>
  rintro _;exact rfl
 |cons e b c=>
  rintro h;refine U (jH (h e sa) _) (U (c λe d=>h e (oa _ d)) ?_);rfl
theorem vt(h:AB K f=Z)(d:qb)(X:K.In d):∃k,(k=Keeper.frame\/k=Keeper.machine\/k=Keeper.boundFrame)/\Looks r d (keeperOf f) k:=by
 induction f with
 |ref a=>exact keeps_K (f:=.ref a) h d X|builtin i=>exact⟨.machine,.inr (.inl rfl),λA b c s u q=>ta q⟩|type i=>exact⟨.machine,.inr (.inl rfl),λA b c s u q=>ta q⟩|_=>exact zc h ia
theorem kq{b:wa->Ea->Prop}{c:wa->Ea->Prop}{d:Om}{first:List wa}{j:List Expr}(l:AB K f=Z)(q:∀e∈j,∀x p,e≠jd x p)
 (h:Qa r A (kj (qg d (starEach j F))) (λN k=>K.In k.heap/\Qa r A (call f (first++N)) c b k) b s):Qa r A (callWith d f first (qg d (starEach j F)) []) c b s:=by
 have S:∀j:List Expr,qg d (j.map λe=>(ua,yc e F))=j.map λe=>(ua,yc e F):=λj=>by
  unfold qg;refine U Qd ?_;rfl
 rw[Gm q,S]at h|-
 induction j using ma with
 |nil=>
  refine tS (P:=K.In) rfl (vt l) ?_;unfold evalArgs;refine ga (Da h (λN k p=>ga (ta ?_)) λu u x=>x);exact Kb (ga (ta (ga (ta (ta p)))))
 |cons e j=>
  refine tS (P:=K.In) ?_ (vt l) ?_
  ·simp
  ·exact qbw h
structure Ij(w:zb)(S:qb):Prop where
 len:∀{n A L T Q s I o},Eg n A->R w S T Q s.heap->VR w T s.heap (.iset I) o->Qa (bb pg w) A (call (.builtin "len") [o]) (PV w S L T s Q (.int (Ig I).length)) No s
 sorted:∀{n A L T Q s I o v G},Eg n A->R w S T Q s.heap->Um S L T s.heap->VR w T s.heap (.iset I) o->gj ((Ig I).map V.int) Q=J (v,G)->Qa (bb pg w) A (call (.builtin "sorted") [o]) (PV w S L T s G v) No s
 ofTup:∀{n A L T Q s I is o},Eg n A->R w S T Q s.heap->VR w T s.heap (.t I) o->ki I=J is->is.all (λi=>decide (0<=i)&&decide (i<=2))=Z->Qa (bb pg w) A (call (.type "set") [o]) (PV w S L T s Q (.iset is)) No s
 ofList:∀{n A L T Q s i I is o},Eg n A->R w S T Q s.heap->VR w T s.heap (.ref i) o->tc Q i=J I->ki I=J is->is.all (λi=>decide (0<=i)&&decide (i<=2))=Z->Qa (bb pg w) A (call (.type "set") [o]) (PV w S L T s Q (.iset is)) No s
noncomputable def B6(b:Bi):wa:=match b with|.len=>.builtin "len"|.max=>.builtin "max"|.min=>.builtin "min"|.sum=>.builtin "sum"|.sorted=>.builtin "sorted"|.range=>.type "range"|.tuple=>.type "tuple"|.list=>.type "list"|.set=>.type "set"
theorem xN{d:Type}{c:Prop} [Decidable c]{a b:d}{x:Option d}(h:(if c then J a else x)=J b):(c/\a=b)\/x=J b:=by
 by_cases k:c
 ·rw[Dd k]at h;exact .inl ⟨k,ba h⟩
 ·rw[fe k]at h;exact .inr h
theorem CL{b:Bi}(h:OD f=J b):f=B6 b:=by
 induction f with
 |builtin n=>
  repeat (rcases xN h with⟨rfl,rfl⟩|h;exact rfl)
  exact ja h
 |type n=>
  repeat (rcases xN h with⟨rfl,rfl⟩|h;exact rfl)
  exact ja h
 |_=>exact ja h
theorem ue.one_of{h:qb}{N:List V}{W:List wa}(x:ue w T h N W){u:V}(e:Mine.Internal.one N=J u):∃o,W=[o]/\VR w T h u o:=by
 rw[nH e]at x;obtain⟨o,c,rfl,a,b⟩:=x.wF;exact⟨o,Gc _ b.wF,a⟩
theorem ue.two_of{h:qb}{N:List V}{W:List wa}(x:ue w T h N W){u:V×V}(e:two N=J u):∃o p,W=[o,p]/\VR w T h u.1 o/\VR w T h u.2 p:=by
 rw[lI e]at x;refine aa λj=>?_;obtain⟨o,k,rfl,a,c⟩:=x.wF;obtain⟨p,k,rfl,b,c⟩:=c.wF;exact j (⟨o,p,Gc (λd=>[o,p]++d) c.wF,a,b⟩)
section
variable {u:V} {o:wa} {N:List V} {W:List wa}
abbrev DD(w:zb)(S:qb)(A:Yb)(L:Ca)(T:List Ca)(s:Ea)(f:wa)(W:List wa)(b:Option (V×St)):Prop:=Ga (VR w) w S A L T s (call f W) b
theorem oS(j:Ij w S)(l:Eg n A)(b:R w S T Q s.heap)(x:ue w T s.heap N W):DD w S A L T s (.builtin "len") W (sR .len N Q):=
 Ga.map λv e=>qe e λk p O=>ab p λu P c=>by
  obtain⟨o,rfl,a⟩:=x.one_of P;refine Ed O (aa λd=>?_)
  induction u using V.casesOn with
  |t I=>refine d ?_;refine Ed (ba c) ?_;exact yE b a|iset I=>refine d ?_;refine Ed (ba c) ?_;exact j.len l b a|ref i=>refine d ?_;exact qe c λI q X=>X▸BB b q a|_=>refine d ?_;exact ja c
theorem GL{g:Int->Int->Int}(k:∀a b c u,Qa (bb pg w) A (call f [.int a c,.int b u]) (PV w S L T s Q (.int (g a b))) No s)(x:ue w T s.heap N W):DD w S A L T s f W (kD Q ((two N).bind (qay g))):=
 Ga.map λv e=>ab e λp l O=>qe O λc P R=>ab P λi X e6=>qe e6 λj e7 e8=>by
  refine aa λd=>?_;obtain⟨o,q,rfl,a,b⟩:=x.two_of l;refine d ?_;clear d;obtain⟨_,rfl⟩:=a.wZ X;obtain⟨_,rfl⟩:=b.wZ e7;exact Ed R (Ed e8 (k _ _ _ _))
theorem sS(c:Eg n A)(b:R w S T Q s.heap)(x:ue w T s.heap N W):DD w S A L T s (.builtin "sum") W (sR .sum N Q):=
 Ga.map λv e=>qe e λis d j=>ab d λI k l=>ab k λi p q=>ab p λu O P=>by
  obtain⟨o,rfl,a⟩:=x.one_of O;rw[Th P]at a;exact Ed j (C1 c b q l a)
theorem RD(X:Ij w S)(hm:S.get? sysModules≠Y)(P:Eg n A)(b:R w S T Q s.heap)(l:Um S L T s.heap)(x:ue w T s.heap N W):DD w S A L T s (.builtin "sorted") W (sR .sorted N Q):=
 Ga.opt λI e1=>ab e1 λu e3 j=>by
  obtain⟨o,rfl,a⟩:=x.one_of e3;intro v G e;refine aa λd=>?_
  induction u using V.casesOn with
  |iset ys=>refine d ?_;rw[<-ba j]at e;exact X.sorted P b l a e|ref i=>
   refine d (ab j λob q k=>(aa λd=>?_))
   induction ob with
   |list ys=>refine d ?_;exact ab k λis e6 e7=>qe e7 λc p O=>Dw b l (by unfold tc;refine U q ?_;rfl) e6 a (gb (yf p)) (by refine U O ?_;exact e)|idict es=>refine d ?_;exact qe k λc p O=>Cw P hm b l q a (by have:=gb (yf p);rwa [ya]at this) (by refine U O ?_;exact e)|_=>refine d ?_;exact ja k
  |_=>refine d ?_;exact ja j
theorem UI(d:R w S T Q s.heap)(x:ue w T s.heap N W):DD w S A L T s (.type "range") W (sR .range N Q):=
 Ga.map λv e=>by
  induction N using ma with
  |nil=>exact ja e|cons u N=>
   induction N using ma with
   |nil=>
    refine ab e λb l q=>qe q λj j O=>?_;obtain⟨o,rfl,a⟩:=x.one_of rfl;obtain⟨_,rfl⟩:=a.wZ l;exact O▸TJ d
   |cons u' N=>
    induction N using ma with
    |cons j k=>exact ja e|nil=>
     refine ab e λb l q=>ab q λc O k=>qe k λj j P=>?_;obtain⟨o,p,rfl,a,X⟩:=x.two_of rfl;obtain⟨_,rfl⟩:=a.wZ l;obtain⟨_,rfl⟩:=X.wZ O;exact P▸UJ d
theorem Os{a b:Int}{I:List V}(e:vC a b=J I):(-1000<a/\a<1000/\ -1000<b/\b<1000)/\I=Jo a b:=qe e λu c d=>⟨N4 c,d.symm⟩
theorem VI(l:Eg n A)(b:R w S T Q s.heap)(x:ue w T s.heap N W):DD w S A L T s (.type "tuple") W (sR .tuple N Q):=
 Ga.opt λI p=>ab p λu q d=>by
  obtain⟨o,rfl,a⟩:=x.one_of q;intro v G e;refine aa λc=>?_
  induction u using V.casesOn with
  |t j=>refine c ?_;exact oA b (ba d▸a) e|ref i=>refine c ?_;exact yx b d a e|rng i j=>
   refine c (aa λc=>?_);obtain⟨k,rfl⟩:=Os d;exact c (Nw l b a k.1 k.2.1 k.2.2.1 k.2.2.2 e)
  |_=>refine c ?_;exact ja d
theorem FL(b:R w S T Q s.heap)(x:ue w T s.heap N W):DD w S A L T s (.type "list") W (sR .list N Q):=
 Ga.opt λI c=>ab c λu d j=>by
  obtain⟨o,rfl,a⟩:=x.one_of d;intro v G e;exact FB b (Vl j▸a) e
theorem rS(k:Ij w S)(l:Eg n A)(b:R w S T Q s.heap)(x:ue w T s.heap N W):DD w S A L T s (.type "set") W (sR .set N Q):=
 Ga.map λv e=>ab e λis O P=>ab O λI X p=>ab X λu e5 d=>qe P λc q e8=>by
  obtain⟨o,rfl,a⟩:=x.one_of e5;refine Ed e8 (aa λj=>?_)
  induction u using V.casesOn with
  |t ys=>refine j ?_;exact k.ofTup l b a (ba d▸p) (yf q)|ref i=>refine j ?_;exact k.ofList l b a d p (yf q)|_=>refine j ?_;exact ja d
theorem C6(j:Ij w S)(k:S.get? sysModules≠Y)(d:Eg n A)(c:R w S T Q s.heap)(l:Um S L T s.heap)(x:ue w T s.heap N W):DD w S A L T s f W (qds f N Q):=
 Ga.opt λb e=>by
  refine U (CL e) ?_
  induction b with
  |len=>exact oS j d c x|max=>exact GL (λu u u u=>zZ d c) x|min=>exact GL (λu u u u=>EZ d c) x|sum=>exact sS d c x|sorted=>exact RD j k d c l x|range=>exact UI c x|tuple=>exact VI d c x|list=>exact FL c x|set=>exact rS j d c x
end
noncomputable def TN(b:Lm):Bb:=match b with|.append=>"append"|.extend=>"extend"|.insert=>"insert"|.index=>"index"|.count=>"count"
theorem RN{b:Bb}(h:Zt b=J m):b=TN m:=by
 simp only[Zt]at h
 repeat' split at h
 all_goals first|exact ja h|exact(by assumption:b=_).trans (Gc TN (ba h))
section
variable {o:wa} {i:Nat} {N:List V} {W:List wa} {I:List V}
theorem ET(b:R w S T Q s.heap)(l:Um S L T s.heap)(q:tc Q i=J I)(d:VR w T s.heap (.ref i) o)(x:ue w T s.heap N W):DD w S A L T s (.builtin "list.append") (o::W) (NT .append i N Q I):=
 Ga.map λX e=>ab e λu j k=>qe k λc O P=>by
  obtain⟨p,rfl,a⟩:=x.one_of j;exact Ed P (FI b l q d a (Qi (yf O)))
theorem JT(X:Eg n A)(b:R w S T Q s.heap)(l:Um S L T s.heap)(q:tc Q i=J I)(O:VR w T s.heap (.ref i) o)(x:ue w T s.heap N W):DD w S A L T s (.builtin "list.extend") (o::W) (NT .extend i N Q I):=
 Ga.map λys e=>ab e λzs e1 e2=>ab e1 λu e5 k=>qe e2 λc P e4=>by
  obtain⟨p,rfl,a⟩:=x.one_of e5;refine Ed e4 (aa λd=>?_)
  induction u using V.casesOn with
  |ref j=>refine d ?_;clear d;exact wv b l q k O a (Qi (yf P))|rng lo hi=>
   refine d ?_;clear d;obtain⟨j,rfl⟩:=Os k;exact Yt X b l q O a j.1 j.2.1 j.2.2.1 j.2.2.2 (Qi (yf P))
  |_=>refine d ?_;clear d;exact ja k
theorem MT(b:R w S T Q s.heap)(l:Um S L T s.heap)(q:tc Q i=J I)(j:VR w T s.heap (.ref i) o)(x:ue w T s.heap N W):DD w S A L T s (.builtin "list.insert") (o::W) (NT .insert i N Q I):=
 Ga.map λys e=>ab e λu O P=>ab P λk X e4=>qe e4 λc e5 e6=>by
  refine aa λnq=>?_;obtain⟨p,p',rfl,a,a'⟩:=x.two_of O;obtain⟨_,rfl⟩:=a.wZ X;refine nq ?_;have d:=Aa.mp (yf e5);have z1:=Nl d.1;exact Ed e6 (pJ b l q j a' z1.1 z1.2 (Qi d.2))
theorem KT(b:R w S T Q s.heap)(q:tc Q i=J I)(O:VR w T s.heap (.ref i) o)(x:ue w T s.heap N W):DD w S A L T s (.builtin "list.index") (o::W) (NT .index i N Q I):=
 Ga.map λv e=>ab e λk P X=>ab P λu e3 e4=>ab X λis e5 e6=>qe e6 λj e7 e8=>qe e7 λc e9 l=>by
  obtain⟨p,rfl,a⟩:=x.one_of e3;obtain⟨_,rfl⟩:=a.wZ e4;have d:=Aa.mp (yf e9);have z1:=Aa.mp d.1;exact Ed e8 (Ed l (lN b q e5 O z1.1 z1.2 (gb d.2)))
theorem GT(b:R w S T Q s.heap)(q:tc Q i=J I)(c:VR w T s.heap (.ref i) o)(x:ue w T s.heap N W):DD w S A L T s (.builtin "list.count") (o::W) (NT .count i N Q I):=
 Ga.map λv e=>ab e λk d j=>ab d λu l O=>qe j λis P X=>by
  obtain⟨p,rfl,a⟩:=x.one_of l;obtain⟨_,rfl⟩:=a.wZ O;exact Ed X (gM b q P c)
end
noncomputable def OT(b:Lm):String:=match b with|.append=>"list.append"|.extend=>"list.extend"|.insert=>"list.insert"|.index=>"list.index"|.count=>"list.count"
theorem cV(m:_):Slot "list" (TN m) (OT m):=match m with|.append=>PySem.F.slot_list_append|.extend=>Pk|.insert=>PySem.F.slot_list_insert|.index=>PySem.F.slot_list_index|.count=>PySem.F.slot_list_count
theorem AV(m:_):typeOf (Ti (OT m))=pure (uf "method_descriptor"):=match m with|.append=>PySem.F.type_list_append|.extend=>PySem.F.type_list_extend|.insert=>PySem.F.type_list_insert|.index=>PySem.F.type_list_index|.count=>PySem.F.type_list_count
theorem rZ{i:Nat}{o:wa}{N:List V}{W:List wa}(d:Eg n A)(b:R w S T Q s.heap)(l:Um S L T s.heap)(c:VR w T s.heap (.ref i) o)(x:ue w T s.heap N W):DD w S A L T s (.builtin (OT m)) (o::W) ((tc Q i).bind (NT m i N Q)):=
 Ga.opt λI q=>by
  induction m with
  |append=>exact ET b l q c x|extend=>exact JT d b l q c x|insert=>exact MT b l q c x|index=>exact KT b q c x|count=>exact GT b q c x
end
section
variable {f:wa} {W:List wa} {C:List V} {x D:Bb} {N:Om} {I:List Expr}
variable [q:Av]
theorem Eg.less{n m:Nat}{A:Yb}(a:Eg n A)(h:m<=n):Eg m A:=⟨a.hh,by have:=a.depth;lia,by have:=a.units;lia⟩
theorem oK(a:Ca)(rest:List wa):(J3 "type.__call__" ⟨.ref a::rest,[]⟩).weight=1:=by kernel_rfl
theorem uQ(a:Ca)(rest:List wa):(J3 "type.__call__" ⟨.ref a::rest,[]⟩).cUnits=1:=by kernel_rfl
theorem Eg.under{n:Nat}{A:Yb}(a:Eg (n+1) A)(b:Ca)(rest:List wa):Eg n (A.under (.builtin "type.__call__" ⟨.ref b::rest,[]⟩)):=
 ⟨a.hh,by show A.depth+_+_+_<=_;refine U (oK _ _) ?_;have:=a.depth;lia,by show A.units+_+_+_<=_;refine U (uQ _ _) ?_;have:=a.units;lia⟩
variable {w:zb} {P:qb} {A:Yb} {X:zj} {y:Ca->Prop} {r:List Bb} {lo:Nat} {u:Me} {K:Ue} {S:Ch} {n:Nat} {g:Gl} {F:List Ca} {Q E:St} {s:Ea} {v:V} {L:Ca} {z:Nat->List V->St->Option (V×St)}
theorem km{a:wa->Ea->Prop}(h:dh (bb pg w) A (.call f ⟨W,[]⟩) (λb e=>∃d,b=.ok (.ret d)/\a d e) s):Qa (bb pg w) A (call f W) a No s:=
 Np (Oc h λb e c=>by obtain⟨d,rfl,c⟩:=c;exact c)
theorem KE{F:List Ca}{a b c:Ca}(h:c∉F)(e:c≠a)(i:c≠b):c∉F++[a]++[b]:=λd=>by
 rcases Xb.mp d with d|d
 ·exact(Xb.mp d).elim h λd=>e (Ra.mp d)
 ·exact i (Ra.mp d)
theorem WN{Q:St}{p c:V×St}(h:EE Q p=J c):p.1=.none/\(.ref (Q.length+1),p.2)=c:=by
 obtain⟨a,b⟩:=p
 induction a using V.casesOn<;>first|exact ja h|exact⟨rfl,ba h⟩
theorem UT{a G:Nat}(B:Jk P K S)(CO:Zp P K S)(CF:Gi w P z n)(AK:Eg (n+1) A)(c:R w P F Q s.heap)(l:Um P L F s.heap)(x:ue w F s.heap C W)(hg:S.init a=J G):
 Ga (VR w) w P A L F s (call (.ref a) W) ((z G (.ref (Q.length+1)::C) (Q++[.h [],.inst a Q.length])).bind (EE Q)):=λv E e=>ab e λp hc hm=>by
 refine aa λnq=>?_;obtain⟨c1,c2,c3⟩:=CO.init _ _ hg;obtain⟨m,hn⟩:=l.ns;refine nq ?_;clear nq;refine km (make_K (cj hn) vg (c.kin B) c1 c2 c3 λj k T F' N' x1 t=>?_);have Nd:=N' _ (oa _ sa);have Nx:=N' _ sa;have dL:k≠L:=Nd.2.1;have xL:j≠L:=Nx.2.1;have free:∀b,b≠L->k<=b->s.heap.get? b=Y:=λb bL x2=>by
  induction d:s.heap.get? b with
  |none=>rfl|some o=>exact zc (rb (x1 _ (we.mpr ⟨bL,d⟩)) x2) (dc _)
 have xn:s.heap.get? j=Y:=free j xL (vd t);obtain⟨r1,k1⟩:=c.newL l (o:=.h []) hn F'.ns (λb h nb e=>(N' (b,h) (oa _ (oa _ (we.mpr ⟨nb,e⟩)))).1:∀b h,b≠L->s.heap.get? b=J h->T.get? b=J h) (free k dL (Gb _)) ⟨[],0,Nd.1,.nil,kW,td _⟩;have k2:=k1.add xn;have i:VR w (F++[k]++[j]) T (.ref (Q.length+1)) (.ref j):=.ref (by refine Ed c.len ?_;exact(La (by refine U Ha ?_;exact Gb _)).trans (by refine U Ha (U Ii (U (jh _) ?_));rfl));rw[show Q++[O.h [],O.inst a Q.length]=Q++[O.h []]++[O.inst a Q.length]from by refine U (Dc _ _ _) ?_;rfl]at hc;refine Oc (CF _ (AK.under a W) G _ (.ref j::W) _ _ {s with heap:=T} _ _ L (r1.add (o:=.inst a Q.length) (λd=>(Xb.mp d).elim (Hf c xn) λd=>dc _ (Ra.mp d▸t):j∉F++[k]) (Rd c xn) ⟨k,(by refine U (Dc _ _ _) (Ed c.len ?_);exact(La (Gb _)).trans (by refine U (jh _) ?_;rfl)),Nx.1⟩) (KE l.out dL.symm xL.symm) (.cons i (k2.vrs x)) hc) λd s' h=>?_;obtain⟨x5,rfl,x4,t3,k3,r3,x3⟩:=h;obtain⟨e0,e4⟩:=WN hm;obtain⟨rfl,rfl⟩:=Ta e4;rw[e0]at x3;exact⟨x3.wF,_,rfl,x4,t3,k2.trans k3,r3,k3.vr i⟩
theorem NL(B:Jk P K S)(d:Zp P K S)(h:Ij w P)(CF:Gi w P z n)(c:Eg (n+1) A)(b:R w P F Q s.heap)(l:Um P L F s.heap)(x:ue w F s.heap C W):
 Ga (VR w) w P A L F s (call f W) (cG S z (.k f) C Q):=by
 induction f with
 |ref a=>
  show Ga _ _ _ _ _ _ _ _ (match S.init a with|some g=>(z g (.ref (Q.length+1)::C) (Q++[.h [],.inst a Q.length])).bind (EE Q)|none=>z a C Q)
  induction i:S.init a with
  |some e=>exact UT B d CF c b l x i|none=>exactλv E e=>km (CF A (c.less (se n)) _ _ _ _ _ s _ _ L b l.out x e)
 |_=>exact C6 h B.mods c b l x
theorem qs(k:Xy P K g)(l:g.glob x=J f)(p:X.kindOf x=J .globalImplicit)(t:(x==("__debug__":Bb))=ua):
 uc w P A X y r lo u (yc (.Name x N) X) (λQ=>J (.k f,Q)):=λF Q s a c=>Ga.ret (wpAny_Name (by
 refine U (loadName_read c.kind p) (aa λd=>?_);obtain⟨_,m,B,h⟩:=k.glob x f l;refine d ?_;have j:s.heap.Ns X.globals m:=by refine U c.globals ?_;exact B.keeps λb o e=>a.wK b o e
 refine aa λd=>?_;rcases h with h|⟨h,O,i,G⟩
 ·exact d (H4 j h (PV.wU a (.k f)))
 ·refine d ?_
  exact uZ j h (by refine U c.builtins ?_;exact i.keeps λb o e=>a.wK b o e) G (PV.wU a (.k f))) t)
theorem fz{s:Ea}{F:List Ca}{Q:St}{first:List wa}{G:St->Option (List V×St)}{k:List V×St->Option (V×St)}(B:Jk P K S)(j:AB K f=Z)(m:∀e∈I,∀x p,e≠jd x p)(o:Vi w P A X y r lo u (kj (qg N (starEach I X))) G)(a:R w P F Q s.heap)(b:Lc w P X y r lo u F s.heap)
 (h:∀W C d i c,KX X.locals F s.heap i.heap d->R w P d c i.heap->Um P X.locals d i.heap->ue w d i.heap C W->Ga (VR w) w P A X.locals d i (call f (first++W)) (k (C,c))):
 Ga (VR w) w P A X.locals F s (callWith N f first (qg N (starEach I X)) []) ((G Q).bind k):=λv E e=>ab e λp t O=>kq j m (Da (o F Q s a b _ _ t) (λW i T=>by
 obtain⟨d,t2,k2,l,x2⟩:=T;exact⟨l.kin B,Da (h W _ d i _ k2 l (b.kx a k2).lok x2 v E O) (λc c=>PR.after t2 k2) λc c x=>x⟩) λc c x=>x)
theorem XI{p:Om}{G:St->Option (List V×St)}(B:Jk P K S)(i:Zp P K S)(d:Xy P K g)(j:Ij w P)(CF:Gi w P z n)(k:Eg (n+1) A)
 (h:g.glob x=J f)(l:X.kindOf x=J .globalImplicit)(m:(x==("__debug__":Bb))=ua)(o:∀e∈I,∀x p,e≠jd x p)(t:Vi w P A X y r lo u (kj (qg N (starEach I X))) G):
 uc w P A X y r lo u (yc (.Call (.Name x p) I [] N) X) (λQ=>(G Q).bind λp=>cG S z (.k f) p.1 p.2):=λF Q s a b v E e=>Call_Name rfl (Da (qs (w:=w) d h l m F Q s a b (.k f) Q rfl) (λO R T=>by
 obtain⟨x3,t1,k1,r1,x1⟩:=T;rw[(x1.wF:O=f)];exact Da (fz (s:=R) B (d.glob x f h).1 o t r1 (b.kx a k1) (λW C c s2 x4 k2 r2 l2 x2=>NL B i j CF k r2 l2 x2) v E e) (λc c=>PR.after t1 k1) λc c x=>x) λc c x=>x)
theorem Zv(a:I.length<29)(b:∀e∈I,∀x p,e≠jd x p):methodCallForm (I.length+([]:List cL).length) (qg N (starEach I X)) (backToKw N (qfy [] X))=Z:=by
 have P:qg N (starEach I X)=I.map λe=>(ua,yc e X):=by
  refine U (Gm b) ?_;unfold qg;refine U Qd ?_;rfl
 refine U P ?_;have c:(I.map λe=>(ua,yc e X)).all (λp=> !p.1)=Z:=md.mpr λp d=>by
  obtain⟨e,_,rfl⟩:=Rb.mp d
  rfl
 exact Aa.mpr ⟨Aa.mpr ⟨c,rfl⟩,decide_eq_true (Tf a)⟩
inductive LR(w:zb)(S:Ch)(D:Bb)(ov:V)(Q:St):cW->Prop
 |fn (i c d:Nat) (I:List (Bb×V)) (f:Nat):ov=.ref i->wi Q i=J (c,d)->Vq Q d=J I->Pf I D=Y->S.meth c D=J f->LR w S D ov Q (.fn f ov)|lm (i:Nat) (xs:List V):ov=.ref i->tc Q i=J xs->LR w S D ov Q (.lm i)
theorem qP{l:V}{c:cW}(e:cu S l D Q=J c):LR w S D l Q c:=ab e λi o p=>ab p λt m j=>by
 have a:=Th o
 induction t with
 |inst B d=>
  refine ab j λI G h=>?_
  induction k:Pf I D with
  |some b=>rw[k]at h;exact ja h|none=>
   rw[k]at h;refine qe h λf b O=>(Ed O (Ed a ?_));exact .fn i B d I f a (by unfold wi;refine U m ?_;rfl) G k b
 |list b=>refine Ed (ba j) ?_;exact .lm i b a (by unfold tc;refine U m ?_;rfl)|_=>exact ja j
theorem IJ{o:Expr}{ap:Om}{j:St->Option (V×St)}{G:St->Option (List V×St)}(B:Jk P K S)(CO:Zp P K S)(CF:Gi w P z n)(AK:Eg (n+1) A)
 (hp:Pl o=Z)(hl:(ap.endLine==N.line)=Z)(x3:I.length<29)(hn:∀e∈I,∀x p,e≠jd x p)(hF:uc w P A X y r lo u (yc o X) j)(hG:Vi w P A X y r lo u (kj (qg N (starEach I X))) G):
 uc w P A X y r lo u (yc (.Call (.Attribute o D ap) I [] N) X) (λQ=>(j Q).bind λp=>(cu S p.1 D p.2).bind λd=>(G p.2).bind λl=>ky z d D l.1 l.2):=λF Q s O R=>by
 refine U (qdr _ _ _ _ _ _ _) (U (Uu hp _) ((hF F Q s O R).bind (t:=λv=>bk ap.atName>>=λa=>CZ o D ap N X v (I.length+([]:List cL).length) (qg N (starEach I X)) (backToKw N (qfy [] X))) (λo' ov x9 s1 x4 k1 r1 x1=>Ga.opt λd hr=>?_) λb h=>ga h));have E1:=R.kx O k1;intro v E e;refine ga (lc ?_);unfold CZ;refine U (Zv x3 hn) (U (by unfold xu;simp[hl]:xu Z o X ap N=pure N) (ga (Kb (aa λp=>?_))));cases (qP hr:LR w S D ov x4 d)with
 |fn i c' h y1 f l e1 e2 hs hm=>
  refine p ?_;clear p;rw[l]at x1;refine aa λp=>?_;obtain⟨k,dx,x8,m,rfl,_,_,_,_,p2,_,_,b⟩:=r1.inst e1 e2 x1;obtain⟨m1,m2,m3,m4,m5⟩:=CO.meth _ _ _ hm;refine p ?_;clear p;refine method_fn (r1.kin B) b m1 m2 m3 m4 ?_ (ga (ta (fz (f:=.ref f) (first:=[.ref k]) B m5 hn hG r1 E1 (λW C x5 s2 x6 k2 r2 l2 x2 v E e=>km (CF A (AK.less (se n)) f (ov::C) _ _ _ s2 _ _ X.locals r2 l2.out (.cons (l▸k2.vr x1) x2) e)) v E e)));refine aa λp=>?_;rcases p2.wJ (m:=m) D with⟨h1,h2⟩|⟨x,c,h1,h2,h3⟩
  ·refine p ?_
   clear p;simp[shadowIn,h2]
  ·refine p ?_
   clear p;rw[h1]at hs;exact ja hs.symm
 |lm i xs l e1=>
  refine p ?_;clear p;rw[l]at x1;refine ab e λb z1 z2=>(ab z2 λm m1 a=>(aa λp=>?_));obtain⟨k,y2,c,rfl,ea,q1,q2,q3⟩:=r1.list e1 x1;refine p ?_;clear p;exact getMethod_builtin (T:="list") ⟨_,q1,rfl⟩ PySem.F.plainAttrs_list (RN m1▸cV m) (AV m) (λh x7=>by cases x7;exact⟨_,q1,rfl⟩) (ga (ta (fz (f:=.builtin (OT m)) (first:=[.ref k]) B rfl hn hG r1 E1 (λW C x5 s2 x6 k2 r2 l2 x2=>Ga.opt λh m2=>by
   refine Ed (ba (m1.symm.trans m2)) ?_;exact rZ AK r2 l2 (k2.vr x1) x2) v E e)))
end
section
variable {D:Ca} {k:Int} {x:Bb} {p C:Om} {F:Ea} {N:Expr}
variable [u:Av]
section
variable {w:zb} {Q h h2 I:qb} {T W:List Ca} {S:St} {L:Ca}
theorem KX.but(k:KX L T h h2 W)(f:h.get? D=Y)(c:∀b x,b≠D->h2.get? b=J x->I.get? b=J x):KX L T h I W:=by
 have b:∀a o,h.get? a=J o->a≠D:=λa o e q=>by subst q;rw[f]at e;exact ja e
 refine⟨⟨k.pre,k.fresh,λa o e j l=>c a o (b a o e) (k.keep a o e j l),λa o e i=>c a o (b a o e) (k.imm a o e i),λa e=>?_⟩,λm n=>?_⟩
 ·obtain⟨o,r⟩:=Na.mp e
  obtain⟨B,d⟩:=Na.mp (k.live a e);refine U (c a B (b a o r) d) ?_;rfl
 ·refine aa λd=>?_
  obtain⟨R,_,_,r,_⟩:=id n;obtain⟨o,B,G,O,N⟩:=k.ns m n;exact d (⟨o,B,G,c L o (b L _ r) O,N⟩)
end
variable {w:zb} {Q:qb} {A:Yb} {X:zj} {eo:Ca->Prop} {z:List Bb} {lo:Nat} {E:Me} {K:Ue} {y:Ch} {n:Nat} {g:Gl} {T:List Ca} {S P:St} {s:Ea} {v:V} {L:Ca} {t:Nat->List V->St->Option (V×St)}
inductive UK [u:Av](w:zb)(k:Int)(v:V)(P:St)(σ1:St)(o':wa)(ρ1:List Ca)(h1:qb):Prop
 |mk:∀(a:Ca)(vs:List wa)(xs:List V),o'=.ref a->h1.IsList a vs.toArray->xs.length<=4096->ue w ρ1 h1 xs vs->(0<=k/\k<1000)->gj (xs.take k.toNat) σ1=J (v,P)->UK w k v P σ1 o' ρ1 h1
theorem MS{f:V}{o':wa}(B:Jk Q K y)(r:R w Q T S s.heap)(x1:VR w T s.heap f o')(e:KS y f k S=J (v,P)):UK w k v P S o' T s.heap:=by
 induction f using V.casesOn with
 |k c=>
  induction c with
  |ref a=>
   exact ab e λd j e=>ab e λb l N=>by
    refine aa λq=>?_;obtain⟨i,G,O,m⟩:=B.scr a d j;refine q ?_;exact⟨a,G,d.map V.int,x1.wF,(let ⟨o,e,c⟩:=O;⟨o,r.wK _ _ e,c⟩),by refine U (ya _) ?_;exact i,ir m,N4 l,N⟩
  |_=>exact ja e
 |ref i=>
  exact ab e λd j e=>ab e λb l N=>by
   refine aa λq=>?_;obtain⟨a,G,m,rfl,ea,O,c,g3⟩:=r.list j x1;exact q (⟨a,G,d,rfl,ve O,c,g3,N4 l,N⟩)
 |_=>exact ja e
theorem LJ(h:qb):h.get? (h.objs.size+1)=Y:=by
 induction q:h.get? (h.objs.size+1)with
 |none=>rfl|some a=>exact zc (qc q) (Ud.mpr (se _))
theorem kM(B:Jk Q K y){l R:Om}{kd:Nat}{c:St->Option (V×St)}(hf:uc w Q A X eo z lo E (yc (.Name x p) X) c):
 uc w Q A X eo z lo E (yc (.Subscript (.Name x p) (.Slice Y (J (.Constant (.int k) kd l)) Y R) C) X) (λS=>(c S).bind λp=>KS y p.1 k p.2):=λT S s r d v P e=>ab e λp e1 N=>wpAny_Subscript_list_slice (Da (hf T S s r d _ _ e1) (λo' i l=>by
 obtain⟨x2,t1,k1,m,x1⟩:=l;refine U (evalPart_none _) (U (evalPart_some _ _) (ta (S2 (aa λq=>?_))));obtain⟨a,G,xs,rfl,g1,g2,O,hk,e'⟩:=MS (s:=i) B m x1 N;refine q ?_;clear q;refine⟨a,G.toArray,Y,J k,rfl,g1,O.fit g2,.none,.int k _,?_⟩;obtain⟨j,rfl⟩:=Int.eq_ofNat_of_zero_le hk.1;refine U (slicePick_upto' _ _) ?_;have f:=Oa (i.heap.push {cls:=.type "slice",data:=.fields #[.none,.int (j:Int) i.toks,.none]}) (o:=listOf ((G.take j).toArray) 0) rfl;rw[ie]at f;exact PR.after t1 k1 (Gy (s:=i) (tk':=i.toks+1) m (λb x e=>Ba _ (Ba _ e)) (LJ i.heap) f (O.take j) e')) λf f x=>x) λf f=>rfl
theorem rm{b:Type} [DecidableEq b](a:PySem.KeyKind pg w b):Gf.IsDictOf a []:=⟨#[],0,⟨rfl,rfl,rfl⟩,rfl,λe c=>(nomatch c),.nil,.nil⟩
theorem ZD:uc w Q A X eo z lo E (yc (.Dict [] [] C) X) (λS=>J (.ref S.length,S++[.idict []])):=λT S s r b=>Ga.ret (wpAny_Dict_empty (
 have c:=r.new' (L:=X.locals) (a:=s.heap.objs.size) (o:=.idict []) (λa o e=>Ba _ e:∀a o,s.heap.get? a=J o->(s.heap.push Gf).get? a=J o) (Fb _) ⟨Gf,[],Oa _ rfl,rm _,rfl,.nil,td _⟩
 ⟨_,rfl,c.2,c.1,.ref (Hr r)⟩))
theorem Bh.upd{s:Ea}{I:qb}{k:Nat}(a:Bh s F):Bh s {F with heap:=I,toks:=k}:=Bh.trans a rfl
theorem Bh.past{s:Ea}{I:qb}{k:Nat}(a:Bh {s with heap:=I,toks:=k} F):Bh s F:=Bh.trans (s':={s with heap:=I,toks:=k}) rfl a
theorem fB{o:O}{h2 I:qb}{W:List Ca}{c:St}{tk:Nat}(st:Bh s F)(r:R w Q T S s.heap)(f:s.heap.get? D=Y)(k:KX L T s.heap h2 W)(j:R w Q W c h2)(d:D∉W)(i:∀x,h2.get? D=J x->¬Jh x)
 (l:∀b x,b≠D->h2.get? b=J x->I.get? b=J x)(m:OR w (W++[D]) I o D):PV w Q L T s (c++[o]) (.ref c.length) (.ref D) {F with heap:=I,toks:=tk}:=
 have b:=Rd r f;have B:R w Q W c I:=j.beside (wr:=λa=>a=D) (λa o n e=>l a o n e) λa q=>q▸⟨d,b,i⟩
 ⟨_,st.upd,(k.but f l).add f,B.add d b m,.ref (Hr j)⟩
theorem KX.after_push{o:wD}{h2:qb}{W:List Ca}(k:KX L T (s.heap.push o) h2 W):KX L T s.heap h2 W:=(KX.wI λa a e=>Ba _ e).trans k
theorem jy{h2:qb}{W:List Ca}(r:R w Q T S s.heap)(l:Um Q L T s.heap)(k:KX L T (s.heap.push Gf) h2 W):s.heap.objs.size∉W/\h2.get? s.heap.objs.size=J Gf:=by
 have c:s.heap.get? s.heap.objs.size=Y:=Fb _;have b:(s.heap.push Gf).get? s.heap.objs.size=J Gf:=Oa _ rfl;refine aa λd=>?_;obtain⟨m,o,_,_,e,_⟩:=l.ns;refine d ?_;have a:s.heap.objs.size∉T:=Hf r c;exact⟨λq=>(k.fresh _ q).elim a λq=>(by rw[b]at q;exact ja q.symm),k.keep _ _ b a λq=>by rw[<-q,c]at e;exact ja e⟩
theorem wj{h2:qb}(e:h2.get? D=J Gf):∀x,h2.get? D=J x->¬Jh x:=λx q=>by
 refine Ed (ba (e.symm.trans q)) ?_;simp[Jh,Gf]
theorem aE{c G:St->Option (V×St)}(hf:uc w Q A X eo z lo E (yc (.Name x p) X) c)(hg:uc w Q A X eo z lo E (yc N X) G):
 uc w Q A X eo z lo E (yc (.Dict [J (.Name x p)] [N] C) X) (λS=>(c S).bind λp=>(G p.2).bind λq=>mG p.1 q.1 q.2):=λT S s r d v P e=>ab e λp e1 N=>ab N λq e3 e4=>XN e4 λa ea=>by
 have m:∀a o,s.heap.get? a=J o->(s.heap.push Gf).get? a=J o:=λa o e=>Ba _ e;refine qaR (knd:=jg pg w) rfl rfl (λq=>zc q (Bc _ _)) (gb rfl) (au (Da (hf T S {s with heap:=s.heap.push Gf} (r.wI m) (d.wI r m) _ _ e1) (λkv s1 p1=>?_) λf f x=>x));obtain⟨B,t1,k1,r1,x1⟩:=p1;refine Da (hg B _ _ r1 ((d.wI r m).kx (r.wI m) k1) _ _ e3) (λR F p2=>qdK ?_) λf f x=>x;refine aa λO=>?_;obtain⟨W,t2,k2,r2,x2⟩:=p2;have l:=k1.trans k2;have i:=jy r d.lok l;obtain⟨j,rfl⟩:=x1.wZ ea;refine O (⟨[(a,R)],⟨Gn a j,rfl,trivial⟩,⟨Gf,_,_,i.2,(rm (jg pg w)).choose_spec.choose_spec⟩,λI hd sb=>?_⟩);refine aa λO=>?_;obtain⟨o,f1,d1⟩:=Mf.mp hd;refine O ?_;exact fB (h2:=F.heap) (tk:=F.toks+1) (t1.past.trans t2) r (Fb _) (KX.after_push l) r2 i.1 (wj i.2) (λb x n e=>(sb.2 b n).trans e)
  ⟨o,[(a,R)],f1,d1,rfl,.one (x2.mono (Hc _ _) (Aq sb i.2 (wj i.2 _ i.2))),gb rfl⟩
theorem bE{a b:Bb}{ka kb:Nat}{pa pb:Om}{O:Expr}{c G:St->Option (V×St)}(j:a≠b)(hf:uc w Q A X eo z lo E (yc O X) c)(hg:uc w Q A X eo z lo E (yc N X) G):
 uc w Q A X eo z lo E (yc (.Dict [J (.Constant (.str a) ka pa),J (.Constant (.str b) kb pb)] [O,N] C) X) (λS=>(c S).bind λp=>(G p.2).bind λq=>nG (.str a) (.str b) p.1 q.1 q.2):=λT S s r d v P e=>ab e λp O N=>ab N λq e3 R=>by
 replace R:(if a=b then Y else J (V.ref q.2.length,q.2++[.h [(a,p.1),(b,q.1)]]))=J (v,P):=R;rw[fe j]at R;have hk:∀a o,s.heap.get? a=J o->(s.heap.push Gf).get? a=J o:=λa o e=>Ba _ e;refine qaR (knd:=ee pg w) rfl rfl (λq=>zc q (Bc _ _)) (gb rfl) (au (Uw ?_));have E1:=d.wI r hk;refine Da (hf T S {s with heap:=s.heap.push Gf,toks:=s.toks+1} (r.wI hk) E1 _ _ O) (λxl s1 p1=>au (Uw ?_)) λf f x=>x;obtain⟨x3,t1,k1,r1,x1⟩:=p1;refine Da (hg x3 _ {s1 with toks:=s1.toks+1} r1 (E1.kx (r.wI hk) k1) _ _ e3) (λyl F p2=>qdK ?_) λf f x=>x;obtain⟨W,t2,k2,r2,x2⟩:=p2;have l:=k1.trans k2;have i:=jy r d.lok l;refine⟨[(a,xl),(b,yl)],⟨Ek a _,rfl,Ek b _,rfl,trivial⟩,⟨Gf,_,_,i.2,(rm (ee pg w)).choose_spec.choose_spec⟩,λI hd sb=>?_⟩;refine aa λnq=>?_;obtain⟨o,o1,d1⟩:=Mf.mp hd;have m:=Aq sb i.2 (wj i.2 _ i.2);rw[show merged ([]:List (Bb×wa)) [(a,xl),(b,yl)]=[(a,xl),(b,yl)] by simp[merged,stored,j]]at d1;obtain⟨B,m',rfl,x4⟩:=pG (w:=w) (ρ:=W++[s.heap.objs.size]) (h:=I) (es:=[(a,p.1),(b,q.1)]) d1 rfl (.cons ((k2.vr x1).mono (Hc _ _) m) (.one (x2.mono (Hc _ _) m)));obtain⟨rfl,rfl⟩:=Ta (ba R);refine nq ?_;exact fB (h2:=F.heap) (tk:=F.toks+2) (t1.past.trans t2.past) r (Fb _) (KX.after_push l) r2 i.1 (wj i.2) (λb x n e=>(sb.2 b n).trans e)
  ⟨B,m',o1,x4,by simp[j],gb rfl⟩
end
section
variable {x:Bb} {i:Nat} {T:wa}
variable [E:Av]
inductive PA(w:zb)(Q:qb)(X:zj)(N:Ca->Prop)(S:List Bb)(lo:Nat)(W:List Ca)(s:Ea)(I:St)(O:Me)(s':Ea):Prop
 |mk:Bh s s'->Kp N W s.heap s'.heap W->R w Q W I s'.heap->Lc w Q X N S lo O W s'.heap->PA w Q X N S lo W s I O s'
variable {w:zb} {Q:qb} {A:Yb} {X:zj} {N:Ca->Prop} {S:List Bb} {lo:Nat} {O:Me} {K:Ue} {G:Ch} {n:Nat} {g:Gl} {W:List Ca} {I F:St} {s:Ea} {v:V} {L:Ca}
theorem Xq{S:List Bb}{y:Bb}(a:xc S x=J i)(b:xc S y=J i):x=y:=ba ((Tj a).symm.trans (Tj b))
theorem Jz{j:Nat}{v v':V}{P:Prop}(e:(O.set i (J v))[j]?=J (J v'))(h1:i=j->v=v'->P)(h2:i≠j->O[j]?=J (J v')->P):P:=by
 rw[jl]at e
 split at e
 ·rename_i q
  split at e
  ·exact h1 q (ba (ba e))
  ·exact ja e
 ·rename_i q;exact h2 q e
theorem Lc.put{h:qb}(f:Lc w Q X N S lo O W s.heap)(p:Kp N W s.heap h W)(l:∀c v,s.heap.IsCell c v->∃e,h.IsCell c e)
 (q:∃m,h.Ns X.locals m/\∀(x:Bb)(j:Nat)(u:V),xc S x=J j->X.kindOf x=J .local->(O.set i (J v))[j]?=J (J u)->∃T,m x=J T/\VR w W h u T)
 (r:∀(x:Bb)(j:Nat)(u:V),xc S x=J j->(X.kindOf x=J .cell\/X.kindOf x=J .free)->(O.set i (J v))[j]?=J (J u)->∃c T,X.cells.lookup x=J c/\h.IsCell c (J T)/\VR w W h u T):Lc w Q X N S lo (O.set i (J v)) W h:=
 ⟨f.kind,f.globals,f.builtins,by refine U yb ?_;exact f.len,q,r,f.loc,λy k a b=>(by
  refine aa λd=>?_;obtain⟨c,v,z1,z2⟩:=f.has y k a b;obtain⟨e,o⟩:=l _ _ z2;refine d ?_;exact⟨c,e,z1,o⟩),f.apart,λy j a b=>(f.own y j a b).imp_right λd=>(by
  obtain⟨z,c,v,z1,z2,o⟩:=d;obtain⟨e,z4⟩:=l _ _ z2;exact⟨z,c,e,z1,z4,o⟩),f.eoh,λa e=>p.live a (f.eol a e)⟩
theorem ZC(P:xc S x=J i)(hk:X.kindOf x=J .local)(r:R w Q W I s.heap)(f:Lc w Q X N S lo O W s.heap)(xv:VR w W s.heap v T):
 Qa (bb pg w) A (E9 X x T) (λd=>PA w Q X N S lo W s I (O.set i (J v))) No s:=by
 refine aa λk=>?_;obtain⟨m,C,hv⟩:=f.ns;refine k (wpAny_storeName_local hk C (λD hn l=>?_) (by simp[f.kind]));have p:∀a o,¬(a=X.locals)->s.heap.get? a=J o->D.get? a=J o:=λa o q e=>(l.2 a q).trans e;have t:Kp N W s.heap D W:=Kp.beside (wr:=λa=>a=X.locals) p λa q o e=>by
  refine aa λk=>?_;subst q;obtain⟨b,_,_,B,_⟩:=hn;refine k ?_;exact⟨Cg C e,f.loc.2.2,by refine U B ?_;rfl⟩
 have r':R w Q W I D:=r.beside (wr:=λa=>a=X.locals) p λa q=>by subst q;exact⟨f.loc.1,f.loc.2.1,λo e=>Cg C e⟩
 have d:∀c v,s.heap.IsCell c v->D.IsCell c v:=λc v x=>x.sameBut l λq=>by subst q;exact Mn C x
 refine⟨rfl,t,r',f.put t (λc v x=>⟨v,d c v x⟩) ⟨_,hn,λy j u a b e=>Jz e (λq q2=>?_) λq B=>?_⟩ λy j u a b e=>Jz e (λq q2=>?_) λq B=>?_⟩
 ·exact U (Xq a (q▸P)) (Ed q2 (⟨T,by simp,t.vr xv⟩))
 ·have:y≠x:=λz=>q (ba ((z▸P).symm.trans a))
  refine aa λk=>?_;obtain⟨h,z1,z2⟩:=hv y j u a b B;exact k (⟨h,by simp[this,z1],t.vr z2⟩)
 ·rw[Xq a (q▸P),hk]at b;rcases b with b|b<;>cases b
 ·obtain⟨c,h,z1,z2,z⟩:=f.cells y j u a b B
  exact⟨c,h,z1,d _ _ z2,t.vr z⟩
theorem tF{c:Ca}{v0:Option wa}(B:xc S x=J i)(hk:X.kindOf x=J .cell)(C:X.cells.lookup x=J c)(c2:s.heap.IsCell c v0)(c3:Q.get? c=Y)(c4:N c)(r:R w Q W I s.heap)(f:Lc w Q X N S lo O W s.heap)(xv:VR w W s.heap v T):
 Qa (bb pg w) A (E9 X x T) (λd=>PA w Q X N S lo W s I (O.set i (J v))) No s:=by
 refine aa λk=>?_;obtain⟨m,hm,hv⟩:=f.ns;refine k (wpAny_storeName_cell f.kind hk C c2 λD P h=>?_);have l:∀a o,¬(a=c)->s.heap.get? a=J o->D.get? a=J o:=λa o q e=>(h.2 a q).trans e;refine aa λk=>?_;obtain⟨oc,x1,x2⟩:=ZI c2;refine k ?_;have cI:∀o,s.heap.get? c=J o->¬Jh o:=λo e=>ba (x1.symm.trans e)▸x2;have p:Kp N W s.heap D W:=Kp.beside (wr:=λa=>a=c) l λa q o e=>by
  subst q;obtain⟨b,t,_⟩:=P;exact⟨cI o e,c4,by refine U t ?_;rfl⟩
 have r':R w Q W I D:=r.beside (wr:=λa=>a=c) l λa q=>by subst q;exact⟨r.cellNot c2,c3,cI⟩
 refine⟨rfl,p,r',f.put p (λc' v x=>?_) ⟨m,hm.sameBut h λq=>Mn (v:=v0) hm (q▸c2),λy j u a b e=>Jz e (λq q2=>?_) λq t=>?_⟩ λy j u a b e=>Jz e (λq q2=>?_) λq t=>?_⟩
 ·by_cases q:c'=c
  ·exact⟨_,q▸P⟩
  ·exact⟨v,x.sameBut h q⟩
 ·rw[Xq a (q▸B),hk]at b;cases b
 ·obtain⟨d,z1,z2⟩:=hv y j u a b t
  exact⟨d,z1,p.vr z2⟩
 ·exact U (Xq a (q▸B)) (Ed q2 (⟨c,T,C,P,p.vr xv⟩))
 ·refine aa λk=>?_
  obtain⟨c',d,z1,z2,z3⟩:=f.cells y j u a b t;refine k ?_;exact⟨c',d,z1,z2.sameBut h (λz=>by
   subst z;have:=qeW f.apart (mem_of_lookup z1) (mem_of_lookup C);exact q (ba ((this▸B).symm.trans a))),p.vr z3⟩
theorem aD(b:xc S x=J i)(h:lo<=i)(r:R w Q W I s.heap)(a:Lc w Q X N S lo O W s.heap)(e:VR w W s.heap v T):
 Qa (bb pg w) A (E9 X x T) (λu=>PA w Q X N S lo W s I (O.set i (J v))) No s:=by
 refine aa λf=>?_;rcases a.own x i b h with d|⟨d,c,l,j,c2,c3,k⟩
 ·exact f (ZC b d r a e)
 ·exact f (tF b d j c2 c3 k r a e)
theorem mh{p:Om}(b:xc S x=J i)(c:lo<=i)(r:R w Q W I s.heap)(a:Lc w Q X N S lo O W s.heap)(d:VR w W s.heap v T):
 Qa (bb pg w) A (assign (.Name x p) X T) (λu=>PA w Q X N S lo W s I (O.set i (J v))) No s:=by
 refine U (arm_assign_Name _ _ _ _) ?_;unfold nS;exact ga (lc (ga (Kb (EA (ga (Da (aD b c r a d) (λu u h=>EA h) λu u x=>x))))))
theorem PA.after{s1 a:Ea}(t:Bh s s1)(k:Kp N W s.heap s1.heap W)(x:PA w Q X N S lo W s1 I O a):PA w Q X N S lo W s I O a:=by
 obtain⟨b,c,d,e⟩:=x;exact⟨t.trans b,k.trans c,d,e⟩
theorem Pu:∀{k:List (Bb×Om)}{is:List Nat}{h:List V}{d:List wa}{O f:Me}{s:Ea},(k.map λp=>xc S p.1)=is.map J->(∀i∈is,lo<=i)->R w Q W I s.heap->Lc w Q X N S lo O W s.heap->ue w W s.heap h d->xe is h O=J f->
 Qa (bb pg w) A (GI (k.map λp=>assign (.Name p.1 p.2) X) d) (λu=>PA w Q X N S lo W s I f) No s:=by
 intro k
 induction k with
 |nil=>
  intro is h d O f s l m r b x e;refine aa λc=>?_
  induction is using ma with
  |cons y z=>refine c ?_;clear c;exact zc l.symm (Bc _ _)|nil=>
   refine c ?_;clear c;refine aa λc=>?_
   induction h using ma with
   |cons y z=>refine c ?_;clear c;exact ja e|nil=>refine c ?_;clear c;rw[<-ba e,(x.wF:d=[])];exact ao ⟨rfl,Kp.refl,r,b⟩
 |cons p k o=>
  intro is h d O f s l m r b x e;refine aa λc=>?_
  induction is using ma with
  |nil=>refine c ?_;clear c;exact zc l (Bc _ _)|cons i is=>
   refine c ?_;clear c;refine aa λc=>?_
   induction h using ma with
   |nil=>refine c ?_;clear c;exact ja e|cons v q=>
    refine c ?_;clear c;refine aa λc=>?_;obtain⟨a,as,rfl,t,y⟩:=x.wF;refine c ?_;clear c;replace e:(if i<O.length then xe is q (O.set i (J v))else Y)=J f:=e
    split at e
    ·exact Zn (Da (mh (Xd l) (m i sa) r b t) (λu s1 z=>by
      obtain⟨B,k1,C,D⟩:=z;exact Da (o (wd l) (λj P=>m j (oa _ P)) C D (k1.vrs y) e) (λu P j=>PA.after B k1 j) λu u x=>x) λu u x=>x)
    ·exact ja e
end
section
variable {i:Nat} {t:CT} {T:wa} {h h':qb} {I:Ca} {Q:It} {a b:Int}
variable [D:Av]
variable {w:zb} {G:qb} {A:Yb} {P:zj} {E:Ca->Prop} {lo:Nat} {S W:Me} {K:Ue} {C:Ch} {n:Nat} {g:Gl} {X:List Ca} {F B:St} {s:Ea} {v:V} {L:Ca} {N:Sc}
theorem Xl{x:Bb}(h:Us N x=J i):xc N.sl x=J i:=ab h λu u h=>ab h λu u h=>h
theorem DG(h:free S i=Z):i<S.length:=by
 refine Nat.lt_of_not_le λl=>?_;unfold free at h;rw[Rc l]at h;exact ia h
theorem Oi{d:Type}{c:Prop} [Decidable c]{x:Option d}{y:d}(e:(if c then x else Y)=J y):c/\x=J y:=by
 by_cases h:c
 ·rw[Dd h]at e;exact⟨h,e⟩
 ·rw[fe h]at e;exact ja e
theorem YJ:∀{is:List Nat}{c:List V}{S W:Me},Dk is c S=J W->xe is c S=J W:=by
 intro is
 induction is with
 |nil=>intro c S W h;induction c using ma<;>exact h|cons i is d=>
  intro c S W h
  induction c using ma with
  |nil=>exact h|cons v e=>
   have q:=Oi (x:=Dk is e (S.set i (J v))) h;exact(Dd (DG q.1)).trans (d q.2)
theorem mS(h:Kj t v S=J W):ql t v S=J W:=by
 induction t with
 |x i=>
  have q:=Oi (x:=J (S.set i (J v))) h;exact(Dd (DG q.1)).trans q.2
 |t is=>exact ab h λc d e=>Fa.mpr ⟨c,d,YJ e⟩
theorem fO:∀{c:List Expr}{is:List Nat},Mz N c=J is->
 ∃d:List (Bb×Om),c=d.map (λp=>dR p.1 p.2)/\(d.map λp=>xc N.sl p.1)=is.map J:=by
 intro c
 induction c with
 |nil=>intro is h;exact⟨[],rfl,by refine Ed (ba h) ?_;rfl⟩|cons e c j=>
  intro is h;refine ab h λi q f=>qe f λy k l=>ab q λx m o=>(aa λr=>?_);obtain⟨d,u,f⟩:=j k;obtain⟨p,rfl⟩:=Ll m;refine r ?_;exact⟨(x,p)::d,by refine U u ?_;rfl,by exact Ed l (U Vb (U Vb (U f (U (Xl o) rfl))))⟩
theorem Er(c:List (Bb×Om)):assignEach (c.map λp=>dR p.1 p.2) P=c.map λp=>(ua,assign (.Name p.1 p.2) P):=by
 induction c with
 |nil=>rfl|cons p c d=>refine U Vb (U Vb (Ed d ?_));rfl
theorem Fp:∀{is:List Nat}{c:List V}{S W:Me},xe is c S=J W->is.length=c.length:=by
 intro is
 induction is with
 |nil=>intro c S W h;induction c using ma with|nil=>rfl|cons u y=>exact ja h
 |cons i is d=>
  intro c S W h
  induction c using ma with
  |nil=>exact ja h|cons v e=>exact Gc nc (d (Oi (x:=xe is e (S.set i (J v))) h).2)
theorem iM{j:List (Bb×Om)}{is:List Nat}{q:List V}{k:Nat}{p:Om}(O:Eg n A)(y:(j.map λp=>xc N.sl p.1)=is.map J)(hg:Vt lo (.t is)=Z)(r:R w G X F s.heap)(c:Lc w G P E N.sl lo S X s.heap)(xv:VR w X s.heap (.t q) T)(e:xe is q S=J W):
 Qa (bb pg w) A (assign (.Tuple (j.map λp=>dR p.1 p.2) k p) P T) (λu=>PA w G P E N.sl lo X s F W) No s:=by
 refine aa λnq=>?_;obtain⟨a,vs,m,rfl,x1,ea,la,z⟩:=xv.wF;refine nq ?_;have l:j.length=is.length:=by have:=Gc nj y;rwa [ya,ya]at this
 refine U (O5 _ _ _ _ _) (U (Er _) ?_);refine ga (lc (V2 O.hh (items:=vs.toArray) (lf ea) (by exact U (ya _) (U Hb (Ed z.length (U l (U (Fp e) rfl))))) ?_ λh' d=>?_))
 ·refine U (propext Yy) ?_
  intro x f;obtain⟨p,_,rfl⟩:=Rb.mp f
  rfl
 ·have f:∀a o,s.heap.get? a=J o->h'.get? a=J o:=λa o e=>d a o (ic (qc e)) e
  exact U Qd (Da (Pu (A:=A) (s:={s with heap:=h'}) y (λi hi=>Nl (md.mp hg i hi)) (r.wI f) (c.wI r f) (z.mono (Ja _) λa o e u=>f a o e) e) (λu s2 p2=>PA.after (s1:={s with heap:=h'}) rfl (Kp.wI f) p2) λu u x=>x)
theorem jM{d:Expr}(z:Eg n A)(f:Xk N d=J t)(j:Vt lo t=Z)(r:R w G X F s.heap)(c:Lc w G P E N.sl lo S X s.heap)(y:VR w X s.heap v T)(e:ql t v S=J W):
 Qa (bb pg w) A (assign d P T) (λu=>PA w G P E N.sl lo X s F W) No s:=by
 unfold Xk at f;refine aa λl=>?_
 induction m:Vv d with
 |some x=>
  refine l ?_;clear l;rw[m]at f;refine qe f λi q o=>?_;obtain⟨p,rfl⟩:=Ll m;rw[<-o]at e j;have u:=El (x:=S.set i (J v)) e;exact Ed u.2 (mh (Xl q) (Nl j) r c y)
 |none=>
  refine l ?_;clear l;rw[m]at f;refine ab f λes q o=>qe o λis u O=>?_;obtain⟨k,p,rfl⟩:=Mw q;rw[<-O]at e j;refine ab e λxs e1 e2=>?_;obtain⟨ns,rfl,h2⟩:=fO u;exact iM z h2 j r c (Vl e1▸y) e2
def sj(w:zb)(X:List Ca)(h:qb)(I:Ca)(i:Nat)(z:It):Prop:=match z with|.st c=>(∃t d m,h.get? t=J (gu d m)/\ue w X h c d/\h.IsTupleIter I t i)\/(∃a b,c=Jo a b/\i<=(b - a).toNat/\gn h I (a+(i:Int)) (((b - a).toNat:Int) - (i:Int)) 1)|.dyn l=>∃a,X[l]?=J a/\h.IsListIter I a i
theorem Eh(x:sj w X h I i Q):∃o,h.get? I=J o/\¬Jh o/\(∃j,o.data=.fields j):=by
 refine aa λf=>?_
 induction Q with
 |st k=>
  refine f (aa λf=>?_);rcases x with⟨t,j,m,_,_,o,e,c,d⟩|⟨a,b,_,_,e⟩
  ·exact f (⟨o,e,by simp[Jh,d,c],_,d⟩)
  ·exact f (⟨_,e,by simp[Jh],_,rfl⟩)
 |dyn l=>
  refine f (aa λf=>?_);obtain⟨a,_,o,e,c,d⟩:=x;exact f (⟨o,e,by simp[Jh,d,c],_,d⟩)
theorem OR.notFields{o:O}{a:Ca}(z:OR w X h o a){j:wD}(e:h.get? a=J j){k:Array wa}(d:j.data=.fields k):False:=by
 induction o with
 |list c=>obtain⟨k,n,f,_⟩:=z;rw[ba (e.symm.trans f)]at d;exact nomatch d|idict m=>obtain⟨o,c,f,⟨p,q,_,l,_⟩,_⟩:=z;rw[ba (e.symm.trans f),l]at d;exact nomatch d|h m=>obtain⟨c,n,f,_⟩:=z;rw[ba (e.symm.trans f)]at d;exact nomatch d|inst c l=>obtain⟨m,_,f⟩:=z;rw[ba (e.symm.trans f)]at d;exact nomatch d
theorem sj.notIn(x:sj w X h I i Q)(r:R w G X F h):I∉X:=λq=>by
 obtain⟨o,e,_,c,d⟩:=Eh x;obtain⟨j,f,_,_,z⟩:=r.mem q;exact z.notFields e d
theorem sj.keep{f:List Ca}(x:sj w X h I i Q)(q:X<+:f)(j:∀a o,h.get? a=J o->Jh o->h'.get? a=J o)(hI:∀o,h.get? I=J o->h'.get? I=J o):sj w f h' I i Q:=by
 induction Q with
 |st u=>
  refine aa λp=>?_;rcases x with⟨t,r,m,k,l,o,e,c,d⟩|⟨a,b,k,l,e⟩
  ·exact p (.inl ⟨t,r,m,j _ _ k rfl,l.mono q j,o,hI _ e,c,d⟩)
  ·exact p (.inr ⟨a,b,k,l,hI _ e⟩)
 |dyn l=>
  refine aa λp=>?_;obtain⟨a,k,o,e,c,d⟩:=x;exact p (⟨a,Dm q k,o,hI _ e,c,d⟩)
def Ok(I:Ca)(h h':qb):Prop:=∀b o,b≠I->h.get? b=J o->h'.get? b=J o
theorem CU(h:i<(b - a).toNat):(Jo a b)[i]?=J (.int (a+(i:Int))):=by
 simp[Jo,tt,h]
inductive TF(w:zb)(X:List Ca)(I:Ca)(i:Nat)(Q:It)(s:Ea)(o:Option V)(q:Option wa)(s':Ea):Prop
 |done:o=Y->q=Y->Bh s s'->Ok I s.heap s'.heap->TF w X I i Q s o q s'|item (v:V) (T:wa):o=J v->q=J T->Bh s s'->Ok I s.heap s'.heap->VR w X s'.heap v T->sj w X s'.heap I (i+1) Q->TF w X I i Q s o q s'
theorem xP(h:¬i<(b - a).toNat):(Jo a b)[i]?=Y:=by
 simp[Jo,tt];lia
theorem WE(j:Eg n A)(f:gn s.heap I (a+(i:Int)) (((b - a).toNat:Int) - (i:Int)) 1):
 Qa (bb pg w) A (Dp (.ref I)) (TF w X I i (.st (Jo a b)) s (Jo a b)[i]?) No s:=by
 by_cases c:i<(b - a).toNat
 ·refine wpAny_pyNext_range_item f (by lia) λh' d k=>.item _ _ (CU c) rfl rfl (λb o n e=>(k.2 b n).trans e) (.int _ _) (.inr ⟨a,b,rfl,c,?_⟩)
  refine U (show a+((i+1:Nat):Int)=a+(i:Int)+1 by lia) (U (show(((b - a).toNat:Int) - ((i+1:Nat):Int))=((b - a).toNat:Int) - (i:Int) - 1 by lia) ?_);exact d
 ·exact wpAny_pyNext_range_end j.hh f (by lia) λh' d=>.done (xP c) rfl rfl λb o n e=>d b o n e
theorem UB{c:wD}(e:h.get? I=J c)(f:¬Jh c)(k:Ok I h h'):∀a o,h.get? a=J o->Jh o->h'.get? a=J o:=λa o d j=>k a o (λq=>f (ba (e.symm.trans (q▸d))▸j)) d
theorem dH(y:Eg n A)(r:R w G X F s.heap)(x:sj w X s.heap I i Q){o:Option V}(e:zm Q i F=J o):
 Qa (bb pg w) A (Dp (.ref I)) (TF w X I i Q s o) No s:=by
 refine aa λc=>?_;obtain⟨oI,z,O,_⟩:=Eh x;refine c ?_;clear c;have d:=λh'=>UB (h':=h') z O
 induction Q with
 |st xs=>
  refine Ed (ba e) (aa λc=>?_);rcases x with⟨t,u,m,p,f,l⟩|⟨a,b,rfl,f,l⟩
  ·refine c ?_
   clear c
   induction q:xs[i]? with
   |none=>exact wpAny_pyNext_tuple_end y.hh l (items:=u.toArray) (lf p) (by refine U jc ?_;exact f.none_of q) λh' j=>.done rfl rfl rfl λb o n e=>j b o n e|some v=>
    refine aa λc=>?_;obtain⟨T,y1,y2⟩:=f.get q;refine c ?_;clear c;refine wpAny_pyNext_tuple_item l (items:=u.toArray) (lf p) (x:=T) (by refine U jc ?_;exact y1) λh' j hs=>?_;have k:Ok I s.heap h':=λb o n e=>(hs.2 b n).trans e;exact .item _ _ rfl rfl rfl k (y2.mono (Ja _) (d h' k)) (.inl ⟨t,u,m,d h' k _ _ p rfl,f.mono (Ja _) (d h' k),j⟩)
  ·refine c ?_
   clear c;exact WE y l
 |dyn l=>
  refine aa λc=>?_;obtain⟨a,p,f⟩:=x;refine c ?_;clear c;refine qe e λxs q0 q=>(Ed q (aa λc=>?_));obtain⟨u,m,q,q2,q3⟩:=r.obj l _ a (EB q0) p;refine c ?_;clear c
  induction q':xs[i]? with
  |none=>exact wpAny_pyNext_list_end y.hh f (ve q) (by refine U jc ?_;exact q3.none_of q') λh' j=>.done rfl rfl rfl λb o n e=>j b o n e|some v=>
   refine aa λc=>?_;obtain⟨T,y1,y2⟩:=q3.get q';refine c ?_;clear c;refine wpAny_pyNext_list_item f (ve q) (x:=T) (by refine U jc ?_;exact y1) λh' j hs=>?_;have k:Ok I s.heap h':=λb o n e=>(hs.2 b n).trans e;exact .item _ _ rfl rfl rfl k (y2.mono (Ja _) (d h' k)) ⟨a,p,j⟩
inductive VK [D:Av](w:zb)(X:List Ca)(s:Ea)(Q:It)(q:wa)(s':Ea):Prop
 |mk:q=.ref s.heap.objs.size->Bh s s'->(∀b o,s.heap.get? b=J o->s'.heap.get? b=J o)->sj w X s'.heap s.heap.objs.size 0 Q->VK w X s Q q s'
theorem Gz{x:wa}(r:R w G X F s.heap)(f:VR w X s.heap v x)(e:fj v F=J Q):
 Qa (bb pg w) A (nw x) (λq c=>VK w X s Q q c) No s:=by
 refine aa λc=>?_
 induction v using V.casesOn with
 |t p=>
  refine c ?_;clear c;refine aa λc=>?_;obtain⟨t,q,m,rfl,j,d,l,k⟩:=f.wF;refine c ?_;clear c;refine Ed (ba e) ?_;exact Di (lf d) ⟨rfl,rfl,λb o e=>Ba _ e,.inl ⟨t,q,m,Ba _ d,k.mono (Ja _) λa o e y=>Ba _ e,_,Oa _ rfl,rfl,rfl⟩⟩
 |rng a b=>
  refine c ?_;clear c;refine aa λc=>?_;obtain⟨y,t,u,z,rfl,l⟩:=f.wF;refine c ?_;clear c;refine qe e λp j k=>(aa λc=>?_);obtain⟨O,rfl⟩:=Os j;refine c ?_;clear c;refine Ed k ?_;refine U2 l (small_one (by lia) (by lia) (by lia) (by lia)) ⟨rfl,rfl,λb o e=>Ba _ e,.inr ⟨a,b,rfl,td _,?_⟩⟩;show gn _ _ _ _ _
  refine U (To a b) ?_
  simpa using Oa s.heap (o:={cls:=.type "range_iterator",data:=.fields #[ag a,ag ((b - a).toNat:Int),ag 1]}) rfl
 |ref l=>
  refine c ?_;clear c;refine qe e λp j k=>(Ed k (aa λc=>?_));obtain⟨a,q,m,rfl,d,u,y,z⟩:=r.list j f;refine c ?_;clear c;exact W4 (ve u) ⟨rfl,rfl,λb o e=>Ba _ e,a,d,_,Oa _ rfl,rfl,rfl⟩
 |_=>refine c ?_;clear c;exact ja e
end
section
variable [X:Av]
noncomputable def An(b:zj)(z:List (Bb×xd))(y:List (Bb×Ca)):List (Bb×Ca):=match z,y with|[],a=>a|(n,k)::r,a=>An b r (if k== .free then(n,(b.cells.lookup n).getD 0)::a else a)
theorem WL(env:zj):∀(names:List (Bb×xd))(acc:List (Bb×Ca))(x:Bb)(c:Ca),(x,c)∈An env names acc->(x,c)∈acc\/((x,Ic)∈names/\c=(env.cells.lookup x).getD 0):=by
 intro names
 induction names with
 |nil=>
  rintro _ _ _ h;exact .inl h
 |cons pq0 r ih=>
  obtain⟨n,k⟩:=pq0;rintro acc x c h;rcases ih _ x c h with q|q
  ·split at q
   ·rename_i hk
    rcases fb.mp q with e|e
    ·obtain⟨rfl,rfl⟩:=Ta e
     have:k=.free:=by simpa using hk
     subst this;exact .inr ⟨sa,rfl⟩
    ·exact .inl e
   ·exact .inl q
  ·exact .inr ⟨oa _ q.1,q.2⟩
theorem UL(c:zj):∀(a:List (Bb×xd))(b:List (Bb×Ca))(p:Bb×Ca),p∈b->p∈An c a b:=by
 intro a
 induction a with
 |nil=>
  rintro _ _ h;exact h
 |cons d r e=>
  obtain⟨n,k⟩:=d;rintro b p h;exact e _ p (by split;exact oa _ h;exact h)
theorem VL(b:zj):∀(a:List (Bb×xd))(c:List (Bb×Ca))(x:Bb),(x,Ic)∈a->(x,(b.cells.lookup x).getD 0)∈An b a c:=by
 intro a
 induction a with
 |nil=>
  rintro _ _ _
  first|contradiction|exact ja (by assumption)
 |cons d r f=>
  obtain⟨n,k⟩:=d;rintro c x h;rcases fb.mp h with e|e
  ·obtain⟨rfl,rfl⟩:=Ta e
   exact UL b r _ _ (by exact sa)
  ·exact f _ x e
theorem TD(env:zj)(hp:env.cells.Pairwise λx y=>x.2≠y.2):∀(names:List (Bb×xd))(acc:List (Bb×Ca)),(names.map λx=>x.1).Nodup->(∀x k,(x,k)∈names->k=Ic->∃c,env.cells.lookup x=J c)->
 (∀p∈acc,env.cells.lookup p.1=J p.2/\p.1∉names.map λx=>x.1)->acc.Pairwise (λx y=>x.2≠y.2)->(An env names acc).Pairwise λx y=>x.2≠y.2:=by
 intro names
 induction names with
 |nil=>
  rintro _ _ _ _ h;exact h
 |cons pq0 r ih=>
  obtain⟨n,k⟩:=pq0;rintro acc nd hc ha h;rw[Vb,Fc]at nd;show(An env r (if k== .free then(n,(env.cells.lookup n).getD 0)::acc else acc)).Pairwise _
  split
  ·rename_i hk
   obtain⟨c,hcn⟩:=hc n k sa (by simpa using hk:k=.free);refine ih _ nd.2 (λx k hx=>hc x k (oa _ hx)) ?_ ?_
   ·intro p hp'
    rcases fb.mp hp' with e|e
    ·subst e;exact⟨by simp[hcn],nd.1⟩
    ·exact⟨(ha p e).1,λq=>(ha p e).2 (oa _ q)⟩
   ·refine Ag.mpr ⟨λp hp'=>?_,h⟩
    obtain⟨e1,e2⟩:=ha p hp';intro e;have:=qeW hp (mem_of_lookup hcn) ((by refine Ed e ?_;simp[hcn]:p.2=c)▸mem_of_lookup e1);exact e2 (by refine Ed this ?_;exact sa)
  ·exact ih _ nd.2 (λx k hx=>hc x k (oa _ hx)) (λp hp'=>⟨(ha p hp').1,λq=>(ha p hp').2 (oa _ q)⟩) h
theorem UD(a:zj)(d:Scope)(f:∀x k,(x,k)∈d.names->k=Ic->∃c,a.cells.lookup x=J c):pY d a=pure (An a d.names []):=by
 unfold pY;have l:∀(b:List (Bb×xd))(e:List (Bb×Ca)),(∀x k,(x,k)∈b->k=Ic->∃c,a.cells.lookup x=J c)->
  (forIn b e λ(x:Bb×xd) r=>(do
   if x.2== .free then do
    let c<-cellOf a x.1
    pure (vf ((x.1,c)::r))
   else pure (vf r):Yl (ForInStep (List (Bb×Ca)))))=pure (An a b e):=by
  intro b
  induction b with
  |nil=>intro e _;rfl|cons p r i=>
   intro e f;obtain⟨n,k⟩:=p;refine U (tn _ _ _ _) ?_;by_cases j:k=.free
   ·subst j
    obtain⟨c,g⟩:=f n _ sa rfl;show _=pure (An a r ((n,(a.cells.lookup n).getD 0)::e))
    simp only[(by unfold cellOf;exact U g rfl:cellOf a n=pure c),beq_self_eq_true,if_true,g,Option.getD_some];exact i _ λx k h=>f x k (oa _ h)
   ·have c:(k==Ic)=ua:=by simpa using j
    show _=pure (An a r (if(k==Ic)=Z then(n,(a.cells.lookup n).getD 0)::e else e))
    simp only[c,dk,if_false];exact i _ λx k h=>f x k (oa _ h)
 exact(Gc (λm=>m>>=λc=>pure c) (l d.names [] f)).trans rfl
theorem Dg(h:qb)(o:wD):(h.push o).objs.size=h.objs.size+1:=ie ..
theorem Nn:∀(names:List (Bb×xd))(h:qb)(a:Ca),h.objs.size<=a->a<(bh h names).objs.size->((bh h names).get? a).isSome=Z:=by
 intro names
 induction names with
 |nil=>
  rintro h a h1 h2;exact zc h2 (Ud.mpr h1)
 |cons pq0 r ih=>
  obtain⟨n,k⟩:=pq0;rintro h a h1 h2;unfold bh at h2|-
  split
  ·rename_i hk
   rw[Dd hk]at h2;by_cases e:a=h.objs.size
   ·subst e
    refine U (Tp r _ _ _ (Oa h (o:={cls:=.type "cell",data:=.cell Y}) rfl)) ?_;rfl
   ·exact ih _ a (by refine U (Dg _ _) ?_;exact Nk h1 (cq e)) h2
  ·rename_i hk
   rw[fe hk]at h2;exact ih h a h1 h2
theorem uU:∀(a:List (Bb×xd))(h:qb),h.objs.size<=(bh h a).objs.size:=by
 intro a
 induction a with
 |nil=>
  rintro _;exact Gb _
 |cons b r c=>
  obtain⟨n,k⟩:=b;rintro h;unfold bh
  split
  ·exact Za (by refine U (Dg _ _) ?_;exact se _) (c _)
  ·exact c h
theorem ox:∀(b:List (Bb×xd))(h:qb)(a:Ca)(o:wD),(bh h b).get? a=J o->h.get? a=Y->o.data=.cell Y:=by
 intro b
 induction b with
 |nil=>
  rintro h a o e q;rw[show(bh h []).get? a=h.get? a from rfl,q]at e;exact ja e
 |cons f r g=>
  obtain⟨n,k⟩:=f;rintro h a o e q;unfold bh at e
  split at e
  ·by_cases z:a=h.objs.size
   ·subst z
    have:=Tp r _ _ _ (Oa h (o:={cls:=.type "cell",data:=.cell Y}) rfl);rw[this]at e;obtain rfl:=ba e;rfl
   ·refine g _ a o e ?_
    induction z2:(h.push {cls:=.type "cell",data:=.cell Y}).get? a with
    |none=>rfl|some i=>
     have d:=qc z2;rw[Dg]at d;have c:a<h.objs.size:=Nk (Nat.lt_succ_iff.mp d) z;unfold qaY at z2 q;rw[show(h.push {cls:=.type "cell",data:=.cell Y}).objs=h.objs.push {cls:=.type "cell",data:=.cell Y}from rfl,Array.getElem?_push_lt c]at z2;rw[Array.getElem?_eq_getElem c]at q;rw[z2]at q;exact ja q.symm
  ·exact g h a o e q
theorem Sk:∀(names:List (Bb×xd))(n:Nat)(acc:List (Bb×Ca)),∃new:List (Bb×Ca),Lj n names acc=new++acc/\(∀p∈new,n<=p.2/\(p.1,Gd)∈names)/\(∀x,(x,Gd)∈names->∃c,(x,c)∈new)/\new.Pairwise (λx y=>x.2≠y.2)/\
 (∀p∈new,p.2<n+(names.filter λx=>x.2== .cell).length):=by
 intro names
 induction names with
 |nil=>
  rintro n acc;exact⟨[],rfl,λp h=>(by cases h),λx h=>(by cases h),.nil,λp h=>(by cases h)⟩
 |cons pq0 r ih=>
  obtain⟨m,k⟩:=pq0;rintro n acc;unfold Lj
  split
  ·rename_i hk
   have hk':k=.cell:=by simpa using hk
   refine aa λnq=>?_;subst hk';obtain⟨new,e,h1,h2,h3,h4⟩:=ih (n+1) ((m,n)::acc);refine nq ?_;clear nq;refine⟨new++[(m,n)],by refine U e ?_;simp,λp hp=>?_,λx hx=>?_,?_,λp hp=>?_⟩
   ·refine aa λnq=>?_
    rcases Xb.mp hp with q|q
    ·refine nq ?_
     clear nq;have:=h1 p q;exact⟨Sf this.1,oa _ this.2⟩
    ·refine nq ?_
     clear nq;rw[Ra]at q;subst q;exact⟨Gb _,sa⟩
   ·rcases fb.mp hx with q|q
    ·cases q;exact⟨n,Ld _ sa⟩
    ·obtain⟨c,hc⟩:=h2 x q;exact⟨c,Je _ hc⟩
   ·refine Oo.mpr ⟨h3,by simp,λp hp q hq=>?_⟩
    rw[Ra]at hq;subst hq;have:=(h1 p hp).1;exact qi this
   ·have hl:((m,Gd)::r).filter (λx=>x.2== .cell)=(m,Gd)::r.filter (λx=>x.2== .cell):=by rfl
    refine U hl (U mc ?_);rcases Xb.mp hp with q|q
    ·exact rb (h4 p q) (Fd (by refine U (kL _ _ _) ?_;rfl))
    ·rw[Ra]at q;subst q;exact Yd (kh _)
  ·rename_i hk
   refine aa λnq=>?_;obtain⟨new,e,h1,h2,h3,h4⟩:=ih n acc;refine nq ?_;clear nq;refine⟨new,e,λp hp=>⟨(h1 p hp).1,oa _ (h1 p hp).2⟩,λx hx=>?_,h3,λp hp=>?_⟩
   ·rcases fb.mp hx with q|q
    ·obtain⟨rfl,rfl⟩:=Ta q;simp at hk
    ·exact h2 x q
   ·have hl:((m,k)::r).filter (λx=>x.2== .cell)=r.filter (λx=>x.2== .cell):=by simp at hk;simp[hk]
    exact U hl (h4 p hp)
theorem bw:∀(names:List (Bb×xd))(h:qb),(bh h names).objs.size=h.objs.size+(names.filter λx=>x.2== .cell).length:=by
 intro names
 induction names with
 |nil=>
  rintro _;exact rfl
 |cons pq0 r ih=>
  obtain⟨n,k⟩:=pq0;rintro h;unfold bh
  split
  ·rename_i hk
   refine U (ih _) (U (Dg _ _) ?_);have hk':k=.cell:=by simpa using hk
   subst hk';exact U (by rfl:((n,Gd)::r).filter (λx=>x.2== .cell)=(n,Gd)::r.filter λx=>x.2== .cell) (U mc (U (qr _ _ _) (U (pi 1 _) rfl)))
  ·rename_i hk
   exact U (ih _) (U (by simp at hk;simp[hk]:((n,k)::r).filter (λx=>x.2== .cell)=r.filter λx=>x.2== .cell) rfl)
theorem LB{e:Zi}{w:zb}{A:Yb}{E:wa->Ea->Prop}{b:Scope}{c:Ca}{g:List (Bb×Ca)}{d:Bb}{a:zj}{s:Ea}{Q:zj->Ea->Prop}
 (j:Q {scope:=b,locals:=s.heap.objs.size,globals:=c,cells:=Lj (s.heap.objs.size+1) b.names g,qual:=d,func:=Y,code:=a.code,frame:=a.frame,builtins:=a.builtins}
  {s with heap:=bh (s.heap.push {cls:=.type "dict",data:=.dict #[]}) b.names}):
 Qa (bb e w) A (qcy b c g [] d Y .none (J a)) Q E s:=by
 unfold qcy;refine ga (qfz (ga (wpAny_layCells _ (λh i f=>rfl) _ _ _ _ (U (show({s with heap:=s.heap.push {cls:=.type (if(J a).isSome=Z then "dict"else "frame"),data:=.dict #[]}}:Ea).heap.objs.size=s.heap.objs.size+1 from ie ..) (ga ?_)))));exact U Bx (ta (ta j))
end
section
variable {x:Bb} {P:Type}
variable [B:Av]
variable {w:zb} {S:qb} {A:Yb} {X:zj} {N:Ca->Prop} {lo:Nat} {Q I:Me} {K:Ue} {G:Ch} {n:Nat} {g:Gl} {O:List Ca} {F D:St} {s:Ea} {v:V} {L:Ca} {T W:Sc} {scope:Scope}
structure Gu(T:Sc)(scope:Scope)(W:Sc):Prop where
 kind:scope.kind=.function
 loc:∀x∈scope.names,x.2=.local->scope.names.lookup x.1=J .local
 free:∀x k,(x,k)∈scope.names->k=Ic->T.kinds.lookup x=J .cell\/T.kinds.lookup x=J .free
 wJ:∀x k,(x,k)∈scope.names->scope.names.lookup x=J k
 nd:(scope.names.map λx=>x.1).Nodup
 kinds:W.kinds=Et scope.names T.kinds
 sl:W.sl=T.sl++ah scope.names
theorem Ux(h:eM T scope=J W):Gu T scope W:=by
 refine ae h λq e=>?_;obtain rfl:=ba e;simp only[Ad,md,decide_eq_true_eq,beq_iff_eq]at q;refine aa λc=>?_;obtain⟨⟨⟨⟨⟨⟨⟨d,m⟩,o⟩,p⟩,f⟩,b⟩,r⟩,i⟩:=q;refine c ?_;refine⟨d,λx a j=>?_,λx k a l=>?_,λx k a=>b (x,k) a,i,rfl,rfl⟩
 ·have:=b x a;exact U this (U j rfl)
 ·subst l
  have:=f (x,Ic) a;simp only[beq_self_eq_true,Bool.not_true,NX,Bool.or_eq_true,beq_iff_eq]at this;exact this
theorem Sq{b a:List (Bb×xd)}:(Et b a).lookup x=(b.lookup x).map λk=>if(k== .free&&a.lookup x==J .cell)then Gd else k:=by
 induction b with
 |nil=>rfl|cons p r d=>
  obtain⟨n,k⟩:=p;unfold Et at d|-;refine U Vb ?_;by_cases e:(k==Ic&&a.lookup n==J Gd)=Z
  ·by_cases h:x=n
   ·refine aa λc=>?_
    subst h;refine c ?_;simp only[e,if_true,Mc,beq_self_eq_true,Vm]
   ·have S:(x==n)=ua:=by simpa using h
    simp only[e,if_true,Mc,S];exact d
  ·have c:(k==Ic&&a.lookup n==J Gd)=ua:=by simpa using e
   by_cases h:x=n
   ·subst h
    simp only[c,dk,if_false,Mc,beq_self_eq_true,Vm]
   ·have S:(x==n)=ua:=by simpa using h
    simp only[c,dk,if_false,Mc,S];exact d
theorem qx(a:X.scope.kind=.function)(b:X.scope.names=T.kinds):(BD scope X).names=Et scope.names T.kinds:=by
 delta BD Et
 simp only[a,beq_self_eq_true,Bool.and_true];refine fg λp u=>?_;unfold mn;exact U b rfl
theorem Pq{a:List (Bb×xd)}:x∈ah a↔∃k,(x,k)∈a/\(k=.local\/k=.cell):=by
 unfold ah;refine U (propext Rb) ?_
 constructor
 ·rintro⟨⟨y,k⟩,h,rfl⟩
  rw[Vc]at h;exact⟨k,h.1,by simpa using h.2⟩
 ·rintro⟨k,h,q⟩
  exact⟨(x,k),Vc.mpr ⟨h,by simpa using q⟩,rfl⟩
theorem TC{a:List Bb}:x∈a->∃i,xc a x=J i:=by
 induction a with
 |nil=>intro h;cases h|cons y r c=>
  intro h;show∃i,(match xc r x with|some i=>J (i+1)|none=>if y=x then J 0 else Y)=J i
  induction e:xc r x with
  |some i=>exact⟨i+1,rfl⟩|none=>
   rcases fb.mp h with q|q
   ·subst q;exact⟨0,by simp⟩
   ·obtain⟨i,b⟩:=c q;rw[e]at b;exact ja b
theorem Hp{a:List Bb}{i:Nat}(h:xc a x=J i):x∈a:=Ma (Tj h)
theorem BE{a b:List (Bb×P)}(h:∀p∈a,p.1≠x):(a++b).lookup x=b.lookup x:=by
 induction a with
 |nil=>rfl|cons p r c=>
  have:(x==p.1)=ua:=by simpa usingλq=>(h p sa) q.symm
  exact U Km (U Mc (U this (c λq d=>h q (oa _ d))))
theorem rh{l:List (Bb×P)}{c:P}(h:(x,c)∈l):∃a,l.lookup x=J a/\(x,a)∈l:=by
 induction l with
 |nil=>cases h|cons p r b=>
  by_cases q:x=p.1
  ·exact⟨p.2,by exact U Mc (U (show(x==p.1)=Z by simpa using q) rfl),by refine U q ?_;exact sa⟩
  ·rcases fb.mp h with e|e
   ·exact zc (by exact Ed e rfl) q
   ·obtain⟨a,d,f⟩:=b e
    exact⟨a,by refine U Mc (U (show(x==p.1)=ua by simpa using q) ?_);exact d,oa _ f⟩
noncomputable abbrev Xf(s:Ea)(scope:Scope):qb:=bh (s.heap.push {cls:=.type "dict",data:=.dict #[]}) scope.names
abbrev mo(s:Ea)(scope:Scope)(X:zj):zj:={scope:=BD scope X,locals:=s.heap.objs.size,globals:=X.globals,cells:=Lj (s.heap.objs.size+1) scope.names (An X scope.names []),qual:=X.qual,func:=Y,code:=X.code,frame:=X.frame,builtins:=X.builtins}
def XD(s:Ea)(scope:Scope)(a:Ca):Prop:=s.heap.objs.size<=a/\a<(Xf s scope).objs.size
theorem Po(a:Ca)(o:wD)(e:s.heap.get? a=J o):(Xf s scope).get? a=J o:=Tp _ _ _ _ (Ba _ e)
theorem yk{h:qb}{a:Ca}(b:h.objs.size<=a):h.get? a=Y:=by
 induction e:h.get? a with
 |none=>rfl|some o=>exact zc (qc e) (Ud.mpr b)
theorem aB(C:Gu T scope W)(hk:X.scope.names=T.kinds)(r:R w S O F s.heap)(E:Lc w S X N T.sl lo Q O s.heap):
 Lc w S (mo s scope X) (XD s scope) W.sl T.sl.length (Q++Ia (ah scope.names).length Y) O (Xf s scope)/\(mo s scope X).scope.names=W.kinds/\pY scope X=pure (An X scope.names []):=by
 have hfree:∀x k,(x,k)∈scope.names->k=Ic->∃c v,X.cells.lookup x=J c/\s.heap.IsCell c v/\(X.kindOf x=J .cell\/X.kindOf x=J .free):=λx k hx hf=>by
  have hq:=C.free x k hx hf;have hq':X.kindOf x=J .cell\/X.kindOf x=J .free:=by unfold mn;refine U hk ?_;exact hq
  rcases hq with q|q
  ·obtain⟨c,v,h1,h2⟩:=E.has x .cell (by refine U hk ?_;exact mem_of_lookup q) (.inl rfl)
   exact⟨c,v,h1,h2,hq'⟩
  ·obtain⟨c,v,h1,h2⟩:=E.has x .free (by refine U hk ?_;exact mem_of_lookup q) (.inr rfl)
   exact⟨c,v,h1,h2,hq'⟩
 have hclos:=UD X scope λx k hx hf=>(hfree x k hx hf).elim λc z=>z.elim λu z=>⟨c,z.1⟩;have hnames:(BD scope X).names=W.kinds:=by exact U (qx E.kind hk) (U C.kinds rfl)
 refine⟨?_,hnames,hclos⟩;refine aa λnq=>?_;obtain⟨new,e1,n1,n2,n3,n4⟩:=Sk scope.names (s.heap.objs.size+1) (An X scope.names []);refine nq ?_;have hsz:(Xf s scope).objs.size=s.heap.objs.size+1+(scope.names.filter λx=>x.2== .cell).length:=by
  exact U (bw _ _) (U (Dg _ _) rfl)
 have hkeep:=Po (s:=s) (scope:=scope);have hCd:(Xf s scope).get? s.heap.objs.size=J {cls:=.type "dict",data:=.dict #[]}:=Tp _ _ _ _ (Oa _ rfl);have hcl:∀x c,(x,c)∈An X scope.names []->(x,Ic)∈scope.names/\X.cells.lookup x=J c:=λx c h=>by
  rcases WL X scope.names [] x c h with q|⟨q1,q2⟩
  ·cases q
  ·obtain⟨c',v,h1,_⟩:=hfree x _ q1 rfl
   exact⟨q1,by refine U h1 (U q2 (U h1 ?_));rfl⟩
 have hlook:∀x,(x,Ic)∈scope.names->∃c v,(Lj (s.heap.objs.size+1) scope.names (An X scope.names [])).lookup x=J c/\X.cells.lookup x=J c/\s.heap.IsCell c v/\(X.kindOf x=J .cell\/X.kindOf x=J .free):=λx hx=>by
  refine aa λnq=>?_;obtain⟨c,v,h1,h2,h3⟩:=hfree x _ hx rfl;obtain⟨c',q1,q2⟩:=rh (VL X scope.names [] x hx);refine nq ?_;have:=(hcl x c' q2).2;rw[h1]at this;obtain rfl:=ba this;refine⟨c,v,?_,h1,h2,h3⟩;rw[e1,BE λp hp q=>?_]
  ·exact q1
  ·have:=C.wJ _ _ (n1 p hp).2
   rw[q,C.wJ _ _ hx]at this;cases this
 have hown:∀x,(x,Gd)∈scope.names->∃c,(Lj (s.heap.objs.size+1) scope.names (An X scope.names [])).lookup x=J c/\s.heap.objs.size+1<=c/\c<(Xf s scope).objs.size/\(Xf s scope).IsCell c Y:=λx hx=>by
  refine aa λnq=>?_;obtain⟨c,hc⟩:=n2 x hx;obtain⟨c',q1,q2⟩:=rh (l:=new++An X scope.names []) (Je _ hc);refine nq ?_;have hc':(x,c')∈new:=by
   rcases Xb.mp q2 with q|q
   ·exact q
   ·have:=C.wJ _ _ (hcl x c' q).1
    rw[C.wJ _ _ hx]at this;cases this
  have hlt:c'<(Xf s scope).objs.size:=by refine U hsz ?_;exact n4 _ hc'
  refine⟨c',by refine U e1 ?_;exact q1,(n1 _ hc').1,hlt,?_⟩;obtain⟨o,ho⟩:=Na.mp (Nn scope.names (s.heap.push {cls:=.type "dict",data:=.dict #[]}) c' (by refine U (Dg _ _) ?_;exact(n1 _ hc').1) hlt);exact⟨o,ho,ox scope.names _ c' o ho (yk (by refine U (Dg _ _) ?_;exact(n1 _ hc').1))⟩
 have hkind:∀x k,(mo s scope X).kindOf x=J k->∃k0,(x,k0)∈scope.names/\(k=k0\/(k0=.free/\k=.cell)):=λx k hx=>by
  have:(BD scope X).names.lookup x=J k:=hx;rw[hnames,C.kinds,Sq]at this
  induction q:scope.names.lookup x with
  |none=>rw[q]at this;exact ja this|some k0=>
   rw[q]at this;simp only[Vm,Bj]at this;refine⟨k0,mem_of_lookup q,?_⟩
   split at this
   ·rename_i z;simp at z;exact .inr ⟨z.1,this.symm⟩
   ·exact .inl this.symm
 have hkind2:∀x k0,(x,k0)∈scope.names->k0=.local\/k0=.cell->(mo s scope X).kindOf x=J k0:=λx k0 hx hl=>by
  show(BD scope X).names.lookup x=J k0
  refine U hnames (U C.kinds (U Sq (U (C.wJ _ _ hx) ?_)));rcases hl with q|q<;>subst q<;>rfl
 have hmeown:∀x i v,xc W.sl x=J i->x∈ah scope.names->(Q++Ia (ah scope.names).length Y)[i]?≠J (J v):=λx i v hs hx q=>by
  rw[C.sl,Wk]at hs;obtain⟨j,hj⟩:=TC hx;rw[hj]at hs;simp only[Bj]at hs;subst hs;have hlen:=E.len;rw[La (by lia),Te]at q
  split at q<;>(first|exact ja q|cases q)
 have hmeout:∀x i v,xc W.sl x=J i->x∉ah scope.names->(Q++Ia (ah scope.names).length Y)[i]?=J (J v)->xc T.sl x=J i/\Q[i]?=J (J v):=λx i v hs hx q=>by
  rw[C.sl,Wk]at hs
  induction z:xc (ah scope.names) x with
  |some j=>exact zc (Hp z) hx|none=>
   rw[z]at hs;have hs':xc T.sl x=J i:=hs;have:=Oy hs';rw[Xa (by refine U E.len ?_;exact this)]at q;exact⟨hs',q⟩
 refine⟨C.kind,E.globals,E.builtins,by refine U C.sl ?_;simp[E.len],⟨λu=>Y,⟨_,#[],0,hCd,rfl,λe he=>by simp at he,λx=>by rfl⟩,λx i v hs hl hm=>?_⟩,λx i v hs hl hm=>?_,⟨Hf r (Fb _),Rd r (Fb _),Gb _,by refine U hsz ?_;exact rb (pd _) (Nc _ _)⟩,λx k hx hl=>?_,?_,λx i hs hl=>?_,λa ha=>Rd r (yk ha.1),λa ha=>?_⟩
 ·refine aa λnq=>?_
  obtain⟨k0,h1,h2⟩:=hkind x _ hl;have:k0=.local:=by rcases h2 with q|⟨_,q⟩;exact q.symm;cases q
  subst this;exact nq (zc hm (hmeown x i v hs (Pq.mpr ⟨_,h1,.inl rfl⟩)))
 ·have hk0:∃k0,(x,k0)∈scope.names/\(k0=.cell\/k0=.free):=by
   rcases hl with hl|hl
   ·obtain⟨k0,h1,h2⟩:=hkind x _ hl
    rcases h2 with q|⟨q,_⟩
    ·exact⟨k0,h1,.inl q.symm⟩
    ·exact⟨k0,h1,.inr q⟩
   ·obtain⟨k0,h1,h2⟩:=hkind x _ hl
    rcases h2 with q|⟨_,q⟩
    ·exact⟨k0,h1,.inr q.symm⟩
    ·cases q
  refine aa λnq=>?_;obtain⟨k0,h1,h2⟩:=hk0;refine nq ?_;rcases h2 with q|q
  ·subst q;exact zc hm (hmeown x i v hs (Pq.mpr ⟨_,h1,.inr rfl⟩))
  ·refine aa λnq=>?_
   subst q;have hno:x∉ah scope.names:=λz=>by
    obtain⟨k,z1,z2⟩:=Pq.mp z;have a:=C.wJ _ _ z1;rw[C.wJ _ _ h1]at a;obtain rfl:=ba a;rcases z2 with z2|z2<;>cases z2
   obtain⟨g1,g2⟩:=hmeout x i v hs hno hm;obtain⟨c,v0,c1,c2,c3,c4⟩:=hlook x h1;obtain⟨c',val,d1,d2,d3⟩:=E.cells x i v g1 c4 g2;refine nq ?_;rw[c2]at d1;obtain rfl:=ba d1;exact⟨c,val,c1,d2.keeps hkeep,d3.mono (Ja _) λa o e u=>hkeep a o e⟩
 ·have hx':(x,k)∈Et scope.names T.kinds:=by refine Ed C.kinds (Ed hnames ?_);exact hx
  unfold Et at hx';refine aa λnq=>?_;obtain⟨⟨y,k0⟩,h1,h2⟩:=Rb.mp hx';have hy:y=x/\(k0=.cell\/k0=.free):=by
   simp only at h2
   split at h2
   ·rename_i z;simp at z;obtain⟨rfl,rfl⟩:=Ta h2;exact⟨rfl,.inr z.1⟩
   ·obtain⟨rfl,rfl⟩:=Ta h2;exact⟨rfl,hl⟩
  obtain⟨rfl,hy⟩:=hy;refine nq ?_;rcases hy with q|q
  ·refine aa λnq=>?_
   subst q;obtain⟨c,c1,_,_,c2⟩:=hown y h1;exact nq (⟨c,Y,c1,c2⟩)
  ·refine aa λnq=>?_
   subst q;obtain⟨c,v0,c1,c2,c3,_⟩:=hlook y h1;exact nq (⟨c,v0,c1,c3.keeps hkeep⟩)
 ·show(Lj _ _ _).Pairwise _
  refine U e1 (U (propext Oo) (⟨n3,TD X E.apart scope.names [] C.nd (λx k hx hf=>(hfree x k hx hf).elim λc z=>z.elim λu z=>⟨c,z.1⟩) (λp hp=>by cases hp) .nil,λp hp q hq e=>?_⟩));refine aa λnq=>?_;obtain⟨y,c⟩:=q;obtain⟨h1,h2⟩:=hcl y c hq;obtain⟨c',v,h3,h4,_⟩:=hfree y _ h1 rfl;refine nq ?_;rw[h2]at h3;obtain rfl:=ba h3;have:=h4.lt;have h5:=(n1 p hp).1;rw[e]at h5;exact zc this (Ud.mpr (Sf h5))
 ·have hx:x∈ah scope.names:=by
   rw[C.sl,Wk]at hs
   induction z:xc (ah scope.names) x with
   |some j=>exact Hp z|none=>rw[z]at hs;exact zc (Oy (show xc T.sl x=J i from hs)) (Ud.mpr hl)
  refine aa λnq=>?_;obtain⟨k,z1,z2⟩:=Pq.mp hx;refine nq ?_;rcases z2 with z2|z2
  ·subst z2;exact .inl (hkind2 x _ z1 (.inl rfl))
  ·refine aa λnq=>?_
   subst z2;obtain⟨c,c1,c2,c3,c4⟩:=hown x z1;exact nq (.inr ⟨hkind2 x _ z1 (.inr rfl),c,Y,c1,c4,Rd r (yk (Sf c2)),Sf c2,c3⟩)
 ·by_cases q:a=s.heap.objs.size
  ·subst q;refine U hCd ?_;rfl
  ·exact Nn scope.names _ a (by refine U (Dg _ _) ?_;exact Nk ha.1 (cq q)) ha.2
end
section
variable {h G:qb}
variable [C:Av]
variable {w:zb} {S:qb} {A:Yb} {X:zj} {T:Ca->Prop} {O:List Bb} {lo:Nat} {W P:Me} {K:Ue} {E:Ch} {n:Nat} {g:Gl} {Q:List Ca} {I N:St} {s:Ea} {v:V} {L D:Ca}
class inductive ni(w:zb)(S:qb)(A:Yb)(X:zj)(T:Ca->Prop)(O:List Bb)(lo:Nat)(W:Me):List Expr->List (St->Option (Bool×St))->Prop
 |nil:ni w S A X T O lo W [] []|cons {e es F Fs}:Zg w S A X T O lo W (isTrue e X (yc e X)) F->ni w S A X T O lo W es Fs->ni w S A X T O lo W (e::es) (F::Fs)
noncomputable def EH(z:List (St->Option (Bool×St)))(y:St):Option (Bool×St):=match z,y with|[],I=>J (Z,I)|F::a,I=>(F I).bind λp=>ln p.1 (EH a p.2) (J (ua,p.2))
theorem vQ{a:Bool->Ea->Prop}{b:wa->Ea->Prop}{d:U3}{s:Ea}:{e:List Expr}->a ua s->Qa d A (forIn e ua λc r=>if r=Z then do let ok<-isTrue c X (yc c X);pure (vf ok)else pure (vf r)) a b s:=by
 intro e
 induction e with
 |nil=>
  rintro h;exact U Bx (ta h)
 |cons c e f=>
  rintro h;exact U (tn _ _ _ _) (ga (U (fe ia) (ta (f h))))
noncomputable def mA(X:zj)(a:List Expr):Yl Bool:=forIn a Z λc r=>if r=Z then do let ok<-isTrue c X (yc c X);pure (vf ok)else pure (vf r)
theorem xQ{i:List Expr}{j:List (St->Option (Bool×St))}(h:ni w S A X T O lo W i j):Zg w S A X T O lo W (mA X i) (EH j):=by
 induction h with
 |nil=>exactλQ I s r d=>Ga.ret (wpAny_tests_nil (PB.wU r))| @cons e i F j h y z=>
  intro Q I s r d;refine(h Q I s r d).bind (t:=λb=>forIn i b λc r=>if r=Z then do let ok<-isTrue c X (yc c X);pure (vf ok)else pure (vf r)) (λb m c o l k p x=>Ga.ifB (λq=>?_) λq=>?_) λf q=>?_
  ·exact U (show b=Z from(x:b=m).trans q) (z c l o p (d.kx r k))
  ·exact U (show b=ua from(x:b=m).trans q) (Ga.ret (vQ (PB.wU p)))
  ·unfold mA
   exact U (tn _ _ _ _) (ga (U (Dd rfl) (ga (Da q (λa o u=>ta u) λu u x=>x))))
inductive PM(w:zb)(S:qb)(X:zj)(T:Ca->Prop)(O:List Bb)(lo:Nat)(W:Me)(D:Ca)(acc:List wa)(Q:List Ca)(s:Ea)(N:St)(vs:List V)(s':Ea):Prop
 |mk (ρ':List Ca) (vals:List wa) (m':Nat):Bh s s'->Kp (λa=>T a\/a=D) Q s.heap s'.heap ρ'->R w S ρ' N s'.heap->Lc w S X T O lo W ρ' s'.heap->s'.heap.get? D=J (listOf (acc++vals).toArray m')->D∉ρ'->ue w ρ' s'.heap vs vals->PM w S X T O lo W D acc Q s N vs s'
theorem PM.after{b:List wa}{s1 i:Ea}{c:List Ca}{j:List V}(t:Bh s s1)(k:Kp T Q s.heap s1.heap c)(p:PM w S X T O lo W D b c s1 N j i):PM w S X T O lo W D b Q s N j i:=by
 obtain⟨f,e,l,m,o,r,a,d,n,x⟩:=p;exact⟨f,e,l,t.trans m,(k.weaken λu q=>.inl q).trans o,r,a,d,n,x⟩
structure RX(S:qb)(T:Ca->Prop)(D:Ca)(acc:List wa)(Q:List Ca)(h:qb):Prop where
 at_:∃m,h.get? D=J (listOf acc.toArray m)
 out:D∉Q
 own:¬T D
 wK:S.get? D=Y
def f5(w:zb)(S:qb)(A:Yb)(X:zj)(T:Ca->Prop)(O:List Bb)(lo:Nat)(W:Me)(D:Ca)(t:Yl Unit)(r:St->Option (List V×St)):Prop:=
 ∀Q I s a b N,R w S Q I s.heap->Lc w S X T O lo W Q s.heap->RX S T D a Q s.heap->a.length+b.length<=4096->r I=J (b,N)->Qa (bb pg w) A t (λu=>PM w S X T O lo W D a Q s N b) No s
theorem RX.kp{a:List wa}{b:List Ca}{c:Ca->Prop}(d:RX S T D a Q h)(k:Kp c Q h G b)(f:¬c D):RX S T D a b G:=by
 obtain⟨m,e⟩:=d.at_;exact⟨⟨m,k.keep _ _ e d.out f⟩,λq=>(by rcases k.fresh _ q with q|q;exact d.out q;rw[e]at q;exact ja q.symm),d.own,d.wK⟩
theorem Lc.kpD(f:Lc w S X T O lo W Q h)(hD:¬T D)(t:∀o,h.get? D=J o->¬Jh o/\(∀v,o.data≠ .cell v))(y:∀b o,b≠D->h.get? b=J o->G.get? b=J o):Lc w S X T O lo W Q G:=by
 refine aa λl=>?_;obtain⟨m,hm,hv⟩:=f.ns;refine l ?_;have u:∀b z,h.get? b=J z->Jh z->G.get? b=J z:=λb z e im=>y b z (λq=>(t z (q▸e)).1 im) e;have j:∀c v,h.IsCell c v->G.IsCell c v:=λc v B=>by obtain⟨o,e,d⟩:=B;exact⟨o,y c o (λq=>(t o (q▸e)).2 v d) e,d⟩
 exact⟨f.kind,f.globals,f.builtins,f.len,⟨m,(by
  refine aa λl=>?_;obtain⟨o,a,d,e,q⟩:=hm;refine l ?_;exact⟨o,a,d,y _ _ (λq=>hD (q▸f.loc.2.2)) e,q⟩),λx i v a b c=>(by
  refine aa λl=>?_;obtain⟨d,p,r⟩:=hv x i v a b c;refine l ?_;exact⟨d,p,r.mono (Ja _) u⟩)⟩,λx i v a b c=>(by
  refine aa λl=>?_;obtain⟨c,d,p,r,F⟩:=f.cells x i v a b c;refine l ?_;exact⟨c,d,p,j _ _ r,F.mono (Ja _) u⟩),f.loc,λx k a b=>(by
  refine aa λl=>?_;obtain⟨c,v,p,r⟩:=f.has x k a b;refine l ?_;exact⟨c,v,p,j _ _ r⟩),f.apart,λx i a b=>(f.own x i a b).imp_right λR=>by obtain⟨q,c,v,p,r,F⟩:=R;exact⟨q,c,v,p,j _ _ r,F⟩,f.eoh,λa e=>by
  obtain⟨o,ho⟩:=Na.mp (f.eol a e);refine U (y a o (λq=>hD (q▸e)) ho) ?_;rfl⟩
theorem KX.kp{c:List Ca}(b:Lc w S X T O lo W Q h)(k:KX X.locals Q h G c):Kp T Q h G c:=k.toKp.weaken λa q=>by subst q;exact b.loc.2.2
theorem US{e:Expr}{F:St->Option (V×St)}(z:uc w S A X T O lo W (yc e X) F):
 f5 w S A X T O lo W D (do let _<-call (.builtin "list.append") [.ref D,<-yc e X];pure ()) (λI=>(F I).map λp=>([p.1],p.2)):=λQ I s B vs N r c d R e'=>qe e' λp e1 e2=>by
 obtain⟨rfl,rfl⟩:=Ta e2;refine ga (Da (z Q I s r c _ _ e1) (λa k p1=>?_) λu u x=>x);refine aa λu=>?_;obtain⟨f,t1,k1,r1,x1⟩:=p1;have j:=k1.kp c;have l:=d.kp j d.own;obtain⟨m,x⟩:=l.at_;refine u ?_;clear u;refine ga (append_at (s:=k) x (λG hs y=>ta ?_) (by refine U Hb (U zf ?_);exact Za (Za (Nc _ _) R) (by exact Ve _ _)));have t:∀b o,b≠D->k.heap.get? b=J o->G.get? b=J o:=λb o n e=>(hs.2 b n).trans e;have i:∀o,k.heap.get? D=J o->¬Jh o/\(∀v,o.data≠ .cell v):=λo e=>ba (x.symm.trans e)▸⟨Ct,λv q=>nomatch q⟩;have k2:Kp (λa=>T a\/a=D) f k.heap G f:=Kp.beside (wr:=λa=>a=D) (λa o n e=>t a o n e) λa q o e=>by subst q;exact⟨(i o e).1,.inr rfl,by refine U y ?_;rfl⟩
 exact⟨f,[a],m+1,t1.trans rfl,(j.weaken λa q=>.inl q).trans k2,r1.beside (wr:=λa=>a=D) (λa o n e=>t a o n e) λa q=>by subst q;exact⟨l.out,d.wK,λo e=>(i o e).1⟩,(c.kx r k1).kpD d.own i t,y.trans (by exact U (gL _ _) rfl),l.out,ue.one (k2.vr x1)⟩
theorem Lc.weaken(d:Lc w S X T O lo P Q h)(j:W.length=P.length)(f:∀(i:Nat)(v:V),W[i]?=J (J v)->P[i]?=J (J v)):Lc w S X T O lo W Q h:=by
 refine aa λk=>?_;obtain⟨m,e,l⟩:=d.ns;exact k (⟨d.kind,d.globals,d.builtins,j.trans d.len,⟨m,e,λx i v a b c=>l x i v a b (f i v c)⟩,λx i v a b c=>d.cells x i v a b (f i v c),d.loc,d.has,d.apart,d.own,d.eoh,d.eol⟩)
theorem SP{i:Nat}(h:free W i=Z):W.length=(W.set i (J v)).length/\∀(j:Nat)(x:V),W[j]?=J (J x)->(W.set i (J v))[j]?=J (J x):=
 ⟨(yb ..).symm,λj x q=>by
  have:i≠j:=λz=>by unfold free at h;rw[z,q]at h;exact zc h ia
  refine U (Xc this) ?_;exact q⟩
theorem bF:∀{is:List Nat}{b:List V}{W P:Me},Dk is b W=J P->W.length=P.length/\∀(j:Nat)(x:V),W[j]?=J (J x)->P[j]?=J (J x):=by
 intro is
 induction is with
 |nil=>intro b W P h;induction b using ma with|nil=>refine Ed (ba h) ?_;exact⟨rfl,λu u q=>q⟩|cons y z=>exact ja h
 |cons i is d=>
  intro b W P h
  induction b using ma with
  |nil=>exact ja h|cons v e=>
   have q:=Oi (x:=Dk is e (W.set i (J v))) h;have a:=SP (v:=v) q.1;have c:=d q.2;exact⟨a.1.trans c.1,λj x q=>c.2 j x (a.2 j x q)⟩
theorem EL{t:CT}(h:Kj t v W=J P):W.length=P.length/\∀(j:Nat)(x:V),W[j]?=J (J x)->P[j]?=J (J x):=by
 refine aa λa=>?_
 induction t with
 |x i=>
  refine a ?_;have q:=Oi (x:=J (W.set i (J v))) h;exact Ed (ba q.2) (SP q.1)
 |t is=>refine a ?_;exact ab h λc d b=>bF b
noncomputable def c7(a:Expr)(b:wa)(X:zj):Yl Unit:=do let _<-call (.builtin "list.append") [b,<-yc a X]
def innerT(e:Expr)(a:Nat)(d:Expr)(b:wa)(X:zj)(k:Yl Fin)(z:List gd):Yl Fin:=match z with
 |[]=>c7 d b X>>=λu=>k|c::y=>do
  let x<-yc c.iter X
  bk c.iter.pos
  if c.is_async !=0 then do
   let x<-foldedIterable c.iter x
   let it<-dj [x] (if c.is_async !=0 then asyncIter x else nw x)
   let _<-qcP (.compStart e (a+1) it b X) X
   k
  else do
   let x<-ix c.iter X x
   let it<-dj [x] (if c.is_async !=0 then asyncIter x else nw x)
   let _<-qcP (.compStart e (a+1) it b X) X
   k
theorem ZA{f:Expr}{b rest:List gd}{c a:Expr}{e:List Expr}{d:Scope}{i:Om}{k j:wa}:
 qbm (.ListComp f (b++⟨c,a,e,0⟩::rest) d i) b.length k j X=(do
  bk a.pos
  match<-Dp k with
  |none=>pure (.done .next)|some v=>
   Sp c k v
   assign c X v
   let ok<-mA X e
   if ok=Z then innerT (.ListComp f (b++⟨c,a,e,0⟩::rest) d i) b.length f j X (again (.compLoop (.ListComp f (b++⟨c,a,e,0⟩::rest) d i) b.length k j X)) rest
   else again (.compLoop (.ListComp f (b++⟨c,a,e,0⟩::rest) d i) b.length k j X)):=by
 have l:(b++(⟨c,a,e,0⟩:gd)::rest)[b.length+1]?=rest.head?:=by
  refine U (La (by exact se _)) ?_
  induction rest using ma<;>simp
 unfold qbm;simp only[(by simp:(b++(⟨c,a,e,0⟩:gd)::rest)[b.length]?=J ⟨c,a,e,0⟩),l]
 induction rest using ma with
 |nil=>rfl|cons m o=>rfl
end
section
variable {h G:qb} {i:Nat} {F:It} {C:Expr}
variable [z:Av]
variable {w:zb} {P:qb} {A:Yb} {W:zj} {eo:Ca->Prop} {lo:Nat} {O u:Me} {K:Ue} {t:Ch} {n:Nat} {g:Gl} {X:List Ca} {N S:St} {s:Ea} {v:V} {L D I:Ca} {sc:Sc}
theorem zN(x:sj w X h I i F):∃o,h.get? I=J o/\(o.cls=.type "list_iterator"\/o.cls=.type "tuple_iterator"\/o.cls=.type "range_iterator"):=by
 induction F with
 |st j=>
  rcases x with⟨f,k,m,_,_,o,e,c,d⟩|⟨a,b,_,_,e⟩
  ·exact⟨o,e,.inr (.inl c)⟩
  ·exact⟨_,e,.inr (.inr rfl)⟩
 |dyn l=>
  obtain⟨a,_,o,e,c,d⟩:=x;exact⟨o,e,.inl c⟩
theorem qY{v:wa}(c:v=.type "list_iterator"\/v=.type "tuple_iterator"\/v=.type "range_iterator"):∃a,v=.type a/\(a="list_iterator"\/a="tuple_iterator"\/a="range_iterator"):=c.elim (λh=>⟨_,h,.inl rfl⟩) λc=>c.elim (λh=>⟨_,h,.inr (.inl rfl)⟩) λh=>⟨_,h,.inr (.inr rfl)⟩
theorem DB{B:U3}{E:wa->Ea->Prop}{val:wa}{Q:Unit->Ea->Prop}(x:sj w X s.heap I i F)(h:Q () s):Qa B A (Sp C (.ref I) val) Q E s:=by
 obtain⟨o,e,c⟩:=zN x;unfold Sp
 induction C using Expr.casesOn<;>first|exact ta h|skip
 all_goals
  induction val<;>first|exact ta h|skip
  refine ga (T2 e ?_);obtain⟨oc,od,dt,sl⟩:=o;refine af ?_ h;obtain⟨nm,hc,hn⟩:=qY c;cases hc
  induction dt<;>first|rfl|(rcases hn with rfl|rfl|rfl<;>rfl)
def GoodK(w:zb)(P:qb)(A:Yb)(W:zj)(eo:Ca->Prop)(d:List Bb)(lo:Nat)(O:Me)(D:Ca)(a:Yl Fin->Yl Fin)(r:St->Option (List V×St)):Prop:=
 ∀(k:Yl Fin) X N s b c S(Q:Fin->Ea->Prop)(E:wa->Ea->Prop),R w P X N s.heap->Lc w P W eo d lo O X s.heap->RX P eo D b X s.heap->b.length+c.length<=4096->r N=J (c,S)->
  (∀e,PM w P W eo d lo O D b X s S c e->Qa (bb pg w) A k Q E e)->Qa (bb pg w) A (a k) Q E s
theorem Oq(r:R w P X N h)(x:sj w X h I i F)(b:P.get? I=Y)(k:Ok I h G):R w P X N G:=by
 obtain⟨o,e,c,_⟩:=Eh x;exact r.beside (wr:=λa=>a=I) (λa o n e=>k a o n e) λa q=>by subst q;exact⟨x.notIn r,b,λf d=>ba (e.symm.trans d)▸c⟩
theorem Nq{a:List Bb}(E:Lc w P W eo a lo O X h)(x:sj w X h I i F)(hI:¬eo I)(k:Ok I h G):Lc w P W eo a lo O X G:=by
 obtain⟨o,e,b,f,d⟩:=Eh x;exact E.kpD hI (λj c=>by cases e.symm.trans c;exact⟨b,λv q=>by rw[d]at q;cases q⟩) k
structure Kl(eo:Ca->Prop)(X:List Ca)(h G:qb)(ρ':List Ca):Prop where
 pre:X<+:ρ'
 fresh:∀a∈ρ',a∈X\/h.get? a=Y
 keep:∀a o,h.get? a=J o->a∉X->¬eo a->G.get? a=J o
 imm:∀a o,h.get? a=J o->Jh o->G.get? a=J o
theorem Kl.before{eo:Ca->Prop}{X ρ1 ρ2:List Ca}{h1 h2:qb}(x:Kp eo X h h1 ρ1)(y:Kl eo ρ1 h1 h2 ρ2):Kl eo X h h2 ρ2 where
 pre:=x.pre.trans y.pre
 fresh a ha:=(y.fresh a ha).elim (x.fresh a) λq=>.inr (by
  induction e:h.get? a with
  |none=>rfl|some o=>have:=x.live a (by refine U e ?_;rfl);rw[q]at this;exact zc this ia)
 keep a o e n1 n2:=y.keep a o (x.keep a o e n1 n2) (λq=>(x.fresh a q).elim n1 λq=>by rw[q]at e;exact ja e) n2
 imm a o e i:=y.imm a o (x.imm a o e i) i
theorem PE(x:sj w X h I i F)(k:Ok I h G):∀b a,h.get? b=J a->Jh a->G.get? b=J a:=by
 obtain⟨o,e,c,_⟩:=Eh x;exact UB e c k
theorem Js(x:sj w X h I i F)(k:Ok I h G):Kl (λa=>(eo a\/a=D)\/a=I) X h G X:=
 ⟨Ja _,λb h=>.inl h,λa o e b n=>k a o (λq=>n (.inr q)) e,PE x k⟩
theorem Ky{j:Nat}(x:sj w X h I i F)(k:Ok I h G)(c:sj w X G I j F):Kp (λa=>(eo a\/a=D)\/a=I) X h G X:=
 have b:=Js (eo:=eo) (D:=D) x k
 ⟨b.pre,b.fresh,b.keep,b.imm,λa e=>by
  obtain⟨o,d⟩:=Na.mp e;by_cases q:a=I
  ·obtain⟨l,f,_⟩:=Eh c;refine U q (U f ?_);rfl
  ·refine U (k a o q d) ?_;rfl⟩
inductive WK [z:Av](w:zb)(P:qb)(W:zj)(eo:Ca->Prop)(lo:Nat)(O:Me)(D:Ca)(I:Ca)(sc:Sc)(X:List Ca)(s:Ea)(acc:List wa)(vs:List V)(S:St)(q:Cr)(s':Ea):Prop
 |mk (ρ':List Ca) (vals:List wa) (m':Nat):q=.ok .next->Bh s s'->Kl (λa=>(eo a\/a=D)\/a=I) X s.heap s'.heap ρ'->R w P ρ' S s'.heap->Lc w P W eo sc.sl lo O ρ' s'.heap->s'.heap.get? D=J (listOf (acc++vals).toArray m')->D∉ρ'->ue w ρ' s'.heap vs vals->WK w P W eo lo O D I sc X s acc vs S q s'
def AX(a:List (St->Option (Bool×St)))(b:St->Option (List V×St))(N:St):Option (List V×St):=(EH a N).bind λq=>ln q.1 (b q.2) (J ([],q.2))
def Mx(a:CT)(O:Me)(c:Me->List (St->Option (Bool×St)))(d:Me->St->Option (List V×St))(v:V)(N:St):Option (List V×St):=(Kj a v O).bind λb=>AX (c b) (d b) N
theorem zV{B:List Bb}{l:List Expr}{Fs:List (St->Option (Bool×St))}{rr:St->Option (List V×St)}{T:Yl Fin->Yl Fin}(R:ni w P A W eo B lo O l Fs)(hK:GoodK w P A W eo B lo O D T rr):
 GoodK w P A W eo B lo O D (λk=>mA W l>>=λa=>if a=Z then T k else k) (AX Fs rr):=λk X N s x2 vs S Q E' r E d o e h=>ab e λp e1 y=>ga (Da (xQ R X N s r E _ _ e1) (λb s1 p1=>by
 obtain⟨x,t1,k1,r1,x1⟩:=p1;have E1:=E.kx r k1;have j:=k1.kp E;have d1:=d.kp j d.own
 induction b with
 |true=>
  rw[<-(x1:Z=p.1)]at y;exact hK k x p.2 s1 x2 vs S Q E' r1 E1 d1 o y λa q=>h a (q.after t1 j)
 |false=>
  rw[<-(x1:ua=p.1)]at y;obtain⟨rfl,rfl⟩:=Ta (ba y);obtain⟨m,hm⟩:=d1.at_;exact h s1 ⟨x,[],m,t1,j.weaken λa q=>.inl q,r1,E1,by refine U (Wb _) ?_;exact hm,d1.out,.nil⟩) λc c f=>f.elim)
theorem XG{T:Expr}{pre rest:List gd}{B:Expr}{x3:List Expr}{l:Scope}{x8:Om}{b:CT}{Fs:Me->List (St->Option (Bool×St))}{rr:Me->St->Option (List V×St)}
 (AK:Eg n A)(ht:Xk sc C=J b)(hg:Vt lo b=Z)
 (x9:∀v y,Kj b v O=J y->ni w P A W eo sc.sl lo y x3 (Fs y)/\GoodK w P A W eo sc.sl lo y D (λk=>innerT (.ListComp T (pre++⟨C,B,x3,0⟩::rest) l x8) pre.length T (.ref D) W k rest) (rr y))
 (y1:I≠D)(x5:¬eo I)(y4:P.get? I=Y):
 ∀(k i:Nat)(X:List Ca)(N:St)(s:Ea)(j:List wa)(vs:List V)(S:St),R w P X N s.heap->Lc w P W eo sc.sl lo O X s.heap->RX P eo D j X s.heap->sj w X s.heap I i F->j.length+vs.length<=4096->
  Ro k F i (Mx b O Fs rr) N=J (vs,S)->
  dh (bb pg w) A (.compLoop (.ListComp T (pre++⟨C,B,x3,0⟩::rest) l x8) pre.length (.ref I) (.ref D) W)
   (λq a=>WK w P W eo lo O D I sc X s j vs S q a) s:=by
 intro k
 induction k with
 |zero=>intro i X N s j vs S r E d x x6 e;exact ja e|succ k ih=>
  intro i X N s j vs S r E d x x6 e;refine ab e λo hi e=>Vg ?_;show Qa _ A ((qbm (.ListComp T (pre++⟨C,B,x3,0⟩::rest) l x8) pre.length (.ref I) (.ref D) W).onRaise λx=>do Oz x W;Up x) _ _ s
  refine DA (Cn λQ E0 hQ=>(U ZA (ga (lc (ga (Da (dH AK r x hi) (λq s1 np=>?_) λc c f=>f.elim))))));obtain⟨m,hm⟩:=d.at_
  induction np with
  |done ho hq t1 k1=>
   rw[ho]at e;refine U hq ?_;obtain⟨rfl,rfl⟩:=Ta (ba e);exact ta (hQ _ _ ⟨X,[],m,rfl,t1,Js x k1,Oq r x y4 k1,Nq E x x5 k1,by refine U (Wb _) ?_;exact k1 _ _ y1.symm hm,d.out,.nil⟩)
  |item v z9 ho hq t1 k1 xv x1=>
   rw[ho]at e;refine U hq (ab e λp e1 e2=>qe e2 λp2 hr e3=>ab e1 λy y2 hT=>?_);have r1:=Oq r x y4 k1;have z3:=Ky (eo:=eo) (D:=D) x k1 x1;have d1:RX P eo D j X s1.heap:=⟨⟨m,k1 _ _ y1.symm hm⟩,d.out,d.own,d.wK⟩;have hB:=x9 v y y2;refine ga (DB (s:=s1) x1 (ga (Da (jM AK ht hg r1 (Nq E x x5 k1) xv (mS y2)) (λc s2 p2=>?_) λc c f=>f.elim)));obtain⟨t2,k2,r2,E2⟩:=p2;have x2:sj w X s2.heap I (i+1) F:=x1.keep (Ja _) k2.imm λo e=>k2.keep I o e (x1.notIn r1) x5;have z6:p2.2=S:=Gc UF e3;have y5:vs=p.1++p2.1:=(Gc oj e3).symm;rw[y5,Ha]at x6;refine zV hB.1 hB.2 _ X N s2 j p.1 p.2 _ _ r2 E2 (d1.kp k2 d.own) (by lia) hT λs4 p4=>?_;obtain⟨y6,x7,m4,t4,f,r4,E4,z7,y7,y8⟩:=p4;have y9:=EL y2;have x4:sj w y6 s4.heap I (i+1) F:=x2.keep f.pre f.imm λo e=>f.keep I o e (x2.notIn r2) λq=>q.elim x5 y1;refine ta (hQ _ _ ⟨rfl,Oc (ih (i+1) y6 p.2 s4 (j++x7) p2.1 p2.2 r4 (E4.weaken y9.1 y9.2) ⟨⟨m4,z7⟩,y7,d.own,d.wK⟩ x4 (by refine U Ha (Ed y8.length ?_);lia) hr) λq s5 p5=>?_⟩);obtain⟨z8,y3,m5,g0,t5,kl,g5,g6,g7,g8,g9⟩:=p5;exact⟨z8,x7++y3,m5,g0,((t1.trans t2).trans t4).trans t5,Kl.before (z3.trans ((k2.weaken λa q=>.inl (.inl q)).trans (f.weaken λa q=>.inl q))) kl,z6▸g5,g6,by refine Ed (Dc _ _ _) ?_;exact g7,g8,y5▸(y8.mono kl.pre kl.imm).append g9⟩
end
section
variable {i:Nat} {B:It} {P Q W e:Expr} {S:List Expr} {T:Scope} {O:Om} {t:CT}
variable [q:Av]
variable {w:zb} {E:qb} {A:Yb} {X:zj} {N:Ca->Prop} {lo:Nat} {z u:Me} {K:Ue} {r:Ch} {n:Nat} {g:Gl} {G:List Ca} {C F:St} {s:Ea} {v:V} {L D I:Ca} {y:Sc}
theorem xJ{c:wa->Ea->Prop}{d:wa->Ea->Prop}(x:sj w G s.heap I i B)(h:d (.ref I) s):Qa (bb pg w) A (nw (.ref I)) d c s:=by
 refine aa λf=>?_
 induction B with
 |st j=>
  refine f (aa λf=>?_);rcases x with⟨t,k,m,_,_,e⟩|⟨a,b,_,_,e⟩
  ·exact f (wpAny_pyIter_tupleiter e h)
  ·exact f (wpAny_pyIter_rangeiter e h)
 |dyn l=>
  refine f (aa λf=>?_);obtain⟨a,_,e⟩:=x;exact f (wpAny_pyIter_listiter e h)
theorem oq{pre rest:List gd}{a:wa}{b:Cr->Ea->Prop}(x:sj w G s.heap I i B)
 (h:dh (bb pg w) A (.compLoop (.ListComp P (pre++⟨Q,W,S,0⟩::rest) T O) pre.length (.ref I) a X) b s):
 dh (bb pg w) A (.compStart (.ListComp P (pre++⟨Q,W,S,0⟩::rest) T O) pre.length (.ref I) a X) b s:=by
 refine Vg ?_;show Qa _ A ((compStart (.ListComp P (pre++⟨Q,W,S,0⟩::rest) T O) pre.length (.ref I) a X).onRaise λx=>do Oz x X;bk theWindowsPlace) _ _ s
 refine wpAny_notedAt ?_;unfold compStart;have c:(clausesOf (.ListComp P (pre++⟨Q,W,S,0⟩::rest) T O))[pre.length]?=J ⟨Q,W,S,0⟩:=by
  show(pre++(⟨Q,W,S,0⟩:gd)::rest)[pre.length]?=_
  simp
 simp only[c];refine ga (Ih (wpAny_ite ?_))
 split
 ·first
   |exact ga (ta (ta (xR rfl h)))|exact ta (xR rfl h)
 ·exact ga (Xj (ga (lc (ga (xJ x (ta (xR rfl h)))))))
theorem oJ{d:Nat}{m:List Bb}{a:St->Option (V×St)}(o:uc w E A X N m lo z (yc P X) a):
 GoodK w E A X N m lo z D (λk=>innerT e d P (.ref D) X k []) (λC=>(a C).map λp=>([p.1],p.2)):=λk G C s l x F b E' c f R hl e' hq=>
 ga (Da (US o G C s l x F c f R hl e') (λh j p=>hq j p) λh h j=>j.elim)
theorem Nz(h:∀a b c,e≠ .Set a b c)(X:zj)(x:wa):ix e X x=pure x:=by
 induction e using Expr.casesOn<;>first|rfl|exact zc rfl (h _ _ _)
theorem GJ(h:A.handled=Y):A.mark Y=A:=by obtain⟨b,d,fr,c,a⟩:=A;subst h;rfl
theorem Kl.off{h p l:qb}{j:List Ca}(k2:∀b o,h.get? b=J o->p.get? b=J o)(hI:h.get? I=Y)(c:R w E G C h)(k:Kl (λa=>(N a\/a=D)\/a=I) G p l j)(r3:R w E j F l)(m:∀a,N a\/a=D->(l.get? a).isSome=Z):Kp (λa=>N a\/a=D) G h l j:=
 have b:∀a o,h.get? a=J o->a∉G->¬(N a\/a=D)->l.get? a=J o:=λa o e n1 n2=>k.keep a o (k2 a o e) n1 λd=>d.elim n2 ((λa o e d=>by rw[d,hI]at e;exact ja e:∀a o,h.get? a=J o->a≠I) a o e)
 ⟨k.pre,λa ha=>(k.fresh a ha).imp_right λd=>(by
  induction f:h.get? a with
  |none=>rfl|some o=>rw[k2 a o f]at d;exact ja d.symm),b,λa o e f=>k.imm a o (k2 a o e) f,λa e=>by
  obtain⟨o,ho⟩:=Na.mp e;by_cases f:a∈G
  ·obtain⟨x,hx,_⟩:=r3.live (Lh k.pre f)
   refine U hx ?_;rfl
  ·by_cases x:N a\/a=D
   ·exact m a x
   ·refine U (b a o ho f x) ?_;rfl⟩
theorem QV{o rest:List gd}{Fs:Me->List (St->Option (Bool×St))}{rr:Me->St->Option (List V×St)}{k:Yl Fin}{b:Fin->Ea->Prop}{E':wa->Ea->Prop}{p:List wa}{vs:List V}{x:wa}
 (AK:Eg n A)(ht:Xk y Q=J t)(hg:Vt lo t=Z)
 (x1:∀v a,Kj t v z=J a->ni w E A X N y.sl lo a S (Fs a)/\GoodK w E A X N y.sl lo a D (λk=>innerT (.ListComp P (o++⟨Q,W,S,0⟩::rest) T O) o.length P (.ref D) X k rest) (rr a))
 (c:R w E G C s.heap)(f:Lc w E X N y.sl lo z G s.heap)(d:RX E N D p G s.heap)(x3:p.length+vs.length<=4096)(xv:VR w G s.heap v x)(x4:fj v C=J B)(e:Ro 5000 B 0 (Mx t z Fs rr) C=J (vs,F))
 (hq:∀a,PM w E X N y.sl lo z D p G s F vs a->Qa (bb pg w) A k b E' a):
 Qa (bb pg w) A (nw x) (λB s2=>Qa (bb pg w) A (do let _<-qcP (.compStart (.ListComp P (o++⟨Q,W,S,0⟩::rest) T O) o.length B (.ref D) X) X;k) b E' s2) E' s:=
 Da (Gz c xv x4) (λh s2 p2=>by
  obtain⟨x5,t2,k2,x2⟩:=p2;refine U x5 ?_;have j:s.heap.get? s.heap.objs.size=Y:=Fb _;refine aa λnq=>?_;obtain⟨m,hm⟩:=d.at_;refine nq ?_;have x6:¬N s.heap.objs.size:=λh=>by have:=f.eol _ h;rw[j]at this;exact zc this ia
  refine ga (wpAny_runOwn (U (GJ AK.hh) (oq x2 (Oc (XG AK ht hg x1 (λh=>by rw[<-h,j]at hm;exact ja hm:s.heap.objs.size≠D) x6 (Rd c j) 5000 0 G C s2 p vs F (c.wI k2) (f.wI c k2) ⟨⟨m,k2 _ _ hm⟩,d.out,d.own,d.wK⟩ x2 x3 e) λh s3 p3=>?_))));obtain⟨x7,l,m3,rfl,t3,kl,g5,g6,g7,g8,g9⟩:=p3;exact hq _ ⟨x7,l,m3,t2.trans t3,kl.off k2 j c g5 (λa h=>h.elim (g6.eol a) λh=>by refine U h (U g7 ?_);rfl),g5,g6,g7,g8,g9⟩) λj j l=>l.elim
theorem sE{o rest:List gd}{R:gd}{Fi:St->Option (V×St)}{Fs:Me->List (St->Option (Bool×St))}{rr:Me->St->Option (List V×St)}
 (AK:Eg n A)(x2:∀a b c,W≠ .Set a b c)(ht:Xk y Q=J t)(hg:Vt lo t=Z)(hF:uc w E A X N y.sl lo z (yc W X) Fi)
 (c:∀v b,Kj t v z=J b->ni w E A X N y.sl lo b S (Fs b)/\GoodK w E A X N y.sl lo b D (λk=>innerT (.ListComp P ((o++[R])++⟨Q,W,S,0⟩::rest) T O) (o++[R]).length P (.ref D) X k rest) (rr b)):
 GoodK w E A X N y.sl lo z D (λk=>innerT (.ListComp P (o++R::⟨Q,W,S,0⟩::rest) T O) o.length P (.ref D) X k (⟨Q,W,S,0⟩::rest))
  (λC=>(Fi C).bind λp=>(fj p.1 p.2).bind λB=>Ro 5000 B 0 (Mx t z Fs rr) p.2):=λk G C s x4 vs F f E' h j d b e hq=>ab e λp e1 e2=>ab e2 λB e3 e4=>ga (Da (hF G C s h j _ _ e1) (λa s1 p1=>by
 refine aa λnq=>?_;obtain⟨x5,t1,k1,r1,x1⟩:=p1;refine nq ?_;have x3:=k1.kp j;refine ga (lc ?_);show Qa _ _ (do
  let x<-ix W X a
  let B<-dj [x] (nw x)
  let _<-qcP (.compStart (.ListComp P (o++R::⟨Q,W,S,0⟩::rest) T O) (o.length+1) B (.ref D) X) X
  k) _ _ _
 refine U (Nz x2 _ _) (U (show o++R::⟨Q,W,S,0⟩::rest=(o++[R])++⟨Q,W,S,0⟩::rest by rw[Dc];rfl) (U (show o.length+1=(o++[R]).length by rw[Ha];rfl) ?_));exact ga (ta (ga (Kb (QV AK ht hg c r1 (j.kx h k1) (d.kp x3 d.own) b x1 e3 e4 λm l=>hq m (l.after t1 x3)))))) λl l m=>m.elim)
end
section
variable {B N W:Expr} {Q:List Expr} {X:Scope} {z:Om} {t:CT}
variable [o:Av]
variable {w:zb} {S:qb} {A:Yb} {T:zj} {u:Ca->Prop} {lo:Nat} {y r:Me} {K:Ue} {p:Ch} {n:Nat} {g:Gl} {E:List Ca} {x F:St} {s:Ea} {v:V} {L D I:Ca} {G sc':Sc}
inductive dW(w:zb)(S:qb)(D I C:Ca)(E:List Ca)(s:Ea)(vs:List V)(F:St)(q:Cr)(s':Ea):Prop
 |mk (ρ':List Ca) (vals:List wa) (m:Nat) (mC:Bb->Option wa):q=.ok .next->Bh s s'->Kl (λa=>a=D\/a=I) E s.heap s'.heap ρ'->R w S ρ' F s'.heap->s'.heap.Ns C mC->C∉ρ'->S.get? C=Y->s'.heap.get? D=J (listOf vals.toArray m)->D∉ρ'->ue w ρ' s'.heap vs vals->dW w S D I C E s vs F q s'
theorem fM{rest:List gd}{Fs:Me->List (St->Option (Bool×St))}{rr:Me->St->Option (List V×St)}{it:It}{O:List V}
 (AK:Eg n A)(C:Gu G X sc')(hk:T.scope.names=G.kinds)(ht:Xk sc' N=J t)(hg:Vt G.sl.length t=Z)
 (j:∀a c D,a.scope.names=sc'.kinds->∀v b,Kj t v (y++Ia (ah X.names).length Y)=J b->
  ni w S A a c sc'.sl G.sl.length b Q (Fs b)/\GoodK w S A a c sc'.sl G.sl.length b D (λk=>innerT (.ListComp B (⟨N,W,Q,0⟩::rest) X z) 0 B (.ref D) a k rest) (rr b))
 (b:R w S E x s.heap)(c:Lc w S T u G.sl lo y E s.heap)(d:sj w E s.heap I 0 it)(hD:s.heap.get? D=J (listOf ([]:List wa).toArray 0))(x1:D∉E)(x2:S.get? D=Y)(x3:S.get? I=Y)(x5:I≠D)(x6:O.length<4096)
 (e:Ro 5000 it 0 (Mx t (y++Ia (ah X.names).length Y) Fs rr) x=J (O,F)):
 dh (bb pg w) A (.compStart (.ListComp B (⟨N,W,Q,0⟩::rest) X z) 0 (.ref I) (.ref D) (mo s X T)) (dW w S D I s.heap.objs.size E s O F) {s with heap:=Xf s X}:=by
 refine aa λnq=>?_;obtain⟨E4,i,_⟩:=aB (s:=s) C hk b c;refine nq ?_;have k:=Po (s:=s) (scope:=X);have l:∀a f,s.heap.get? a=J f->¬XD s X a:=λa f e q=>Ud.mpr q.1 (qc e);have hI:∃f,s.heap.get? I=J f:=by obtain⟨f,e,_⟩:=Eh d;exact⟨f,e⟩
 have x4:sj w E (Xf s X) I 0 it:=d.keep (Ja _) (λa f e h=>k _ _ e) λf e=>k _ _ e;refine oq (pre:=[]) (s:={s with heap:=Xf s X}) x4 (Oc (XG (pre:=[]) (sc:=sc') (s:={s with heap:=Xf s X}) AK ht hg (j (mo s X T) (XD s X) D i) x5 (hI.elim λf e=>l I f e) x3 5000 0 E x [] O F (b.wI k) E4 ⟨⟨0,k _ _ hD⟩,x1,l D _ hD,x2⟩ x4 (by refine U GR (U (lh _) ?_);exact vd x6) e) λq s5 p5=>?_);refine aa λnq=>?_;obtain⟨x7,m,m5,hq,t5,P,g5,g6,g7,g8,g9⟩:=p5;obtain⟨mC,hC,_⟩:=g6.ns;refine nq ?_;exact⟨x7,m,m5,mC,hq,Bh.trans (s':={s with heap:=Xf s X}) rfl t5,⟨P.pre,λa ha=>(P.fresh a ha).imp_right λq=>(by
  induction h:s.heap.get? a with
  |none=>rfl|some f=>exact nomatch (k a f h).symm.trans q),λa f e n1 h=>P.keep a f (k a f e) n1 λq=>q.elim (λq=>q.elim (l a f e) λq=>h (.inl q)) λq=>h (.inr q),λa f e im=>P.imm a f (k a f e) im⟩,g5,hC,g6.loc.1,g6.loc.2.1,g7,g8,g9⟩
theorem GS{h m j:qb}{f:List Ca}(k:∀a b,h.get? a=J b->m.get? a=J b)(O:h.get? D=Y)(hI:h.get? I=Y)(P:L∉E)(i:Kl (λa=>a=D\/a=I) E m j f)(r5:R w S f F j):KX L E h j f:=
 have d:∀a b,h.get? a=J b->a∉E->j.get? a=J b:=λa b e l=>i.keep a b (k a b e) l ((λa b e q=>q.elim (λq=>by rw[q,O]at e;exact ja e) λq=>by rw[q,hI]at e;exact ja e:∀a b,h.get? a=J b->¬(a=D\/a=I)) a b e)
 ⟨⟨i.pre,λa ha=>(i.fresh a ha).imp_right λq=>(by
  induction c:h.get? a with
  |none=>rfl|some b=>exact nomatch (k a b c).symm.trans q),λa b e l c=>d a b e l,λa b e C=>i.imm a b (k a b e) C,λa e=>by
  obtain⟨b,ho⟩:=Na.mp e;by_cases C:a∈E
  ·obtain⟨c,hx,_⟩:=r5.live (Lh i.pre C)
   refine U hx ?_;rfl
  ·refine U (d a b ho C) ?_;rfl⟩,λm0 c=>by obtain⟨b,es,ep,e1,e2⟩:=c;exact⟨b,es,ep,d _ _ e1 P,e2⟩⟩
def iG(k:Nat)(t:CT)(y:Me)(b:St->Option (V×St))(c:Me->List (St->Option (Bool×St)))(d:Me->St->Option (List V×St))(x:St):Option (V×St):=(b x).bind λa=>(fj a.1 a.2).bind λe=>(Ro 5000 e 0 (Mx t (y++Ia k Y) c d) a.2).bind λq=>gj q.1 q.2
theorem Vx{rest:List gd}{Fi:St->Option (V×St)}{Fs:Me->List (St->Option (Bool×St))}{rr:Me->St->Option (List V×St)}{use:Option (wa->Yl Unit)}{d:wa->Ea->Prop}
 (AK:Eg n A)(C:Gu G X sc')(hk:T.scope.names=G.kinds)(x5:∀b a c,W≠ .Set b a c)(ht:Xk sc' N=J t)(hg:Vt G.sl.length t=Z)(hF:uc w S A T u G.sl lo y (yc W T) Fi)
 (x3:∀a e D,a.scope.names=sc'.kinds->∀v c,Kj t v (y++Ia (ah X.names).length Y)=J c->
  ni w S A a e sc'.sl G.sl.length c Q (Fs c)/\GoodK w S A a e sc'.sl G.sl.length c D (λk=>innerT (.ListComp B (⟨N,W,Q,0⟩::rest) X z) 0 B (.ref D) a k rest) (rr c))
 (f:R w S E x s.heap)(h:Lc w S T u G.sl lo y E s.heap)
 (e:iG (ah X.names).length t y Fi Fs rr x=J (v,F))
 (x6:∀a s5 D c m,Bh s s5->KX T.locals E s.heap s5.heap a->R w S a F s5.heap->VR w a s5.heap v (.ref D)->c∉a->s.heap.get? c=Y->S.get? c=Y->s5.heap.Ns c m->compPost (bb pg w) A No use d (.ref D) c (.ok .next) s5):
 Qa (bb pg w) A (qdH (.ListComp B (⟨N,W,Q,0⟩::rest) X z) X T (qeO (⟨N,W,Q,0⟩::rest) z) (L4 []) ua (yc W T) use) d No s:=
 ab e λi e1 e=>ab e λit y2 e=>ab e λq y3 e=>yo (P:=λj j=>_) e λx7=>by
 refine wpAny_comprehension_free (g:=⟨N,W,Q,0⟩) (gs:=rest) rfl (λl=>Nz x5 T l) (aB (s:=s) C hk f h).2.2 C.kind C.loc (Da (hF E x s f h _ _ e1) (λb s1 p1=>?_) λj j l=>l);obtain⟨z3,t1,k1,r1,x1⟩:=p1;have E1:=h.kx f k1;refine Da (Gz r1 x1 y2) (λq2 c p2=>?_) λj j l=>l;obtain⟨y4,t2,k2,x2⟩:=p2;refine U y4 (qer (LB ?_));have k3:∀b a,c.heap.get? b=J a->(c.heap.push (listOf ([]:List wa).toArray 0)).get? b=J a:=λb a e=>Ba _ e;have x4:∀b a,s1.heap.get? b=J a->(c.heap.push (listOf ([]:List wa).toArray 0)).get? b=J a:=λb a e=>k3 b a (k2 b a e);have x8:s1.heap.get? s1.heap.objs.size=Y:=Fb _;have m:c.heap.get? c.heap.objs.size=Y:=Fb _;have k:∀b,c.heap.get? b=Y->s1.heap.get? b=Y:=λb q=>by
  induction l:s1.heap.get? b with
  |none=>rfl|some a=>exact nomatch (k2 b a l).symm.trans q
 have x9:∀b,s1.heap.get? b=Y->s.heap.get? b=Y:=λb q=>by
  induction l:s.heap.get? b with
  |none=>rfl|some a=>have:=k1.live _ (by refine U l ?_;rfl);rw[q]at this;exact zc this ia
 have y5:s1.heap.objs.size≠c.heap.objs.size:=by obtain⟨a,ho,_⟩:=Eh x2;exact ic (qc ho)
 refine Oc (fM (s:={c with heap:=c.heap.push (listOf ([]:List wa).toArray 0)}) AK C hk ht hg x3 (r1.wI x4) (E1.wI r1 x4) (x2.keep (Ja _) (λb a e j=>k3 b a e) λa e=>k3 _ a e) (Oa _ rfl) (Hf r1 (k _ m)) (Rd r1 (k _ m)) (Rd r1 x8) y5 x7 y3) λq5 s5 p5=>?_;obtain⟨y6,y1,m5,mC,y7,t5,kl,g5,gC,y8,y9,g7,g8,g9⟩:=p5;refine U y7 ?_;have ev:=yo (P:=λv τ=>V.ref q.2.length=v/\q.2++[O.list q.1]=τ) e λj=>⟨rfl,rfl⟩;exact x6 (y6++[c.heap.objs.size]) s5 _ _ mC ((t1.trans t2).trans t5.past) ((k1.trans (GS x4 (k _ m) x8 E1.loc.1 kl g5)).add (x9 _ (k _ m))) (ev.2▸g5.add g8 (Rd r1 (k _ m)) ⟨y1,m5,g7,vd x7,g9.mono (Hc _ _) λb a e j=>e⟩) (ev.1▸.ref (Hr g5)) (λq=>(Xb.mp q).elim y8 λq=>(by refine U (Dg _ _) ?_;exact Ku _:(c.heap.push (listOf ([]:List wa).toArray 0)).objs.size≠c.heap.objs.size) (Ra.mp q)) (x9 _ (k _ (yk (by refine U (Dg _ _) ?_;exact se _):c.heap.get? (c.heap.push (listOf ([]:List wa).toArray 0)).objs.size=Y))) y9 gC
theorem cJ{rest:List gd}{P:St->Option (V×St)}{Fs:Me->List (St->Option (Bool×St))}{rr:Me->St->Option (List V×St)}
 (AK:Eg n A)(C:Gu G X sc')(hk:T.scope.names=G.kinds)(j:∀a b c,W≠ .Set a b c)(ht:Xk sc' N=J t)(hg:Vt G.sl.length t=Z)(hF:uc w S A T u G.sl lo y (yc W T) P)
 (i:∀c e D,c.scope.names=sc'.kinds->∀v d,Kj t v (y++Ia (ah X.names).length Y)=J d->
  ni w S A c e sc'.sl G.sl.length d Q (Fs d)/\GoodK w S A c e sc'.sl G.sl.length d D (λk=>innerT (.ListComp B (⟨N,W,Q,0⟩::rest) X z) 0 B (.ref D) c k rest) (rr d)):
 uc w S A T u G.sl lo y (yc (.ListComp B (⟨N,W,Q,0⟩::rest) X z) T) (iG (ah X.names).length t y P Fs rr):=λE x s d f v F e=>by
 refine U (arm_eval_ListComp _ _ _ _ _) (Vx (use:=Y) AK C hk j ht hg hF i d f e λc s5 D R m t5 k5 r5 x5 c1 c2 c3 k=>⟨m,k,λh' l=>?_⟩);have O:∀b h,b≠R->s5.heap.get? b=J h->h'.get? b=J h:=λb h n e=>(l.2 b n).trans e;exact⟨c,t5.trans rfl,k5.but c2 O,r5.beside (wr:=λa=>a=R) (λa h n e=>O a h n e) (λa q=>by subst q;exact⟨c1,c3,λh e=>Cg k e⟩),x5.mono (Ja _) λa h e im=>O a h (λq=>Cg k (q▸e) im) e⟩
end
section
variable [P:Av]
variable {w:zb} {hb:qb} {A:Yb} {env:zj} {eo:Ca->Prop} {Q:List Bb} {lo:Nat} {me:Me} {K:Ue} {tab:Ch} {n N:Nat} {g:Gl} {cf:Nat->List V->St->Option (V×St)} {W:Sc}
theorem ct.congr{d f:Type}{a:List Ca->qb->d->f->Prop}{t:Yl f}{r i:St->Option (d×St)}(h:ct a w hb A env eo Q lo me t r)(e:∀b,i b=r b):ct a w hb A env eo Q lo me t i:=λj b s R E v c q=>h j b s R E v c ((e b).symm.trans q)
theorem GoodK.congr{D:Ca}{t:Yl Fin->Yl Fin}{r i:St->Option (List V×St)}(h:GoodK w hb A env eo Q lo me D t r)(e:∀b,i b=r b):GoodK w hb A env eo Q lo me D t i:=λk j b s c m f a o R E d l q p=>h k j b s c m f a o R E d l ((e b).symm.trans q) p
theorem uc.out{t:Yl wa}{r:St->Option (V×St)}{y x:X}(h:J y=J x)(g:uc w hb A env eo Q lo me t r)(e:∀a,evX tab cf y me a=r a):uc w hb A env eo Q lo me t (λa=>evX tab cf x me a):=ba h▸ct.congr g e
theorem Zg.out{t:Yl Bool}{r:St->Option (Bool×St)}{y x:B}(h:J y=J x)(g:Zg w hb A env eo Q lo me t r)(e:∀a,Wt tab cf y me a=r a):Zg w hb A env eo Q lo me t (λa=>Wt tab cf x me a):=ba h▸ct.congr g e
structure Cx(w:zb)(hb:qb)(K:Ue)(tab:Ch)(g:Gl)(cf:Nat->List V->St->Option (V×St))(n:Nat):Prop where
 B:Jk hb K tab
 CO:Zp hb K tab
 GO:Xy hb K g
 SO:Ij w hb
 CF:Gi w hb cf n
structure Hi(w:zb)(hb:qb)(A:Yb)(tab:Ch)(g:Gl)(cf:Nat->List V->St->Option (V×St))(N:Nat):Prop where
 E:∀W e x env eo lo me,env.scope.names=W.kinds->Fh g N W e=J x->uc w hb A env eo W.sl lo me (yc e env) (λσ=>evX tab cf x me σ)
 Es:∀W es xs env eo lo me pos,env.scope.names=W.kinds->wx g N W es=J xs->Vi w hb A env eo W.sl lo me (kj (qg pos (starEach es env))) (λσ=>Mi tab cf xs me σ)/\(∀e∈es,∀x p,e≠jd x p)
 T:∀W e b env eo lo me,env.scope.names=W.kinds->vV g N W e=J b->Zg w hb A env eo W.sl lo me (isTrue e env (yc e env)) (λσ=>Wt tab cf b me σ)
 Ts:∀W es bs env eo lo me,env.scope.names=W.kinds->yQ g N W es=J bs->ni w hb A env eo W.sl lo me es (bs.map λb σ=>Wt tab cf b me σ)
 Gs:∀W gs xs env eo lo me D elt x pre g0 scope pos,env.scope.names=W.kinds->xV g N lo W gs=J xs->(∀me,uc w hb A env eo W.sl lo me (yc elt env) λσ=>evX tab cf x me σ)->
  GoodK w hb A env eo W.sl lo me D (λk=>innerT (.ListComp elt (pre++g0::gs) scope pos) pre.length elt (.ref D) env k gs) λσ=>evRest tab cf xs (λme σ=>evX tab cf x me σ) me σ
theorem Jt{e:Expr}{x:X}(h:Fh g N W e=J x):∀y p,e≠jd y p:=by
 rintro y p rfl
 induction N using Sa<;>exact ja h
theorem Hm{e:Expr}{x:X}(h:Fh g N W e=J x):∀a b c,e≠Expr.Set a b c:=by
 rintro a b c rfl
 induction N using Sa<;>exact ja h
theorem yC:∀(c:List B)(me:Me)(a:St),EH (c.map λb a=>Wt tab cf b me a) a=my tab cf c me a:=by
 intro c
 induction c with
 |nil=>
  rintro me a;exact rfl
 |cons b c d=>
  rintro me a;exact Gc (λx=>(Wt tab cf b me a).bind x) (funext λp=>Gc (λz=>ln p.1 z (J (ua,p.2))) (d me p.2))
theorem Zu(t:CT)(me:Me)(d:List B)(e:Me->St->Option (List V×St)):Mx t me (λa=>d.map λb c=>Wt tab cf b a c) e=λv c=>(Kj t v me).bind λa=>(my tab cf d a c).bind λq=>ln q.1 (e a q.2) (J ([],q.2)):=
 funext λv=>funext λc=>Gc (λx=>(Kj t v me).bind x) (funext λa=>Gc (λz=>z.bind λq=>ln q.1 (e a q.2) (J ([],q.2))) (yC d a c))
theorem j8{b:Bool}(h:(!b)=Z):b=ua:=by induction b<;>first|rfl|exact zc h ia
theorem Bo{x:Bb}(h:Am x=Z):(x==("__debug__":Bb))=ua/\(x==("__classdict__":Bb))=ua:=by
 have z:=Aa.mp h;exact⟨j8 z.1,j8 z.2⟩
theorem PQ{x:Bb}{p:Om}{i:Nat}(c:env.scope.names=W.kinds)(h:Us W x=J i):uc w hb A env eo W.sl lo me (yc (.Name x p) env) (λb=>evX tab cf (.x i) me b):=by
 refine ab h λk d h=>ab h λu q h=>?_;have q:=Aa.mp (yf q);obtain⟨e,f⟩:=Bo q.2;have a:env.kindOf x=J k:=by unfold mn;refine U c ?_;exact d
 refine ct.congr (N2 h ?_ e f) λb=>rfl
 induction k<;>first|exact zc q.1 ia|exact .inl a|exact .inr (.inl a)|exact .inr (.inr a)
theorem qF:Hi w hb A tab g cf 0 where
 E:=λW e x env eo lo me hk h=>by exact ja h
 Es:=λW e x env eo lo me pos hk h=>by exact ja h
 T:=λW e x env eo lo me hk h=>by exact ja h
 Ts:=λW e x env eo lo me hk h=>by exact ja h
 Gs:=λW gs xs env eo lo me D elt x pre g0 scope pos hk h=>by exact ja h
theorem eQ(S:Hi w hb A tab g cf N):∀W a c env eo lo me b,env.scope.names=W.kinds->wx g (N+1) W a=J c->Vi w hb A env eo W.sl lo me (kj (qg b (starEach a env))) (λd=>Mi tab cf c me d)/\(∀e∈a,∀x p,e≠jd x p):=by
 intro W a c env eo lo me b j h
 induction a using ma with
 |nil=>obtain rfl:=ba h;exact⟨ct.congr O2 λd=>rfl,λe f=>by cases f⟩|cons e a=>
  refine qd h λx k i l h=>?_;obtain rfl:=ba h;obtain⟨m,o⟩:=S.Es W a k env eo lo me b j l;refine⟨ct.congr (OV (Jt i) (S.E W e x env eo lo me j i) m) λd=>rfl,λp f=>?_⟩;rcases fb.mp f with q|q
  ·subst q;exact Jt i
  ·exact o p q
theorem gQ(S:Hi w hb A tab g cf N):∀W a c env eo lo me,env.scope.names=W.kinds->yQ g (N+1) W a=J c->ni w hb A env eo W.sl lo me a (c.map λb d=>Wt tab cf b me d):=by
 intro W a c env eo lo me b h
 induction a using ma with
 |nil=>obtain rfl:=ba h;exact .nil|cons e a=>
  refine qd h λx d f i h=>?_;obtain rfl:=ba h;exact .cons (S.T W e x env eo lo me b f) (S.Ts W a d env eo lo me b i)
theorem fQ(y:Eg n A)(S:Hi w hb A tab g cf N):∀W i l env eo lo me D e x f m a j,env.scope.names=W.kinds->xV g (N+1) lo W i=J l->(∀me,uc w hb A env eo W.sl lo me (yc e env) λc=>evX tab cf x me c)->
 GoodK w hb A env eo W.sl lo me D (λk=>innerT (.ListComp e (f++m::i) a j) f.length e (.ref D) env k i) (λc=>evRest tab cf l (λme c=>evX tab cf x me c) me c):=by
 intro W i l env eo lo me D e x f m a j o h q
 induction i using ma with
 |nil=>obtain rfl:=ba h;exact GoodK.congr (oJ (q me)) λc=>rfl|cons z i=>
  refine ae h λB h=>?_;obtain⟨C,k,p,E⟩:=z;cases eq_of_beq B;refine Vu h λF t s r u G I L h=>(ae h λO h=>?_);obtain rfl:=ba h;refine GoodK.congr (sE (Fs:=λd=>s.map λb c=>Wt tab cf b d c) (rr:=λd c=>evRest tab cf r (λme c=>evX tab cf x me c) d c) y (Hm u) G O (S.E W k F env eo lo me o u) λv d b=>?_) λc=>?_
  ·exact⟨S.Ts W p s env eo lo d o I,S.Gs W i r env eo lo d D e x (f++[m]) _ a j o L q⟩
  ·refine U (Zu _ _ _ _) ?_;rfl
end
section
variable {x y:X} {I:Type}
variable [F:Av]
variable {w:zb} {L:qb} {A:Yb} {W:zj} {P:Ca->Prop} {E:List Bb} {lo:Nat} {T:Me} {K:Ue} {R:Ch} {n N:Nat} {g:Gl} {O:Nat->List V->St->Option (V×St)} {Q:Sc}
def HL(p:V×St):Option (Bool×St):=(gp p.1).map λb=>(b,p.2)
theorem Ox{c:Option Bool}{a:St}:(c.map λr=>(V.bool r,a)).bind HL=c.map λr=>(r,a):=by induction c<;>rfl
theorem sY{b:xr}(a:St):Wt R O (.wK (.cmp b x y)) T a=(evX R O x T a).bind λp=>(evX R O y T p.2).bind λq=>(lq b p.1 q.1 q.2).map λr=>(r,q.2):=by
 show((evX R O x T a).bind _).bind HL=_
 exact U (Va _ _ _) (Gc _ (funext λp=>(U (Va _ _ _) (Gc _ (funext λq=>Ox)))))
theorem CS{a b:xr}{z:X}(c:St):Wt R O (.wK (.cmp2 a b x y z)) T c=(evX R O x T c).bind λp=>(evX R O y T p.2).bind λq=>(lq a p.1 q.1 q.2).bind λr=>ln r ((evX R O z T q.2).bind λu=>(lq b q.1 u.1 u.2).map λr=>(r,u.2)) (J (ua,q.2)):=by
 show((evX R O x T c).bind _).bind HL=_
 refine U (Va _ _ _) (Gc _ (funext λp=>(U (Va _ _ _) (Gc _ (funext λq=>?_)))));refine U (Va _ _ _) (Gc _ (funext λr=>?_))
 induction r with
 |false=>rfl|true=>
  exact U (Va _ _ _) (Gc _ (funext λu=>Ox))
theorem YQ{k:List V×St->Option I}(a:St):(Mi R O [x] T a).bind k=(evX R O x T a).bind λp=>k ([p.1],p.2):=Va ..
theorem nM(a:St):evX R O (.dict [x] [y]) T a=(evX R O x T a).bind λp=>(evX R O y T p.2).bind λq=>mG p.1 q.1 q.2:=(YQ a).trans (Gc _ (funext λp=>YQ p.2))
theorem oM{a b:Bb}(c:St):evX R O (.dict [.str a,.str b] [x,y]) T c=(evX R O x T c).bind λp=>(evX R O y T p.2).bind λq=>nG (.str a) (.str b) p.1 q.1 q.2:=by
 show((evX R O x T c).bind λp=>((evX R O y T p.2).bind λq=>J ([q.1],q.2)).map λq=>(p.1::q.1,q.2)).bind _=_
 refine U (Va _ _ _) (Gc _ (funext λp=>?_))
 induction evX R O y T p.2<;>rfl
theorem hV(j:Cx w L K R g O n)(s:Eg (n+1) A)(S:Hi w L A R g O N):∀Q e b W P lo T,W.scope.names=Q.kinds->vV g (N+1) Q e=J b->Zg w L A W P Q.sl lo T (isTrue e W (yc e W)) (λd=>Wt R O b T d):=by
 intro Q e b W P lo T c h;have k:∀e:Expr,isTrue e W (yc e W)=(do let v<-yc e W;bk e.pos;dj [v] (nA v))->kt (Fh g N Q e) (λx=>J (B.wK x))=J b->Zg w L A W P Q.sl lo T (isTrue e W (yc e W)) (λd=>Wt R O b T d):=by
  intro e a h;exact De h λx q h=>(Zg.out h (KI a (S.E Q e x W P lo T c q)) λd=>rfl)
 induction e using Expr.casesOn with
 |UnaryOp o x p=>
  induction o<;>try (exact ja h)
  exact De h λx q h=>(Zg.out h (nO (S.T Q _ x W P lo T c q)) λd=>rfl)
 |BoolOp o l p=>
  rcases l with _|⟨a,_|⟨b,_|_⟩⟩<;>try (exact ja h)
  refine qd h λx y f i h=>?_
  induction o
  ·exact Zg.out h (tL (S.T Q _ _ W P lo T c f) (S.T Q _ _ W P lo T c i)) λd=>rfl
  ·exact Zg.out h (pU (S.T Q _ _ W P lo T c f) (S.T Q _ _ W P lo T c i)) λd=>rfl
 |Compare l d q p=>
  rcases d with _|⟨o,_|⟨t,_|_⟩⟩<;>try (exact ja h)
  ·rcases q with _|⟨r,_|_⟩<;>try (exact ja h)
   refine Dj h λa h=>(qd h λx y f i h=>?_);refine Zg.out h (cM j.B.mods s a (S.E Q _ _ W P lo T c f) (S.E Q _ _ W P lo T c i)) sY
  ·rcases q with _|⟨m,_|⟨r,_|_⟩⟩<;>try (exact ja h)
   refine Dj h λa h=>(Ji h λx y z f i u h=>?_);refine Zg.out h (aJ j.B.mods s a (S.E Q _ _ W P lo T c f) (S.E Q _ _ W P lo T c i) (S.E Q _ _ W P lo T c u)) CS
 |_=>first|exact ja h|exact k _ rfl h
theorem mO{i:Expr}(h:ym i=ua)(o j:wa):pV i ua o j=AD [o,j] (A4 o j):=by
 induction i using Expr.casesOn<;>first|rfl|exact zc h.symm ia
noncomputable def gZ(x:X):Bool:=match x with|.x u=>Z|_=>ua
theorem eO{x:Bb}{p:Om}{f:wa}(h:Fh g N Q (.Name x p)=J (.k f)):Q.kinds.lookup x=J .globalImplicit/\Am x=Z/\g.glob x=J f:=by
 refine aa λa=>?_
 induction N using Sa with
 |zero=>refine a ?_;exact ja h|succ N=>
  refine a ?_;replace h:(if Q.kinds.lookup x==J .globalImplicit then(if Am x then kt (g.glob x) λf=>J (.k f)else Y)else kt (Us Q x) λi=>J (.x i))=J (X.k f):=h;by_cases b:(Q.kinds.lookup x==J .globalImplicit)=Z
  ·rw[Dd b]at h
   refine ae h λc h=>(De h λd q h=>(aa λa=>?_));cases h;exact a (⟨eq_of_beq b,c,q⟩)
  ·rw[fe b]at h
   exact De h λd q h=>(zc (ba (Gc (Op gZ) h)).symm ia)
theorem qbn{v:wa}:∀(T:Me)(a:St),evX R O (.k v) T a=J (.k v,a):=λT a=>rfl
theorem YM{d:Type}(c:I->d->Prop)(a:I)(b:d)(h:∀G:I->d->Prop,(∀a b,c a b->G a b)->G a b):c a b:=h c λu u h=>h
theorem gV(B:Cx w L K R g O n)(AK:Eg (n+1) A)(S:Hi w L A R g O N):∀Q e x W P lo T,W.scope.names=Q.kinds->Fh g (N+1) Q e=J x->uc w L A W P Q.sl lo T (yc e W) (λm=>evX R O x T m):=by
 intro Q e x W P lo T s h;refine YM (λe x=>uc w L A W P Q.sl lo T (yc e W) λm=>evX R O x T m) e x λG C=>?_;have kindOf:∀y k,Q.kinds.lookup y=J k->W.kindOf y=J k:=λy k q=>by unfold mn;refine U s ?_;exact q
 induction e using Expr.casesOn with
 |BinOp a u b p=>
  exact qd h λx y q1 q2 h=>(C _ _ (uc.out h (DL AK (S.E Q _ _ W P lo T s q1) (S.E Q _ _ W P lo T s q2)) λm=>rfl))
 |UnaryOp u a p=>
  induction u<;>try (exact ja h)
  exact De h λx q h=>(C _ _ (uc.out h (gO (S.E Q _ x W P lo T s q)) λm=>rfl))
 |IfExp c a b p=>
  exact Ji h λx y z q1 q2 l h=>(C _ _ (uc.out h (vN (S.T Q _ _ W P lo T s q1) (S.E Q _ _ W P lo T s q2) (S.E Q _ _ W P lo T s l)) λm=>rfl))
 |Dict ks f p=>
  rcases ks with _|⟨k,_|⟨i,_|_⟩⟩<;>rcases f with _|⟨v,_|⟨j,_|_⟩⟩<;>try (exact ja h)
  ·exact C _ _ (uc.out h ZD λm=>rfl)
  ·refine De h λk d h=>?_
   subst d;refine ae h λhn h=>?_;obtain⟨y,p,rfl⟩:=Ur hn;refine qd h λx y q1 q2 h=>?_;refine C _ _ (uc.out h (aE (S.E Q _ _ W P lo T s q1) (S.E Q _ _ W P lo T s q2)) nM)
  ·refine qd h λa b q1 q2 h=>(aa λnq=>?_)
   obtain⟨d1,p1,rfl⟩:=fI q1;obtain⟨o,p2,rfl⟩:=fI q2;refine nq (qd h λy z l r h=>?_);by_cases d:a=b
   ·rw[Dd d]at h;exact ja h
   ·rw[fe d]at h
    refine C _ _ (uc.out h (bE d (S.E Q _ _ W P lo T s l) (S.E Q _ _ W P lo T s r)) oM)
 |ListComp x3 o z p=>
  induction o using ma with
  |nil=>exact ja h|cons g1 rest=>
   refine ae h λhz h=>?_;obtain⟨x4,x2,x5,x6⟩:=g1;cases eq_of_beq hz;refine qd h λit sc' q1 q2 h=>(Vu h λt fs gs y l r q5 q6 h=>(ae h λhg h=>?_));obtain rfl:=ba h;refine C _ _ (ct.congr (cJ (sc':=sc') (Fs:=λd=>fs.map λb m=>Wt R O b d m) (rr:=λd m=>evRest R O gs (λT m=>evX R O y T m) d m) AK (Ux q2) s (Hm q1) l hg (S.E Q _ it W P lo T s q1) λf i D j v d x7=>⟨S.Ts sc' _ fs f i _ d j r,?_⟩) λm=>?_)
   ·exact S.Gs sc' _ gs f i _ d D _ y [] _ _ _ j q5 λx1=>S.E sc' _ y f i _ x1 j q6
   ·unfold iG;refine U (Zu _ _ _ _) ?_;rfl
 |Compare l d i p=>
  rcases d with _|⟨u,_|_⟩<;>try (exact ja h)
  rcases i with _|⟨r,_|_⟩<;>try (exact ja h)
  exact Dj h λf h=>(qd h λx y q1 q2 h=>(C _ _ (uc.out h (bM B.B.mods AK f (S.E Q _ _ W P lo T s q1) (S.E Q _ _ W P lo T s q2)) λm=>rfl)))
 |Call f l ks r=>
  induction ks using ma with
  |cons u j=>exact ja h|nil=>
   induction f using Expr.casesOn with
   |Attribute o a u=>
    refine ae h λd h=>(qd h λx j q1 q2 h=>(aa λnq=>?_));obtain rfl:=ba h;simp only[Ad,decide_eq_true_eq]at d;obtain⟨t,i⟩:=S.Es Q _ _ W P lo T (default:Om) s q2;exact nq (C _ _ (ct.congr (IJ B.B B.CO B.CF AK d.1.1 d.1.2 d.2 i (S.E Q _ _ W P lo T s q1) (S.Es Q _ _ W P lo T _ s q2).1) λm=>rfl))
   |Name y p=>
    refine qd h λx j q1 q2 h=>?_
    induction x using X.casesOn<;>try (exact ja h)
    obtain rfl:=ba h;obtain⟨d,c2,c3⟩:=eO q1;obtain⟨t,i⟩:=S.Es Q _ _ W P lo T (default:Om) s q2;exact C _ _ (ct.congr (XI B.B B.CO B.GO B.SO B.CF AK c3 (kindOf _ _ d) (Bo c2).1 i (S.Es Q _ _ W P lo T _ s q2).1) λm=>rfl)
   |_=>exact ja h
 |Constant c d p=>
  induction c<;>try (exact ja h)
  ·exact C _ _ (uc.out h hU λm=>rfl)
  ·exact C _ _ (uc.out h qS λm=>rfl)
  ·exact C _ _ (uc.out h ZY λm=>rfl)
  ·exact C _ _ (uc.out h A1 λm=>rfl)
 |Attribute o a p=>
  exact ae h λc h=>(De h λy q h=>(C _ _ (uc.out h (zL B.B c (S.E Q _ y W P lo T s q)) λm=>rfl)))
 |Subscript o i p=>
  replace h:(if ym i then kt (tY i) λk=>if xp o then kt (Fh g N Q o) λx=>J (.cut x k)else Y else Ir (Fh g N Q o) (Fh g N Q i) λa b=>J (.sub a b))=J x:=h;by_cases c:ym i=Z
  ·rw[Dd c]at h
   refine De h λk q1 h=>?_;obtain⟨d1,p1,p2,rfl⟩:=JS q1;refine ae h λhn h=>?_;obtain⟨y,p,rfl⟩:=Ur hn;exact De h λy q h=>(C _ _ (uc.out h (kM B.B (S.E Q _ y W P lo T s q)) λm=>rfl))
  ·rw[fe c]at h
   exact qd h λx y q1 q2 h=>(C _ _ (uc.out h (lQ (λa b=>mO (by simpa using c) a b) (S.E Q _ _ W P lo T s q1) (S.E Q _ _ W P lo T s q2)) λm=>rfl))
 |Name y p=>
  replace h:(if Q.kinds.lookup y==J .globalImplicit then(if Am y then kt (g.glob y) λf=>J (.k f)else Y)else kt (Us Q y) λi=>J (.x i))=J x:=h;by_cases a:(Q.kinds.lookup y==J .globalImplicit)=Z
  ·rw[Dd a]at h
   exact ae h λb h=>(De h λc q h=>(C _ _ (uc.out h (qs B.GO q (kindOf _ _ (eq_of_beq a)) (Bo b).1) λm=>rfl)))
  ·rw[fe a]at h
   refine De h λi q h=>?_;obtain rfl:=ba h;exact C _ _ (PQ s q)
 |List a p=>
  exact De h λy q h=>(C _ _ (uc.out h (zJ (S.Es Q _ y W P lo T _ s q).1) λm=>rfl))
 |Tuple a d p=>
  exact De h λy q h=>(C _ _ (uc.out h (CQ (S.Es Q _ y W P lo T _ s q).1) λm=>rfl))
 |_=>exact ja h
theorem Ps(b:Cx w L K R g O n)(c:Eg (n+1) A):∀N,Hi w L A R g O N:=by
 intro N
 induction N with
 |zero=>
  exact qF
 |succ N i=>
  exact
   have S:=i
   ⟨gV b c S,eQ S,hV b c S,gQ S,λQ j k W P lo T D d x e l a f m h o=>fQ c S Q j k W P lo T D d x e l a f m h o⟩
end
section
variable {F:Ea} {o e:Expr} {E:Om} {x:T}
variable [D:Av]
mutual
noncomputable def U1(g:Gl)(j:Nat)(q:Sc)(d:Expr):Option T:=match j,q,d with|0,u,z=>Y|n+1,Q,e=>match e with|.Name x u=>(Us Q x).map T.x|.Tuple a u z=>(AQ g n Q a).map T.t|.Attribute o a u=>(Fh g n Q o).map (λx=>T.attr x a)|.Subscript o i u=>if ym i then Y else Ir (Fh g n Q o) (Fh g n Q i) λx y=>J (.sub x y)|_=>Y
noncomputable def AQ(g:Gl)(z:Nat)(j:Sc)(q:List Expr):Option (List T):=match z,j,q with|0,u,y=>Y|u+1,y,[]=>J []|n+1,Q,e::a=>Ir (U1 g n Q e) (AQ g n Q a) λx b=>J (x::b)
end
inductive PT(w:zb)(hb:qb)(env:zj)(eo:Ca->Prop)(O:List Bb)(lo:Nat)(ρ:List Ca)(s:Ea)(W:St)(X:Me)(F:Ea):Prop
 |mk (ρ':List Ca):Bh s F->Kp eo ρ s.heap F.heap ρ'->R w hb ρ' W F.heap->Lc w hb env eo O lo X ρ' F.heap->PT w hb env eo O lo ρ s W X F
def aq(w:zb)(hb:qb)(A:Yb)(env:zj)(eo:Ca->Prop)(O:List Bb)(t:wa->Yl Unit)(r:V->Me->St->Option (Me×St)):Prop:=
 ∀v a X ρ W s me' σ',R w hb ρ W s.heap->Lc w hb env eo O 0 X ρ s.heap->VR w ρ s.heap v a->r v X W=J (me',σ')->Qa (bb pg w) A (t a) (λu=>PT w hb env eo O 0 ρ s σ' me') No s
variable {w:zb} {hb:qb} {A:Yb} {env:zj} {eo:Ca->Prop} {O:List Bb} {lo:Nat} {X me':Me} {K:Ue} {P:Ch} {n N:Nat} {g:Gl} {I:Nat->List V->St->Option (V×St)} {Q:Sc} {ρ L:List Ca} {W σ':St} {s:Ea}
theorem PT.after{s1:Ea}(t:Bh s s1)(k:Kp eo ρ s.heap s1.heap L)(x:PT w hb env eo O lo L s1 σ' X F):PT w hb env eo O lo ρ s σ' X F:=by
 obtain⟨a,b,c,d,f⟩:=x;exact⟨a,t.trans b,k.trans c,d,f⟩
theorem PA.pt(x:PA w hb env eo O lo ρ s W X F):PT w hb env eo O lo ρ s W X F:=by
 refine aa λa=>?_;obtain⟨t,b,c,d⟩:=x;exact a (⟨ρ,t,b,c,d⟩)
theorem PS.pt(r:R w hb ρ W s.heap)(a:Lc w hb env eo O lo X ρ s.heap)(x:PS w hb env.locals ρ s σ' F):PT w hb env eo O lo ρ s σ' X F:=by
 refine aa λd=>?_;obtain⟨b,t,c,f⟩:=x;exact d (⟨b,t,c.kp a,f,a.kx r c⟩)
theorem Ut{a:Bb}{b:Me->St->Option (V×St)}(B:Jk hb K P)(i:∀X,uc w hb A env eo O 0 X (yc o env) (b X)):
 aq w hb A env eo O (λv=>assign (.Attribute o a E) env v) (λv X W=>(b X W).bind λp=>(Qn P p.1 a v p.2).map λW=>(X,W)):=λv d X ρ W s me' σ' r c x e=>ab e λp j k=>qe k λl m q=>by
 obtain⟨rfl,rfl⟩:=Ta q;show Qa _ _ (assign (.Attribute o a E) env d) _ _ _
 refine U (arm_assign_Attribute _ _ _ _ _) (ga (Kb (Da (i X ρ W s r c _ _ j) (λR S t=>?_) λu u z=>z)));obtain⟨L,y,k1,f,C⟩:=t;have h:=c.kx r k1;exact ga (lc (ga (Kb (Da (gF B f h.lok C (k1.vr x) m) (λu s2 G=>uK (PT.after y (k1.kp c) (PS.pt f h G))) λu u z=>z))))
theorem Qu{i:Expr}{a G:Me->St->Option (V×St)}(k:∀X,uc w hb A env eo O 0 X (yc o env) (a X))(l:∀X,uc w hb A env eo O 0 X (yc i env) (G X)):
 aq w hb A env eo O (λv=>assign (.Subscript o i E) env v) (λv X W=>(a X W).bind λp=>(G X p.2).bind λq=>(Ci p.1 q.1 v q.2).map λW=>(X,W)):=λv c X ρ W s me' σ' r b x e=>ab e λp m e=>ab e λq t e=>qe e λy B C=>by
 obtain⟨rfl,rfl⟩:=Ta C;show Qa _ _ (assign (.Subscript o i E) env c) _ _ _
 refine U (arm_assign_Subscript _ _ _ _ _) (ga (Kb (Da (k X ρ W s r b _ _ m) (λo' R S=>?_) λu u z=>z)));obtain⟨L,t1,k1,f,x1⟩:=S;have d:=b.kx r k1;refine ga (Kb (Da (l X L _ R f d _ _ t) (λi' s2 p2=>?_) λu u z=>z));obtain⟨x3,t2,k2,h,x2⟩:=p2;have j:=d.kx f k2;exact ga (lc (ga (Kb (Da (Ny h j.lok (k2.vr x1) x2 (k2.vr (k1.vr x)) B) (λu s3 p3=>uK (PT.after t1 (k1.kp b) (PT.after t2 (k2.kp d) (PS.pt h j p3)))) λu u z=>z))))
structure KD(w:zb)(hb:qb)(A:Yb)(P:Ch)(g:Gl)(I:Nat->List V->St->Option (V×St))(N:Nat):Prop where
 one:∀Q e t env eo,env.scope.names=Q.kinds->U1 g N Q e=J t->aq w hb A env eo Q.sl (λv=>assign e env v) (λv X W=>IK P I t v X W)/\(∀x p,e≠jd x p)
 all:∀Q es ts env eo,env.scope.names=Q.kinds->AQ g N Q es=J ts->∀vs vals X ρ W s me' σ',R w hb ρ W s.heap->Lc w hb env eo Q.sl 0 X ρ s.heap->ue w ρ s.heap vs vals->dK P I ts vs X W=J (me',σ')->
  Qa (bb pg w) A (GI ((assignEach es env).map λx=>x.2) vals) (λu=>PT w hb env eo Q.sl 0 ρ s σ' me') No s
theorem bj{a:List Expr}(h:∀x p,e≠jd x p):assignEach (e::a) env=(ua,assign e env)::assignEach a env:=by
 induction e using Expr.casesOn<;>first|rfl|exact zc rfl (h _ _)
theorem Kt(h:U1 g N Q e=J x):∀y p,e≠jd y p:=by
 rintro y p rfl
 induction N using Sa<;>exact ja h
theorem BQ:∀{N:Nat}{a:List Expr}{b:List T},AQ g N Q a=J b->a.length=b.length/\∀e∈a,∀x p,e≠jd x p:=by
 intro N
 induction N with
 |zero=>intro a b h;exact ja h|succ N d=>
  intro a b h
  induction a using ma with
  |nil=>obtain rfl:=ba h;exact⟨rfl,λe c=>(Tb c).elim⟩|cons e a=>
   refine qd h λt f i j h=>?_;obtain rfl:=ba h;have z:=d j;exact⟨Gc nc z.1,λk c=>(fb.mp c).elim (λq=>q▸Kt i) (z.2 k)⟩
theorem jQ:∀{b:List T}{a:List V}{X me':Me}{W σ':St},dK P I b a X W=J (me',σ')->b.length=a.length:=by
 intro b
 induction b with
 |nil=>intro a X me' W σ' h;induction a using ma with|nil=>rfl|cons y z=>exact ja h
 |cons t b c=>
  intro a X me' W σ' h
  induction a using ma with
  |nil=>exact ja h|cons v a=>exact ab h λp u d=>Gc nc (c d)
theorem Pm:{a:List Expr}->(∀e∈a,∀x p,e≠jd x p)->assignEach a env=a.map λe=>(ua,assign e env):=by
 intro a
 induction a with
 |nil=>
  rintro _;exact rfl
 |cons e a b=>
  rintro h;refine U (bj (h e sa)) (U (b λe c=>h e (oa _ c)) ?_);rfl
theorem aq.out{t:wa->Yl Unit}{r:V->Me->St->Option (Me×St)}{y:T}(h:J y=J x)(g:aq w hb A env eo O t r)(e:∀v X W,IK P I y v X W=r v X W):aq w hb A env eo O t (λv X W=>IK P I x v X W):=λv b X ρ W s me' σ' c a d q=>g v b X ρ W s me' σ' c a d ((e v X W).symm.trans (ba h▸q))
theorem dQ{k:List Expr}{h:List T}{d:Nat}{p:Om}(R:Eg n A)(S:KD w hb A P g I N)(hk:env.scope.names=Q.kinds)(q:AQ g N Q k=J h):aq w hb A env eo Q.sl (λv=>assign (.Tuple k d p) env v) (λv X W=>IK P I (.t h) v X W):=λv i X ρ W s me' σ' r b xv e=>ab e λt e1 B=>by
 refine aa λnq=>?_;obtain⟨a,C,m,rfl,x1,ea,la,G⟩:=(Vl e1▸xv:VR w ρ s.heap (.t t) i).wF;refine nq ?_;have l:=BQ q;show Qa _ _ (assign (.Tuple _ _ _) env _) _ _ _
 refine U (O5 _ _ _ _ _) ?_;refine ga (lc (V2 R.hh (items:=C.toArray) (lf ea) (by exact U Hb (U (Pm l.2) (U (ya _) (U l.1 (U (jQ B) (U G.length rfl)))))) (by refine U (Pm l.2) (U (propext Yy) ?_);intro y c;obtain⟨p,_,rfl⟩:=Rb.mp c;rfl) λj f=>?_));have c:∀a o,s.heap.get? a=J o->j.get? a=J o:=λa o e=>f a o (ic (qc e)) e;exact Da (S.all Q _ h env eo hk q t C X ρ W {s with heap:=j} me' σ' (r.wI c) (b.wI r c) (G.mono (Ja _) λa o e u=>c a o e) B) (λu z y=>PT.after (s1:={s with heap:=j}) rfl (Kp.wI c) y) λu u z=>z
theorem eV(f:Cx w hb K P g I n)(j:Eg (n+1) A)(S:KD w hb A P g I N)(SE:Hi w hb A P g I N){t:T}(c:env.scope.names=Q.kinds)(h:U1 g (N+1) Q e=J t):aq w hb A env eo Q.sl (λv=>assign e env v) (λv X W=>IK P I t v X W):=by
 induction e using Expr.casesOn with
 |Attribute o a p=>exact qe h λy q h=>aq.out (Gc J h) (Ut f.B λX=>SE.E Q _ y env eo 0 X c q) λu u u=>rfl|Subscript o i p=>exact Dj h λu h=>qd h λx y a b h=>aq.out h (Qu (λX=>SE.E Q _ _ env eo 0 X c a) λX=>SE.E Q _ _ env eo 0 X c b) λu u u=>rfl|Name x p=>
  refine qe h λi q h=>(Ed h ?_);exactλv a X ρ W s me' σ' r b d e=>qe e λu u e=>by
   obtain⟨rfl,rfl⟩:=Ta e;exact Da (mh (Xl q) (td _) r b d) (λu u p=>PA.pt p) λu u z=>z
 |Tuple a d p=>exact qe h λb q h=>h▸dQ j S c q|_=>exact ja h
theorem Y0(k:Cx w hb K P g I n)(B:Eg (n+1) A):∀N,KD w hb A P g I N:=by
 intro N
 induction N with
 |zero=>
  exact⟨λQ e t env eo i h=>ja h,λQ m G env eo i h=>ja h⟩
 |succ N R=>
  have S:=R;refine⟨λQ e t env eo i h=>⟨eV k B S (Ps k B N) i h,Kt h⟩,λQ m G env eo i h C l X ρ W s me' σ' r c x e=>?_⟩
  induction m using ma with
  |nil=>
   refine aa λd=>?_;obtain rfl:=ba h;refine d ?_;clear d;refine aa λd=>?_
   induction C using ma with
   |nil=>refine d ?_;clear d;obtain⟨rfl,rfl⟩:=Ta (ba e);rw[(x.wF:l=[])];exact ao ⟨ρ,rfl,Kp.refl,r,c⟩|cons y j=>refine d ?_;clear d;exact ja e
  |cons e0 m=>
   refine qd h λt q q1 q2 h=>?_;obtain rfl:=ba h;refine aa λd=>?_
   induction C using ma with
   |nil=>refine d ?_;clear d;exact ja e|cons v0 v=>
    refine d ?_;clear d;refine aa λd=>?_;obtain⟨j,f,rfl,a,b⟩:=x.wF;refine d ?_;clear d;refine ab e λp q3 e=>?_;have y:=S.one Q e0 t env eo i q1;refine U (bj y.2) (Zn (Da (y.1 v0 j X ρ W s p.1 p.2 r c a q3) (λu s1 p1=>?_) λu u z=>z));obtain⟨L,t1,k1,r1,E1⟩:=p1;exact Da (S.all Q m q env eo i q2 v f p.1 L p.2 s1 me' σ' r1 E1 (k1.vrs b) e) (λu s2 p2=>PT.after t1 k1 p2) λu u z=>z
end
section
variable {h:qb} {f:OK} {t x:Expr} {b:List bz} {z:Om}
variable [u:Av]
inductive Q3(w:zb)(P:List Ca)(h:qb):Fl->OK->Prop
 |next:Q3 w P h .next .next|ret {v:V} {val:wa}:VR w P h v val->Q3 w P h (.ret v) (.ret val)
def qdj(w:zb)(P:List Ca)(h:qb)(a:Fl)(c:OK):Prop:=match a,c with|.next,f=>f=.next|.ret v,f=>∃d,f=.ret d/\VR w P h v d
theorem Q3.wF{w:zb}{P:List Ca}{E:Fl}(x:Q3 w P h E f):qdj w P h E f:=
 Q3.rec (motive:=λE f a=>qdj w P h E f) rfl (λq=>⟨_,rfl,q⟩) x
inductive PF(w:zb)(F:qb)(X:zj)(L:Ca->Prop)(B:List Bb)(P:List Ca)(s:Ea)(O:St)(W:Me)(E:Fl)(f:OK)(s':Ea):Prop
 |mk (ρ':List Ca):Bh s s'->Kp L P s.heap s'.heap ρ'->R w F ρ' O s'.heap->Lc w F X L B 0 W ρ' s'.heap->Q3 w ρ' s'.heap E f->PF w F X L B P s O W E f s'
def Df(w:zb)(F:qb)(A:Yb)(X:zj)(L:Ca->Prop)(B:List Bb)(t:Yl OK)(a:Me->St->Option (Fl×Me×St)):Prop:=
 ∀W P O s E Q S,R w F P O s.heap->Lc w F X L B 0 W P s.heap->a W O=J (E,Q,S)->Qa (bb pg w) A t (PF w F X L B P s S Q E) No s
variable {w:zb} {F:qb} {A:Yb} {X:zj} {L:Ca->Prop} {B:List Bb} {lo:Nat} {W Q:Me} {K:Ue} {r:Ch} {n N:Nat} {g:Gl} {p:Nat->List V->St->Option (V×St)} {y:Sc} {P C:List Ca} {O S:St} {s:Ea} {E:Fl}
theorem Df.congr{t:Yl OK}{a d:Me->St->Option (Fl×Me×St)}(h:Df w F A X L B t a)(e:∀W O,d W O=a W O):Df w F A X L B t d:=λW P O s E Q S R c q=>h W P O s E Q S R c ((e W O).symm.trans q)
theorem PF.after{s1 c:Ea}(t:Bh s s1)(k:Kp L P s.heap s1.heap C)(x:PF w F X L B C s1 S W E f c):PF w F X L B P s S W E f c:=by
 obtain⟨a,d,e,i,j,q⟩:=x;exact⟨a,t.trans d,k.trans e,i,j,q⟩
theorem tz:Df w F A X L B (tu [] X) (λW O=>J (.next,W,O)):=λW P O s E Q S a c e=>by
 obtain⟨rfl,d⟩:=Ta (ba e);obtain⟨rfl,rfl⟩:=Ta d;exact U (ou _) (ta ⟨P,rfl,Kp.refl,a,c,.next⟩)
theorem gx{st:bz}{rest:List bz}{a G:Me->St->Option (Fl×Me×St)}(hf:Df w F A X L B (fE st X) a)(hg:Df w F A X L B (tu rest X) G):
 Df w F A X L B (tu (st::rest) X) (λW O=>(a W O).bind (dD G)):=λW P O s E Q S c d e=>ab e λi e1 D=>by
 refine aa λl=>?_;obtain⟨I,m,o⟩:=i;refine l ?_;clear l;refine U (arm_execs_cons _ _ _) (ga (Da (hf W P O s I m o c d e1) (λf s1 p1=>?_) λj j k=>k));obtain⟨C,R,k1,T,E1,q⟩:=p1;refine aa λl=>?_
 induction I with
 |next=>
  refine l ?_;clear l;rw[q.wF];exact Da (hg m C o s1 E Q S T E1 D) (λf s2 v=>PF.after R k1 v) λj j k=>k
 |ret v=>
  refine l ?_;clear l;refine aa λl=>?_;obtain⟨j,rfl,x1⟩:=q.wF;obtain⟨rfl,k⟩:=Ta (ba D);obtain⟨rfl,rfl⟩:=Ta k;refine l ?_;clear l;exact ta ⟨C,R,k1,T,E1,q⟩
theorem R7{a:List bz}{T:Me->St->Option (Bool×St)}{c G:Me->St->Option (Fl×Me×St)}(ht:∀W,Zg w F A X L B 0 W (isTrue t X (yc t X)) (T W))(hf:Df w F A X L B (tu a X) c)(hg:Df w F A X L B (tu b X) G):
 Df w F A X L B (fE (.If t a b z) X) (λW O=>(T W O).bind λd=>ln d.1 (c W d.2) (G W d.2)):=λW P O s E Q S i j e=>ab e λd e1 m=>by
 refine U (arm_exec_If _ _ _ _ _) (ga (lc (ga (Da (ht W P O s i j _ _ e1) (λq v p1=>?_) λk k l=>l))));obtain⟨C,D,k1,I,x1⟩:=p1;rw[<-(x1:q=d.1)]at m;have R:=j.kx i k1
 induction q with
 |true=>exact Da (hf W C _ v E Q S I R m) (λf s2 o=>PF.after D (k1.kp j) o) λk k l=>l|false=>exact Da (hg W C _ v E Q S I R m) (λf s2 o=>PF.after D (k1.kp j) o) λk k l=>l
theorem N0{a:Me->St->Option (V×St)}(l:∀W,uc w F A X L B 0 W (yc x X) (a W)):
 Df w F A X L B (fE (.Return (J x) z) X) (λW O=>(a W O).map λc=>(.ret c.1,W,c.2)):=λW P O s E Q S d i e=>qe e λc m o=>by
 obtain⟨rfl,q⟩:=Ta o;obtain⟨rfl,rfl⟩:=Ta q;refine wpAny_Return_some (Da (l W P O s d i _ _ m) (λv I D=>?_) λj j k=>k);obtain⟨C,j,k1,k,G⟩:=D;exact⟨C,j,k1.kp i,k,i.kx d k1,.ret G⟩
noncomputable def Kv:Expr->Bool
 |.ListComp .. |.SetComp .. |.DictComp .. =>Z|_=>ua
theorem Un{e:Expr}{t:Option Expr}{a:Nat}(h:Kv e=ua):Ht e t a X=pure ua:=by
 induction e using Expr.casesOn<;>first|rfl|exact zc h.symm ia
theorem fJ{v:V}{d:wa}{a:Unit}(x:VR w P h v d)(e:rG v=J a):d=.none\/∃b,d=.bool b:=by
 have c:=x.wF
 induction v using V.casesOn with
 |none=>exact .inl c|bool b=>exact .inr ⟨b,c⟩|_=>exact ja e
theorem iT{a:Me->St->Option (V×St)}(l:Kv x=ua)(m:∀W,uc w F A X L B 0 W (yc x X) (a W)):
 Df w F A X L B (fE (.Expr x z) X) (λW O=>(a W O).bind λc=>(rG c.1).map λd=>(.next,W,c.2)):=λW P O s E Q S i j e=>ab e λc o q=>qe q λd v D=>by
 obtain⟨rfl,G⟩:=Ta D;obtain⟨rfl,rfl⟩:=Ta G;refine wpAny_Expr (Da (m W P O s i j _ _ o) (λI s1 R=>?_) λd d k=>k) (by unfold qfx;refine U j.kind ?_;rfl) (Un l);obtain⟨C,k,k1,T,x1⟩:=R;rcases fJ x1 v with rfl|⟨b,rfl⟩<;>exact⟨C,k,k1.kp j,T,j.kx i k1,.next⟩
theorem GF{T:Me->St->Option (Bool×St)}{a:Me->St->Option (Fl×Me×St)}(AK:Eg n A)(ht:∀W,Zg w F A X L B 0 W (isTrue t X (yc t X)) (T W))(hf:Df w F A X L B (tu b X) a):∀(o:Nat) W P O s E Q S,R w F P O s.heap->Lc w F X L B 0 W P s.heap->JB o T a W O=J (E,Q,S)->
 dh (bb pg w) A (.whileLoop t b [] X) (λq c=>∃f,q=.ok f/\PF w F X L B P s S Q E f c) s:=by
 intro o
 induction o with
 |zero=>intro W P O s E Q S c d e;exact ja e|succ o ih=>
  intro W P O s E Q S c d e;refine ab e λi e1 I=>Vg ?_;show Qa _ A ((whileTurn t b [] X).onRaise λx=>do Oz x X;Up x) _ _ s
  refine DA (Cn λj E0 hQ=>?_);simp only[whileTurn];refine ga (Da (ht W P O s c d _ _ e1) (λc' s1 p1=>?_) λk k l=>l.elim);refine aa λm=>?_;obtain⟨C,t1,k1,r1,x1⟩:=p1;refine m ?_;clear m;have E1:=d.kx c k1
  induction c' with
  |false=>
   rw[<-(x1:ua=i.1)]at I;obtain⟨rfl,zz⟩:=Ta (ba I);obtain⟨rfl,rfl⟩:=Ta zz;exact U (fe ia) (ga (U (ou _) (ta (ta (hQ _ _ ⟨.next,rfl,C,t1,k1.kp d,r1,E1,.next⟩)))))
  |true=>
   rw[<-(x1:Z=i.1)]at I;refine U (Dd rfl) (ab I λp2 e3 e4=>(aa λm=>?_));obtain⟨f0,D,G⟩:=p2;refine m ?_;clear m;refine ga (Da (hf W C _ s1 f0 D G r1 E1 e3) (λf s2 p2=>?_) λk k l=>l.elim);refine aa λm=>?_;obtain⟨k,t2,k2,r2,E2,l⟩:=p2;refine m ?_;clear m;refine aa λm=>?_
   induction f0 with
   |next=>
    refine m ?_;clear m;rw[l.wF];refine ta (hQ _ _ ⟨rfl,Oc (ih D k G s2 E Q S r2 E2 e4) λq s3 v=>?_⟩);obtain⟨f,hq,v⟩:=v;exact⟨f,hq,PF.after t1 (k1.kp d) (PF.after t2 k2 v)⟩
   |ret v=>
    refine m ?_;clear m;refine aa λm=>?_;obtain⟨q,rfl,x2⟩:=l.wF;obtain⟨rfl,zz⟩:=Ta (ba e4);obtain⟨rfl,rfl⟩:=Ta zz;refine m ?_;clear m;exact ta (hQ _ _ ⟨_,rfl,k,t1.trans t2,(k1.kp d).trans k2,r2,E2,l⟩)
theorem UQ{T:Me->St->Option (Bool×St)}{a:Me->St->Option (Fl×Me×St)}(j:Eg n A)(k:∀W,Zg w F A X L B 0 W (isTrue t X (yc t X)) (T W))(l:Df w F A X L B (tu b X) a):
 Df w F A X L B (fE (.While t b [] z) X) (λW O=>JB 5000 T a W O):=λW P O s E Q S c d e=>
 wpAny_While (Oc (GF j k l 5000 W P O s E Q S c d e) λq m i=>by
  obtain⟨f,rfl,i⟩:=i;exact i)
theorem Zx(t:CT):Vt 0 t=Z:=by
 induction t<;>simp[Vt]
inductive XK [u:Av](w:zb)(F:qb)(X:zj)(L:Ca->Prop)(y:Sc)(I:Ca)(P:List Ca)(s:Ea)(E:Fl)(Q:Me)(S:St)(q:Cr)(s':Ea):Prop
 |mk (f:OK) (ρ':List Ca):q=.ok f->Bh s s'->Kl (λa=>(L a\/a=I)\/a=I) P s.heap s'.heap ρ'->R w F ρ' S s'.heap->Lc w F X L y.sl 0 Q ρ' s'.heap->Q3 w ρ' s'.heap E f->XK w F X L y I P s E Q S q s'
theorem Kp.kl{c:qb}{a:List Ca}(k:Kp L P h c a):Kl L P h c a:=⟨k.pre,k.fresh,k.keep,k.imm⟩
theorem kE{x6:Expr}{t:CT}{it:It}{I:Ca}{c:Me->St->Option (Fl×Me×St)}(AK:Eg n A)(ht:Xk y x6=J t)(hf:Df w F A X L y.sl (tu b X) c)(x8:F.get? I=Y):
 ∀(x4 i:Nat)(W:Me)(P:List Ca)(O:St)(s:Ea)(E:Fl)(Q:Me)(S:St),R w F P O s.heap->Lc w F X L y.sl 0 W P s.heap->sj w P s.heap I i it->¬L I->Gq x4 it i (λv W O=>(ql t v W).bind λx7=>c x7 O) W O=J (E,Q,S)->
  dh (bb pg w) A (.forLoop x6 (.ref I) b [] X) (λq a=>XK w F X L y I P s E Q S q a) s:=by
 intro x4
 induction x4 with
 |zero=>intro i W P O s E Q S d j x x5 e;exact ja e|succ x4 ih=>
  intro i W P O s E Q S d j x x5 e;refine ab e λo hi e=>Vg ?_;show Qa _ A ((w4 x6 (.ref I) b [] X).onRaise λx=>do Oz x X;Up x) _ _ s
  refine DA (Cn λk E0 hQ=>?_);simp only[w4];refine ga (lc (ga (Zh (Da (dH AK d x hi) (λq s1 np=>?_) λl l m=>m.elim))));refine aa λnq=>?_
  induction np with
  |done ho hq t1 k1=>
   refine nq ?_;clear nq;rw[ho]at e;refine U hq ?_;obtain⟨rfl,zz⟩:=Ta (ba e);obtain⟨rfl,rfl⟩:=Ta zz;refine ta (hQ _ _ ⟨rfl,qdF ?_⟩);exact U (ou _) (ta ⟨.next,P,rfl,t1,Js x k1,Oq d x x8 k1,Nq j x x5 k1,.next⟩)
  |item v y2 ho hq t1 k1 xv x1=>
   refine nq ?_;clear nq;rw[ho]at e;refine U hq (ab e λG e1 e2=>ab e1 λx7 y3 hF=>(aa λnq=>?_));obtain⟨f0,x9,y1⟩:=G;refine nq ?_;clear nq;have r1:=Oq d x x8 k1;refine ga (DB (s:=s1) x1 (ga (Da (jM AK ht (Zx t) r1 (Nq j x x5 k1) xv y3) (λl s2 p2=>?_) λl l m=>m.elim)));refine aa λnq=>?_;obtain⟨t2,k2,r2,E2⟩:=p2;refine nq ?_;clear nq;have x2:sj w P s2.heap I (i+1) it:=x1.keep (Ja _) k2.imm λo e=>k2.keep I o e (x1.notIn r1) x5;refine ga (Da (hf x7 P O s2 f0 x9 y1 r2 E2 hF) (λf s3 p3=>?_) λl l m=>m.elim);refine aa λnq=>?_;obtain⟨m,t3,k3,r3,E3,q3⟩:=p3;refine nq ?_;clear nq;have T:=(t1.trans t2).trans t3;have KP:=(Ky (eo:=L) (D:=I) x k1 x1).trans ((k2.trans k3).weaken λa q=>.inl (.inl q));refine aa λnq=>?_
   induction f0 with
   |next=>
    refine nq ?_;clear nq;rw[q3.wF];refine ta (hQ _ _ ⟨rfl,Oc (ih (i+1) x9 m y1 s3 E Q S r3 E3 (x2.keep k3.pre k3.imm λo e=>k3.keep I o e (x2.notIn r2) x5) x5 e2) λq s4 p4=>?_⟩);obtain⟨f,a,hq,t4,kl,g5,g6,g7⟩:=p4;exact⟨f,a,hq,T.trans t4,Kl.before KP kl,g5,g6,g7⟩
   |ret v=>
    refine nq ?_;clear nq;refine aa λnq=>?_;obtain⟨y2,rfl,a⟩:=q3.wF;obtain⟨rfl,zz⟩:=Ta (ba e2);obtain⟨rfl,rfl⟩:=Ta zz;refine nq ?_;clear nq;exact ta (hQ _ _ ⟨_,m,rfl,T,KP.kl,r3,E3,q3⟩)
end
section
variable [z:Av]
variable {w:zb} {Q:qb} {A:Yb} {X:zj} {T:Ca->Prop} {F:List Bb} {lo:Nat} {W E:Me} {K:Ue} {B:Ch} {n N:Nat} {g:Gl} {y:Nat->List V->St->Option (V×St)} {C:Sc} {I P:List Ca} {S O:St} {s:Ea} {D:Fl}
theorem Kl.offE{F:List Bb}{h j i:qb}{f:List Ca}{c:Ca}(k2:∀b o,h.get? b=J o->j.get? b=J o)(hI:h.get? c=Y)(r:R w Q I S h)(k:Kl (λa=>(T a\/a=c)\/a=c) I j i f)(p:R w Q f O i)(t:Lc w Q X T F 0 W f i):Kp T I h i f:=
 have l:∀a o,h.get? a=J o->a≠c:=λa o e q=>by rw[q,hI]at e;exact ja e
 have b:∀a o,h.get? a=J o->a∉I->¬T a->i.get? a=J o:=λa o e u v=>k.keep a o (k2 a o e) u λq=>q.elim (λq=>q.elim v (l a o e)) (l a o e)
 ⟨k.pre,λa G=>(k.fresh a G).imp_right λq=>(by
  induction d:h.get? a with
  |none=>rfl|some o=>rw[k2 a o d]at q;exact ja q.symm),b,λa o e d=>k.imm a o (k2 a o e) d,λa e=>by
  obtain⟨o,L⟩:=Na.mp e;by_cases d:a∈I
  ·obtain⟨x,m,_⟩:=p.live (Lh k.pre d)
   refine U m ?_;rfl
  ·by_cases m:T a
   ·exact t.eol a m
   ·refine U (b a o L d m) ?_;rfl⟩
theorem OY{k j:Expr}{b:List bz}{o:Om}{t:CT}{L:Me->St->Option (V×St)}{d:Me->St->Option (Fl×Me×St)}(AK:Eg n A)(ht:Xk C k=J t)(l:∀a b c,j≠ .Set a b c)(hi:∀W,uc w Q A X T C.sl 0 W (yc j X) (L W))(hf:Df w Q A X T C.sl (tu b X) d):
 Df w Q A X T C.sl (fE (.For k j b [] o) X) (λW S=>(L W S).bind λp=>(fj p.1 p.2).bind λR=>Gq 5000 R 0 (λv W S=>(ql t v W).bind λc=>d c S) W p.2):=λW I S s D E O r h e=>ab e λp e1 e=>ab e λR e2 e=>by
 refine wpAny_For (Da (hi W I S s r h _ _ e1) (λa v p1=>?_) λu u i=>i) λx=>Nz l X x;obtain⟨P,t1,k1,m,x1⟩:=p1;have E1:=h.kx r k1;refine Da (Gz m x1 e2) (λq s2 p2=>?_) λu u i=>i;obtain⟨hq,t2,k2,x2⟩:=p2;refine U hq ?_;have c:v.heap.get? v.heap.objs.size=Y:=Fb _;have x:¬T v.heap.objs.size:=λq=>by have:=E1.eol _ q;rw[c]at this;exact zc this ia
 refine Oc (kE AK ht hf (Rd m c) 5000 0 W P p.2 s2 D E O (m.wI k2) (E1.wI m k2) x2 x e) λq s3 p3=>?_;obtain⟨f,G,rfl,t3,kl,g5,g6,g7⟩:=p3;exact⟨G,(t1.trans t2).trans t3,(k1.kp h).trans (kl.offE k2 c m g5 g6),g5,g6,g7⟩
theorem Gr{d x:Expr}{f:Om}{a:Me->St->Option (V×St)}{G:V->Me->St->Option (Me×St)}(h:∀b p,d≠jd b p)(j:Ht x (J d) f.line X=pure ua)(k:Cu [d] x X=pure Y)(l:∀W,uc w Q A X T F 0 W (yc x X) (a W))
 (m:aq w Q A X T F (λv=>assign d X v) G):
 Df w Q A X T F (fE (.Assign [d] x f) X) (λW S=>(a W S).bind λp=>(G p.1 W p.2).map nJ):=λW I S s D E O r b e=>ab e λp o e=>qe e λq t v=>by
 obtain⟨rfl,L⟩:=Ta v;obtain⟨rfl,rfl⟩:=Ta L;refine wpAny_Assign_stores (Da (l W I S s r b _ _ o) (λi R p1=>?_) λu u c=>c) j k;obtain⟨P,t1,k1,r1,x1⟩:=p1;refine U (bj h) (Da (m _ i W P _ R q.1 q.2 r1 (b.kx r k1) x1 t) (λu s2 p2=>?_) λu u c=>c);obtain⟨c,t2,k2,r2,E2⟩:=p2;exact⟨c,t1.trans t2,(k1.kp b).trans k2,r2,E2,.next⟩
theorem jY{o i x:Expr}{tp R:Om}{op:He}{c G d:Me->St->Option (V×St)}(hi:∀b e a,augStore i b e a=(do dj [a,b,e] (sx b e a);qfa [a,b,e] [];pure .next))(hf:∀W,uc w Q A X T F 0 W (yc o X) (c W))(hg:∀W,uc w Q A X T F 0 W (yc i X) (G W))(hx:∀W,uc w Q A X T F 0 W (yc x X) (d W)):
 Df w Q A X T F (fE (.AugAssign (.Subscript o i tp) op x R) X) (λW S=>(c W S).bind λp=>(G W p.2).bind λq=>(cD p.1 q.1 q.2).bind λm=>(d W q.2).bind λu=>
  (qh m).bind λx=>(qh u.1).bind λf=>(AL op x f).bind λh=>(Ci p.1 q.1 (.int h) u.2).map λS=>(.next,W,S)):=λW I S s D E O r f e=>
 ab e λp e1 e=>ab e λq e2 e=>ab e λm e3 e=>ab e λu e4 e=>ab e λa e5 e=>ab e λb e6 e=>ab e λh e7 e=>qe e λx8 e8 e9=>by
 cases e9;refine wpAny_AugAssign_SubscriptAny (Da (hf W I S s r f _ _ e1) (λo' s1 p1=>?_) λj j h=>h) hi;obtain⟨P,t1,k1,r1,x1⟩:=p1;have E1:=f.kx r k1;refine Da (hg W P _ s1 r1 E1 _ _ e2) (λi' s2 p2=>?_) λj j h=>h;obtain⟨x9,t2,k2,r2,x2⟩:=p2;have E2:=E1.kx r1 k2;refine Da (Fv (L:=X.locals) r2 (k2.vr x1) x2 e3).2 (λx7 s3 p3=>?_) λj j h=>h;obtain⟨x5,t3,t,r3,x3⟩:=p3;have E3:=E2.kx r2 t;refine Da (hx W x5 _ s3 r3 E3 _ _ e4) (λv' s4 p4=>?_) λj j h=>h;obtain⟨y1,t4,v,r4,x4⟩:=p4;have E4:=E3.kx r3 v;have l:∀(tk:jk)(k:Nat),Qa (bb pg w) A (sx o' i' (.int h tk)) (λj s'=>PF w Q X T F I s O W .next .next s') No {s4 with toks:=k}:=λtk k=>
  Da (Ny (s:={s4 with toks:=k}) r4 E4.lok (v.vr (t.vr (k2.vr x1))) (v.vr (t.vr x2)) (.int h tk) e8) (λj s5 p5=>by
   refine aa λnq=>?_;obtain⟨x6,t5,k5,r5⟩:=p5;refine nq ?_;exact⟨x6,(((t1.trans t2).trans t3).trans t4).trans t5.past,((((k1.kp f).trans (k2.kp E1)).trans (t.kp E2)).trans (v.kp E3)).trans (k5.kp E4),r5,E4.kx r4 k5,.next⟩) λj j h=>h
 obtain⟨_,rfl⟩:=x3.wZ e5;obtain⟨_,rfl⟩:=x4.wZ e6
 induction op with
 |Add=>rw[<-ba e7]at l;exact iadd_int (l _ _)|Sub=>rw[<-ba e7]at l;exact qaf (l _ _)|_=>exact ja e7
end
section
variable [y:Av]
variable {w:zb} {G:qb} {A:Yb} {W:zj} {E:Ca->Prop} {x:List Bb} {lo:Nat} {O C:Me} {K:Ue} {T:Ch} {n N:Nat} {g:Gl} {I:Nat->List V->St->Option (V×St)} {L:Sc} {D z:List Ca} {P F:St} {s:Ea} {B:Fl}
theorem bB{p:Expr}{i:List gd}{j:Scope}{l:Om}{a:X}{v:V}{use:Option (wa->Yl Unit)}{Q:wa->Ea->Prop}(AK:Eg (n+1) A)(S:Hi w G A T g I N)(hk:W.scope.names=L.kinds)(h:Fh g (N+1) L (.ListComp p i j l)=J a)
 (r:R w G D P s.heap)(c:Lc w G W E L.sl lo O D s.heap)(e:evX T I a O P=J (v,F))
 (q:∀b f d k m,Bh s f->KX W.locals D s.heap f.heap b->R w G b F f.heap->VR w b f.heap v (.ref d)->k∉b->s.heap.get? k=Y->G.get? k=Y->f.heap.Ns k m->compPost (bb pg w) A No use Q (.ref d) k (.ok .next) f):
 Qa (bb pg w) A (qdH (.ListComp p i j l) j W (qeO i l) (L4 []) (firstAsync i) (firstIter i W) use) Q No s:=by
 induction i using ma with
 |nil=>exact ja h|cons g0 rest=>
  obtain⟨x2,x1,x3,x4⟩:=g0;refine ae h λhz h=>?_;cases eq_of_beq hz;refine qd h λit sc' q1 q2 h=>(Vu h λt fs gs f q3 q4 q5 q6 h=>(ae h λhg h=>?_));refine Vx (sc':=sc') (Fi:=λP=>evX T I it O P) (Fs:=λk=>fs.map λb P=>Wt T I b k P) (rr:=λk P=>evRest T I gs (λO P=>evX T I f O P) k P) AK (Ux q2) hk (Hm q1) q3 hg (S.E L _ it W E lo O hk q1)
   (λb m d o v k x5=>⟨S.Ts sc' _ fs b m _ k o q4,S.Gs sc' _ gs b m _ k d _ f [] _ _ _ o q5 λu=>S.E sc' _ f b m _ u o q6⟩) r c ?_ q
  refine Ed e (Ed (ba h) ?_);unfold iG;refine U (Zu _ _ _ _) ?_;rfl
theorem Zw{x2:Expr}{R:List gd}{t:Scope}{x1 py x4:Om}{c:Bb}{i:Nat}{f:X}(AK:Eg (n+1) A)(S:Hi w G A T g I N)(hk:W.scope.names=L.kinds)(h:Fh g (N+1) L (.ListComp x2 R t x1)=J f)(hy:Us L c=J i)
 (hs:W.scope.kind=.function->Ht (.ListComp x2 R t x1) (J (.Name c py)) x4.line W=pure Z):
 Df w G A W E L.sl (fE (.Assign [.Name c py] (.ListComp x2 R t x1) x4) W) (λO P=>(evX T I f O P).bind λp=>((Ge (ac i O.length)).map λu=>(O.set i (J p.1),p.2)).map nJ):=λO D P s B C F r j e=>ab e λp e1 e=>qe e λq e2 e3=>qe e2 λu u e4=>by
 subst e4;obtain⟨rfl,zz⟩:=Ta e3;obtain⟨rfl,rfl⟩:=Ta zz;refine U (exec_Assign_Name_used _ _ _ _ (hs j.kind)) (ga (lc (ga (ga (Da (bB (use:=J (assign (.Name c py) W)) (Q:=λu a=>PF w G W E L.sl D s _ (O.set i (J p.1)) .next .next a) AK S hk h r j e1 λx6 s5 k CC m t5 k5 r5 x5 c1 c2 c3 hC=>?_) (λu a b=>ta (ta b)) λu u l=>l)))));have x7:¬E CC:=λq=>by have:=j.eol _ q;rw[c2]at this;exact zc this ia
 refine Da (mh (Xl hy) (td _) r5 (j.kx r k5) x5) (λu s6 p6=>?_) λu u l=>l;obtain⟨t6,k6,r6,E6⟩:=p6;have x3:s6.heap.Ns CC m:=by
  refine aa λnq=>?_;obtain⟨o,a,ep,e1,e2⟩:=hC;exact nq (⟨o,a,ep,k6.keep _ _ e1 c1 x7,e2⟩)
 refine⟨m,x3,λh' x9=>?_⟩;have kk:∀b o,b≠CC->s6.heap.get? b=J o->h'.get? b=J o:=λb o n e=>(x9.2 b n).trans e;have x8:∀o,s6.heap.get? CC=J o->¬Jh o/\(∀v,o.data≠ .cell v):=λo e=>⟨Cg x3 e,λv q=>by
  obtain⟨o',a,ep,e',d,_⟩:=x3;rw[ba (e'.symm.trans e),q]at d;exact nomatch d⟩
 have d:Kp E D s.heap s6.heap x6:=(k5.kp j).trans k6;have v:∀a o,s.heap.get? a=J o->a≠CC:=λa o e q=>by rw[q,c2]at e;exact ja e
 exact⟨x6,(t5.trans t6).upd,⟨d.pre,d.fresh,λa o e n1 n2=>kk a o (v a o e) (d.keep a o e n1 n2),λa o e im=>kk a o (v a o e) (d.imm a o e im),λa e=>(by
  refine aa λnq=>?_;obtain⟨o,ho⟩:=Na.mp e;obtain⟨o2,y1⟩:=Na.mp (d.live a e);refine nq ?_;refine U (kk a o2 (v a o ho) y1) ?_;rfl)⟩,r6.beside (wr:=λa=>a=CC) (λa o n e=>kk a o n e) (λa q=>by subst q;exact⟨c1,c3,λo e=>(x8 o e).1⟩),E6.kpD x7 x8 kk,.next⟩
end
section
variable [C:Av]
noncomputable def uN(z:Expr):Bool:=by
 induction z using Expr.casesOn with
 |Starred=>exact Z|_=>exact ua
noncomputable def qQ(k:List (Bb×xd))(t:Option Expr)(z:Expr):Option Bb:=by
 induction z using Expr.casesOn with
 |Name id a=>exact if k.lookup id==J .local&&a.line==(t.map λx=>x.pos.line).getD 0 then J id else Y|_=>exact Y
def Bu(Q:Sc)(a:List Expr):List Bb:=a.filterMap (qQ Q.kinds (a.head?))
def Gw(Q:Sc)(a b:List Expr):Option (Option (List Bb)):=
 if !(a.length==2||a.length==3)||b.length !=a.length then J Y
 else if b.any uN then J Y
 else if(Bu Q a).length !=a.length||(Bu Q a).eraseDups.length !=(Bu Q a).length then J Y
 else if b.all (qdO 8)then J Y
 else if b.all (qbo 8)then Y
 else J (J (Bu Q a))
variable {w:zb} {I:qb} {A:Yb} {W:zj} {E:Ca->Prop} {sl:List Bb} {lo:Nat} {X me':Me} {K:Ue} {tab:Ch} {n N:Nat} {g:Gl} {cf:Nat->List V->St->Option (V×St)} {Q:Sc} {O L:List Ca} {S σ':St} {s:Ea} {D:Fl}
theorem iI{ts vs:List Expr}{k k':Nat}{p p':Om}{r:Option (List Bb)}(hf:W.scope.kind=.function)(hk:W.scope.names=Q.kinds)(h:Gw Q ts vs=J r):Cu [.Tuple ts k p] (.Tuple vs k' p') W=pure r:=by
 refine aa λnq=>?_;obtain⟨kinds,sl⟩:=Q
 dsimp only at hk
 subst hk;refine nq ?_;clear nq;have go:∀(F:Expr->Bool)(G:Expr->Option Bb),(∀z,F z=uN z)->(∀z,G z=qQ W.scope.names (ts.head?) z)->(if(!(ts.length==2||ts.length==3)||vs.length !=ts.length||W.blockKind != .function)=Z then pure Y
  else if vs.any F=Z then pure Y
  else if((ts.filterMap G).length !=ts.length||(ts.filterMap G).eraseDups.length !=(ts.filterMap G).length)=Z then pure Y
  else if vs.all (qdO 8)=Z then pure Y
  else if vs.all (qbo 8)=Z then(do unsupported "assign.tuple-of-constant-expressions:order-of-the-stores";pure (J (ts.filterMap G)))
  else pure (J (ts.filterMap G)):Yl (Option (List Bb)))=pure r:=by
  intro F G eF eG;obtain rfl:=funext eF;obtain rfl:=funext eG;refine U (by rw[(by unfold N3;rw[hf];rfl:W.blockKind=.function)];rfl:(W.blockKind != .function)=ua) (U (uA _) ?_);unfold Gw at h
  split at h
  ·rename_i q;obtain rfl:=ba h;exact U (Dd q) rfl
  ·rename_i q
   refine U (fe q) ?_
   split at h
   ·rename_i q;obtain rfl:=ba h;exact U (Dd q) rfl
   ·rename_i q
    refine U (fe q) ?_
    split at h
    ·rename_i q;obtain rfl:=ba h;exact U (Dd q) rfl
    ·rename_i q
     refine U (fe q) ?_
     split at h
     ·rename_i q;obtain rfl:=ba h;exact U (Dd q) rfl
     ·rename_i q
      refine U (fe q) ?_
      split at h
      ·exact ja h
      ·rename_i q;obtain rfl:=ba h;exact U (fe q) rfl
 refine go _ _ (λz=>?_) λz=>?_
 ·induction z using Expr.casesOn<;>rfl
 ·induction z using Expr.casesOn<;>rfl
theorem NC:∀{is:List Nat}{a:List V}{X me':Me},xe is a X=J me'->me'.length=X.length:=by
 intro is
 induction is with
 |nil=>intro a X me' h;induction a using ma with|nil=>exact Ed (ba h) rfl|cons u y=>exact ja h
 |cons i is b=>
  intro a X me' h
  induction a using ma with
  |nil=>exact ja h|cons v c=>exact(b (Oi (x:=xe is c (X.set i (J v))) h).2).trans (yb ..)
theorem dF:∀{is:List Nat}{a:List V}{X:Me}{i:Nat}{o:Option V},i∉is->xe is a (X.set i o)=(xe is a X).map (λx=>x.set i o):=by
 intro is
 induction is with
 |nil=>intro a X i o h;induction a using ma<;>rfl|cons j is c=>
  intro a X i o h
  induction a using ma with
  |nil=>rfl|cons v b=>
   show(if j<(X.set i o).length then xe is b ((X.set i o).set j (J v))else Y)=(if j<X.length then xe is b (X.set j (J v))else Y).map _
   refine U yb (U (List.set_comm _ _ (λq=>h (q▸sa):i≠j)) (U (c λq=>h (oa _ q)) ?_))
   split<;>rfl
theorem OC:∀{is:List Nat}{a:List V}{X:Me}{i:Nat}{v:V},is.length=a.length->xe (is++[i]) (a++[v]) X=(xe is a X).bind λm=>if i<m.length then J (m.set i (J v))else Y:=by
 intro is
 induction is with
 |nil=>intro a X i v h;induction a using ma with|nil=>rfl|cons y z=>exact zc h.symm (Zb _)
 |cons j is c=>
  intro a X i v h
  induction a using ma with
  |nil=>exact zc h (Zb _)|cons u b=>
   show(if j<X.length then xe (is++[i]) (b++[v]) (X.set j (J u))else Y)=(if j<X.length then xe is b (X.set j (J u))else Y).bind _
   refine U (c (Kh h)) ?_
   split<;>rfl
theorem cF:∀{is:List Nat}{a:List V}{X me':Me},is.Nodup->xe is a X=J me'->xe is.reverse a.reverse X=J me':=by
 intro is
 induction is with
 |nil=>intro a X me' b h;induction a using ma with|nil=>exact h|cons u y=>exact ja h
 |cons i is e=>
  intro a X me' b h
  induction a using ma with
  |nil=>exact ja h|cons v f=>
   have b:=Fc.mp b;have q:=Oi (x:=xe is f (X.set i (J v))) h;have c:=q.2;rw[dF b.1]at c;refine qe c λj d k=>(U ll (U ll (U (OC (by rw[xI,xI];exact Kh (Fp h))) (U (e b.2 d) ?_))));show(if i<j.length then _ else _)=_
   exact U (Dd (by rw[NC d];exact q.1)) (U k rfl)
theorem eK:∀{is:List Nat}{a:List V}{X me':Me}{S σ':St},dK tab cf (is.map T.x) a X S=J (me',σ')->xe is a X=J me'/\σ'=S:=by
 intro is
 induction is with
 |nil=>intro a X me' S σ' h;induction a using ma with|nil=>obtain⟨rfl,rfl⟩:=Ta (ba h);exact⟨rfl,rfl⟩|cons y j=>exact ja h
 |cons i is c=>
  intro a X me' S σ' h
  induction a using ma with
  |nil=>exact ja h|cons v j=>
   refine ab h λp d b=>qe d λu e f=>?_;rw[<-f]at b;have z:=c b;exact⟨(Dd (gb (yf e):i<X.length)).trans z.1,z.2⟩
theorem iz:∀{k:List Bb}{is:List Nat}{f:List V}{c:List wa}{X me':Me}{s:Ea},(k.map λp=>xc sl p)=is.map J->R w I O S s.heap->Lc w I W E sl 0 X O s.heap->ue w O s.heap f c->xe is f X=J me'->
 Qa (bb pg w) A (GI (k.map λp=>nS W p) c) (λu=>PA w I W E sl 0 O s S me') No s:=by
 intro k
 induction k with
 |nil=>
  intro is f c X me' s l r b x e
  induction is using ma with
  |cons z j=>exact zc l.symm (Bc _ _)|nil=>
   induction f using ma with
   |cons z j=>exact ja e|nil=>rw[<-ba e,(x.wF:c=[])];exact ao ⟨rfl,Kp.refl,r,b⟩
 |cons y k j=>
  intro is f c X me' s l r b x e
  induction is using ma with
  |nil=>exact zc l (Bc _ _)|cons i is=>
   refine aa λd=>?_
   induction f using ma with
   |nil=>refine d ?_;clear d;exact ja e|cons v m=>
    refine d ?_;clear d;refine aa λd=>?_;obtain⟨a,as,rfl,o,p⟩:=x.wF;refine d ?_;clear d;have st:Qa (bb pg w) A (nS W y a) (λu=>PA w I W E sl 0 O s S (X.set i (J v))) No s:=by
     unfold nS;exact ga (Kb (EA (ga (Da (aD (Xd l) (td _) r b o) (λu u h=>EA h) λu u x=>x))))
    refine Zn (Da st (λu F h=>?_) λu u x=>x);obtain⟨q,k1,t,z⟩:=h;exact Da (j (wd l) t z (k1.vrs p) (Oi (x:=xe is m (X.set i (J v))) e).2) (λu G B=>PA.after q k1 B) λu u x=>x
theorem ue.reverse{h:qb}{b:List V}{c:List wa}(x:ue w O h b c):ue w O h b.reverse c.reverse:=
 x.ind (P:=λb c=>ue w O h b.reverse c.reverse) .nil λu u u u a u d=>by
  exact U ll (U ll (d.append (ue.one a)))
theorem Ru{y j:List Expr}{k l:Nat}{p t h:Om}{c:List Bb}{is:List Nat}{F:Me->St->Option (V×St)}(AK:Eg n A)(hw:Cu [.Tuple y k p] (.Tuple j l t) W=pure (J c))(P:(c.map λx=>xc sl x)=is.map J)(hd:is.Nodup)
 (hf:∀X,uc w I A W E sl 0 X (yc (.Tuple j l t) W) (F X)):
 Df w I A W E sl (fE (.Assign [.Tuple y k p] (.Tuple j l t) h) W) (λX S=>(F X S).bind λq=>(IK tab cf (.t (is.map T.x)) q.1 X q.2).map nJ):=λX O S s D me' σ' r b e=>ab e λq e1 e=>qe e λR e2 e3=>ab e2 λxs e4 e5=>by
 obtain⟨rfl,zz⟩:=Ta e3;obtain⟨rfl,rfl⟩:=Ta zz;obtain⟨hA,x⟩:=eK (me':=R.1) (σ':=R.2) e5;refine U (arm_exec_Assign _ _ _ _) ?_;show Qa _ _ (bk h>>=λu=>Ht (.Tuple j l t) (J (.Tuple y k p)) h.line W>>=_) _ _ _
 refine U (Un rfl) (ga (lc (ga (ta (U (fe ia) (ga (Da (hf X O S s r b _ _ e1) (λB v p1=>?_) λu u z=>z)))))));obtain⟨L,t1,k1,r1,x1⟩:=p1;refine U hw (ga (ta ?_));unfold assignStores;have G:c.length=is.length:=by have:=Gc nj P;rwa [ya,ya]at this
 refine aa λnq=>?_;obtain⟨a,f,m,rfl,x2,ea,la,qa⟩:=(Vl e4▸x1:VR w L v.heap (.t xs) B).wF;refine nq (ga (Xj (ga (U (show c.length=f.toArray.size by rw[Hb,<-qa.length,G,Fp hA]) (wpAny_unpackItems_tuple AK.hh (s:=v) (items:=f.toArray) (lf ea) λh' i=>?_)))));have d:∀a o,v.heap.get? a=J o->h'.get? a=J o:=λa o e=>i a o (ic (qc e)) e;refine ga (Da (iz (A:=A) (s:={v with heap:=h'}) (by exact U iR (U P (U iR rfl))) (r1.wI d) ((b.kx r k1).wI r1 d) ((qa.mono (Ja _) λa o e u=>d a o e).reverse) (cF hd hA)) (λu s2 p2=>?_) λu u z=>z);obtain⟨z,k2,r2,E2⟩:=p2;exact ta ⟨L,t1.trans z.past,((k1.kp b).trans (Kp.wI d)).trans k2,x▸r2,E2,.next⟩
end
section
variable [E:Av]
def wk(e:Expr):Bool:=(AF e).isSome
noncomputable def X8:He->Bool
 |.Add|.Sub=>Z|_=>ua
noncomputable def yT(z:Expr):Bool:=match z with|.ListComp .. =>Z|_=>ua
theorem zT{e:Expr}(h:yT e=Z):∃a b c d,e=.ListComp a b c d:=by
 induction e using Expr.casesOn<;>first|exact zc h ia|exact⟨_,_,_,_,rfl⟩
theorem Vr{e:Expr}(h:wk e=Z):∃a b c,e=.Tuple a b c:=by
 obtain⟨x,h⟩:=Na.mp h;exact⟨x,Mw h⟩
noncomputable def bG(z:Expr):Option (Expr×List Expr×List cL×Om):=match z with|.Call f a b p=>J (f,a,b,p)|_=>Y
theorem Kr{e:Expr}{q:Expr×List Expr×List cL×Om}(h:bG e=J q):e=.Call q.1 q.2.1 q.2.2.1 q.2.2.2:=by
 induction e using Expr.casesOn<;>first|exact ja h|cases ba h;rfl
def qdh(p:Expr×List Expr×List cL×Om):Option (Bb×List Expr):=(Ge p.2.2.1.isEmpty).bind λu=>(Vv p.1).map λz=>(z,p.2.1)
def VV(e:Expr):Option (Bb×List Expr):=(bG e).bind qdh
theorem XV{e:Expr}{z:Bb}{a:List Expr}(h:VV e=J (z,a)):∃b d,e=.Call (.Name z b) a [] d:=ab h λq f i=>ab i λu j k=>qe k λx l c=>by
 obtain⟨b,m⟩:=Ll l;exact⟨b,q.2.2.2,by exact U (Kr f) (U m (U (Be.mp (yf j)) (U (show x=z from Gc oj c) (U (show q.2.1=a from Gc UF c) rfl))))⟩
mutual
noncomputable def qek(g:Gl)(q:Nat)(d:Sc)(f:bz):Option S:=match q,d,f with
 |0,u,j=>Y|n+1,W,st=>match st with
  |.Assign h x u=>(match h with
   |[t]=>if xp t&&yT x then(match t,x with
    |.Name y m,.ListComp l c a b=>
     if W.kinds.lookup y==J .local then
      (if m.line==b.line&& !(a.names.any λ(n,k)=>n==y&&(k== .local||k== .cell))then
       Ir (Fh g (n+1) W (.ListComp l c a b)) (Us W y) (λe i=>J (.assign (.x i) e))
      else Y)
     else Ir (Fh g n W (.ListComp l c a b)) (Us W y) (λe i=>J (.assign (.x i) e))
    |u,j=>Y)
    else if wk t&&wk x then(match t,x with
     |.Tuple h k p,.Tuple b c l=>kt (Gw W h b) (λw=>match w with|none=>Ir (U1 g n W (.Tuple h k p)) (Fh g n W (.Tuple b c l)) (λt e=>J (.assign t e))|some a=>Ir (Mz W h) (Fh g n W (.Tuple b c l)) λis e=>if decide (a.map (λx=>xc W.sl x)=is.map J/\is.Nodup)then J (.assign (.t (is.map T.x)) e)else Y)
     |u,j=>Y)
    else if Kv x then Y else Ir (U1 g n W t) (Fh g n W x) (λj e=>J (.assign j e))
   |_=>Y)
  |.AugAssign t a x u=>(match t with|.Subscript o i u=>if X8 a&& !ym i then YF (Fh g n W o) (Fh g n W i) (Fh g n W x) λb c e=>J (.aug b c a e)else Y|_=>Y)
  |.Expr x u=>if Kv x then Y else kt (Fh g n W x) (λe=>J (.expr e))|.If t a b u=>YF (vV g n W t) (Lo g n W a) (Lo g n W b) (λj h c=>J (.ifs j h c))|.While t b i u=>(match i with|[]=>Ir (vV g n W t) (Lo g n W b) (λj c=>J (.whil j c))|_=>Y)
  |.For h a b i u=>(match i with
   |[]=>(match VV a with
    |some (z,j)=>if decide (g.glob z=J (.type "zip"))then
     (if(W.kinds.lookup z==J .globalImplicit&&Am z)&&wk h then YF (Xk W h) (wx g n W j) (Lo g n W b) λt k c=>J (.forz t k c)else Y)
     else YF (Xk W h) (Fh g n W a) (Lo g n W b) (λt e c=>J (.fors t e c))
    |none=>YF (Xk W h) (Fh g n W a) (Lo g n W b) λt e c=>J (.fors t e c))
   |_=>Y)
  |.Return v u=>kt v (λx=>kt (Fh g n W x) λe=>J (.ret e))|_=>Y
noncomputable def Lo(g:Gl)(z:Nat)(j:Sc)(q:List bz):Option (List S):=match z,j,q with|0,u,y=>Y|u+1,y,[]=>J []|n+1,W,st::a=>Ir (qek g n W st) (Lo g n W a) λx b=>J (x::b)
end
def KA(w:zb)(O:qb)(K:Ue)(g:Gl):Prop:=
 ∀{n:Nat}{A:Yb}{X:zj}{Q:Ca->Prop}{W:Sc}{z:Bb}{j k f:Om}{h:Expr}{d:List Expr}{b:List bz}{t:CT}{G:Me->St->Option (List V×St)}{a:Me->St->Option (Fl×Me×St)},
  Eg n A->X.scope.names=W.kinds->g.glob z=J (.type "zip")->X.kindOf z=J .globalImplicit->Am z=Z->wk h=Z->Xk W h=J t->(∀e∈d,∀x p,e≠jd x p)->
  (∀R f,Vi w O A X Q W.sl 0 R (kj (qg f (starEach d X))) (G R))->(∀c:Av,@Df c w O A X Q W.sl (tu b X) a)->
  Df w O A X Q W.sl (fE (.For h (.Call (.Name z j) d [] k) b [] f) X) λR e=>(G R e).bind λp=>((Wn p.1).bind YV).bind λc=>Gq 5000 (.st c) 0 (λv R e=>(ql t v R).bind λi=>a i e) R p.2
variable {w:zb} {O:qb} {A:Yb} {X:zj} {Q:Ca->Prop} {F:List Bb} {lo:Nat} {R I:Me} {K:Ue} {P:Ch} {n N:Nat} {g:Gl} {L:Nat->List V->St->Option (V×St)} {W:Sc}
theorem NZ{tg x:Expr}(h:(wk x&&wk tg)=ua)(hl:∀es p,tg≠ .List es p):Cu [tg] x X=pure Y:=by
 induction tg using Expr.casesOn<;>first|rfl|exact zc rfl (hl _ _)|skip
 induction x using Expr.casesOn<;>first|rfl|exact Bd h
theorem qaD{a:He}(h:X8 a=Z):a=.Add\/a=.Sub:=by
 induction a<;>first|exact .inl rfl|exact .inr rfl|exact zc h ia
theorem Tu{i:Expr}(h:ym i=ua)(b c a:wa):augStore i b c a=(do dj [a,b,c] (sx b c a);qfa [a,b,c] [];pure .next):=by
 induction i using Expr.casesOn<;>first|rfl|exact Bd h
theorem Df.out{st:Yl OK}{r:Me->St->Option (Fl×Me×St)}{y x:S}(h:J y=J x)(q:Df w O A X Q F st r)(e:∀R a,eE P L y R a=r R a):Df w O A X Q F st (λR a=>eE P L x R a):=ba h▸Df.congr q e
structure YX(w:zb)(O:qb)(A:Yb)(P:Ch)(g:Gl)(L:Nat->List V->St->Option (V×St))(N:Nat):Prop where
 one:∀W st t X Q,X.scope.names=W.kinds->qek g N W st=J t->Df w O A X Q W.sl (fE st X) (λR σ=>eE P L t R σ)
 all:∀W ss ts X Q,X.scope.names=W.kinds->Lo g N W ss=J ts->Df w O A X Q W.sl (tu ss X) λR σ=>uv P L ts R σ
omit [E:Av]in
theorem pF(x1:∀f:Av,@Cx f w O K P g L n)(ZO:∀f:Av,@KA f w O K g)(AK:Eg (n+1) A):∀N(f:Av),@YX f w O A P g L N:=by
 intro N
 induction N with
 |zero=>
  rintro f;exact⟨λW e t X Q o h=>ja h,λW es ts X Q o h=>ja h⟩
 |succ N ih=>
  rintro f;have SI:=ih;have S:=SI f;have SE:=Ps (x1 f) AK N;have SA:=Y0 (x1 f) AK N;refine⟨λW st t X Q o h=>?_,λW ss ts X Q o h=>?_⟩
  ·have kindOf:∀y k,W.kinds.lookup y=J k->X.kindOf y=J k:=λy k q=>by unfold mn;refine U o ?_;exact q
   induction st using X3 with
   |Return v p=>
    refine De h λx a h=>?_;subst a;exact De h λy q h=>(Df.out h (N0 λR=>SE.E W _ y X Q 0 R o q) λR C=>rfl)
   |Assign ts x p=>
    rcases ts with _|⟨t0,_|_⟩<;>try (exact ja h)
    by_cases h1:(xp t0&&yT x)=Z
    ·refine aa λT=>?_
     obtain⟨y,py,rfl⟩:=Ur (Aa.mp h1).1;obtain⟨d,c,a,b,rfl⟩:=zT (Aa.mp h1).2;refine T ?_;clear T;replace h:(if W.kinds.lookup y==J .local then
      (if py.line==b.line&& !(a.names.any λ(n,k)=>n==y&&(k== .local||k== .cell))then
       Ir (Fh g (N+1) W (.ListComp d c a b)) (Us W y) (λe i=>J (.assign (.x i) e))
      else Y)
      else Ir (Fh g N W (.ListComp d c a b)) (Us W y) λe i=>J (.assign (.x i) e))=J t:=h
     have e1:∀l,Ht (.ListComp d c a b) (J (.Name y py)) l X=pure (X.blockKind== .function&&X.kindOf y==J .local&&py.line==b.line&& !(a.names.any λ(n,k)=>n==y&&(k== .local||k== .cell))):=λl=>rfl;by_cases hl:(W.kinds.lookup y==J .local)=Z
     ·rw[Dd hl]at h
      refine ae h λG h=>(qd h λe i D B h=>?_);refine Df.out h (Zw AK SE o D B λj=>?_) λR C=>?_
      ·refine U (e1 _) ?_
       have O:X.blockKind=.function:=by unfold N3;refine U j ?_;rfl
       refine U O (U (kindOf _ _ (by simpa using hl)) ?_);simp only[Ad]at G;simp only[beq_self_eq_true,vA,G.1,G.2]
      ·rfl
     ·rw[fe hl]at h
      refine qd h λe i D B h=>?_;have x2:∀l,Ht (.ListComp d c a b) (J (.Name y py)) l X=pure ua:=λl=>by
       have h2:(X.kindOf y==J xd.local)=ua:=by unfold mn;refine U o ?_;simpa using hl
       refine U (e1 _) (U h2 ?_);simp
      have gA:aq w O A X Q W.sl (λv=>assign (.Name y py) X v) (λv R C=>IK P L (.x i) v R C):=by
       exactλv x4 R ρ C s I j r m xv e=>qe e λu u e=>by
        obtain⟨rfl,rfl⟩:=Ta e;exact Da (mh (Xl B) (td _) r m xv) (λu u p=>PA.pt p) λu u z=>z
      exact Df.out h (Gr (λu u=>by simp) (x2 _) rfl (λR=>SE.E W _ e X Q 0 R o D) gA) λR C=>rfl
    ·by_cases h2:(wk t0&&wk x)=Z
     ·obtain⟨ts,k,p,rfl⟩:=Vr (Aa.mp h2).1
      obtain⟨i,l,v,rfl⟩:=Vr (Aa.mp h2).2;refine De h λw d h=>(aa λT=>?_)
      induction w with
      |none=>
       refine T ?_;clear T;exact qd h λt e D B h=>(Df.out h (λR ρ C s a I j r m b=>Gr (λu u=>by simp) (Un rfl) (iI m.kind o d) (λR=>SE.E W _ e X Q 0 R o B) (SA.one W _ t X Q o D).1 R ρ C s a I j r m b) λR C=>rfl)
      |some c=>
       refine T ?_;clear T;refine qd h λis e D B h=>(ae h λG h=>?_);have G:=Nl G;exact Df.out h (λR ρ C s a I j r m b=>Ru (tab:=P) (cf:=L) AK (iI m.kind o d) G.1 G.2 (λR=>SE.E W _ e X Q 0 R o B) R ρ C s a I j r m b) λR C=>rfl
     ·replace h:(if xp t0&&yT x then _ else if wk t0&&wk x then _ else if Kv x then Y else Ir (U1 g N W t0) (Fh g N W x) λl e=>J (.assign l e))=J t:=h
      rw[fe h1,fe h2]at h;refine Dj h λG h=>(qd h λl e D B h=>?_);refine Df.out h (Gr ((SA.one W _ l X Q o D).2) (Un G) (NZ (by refine U (Bool.and_comm _ _) ?_;simpa using h2) λes p z=>?_) (λR=>SE.E W _ e X Q 0 R o B) (SA.one W _ l X Q o D).1) λR C=>rfl;subst z
      induction N using Sa<;>exact ja D
   |AugAssign t0 j x p=>
    induction t0 using Expr.casesOn<;>try (exact ja h)
    refine ae h λG h=>(Ji h λb c e D B r h=>?_);simp only[Ad,Se]at G;exact Df.out h (jY (λd i a=>Tu G.2 d i a) (λR=>SE.E W _ b X Q 0 R o D) (λR=>SE.E W _ c X Q 0 R o B) λR=>SE.E W _ e X Q 0 R o r) λR C=>rfl
   |For c a b s p=>
    induction s using ma with
    |cons j d=>exact ja h|nil=>
     have Hd:YF (Xk W c) (Fh g N W a) (Lo g N W b) (λt e i=>J (Mine.Internal.S.fors t e i))=J t->Df w O A X Q W.sl (fE (.For c a b [] p) X) (λR C=>eE P L t R C):=λh=>by
      exact Ji h λt e i D B r h=>(Df.out h (OY AK D (Hm B) (λR=>SE.E W _ e X Q 0 R o B) (S.all W _ i X Q o r)) λR C=>rfl)
     replace h:(match VV a with
      |some (z,m)=>if decide (g.glob z=J (.type "zip"))then
       (if(W.kinds.lookup z==J .globalImplicit&&Am z)&&wk c then YF (Xk W c) (wx g N W m) (Lo g N W b) λt u i=>J (.forz t u i)else Y)
       else YF (Xk W c) (Fh g N W a) (Lo g N W b) (λt e i=>J (.fors t e i))
      |none=>YF (Xk W c) (Fh g N W a) (Lo g N W b) λt e i=>J (.fors t e i))=J t:=h
     induction e:VV a with
     |none=>rw[e]at h;exact Hd h|some za=>
      refine aa λT=>?_;obtain⟨z,m⟩:=za;refine T ?_;clear T;rw[e]at h
      dsimp only at h
      by_cases v:decide (g.glob z=J (.type "zip"))=Z
      ·rw[Dd v]at h
       obtain⟨zp,cp,rfl⟩:=XV e;refine ae h λG h=>(Ji h λt u i D B r h=>?_);simp only[Ad,beq_iff_eq]at G;exact Df.out h (ZO f AK o (Nl v) (kindOf _ _ G.1.1) G.1.2 G.2 D (SE.Es W _ u X Q 0 [] default o B).2 (λR x3=>(SE.Es W _ u X Q 0 R x3 o B).1) λf=>(SI f).all W _ i X Q o r) λR C=>rfl
      ·rw[fe v]at h;exact Hd h
   |While c b s p=>
    induction s using ma with
    |cons j d=>exact ja h|nil=>
     exact qd h λl i D B h=>(Df.out h (UQ AK (λR=>SE.T W _ l X Q 0 R o D) (S.all W _ i X Q o B)) λR C=>rfl)
   |If c a b p=>
    exact Ji h λl d i D B r h=>(Df.out h (R7 (λR=>SE.T W _ l X Q 0 R o D) (S.all W _ d X Q o B) (S.all W _ i X Q o r)) λR C=>rfl)
   |Expr x p=>
    exact Dj h λG h=>(De h λy q h=>(Df.out h (iT G λR=>SE.E W _ y X Q 0 R o q) λR C=>rfl))
   |_=>exact ja h
  ·induction ss using ma with
   |nil=>obtain rfl:=ba h;exact Df.congr tz λR C=>rfl|cons a ss=>
    refine qd h λx u D B h=>?_;obtain rfl:=ba h;exact Df.congr (gx (S.one W a x X Q o D) (S.all W ss u X Q o B)) λR C=>rfl
end
section
variable {x:Bb} {v:wa}
theorem VA{c:Bb->Option xd}{a:List (Bb×wa)}:{m:Bb->Option wa}->(∀p∈a,p.1≠x)->qbj c a m x=m x:=by
 induction a with
 |nil=>exactλu=>rfl|cons p r d=>
  intro m h;have b:¬x=p.1:=λq=>h p sa q.symm;unfold qbj;refine U (d λp e=>h p (oa _ e)) ?_
  split<;>simp[b]
theorem NI{c:Bb->Option xd}(d:c x=J .local){a:List (Bb×wa)}:{m:Bb->Option wa}->(a.map λx=>x.1).Nodup->(x,v)∈a->qbj c a m x=J v:=by
 induction a with
 |nil=>exactλu h=>(Tb h).elim|cons p r e=>
  intro m b h;obtain⟨y,u⟩:=p;rw[Vb,Fc]at b;unfold qbj;rcases fb.mp h with q|q
  ·obtain⟨rfl,rfl⟩:=Ta q
   refine U (VA λp f q=>b.1 (Rb.mpr ⟨p,f,q⟩)) ?_;simp[d]
  ·exact e b.2 q
theorem TA{c:Bb->Option xd}{a:List (Bb×wa)}:{m:Bb->Option wa}->(∀p∈a,p.1≠x)->qbi c a m x=m x:=by
 induction a with
 |nil=>exactλu=>rfl|cons p r d=>
  intro m h;have b:¬x=p.1:=λq=>h p sa q.symm;unfold qbi;refine U (d λp e=>h p (oa _ e)) ?_
  split<;>simp[b]
theorem MI{c:Bb->Option xd}(d:c x=J .cell){a:List (Bb×wa)}:{m:Bb->Option wa}->(a.map λx=>x.1).Nodup->(x,v)∈a->qbi c a m x=J v:=by
 induction a with
 |nil=>exactλu h=>(Tb h).elim|cons p r e=>
  intro m b h;obtain⟨y,u⟩:=p;rw[Vb,Fc]at b;unfold qbi;rcases fb.mp h with q|q
  ·obtain⟨rfl,rfl⟩:=Ta q
   refine U (TA λp f q=>b.1 (Rb.mpr ⟨p,f,q⟩)) ?_;simp[d]
  ·exact e b.2 q
theorem DE{b:List Bb}{a:List wa}(h:b.length=a.length)(c:x∈b):((b.zip a).lookup x).isSome=Z:=by
 induction b generalizing a with
 |nil=>cases c|cons y b d=>
  induction a using ma with
  |nil=>simp at h|cons v a=>
   refine U GK (U Mc ?_);by_cases q:x=y
   ·subst q;simp
   ·have e:(x==y)=ua:=by simpa using q
    simp only[e];exact d (by simpa using h) ((fb.mp c).resolve_left q)
theorem xz{b c:Type}{f g:b->Option c}:{l:List b}->(∀x∈l,f x=g x)->l.filterMap f=l.filterMap g:=by
 intro l
 induction l with
 |nil=>
  rintro _;exact rfl
 |cons a l d=>
  rintro h;exact U Fj (U Fj (U (h a sa) (U (d λx e=>h x (oa _ e)) rfl)))
theorem bR:∀{b:List Bb}{a:List wa},b.Nodup->b.length=a.length->(b.filterMap λn=>((b.zip a).lookup n).map λx=>(n,x))=b.zip a:=by
 intro b
 induction b with
 |nil=>
  intro a c h
  induction a using ma with
  |nil=>rfl|cons v a=>exact zc h.symm (Zb _)
 |cons x b d=>
  intro a c h
  induction a using ma with
  |nil=>exact zc h (Zb _)|cons v a=>
   rw[Fc]at c;refine U GK (U Fj (U (by simp[Mc]:(KF x ((x,v)::b.zip a)).map (λy=>(x,y))=J (x,v)) ?_));have e:(b.filterMap λn=>(KF n ((x,v)::b.zip a)).map λx=>(n,x))=b.filterMap λn=>((b.zip a).lookup n).map (λx=>(n,x)):=xz λn f=>by
    have g:(n==x)=ua:=by
     have:n≠x:=λq=>c.1 (q▸f)
     simpa using this
    exact U Mc (U g rfl)
   simp only;exact U e (U (d c.2 (Kh h)) rfl)
theorem xW{p:Prop}{a:Type _}{A:p->a}{B:¬p->a}{d:Decidable p}(h:¬p):(qeu (motive:=λu=>a) B A d)=B h:=by
 induction d with
 |isTrue q=>exact zc q h|isFalse q=>rfl
theorem Wu{c:te}{a:List wa}(f:c.params.posonlyargs=[])(g:c.params.kwonlyargs=[])(h:c.params.vararg=Y)(i:c.params.kwarg=Y)(k:c.defaults=.none)(d:(c.params.args.map λx=>x.arg).Nodup)(e:(c.params.args.map λx=>x.arg).length=a.length):
 bindArgs c ⟨a,[]⟩=pure ((c.params.args.map λx=>x.arg).zip a):=by
 obtain⟨z,A,⟨B,b,C,D,E,F,G⟩,I,l,gl,m,o,p,r,K,s,L,N,O⟩:=c
 dsimp only at f g h i k d e
 subst f g h i k;have t:(((b.map λx:Arg=>x.arg)++[]).filterMap λn=>(((b.map λx:Arg=>x.arg).zip a).lookup n).map λx=>(n,x))=(b.map λx:Arg=>x.arg).zip a:=by refine U (Wb _) ?_;exact bR d e
 have u:decide (a.length>(b.map λx=>x.arg).length)=ua:=by refine U e ?_;exact decide_eq_false (dc _)
 have w:∀j,(!(((b.map λx=>x.arg).take j).filter λn=>(((b.map λx=>x.arg).zip a).lookup n).isNone).isEmpty)=ua:=λj=>by
  rw[ai.mpr λx y q=>?_];rfl;have:=DE e (List.mem_of_mem_take y);rw[ik.mp q]at this;exact zc this ia
 conv=>lhs;whnf
 refine(xW ?_).trans ?_
 ·exactλq=>ia ((show(decide (a.length>(b.map λx=>x.arg).length)&&Z)=ua by refine U u ?_;rfl).symm.trans q)
 conv=>lhs;whnf
 refine(xW ?_).trans ?_
 ·exactλq=>ia ((w _).symm.trans q)
 exact U xA (U List.zip_nil_right (Gc (λx=>(pure x:Yl (List (Bb×wa)))) t))
end
noncomputable def OG(z:wa):Bool:=match z with|.none=>Z|_=>ua
def ch(a:te):Sc:=⟨a.scope.names,a.params.args.map (λx=>x.arg)++(ah a.scope.names).filter λx=> !(a.params.args.map λx=>x.arg).contains x⟩
def wq(a:te):Bool:=
 a.params.posonlyargs.isEmpty&&(a.params.kwonlyargs.isEmpty&&(a.params.vararg.isNone&&(a.params.kwarg.isNone&&(OG a.defaults&&((a.scope.kind== .function)&&(!a.scope.isGenerator&&(!a.scope.isCoroutine
  &&(decide (a.params.args.map λx=>x.arg).Nodup&&((a.globals==mainGlobals)&&((a.builtins==ip)
  &&((a.params.args.map λx=>x.arg).all (λx=>a.scope.names.lookup x==J .local||a.scope.names.lookup x==J .cell)
  &&(a.scope.names.all (λx=>a.scope.names.lookup x.1==J x.2)
  &&(if a.closure.isEmpty=Z then a.scope.names.all λx=> !(x.2== .free)else(a.scope.names.all (λx=> !(x.2== .cell))&&(a.scope.names.all (λx=> !(x.2== .free)||(a.closure.lookup x.1).isSome)&&decide (a.closure.length<=1))))))))))))))))
def zQ(g:Gl)(a:te):Option Fn:=match a.body with|.expr u=>Y|.stmts c=>if wq a then(Lo g 60 (ch a) c).map λb=>⟨a.params.args.length,(ch a).sl.length,b⟩else Y
structure PK(fd:te):Prop where
 po:fd.params.posonlyargs=[]
 ko:fd.params.kwonlyargs=[]
 va:fd.params.vararg=Y
 kw:fd.params.kwarg=Y
 df:fd.defaults=.none
 kind:fd.scope.kind=.function
 gen:fd.scope.isGenerator=ua
 co:fd.scope.isCoroutine=ua
 nd:(fd.params.args.map λx=>x.arg).Nodup
 gl:fd.globals=mainGlobals
 bi:fd.builtins=ip
 ps:∀x∈fd.params.args.map λx=>x.arg,fd.scope.names.lookup x=J .local\/fd.scope.names.lookup x=J .cell
 wJ:∀x k,(x,k)∈fd.scope.names->fd.scope.names.lookup x=J k
 clos:(fd.closure=[]/\∀x k,(x,k)∈fd.scope.names->k≠Ic)\/((∀x k,(x,k)∈fd.scope.names->k≠Gd)/\(∀x k,(x,k)∈fd.scope.names->k=Ic->(fd.closure.lookup x).isSome=Z)/\fd.closure.length<=1)
theorem Xe{a b:Bool}(h:(a&&b)=Z):a=Z:=by induction a<;>first|rfl|exact h
theorem Zc{a b:Bool}(h:(a&&b)=Z):b=Z:=by induction a<;>first|exact h|cases h
theorem OZ{b:Bool}(h:(!b)=Z):b=ua:=by induction b<;>first|rfl|cases h
theorem wB{v:wa}(h:OG v=Z):v=.none:=by induction v<;>first|rfl|exact zc h ia
theorem gH{l:List (Bb×xd)}{n:xd}(h:l.all (λx=> !(x.2==n))=Z):∀x k,(x,k)∈l->k≠n:=λx k a e=>by
 have z:=OZ (md.mp h (x,k) a);rw[e]at z
 induction n<;>cases z
theorem BG{g:te}(h:wq g=Z):PK g:=
 have i:=Zc h;have j:=Zc (Zc i);have l:=Zc (Zc j);have m:=Zc (Zc l);have a:=Zc (Zc m);have b:=Zc (Zc a);have d:=Zc b
 ⟨Be.mp (Xe h),Be.mp (Xe i),ik.mp (Xe (Zc i)),ik.mp (Xe j),wB (Xe (Zc j)),eq_of_beq (Xe l),OZ (Xe (Zc l)),OZ (Xe m),Nl (Xe (Zc m)),eq_of_beq (Xe a),eq_of_beq (Xe (Zc a)),
  λx f=>(uI.mp (md.mp (Xe b) x f)).imp eq_of_beq eq_of_beq,λx k f=>eq_of_beq (md.mp (Xe d) (x,k) f),by
  have z:=Zc d;by_cases c:g.closure.isEmpty=Z
  ·exact .inl ⟨Be.mp c,gH ((Dd c).symm.trans z)⟩
  ·have z:=(fe c).symm.trans z
   refine .inr ⟨gH (Xe z),λx k f e=>?_,Nl (Zc (Zc z))⟩;have y:=md.mp (Xe (Zc z)) (x,k) f;rw[e]at y;exact y⟩
theorem Eg.deeper{n:Nat}{A:Yb}(a:Eg (n+1) A)(b:zj):Eg n (A.deeper b):=
 ⟨a.hh,by show A.depth+1+_+_<=_;have:=a.depth;lia,by show A.units+3+_+_<=_;have:=a.units;lia⟩
section
variable {x:Bb} {i:Nat} {a:Ca}
variable [N:Av]
variable {w:zb} {S:qb} {A:Yb} {K:Ue} {P:Ch} {n:Nat} {g:Gl} {T:List Ca} {Q O:St} {s:Ea} {W:List V} {vals:List wa} {X:te}
theorem nF{b rest:List Bb}(d:∀y∈rest,y∉b)(h:xc (b++rest) x=J i)(c:i<b.length):b[i]?=J x:=by
 have:=Tj h
 rwa [Xa c]at this
theorem XE{y:Bb}:y∈((ah X.scope.names).filter λx=> !(X.params.args.map λx=>x.arg).contains x)->y∉X.params.args.map (λx=>x.arg):=λh q=>by
 have:=(Vc.mp h).2;simp only[Se,List.contains_eq_mem,decide_eq_false_iff_not]at this;exact this q
theorem Sv{v:V}(f:W.length=X.params.args.length)(c:xc (ch X).sl x=J i)(b:(W.map J++Ia ((ch X).sl.length - X.params.args.length) Y)[i]?=J (J v)):
 i<X.params.args.length/\(X.params.args.map λx=>x.arg)[i]?=J x/\W[i]?=J v:=by
 have d:i<W.length:=by
  by_cases q:i<W.length
  ·exact q
  ·rw[La (by simpa using q),Te]at b
   split at b<;>(first|exact ja b|cases b)
 refine⟨by lia,nF (λy e=>XE e) c (by simp;lia:i<(X.params.args.map λx=>x.arg).length),?_⟩;rw[Xa (by simpa using d),Ec]at b
 induction q:W[i]? with
 |none=>rw[q]at b;exact ja b|some u=>rw[q]at b;simp at b;subst b;rfl
theorem Yu{b:wa}(c:(X.params.args.map λx=>x.arg)[i]?=J x)(d:vals[i]?=J b):(x,b)∈(X.params.args.map λx=>x.arg).zip vals:=by
 have:((X.params.args.map λx=>x.arg).zip vals)[i]?=J (x,b):=by refine U (propext bl) ?_;exact⟨c,d⟩
 exact Ma this
theorem Xo{b:List Bb}{vals:List wa}(h:b.Nodup)(c:b.length=vals.length):((b.zip vals).map λx=>x.1).Nodup:=by
 have:(b.zip vals).map (λx=>x.1)=b:=by
  rw[List.map_fst_zip];lia
 exact U this h
theorem Yv(C:PK X)(h:xc (ch X).sl x=J i):X.scope.names.lookup x=J .local\/X.scope.names.lookup x=J .cell:=by
 rcases Xb.mp (Hp h)with q|q
 ·exact C.ps x q
 ·refine aa λb=>?_
  obtain⟨k,z1,z2⟩:=Pq.mp (Vc.mp q).1;refine b ?_;have:=C.wJ _ _ z1;rcases z2 with z2|z2<;>subst z2
  ·exact .inl this
  ·exact .inr this
def qbC(s:Ea)(b:List (Bb×Ca))(a:Ca):Prop:=a=s.heap.objs.size\/∃n,b.lookup n=J a/\s.heap.objs.size<a
theorem gJ{E:Ea}(C:PK X)(x2:X.closure=[])(p:∀x k,(x,k)∈X.scope.names->k≠Ic)(r:R w S T Q s.heap)(x:ue w T s.heap W vals)(hl:W.length=X.params.args.length)
 (I:InCallC s (Xh X s.heap.objs.size a).locals (qbj (Xh X s.heap.objs.size a).kindOf ((X.params.args.map λx=>x.arg).zip vals) λu=>Y) (Xh X s.heap.objs.size a).cells (qbi (Xh X s.heap.objs.size a).kindOf ((X.params.args.map λx=>x.arg).zip vals) λu=>Y) E):
 Lc w S (Xh X s.heap.objs.size a) (qbC s (Xh X s.heap.objs.size a).cells) (ch X).sl 0 (W.map J++Ia ((ch X).sl.length - X.params.args.length) Y) T E.heap:=by
 have x3:=x.length;have t:=Xo C.nd (vals:=vals) (by simp;lia);have hk:=I.toInCall.keep;have hL:(Xh X s.heap.objs.size a).locals=s.heap.objs.size:=rfl;have x1:∀y,(Xh X s.heap.objs.size a).kindOf y=X.scope.names.lookup y:=λy=>rfl;have d:∀y,(y,Gd)∈X.scope.names->∃c,(Xh X s.heap.objs.size a).cells.lookup y=J c:=λy D=>by
  refine aa λm=>?_;obtain⟨e,h,q,j,v,z⟩:=Sk X.scope.names (s.heap.objs.size+1) [];obtain⟨c,f⟩:=j y D;have b:(y,c)∈(Xh X s.heap.objs.size a).cells:=by
   show(y,c)∈Lj _ _ _
   refine U h ?_;simpa using f
  obtain⟨l,o,_⟩:=rh b;exact m (⟨l,o⟩)
 have F:(ch X).sl.length=(W.map J++Ia ((ch X).sl.length - X.params.args.length) (Y:Option V)).length:=by
  have:X.params.args.length<=(ch X).sl.length:=by unfold ch;simp
  simp;lia
 refine⟨C.kind,C.gl,C.bi,F.symm,⟨_,I.toInCall.ns,λy i v z h G=>?_⟩,λy i v z h G=>?_,⟨Hf r (Fb _),Rd r (Fb _),.inl rfl⟩,λy k D h=>?_,I.apart,λy i z u=>?_,λb j=>?_,λb j=>?_⟩
 ·obtain⟨_,m1,L⟩:=Sv hl z G
  obtain⟨l,v1,v2⟩:=x.get L;exact⟨l,NI h t (Yu m1 v1),v2.mono (Ja _) λa o e u=>hk a o e⟩
 ·obtain⟨_,m1,L⟩:=Sv hl z G
  obtain⟨l,v1,v2⟩:=x.get L;have B:(Xh X s.heap.objs.size a).kindOf y=J .cell:=by
   rcases h with q|q
   ·exact q
   ·exact zc rfl (p y _ (mem_of_lookup (show X.scope.names.lookup y=J .free from q)))
  obtain⟨c,f⟩:=d y (mem_of_lookup (show X.scope.names.lookup y=J .cell from B));have:=I.cell y c f;rw[MI B t (Yu m1 v1)]at this;exact⟨c,l,f,this,v2.mono (Ja _) λa o e u=>hk a o e⟩
 ·rcases h with q|q
  ·refine aa λm=>?_
   subst q;obtain⟨c,f⟩:=d y D;exact m (⟨c,_,f,I.cell y c f⟩)
  ·exact zc q (p y k D)
 ·rcases Yv C z with q|q
  ·exact .inl q
  ·refine aa λm=>?_
   obtain⟨c,f⟩:=d y (mem_of_lookup q);refine m ?_;have l:=I.above y c (mem_of_lookup f);exact .inr ⟨q,c,_,f,I.cell y c f,Rd r (yk (vd l)),.inr ⟨y,f,l⟩⟩
 ·rcases j with q|⟨_,_,q⟩
  ·subst q;exact Rd r (Fb _)
  ·exact Rd r (yk (vd q))
 ·rcases j with q|⟨m,q,_⟩
  ·subst q
   obtain⟨o,f,l,e,_⟩:=I.toInCall.ns;refine U (show E.heap.get? s.heap.objs.size=J o from e) ?_;rfl
  ·obtain⟨o,e,_⟩:=I.cell m b q
   refine U e ?_;rfl
theorem YE:∀{l:List (Bb×wa)}{x:Bb}{v:wa},(l.map λx=>x.1).Nodup->(x,v)∈l->l.reverse.lookup x=J v:=by
 intro l x v c h;have d:(x,v)∈l.reverse:=jR.mpr h;obtain⟨e,f,j⟩:=rh d;have k:(x,e)∈l:=jR.mp j;refine U f ?_;have:e=v:=by
  clear f j d
  induction l with
  |nil=>cases h|cons p r o=>
   rw[Vb,Fc]at c;rcases fb.mp h with a|a
   ·refine aa λm=>?_
    subst a;refine m ?_;clear m;rcases fb.mp k with b|b
    ·cases b;rfl
    ·exact zc (Rb.mpr ⟨_,b,rfl⟩) c.1
   ·rcases fb.mp k with b|b
    ·subst b;exact zc (Rb.mpr ⟨_,a,rfl⟩) c.1
    ·exact o c.2 a b
 exact U this rfl
theorem uG{B:qb}(C:PK X)(m:∀x k,(x,k)∈X.scope.names->k≠Gd)(D:∀x k,(x,k)∈X.scope.names->k=Ic->(X.closure.lookup x).isSome=Z)(E:X.closure.length<=1)(F:∀n c,X.closure.lookup n=J c->∃v,S.IsCell c v)
 (r:R w S T Q s.heap)(x:ue w T s.heap W vals)(hl:W.length=X.params.args.length)(t:B.Ns s.heap.objs.size λx=>((X.params.args.map λx=>x.arg).zip vals).reverse.lookup x)(L:∀b o,s.heap.get? b=J o->B.get? b=J o):
 Lc w S (gg X s.heap.objs.size a) (λa=>a=s.heap.objs.size) (ch X).sl 0 (W.map J++Ia ((ch X).sl.length - X.params.args.length) Y) T B:=by
 have x1:=x.length;have l:∀y,(gg X s.heap.objs.size a).kindOf y≠J .cell:=λy q=>m y _ (mem_of_lookup (show X.scope.names.lookup y=J .cell from q)) rfl;have G:(ch X).sl.length=(W.map J++Ia ((ch X).sl.length - X.params.args.length) (Y:Option V)).length:=by
  have:X.params.args.length<=(ch X).sl.length:=by unfold ch;simp
  simp;lia
 have I:X.closure.Pairwise λx y=>x.2≠y.2:=by
  match e:X.closure,E with
  |[],j=>exact .nil|[p],j=>exact GA _ _|j::d::f,h=>simp at h
 refine⟨C.kind,C.gl,C.bi,G.symm,⟨_,t,λy i v h d p=>?_⟩,λy i v h d p=>?_,⟨Hf r (Fb _),Rd r (Fb _),rfl⟩,λy k hy d=>?_,I,λy i h u=>?_,λb f=>?_,λb f=>?_⟩
 ·refine aa λz=>?_
  obtain⟨_,m1,m2⟩:=Sv hl h p;obtain⟨j,v1,v2⟩:=x.get m2;exact z (⟨j,YE (Xo C.nd (vals:=vals) (by simp;lia)) (Yu m1 v1),v2.mono (Ja _) λa o e u=>L a o e⟩)
 ·rcases Yv C h with q|q
  ·rcases d with z|z<;> · rw[show(gg X s.heap.objs.size a).kindOf y=X.scope.names.lookup y from rfl,q]at z;cases z
  ·exact zc q (l y)
 ·rcases d with q|q
  ·exact zc q (m y k hy)
  ·have:=D y k hy q
   obtain⟨c,j⟩:=Na.mp this;obtain⟨v,z⟩:=F y c j;exact⟨c,v,j,(z.keeps λb o e=>r.wK b o e).keeps L⟩
 ·rcases Yv C h with q|q
  ·exact .inl q
  ·exact zc q (l y)
 ·subst f;exact Rd r (Fb _)
 ·subst f
  obtain⟨o,c,j,e,_⟩:=t;refine U e ?_;rfl
end
section
structure JA(T:qb)(K:Ue)(O:Ch)(D:Ca):Prop where
 cls:∃o cd,K.lookup D=J o/\o.data=.cls cd
 ty:nsIn K cStatics "thirdparty.any"=J Y
 sup:∀c f,O.sup c=J f->mroIn K c (.ref D)=J Z/\wE K c D "__init__"=J (J (.ref f))/\HQ K (.ref f)=J (.type "function")/\fnIn K f=Z
structure WF(T:qb)(g:Gl)(f:Ca)(W:te)(D:Ca):Prop where
 glob:g.glob "super"=J (.type "super")
 ks:W.scope.names.lookup ("super":Bb)=J .globalImplicit
 kc:W.scope.names.lookup ("__class__":Bb)=J .free
 par:∃ar,(W.params.posonlyargs++W.params.args).head?=J ar/\W.scope.names.lookup ar.arg=J .local/\xc (ch W).sl ar.arg=J 0
 fn:∃o,T.get? f=J o/\o.data=.func W
 code:∃c o vs file tf,W.code=.ref c/\T.get? c=J o/\o.data=.fields vs/\vs[2]?=J (.str file tf)/\((pg.main.file:Bb)==file)=Z
 top:(pg.main.scope.names.lookup ("super":Bb)).isSome=ua
 cell:∃c,W.closure.lookup ("__class__":Bb)=J c/\T.IsCell c (J (.ref D))
noncomputable def pW(a:Expr):Option (Expr×Bb×Om):=match a with|.Attribute o n p=>J (o,n,p)|_=>Y
theorem HI{e:Expr}{q:Expr×Bb×Om}(h:pW e=J q):e=.Attribute q.1 q.2.1 q.2.2:=by
 induction e using Expr.casesOn<;>first|exact ja h|cases ba h;rfl
noncomputable def BW(a:bz):Option Expr:=match a with|.Expr e b=>J e|_=>Y
theorem hJ{st:bz}{e:Expr}(h:BW st=J e):∃p,st=.Expr e p:=by
 induction st using X3<;>first|exact ja h|exact⟨_,by exact U (ba h) rfl⟩
def K9(e:Expr):Option (Bb×Bb×Om×List Expr×Om):=(bG e).bind λq=>(Ge q.2.2.1.isEmpty).bind λa=>(pW q.1).bind λb=>(bG b.1).bind λc=>(Ge (c.2.1.isEmpty&&c.2.2.1.isEmpty)).bind λa=>(Vv c.1).map λs=>(s,b.2.1,b.2.2,q.2.1,q.2.2.2)
def I9(W:te)(q:Bb×Bb×Om×List Expr×Om):Bool:=wq W&&(q.1==("super":Bb))&&(q.2.1==("__init__":Bb))&&(q.2.2.1.endLine==q.2.2.2.2.line)&& !q.2.2.2.1.isEmpty&&decide (q.2.2.2.1.length<29)
def P1(g:Gl)(W:te)(rest:List bz)(q:Bb×Bb×Om×List Expr×Om):Option Fn:=if I9 W q then YF g.sup (wx g 60 (ch W) q.2.2.2.1) (Lo g 60 (ch W) rest) λS x b=>J ⟨W.params.args.length,(ch W).sl.length,.expr (.sup 0 S x)::b⟩else Y
def O1(g:Gl)(W:te)(a:List bz):Option Fn:=match a with|[]=>Y|st::rest=>((BW st).bind K9).bind (P1 g W rest)
def Py(g:Gl)(W:te):Option Fn:=match W.body with|.stmts a=>O1 g W a|_=>Y
def QK(T:qb)(g:Gl)(b:Nat->Option Fn)(D:Ca):Prop:=∀a d,b a=J d->∃o W,T.get? a=J o/\o.data=.func W/\T.CodeRec W.code W.qualname/\(zQ g W=J d\/(Py g W=J d/\WF T g a W D))/\∀n c,W.closure.lookup n=J c->∃v,T.IsCell c v
variable [r:Av]
theorem qV{e:Expr}{p:Bb×Bb×Om×List Expr×Om}(h:K9 e=J p):∃E y,e=.Call (.Attribute (.Call (.Name p.1 E) [] [] y) p.2.1 p.2.2.1) p.2.2.2.1 [] p.2.2.2.2:=
 ab h λq j h=>ab h λa k h=>ab h λb l h=>ab h λc m h=>ab h λa o h=>qe h λd B h=>by
 have i:=Aa.mp (yf o);exact Ed h ((Ll B).imp λE P=>⟨c.2.2.2,by exact U (Kr j) (U (HI l) (U (Kr m) (U P (U (Be.mp (yf k)) (U (Be.mp i.1) (U (Be.mp i.2) rfl))))))⟩)
variable {w:zb} {T:qb} {A:Yb} {t:Ca->Prop} {F:Me} {K:Ue} {O:Ch} {n:Nat} {g:Gl} {I:List Ca} {C z:St} {s:Ea} {v:V} {cf:Nat->List V->St->Option (V×St)} {W:te} {L D:Ca} {f S:Nat} {G:List bz} {E y u Q:Om} {N:List Expr} {x:List X}
theorem xF(B:Jk T K O)(GO:Xy T K g)(CF:Gi w T cf n)(AK:Eg n A)(SU:JA T K O D)(SF:WF T g f W D)
 (hn:∀j∈N,∀i p,j≠jd i p)(hG:Vi w T A (gg W L f) t (ch W).sl 0 F (kj (qg Q (starEach N (gg W L f)))) λC=>Mi O cf x F C)(hl:(u.endLine==Q.line)=Z)(y9:N≠[])(x9:N.length<29)
 (a:R w T I C s.heap)(b:Lc w T (gg W L f) t (ch W).sl 0 F I s.heap)(j:evX O cf (.sup 0 S x) F C=J (v,z)):
 PySem.wpAt (bb pg w) A (.func G (gg W L f)) (yc (.Call (.Attribute (.Call (.Name "super" E) [] [] y) "__init__" u) N [] Q) (gg W L f)) (PV w T L I s z v) No s:=by
 refine ab j λk q0 j=>ab j λq z3 j=>ab q0 λj' q1 q2=>ab q1 λvj z6 q3=>ab q2 λp hj q4=>ab q4 λe5 z7 q5=>(aa λnq=>?_);obtain⟨y1,rfl⟩:=El q5;have z8:F[0]?=J (J (.ref j')):=by
  refine aa λnq=>(Wg z6 λl z1 z2=>(nq ?_));clear nq;exact z1.trans (Gc J (dn z2 (Gc J (Th q3))))
 obtain⟨l,m⟩:=p;obtain⟨m1,m2,m3,m4⟩:=SU.sup l S y1;obtain⟨oD,e6,z9,y2⟩:=SU.cls;obtain⟨ar,hp,y3,k6⟩:=SF.par;obtain⟨of,hf,k7⟩:=SF.fn;obtain⟨cc,oc,e7,e3,tf,x7,k8,k9,h3,x8⟩:=SF.code;obtain⟨ce,h4,h5⟩:=SF.cell;obtain⟨o,hm,hv⟩:=b.ns;obtain⟨h6,h7,xv⟩:=hv ar.arg 0 (.ref j') k6 y3 z8;obtain⟨x1,dx,e4,mm,rfl,ha,_,_,_,_,_,_,c⟩:=a.inst hj z7 xv;have X:K.In s.heap:=a.kin B;have y4:=X _ _ z9;refine nq ?_;clear nq;refine U (qdr _ _ _ _ _ _ _) (PySem.wpAt_bind (ks_wpAt_super_base (env:=gg W L f) SF.ks SF.kc (by decide) rfl (a.wK _ _ hf) k7 hp x7 (a.wK _ _ k8) k9 h3 x8 SF.top (ks_loadName_global b.kind SF.ks ?_)));have y5:{d:wa->Ea->Prop}->d (.type "super") s->Qa (bb pg w) A (loadGlobal (gg W L f) "super") d No s:=λhQ=>by
  refine aa λnq=>?_;obtain⟨_,o,hm,x2⟩:=GO.glob "super" _ SF.glob;refine nq ?_;clear nq;have h1:s.heap.Ns (gg W L f).globals o:=by refine U b.globals ?_;exact hm.keeps λx3 x5 j=>a.wK x3 x5 j
  refine aa λnq=>?_;rcases x2 with x2|⟨x2,mb,e,h⟩
  ·refine nq ?_
   clear nq;exact H4 h1 x2 hQ
  ·refine nq ?_
   clear nq;exact uZ h1 x2 (by refine U b.builtins ?_;exact e.keeps λx3 x5 j=>a.wK x3 x5 j) h hQ
 refine y5 ⟨rfl,?_⟩;refine FX b.kind SF.kc h4 (h5.keeps λx3 x5 j=>a.wK x3 x5 j) (SV b.kind y3 hm h7 (ks_wpAny_isType_cls y4 y2 ⟨rfl,?_⟩));refine ks_wpAny_call_super y4 y2 c.at_ c.cls (λl j=>?_) (looks_mroIn X m1) λh1 e1 k1=>?_
 ·have:=c.no
  unfold notCls at this;rw[j]at this;exact Bd this
 refine VF (ga (lc ?_));unfold CZ;refine U (Zv x9 hn) (U (by unfold xu;simp[hl]:xu Z (.Call (.Name "super" E) [] [] y) (gg W L f) u Q=pure Q) ?_);refine ga (Kb ?_);have X1:K.In h1:=λx3 x5 j=>k1 _ _ (X x3 x5 j);refine aa λnq=>?_
 induction x6:clsIn K l with
 |none=>refine nq ?_;clear nq;unfold wE at m2;rw[x6]at m2;exact ja m2|some cd=>
 refine nq ?_;clear nq;unfold wE at m2;rw[x6]at m2;obtain⟨o2,h8,y6⟩:∃o2,h1.get? S=J o2/\o2.cls=.type "function":=by
  have h:(K.lookup S).map (λi=>i.cls)=J (.type "function"):=m3
  induction e:K.lookup S with
  |none=>rw[e]at h;exact ja h|some of=>rw[e]at h;exact⟨of,X1 _ _ e,ba h⟩
 refine ks_wpAny_getMethod_super e1 (looks_opaque X1 SU.ty) (l₀:=cd.mro) ?_ rfl X1 m2 h8 y6 (ks_ne X c x6) (by decide) ?_
 ·exactλA d b s h q=>ga ((looks_clsIn X1 x6) A _ b s h (ta q))
 refine ga (ta ?_);obtain⟨e0,er,rfl⟩:∃e0 er,N=e0::er:=by
  refine aa λnq=>?_
  induction N using ma with
  |nil=>refine nq ?_;clear nq;exact zc rfl y9|cons x1 x3=>refine nq ?_;clear nq;exact⟨x1,x3,rfl⟩
 have k2:∀x3 x5,s.heap.get? x3=J x5->(h1.push {cls:=.type "method",data:=.fields #[.ref S,.ref x1]}).get? x3=J x5:=λx3 x5 j=>Ba _ (k1 _ _ j);have k3:=KX.wI (L:=L) (ρ:=I) k2;have r3:=a.wI k2;have E3:=b.wI a k2;have hq:(h1.push {cls:=.type "method",data:=.fields #[.ref S,.ref x1]}).get? h1.objs.size=J (methodObj (.ref S) (.ref x1)):=Oa _ rfl;have h9:h1.objs.size≠L:=λq=>by
  obtain⟨h,_,_,hL,_⟩:=hm;have:=xk k1 (Fb h1);rw[q]at this;rw[show s.heap.get? L=J h from hL]at this;exact ja this.symm
 have e2:qg Q (starEach (e0::er) (gg W L f))=(ua,yc e0 (gg W L f))::er.map λj=>(ua,yc j (gg W L f)):=by
  refine U (Gm hn) ?_;unfold qg;refine U Qd ?_;rfl
 have y7:=hG I C {s with heap:=h1.push {cls:=.type "method",data:=.fields #[.ref S,.ref x1]},toks:=s.toks+1} r3 E3 _ _ z3;rw[e2]at y7|-;refine tS (P:=MethP K h1.objs.size S (.ref x1)) (Bool.or_eq_false_iff.mpr ⟨List.any_eq_false.mpr λi hx=>(fb.mp hx).elim (λj=>j▸ia) λx2=>(Rb.mp x2).elim λh e=>e.2▸ia,rfl⟩) (keeps_M m4) (qbw (Da y7 (λy8 s2 p2=>?_) λh h i=>i));obtain⟨e8,t4,i,r4,x4⟩:=p2;have h:s2.heap.get? h1.objs.size=J (methodObj (.ref S) (.ref x1)):=i.keep _ _ hq (Hf a (xk k1 (Fb h1))) h9;refine⟨⟨h,r4.kin B⟩,Np (ks_codeAny_call_bound h (Oc (CF A AK S _ (.ref x1::y8) _ _ s2 _ _ L r4 (E3.kx r3 i).loc.1 (.cons (i.vr (k3.vr xv)) x4) j) λq s' e=>?_))⟩;obtain⟨h6,rfl,e⟩:=e;exact PR.after t4.past (k3.trans i) e
end
section
variable {N:List Ca} {O F:St} {s:Ea} {L:Ca} {v:V} {I:Fn} {G:List V} {P:Prop} {h:qb} {W:te}
variable {w:zb} {T:qb} {A:Yb} {K:Ue} {X:Ch} {n d:Nat} {D:Ca} {g:Gl} {Q:Nat->Option Fn}
noncomputable def AG(z:OK):wa:=match z with|.ret v=>v|_=>.none
theorem iE [av:Av]{s1 l:Ea}{m:zj}{r:Ca->Prop}{sl:List Bb}{t:Fl}{c:Me}{f:St}{C:OK}(hL:L∉N)(E:Bh s s1)(i:∀b o,s.heap.get? b=J o->s1.heap.get? b=J o)(B:∀a,r a->s.heap.get? a=Y)
 (R:EY (t,c,f)=(v,O))(p:PF w T m r sl N s1 f c t C l):PV w T L N s O v (AG C) l:=by
 refine aa λS=>?_;obtain⟨b,t2,k,r',E',q⟩:=p;refine S ?_;clear S;have j:∀a o,s.heap.get? a=J o->¬r a:=λa o e q=>by rw[B a q]at e;exact ja e
 have kx:KX L N s.heap l.heap b:=⟨⟨k.pre,λa ha=>(k.fresh a ha).imp_right λq=>(by
  induction z:s.heap.get? a with
  |none=>rfl|some o=>rw[i a o z]at q;exact ja q.symm),λa o e u y=>k.keep a o (i a o e) u (j a o e),λa o e x=>k.imm a o (i a o e) x,λa e=>by
  obtain⟨o,y⟩:=Na.mp e;exact k.live a (by refine U (i a o y) ?_;rfl)⟩,λm0 u=>by obtain⟨o,z,ep,x,e2⟩:=u;exact⟨o,z,ep,k.keep _ _ (i _ _ x) hL (j _ _ x),e2⟩⟩
 induction t with
 |next=>rw[q.wF];obtain⟨rfl,rfl⟩:=Ta R;exact⟨b,E.trans t2,kx,r',.none⟩|ret u=>
  obtain⟨y,rfl,x⟩:=q.wF;obtain⟨rfl,rfl⟩:=Ta R;exact⟨b,E.trans t2,kx,r',x⟩
theorem FH{a:Nat->List V->St->Option (V×St)}(e:yP X a I G F=J (v,O))(k:G.length=I.params->∀p,uv X a I.body (G.map J++Ia (I.slots - I.params) Y) F=J p->EY p=(v,O)->P):P:=by
 refine Wg e λz b c=>(Ds c λp f i=>(k (Uc ?_) p f i))
 induction h:Ub G.length I.params with
 |true=>rfl|false=>rw[h]at b;exact ja b
theorem R.noLimit [f:Av](r:R w T N F h)(B:Jk T K X):h.NoLimit:=by
 obtain⟨c,a,b⟩:=B.statics;exact⟨c,a.keeps λb o e=>r.wK b o e,b⟩
theorem R.code [m:Av](r:R w T N F h){c:wa}{q:Bb}(e:T.CodeRec c q):h.CodeRec c q:=by
 refine aa λi=>?_;obtain⟨c,j,f,t,a,b,k,l⟩:=e;exact i (⟨c,j,f,t,a,r.wK _ _ b,k,l⟩)
theorem Ix [c:Av]{a:List wa}(C:PK W)(x:ue w N h G a)(b:G.length=W.params.args.length):bindArgs W ⟨a,[]⟩=pure ((W.params.args.map λx=>x.arg).zip a):=
 Wu C.po C.ko C.va C.kw C.df C.nd (by exact U (ya _) (Ed x.length (U b rfl)))
theorem WA(B:Jk T K X)(CO:Zp T K X)(GO:Xy T K g)(SO:∀i:Av,@Ij i w T)(ZO:∀i:Av,@KA i w T K g)(SU:JA T K X D)(ih:∀i:Av,@Gi i w T (vl X Q d) (2*d))(IA:Av){j:List wa}{o:wD}{f:Nat}
 (AK:Eg (2*(d+1)) A)(r:R w T N F s.heap)(hL:L∉N)(x:ue w N s.heap G j)(ho:T.get? f=J o)(hd:o.data=.func W)(y3:T.CodeRec W.code W.qualname)(y4:∀n c,W.closure.lookup n=J c->∃v,T.IsCell c v)
 (c:Py g W=J I)(SF:WF T g f W D)(e:yP X (vl X Q d) I G F=J (v,O)):
 dh (bb pg w) A (.call (.ref f) ⟨j,[]⟩) (λq b=>∃t,q=.ok (.ret t)/\PV w T L N s O v t b) s:=by
 unfold Py at c
 induction k:W.body<;>rw[k]at c<;>try (exact ja c)
 rename List bz=>ss
 induction ss using ma with
 |nil=>exact ja c|cons st rest=>
 refine ab c λq x3 m=>ab x3 λex y5 hq=>ae m λl p=>Ji p λf2 xs b k8 y6 E x4=>?_;clear p m c x3;refine aa λnq=>?_;obtain⟨sn,nm,ap,es,y7⟩:=q;obtain⟨ep,rfl⟩:=hJ y5;obtain⟨p0,p1,rfl⟩:=qV hq;refine nq ?_;unfold I9 at l;simp only[Ad,decide_eq_true_eq,Se]at l;refine aa λnq=>?_;obtain⟨⟨⟨⟨⟨l,y8⟩,y9⟩,hl⟩,z3⟩,x5⟩:=l;have z6:sn=("super":Bb):=by simpa using y8
 have z7:nm=("__init__":Bb):=by simpa using y9
 subst z6;subst z7;obtain rfl:=ba x4;refine nq ?_;have C:=BG l;refine FH e λx6 pe x7 he=>(aa λnq=>?_);obtain⟨fl,z8,z9⟩:=pe;refine nq (ab x7 λp3 h1 h2=>ab h1 λp4 x8 h4=>qe h4 λu u h5=>?_);rw[<-h5]at h2;have x9:∀i:Av,@Cx i w T K X g (vl X Q d) (2*d):=λi=>⟨B,CO,GO,SO i,ih i⟩;refine aa λnq=>?_;obtain⟨k9,y1,h3⟩:=SF.cell;refine nq ?_;rcases C.clos with⟨k3,_⟩|⟨x2,k4,y2⟩
 ·rw[k3]at y1;exact ja y1
 refine ks_codeAny_call_defAt AK.room (r.wK _ _ ho:s.heap.get? f=J o) hd (r.noLimit B) (r.code y3) k (cR (Ix C x x6)) (λy z=>x2 y.1 y.2 z) (λy z=>(C.ps _ ((λy z=>(IR z).1:∀y∈(W.params.args.map λx=>x.arg).zip j,y.1∈W.params.args.map λx=>x.arg) y z)).elim (λq=>q) λq=>zc rfl (x2 _ _ (mem_of_lookup q))) (λh0 k6 hk=>?_) C.co C.gen C.kind;have E1:=uG (a:=f) C x2 k4 y2 y4 r x x6 k6 hk;have y:Eg (2*d+1) (A.deeper (gg W s.heap.objs.size f)):=Eg.deeper (n:=2*d+1) (AK.less (by exact Gb _)) _;have SE:=(Ps (x9 IA) y 60).Es (ch W) es xs (gg W s.heap.objs.size f) (λa=>a=s.heap.objs.size) 0 (G.map J++Ia ((ch W).sl.length - W.params.args.length) Y) y7 rfl y6;have S:=(pF x9 ZO y 60 IA).all (ch W) rest b (gg W s.heap.objs.size f) (λa=>a=s.heap.objs.size) rfl E;refine ks_wpAt_execs_cons (ks_wpAt_Expr_any (PySem.wpAt_mono (xF (s:={s with heap:=h0,toks:=s.toks+((W.params.args.map λx=>x.arg).zip j).length}) (cf:=vl X Q d) (n:=2*d) B GO (ih IA) (y.less (by exact se _)) SU SF SE.2 SE.1 hl (by intro q;subst q;exact zc z3.symm ia) x5 (r.wI hk) E1 x8) (λt s1 p1=>?_) λu u z=>z.elim) ?_ ?_)
 ·obtain⟨k7,t1,k1,r1,x1⟩:=p1
  exact VF (Da (S _ k7 _ s1 fl z8 z9 r1 (E1.kx (r.wI hk) k1) h2) (λfw s2 p2=>⟨AG fw,(by induction fw<;>rfl),iE (s1:={s with heap:=h0,toks:=s.toks+((W.params.args.map λx=>x.arg).zip j).length}) hL rfl hk (λa ha=>by subst ha;exact Fb _) he (PF.after t1 k1.toKp p2)⟩) λu u z=>z.elim)
 ·unfold qfx;refine U E1.kind ?_;rfl
 ·exact Un rfl
theorem L9{g:Gl}(h:zQ g W=J I)(k:∀a,W.body=.stmts a->(if wq W then(Lo g 60 (ch W) a).map λb=>(⟨W.params.args.length,(ch W).sl.length,b⟩:Fn)else Y)=J I->P):P:=by
 replace h:(match W.body with|.expr u=>Y|.stmts a=>if wq W then(Lo g 60 (ch W) a).map λb=>⟨W.params.args.length,(ch W).sl.length,b⟩else Y)=J I:=h;revert k h
 induction W.body with
 |expr u=>exactλk h=>ja h|stmts a=>exactλk h=>k a rfl h
theorem jz(B:Jk T K X)(CO:Zp T K X)(GO:Xy T K g)(SO:∀i:Av,@Ij i w T)(ZO:∀i:Av,@KA i w T K g)(FO:QK T g Q D)(SU:JA T K X D)(ih:∀i:Av,@Gi i w T (vl X Q d) (2*d))(IA:Av):Gi w T (vl X Q (d+1)) (2*(d+1)):=by
 intro A AK f G k N F s v O L r hL x e;refine ab e λI hf e=>(aa λnq=>?_);obtain⟨o,W,ho,hd,x1,j,x3⟩:=FO f I hf;refine nq ?_;rcases j with j|⟨j,SF⟩
 rotate_left
 ·exact WA B CO GO SO ZO SU ih IA AK r hL x ho hd x1 x3 j SF e
 refine L9 j λE m j=>?_;refine ae j λy2 j=>qe j λb x4 j=>?_;subst j;have C:=BG y2;refine FH e λp pe R he=>(aa λnq=>?_);obtain⟨fl,x5,x6⟩:=pe;refine nq ?_;have x7:s.heap.get? f=J o:=r.wK _ _ ho;have t:=Ix C x p;have x8:∀i:Av,@Cx i w T K X g (vl X Q d) (2*d):=λi=>⟨B,CO,GO,SO i,ih i⟩;have x9:∀y∈(W.params.args.map λx=>x.arg).zip k,y.1∈W.params.args.map (λx=>x.arg):=λy hy=>(IR hy).1;rcases C.clos with⟨y1,y3⟩|⟨x2,y4,y5⟩
 ·refine codeAny_call_cells AK.room x7 hd (r.noLimit B) (r.code x1) m t y1 (λy hy=>?_) (λs1 i=>?_) C.co C.gen C.kind
  ·rcases C.ps _ (x9 y hy)with q|q
   ·exact .inl q
   ·refine .inr ⟨q,?_⟩
    refine aa λnq=>?_;obtain⟨u,z,n1,n2,n3,n4⟩:=Sk W.scope.names (s.heap.objs.size+1) [];obtain⟨c,hc⟩:=n2 y.1 (mem_of_lookup q);obtain⟨c',q1,_⟩:=rh (l:=Lj (s.heap.objs.size+1) W.scope.names []) (x:=y.1) (c:=c) (by refine U z ?_;simpa using hc);refine nq ?_;refine U q1 ?_;rfl
  ·have E1:=gJ (a:=f) C y1 y3 r x p i
   have S:=(pF (n:=2*d) x8 ZO (Eg.deeper (n:=2*d+1) (AK.less (by exact Gb _)) (Xh W s.heap.objs.size f)) 60 IA).all (ch W) E b _ _ rfl x4 _ N F _ fl x5 x6 (r.wI i.toInCall.keep) E1 R;have ts:Bh s s1:=by obtain⟨z,u,rfl⟩:=i.toInCall.same;rfl
   exact Da S (λfw s2 p2=>⟨AG fw,(by induction fw<;>rfl),iE hL ts i.toInCall.keep (λa ha=>ha.elim (λq=>q▸Fb _) λu=>by obtain⟨_,_,q⟩:=u;exact yk (vd q)) he p2⟩) λu u z=>z.elim
 ·refine codeAny_call_def AK.room x7 hd (r.noLimit B) (r.code x1) m (cR t) (λy hy=>x2 y.1 y.2 hy) (λy hy=>(C.ps _ (x9 y hy)).elim (λq=>q) λq=>zc rfl (x2 _ _ (mem_of_lookup q))) (λh0 q hk=>?_) C.co C.gen C.kind
  have E1:=uG (a:=f) C x2 y4 y5 x3 r x p q hk;exact Da ((pF (n:=2*d) x8 ZO (Eg.deeper (n:=2*d+1) (AK.less (by exact Gb _)) (gg W s.heap.objs.size f)) 60 IA).all (ch W) E b _ _ rfl x4 _ N F {s with heap:=h0,toks:=s.toks+((W.params.args.map λx=>x.arg).zip k).length} fl x5 x6 (r.wI hk) E1 R) (λfw s2 p2=>⟨AG fw,(by induction fw<;>rfl),iE (s1:={s with heap:=h0,toks:=s.toks+((W.params.args.map λx=>x.arg).zip k).length}) hL rfl hk (λa ha=>by subst ha;exact Fb _) he p2⟩) λu u z=>z.elim
theorem vS(B:Jk T K X)(c:Zp T K X)(i:Xy T K g)(j:∀a:Av,@Ij a w T)(k:∀a:Av,@KA a w T K g)(l:QK T g Q D)(m:JA T K X D):∀d(a:Av),@Gi a w T (vl X Q d) (2*d):=by
 intro d
 induction d with
 |zero=>
  rintro a;exactλA o f G b N F s v O L r p x e=>ja e
 |succ d b=>
  rintro a;exact jz B c i j k l m (b) a
end
noncomputable def N7:List (String×wa):=[("_wall",Jc 21),("least",Jc 28),("greatest",Jc 35),("size_domains",Jc 40),("next_from",Jc 47),("has_domains",Jc 54),("values",Jc 61),("up_to",Jc 66),("from_on",Jc 71),("without",Jc 78),("meet",Jc 85),("negation",Jc 92),("struck",Jc 99),("said_of",Jc 106),("Store",Jc 256),("Propagator",Jc 298),("standing",Jc 309),("Placing",Jc 357),("Cardinality",Jc 435),("_law_draw",Jc 444),("_law_domain",Jc 451),("_law_tuples",Jc 456),("_law_keeps",Jc 461),("_law_made",Jc 466),("_law_left",Jc 471),("_law_is_asked_right",Jc 476),
 ("len",Ti "len"),("range",uf "range"),("max",Ti "max"),("min",Ti "min"),("sum",Ti "sum"),("tuple",uf "tuple"),("list",uf "list"),("set",uf "set"),("sorted",Ti "sorted"),("zip",uf "zip"),("super",uf "super")]
def IG:List (Bb×wa):=N7.map λp=>(Hg p.1,p.2)
def gl:Gl:=⟨λx=>IG.lookup x,J 274⟩
section
variable {d:qaW} {v:wa} {a c:Nat} {V T:Type} {n:Bb} {b:Bool} {X:te}
noncomputable def QG(as:List Ca)(h:qb):Ue:=as.filterMap λa=>(h.get? a).map λo=>(a,o)
theorem MN{h:qb}:{as:List Ca}->(QG as h).In h:=by
 intro as
 induction as with
 |nil=>
  rintro a o e;exact ja e
 |cons b as f=>
  rintro a o e;have f:=f a o;unfold QG at e f;rw[Fj]at e
  induction q:h.get? b with
  |none=>rw[q]at e;exact f e|some x=>
   rw[q]at e;replace e:KF a ((b,x)::as.filterMap λa=>(h.get? a).map λo=>(a,o))=J o:=e;rw[Mc]at e
   induction z:a==b with
   |true=>
    rw[z]at e;exact eq_of_beq z▸(ba e▸q)
   |false=>rw[z]at e;exact f e
noncomputable def qeh(z:wa):Option Ca:=match z with|.ref a=>J a|_=>Y
noncomputable def qaF(z:wa):Option Bb:=match z with|.str s u=>J s|_=>Y
noncomputable def qdJ(z:qaW):Option (Array Cf):=match z with|.dict e u=>J e|_=>Y
noncomputable def qdL(z:qaW):Option te:=match z with|.func X=>J X|_=>Y
noncomputable def qeq(z:qaW):Option (Array wa):=match z with|.fields e=>J e|_=>Y
noncomputable def qdu(z:qaW):Option (Option wa):=match z with|.cell v=>J v|_=>Y
noncomputable def qdv(z:qaW):Option ClassData:=match z with|.cls e=>J e|_=>Y
theorem yS{f:ClassData}(h:qdv d=J f):d=.cls f:=by induction d<;>first|exact ja h|exact Gc _ (ba h)
theorem BU{a:Ca}(h:qeh v=J a):v=.ref a:=by induction v<;>first|exact ja h|exact Gc _ (ba h)
theorem dI{a:Bb}(h:qaF v=J a):∃t,v=.str a t:=by induction v<;>first|exact ja h|exact⟨_,Gc (λx=>qaq x _) (ba h)⟩
theorem eT{e:Array Cf}(h:qdJ d=J e):∃f,d=.dict e f:=by induction d<;>first|exact ja h|exact⟨_,Gc (λx=>qaW.dict x _) (ba h)⟩
theorem pT{f:te}(h:qdL d=J f):d=.func f:=by induction d<;>first|exact ja h|exact Gc _ (ba h)
theorem NV{f:Array wa}(h:qeq d=J f):d=.fields f:=by induction d<;>first|exact ja h|exact Gc _ (ba h)
theorem xS{f:Option wa}(h:qdu d=J f):d=.cell f:=by induction d<;>first|exact ja h|exact Gc _ (ba h)
theorem aj{o:Option V}{p:V->Bool}(h:o.any p=Z):∃a,o=J a/\p a=Z:=by
 induction o with
 |none=>exact zc h ia|some a=>exact⟨a,rfl,h⟩
theorem Qk{p:V->Bool}{l:List V}(h:l.all p=Z){a:V}(m:a∈l):p a=Z:=md.mp h a m
noncomputable def bZ(o:Option (Option wa))(s:String):Bool:=decide (o=J (J (.builtin s)))
noncomputable def eZ(o:Option (Option wa))(a:Nat):Bool:=decide (o=J (J (.ref a)))
noncomputable def cZ(o:Option (Option wa)):Bool:=decide (o=J Y)
noncomputable def fZ(o:Option wa)(s:String):Bool:=decide (o=J (.type s))
def jo(K:Ue)(c:Nat)(n:Bb):Bool:=
 (bZ (Tk K (.ref c) "__getattribute__") "object.__getattribute__"&&(hasDictIn K c&&(Tk K (.ref c) n).any (noGet K)))
 &&(bZ (Tk K (.ref c) "__setattr__") "object.__setattr__"&&(plainOver K c&&cZ (takerIn K c n)))
def wu(K:Ue)(c:Nat)(e:Bb)(f:Nat):Bool:=
 bZ (Tk K (.ref c) "__getattribute__") "object.__getattribute__"&&(cZ (Tk K (.ref c) "__getattr__")&&(eZ (Tk K (.ref c) e) f&&(fZ (HQ K (.ref f)) "function"&&keepIn K (.ref f))))
def uu(K:Ue)(c f:Nat):Bool:=makesIn K c&&(eZ (Tk K (.ref c) "__init__") f&&fZ (HQ K (.ref f)) "function")
noncomputable def ay(K:Ue)(a:Nat):Option qaW:=(K.lookup a).map λx=>x.data
def oO(K:Ue)(a:Nat):Option (Array Cf):=((ay K a).bind qdJ).bind λf=>if f.toList.all (λe=>(qaF e.key).isSome)=Z then J f else Y
variable {K:Ue} {W:qb} {scr:Nat->Option (List Int)}
theorem pz(x:K.In W)(e:ay K a=J d):∃o,W.get? a=J o/\o.data=d:=(ef.mp e).imp λo h=>⟨x _ _ h.1,h.2⟩
theorem zu(x:K.In W){g:Array Cf}(e:oO K a=J g):W.Ns a (pO g):=by
 refine Wg e λf i h=>(Wg i λd j l=>?_);obtain⟨o,m,p⟩:=pz x j;obtain⟨q,r⟩:=eT l;by_cases z:f.toList.all (λe=>(qaF e.key).isSome)=Z
 ·obtain rfl:=ba ((Dd z).symm.trans h)
  refine⟨o,f,q,m,p.trans r,λd s=>?_,λu=>rfl⟩;obtain⟨k,t⟩:=Na.mp (Qk z (Array.mem_toList_iff.mpr s));exact⟨k,dI t⟩
 ·exact ja ((fe z).symm.trans h)
def yz(K:Ue)(x:Bb)(v:wa):Bool:=AB K v&&((oO K mainGlobals).any λe=>(oO K ip).any λf=>decide (pO e x=J v)||(decide (pO e x=Y)&&decide (pO f x=J v)))
def oT(K:Ue)(a:Nat):Option te:=(ay K a).bind qdL
def WD(K:Ue)(X:te)(i:Nat)(p:Bb->Bool):Bool:=(qeh X.code).any λc=>((ay K c).bind qeq).any λe=>((e[i]?:Option wa).bind qaF).any p
def SD(K:Ue)(c:Nat)(p:Option wa->Bool):Bool:=((ay K c).bind qdu).any p
def OM(K:Ue)(a:Nat):Bool:=(oT K a).any λX=>WD K X 1 (λx=>x==X.qualname)&&X.closure.all λp=>SD K p.2 λu=>Z
def oQ(K:Ue)(D:Nat)(c f:Nat):Bool:=decide (mroIn K c (.ref D)=J Z)&&(eZ (wE K c D "__init__") f&&(fZ (HQ K (.ref f)) "function"&&fnIn K f))
def Tn(K:Ue)(g:Gl)(D:Nat)(X:te):Bool:=
 decide (g.glob "super"=J (.type "super"))&&(decide (X.scope.names.lookup ("super":Bb)=J .globalImplicit)&&(decide (X.scope.names.lookup ("__class__":Bb)=J .free)
 &&(((X.params.posonlyargs++X.params.args).head?.any λe=>decide (X.scope.names.lookup e.arg=J .local)&&decide (xc (ch X).sl e.arg=J 0))
 &&(WD K X 2 (λx=>pg.main.file==x)&&(!(pg.main.scope.names.lookup ("super":Bb)).isSome
 &&(X.closure.lookup ("__class__":Bb)).any λc=>SD K c λv=>decide (v=J (.ref D)))))))
def N1(K:Ue)(a:Nat):Option Fn:=(oT K a).bind λX=>mR (zQ gl X) (if Tn K gl 435 X=Z then Py gl X else Y) J
def HN(K:Ue):Bool:=
 jq.all (λp=>p.2.all λn=>jo K p.1 n)&&(Uv.all (λp=>p.2.all λq=>wu K p.1 q.1 q.2)&&(tB.all (λp=>uu K p.1 p.2)
 &&(IG.all (λp=>yz K p.1 p.2)&&(QM.all (λp=>OM K p.1)
 &&((K.lookup sysModules).isSome&&((oO K cStatics).any (λe=>decide (pO e "sys.recursionlimit"=Y))
 &&(D1.all (λp=>oQ K 435 p.1 p.2)&&(((ay K 435).bind qdv).isSome&&(cZ (nsIn K cStatics "thirdparty.any")
 &&(oO K mainGlobals).any λe=>decide (pO e "law"=J (.ref 481)))))))))))
theorem Og [BEq V] [LawfulBEq V]:∀{l:List (V×T)}{a:V}{b:T},l.lookup a=J b->(a,b)∈l:=by
 intro l
 induction l with
 |nil=>
  rintro a b h;exact ja h
 |cons e r f=>
  obtain⟨k,v⟩:=e;rintro a b h;rw[Mc]at h
  induction z:a==k with
  |true=>rw[z]at h;refine U (eq_of_beq z) (U (ba h) ?_);exact sa|false=>rw[z]at h;exact oa _ (f h)
structure am(K:Ue):Prop where
 chk:HN K=Z
 fns:(QM.map λp=>N1 K p.1)=QM.map λp=>J p.2
theorem mK(h:(ux scr).attr c n=Z):∃e,(c,e)∈jq/\n∈e:=by
 replace h:(match jq.lookup c with|some e=>e.contains n|none=>ua)=Z:=h
 induction q:jq.lookup c with
 |none=>rw[q]at h;exact zc h ia|some e=>rw[q]at h;exact⟨e,Og q,fo.mp h⟩
theorem nK{f:Nat}(h:(ux scr).meth c n=J f):∃e,(c,e)∈Uv/\(n,f)∈e:=by
 replace h:(match Uv.lookup c with|some e=>e.lookup n|none=>Y)=J f:=h
 induction q:Uv.lookup c with
 |none=>rw[q]at h;exact ja h|some e=>rw[q]at h;exact⟨e,Og q,Og h⟩
section
variable (F:am K)
include F
theorem k0:jq.all (λp=>p.2.all λn=>jo K p.1 n)=Z:=Xe F.chk
theorem k1(h:HN K=(jq.all (λp=>p.2.all λn=>jo K p.1 n)&&b)):b=Z:=Zc (h.symm.trans F.chk)
theorem k2(h:HN K=(jq.all (λp=>p.2.all λn=>jo K p.1 n)&&(Uv.all (λp=>p.2.all λq=>wu K p.1 q.1 q.2)&&(tB.all (λp=>uu K p.1 p.2)&&b)))):b=Z:=Zc (Zc (k1 F h))
theorem k5(h:HN K=(jq.all (λp=>p.2.all λn=>jo K p.1 n)&&(Uv.all (λp=>p.2.all λq=>wu K p.1 q.1 q.2)&&(tB.all (λp=>uu K p.1 p.2)&&(IG.all (λp=>yz K p.1 p.2)&&(QM.all (λp=>OM K p.1)&&b)))))):b=Z:=Zc (Zc (k2 F h))
end
theorem iS(x:K.In W)(F:am K)(i:∀a e,scr a=J e->e.length<=4096/\∃f,W.IsList a f.toArray/\Xi f e):Jk W K (ux scr):=
 have f:∀c n,(ux scr).attr c n=Z->jo K c n=Z:=λc n h=>by
  obtain⟨g,m1,e⟩:=mK h;exact Qk (Qk (k0 F) m1) e
 have g:=k5 F rfl
 ⟨x,λc n h=>have q:=Xe (f c n h);⟨Nl (Xe q),Xe (Zc q),aj (Zc (Zc q))⟩,
  λc n h=>have q:=Zc (f c n h);⟨Nl (Xe q),Xe (Zc q),Nl (Zc (Zc q))⟩,
  λz=>by
   obtain⟨o,e⟩:=Na.mp (Xe g);exact ja (z.symm.trans (x _ _ e)),
  by
   obtain⟨j,e,h⟩:=aj (Xe (Zc g));exact⟨_,zu x e,Nl h⟩,i⟩
theorem rY(F:am K):Zp W K (ux scr):=⟨λc e f h=>by
 obtain⟨i,m1,g⟩:=nK h;have q:wu K c e f=Z:=Qk (Qk (Xe (k1 F rfl)) m1) g;exact⟨Nl (Xe q),Nl (Xe (Zc q)),Nl (Xe (Zc (Zc q))),Nl (Xe (Zc (Zc (Zc q)))),Zc (Zc (Zc (Zc q)))⟩,λc f h=>by
 have q:uu K c f=Z:=Qk (Xe (Zc (k1 F rfl))) (Og (h:tB.lookup c=J f));exact⟨Xe q,Nl (Xe (Zc q)),Nl (Zc (Zc q))⟩⟩
theorem L7(x:K.In W)(F:am K):Xy W K gl:=⟨λn v h=>by
 have q:yz K n v=Z:=Qk (Xe (k2 F rfl)) (Og (h:IG.lookup n=J v));refine⟨Xe q,?_⟩;obtain⟨g,e,q⟩:=aj (Zc q);obtain⟨i,f,q⟩:=aj q;exact⟨_,zu x e,(uI.mp q).imp Nl λq=>⟨Nl (Xe q),_,zu x f,Nl (Zc q)⟩⟩⟩
theorem H1(F:am K):JA W K (ux scr) 435:=by
 have c:=Zc (Zc (k5 F rfl));have i:∃o g,K.lookup 435=J o/\o.data=.cls g:=by
  obtain⟨g,e⟩:=Na.mp (Xe (Zc c));exact Wg e λd f h=>(Ds f λo j k=>(⟨o,g,j,k.trans (yS h)⟩))
 refine⟨i,Nl (Xe (Zc (Zc c))),λe f h=>?_⟩;have q:oQ K 435 e f=Z:=Qk (Xe c) (Og (h:D1.lookup e=J f));exact⟨Nl (Xe q),Nl (Xe (Zc q)),Nl (Xe (Zc (Zc q))),Zc (Zc (Zc q))⟩
theorem xZ{f g:V->T}:{l:List V}->l.map f=l.map g->∀a∈l,f a=g a:=by
 intro l
 induction l with
 |nil=>
  rintro _ a e;exact(Tb e).elim
 |cons x l i=>
  rintro h a e;exact(fb.mp e).elim (λq=>q▸Xd h) (i (wd h) a)
theorem yG(x:K.In W)(e:oT K a=J X):∃o,W.get? a=J o/\o.data=.func X:=by
 exact Wg e λd f g=>((pz x f).imp λo h=>⟨h.1,h.2.trans (pT g)⟩)
theorem Tx(x:K.In W){i:Nat}{p:Bb->Bool}(h:WD K X i p=Z):∃c o e q t,X.code=.ref c/\W.get? c=J o/\o.data=.fields e/\e[i]?=J (.str q t)/\p q=Z:=by
 obtain⟨c,g,h⟩:=aj h;obtain⟨e,j,h⟩:=aj h;obtain⟨q,k,h⟩:=aj h;refine Wg j λd l m=>(Wg k λv r s=>?_);obtain⟨o,u,w⟩:=pz x l;obtain⟨t,f⟩:=dI s;exact⟨c,o,e,q,t,BU g,u,w.trans (NV m),r.trans (Gc J f),h⟩
theorem Qx(x:K.In W){p:Option wa->Bool}(h:SD K c p=Z):∃v,W.IsCell c v/\p v=Z:=by
 obtain⟨v,e,h⟩:=aj h;exact Wg e λd f g=>(⟨v,(pz x f).imp λo q=>⟨q.1,q.2.trans (xS g)⟩,h⟩)
theorem pQ(x:K.In W)(e:oT K a=J X)(h:Tn K gl 435 X=Z):WF W gl a X 435:=
 have f:=Zc (Zc (Zc h));have g:=Zc f;have i:=Zc g
 ⟨Nl (Xe h),Nl (Xe (Zc h)),Nl (Xe (Zc (Zc h))),
  (aj (Xe f)).imp λj q=>⟨q.1,Nl (Xe q.2),Nl (Zc q.2)⟩,yG x e,Tx x (Xe g),Se _▸Xe i,
  (aj (Zc i)).imp λc q=>⟨q.1,by
   obtain⟨v,z,q⟩:=Qx x q.2;exact Nl q▸z⟩⟩
theorem NY(x:K.In W)(F:am K):QK W gl qT 435:=λa g h=>by
 have i:=Og (h:QM.lookup a=J g);obtain⟨X,e,j⟩:=aj (Qk (Xe (Zc (k2 F rfl))) i:OM K a=Z);obtain⟨o,k,l⟩:=yG x e;have f:N1 K a=J g:=xZ F.fns _ i;replace f:mR (zQ gl X) (if Tn K gl 435 X=Z then Py gl X else Y) J=J g:=(Gc (λo:Option te=>o.bind _) e).symm.trans f;obtain⟨c,m,p,q,t,r,s,w,A,B⟩:=Tx x (Xe j);refine⟨o,X,k,l,⟨c,m,p,t,r,s,w,eq_of_beq B▸A⟩,?_,λn c y=>(Qx x (Qk (Zc j) (Og y))).imp λu q=>q.1⟩
 induction z:zQ gl X with
 |some u=>rw[z]at f;exact .inl f|none=>
  rw[z]at f;replace f:(if Tn K gl 435 X=Z then Py gl X else Y)=J g:=f;by_cases y:Tn K gl 435 X=Z
  ·exact .inr ⟨(Dd y).symm.trans f,pQ x e y⟩
  ·exact ja ((fe y).symm.trans f)
theorem jZ(x:K.In W)(F:am K){f:Bb->Option wa}(g:W.Ns mainGlobals f):f "law"=J (.ref 481):=by
 obtain⟨s,e,h⟩:=aj (Zc (Zc (Zc (Zc (Zc (k5 F rfl))))));obtain⟨o,i,t,j,k,u,l⟩:=zu x e;obtain⟨p,w,y,m,q,z,r⟩:=g;cases ba (j.symm.trans m);cases k.symm.trans q;exact(r _).symm.trans ((l _).trans (Nl h))
end
set_option maxHeartbeats 0
theorem xE{p q:Zi}{c:List Bb}{v:Ea->Bool}{x:Type}{y:Ea->x}{z:zb->x}{N:Nat}{A:Bool}{a:Params->qb}{b:Array ER}{f:Drawn}{g j n:Nat}{m:Option wa}{T:Params->BT}{i:Life}
 (l:∀w:zb,(qdN Mt p w N).map (λs=>(s.heap,s.gens,s.drawn,s.toks))=J (a w.params,b,f,g))
 (hT:∀w:zb,absHeap (T w.params) n i=a w.params)
 (o:∀w:zb,((a w.params).isNs mainGlobals&&b.size==0,(a w.params).objs.size,(a w.params).nsMap mainGlobals "__annotations__")=(Z,j,m))
 (chk:∀w:zb,(λos=>(Do Mt p w j m N ⟨T w.params,n,i,b,f,g,os⟩ (topStub p)).map λs=>
  ((C9 (Uk p.main.body) (a w.params) s.abs.heap&&JZ p s.abs.heap&&qch s.abs&&qcr (a w.params) s.abs.heap),
   openSeen q c (Uk p.main.body) v A s.abs,y s.abs))=λu=>J (Z,openGood q c,z w)):
 LeftO p q c v y z N A:=λw=>by
 obtain⟨⟨h,u,d,k,os⟩,e,B⟩:=ef.mp (l w);obtain⟨rfl,rfl,rfl,rfl⟩:h=a w.params/\u=b/\d=f/\k=g:=by simpa using B
 obtain⟨z1,z2,C⟩:_/\_/\_:=by simpa only[oR]using o w
 obtain⟨s,D,E⟩:=ef.mp (congrFun (chk w) os);obtain⟨F,G,I⟩:_/\_/\_:=by simpa only[oR]using E
 have r:=qK D;have K:(nL.abs ⟨T w.params,n,i,u,d,k,os⟩)=⟨a w.params,u,d,k,os⟩:=by
  show Ea.mk _ _ _ _ _=_
  rw[hT w]
 rw[K]at r;have t:qfn Mt p w N ⟨a w.params,u,d,k,os⟩=J s.abs:=by
  unfold qfn
  dsimp only
  rw[z1,z2,C,r];show(match C9 (Uk p.main.body) (a w.params) s.abs.heap&&JZ p s.abs.heap&&qch s.abs&&qcr (a w.params) s.abs.heap with|true=>_|false=>_)=_
  rw[F]
 unfold openEnds;rw[e];show(qfn Mt p w N _).map _=_
 rw[t];exact Gc J (Prod.ext G I)
def qed:List Ca:=ip::cStatics::mainGlobals::sysModules::365::21::20::([256,298,357,435,255,297,356,434]++QM.flatMap λp=>[p.1,p.1 - 1])
def Nj:Hook where
 α:=Bool×List (Option Fn)
 obs:=λs=>(HN (QG qed s.heap),QM.map λp=>N1 (QG qed s.heap) p.1)
 val:=λu=>(Z,QM.map λp=>J p.2)
 says:=λu h=>∃K:Ue,K.In h/\am K
 of:=λu s e=>⟨_,MN,⟨Gc oj e,Gc UF e⟩⟩
 keeps:=λu u u ⟨K,x,f⟩ k=>⟨K,x.keeps k,f⟩
theorem qeZ:∀w:zb,(qdN Mt P0 w 6000).map (λs=>(s.heap,s.gens,s.drawn,s.toks))=J (Zl w.params,yR [],boot_drawn,boot_toks):=
 boot_open (by rfl) (by rfl) λs=>by rfl
theorem JL(w:zb):absHeap (sW w.params) 11 {}=Zl w.params:=by kernel_rfl
theorem TI(w:zb):((Zl w.params).isNs mainGlobals&&(yR ([]:List ER)).size==0,(Zl w.params).objs.size,(Zl w.params).nsMap mainGlobals "__annotations__")=(Z,11,J (.ref 6)):=by kernel_rfl
theorem qbl(w:zb):(λos=>(Du Mt P0 w 11 (J (.ref 6)) 6000 ⟨sW w.params,11,{},yR [],boot_drawn,boot_toks,os⟩ (topStub P0)).map λs=>
 ((C9 (Uk P0.main.body) (Zl w.params) s.abs.heap&&JZ P0 s.abs.heap&&qch s.abs&&qcr (Zl w.params) s.abs.heap),
  qap qv Zr (Uk P0.main.body) (λs=>xlAt qv [] s&&recOk (yD rx.toRowW) s) Z s.abs,(fW Nj) s.abs))=λu=>J (Z,openGood qv Zr,(gW Nj) w):=by kernel_rfl
theorem Y7:LeftO P0 qv Zr (λs=>xlAt qv [] s&&recOk (yD rx.toRowW) s) (fW Nj) (gW Nj) 6000:=by
 refine xE qeZ JL TI λw=>?_;have:=qbl w;simp only[<-yF,<-qam]at this;exact this
set_option maxHeartbeats 200000
section
variable {O t:Ca} {i b c n V S R:Nat} {x y zv:wa} {W Q P:Array wa}
variable {X:Zi} {w:zb} {A:Yb} {E:wa->Ea->Prop} {s:Ea}
theorem Rh{items}{a:wa->Ea->Prop}(d:s.heap.IsTupleIter O t i)
 (j:s.heap.IsTuple t items)(k:items[i]?=J x)
 (l:∀e,e.IsTupleIter O t (i+1)->ff O s.heap e->a x {s with heap:=e}):
 Qa (bb X w) A (rd (.ref O)) a E s:=by
 obtain⟨o,f,m,e⟩:=id d;obtain⟨p,g,_,q,h⟩:=j;unfold rd;refine ga (jf (name:=Hg "__next__") d.typeIs Ef
  (Kf Ef d.typeIs Qp ?_ (Yo _)))
 show Qa _ _ (qby (.ref O) 0>>=_) _ _ s
 refine ga (Af f e (x:=.ref t) rfl (U (fe (show¬((Jc t==fq)=Z)from ia)) (ga (Af f e (x:=.int i 0) rfl (ga (Jg g h ?_))))));simp only[fR,k];refine ga (Jm f e (by simp) (ta ⟨x,rfl,ta (l _ ?_ (zd ..))⟩));exact⟨_,Qc _ f (Si (Ce e _)),(Qt ..).trans m,by
  refine U (Ce e _) ?_;simp[ag]⟩
theorem eI{g:Type}{d:g->Ea->Prop}(h:A.handled=Y)
 (hE:∀f e,(∀b o,s.heap.get? b=J o->f.get? b=J o)->(∃o,f.get? e=J o/\o.cls=.type "StopIteration")->E (.ref e) {s with heap:=f}):Qa (bb X w) A (newExc (.type "StopIteration") []>>=λe=>raiseNew e) d E s:=by
 refine ga ?_;simp only[newExc,qcz];refine ga (lj ?_ (by size_fits));refine ga (m:=qbz _ _) (af (a:=fq) (by first|rfl|(simp only[qbz];rfl)) ?_);refine lj ?_ (by size_fits);refine ga (wpAny_handled (U h (ga (ta (wpAny_throw ?_)))));exact hE _ _ (λb o e=>Ba _ (Ba _ e)) ⟨_,Oa _ rfl,rfl⟩
theorem Bs{items}{a:wa->Ea->Prop}(m:A.handled=Y)
 (d:s.heap.IsTupleIter O t i)(p:s.heap.IsTuple t items)(r:items[i]?=Y)
 (hE:∀f e,i5 O s.heap f->(∃o,f.get? e=J o/\o.cls=.type "StopIteration")->E (.ref e) {s with heap:=f}):
 Qa (bb X w) A (rd (.ref O)) a E s:=by
 obtain⟨o,g,v,h⟩:=id d;obtain⟨z,j,_,B,l⟩:=p;unfold rd;refine ga (jf (name:=Hg "__next__") d.typeIs Ef
  (Kf Ef d.typeIs Qp ?_ (Yo _)))
 show Qa _ _ (qby (.ref O) 0>>=_) _ _ s
 refine ga (Af g h (x:=.ref t) rfl (U (fe (show¬((Jc t==fq)=Z)from ia)) (ga (Af g h (x:=.int i 0) rfl (ga (Jg j l ?_))))));simp only[fR,r];exact ga (Xj (ga (Jm g h (by simp) (eI m λf e k u=>hE f e (λc o n q=>k c o ((zd ..).extBut c o n q)) u))))
abbrev rR(h:qb)(T:Ca)(a b c:wa):Prop:=h.get? T=J {cls:=.type "tuple",data:=.seq #[a,b,c]}
theorem Yk{T:Ca}{a b c:wa}{k:Nat}{d:Unit->Ea->Prop}(hT:rR s.heap T a b c)
 (h:∀e,e.get? T=J {cls:=.type "tuple",data:=.seq ((#[a,b,c]:Array wa).setIfInBounds k x)}->ff T s.heap e->d () {s with heap:=e}):
 Qa (bb X w) A (updateSeq T λy=>y.setIfInBounds k x) d E s:=by
 refine Vp hT rfl (h _ ?_ (zd ..));refine U (Qc _ hT rfl) ?_;simp[Yi]
structure wn(h:qb)(b V S R:Nat)(f0:wa)(W Q P:Array wa)(i1 i2 i3:Nat):Prop where
 z:FD h (b+5) (b+3) (b+4) f0
 ti:rR h (b+3) (.ref b) (.ref (b+1)) (.ref (b+2))
 to_:∃u v x,rR h (b+4) u v x
 a1:h.IsTupleIter b V i1
 a2:h.IsTupleIter (b+1) S i2
 a3:h.IsTupleIter (b+2) R i3
 l1:h.IsTuple V W
 l2:h.IsTuple S Q
 l3:h.IsTuple R P
 d1:V<b
 d2:S<b
 d3:R<b
theorem ij{a:Nat}(h:a≠b):(show Ca from a)≠(show Ca from b):=h
def Tm(b a:Nat):Prop:=a=b\/a=b+1\/a=b+2\/a=b+4\/a=b+5
theorem an{m:Nat}(h:Ub m n=ua):b+m≠b+n:=λe=>Gg h (Nat.add_left_cancel e)
theorem qeY:¬Tm b (b+3):=λh=>by unfold Tm at h;lia
theorem qcA{t:Nat}(d:t<b):¬Tm b t:=λh=>by unfold Tm at h;lia
theorem UW:b≠b+(n+1):=ic (Yd (kh _))
theorem J4:b+(n+1)≠b:=qi (Yd (kh _))
theorem jO{t:Nat}(h:t<b):t≠b+n:=ic (rb h (Nc _ _))
theorem z0(n:¬Tm b c):c≠b:=λh=>n (.inl h)
theorem z1(n:¬Tm b c):c≠b+1:=λh=>n (.inr (.inl h))
theorem z2(n:¬Tm b c):c≠b+2:=λh=>n (.inr (.inr (.inl h)))
theorem z4(n:¬Tm b c):c≠b+4:=λh=>n (.inr (.inr (.inr (.inl h))))
theorem z5(n:¬Tm b c):c≠b+5:=λh=>n (.inr (.inr (.inr (.inr h))))
theorem xK{f0:wa}{a:wa->Ea->Prop}(d:wn s.heap b V S R .none W Q P i i i)(hx:W[i]?=J x)(hy:Q[i]?=J y)(hz:P[i]?=J zv)
 (hQ:∀e,wn e b V S R (ag s.heap.objs.size) W Q P (i+1) (i+1) (i+1)->rR e s.heap.objs.size x y zv->(∀(c:Nat) o,¬Tm b c->s.heap.get? c=J o->e.get? c=J o)->a (.ref s.heap.objs.size) {s with heap:=e}):
 Qa (bb X w) A (Yj.«zip.__next__» ⟨[.ref (b+5)],[]⟩) (λe f=>∃v,e=.done (.ret v)/\a v f) E s:=by
 obtain⟨u,v,t,x1⟩:=d.to_;show Qa _ _ (qby (.ref (b+5)) 2>>=_) _ _ _
 refine ga (Af d.z rfl (x:=.bool ua) rfl ?_);show Qa _ _ (qby (.ref (b+5)) 3>>=_) _ _ _
 refine ga (Af d.z rfl (x:=.ref (b+3)) rfl (ga (Jg d.ti rfl ?_)));show Qa _ _ (zg (.ref (b+5))>>=_) _ _ _
 refine ga ?_;unfold zg;refine ga (Af d.z rfl (x:=.none) rfl (ta (U (Dd rfl) (ga (Xj (ga (Af d.z rfl (x:=.ref (b+4)) rfl ?_)))))));refine ga (Ei d.z (by simp) λg1 x2 f=>?_);show Qa _ _ _ _ _ {s with heap:=g1}
 refine ga ?_;simp only[List.zipIdx_cons,List.zipIdx_nil,tn,Bx];refine ga (ga (Zh ?_));show Qa _ _ (rd (.ref b)>>=_) _ _ _
 refine ga (Rh (d.a1.extBut f.extBut (ij UW)) (d.l1.extBut f.extBut (ij (jO d.d1))) hx λg2 q2 g=>have F:rR g2 (b+4) u v t:=g.extBut _ _ (ij J4) (f.extBut _ _ (ij (an rfl)) x1);ta ?_);show Qa _ _ _ _ _ {s with heap:=g2}
 refine ga (Jg F rfl (ga (Yk F λg3 x3 h=>?_)));show Qa _ _ _ _ _ {s with heap:=g3}
 refine ga (RV (ta ?_));refine ga (ga (Zh ?_));show Qa _ _ (rd (.ref (b+1))>>=_) _ _ _
 refine ga (Rh (((d.a2.extBut f.extBut (ij (an rfl))).extBut g.extBut (ij J4)).extBut h.extBut (ij (an rfl))) (((d.l2.extBut f.extBut (ij (jO d.d2))).extBut g.extBut (ij (ic d.d2))).extBut h.extBut (ij (jO d.d2))) hy λg4 q4 j=>have G:rR g4 (b+4) x v t:=j.extBut _ _ (ij (an rfl)) x3;ta ?_);show Qa _ _ _ _ _ {s with heap:=g4}
 refine ga (Jg G rfl (ga (Yk G λg5 x4 k=>?_)));show Qa _ _ _ _ _ {s with heap:=g5}
 refine ga (RV (ta ?_));refine ga (ga (Zh ?_));show Qa _ _ (rd (.ref (b+2))>>=_) _ _ _
 refine ga (Rh (((((d.a3.extBut f.extBut (ij (an rfl))).extBut g.extBut (ij J4)).extBut h.extBut (ij (an rfl))).extBut j.extBut (ij (an rfl))).extBut k.extBut (ij (an rfl))) (((((d.l3.extBut f.extBut (ij (jO d.d3))).extBut g.extBut (ij (ic d.d3))).extBut h.extBut (ij (jO d.d3))).extBut j.extBut (ij (jO d.d3))).extBut k.extBut (ij (jO d.d3))) hz λg6 q6 m=>have I:rR g6 (b+4) x y t:=m.extBut _ _ (ij (an rfl)) x4;ta ?_);show Qa _ _ _ _ _ {s with heap:=g6}
 refine ga (Jg I rfl (ga (Yk I λr K p=>?_)));have D:FD r (b+5) (b+3) (b+4) .ellipsis:=p.extBut _ _ (ij (an rfl)) (m.extBut _ _ (ij (an rfl)) (k.extBut _ _ (ij (an rfl)) (j.extBut _ _ (ij (an rfl)) (h.extBut _ _ (ij (an rfl)) (g.extBut _ _ (ij J4) x2)))));show Qa _ _ _ _ _ {s with heap:=r}
 refine ga (RV (ta (ta (ga (Jg (show rR r (b+4) x y zv from K) rfl (ga (qde ?_)))))));show Qa _ _ (fk (.ref (b+5)) (.ref r.objs.size)>>=_) _ _ _
 refine ga ?_;unfold fk;refine ga (Ei (Ba _ D:FD (r.push {cls:=.type "tuple",data:=.seq #[x,y,zv]}) (b+5) (b+3) (b+4) .ellipsis) (by simp) λg9 x5 L=>?_);show Qa _ _ _ _ _ {s with heap:=g9}
 refine Ei (x5:FD g9 (b+5) (b+3) (b+4) (ag r.objs.size)) (by simp) λz l C=>ta ⟨_,rfl,?_⟩;have N:r.objs.size=s.heap.objs.size:=by exact U p.1 (U m.1 (U k.1 (U j.1 (U h.1 (U g.1 (U f.1 rfl))))))
 have B:∀(c:Nat) o,c≠b+5->r.get? c=J o->z.get? c=J o:=λc o c1 e=>C.extBut _ _ c1 (L.extBut _ _ c1 (Ba _ e));have T:∀(c:Nat) o,¬Tm b c->s.heap.get? c=J o->r.get? c=J o:=λc o n e=>p.extBut _ _ (z4 n) (m.extBut _ _ (z2 n) (k.extBut _ _ (z4 n) (j.extBut _ _ (z1 n) (h.extBut _ _ (z4 n) (g.extBut _ _ (z0 n) (f.extBut _ _ (z5 n) e))))));have hT:rR z r.objs.size x y zv:=C.extBut _ _ (qi (qc D)) (L.extBut _ _ (qi (qc D)) (Oa _ rfl));show a (.ref r.objs.size) {s with heap:=z}
 replace l:FD z (b+5) (b+3) (b+4) (ag r.objs.size):=l;rw[N]at l hT;refine U N ?_;refine hQ z ⟨l,B _ _ (ij (an rfl)) (T _ _ qeY d.ti),⟨_,_,_,B _ _ (ij (an rfl)) K⟩,?_,?_,?_,?_,?_,?_,d.d1,d.d2,d.d3⟩ hT λc o n e=>B c o (z5 n) (T c o n e)
 ·exact(((((q2.extBut h.extBut (ij UW)).extBut j.extBut (ij UW)).extBut k.extBut (ij UW)).extBut m.extBut (ij UW)).extBut p.extBut (ij UW)).imp λo q=>⟨B _ _ (ij UW) q.1,q.2⟩
 ·exact(((q4.extBut k.extBut (ij (an rfl))).extBut m.extBut (ij (an rfl))).extBut p.extBut (ij (an rfl))).imp λo q=>⟨B _ _ (ij (an rfl)) q.1,q.2⟩
 ·exact(q6.extBut p.extBut (ij (an rfl))).imp λo q=>⟨B _ _ (ij (an rfl)) q.1,q.2⟩
 ·exact d.l1.imp λo q=>⟨B _ _ (ij (jO d.d1)) (T _ _ (qcA d.d1) q.1),q.2⟩
 ·exact d.l2.imp λo q=>⟨B _ _ (ij (jO d.d2)) (T _ _ (qcA d.d2) q.1),q.2⟩
 ·exact d.l3.imp λo q=>⟨B _ _ (ij (jO d.d3)) (T _ _ (qcA d.d3) q.1),q.2⟩
theorem ZQ{a:Fin->Ea->Prop}(p:A.handled=Y)(d:wn s.heap b V S R .none W Q P i i i)(r:W[i]?=Y)
 (hE:∀f e,(∀(c:Nat) o,c≠b->c≠b+5->s.heap.get? c=J o->f.get? c=J o)->(∃o,f.get? e=J o/\o.cls=.type "StopIteration")->E (.ref e) {s with heap:=f}):
 Qa (bb X w) A (Yj.«zip.__next__» ⟨[.ref (b+5)],[]⟩) a E s:=by
 show Qa _ _ (qby (.ref (b+5)) 2>>=_) _ _ _
 refine ga (Af d.z rfl (x:=.bool ua) rfl (ga (Af d.z rfl (x:=.ref (b+3)) rfl (ga (Jg d.ti rfl (ga ?_))))));unfold zg;refine ga (Af d.z rfl (x:=.none) rfl (ta (U (Dd rfl) (ga (Xj (ga (Af d.z rfl (x:=.ref (b+4)) rfl ?_)))))));refine ga (Ei d.z (by simp) λC h f=>(ga ?_));show Qa _ _ (_>>=_) _ _ _
 refine ga (ga (Zh (ga (Bs p (d.a1.extBut f.extBut (ij UW)) (d.l1.extBut f.extBut (ij (jO d.d1))) r λv e g z=>(Ei (g _ _ (ij J4) h:FD v (b+5) (b+3) (b+4) .ellipsis) (by simp) λB u j=>hE B e (λc o n m x=>j.extBut _ _ m (g _ _ n (f.extBut _ _ m x))) (z.imp λm q=>⟨j.extBut _ _ (λx=>?_) q.1,q.2⟩))))));have k:=q.1;rw[x,g _ _ (ij J4) h]at k;have l:=q.2;rw[<-ba k]at l;exact zc (qdp l) (by decide)
theorem sC{a:Option wa->Ea->Prop}(d:wn s.heap b V S R .none W Q P i i i)(f:W[i]?=J x)(g:Q[i]?=J y)(h:P[i]?=J zv)
 (j:∀e,wn e b V S R (ag s.heap.objs.size) W Q P (i+1) (i+1) (i+1)->rR e s.heap.objs.size x y zv->(∀(c:Nat) o,¬Tm b c->s.heap.get? c=J o->e.get? c=J o)->a (J (.ref s.heap.objs.size)) {s with heap:=e}):
 Qa (bb X w) A (Dp (.ref (b+5))) a E s:=by
 have hT:s.TypeIs (.ref (b+5)) "zip":=⟨_,d.z,rfl⟩;unfold Dp;exact ga (Fu (jf (name:=Hg "__next__") hT fi
  (Kf fi hT az
   (xK (f0:=.none) d f g h λe k l m=>ta (j e k l m)) (Fx _))))
theorem bu{a:Option wa->Ea->Prop}(g:A.handled=Y)(d:wn s.heap b V S R .none W Q P i i i)(h:W[i]?=Y)
 (j:∀f,(∀(c:Nat) o,c≠b->c≠b+5->s.heap.get? c=J o->f.get? c=J o)->a Y {s with heap:=f}):Qa (bb X w) A (Dp (.ref (b+5))) a E s:=by
 have hT:s.TypeIs (.ref (b+5)) "zip":=⟨_,d.z,rfl⟩;unfold Dp;refine ga (Fu (jf (name:=Hg "__next__") hT fi
  (Kf fi hT az (ZQ g d h λf e k l=>?_) (Fx _))))
 obtain⟨o,m,p⟩:=l;exact ga (Mo (T:="StopIteration") (b:=Z) ⟨o,m,p⟩ qcp (ta (j _ k)))
end
theorem Rw(a b c:wa):checkTypeCall "zip" ⟨[a,b,c],[]⟩=pure ():=by kernel_rfl
theorem jx(a b c:wa):F6 "zip.__new__" ⟨[.type "zip",a,b,c],[]⟩=pure ():=by kernel_rfl
theorem bp(a b c d:wa):vL "object.__init__" ⟨[a,b,c,d],[]⟩:=by
 unfold vL;refine U (bK (id:="object.__init__") (n:=['_','_','t','i','n','i','_','_']) (o:=['t','c','e','j','b','o']) (by kernel_rfl) PySem.F.owner_object) ?_;kernel_rfl
noncomputable abbrev T4(l:Ca):wD:={cls:=.type "tuple_iterator",data:=.fields #[.ref l,.int 0 0]}
abbrev W2(h:qb)(a:Ca):qb:=h.push (T4 a)
abbrev X2(h:qb)(a b:Ca):qb:=(W2 h a).push (T4 b)
abbrev j3(h:qb)(a b c:Ca):qb:=(X2 h a b).push (T4 c)
abbrev w3(h:qb)(a b c:Ca):qb:=(j3 h a b c).push {cls:=.type "tuple",data:=.seq #[.ref h.objs.size,.ref (W2 h a).objs.size,.ref (X2 h a b).objs.size]}
abbrev A3(h:qb)(a b c:Ca):qb:=(w3 h a b c).push {cls:=.type "tuple",data:=.seq #[.none,.none,.none]}
abbrev qaU(h:qb)(a b c:Ca):qb:=(A3 h a b c).push {cls:=.type "zip",data:=.fields #[.none,.bool ua,.bool ua,.ref (j3 h a b c).objs.size,.ref (w3 h a b c).objs.size]}
set_option maxHeartbeats 4000000 in
theorem FE(a b c:Ca)(p q r:Array wa):
 Meets (Yj.«zip.__new__» ⟨[.type "zip",.ref a,.ref b,.ref c],[]⟩) (λu R s=>s.heap.IsTuple a p/\s.heap.IsTuple b q/\s.heap.IsTuple c r/\
  R (.ok (.ret (.ref (A3 s.heap a b c).objs.size))) {s with heap:=qaU s.heap a b c}):=
 .of_wp λX w A R s h=>by
  obtain⟨f,g,d,i,os⟩:=s;obtain⟨j,k,l,h⟩:=h;have e:=sub_zip;have m:sD (zD ⟨f,g,d,i,os⟩) a p:=j;have n:sD (zD ⟨f.push {cls:=.type "tuple_iterator",data:=.fields #[.ref a,.int 0 0]},g,d,i,os⟩) b q:=bo k _;have o:sD (zD ⟨(f.push {cls:=.type "tuple_iterator",data:=.fields #[.ref a,.int 0 0]}).push {cls:=.type "tuple_iterator",data:=.fields #[.ref b,.int 0 0]},g,d,i,os⟩) c r:=bo (bo l _) _
  wp_delta
  refine ga ?_
  wp_delta
  refine ga ?_
  wp_delta
  refine ta (Jb rfl (ga (af e (Jb rfl (ta (Jb rfl (ga ?_)))))))
  wp_delta
  refine ga ?_
  wp_delta
  wp_delta
  wp_delta
  wp_delta
  refine ga (ga (Kb (Di m (ta ?_))))
  wp_delta
  wp_delta
  refine ga (ga (Kb (Di n (ta ?_))))
  wp_delta
  wp_delta
  refine ga (ga (Kb (Di o (ta ?_))))
  wp_delta
  wp_delta
  refine ta (ta (ga ?_))
  wp_delta
  wp_delta
  refine Jb rfl ?_
  wp_delta
  wp_delta
  refine ga (XQ (ta (ga ?_)))
  wp_delta
  wp_delta
  refine Jb rfl ?_
  wp_delta
  wp_delta
  refine ga (XQ (ta (ga ?_)))
  wp_delta
  wp_delta
  refine Jb rfl ?_
  wp_delta
  wp_delta
  refine ga (XQ (ta ?_))
  wp_delta
  refine ta ?_;exact⟨_,rfl,h⟩
section
variable {X:Zi} {w:zb} {A:Yb} {E:wa->Ea->Prop} {s:Ea}
theorem YI{a b d:Ca}{m n p:Array wa}{Q:wa->Ea->Prop}(f:s.heap.IsTuple a m)(g:s.heap.IsTuple b n)(i:s.heap.IsTuple d p)
 (h:∀e,wn e s.heap.objs.size a b d .none m n p 0 0 0->(∀c o,s.heap.get? c=J o->e.get? c=J o)->Q (.ref (s.heap.objs.size+5)) {s with heap:=e}):
 Qa (bb X w) A (call (.type "zip") [.ref a,.ref b,.ref d]) Q E s:=by
 refine qeI PySem.F.called_zip (by decide) (Rw _ _ _) (jx _ _ _) (λe=>bp e _ _ _) PySem.F.entry_zip_new
  (FE a b d m n p) ⟨f,g,i,?_⟩
 have z1:(W2 s.heap a).objs.size=s.heap.objs.size+1:=ie ..;have z2:(X2 s.heap a b).objs.size=s.heap.objs.size+2:=by exact U (ie _ _) (U z1 rfl)
 have q:(j3 s.heap a b d).objs.size=s.heap.objs.size+3:=by exact U (ie _ _) (U z2 rfl)
 have z4:(w3 s.heap a b d).objs.size=s.heap.objs.size+4:=by exact U (ie _ _) (U q rfl)
 have z5:(A3 s.heap a b d).objs.size=s.heap.objs.size+5:=by exact U (ie _ _) (U z4 rfl)
 have k1:∀c o,s.heap.get? c=J o->(W2 s.heap a).get? c=J o:=λc o e=>Ba _ e;have k2:∀c o,(W2 s.heap a).get? c=J o->(X2 s.heap a b).get? c=J o:=λc o e=>Ba _ e;have u:∀c o,(X2 s.heap a b).get? c=J o->(j3 s.heap a b d).get? c=J o:=λc o e=>Ba _ e;have k:∀c o,(j3 s.heap a b d).get? c=J o->(w3 s.heap a b d).get? c=J o:=λc o e=>Ba _ e;have k5:∀c o,(w3 s.heap a b d).get? c=J o->(A3 s.heap a b d).get? c=J o:=λc o e=>Ba _ e;have j:∀c o,(A3 s.heap a b d).get? c=J o->(qaU s.heap a b d).get? c=J o:=λc o e=>Ba _ e;have F:(W2 s.heap a).get? s.heap.objs.size=J (T4 a):=Oa _ rfl;have G:(X2 s.heap a b).get? (W2 s.heap a).objs.size=J (T4 b):=Oa _ rfl;have I:(j3 s.heap a b d).get? (X2 s.heap a b).objs.size=J (T4 d):=Oa _ rfl;have K:(w3 s.heap a b d).get? (j3 s.heap a b d).objs.size=J _:=Oa _ rfl;have L:(A3 s.heap a b d).get? (w3 s.heap a b d).objs.size=J _:=Oa _ rfl;have v:(qaU s.heap a b d).get? (A3 s.heap a b d).objs.size=J _:=Oa _ rfl;have N:=j _ _ (k5 _ _ (k _ _ (u _ _ (k2 _ _ F))));have z:=j _ _ (k5 _ _ (k _ _ (u _ _ G)));have B:=j _ _ (k5 _ _ (k _ _ I));have C:=j _ _ (k5 _ _ K);have D:=j _ _ L;rw[z1]at z;rw[z2]at B;rw[q,z1,z2]at C;rw[z4]at D;rw[z5,q,z4]at v;have l:∀c o,s.heap.get? c=J o->(qaU s.heap a b d).get? c=J o:=λc o e=>j _ _ (k5 _ _ (k _ _ (u _ _ (k2 _ _ (k1 _ _ e)))));refine U z5 ?_;have y:∀{t:Ca}{vs},s.heap.IsTuple t vs->t<s.heap.objs.size:=λx=>by obtain⟨o,e,_⟩:=x;exact qc e
 refine⟨⟨_,v,rfl⟩,h _ ⟨v,C,⟨_,_,_,D⟩,⟨_,N,rfl,rfl⟩,⟨_,z,rfl,rfl⟩,⟨_,B,rfl,rfl⟩,?_,?_,?_,y f,y g,y i⟩ l⟩
 ·obtain⟨o,e,r⟩:=f;exact⟨o,l _ _ e,r⟩
 ·obtain⟨o,e,r⟩:=g;exact⟨o,l _ _ e,r⟩
 ·obtain⟨o,e,r⟩:=i;exact⟨o,l _ _ e,r⟩
end
section
variable {w:zb} {N h W:qb} {X Q:List Ca} [I:Av] {P':Ca->Prop} {E:St}
abbrev cz(P P':Ca->Prop)(h W:qb):Prop:=∀a o,h.get? a=J o->Jh o->(∀c n,o=gu c n->¬P a)->W.get? a=J o/\(∀c n,o=gu c n->¬P' a)
theorem VR.tr(y:X<+:Q)(o:cz I.av P' h W){x:V}{v:wa}(q:VR w X h x v): @VR ⟨P'⟩ w Q W x v:=
 VR.rec (motive_1:=λx v c=> @VR ⟨P'⟩ w Q W x v) (motive_2:=λe a c=> @ue ⟨P'⟩ w Q W e a) (@VR.none ⟨P'⟩ _ _ _) (λb=> @VR.bool ⟨P'⟩ _ _ _ b) (λi t=> @VR.int ⟨P'⟩ _ _ _ i t) (λx t=> @VR.str ⟨P'⟩ _ _ _ x t) (λe=> @VR.ref ⟨P'⟩ _ _ _ _ _ (Dm y e)) (λv=> @VR.k ⟨P'⟩ _ _ _ v)
  (λe=> @VR.rng ⟨P'⟩ _ _ _ _ _ _ _ _ _ (o _ _ e rfl λa n q=>zc (Gc qfs q) (by simp)).1) (λf i k e=> @VR.iset ⟨P'⟩ _ _ _ _ _ _ _ _ f i k (rD e λt x=>⟨t,(o _ _ x trivial λa n q=>zc (Gc qfs q) (by simp)).1⟩))
  (λa e f c k=> @VR.t ⟨P'⟩ _ _ _ _ _ _ _ ((o _ _ e rfl λc c c=>a).2 _ _ rfl) (o _ _ e rfl λc c c=>a).1 f k) (@ue.nil ⟨P'⟩ _ _ _) (λc c a k=> @ue.cons ⟨P'⟩ _ _ _ _ _ _ _ a k) q
theorem ue.tr(i:X<+:Q)(k:cz I.av P' h W){e:List V}{f:List wa}(q:ue w X h e f): @ue ⟨P'⟩ w Q W e f:=
 q.ind (P:=λe f=> @ue ⟨P'⟩ w Q W e f) (@ue.nil ⟨P'⟩ _ _ _) λc c c c a c o=> @ue.cons ⟨P'⟩ _ _ _ _ _ _ _ (VR.tr i k a) o
theorem SE.tr(k:X<+:Q)(o:cz I.av P' h W){i:List (Bb×V)}{f:List Cf}(c:SE w X h i f): @SE ⟨P'⟩ w Q W i f:=by
 induction c with
 |nil=>exact @SE.nil ⟨P'⟩ _ _ _|cons a e q=>exact @SE.cons ⟨P'⟩ _ _ _ _ _ _ _ _ _ (a.tr k o) q
theorem OR.tr(v:X<+:Q)(z:cz I.av P' h W){o:O}{a:Ca}(y:∀x,h.get? a=J x->W.get? a=J x)(f:OR w X h o a): @OR ⟨P'⟩ w Q W o a:=by
 induction o with
 |list k=>obtain⟨c,n,e,i,q⟩:=f;exact⟨c,n,y _ e,i,q.tr v z⟩|idict x=>obtain⟨o,c,e,t,k,q,i⟩:=f;exact⟨o,c,y _ e,t,k,q.tr v z,i⟩|h x=>obtain⟨c,n,e,q,t,i⟩:=f;exact⟨c,n,y _ e,q.tr v z,t,i⟩|inst c t=>obtain⟨i,e,q⟩:=f;exact⟨i,Dm v e,y _ q⟩
theorem R.tr(c:R w N X E h)(q:cz I.av P' h W)(t:∀a∈X,∀o,h.get? a=J o->W.get? a=J o)(f:∀a o,N.get? a=J o->W.get? a=J o)(v:∀a,P' a->∃o,W.get? a=J o/\Jh o): @R ⟨P'⟩ w N X E W:=
 @R.mk ⟨P'⟩ w N X E W c.len c.nodup c.fresh v f λi o a y k=>(c.obj i o a y k).tr (Ja _) q λx e=>t a (Ma k) x e
theorem Lc.tr{S:zj}{eo:Ca->Prop}{sl:List Bb}{lo:Nat}{D:Me}(f:Lc w N S eo sl lo D X h)(K:cz I.av P' h W)(O:∀o,h.get? S.locals=J o->W.get? S.locals=J o)(B:∀c v,h.IsCell c v->W.IsCell c v)(P:∀a,eo a->(W.get? a).isSome=Z): @Lc ⟨P'⟩ w N S eo sl lo D X W:=by
 refine aa λy=>?_;obtain⟨t,R,T⟩:=f.ns;refine y ?_;refine @Lc.mk ⟨P'⟩ w N S eo sl lo D X W f.kind f.globals f.builtins f.len ⟨t,?_,λx i v a b c=>?_⟩ (λx i v a b c=>?_) f.loc (λx k a b=>?_) f.apart (λx i a b=>?_) f.eoh P
 ·refine aa λy=>?_
  obtain⟨o,z,G,e,q⟩:=R;exact y (⟨o,z,G,O _ e,q⟩)
 ·refine aa λy=>?_
  obtain⟨e,o,z⟩:=T x i v a b c;exact y (⟨e,o,z.tr (Ja _) K⟩)
 ·refine aa λy=>?_
  obtain⟨c,e,o,z,G⟩:=f.cells x i v a b c;exact y (⟨c,e,o,B _ _ z,G.tr (Ja _) K⟩)
 ·obtain⟨c,v,o,z⟩:=f.has x k a b
  exact⟨c,v,o,B _ _ z⟩
 ·rcases f.own x i a b with q|⟨q,c,v,o,z,G⟩
  ·exact .inl q
  ·exact .inr ⟨q,c,v,o,B _ _ z,G⟩
end
section
variable {w:zb} {N:qb} {A:Yb} {S:zj} {eo:Ca->Prop} {sl:List Bb} {D L:Me} {n:Nat} {X ρ1:List Ca} {E F:St} {s:Ea} {u:Fl} {r:Sc} {b p m C:Nat} {l j g:Array wa} {d:wa} {i1 i2 i3:Nat} {h W:qb}
theorem Wr{h:qb}{a t:Ca}{i:Nat}(x:h.IsTupleIter a t i):∃o,h.get? a=J o/\¬Jh o/\(∀v,o.data≠ .cell v):=by
 refine aa λk=>?_;obtain⟨o,e,c,f⟩:=x;exact k (⟨o,e,by simp[Jh,f,c],λv z=>by rw[f]at z;cases z⟩)
theorem wn.data(f:wn h b p m C d l j g i1 i2 i3){a:Nat}(q:Tm b a):∃o,h.get? a=J o/\(a≠b+4->¬Jh o)/\(∀v,o.data≠ .cell v)/\(a=b+4->∃c k,o=gu c k):=by
 rcases q with rfl|rfl|rfl|rfl|rfl
 ·obtain⟨o,e,c,i⟩:=Wr f.a1;exact⟨o,e,λy=>c,i,λz=>zc z (by exact ic (Yd (kh _)))⟩
 ·obtain⟨o,e,c,i⟩:=Wr f.a2;exact⟨o,e,λy=>c,i,λz=>zc z (by exact an rfl)⟩
 ·obtain⟨o,e,c,i⟩:=Wr f.a3;exact⟨o,e,λy=>c,i,λz=>zc z (by exact an rfl)⟩
 ·obtain⟨i,v,x,e⟩:=f.to_;exact⟨_,e,λz=>zc rfl z,(λv z=>nomatch z),λy=>⟨[i,v,x],0,rfl⟩⟩
 ·exact⟨_,f.z,λy=>by simp[Jh],(λv z=>nomatch z),λz=>zc z (by exact Ku _)⟩
structure Nu(I:Av)(N:qb)(eo:Ca->Prop)(X:List Ca)(b:Nat):Prop where
 wK:∀a,Tm b a->N.get? a=Y
 eo:∀a,Tm b a->¬eo a
 av:I.av (b+4)
 out:∀a,Tm b a->a∉X
variable [I:Av]
theorem jr(f:wn h b p m C d l j g i1 i2 i3)(i:I.av (b+4))(v:∀(c:Nat) o,¬Tm b c->h.get? c=J o->W.get? c=J o):cz I.av I.av h W:=λa o e x c=>by
 have y:¬Tm b a:=λq=>by
  obtain⟨O,t,B,_,G⟩:=f.data q;rw[e]at t;obtain rfl:=ba t;by_cases z:a=b+4
  ·obtain⟨K,k,rfl⟩:=G z
   exact c K k rfl (z▸i)
  ·exact B z x
 exact⟨v a o y e,c⟩
theorem JX(f:R w N X E h)(i:Nu I N eo X b)(k:wn h b p m C d l j g i1 i2 i3)(t:∀(c:Nat) o,¬Tm b c->h.get? c=J o->W.get? c=J o)(hT:∃o,W.get? (b+4)=J o/\Jh o):R w N X E W:=by
 refine f.tr (P':=I.av) (jr k i.av t) (λa c o e=>t a o (λq=>i.out a q c) e) (λa o e=>t a o (λq=>by rw[i.wK a q]at e;exact ja e) (f.wK a o e)) λa c=>?_;obtain⟨o,e,v⟩:=f.avl a c;by_cases q:Tm b a
 ·refine aa λy=>?_
  obtain⟨G,x,B,_,K⟩:=k.data q;refine y ?_;rw[e]at x;obtain rfl:=ba x;by_cases z:a=b+4
  ·exact U z hT
  ·exact zc v (B z)
 ·exact⟨o,t a o q e,v⟩
theorem IX{sl:List Bb}{lo:Nat}(f:Lc w N S eo sl lo D X h)(i:Nu I N eo X b)(k:wn h b p m C d l j g i1 i2 i3)(y:∀(c:Nat) o,¬Tm b c->h.get? c=J o->W.get? c=J o):Lc w N S eo sl lo D X W:=by
 refine f.tr (P':=I.av) (jr k i.av y) (λo e=>y _ o (λq=>i.eo _ q f.loc.2.2) e) (λc v x=>?_) λa z=>?_
 ·obtain⟨o,e,t⟩:=x
  refine⟨o,y c o (λq=>?_) e,t⟩;obtain⟨G,B,_,n,_⟩:=k.data q;rw[e]at B;obtain rfl:=ba B;exact n v t
 ·obtain⟨o,e⟩:=Na.mp (f.eol a z)
  refine U (y a o (λq=>i.eo a q z) e) ?_;rfl
theorem wn.tri(a:wn h b p m C d l j g i1 i2 i3):∃o,h.get? (b+4)=J o/\Jh o:=by
 refine aa λf=>?_;obtain⟨c,v,x,e⟩:=a.to_;exact f (⟨_,e,rfl⟩)
theorem wn.keep(f:wn h b p m C d l j g i1 i2 i3)(y:∀(c:Nat) o,Tm b c->h.get? c=J o->W.get? c=J o)(q:∀a o,h.get? a=J o->Jh o->W.get? a=J o):wn W b p m C d l j g i1 i2 i3:=by
 have a:∀{t:Ca}{vs},h.IsTuple t vs->W.IsTuple t vs:=λz=>by obtain⟨o,e,c,k,i⟩:=z;exact⟨o,q _ o e (by simp[Jh,c,i]),c,k,i⟩
 refine⟨y _ _ (by unfold Tm;lia) f.z,q _ _ f.ti rfl,?_,?_,?_,?_,a f.l1,a f.l2,a f.l3,f.d1,f.d2,f.d3⟩
 ·obtain⟨i,v,x,e⟩:=f.to_;exact⟨i,v,x,q _ _ e rfl⟩
 ·obtain⟨o,e,i⟩:=f.a1;exact⟨o,y _ _ (by unfold Tm;lia) e,i⟩
 ·obtain⟨o,e,i⟩:=f.a2;exact⟨o,y _ _ (by unfold Tm;lia) e,i⟩
 ·obtain⟨o,e,i⟩:=f.a3;exact⟨o,y _ _ (by unfold Tm;lia) e,i⟩
noncomputable def tA(c e f:List V):List V:=(c.zip (e.zip f)).map λa=>V.t [a.1,a.2.1,a.2.2]
inductive I5(xs ys zs:List V)(i:Nat)(v:V):Prop
 |mk (x y z:V):xs[i]?=J x->ys[i]?=J y->zs[i]?=J z->v=V.t [x,y,z]->I5 xs ys zs i v
theorem aR{e f k:List V}{i:Nat}{v:V}(h:(tA e f k)[i]?=J v):I5 e f k i v:=by
 unfold tA at h;rw[Ec]at h;refine qe h λc o q=>?_;have a:=bl.mp o;have b:=bl.mp a.2;exact⟨c.1,c.2.1,c.2.2,a.1,b.1,b.2,q.symm⟩
theorem yK{a c e:List V}(f:a.length=c.length)(k:c.length=e.length){i:Nat}(h:(tA a c e)[i]?=Y):a[i]?=Y:=by
 rw[fh]at h|-;simp only[tA,ya,List.length_zip]at h
 lia
theorem yJ{f:Expr}{T:Nat}{a:U3}{c:wa->Ea->Prop}{e:Unit->Ea->Prop}(i:wk f=Z)(k:FD s.heap (b+5) (b+3) (b+4) (ag T))(o:a=bb pg w)
 (q:∀W,FD W (b+5) (b+3) (b+4) .none->ff (b+5) s.heap W->e () {s with heap:=W}):Qa a A (Sp f (.ref (b+5)) (.ref T)) e c s:=by
 subst o;refine aa λt=>?_;obtain⟨_,_,_,rfl⟩:=Vr i;exact t (wpAny_letOwnedTupleGo_zip k q)
structure Kz(eo:Ca->Prop)(b:Nat)(X:List Ca)(h W:qb)(Q:List Ca):Prop where
 pre:X<+:Q
 fresh:∀a∈Q,a∈X\/h.get? a=Y
 keep:∀(a:Nat) o,h.get? a=J o->a∉X->¬eo a->¬Tm b a->W.get? a=J o
 imm:∀(a:Nat) o,h.get? a=J o->Jh o->¬Tm b a->W.get? a=J o
theorem Kz.trans{ρ2:List Ca}{h2:qb}(x:Kz eo b X h W ρ1)(live:∀a o,h.get? a=J o->(W.get? a).isSome=Z)(y:Kz eo b ρ1 W h2 ρ2):Kz eo b X h h2 ρ2 where
 pre:=x.pre.trans y.pre
 fresh a ha:=(y.fresh a ha).elim (x.fresh a) λq=>.inr (by
  induction e:h.get? a with
  |none=>rfl|some o=>have:=live a o e;rw[q]at this;exact zc this ia)
 keep a o e n1 n2 n3:=y.keep a o (x.keep a o e n1 n2 n3) (λq=>(x.fresh a q).elim n1 λq=>by rw[q]at e;exact ja e) n2 n3
 imm a o e i n:=y.imm a o (x.imm a o e i n) i n
inductive YK(w:zb)(N:qb)(S:zj)(eo:Ca->Prop)(r:Sc)(b:Nat) [av:Av](X:List Ca)(s:Ea)(u:Fl)(L:Me)(F:St)(q:Cr)(s':Ea):Prop
 |mk (f:OK) (Q:List Ca):q=.ok f->Bh s s'->Kz eo b X s.heap s'.heap Q->R w N Q F s'.heap->Lc w N S eo r.sl 0 L Q s'.heap->Q3 w Q s'.heap u f->YK w N S eo r b X s u L F q s'
theorem wn.off{T:Nat}(f:wn h b p m C (ag T) l j g i1 i2 i3)(z2:FD W (b+5) (b+3) (b+4) .none)(k2:ff (b+5) h W):wn W b p m C .none l j g i1 i2 i3:=by
 have i:∀(c:Nat) o,c≠b+5->h.get? c=J o->W.get? c=J o:=λc o n e=>k2.extBut _ _ n e;have k:=f.d1;have q:=f.d2;have t:=f.d3;refine⟨z2,i _ _ (by exact an rfl) f.ti,?_,?_,?_,?_,?_,?_,?_,k,q,t⟩
 ·obtain⟨a,v,x,e⟩:=f.to_;exact⟨a,v,x,i _ _ (by exact an rfl) e⟩
 ·obtain⟨o,e,a⟩:=f.a1;exact⟨o,i _ _ (by exact ic (Yd (kh _))) e,a⟩
 ·obtain⟨o,e,a⟩:=f.a2;exact⟨o,i _ _ (by exact an rfl) e,a⟩
 ·obtain⟨o,e,a⟩:=f.a3;exact⟨o,i _ _ (by exact an rfl) e,a⟩
 ·obtain⟨o,e,a⟩:=f.l1;exact⟨o,i _ _ (by exact ic (rb (by assumption) (Nc _ _))) e,a⟩
 ·obtain⟨o,e,a⟩:=f.l2;exact⟨o,i _ _ (by exact ic (rb (by assumption) (Nc _ _))) e,a⟩
 ·obtain⟨o,e,a⟩:=f.l3;exact⟨o,i _ _ (by exact ic (rb (by assumption) (Nc _ _))) e,a⟩
theorem U7{c:Nat}(n:¬Tm b c):c≠b+5:=λq=>n (by unfold Tm;lia)
theorem qco{c:Nat}(n:¬Tm b c):c≠b:=λq=>n (.inl q)
theorem HF{y7:Expr}{bd:List bz}{t:CT}{xs ys zs:List V}{k:Me->St->Option (Fl×Me×St)}(AK:Eg n A)(z6:wk y7=Z)(ht:Xk r y7=J t)(hf:Df w N A S eo r.sl (tu bd S) k)(z7:xs.length=ys.length)(z8:ys.length=zs.length):
 ∀(x8 i:Nat)(D:Me)(X:List Ca)(E:St)(s:Ea)(u:Fl)(L:Me)(F:St)(y2 y3 y4:List wa),R w N X E s.heap->Lc w N S eo r.sl 0 D X s.heap->wn s.heap b p m C .none (vD y2) (vD y3) (vD y4) i i i->Nu I N eo X b->ue w X s.heap xs y2->ue w X s.heap ys y3->ue w X s.heap zs y4->
  Gq x8 (.st (tA xs ys zs)) i (λv D E=>(ql t v D).bind λx9=>k x9 E) D E=J (u,L,F)->
  dh (bb pg w) A (.forLoop y7 (.ref (b+5)) bd [] S) (λq a=>YK w N S eo r b X s u L F q a) s:=by
 intro x8
 induction x8 with
 |zero=>intro i D X E s u L F y2 y3 y4 B G K O x1 x2 x3 e;exact ja e|succ x8 ih=>
  intro i D X E s u L F y2 y3 y4 B G K O x1 x2 x3 e;replace e:sX (λv D E=>(ql t v D).bind λx9=>k x9 E) (λi D E=>Gq x8 (.st (tA xs ys zs)) i (λv D E=>(ql t v D).bind λx9=>k x9 E) D E) i D E (tA xs ys zs)[i]?=J (u,L,F):=e;refine Vg ?_;show Qa _ A ((w4 y7 (.ref (b+5)) bd [] S).onRaise λx=>do Oz x S;Up x) _ _ s
  refine DA (Cn λP E0 hQ=>?_);simp only[w4]
  induction hi:(tA xs ys zs)[i]? with
  |none=>
   rw[hi]at e;obtain⟨rfl,zz⟩:=Ta (ba e);obtain⟨rfl,rfl⟩:=Ta zz;refine ga (lc (ga (Zh (bu AK.hh K (by refine U jc ?_;exact x1.none_of (yK z7 z8 hi)) λh1 k0=>?_))));have hT:∃o,h1.get? (b+4)=J o/\Jh o:=by
    refine aa λnq=>?_;obtain⟨o,e,im⟩:=K.tri;refine nq ?_;clear nq;exact⟨o,k0 _ o (ij (by exact qi (Yd (kh _)))) (ij (by exact an rfl)) e,im⟩
   have k1:∀(f:Nat) o,¬Tm b f->s.heap.get? f=J o->h1.get? f=J o:=λf o n e=>k0 f o (qco n) (U7 n) e;refine ta (hQ _ _ ⟨rfl,qdF ?_⟩);exact U (ou _) (ta ⟨.next,X,rfl,rfl,⟨Ja _,λz h=>.inl h,λz o e a a n=>k1 z o n e,λz o e a n=>k1 z o n e⟩,JX B O K k1 hT,IX G O K k1,.next⟩)
  |some v=>
   rw[hi]at e;refine ab e λc e1 e2=>ab e1 λx9 z9 hF=>(aa λnq=>?_);obtain⟨d,y9,z3⟩:=c;obtain⟨x,y,x5,q1,q2,q3,rfl⟩:=aR hi;obtain⟨l,p1,u1⟩:=x1.get q1;obtain⟨j,p2,u2⟩:=x2.get q2;obtain⟨g,p3,u3⟩:=x3.get q3;refine nq ?_;clear nq;refine ga (lc (ga (Zh (sC (x:=l) (y:=j) (zv:=g) K (by refine U jc ?_;exact p1) (by refine U jc ?_;exact p2) (by refine U jc ?_;exact p3) λh1 Z1 T1 k1=>ga (yJ z6 Z1.z rfl λh2 z2 k2=>?_)))));have Z2:=Z1.off z2 k2;have y1:∀(f:Nat) o,¬Tm b f->s.heap.get? f=J o->h2.get? f=J o:=λf o n e=>k2.extBut _ _ (U7 n) (k1 f o n e);have tr:∀{x:V}{v:wa},VR w X s.heap x v->VR w X h2 x v:=λq=>q.tr (P':=I.av) (Ja _) (jr K O.av y1);have y8:∀{x:List V}{v:List wa},ue w X s.heap x v->ue w X h2 x v:=λq=>q.tr (P':=I.av) (Ja _) (jr K O.av y1);refine ga (Da (jM (s:={s with heap:=h2}) AK ht (Zx t) (JX B O K y1 Z2.tri) (IX G O K y1) (.t (B.notAv (Fb _)) (k2.extBut _ _ (qi (qc K.z)) T1:h2.get? s.heap.objs.size=J (gu [l,j,g] 0)) (gb rfl) (.cons (tr u1) (.cons (tr u2) (.one (tr u3)))):VR w X h2 (.t [x,y,x5]) (.ref s.heap.objs.size)) z9) (λa s3 p2=>?_) λa a x5=>x5.elim);refine aa λnq=>?_;obtain⟨C,k3,r3,E3⟩:=p2;refine nq ?_;clear nq;refine ga (Da (hf x9 X E s3 d y9 z3 r3 E3 hF) (λx6 s4 p3=>?_) λa a x5=>x5.elim);refine aa λnq=>?_;obtain⟨y5,t4,k4,r4,E4,q4⟩:=p3;refine nq ?_;clear nq;have x7:Kp eo X h2 s4.heap y5:=k3.trans k4;have y6:∀z o,s.heap.get? z=J o->(h2.get? z).isSome=Z:=λz o e=>by
    by_cases q:Tm b z
    ·obtain⟨o,e,_⟩:=Z2.data q;refine U e ?_;rfl
    ·refine U (y1 z o q e) ?_;rfl
   have T:=Bh.trans (C.past) t4;have KZ:Kz eo b X s.heap s4.heap y5:=⟨x7.pre,λz ha=>(x7.fresh z ha).imp_right λq=>(by
    induction x5:s.heap.get? z with
    |none=>rfl|some o=>have:=y6 z o x5;rw[q]at this;exact zc this ia),λz o e n1 n2 n3=>x7.keep z o (y1 z o n3 e) n1 n2,λz o e im n=>x7.imm z o (y1 z o n e) im⟩
   induction d with
   |next=>
    rw[q4.wF];have Z4:=Z2.keep (λf o q e=>x7.keep f o e (O.out f q) (O.eo f q)) x7.imm;have D4:Nu I N eo y5 b:=⟨O.wK,O.eo,O.av,λz ha q=>(x7.fresh z q).elim (O.out z ha) λq=>by
     obtain⟨o,e,_⟩:=Z2.data ha;rw[q]at e;exact ja e⟩
    refine ta (hQ _ _ ⟨rfl,Oc (ih (i+1) y9 y5 z3 s4 u L F y2 y3 y4 r4 E4 Z4 D4 (x7.vrs (y8 x1)) (x7.vrs (y8 x2)) (x7.vrs (y8 x3)) e2) λq s5 p5=>?_⟩);obtain⟨x6,k6,hq,t5,g1,g5,g6,g7⟩:=p5;exact⟨x6,k6,hq,T.trans t5,KZ.trans (λz o e=>x7.live z (y6 z o e)) g1,g5,g6,g7⟩
   |ret v=>
    refine aa λnq=>?_;obtain⟨k7,rfl,x4⟩:=q4.wF;obtain⟨rfl,zz⟩:=Ta (ba e2);obtain⟨rfl,rfl⟩:=Ta zz;refine nq ?_;clear nq;exact ta (hQ _ _ ⟨_,y5,rfl,T,KZ,r4,E4,q4⟩)
inductive pL(w:zb)(X:List Ca)(h:qb) [av:Av](x:V)(xs:List V)(v:wa):Prop
 |mk (t:Ca) (vs:List wa) (k:Nat):v=.ref t->h.get? t=J (gu vs k)->ue w X h xs vs->pL w X h x xs v
theorem Pw{x:V}{v:wa}{k:List V}(e:xx x=J k)(q:VR w X h x v):pL w X h x k v:=by
 refine aa λo=>?_;obtain⟨a,t,c,rfl,_,e,f,i⟩:=(Vl e▸q:VR w X h (.t k) v).wF;exact o (⟨a,t,c,rfl,e,i⟩)
inductive ZK(w:zb)(X:List Ca)(h:qb) [av:Av](vals:List wa)(xs ys zs:List V):Prop
 |mk (a b c:wa) (x y z:V):vals=[a,b,c]->pL w X h x xs a->pL w X h y ys b->pL w X h z zs c->ZK w X h vals xs ys zs
theorem Ss{c:List V}{f:List V}{a:List (List V)}{P:Prop}(h:Wn c=J (f::a))(k:∀v e,c=v::e->xx v=J f->Wn e=J a->P):P:=by
 induction c using ma with
 |nil=>exact nomatch h|cons v c=>
  refine ab h λe i o=>qe o λx q t=>?_;cases t;exact k v c rfl i q
theorem EQ{a:List V}(h:Wn a=J []):a=[]:=by
 induction a using ma with
 |nil=>rfl|cons v a=>exact ab h λc i e=>qe e λk o f=>zc f (Bc _ _)
theorem N9{i:List V}{f:List wa}{k o t:List V}(e:Wn i=J [k,o,t])(q:ue w X h i f):ZK w X h f k o t:=
 Ss e λx v1 v B G=>Ss G λy v2 K O P=>Ss P λz v3 R T e3=>by
 rw[v,K,R,EQ e3]at q;refine aa λnq=>?_;obtain⟨a,r1,g1,b1,q⟩:=q.wF;obtain⟨b,r2,g2,b2,q⟩:=q.wF;obtain⟨c,r3,g3,b3,q⟩:=q.wF;exact nq (⟨a,b,c,x,y,z,by rw[g1,g2,g3,(q.wF:r3=[])],Pw B b1,Pw O b2,Pw T b3⟩)
inductive J5(vs items:List V):Prop
 |mk (xs ys zs:List V):Wn vs=J [xs,ys,zs]->xs.length=ys.length->ys.length=zs.length->tA xs ys zs=items->J5 vs items
theorem ZV{o f:List V}(e:((Wn o).bind YV)=J f):J5 o f:=ab e λk t i=>by
 induction k using ma with
 |nil=>exact ja i|cons v a=>
  induction a using ma with
  |nil=>exact ja i|cons x a=>
   induction a using ma with
   |nil=>exact ja i|cons y a=>
    induction a using ma with
    |nil=>exact qe i λc q z=>⟨v,x,y,t,(N4 q).1,(N4 q).2,z⟩|cons=>exact ja i
theorem B3{K:Ue}{x9:Ch}{i:Gl}(B:Jk N K x9)(GO:Xy N K i):KA w N K i:=by
 intro n A S eo r z zp cp z9 y3 z7 bd t G k AK hk hz y4 y5 y6 ht hn hG hF D X E s u L F O P e;refine ab e λT e1 e2=>ab e2 λy7 e3 e4=>wpAny_For (Call_Name rfl (Da (qs (w:=w) GO hz y4 (Bo y5).1 X E s O P (.k (.type "zip")) E rfl) (λfv s1 p1=>?_) λV V x=>x.elim)) λx=>Nz (λV V V q=>Expr.noConfusion q) S x;obtain⟨ρ1,u1,k1,r1,x1⟩:=p1;rw[(x1.wF:fv=_)];have E1:=P.kx O k1;refine kq (GO.glob z _ hz).1 hn (Da (hG D _ ρ1 E s1 r1 E1 _ _ e1) (λz8 s2 p2=>?_) λV V x=>x.elim);obtain⟨x8,u2,k2,r2,x2⟩:=p2;have E2:=E1.kx r1 k2;refine⟨r2.kin B,?_⟩;refine aa λnq=>?_;obtain⟨xs,ys,zs,y8,y9,z3,rfl⟩:=ZV e3;refine nq ?_;clear nq;obtain⟨q1,q2,q3,_,_,_,rfl,a1,a2,a3⟩:=N9 y8 x2;obtain⟨p,v1,n1,rfl,o1,b1⟩:=a1;obtain⟨m,v2,n2,rfl,o2,b2⟩:=a2;obtain⟨C,v3,n3,rfl,o3,b3⟩:=a3;have x3:∀c,s2.heap.objs.size<=c->s2.heap.get? c=Y:=λc h=>yk h;refine YI (s:=s2) (lf o1) (lf o2) (lf o3) λh3 Z3 k3=>wpAny_pyIter_zip Z3.z ?_;have x6:∀c,Tm s2.heap.objs.size c->s2.heap.get? c=Y:=λc q=>x3 c (by unfold Tm at q;lia)
 let P':Ca->Prop:=λc=>I.av c\/c=s2.heap.objs.size+4
 have hi:cz I.av P' s2.heap h3:=λc o e im ht=>⟨k3 c o e,λy n q z=>z.elim (ht y n q) λz=>by
  rw[z,x3 _ (Nc _ _)]at e;exact ja e⟩
 have rJ: @R ⟨P'⟩ w N x8 T.2 h3:=r2.tr hi (λc V o e=>k3 c o e) (λc o e=>k3 c o (r2.wK c o e)) (λc z=>z.elim (λz=>by
  obtain⟨o,ho,a⟩:=r2.avl c z;exact⟨o,k3 c o ho,a⟩) λz=>z▸Z3.tri)
 have EJ: @Lc ⟨P'⟩ w N S eo r.sl 0 D x8 h3:=E2.tr hi (λo e=>k3 _ o e) (λf v z6=>by obtain⟨o,e,a⟩:=z6;exact⟨o,k3 _ o e,a⟩) λc ha=>by
  obtain⟨o,ho⟩:=Na.mp (E2.eol c ha);refine U (k3 c o ho) ?_;rfl
 have a:Nu ⟨P'⟩ N eo x8 s2.heap.objs.size:=⟨λc q=>Rd r2 (x6 c q),λc q z=>(by
  have:=E2.eol c z;rw[x6 c q]at this;exact zc this ia),.inr rfl,λc q=>Hf r2 (x6 c q)⟩
 refine Oc (@HF w N A S eo n r s2.heap.objs.size p m C ⟨P'⟩ y3 bd t xs ys zs k AK y6 ht (hF ⟨P'⟩) y9 z3 5000 0 D x8 T.2 {s2 with heap:=h3} u L F v1 v2 v3 rJ EJ Z3 a (b1.tr (Ja _) hi) (b2.tr (Ja _) hi) (b3.tr (Ja _) hi) e4) λq s4 p4=>?_;obtain⟨f,x4,rfl,t5,kz,g5,g6,g7⟩:=p4;have x5:∀c o,s2.heap.get? c=J o->¬Tm s2.heap.objs.size c:=λc o e q=>by rw[x6 c q]at e;exact ja e
 have hd:cz P' I.av s4.heap s4.heap:=λc o e im ht=>⟨e,λy n q z=>ht y n q (.inl z)⟩;have rI:R w N x4 F s4.heap:= @R.tr w N s4.heap s4.heap x4 ⟨P'⟩ I.av F g5 hd (λV V V e=>e) (λc o e=>(@R.wK ⟨P'⟩ _ _ _ _ _ g5) c o e) λc z=>(@R.avl ⟨P'⟩ _ _ _ _ _ g5) c (.inl z);have EI:Lc w N S eo r.sl 0 L x4 s4.heap:= @Lc.tr w N s4.heap s4.heap x4 ⟨P'⟩ I.av S eo r.sl 0 L g6 hd (λV e=>e) (λV V x=>x) λc z=>(@Lc.eol ⟨P'⟩ _ _ _ _ _ _ _ _ _ g6) c z;have kp:Kp eo x8 s2.heap s4.heap x4:=⟨kz.pre,λc ha=>(kz.fresh c ha).imp_right λy=>(by
  induction z:s2.heap.get? c with
  |none=>rfl|some o=>exact nomatch (k3 c o z).symm.trans y),λc o e n1 n2=>kz.keep c o (k3 c o e) n1 n2 (x5 c o e),λc o e im=>kz.imm c o (k3 c o e) im (x5 c o e),λc z=>by
  obtain⟨o,ho⟩:=Na.mp z;by_cases V:c∈x8
  ·obtain⟨x,hx,_⟩:=rI.live (Lh kz.pre V)
   refine U hx ?_;rfl
  ·by_cases x:eo c
   ·exact EI.eol c x
   ·refine U (kz.keep c o (k3 c o ho) V x (x5 c o ho)) ?_;rfl⟩
 refine⟨x4,(u1.trans u2).trans t5.past,((k1.kp P).trans (k2.kp E1)).trans kp,rI,EI,?_⟩;have x:= @Q3.wF _ _ ⟨P'⟩ _ _ _ g7
 induction u with
 |next=>rw[(x:f=_)];exact .next|ret v=>
  obtain⟨V,rfl,x7⟩:=x;exact .ret (@VR.tr w s4.heap s4.heap x4 x4 ⟨P'⟩ I.av (Ja _) hd _ _ x7)
end
section
variable {P:Type} {n R:Nat}
namespace SF
theorem entry_set_iter:qbt table "set.__iter__"=J Yj.«frozenset.__iter__» :=
 qbu (id':="frozenset.__iter__") (by refine U (kn _) ?_;kernel_rfl) rfl (by decide+kernel) (by refine U (kn _) ?_;kernel_rfl)
theorem slot_set_iterator_next:Slot "set_iterator" "__next__" "set_iterator.__next__":=
 .of (owner:="set_iterator") (n:="__next__") (by refine U (qaJ _ _) (U tR ?_);kernel_rfl) (by decide+kernel) (by decide+kernel) (by decide+kernel)
  (by first|exact .inl (by decide+kernel)|exact .inr (by decide+kernel)) (by refine U (vE _ _) ?_;kernel_rfl)
theorem entry_set_iterator_next:qbt table "set_iterator.__next__"=J Yj.«set_iterator.__next__» :=entryFor_of_tree (by kernel_rfl)
theorem owner_set_iterator:qfp.lookup (String.ofList ['r','o','t','a','r','e','t','i','_','t','e','s'].reverse)=J qfq:=by kernel_rfl
theorem args_set_iterator_next_1(a:wa):vL "set_iterator.__next__" ⟨[a],[]⟩:=by
 unfold vL;refine U (bK (id:="set_iterator.__next__") (n:=['_','_','t','x','e','n','_','_']) (o:=['r','o','t','a','r','e','t','i','_','t','e','s']) (by kernel_rfl) owner_set_iterator) ?_;kernel_rfl
theorem slot_set_iterator_iter:Slot "set_iterator" "__iter__" "set_iterator.__iter__":=
 .of (owner:="set_iterator") (n:="__iter__") (by refine U (qaJ _ _) (U tR ?_);kernel_rfl) (by decide+kernel) (by decide+kernel) (by decide+kernel)
  (by first|exact .inl (by decide+kernel)|exact .inr (by decide+kernel)) (by refine U (vE _ _) ?_;kernel_rfl)
theorem args_set_iterator_iter_1(a:wa):vL "set_iterator.__iter__" ⟨[a],[]⟩:=by
 unfold vL;refine U (bK (id:="set_iterator.__iter__") (n:=['_','_','r','e','t','i','_','_']) (o:=['r','o','t','a','r','e','t','i','_','t','e','s']) (by kernel_rfl) owner_set_iterator) ?_;kernel_rfl
theorem entry_set_iterator_iter:qbt table "set_iterator.__iter__"=J Yj.«dict_keyiterator.__iter__» :=
 qbu (id':="dict_keyiterator.__iter__") (by refine U (kn _) ?_;kernel_rfl) rfl (by decide+kernel) (by refine U (kn _) ?_;kernel_rfl)
end SF
theorem fx(l:List P):∀(i:Nat)(h:i<l.length),(l[i]::l.eraseIdx i).Perm l:=by
 induction l with
 |nil=>exactλi h=>zc h (We _)|cons x l b=>
  intro i h
  induction i using Sa with
  |zero=>exact .refl _|succ i=>exact(qeA x _ _).trans (qey x (b i (Fg h)))
theorem fC(next:Nat->Nat):∀(n k:Nat)(l:List P)(b:Array P),n=l.length->(b9.go next n k l b).toList.Perm (b.toList++l):=by
 intro n
 induction n with
 |zero=>
  rintro k l b e;have:l=[]:=kg.mp e.symm;subst this;show b.toList.Perm (b.toList++[])
  rw[Wb]
 |succ n d=>
  rintro k l b e;have c:next k%l.length<l.length:=Nat.mod_lt _ (by lia);show MX (match l[next k%l.length]? with|some x=>b9.go next n (k+1) (l.eraseIdx (next k%l.length)) (b.push x)|none=>b) |>.Perm _
  refine U (Wa c) ?_;show MX (b9.go next n (k+1) (l.eraseIdx (next k%l.length)) (b.push l[next k%l.length])) |>.Perm _
  refine(d (k+1) _ _ (by refine U List.length_eraseIdx ?_;simp[c];lia)).trans ?_;exact U Array.toList_push (U (Dc _ _ _) (qex _ (fx l _ c)))
theorem MJ(next:Nat->Nat)(b:Array P):(b9 next b).toList.Perm b.toList:=by
 unfold b9
 simpa using fC next b.size 0 b.toList #[] (by rfl)
def sq(X W V:Option jk):List (Int×wa):=iB 0 X++(iB 1 W++iB 2 V)
def AH(X W V:Option jk):List Nat:=mX 0 X++(mX 1 W++mX 2 V)
theorem cT(X W V:Option jk):(sq X W V).length=(AH X W V).length:=by induction X<;>induction W<;>induction V<;>rfl
theorem dE(X W V:Option jk):(sq X W V).length<=3:=by induction X<;>induction W<;>induction V<;>exact gb rfl
noncomputable def Q4(a b c:Bool):List Nat:=(if a=Z then[0]else[])++((if b=Z then[1]else[])++(if c=Z then[2]else[]))
theorem dP(X W V:Option jk):AH X W V=Q4 X.isSome W.isSome V.isSome:=by induction X<;>induction W<;>induction V<;>rfl
theorem tU:∀a b c:Bool,∀i∈[0,1,2],∀j∈[0,1,2],(Q4 a b c)[i]?=J j->Uf (Q4 a b c).toArray (j+1)=i+1:=by decide+kernel
theorem iP:∀a b c:Bool,Uf (Q4 a b c).toArray 0=0:=by decide+kernel
theorem cP(X W V:Option jk):Uf (AH X W V).toArray 0=0:=dP X W V▸iP _ _ _
theorem sU:∀a b c:Bool,(Q4 a b c).length<=3/\∀j∈Q4 a b c,j∈[0,1,2]:=by decide+kernel
theorem qeV{i:Nat}(h:i<3):i∈[0,1,2]:=(bc.mpr h:i∈Ka 3)
theorem bP(X W V:Option jk)(i j:Nat)(e:(AH X W V)[i]?=J j):Uf (AH X W V).toArray (j+1)=i+1:=by
 rw[dP]at e|-;have m:=sU X.isSome W.isSome V.isSome;exact tU _ _ _ i (qeV (rb (wb.mp e).1 m.1)) j (m.2 j (Ma e)) e
theorem ug(X W V:Option jk)(b:Bool):(⟨7,(AH X W V).toArray,#[],0,b,0,Z⟩:qbe).fits (sq X W V).toArray.size=Z:=by induction X<;>induction W<;>induction V<;>rfl
def Ik(w:zb)(a:Ca)(S:Nat)(X W V:Option jk):List (Int×wa):=
 if w.params.followText "set-order"then(b9 (w.params.setOrder a S) (sq X W V).toArray).toList else sq X W V
theorem Mp(w:zb)(a:Ca)(S:Nat)(X W V:Option jk):(Ik w a S X W V).Perm (sq X W V):=by
 unfold Ik;split
 ·exact MJ _ _
 ·exact .refl _
def S3(w:zb)(h:qb)(a:Ca)(S:Nat)(X W V:Option jk):Prop:=
 h.get? a=J {cls:=.type "set",dict:=Y,data:=.set (sq X W V).toArray S ⟨7,(AH X W V).toArray,#[],0,!w.params.followText "set-order",0,Z⟩,slots:= #[]}
def vI(w:zb)(h:qb)(Q a:Ca)(i n S:Nat)(X W V:Option jk):Prop:=
 ∃o R,h.get? Q=J o/\o.cls=.type "set_iterator"/\o.data=.fields #[.int (R:Nat) 0,.int (i:Nat) 0,.ref a,.int (n:Nat) 0,.int (S:Nat) 0]/\(w.params.followText "set-order"=ua->Uf (AH X W V).toArray R=i)
variable {w:zb} {A:Yb} {E:wa->Ea->Prop} {s:Ea} {a Q:Ca} {S i:Nat} {X W V:Option jk}
theorem S3.typeIs(h:S3 w s.heap a S X W V):s.TypeIs (.ref a) "set":=⟨_,h,rfl⟩
theorem vI.typeIs(h:vI w s.heap Q a i n S X W V):s.TypeIs (.ref Q) "set_iterator":=by obtain⟨o,d,b,c,_⟩:=h;exact⟨_,b,c⟩
theorem l9(b:Bool):(!(⟨7,(AH X W V).toArray,#[],0,b,0,Z⟩:qbe).plain&&(sq X W V).toArray.size>1)=ua:=rfl
theorem SJ{b:wa->Ea->Prop}(c:S3 w s.heap a S X W V)
 (d:b (.ref s.heap.objs.size) {s with heap:=s.heap.push {cls:=.type "set_iterator",data:=.fields #[.int 0 0,.int 0 0,.ref a,.int ((sq X W V).length:Nat) 0,.int (S:Nat) 0]}}):
 Qa (bb pg w) A (nw (.ref a)) b E s:=by
 refine Y4 c.typeIs P3 (Kf P3 c.typeIs SF.entry_set_iter ?_ (F.args_set_iter_1 _));show Qa _ _ ((setEntries a>>=_)>>=_) _ _ _
 refine ga (ga (ju c rfl (ug _ _ _ _) (ta ?_)));unfold setDrawn;refine ga (ga (mj c rfl (ug _ _ _ _) ?_))
 dsimp only
 unfold X0;refine ga (ga (Ih (ta (ta (U (bW _) (U (fe ia) ?_))))));refine ga (ta (ga (wpAny_setEpoch_of c rfl (ug _ _ _ _) ?_)));refine ga (lj (ta ⟨_,rfl,"set_iterator",_,⟨_,Oa _ rfl,rfl⟩,SF.slot_set_iterator_next.lookup,?_⟩))
 simpa [ag]using d
theorem zw{b:Option (wa×Nat)->Ea->Prop}(o:S3 w s.heap a S X W V)(j:w.params.followText "set-order"=ua->Uf (AH X W V).toArray R=i)
 (f:∀r:Option (wa×Nat),r.map (λx=>x.1)=(Ik w a S X W V)[i]?.map (λx=>x.2)->(∀p,r=J p->w.params.followText "set-order"=ua->Uf (AH X W V).toArray p.2=i+1)->b r s):
 Qa (bb pg w) A (R4 a R i S) b E s:=by
 unfold R4;refine ga (mj o rfl (ug _ _ _ _) ?_)
 dsimp only
 unfold X0;refine ga (ga (Ih (ta ?_)))
 dsimp only
 induction c:w.params.followText "set-order"with
 |true=>
  refine U (Dd (show(bb pg w).w.params.followText "set-order"=Z from c)) (U (fe (by simp)) ?_);unfold setWalk;refine ga (ga (mj o rfl (ug _ _ _ _) ?_))
  dsimp only
  unfold X0;refine ga (ga (Ih (ta ?_)))
  dsimp only
  refine U (Dd (show(bb pg w).w.params.followText "set-order"=Z from c)) (ga (Ih (ta ?_)));refine ta (f _ ?_ ?_)
  ·unfold Ik;refine U (Dd c) (U qD (U (pf _ _ _) ?_));rfl
  ·intro p _ d;rw[c]at d;exact zc d.symm ia
 |false=>
  refine U (fe (show¬((bb pg w).w.params.followText "set-order"=Z)from by show¬(w.params.followText "set-order"=Z);rw[c];exact ia)) ?_;have q:Ik w a S X W V=sq X W V:=by unfold Ik;refine U c ?_;rfl
  rw[q]at f;have l:=j c;refine li (λh=>zc (show ua=Z from h) ia) λu=>(ga (ta (U l ?_)));have d:=cT X W V;refine U jc (U jc ?_)
  induction h:(sq X W V)[i]? with
  |none=>
   refine ta (f _ (by refine U h ?_;rfl) ?_);intro p g;exact ja g
  |some e=>
   have t:i<(AH X W V).length:=by refine Ed d ?_;exact(wb.mp h).1
   have g:=Wa t;refine U g ?_;obtain⟨k,x⟩:=e;refine ta (f _ (by refine U h ?_;rfl) ?_);intro p m _;obtain rfl:=ba m;exact bP _ _ _ _ _ g
theorem MR{o:wD}{b:Nat}(f:s.heap.get? Q=J o)(g:o.cls=.type "set_iterator")(e:o.data=.fields #[.int (R:Nat) 0,.int (i:Nat) 0,.ref a,.int (n:Nat) 0,.int (S:Nat) 0])
 (d:w.params.followText "set-order"=ua->Uf (AH X W V).toArray b=i+1):
 vI w ((s.heap.update Q (bm λx=>x.setIfInBounds 0 (ag (b:Nat)))).update Q (bm λx=>x.setIfInBounds 1 (ag ((i:Int)+1)))) Q a (i+1) n S X W V:=by
 have h:=Qc (bm λx=>x.setIfInBounds 0 (ag (b:Nat))) f (Si (Ce e _));have c:=Ce e λx=>x.setIfInBounds 0 (ag (b:Nat));have j:=Qc (bm λx=>x.setIfInBounds 1 (ag ((i:Int)+1))) h (Si (Ce c _));refine⟨_,b,j,(Qt ..).trans ((Qt ..).trans g),?_,d⟩;refine U (Ce c _) ?_;simp[ag]
theorem qw{e:Int×wa}{b:Option wa->Ea->Prop}(c:vI w s.heap Q a i n S X W V)(m:n=(sq X W V).length)(l:S3 w s.heap a S X W V)(t:(Ik w a S X W V)[i]?=J e)
 (v:∀d,vI w d Q a (i+1) n S X W V->ff Q s.heap d->b (J e.2) {s with heap:=d}):
 Qa (bb pg w) A (Dp (.ref Q)) b E s:=by
 have hT:=c.typeIs;obtain⟨o,R,f,y,d,j⟩:=id c;unfold Dp;refine ga (Fu (jf (name:=Hg "__next__") hT SF.slot_set_iterator_next
  (Kf SF.slot_set_iterator_next hT SF.entry_set_iterator_next ?_ (SF.args_set_iterator_next_1 _))))
 show Qa _ _ (fieldsOf (.ref Q)>>=_) _ _ _
 refine ga (qdd f d (ga (ju l rfl (ug _ _ _ _) ?_)));refine li (λh=>zc h (by refine U m ?_;simp)) λu=>?_;show Qa _ _ (R4 a R i S>>=_) _ _ _
 refine ga (zw l j λr g k=>?_);rw[t]at g
 induction r with
 |none=>exact ja g|some p=>
  obtain⟨x,z⟩:=p;simp only[Vm,Bj]at g
  dsimp only
  refine ga (Jm f d (by simp) ?_);have B:=Qc (bm λx=>x.setIfInBounds 0 (ag (z:Nat))) f (Si (Ce d _));refine ga (Jm B (Ce d _) (by simp) ?_);subst g;exact ta ⟨_,rfl,ta (v _ (MR f y d λq=>k _ rfl q) ((zd ..).trans (zd ..)))⟩
theorem px{d:Option wa->Ea->Prop}(x:A.handled=Y)(f:vI w s.heap Q a i n S X W V)(y:n=(sq X W V).length)(l:S3 w s.heap a S X W V)(z:(Ik w a S X W V)[i]?=Y)
 (B:∀g,i5 Q s.heap g->d Y {s with heap:=g}):Qa (bb pg w) A (Dp (.ref Q)) d E s:=by
 have hT:=f.typeIs;obtain⟨o,R,m,D,t,j⟩:=id f;unfold Dp;refine ga (Fu (jf (name:=Hg "__next__") hT SF.slot_set_iterator_next
  (Kf SF.slot_set_iterator_next hT SF.entry_set_iterator_next ?_ (SF.args_set_iterator_next_1 _))))
 show Qa _ _ (fieldsOf (.ref Q)>>=_) _ _ _
 refine ga (qdd m t (ga (ju l rfl (ug _ _ _ _) ?_)));refine li (λh=>zc h (by refine U y ?_;simp)) λu=>?_;show Qa _ _ (R4 a R i S>>=_) _ _ _
 refine ga (zw l j λr v C=>?_);rw[z]at v
 induction r with
 |some p=>exact ja v.symm|none=>
  dsimp only
  exact ga (Jm m t (by simp) (eI (show A.in1.handled=Y from x) λg e k p=>(ga (Mo (T:="StopIteration") (b:=Z) p qcp (ta (B _ λc o n q=>k c o ((zd ..).extBut c o n q)))))))
theorem Walks.s3(q:A.handled=Y)(I a:Ca)(k:a≠I)(S:Nat)(X W V:Option jk):
 Walks pg w A I [I,a] [I] (sq X W V).length (λi v=>∃e,(Ik w a S X W V)[i]?=J e/\v=e.2) (λi h=>vI w h I a i (sq X W V).length S X W V/\S3 w h a S X W V)where
 sub:=λb d=>by simp at d;simp[d]
 frame:=λu u u st m=>⟨rD st.1 λo z=>z.elim λc z=>⟨o,c,m I (by exact sa) o z.1,z.2⟩,m a (by simp) _ st.2⟩
 item:=λi s c E r st f=>by
  have t:=(Mp w a S X W V).length_eq;obtain⟨e,p⟩:∃e,(Ik w a S X W V)[i]?=J e:=⟨(Ik w a S X W V)[i],by simp[t,r]⟩;exact qw st.1 rfl st.2 p λl g j=>(f _ l s.toks ⟨e,p,rfl⟩ ⟨g,j.extBut a _ k st.2⟩ λb o d e=>j.extBut b o (λh=>d (by simp[h])) e)
 done:=λs c E st f=>px q st.1 rfl st.2 (by refine U (propext fh) (U ((Mp w a S X W V).length_eq) ?_);exact Gb _) λl g=>f l s.toks λb o d e=>g b o (λh=>d (by simp[h])) e
 self:=λi s c E st f=>by
  refine Y4 st.1.typeIs SF.slot_set_iterator_iter (Kf SF.slot_set_iterator_iter st.1.typeIs SF.entry_set_iterator_iter ?_ (SF.args_set_iterator_iter_1 _));exact ta ⟨_,rfl,"set_iterator",_,st.1.typeIs,SF.slot_set_iterator_next.lookup,f⟩
end
section
variable {k:Int} {t:jk}
section
variable {w:zb} {A:Yb} {E:wa->Ea->Prop} {s:Ea} {a:Ca} {Q:Nat} {X V T:Option jk}
theorem rv{o:Option jk}{e:Int×wa}(h:e∈iB k o):∃t,e=(k,.int k t):=by
 induction o with
 |none=>cases h|some t=>exact⟨t,Ra.mp h⟩
theorem oo(X V T:Option jk):ElemsOf (jg pg w) (sq X V T).toArray.toList:=λe b=>by
 rcases Xb.mp b with h|h
 ·obtain⟨t,rfl⟩:=rv h
  exact⟨⟨_,xm _ _ _ _,rfl⟩,rfl⟩
 ·rcases Xb.mp h with h|h
  ·obtain⟨t,rfl⟩:=rv h
   exact⟨⟨_,xm _ _ _ _,rfl⟩,rfl⟩
  ·obtain⟨t,rfl⟩:=rv h
   exact⟨⟨_,xm _ _ _ _,rfl⟩,rfl⟩
abbrev qaI(b:Bool)(X V T:Option jk):qbe:=⟨7,(AH X V T).toArray,#[],0,b,0,Z⟩
theorem tv(X V T:Option jk):(sq X V T).toArray.size<scanBound:=by
 have:=dE X V T;refine U Hb (U (show scanBound=4096 from rfl) ?_);lia
theorem Qj{j:Nat}{b:Bool->Ea->Prop}(c:S3 w s.heap a Q X V T)(d:(sq X V T).toArray.toList.findIdx? (λe=>(jg pg w).is k e.2)=J j)(e:b ua s):
 Qa (bb pg w) A (Ep a (.int k t) (B4 k)) b E s:=by
 unfold Ep qcU;refine Kb (ga (mj c rfl (ug _ _ _ _) ?_))
 dsimp only
 refine U (byScan_of (knd:=jg pg w) rfl (tv _ _ _) (oo _ _ _)) ?_;simp only[↓reduceIte];unfold qfc;refine ga (ga (Xj (ga (T9 (knd:=jg pg w) (xm _ _ _ _) c rfl (ug _ _ _ _) (oo _ _ _) (U d ?_)))));exact ta (ta e)
theorem ZE{p0 p1 p2:Option jk}{c:Bool->Ea->Prop}(d:S3 w s.heap a Q X V T)(f:(sq X V T).toArray.toList.findIdx? (λe=>(jg pg w).is k e.2)=Y)
 (e:∀b,layNew (qaI b X V T) (sq X V T).toArray (B4 k) (.int k t)=((sq p0 p1 p2).toArray,qaI b p0 p1 p2,ua,ua))(g:∀b,(qaI b p0 p1 p2).tooFull=ua)
 (h:∀b,ff a s.heap b->S3 w b a (Q+1) p0 p1 p2->c Z {s with heap:=b}):
 Qa (bb pg w) A (Ep a (.int k t) (B4 k)) c E s:=by
 unfold Ep qcU;refine Kb (ga (mj d rfl (ug _ _ _ _) ?_))
 dsimp only
 refine U (byScan_of (knd:=jg pg w) rfl (tv _ _ _) (oo _ _ _)) ?_;simp only[↓reduceIte];unfold qfc;refine ga (ga (Xj (ga (T9 (knd:=jg pg w) (xm _ _ _ _) d rfl (ug _ _ _ _) (oo _ _ _) (U f ?_)))));refine U (e _) ?_
 dsimp only
 refine ga (ta (U (Dd rfl) (U (hashByValue_scannable 8 (x:=.int k t) rfl) (ga (ta ?_)))));refine U (Dd (show plainKind (.int k t)=Z from rfl)) (ga (wpAny_storeSet_of d rfl ?_ (fits_of_scanBound (tv _ _ _))));refine U (g _) (ta (ta (h _ (zd _ _ _) ?_)));have:=Qc (wD.putSet (sq p0 p1 p2).toArray (qaI (!w.params.followText "set-order") p0 p1 p2)) d (by refine U (putSet_of _ _ rfl) ?_;rfl);rw[putSet_of _ _ rfl]at this;exact this
noncomputable def lC(k:Int)(t:jk)(j:Int)(o:Option jk):Option jk:=if k=j then J (o.getD t)else o
theorem R0{c:Bool->Ea->Prop}(i:k=0\/k=1\/k=2)(d:S3 w s.heap a Q X V T)
 (f:∀b g e,ff a s.heap e->S3 w e a g (lC k t 0 X) (lC k t 1 V) (lC k t 2 T)->c b {s with heap:=e}):
 Qa (bb pg w) A (Ep a (.int k t) (B4 k)) c E s:=by
 have same:=λb h=>f b Q s.heap (V9 a s.heap) h;rcases i with rfl|rfl|rfl
 ·refine aa λg=>?_
  induction X with
  |some u=>refine g ?_;exact Qj (j:=0) d rfl (same ua d)|none=>
   refine g ?_
   induction V<;>induction T<;>exact ZE (p0:=J t) d rfl (λb=>by kernel_rfl) (λb=>by kernel_rfl) λe x y=>f Z _ e x y
 ·induction V with
  |some u=>
   induction X
   ·exact Qj (j:=0) d rfl (same ua d)
   ·exact Qj (j:=1) d rfl (same ua d)
  |none=>
   induction X<;>induction T<;>exact ZE (p1:=J t) d rfl (λb=>by kernel_rfl) (λb=>by kernel_rfl) λe x y=>f Z _ e x y
 ·induction T with
  |some u=>
   induction X<;>induction V
   ·exact Qj (j:=0) d rfl (same ua d)
   ·exact Qj (j:=1) d rfl (same ua d)
   ·exact Qj (j:=1) d rfl (same ua d)
   ·exact Qj (j:=2) d rfl (same ua d)
  |none=>
   induction X<;>induction V<;>exact ZE (p2:=J t) d rfl (λb=>by kernel_rfl) (λb=>by kernel_rfl) λe x y=>f Z _ e x y
end
def Zs(b:List Int)(X V T:Option jk):Prop:=X.isSome=b.contains 0/\V.isSome=b.contains 1/\T.isSome=b.contains 2
theorem Zs.step{c:List Int}{X V T:Option jk}(h:Zs c X V T)(k:Int)(t:jk):Zs (c++[k]) (lC k t 0 X) (lC k t 1 V) (lC k t 2 T):=by
 have b:∀(j:Int)(o:Option jk),o.isSome=c.contains j->(lC k t j o).isSome=(c++[k]).contains j:=λj o e=>by
  unfold lC;rw[List.contains_eq_any_beq]at e|-;refine U List.any_append (Ed e ?_);by_cases q:k=j
  ·subst q;simp
  ·simp only[q,if_false];simp;exactλh=>zc h.symm q
 exact⟨b _ _ h.1,b _ _ h.2.1,b _ _ h.2.2⟩
variable {w:zb} {A:Yb} {R:Cr->Ea->Prop} {I:Ca} {N O:List Ca} {G:Array ER->Array ER->Prop} {n:Nat} {P:Nat->wa->Prop} {St:Nat->Ea->Prop}
theorem UP(W:WalksS pg w A.in1 I N O G n P St)(S:Ca)(q:S∉N)(c:List Int)(hn:c.length=n)(h3:∀k∈c,k=0\/k=1\/k=2)(r:∀i v,P i v->∃t,v=.int (c.getD i 0) t):
 ∀(k i:Nat)(s:Ea)(Q:Nat)(X V T:Option jk),n - i=k->i<=n->St i s->S3 w s.heap S Q X V T->Zs (c.take i) X V T->
  (∀d j p0 p1 p2,Moved (S::O) G s d->S3 w d.heap S j p0 p1 p2->Zs c p0 p1 p2->R (.ok (.ret .none)) d)->
  dh (bb pg w) A (.builtin "set.update.loop" ⟨[.ref S,.ref I],[]⟩) R s:=by
 have u:S∉O:=λh=>q (W.sub _ h);have f:∀b∈O,b∈S::O:=λb x=>oa _ x;intro k
 induction k with
 |zero=>
  intro i s Q X V T hk hi l hS hF hR;have e:i=n:=Yw hi (Nat.sub_eq_zero_iff_le.mp hk);subst e;refine cg JF (U (Fe nn _) (ga (W.done s _ _ l λd y=>?_)));rw[<-hn,List.take_length]at hF;exact ta (hR d Q _ _ _ (y.mono f) (y.heap S _ u hS) hF)
 |succ k ih=>
  intro i s Q X V T hk hi l hS hF hR;have m:i<n:=RF hk;refine cg JF (U (Fe nn _) (ga (W.item i s _ _ m l λv d hP z y=>?_)));obtain⟨t,rfl⟩:=r i v hP;have x1:=y.heap S _ u hS;have p:i<c.length:=hn▸m;have g:c.getD i 0=c[i]:=by refine U List.getD_eq_getElem?_getD (U (Wa p) ?_);rfl
  refine ga (Kb ?_);unfold setAdd;refine Kb (ga ((jg pg w).pyHash (k:=c.getD i 0) (xm _ _ _ _) ?_));refine R0 (s:={d with toks:=d.toks+1}) (h3 _ (by refine U g ?_;exact lu p)) x1 λb j h' B x2=>?_;refine ta ⟨ak nn _,ih (i+1) _ j _ _ _ (by refine U (D5 _ _) (U hk ?_);rfl) m (W.frame _ d _ _ z (se _) λb x o e=>?_) x2 (by refine U (List.take_succ_eq_append_getElem p) (Ed g ?_);exact hF.step _ _) λx3 C p0 p1 p2 D K L=>?_⟩
  ·exact U (B.2 b λh:b=S=>q (by rw[<-h];exact x)) e
  ·refine hR x3 C p0 p1 p2 (Moved.trans W.gtrans ((y.mono f).then_heap (se _) λb o x e=>?_) D) K L
   exact U (B.2 b λh:b=S=>x (by rw[h];exact sa)) e
end
noncomputable abbrev xw(w:zb):wD:={cls:=.type "set",dict:=Y,data:=.set #[] 0 (.fresh 0 0 (!w.params.followText "set-order"))}
def FR(c:String)(h:qb)(a:Ca)(b:Array wa):Prop:=∃o,h.get? a=J o/\o.cls=.type c/\∃n,o.data=.seq b n
def qba(c:String)(h:qb)(a l:Ca)(i:Nat):Prop:=∃o,h.get? a=J o/\o.cls=.type c/\o.data=.fields #[.ref l,.int i 0]
theorem m9{w:zb}{h:qb}:S3 w (h.push (xw w)) h.objs.size 0 Y Y Y:=Oa _ rfl
theorem S3.keep{w:zb}{h b:qb}{a:Ca}{c:Nat}{d f g:Option jk}(e:S3 w h a c d f g)(i:∀x,h.get? a=J x->b.get? a=J x):S3 w b a c d f g:=i _ e
section
variable {w:zb} {A:Yb} {E:wa->Ea->Prop} {s:Ea}
theorem VP(a:wa){Q₁:wa->Ea->Prop}
 (h:Q₁ (.ref s.heap.objs.size) {s with heap:=s.heap.push (xw w)}):
 dh (bb pg w) A (.call (.builtin "set.__new__") ⟨[.type "set",a],[]⟩) (wants Q₁ E) s:=by
 refine Vg ?_;show Qa _ A.in1 (do F6 "set.__new__" ⟨[.type "set",a],[]⟩;again (.builtin "set.__new__" ⟨[.type "set",a],[]⟩)) _ _ s
 refine ga (af (F.newCall_set_1 a) (ta ⟨ak O3 _,cg F.entry_set_new ?_⟩));refine U (Fe O3 _) ?_;unfold Yj.«set.__new__» AR;have b:=sub_set_self;obtain⟨c,g,d,e,os⟩:=s
 dsimp only
 wp_walk
 refine Ih (ta ?_)
 dsimp only
 simp only[newObj];refine ga (qfz (ta ?_));exact ta h
set_option maxRecDepth 100000 in
set_option maxHeartbeats 3200000 in
theorem WP{c ci:String}{l:Ca}{a:Array wa}{n:List Int}{Q:wa->Ea->Prop}
 (C:isSubtype (.type c) (.type "set")=pure ua)(D:isSubtype (.type c) (.type "frozenset")=pure ua)(x1:(uf c==uf "dict")=ua)
 (hP:∀{A Q E s},FR c s.heap l a->Q (.ref s.heap.objs.size) {s with heap:=s.heap.push {cls:=.type ci,data:=.fields #[.ref l,.int 0 0]}}->Qa (bb pg w) A (nw (.ref l)) Q E s)
 (hW:∀{A I},A.handled=Y->l≠I->Walks pg w A I [I,l] [I] a.size (λi v=>a[i]?=J v) λi h=>qba ci h I l i/\FR c h l a)
 (hh:A.handled=Y)(hl:FR c s.heap l a)(hi:Xi a.toList n)(h3:∀k∈n,k=0\/k=1\/k=2)
 (h:∀(g:qb)(X:Nat) ep y z B,S3 w g s.heap.objs.size ep y z B->Zs n y z B->
  (∀b o,s.heap.get? b=J o->g.get? b=J o)->Q (.ref s.heap.objs.size) {s with heap:=g,toks:=X}):
 Qa (bb pg w) A (call (.type "set") [.ref l]) Q E s:=by
 obtain⟨c0,tl,G⟩:=xh.mro;have p:=xh.made;have K:=xh.sub;refine Np (Vg ?_);show Qa _ _ (callAny (.type "set") _) _ _ _
 refine ta ⟨Code.quiet_builtin _ (by decide+kernel),cg F.entry_type_call ?_⟩;refine U (Yb.under_plain (weight_type_call_type "set" [.ref l] []) rfl) ?_;have h1:=xh.notType;have h2:=xh.canCreate;have x2:=F.typeCall_set_1 (.ref l)
 wp_delta
 refine Jb rfl (Jb rfl (ga (af x2 (ga (af G (Jb rfl (ga (af p (ga (ta (ga (Kb (Np ?_)))))))))))));refine Oc (VP (.ref l) (E:=E) (Q₁:=λL k=>L=.ref s.heap.objs.size/\k={s with heap:=s.heap.push (xw w)}) ⟨rfl,rfl⟩) λr k hr=>?_
 induction r with
 |error e=>exact hr|ok fl=>
  induction fl with
  |ret L=>
   obtain⟨rfl,rfl⟩:=hr;have hS:(s.heap.push (xw w)).get? s.heap.objs.size=J (xw w):=Oa _ rfl;have hT:Ea.TypeIs {s with heap:=s.heap.push (xw w)} (.ref s.heap.objs.size) "set":=⟨_,hS,rfl⟩;have x3:=xh.init.lookup;have x4:=xh.init.bind (.ref s.heap.objs.size);refine ga (Mo hT K (Jb rfl (ga (Kb ?_))))
   wp_delta
   refine ga (qaT hT x3 (Kb (ga (af x4 (ga (Np ?_))))));refine Oc (DS (R:=wants (λr m=>r=.none/\∃g X,m={s with heap:=g,toks:=X}/\
    (∃ep y z B,S3 w g s.heap.objs.size ep y z B/\Zs n y z B)/\
    (∀b o,s.heap.get? b=J o->g.get? b=J o)) E) xh.init.plain F.entry_set_init (check_set_init_1 hT ?_)) λN m f=>?_
   ·refine Cn λQ1 E1 x5=>?_
    obtain⟨ol,O,P,nl,S⟩:=hl;obtain⟨y7,q,x6,j⟩:=ol;simp only at P S;subst P;subst S;have d:(s.heap.push (xw w)).get? l=J {cls:=.type c,dict:=q,data:=.seq a nl,slots:=j}:=Ba _ O;have x7:FR c (s.heap.push (xw w)) l a:=⟨_,d,rfl,nl,rfl⟩;unfold Yj.«set.__init__» noKeywords BR;generalize x8:nw=PI;refine ga (Ws rfl (ta ?_))
    wp_delta
    refine ga ?_
    wp_delta
    refine ga ?_
    wp_delta
    refine ga (Ax hT (Jb rfl (ta ?_)))
    wp_delta
    wp_delta
    refine ta (ga ?_)
    wp_delta
    refine Jb rfl (Jb rfl (Jb rfl (ta (ga ?_))))
    wp_delta
    refine ta (ga ?_)
    wp_delta
    refine ga ?_
    wp_delta
    refine ga (wpAny_load' hS (Jb rfl (ta (ta (Jb rfl ?_)))))
    wp_delta
    refine ga (ga ?_)
    wp_delta
    wp_delta
    refine ga ?_
    wp_delta
    refine ga ?_
    wp_delta
    refine ga (nD d (ta (af C ?_)))
    wp_delta
    wp_delta
    refine ga ?_
    wp_delta
    refine ga (nD d (ta (af D (Jb rfl (ga ?_)))))
    wp_delta
    refine ga (nD d (ta (Jb (by simp[x1]) (ga ?_))));subst x8;refine hP x7 ?_;refine ga (qdf ?_);have T:l<s.heap.objs.size:=qc O;have x9:A.in1.in1.in1.handled=Y:=by simp[hh]
    have V:l≠(s.heap.push (xw w)).objs.size:=by
     refine U (ie _ _) ?_;exact ic (Tf T)
    have y1:s.heap.objs.size∉[(s.heap.push (xw w)).objs.size,l]:=by
     refine U (ie _ _) ?_;simp only[fb,Tb,or_false,not_or];exact⟨ic (pd _),qi T⟩
    have W:∀(i:Nat)(v:wa),a[i]?=J v->∃t,v=.int (n.getD i 0) t:=λi v hv=>
     Xi.int_at hi i v (by refine U qD ?_;exact hv)
    have y2:n.length=a.size:=by exact Ed (Xi.length hi) (U Array.length_toList rfl)
    refine UP ((hW x9 V).toS) s.heap.objs.size
     y1 n y2 h3 W (a.size - 0) 0 _ 0 Y Y Y (by omega) (td _)
     ⟨⟨_,Oa _ rfl,rfl,rfl⟩,⟨_,Ba _ d,rfl,nl,rfl⟩⟩ (Ba _ hS) ⟨rfl,rfl,rfl⟩ ?hR
    case hR=>
     intro s' y8 p0 p1 p2 hm u x;obtain⟨g,g',d',y3,y4⟩:=s';have eg:g'=s.gens:=hm.gens;have ed:d'=s.drawn:=hm.drawn;have eo:y4=s.os:=hm.os;subst eg;subst ed;subst eo;show Qa _ _ _ _ _ _
     refine ta ?_;show Qa _ _ (ret fq) _ _ _
     refine ta (x5 _ _ ⟨rfl,g,y3,rfl,⟨_,_,_,_,u,x⟩,λb o e=>?_⟩);have hb:=qc e;have y5:b≠s.heap.objs.size:=ic hb;have y6:b≠(s.heap.push (xw w)).objs.size:=by
      refine U (ie _ _) ?_;exact ic (Tf hb)
     exact hm.heap b o (by simp only[fb,Tb,or_false,not_or];exact⟨y5,y6⟩) (Ba _ (Ba _ e))
   ·induction N with
    |error e=>exact f|ok b=>
     induction b with
     |ret r=>
      obtain⟨rfl,g,X,rfl,⟨ep,y,z,B,u,x⟩,d⟩:=f;refine ta (Jb rfl ?_)
      wp_delta
      wp_delta
      refine ta ?_;exact h _ _ _ _ _ _ u x d
     |_=>exact f.elim
  |_=>exact hr.elim
theorem RC{l:Ca}{items:Array wa}{ns:List Int}{Q:wa->Ea->Prop}
 (f:A.handled=Y)(g:s.heap.IsList l items)(i:Xi items.toList ns)(j:∀k∈ns,k=0\/k=1\/k=2)
 (h:∀(a:qb)(k:Nat) m c d e,S3 w a s.heap.objs.size m c d e->Zs ns c d e->
  (∀b o,s.heap.get? b=J o->a.get? b=J o)->Q (.ref s.heap.objs.size) {s with heap:=a,toks:=k}):
 Qa (bb pg w) A (call (.type "set") [.ref l]) Q E s:=WP F.sub_list_set F.sub_list_frozenset (by decide) W4 (λa b=>Walks.list a _ l b items) f g i j h
theorem dA{l:Ca}{items:Array wa}{ns:List Int}{Q:wa->Ea->Prop}
 (f:A.handled=Y)(g:s.heap.IsTuple l items)(i:Xi items.toList ns)(j:∀k∈ns,k=0\/k=1\/k=2)
 (h:∀(a:qb)(k:Nat) m c d e,S3 w a s.heap.objs.size m c d e->Zs ns c d e->
  (∀b o,s.heap.get? b=J o->a.get? b=J o)->Q (.ref s.heap.objs.size) {s with heap:=a,toks:=k}):
 Qa (bb pg w) A (call (.type "set") [.ref l]) Q E s:=WP F.sub_tuple_set F.sub_tuple_frozenset (by decide) Di (λa b=>Walks.tuple a _ l b items) f g i j h
end
section
variable {X is:List Int} {o:wa}
theorem JU{w:zb}{A:Yb}{E:wa->Ea->Prop}{s:Ea}{r:Ca}{a:Bool->Ea->Prop}(hT:s.TypeIs (.ref r) "set")(h:a ua s):Qa (bb pg w) A (Xp (.ref r)) a E s:=by
 unfold Xp;refine ga (qaT hT PySem.F.slot_set_len.lookup ?_);generalize d:("set.__len__":String)=id0
 wp_delta
 refine U (show splitId id0=J ("set","__len__")from by subst d;decide+kernel) ?_;subst d;refine ga (Mo (T:="set") (b:=Z) hT (by refine U (vE _ _) ?_;kernel_rfl) ?_);refine li (λc=>zc c (by decide)) λu=>(li (λu=>?_) λc=>zc (by decide+kernel) c);exact ga (Ax hT (ta h))
theorem S0{w:zb}{a:Ca}{ep:Nat}{o0 o1 o2:Option jk}:KdlSrc pg w "set" a a (sq o0 o1 o2).length (λi v=>∃e,(Ik w a ep o0 o1 o2)[i]?=J e/\v=e.2) (λh=>S3 w h a ep o0 o1 o2)where
 type:=λu hm=>S3.typeIs hm
 there:=λu hm=>⟨qc hm,qc hm⟩
 keep:=λu u hm hk=>hk a (.inl rfl) _ hm
 notList:=by decide
 notTuple:=by decide
 hint:=λu u u u hm hq=>JU (S3.typeIs hm) hq
 iter:=λu s hh hm=>⟨_,_,λu u hq=>SJ hm hq,Walks.s3 hh _ a (ic (qc hm)) ep o0 o1 o2,
  ⟨⟨_,0,Oa _ rfl,rfl,rfl,λu=>cP _ _ _⟩,Ba _ hm⟩⟩
theorem s7(a b c:Option jk):(sq a b c).map (λx=>x.2)=((if a.isSome then[cm 0 (a.getD 0)]else[])++((if b.isSome then[cm 1 (b.getD 0)]else[])++(if c.isSome then[cm 2 (c.getD 0)]else[]))):=by
 induction a<;>induction b<;>induction c<;>rfl
theorem ly{a b c:Option jk}(f:a.isSome=X.contains 0)(g:b.isSome=X.contains 1)(h:c.isSome=X.contains 2):(sq a b c).map (λx=>x.1)=Ig X/\∀e∈sq a b c,∃t,e.2=.int e.1 t:=by
 unfold Ig;simp only[Ri,List.filter_nil,<-f,<-g,<-h]
 induction a<;>induction b<;>induction c<;>refine⟨rfl,?_⟩<;>intro e d<;>simp[sq,iB]at d<;>(try rcases d with rfl|rfl|rfl)<;>(try rcases d with rfl|rfl)<;>(try subst d)<;>exact⟨_,rfl⟩
theorem ax(X:List Int):(Ig X).Pairwise (λx y=>x<=y):=w5 _ (by decide)
variable [O:Av]
variable {w:zb} {S:qb} {L:Ca} {W:List Ca} {Q P:St} {s:Ea} {A:Yb} {n:Nat}
theorem iF(r:R w S W Q s.heap)(x:VR w W s.heap (.iset X) o):Qa (bb pg w) A (call (.builtin "len") [o]) (PV w S L W s Q (.int (Ig X).length)) No s:=by
 refine aa λe=>?_;obtain⟨a,b,c,d,rfl,f,g,i,j,h⟩:=x.wF;refine e ?_;have k:S3 w s.heap a j b c d:=h;refine call_len_set (es:=(sq b c d).toArray) k ⟨rfl,rfl,rfl⟩ rfl (ug _ _ _ _) ?_ ?_
 ·have:=dE b c d
  refine U Hb ?_;lia
 ·refine U Hb (U (show(sq b c d).length=(Ig X).length from by rw[<-(ly f g i).1,ya]) ?_)
  exact PV.same r (.int _ _)
theorem tx{v:V}(E:Eg n A)(r:R w S W Q s.heap)(l:Um S L W s.heap)(x:VR w W s.heap (.iset X) o)(F:gj ((Ig X).map V.int) Q=J (v,P)):
 Qa (bb pg w) A (call (.builtin "sorted") [o]) (PV w S L W s P v) No s:=by
 refine aa λg=>?_;obtain⟨a,o0,o1,o2,rfl,G,I,K,ep,h⟩:=x.wF;have i:S3 w s.heap a ep o0 o1 o2:=h;have N:=dE o0 o1 o2;obtain⟨T,hk⟩:=ly G I K;have d:=Mp w a ep o0 o1 o2;obtain⟨mm,y⟩:=l.ns;refine g ?_;refine kdu_sorted (S0 (w:=w) (a:=a) (ep:=ep) (o0:=o0) (o1:=o1) (o2:=o2)) E.hh (cj y) vg i (by refine U zf ?_;lia) λD i z B F' N' C k hv=>?_;have hi:Xi B ((Ik w a ep o0 o1 o2).map λx=>x.1):=by
  refine Dq (w:=w) (by exact U k (U d.length_eq rfl)) λj v q=>?_;refine aa λg=>?_;obtain⟨e,f,b⟩:=hv j v q;obtain⟨t,c⟩:=hk e (d.mem_iff.mp (Ma f));refine g (⟨e.1,e.2,f,?_⟩);exact U b (U c (xm _ _ _ _))
 refine ksk_lsort (A:=A.in1) (s:={s with heap:=i,toks:=z}) (news':=λo=>(D,o)::Ai s.heap L) (its:=B.toArray) F' N' (λo=>qeE λp d=>ic (C p d)) rfl hi (by refine U (ya _) (U d.length_eq ?_);lia) λp t c x1 j b i' u p' m u=>?_;have f:=Zq p' m;rw[<-(Zq ((T▸(d.map λx=>x.1).symm:(Ig X).Perm _)) (ax X):Ig X=Yq ((Ik w a ep o0 o1 o2).map λx=>x.1))]at f;subst f;have hg:s.heap.get? D=Y:=by
  induction q:s.heap.get? D with
  |none=>rfl|some ob=>
   by_cases e:D=L
   ·exact zc e (b _ sa).2.1
   ·exact zc (C _ (we.mpr ⟨e,q⟩)) (dc _)
 exact Jq (tk':=z) r l y j.ns (News.keepAll1 b) hg (b _ sa).1 (ir i') F
theorem L5(h:is.all (λi=>decide (0<=i)&&decide (i<=2))=Z):∀k∈is,k=0\/k=1\/k=2:=λk a=>by
 have:=md.mp h k a;simp at this
 lia
theorem jF{X:List V}(c:Eg n A)(r:R w S W Q s.heap)(x:VR w W s.heap (.t X) o)(d:ki X=J is)(e:is.all (λi=>decide (0<=i)&&decide (i<=2))=Z):
 Qa (bb pg w) A (call (.type "set") [o]) (PV w S L W s Q (.iset is)) No s:=by
 refine aa λf=>?_;obtain⟨a,g,m,rfl,h,i,l,q⟩:=x.wF;refine f (dA (items:=g.toArray) (ns:=is) c.hh (lf i) (by simpa using(yi q d)) (L5 e) λt u j v y z k b p=>?_);exact PV.wI r p (.iset b.1 b.2.1 b.2.2 ⟨j,k⟩)
theorem QC{i:Nat}{X:List V}(c:Eg n A)(r:R w S W Q s.heap)(x:VR w W s.heap (.ref i) o)(e:tc Q i=J X)(d:ki X=J is)(f:is.all (λi=>decide (0<=i)&&decide (i<=2))=Z):
 Qa (bb pg w) A (call (.type "set") [o]) (PV w S L W s Q (.iset is)) No s:=by
 refine aa λg=>?_;obtain⟨a,h,m,rfl,_,j,t,k⟩:=r.list e x;refine g (RC (items:=h.toArray) (ns:=is) c.hh (ve j) (by simpa using(yi k d)) (L5 f) λu v l y z B p b q=>?_);exact PV.wI r q (.iset b.1 b.2.1 b.2.2 ⟨l,p⟩)
theorem aV:Ij w S where
 len:=λu r x=>iF r x
 sorted:=λAK r l x en=>tx AK r l x en
 ofTup:=λAK r x ei h3=>jF AK r x ei h3
 ofList:=λAK r x e ei h3=>QC AK r x e ei h3
end
set_option maxHeartbeats 4000000
theorem DN(hc:WalkO qv Zr (XL qv []) (eR Nj) rx.toRowW (by exact((qfw qv rx.name).get (by decide+kernel)).1) (by exact((qfw qv rx.name).get (by decide+kernel)).2) λf a=>G5 f a):Nh.Holds:=by
 refine holds_law (by rw[qao];decide+kernel) λa=>?_;refine holds_open (r:=rx) (q:=qv) (loose:=Zr) (Xt:=λs=>xlAt qv [] s&&recOk (yD rx.toRowW) s) (XP:=XL qv []) (Yf:=fW Nj) (Ya:=gW Nj) (YP:=eR Nj) (N:=6000) Y7 (Hook.of Nj) (Hook.keeps Nj) (λs e=>xl_of s (Aa.mp e).1) XL.keeps (by rfl) (by rfl) (by rfl) (λs e=>recFacts_of (Aa.mp e).2) (by rfl) (by assumption) (by decide+kernel) ⟨rfl,rfl,rfl,rfl,rfl,by decide+kernel⟩ ?hw ?hc
 case hw=>w_witness2
 case hc=>exact hc
noncomputable def Sm(l:Nat)(b:List Int)(a:Nat):Option (List Int):=if a=l then J b else Y
def Zy:Prop:=∀(l:Nat)(a:List Int),a.length<=63->∃b,vl (ux (Sm l a)) qT 12 481 [.k (.ref l)] []=J (.bool Z,b)
theorem JJ(hh:Zy){w:zb}{K:Ue}{s:Ea}(x:K.In s.heap)(F:am K){l:Ca}{vs:List wa}{xs:List Int}(hL:s.heap.IsList l vs.toArray)(hI:Xi vs xs)(hx:xs.length<=63):
 dh (bb pg w) qeJ (.call (.ref 481) ⟨[.ref l],[]⟩) (λq s'=>∃h' tk',q=.ok (.ret (.bool Z))/\s'={s with heap:=h',toks:=tk'}/\∀b o,s.heap.get? b=J o->h'.get? b=J o) s:=by
 obtain⟨σ',e⟩:=hh l xs hx;have B:Jk s.heap K (ux (Sm l xs)):=iS x F λa ys q=>by
  unfold Sm at q
  split at q<;>(first|exact ja q|obtain rfl:=ba q)
  rename_i z;subst z;exact⟨by lia,vs,hL,hI⟩
 have GO:=L7 x F;have C:=vS (w:=w) B (rY (scr:=Sm l xs) F) GO (λI=>aV) (λI=>B3 B GO) (NY x F) (H1 F) 12 ⟨λu=>False⟩;have AK: @Eg 24 qeJ:=⟨rfl,by decide+kernel,by decide+kernel⟩
 letI:Av:=⟨λu=>False⟩
 have r:R w s.heap [] [] s.heap:=⟨rfl,.nil,λa h=>(Tb h).elim,λa h=>h.elim,λu u e=>e,λi o a e=>by simp at e⟩;refine Oc (C qeJ AK 481 [.k (.ref l)] [.ref l] [] [] s (.bool Z) σ' 0 r (by decide) (.cons (.k _) .nil) e) λq s' p=>?_;obtain⟨val,rfl,ρ',t,k,r',xv⟩:=p;rw[(xv.wF:val=.bool Z)];exact⟨s'.heap,s'.toks,rfl,t,λb o e=>r'.wK b o e⟩
set_option tactic.hygienic true in
theorem QQ(hh:Zy):WalkO qv Zr (XL qv []) (eR Nj) rx.toRowW (by exact((qfw qv rx.name).get (by decide+kernel)).1) (by exact((qfw qv rx.name).get (by decide+kernel)).2) λf vs=>G5 f vs:=by
 intro w s₀ s₁ mg mb G yy fa o pm cd doc dV kV ho hd hcd hD hmg hg args vals as hpre hlay hrd hwl hlo;obtain⟨K,x,F⟩:=yy;have T:=G.T;clear ho hd hcd hD
 wrow_args hpre hlay hrd hwl hlo
 refine enter_call ?_;rename_i xs _ _ _ _ _ _ _ l vs _ hL _ _ _ hI _ hlen _;have hx:xs.length<=63:=by lia
 have hfa:fa=481:=by
  have q:=jZ x F T.g;have q2:mg ("law":Bb)=J (.ref fa):=hmg;rw[q]at q2;cases q2;rfl
 subst hfa;refine Oc (JJ hh x F hL hI hx) λq s' p=>?_;obtain⟨h',tk',rfl,rfl,hk⟩:=p;refine GoodW.toG ⟨.inl ⟨_,_,_,rfl,(raisesW_false ?_),.bool Z,?_,unshared_nil⟩,hk,rfl,hg⟩
 ·wrow_none_raised
 ·wrow_post
section
variable {o:O} {vs:List V} {x:W} {y:V}
set_option genCtorIdx true in
inductive mr where
 |a (i:Nat)|d (i:Nat)|f (i:Nat) (n:Bb)
theorem mr.f_inj{i j:Nat}{n m:Bb}(h:mr.f i n=mr.f j m):n=m:=by cases h;rfl
structure Wd where
 L:mr->Nat
 σ:ub
 τ:St
def Ug(a:ub)(z:mr):Prop:=match z with|.a i=>i<a.length|.d i=>∃o c,a[i]?=J o/\o.cls=J c|.f i n=>∃c,ii a i n=J (.o c)
def Ex(q:Wd)(E:Nat->Prop)(a:Nat):Prop:=(∃p,Ug q.σ p/\q.L p=a)\/E a
mutual
inductive VS(q:Wd)(E:Nat->Prop):W->V->Prop
 |none:VS q E .none .none|bool (b:Bool):VS q E (.bool b) (.bool b)|int (i:Int):VS q E (.int i) (.int i)|str (s:Bb):VS q E (.str s) (.str s)|k (v:wa):VS q E (.k v) (.k v)|rng (a b:Int):VS q E (.rng a b) (.rng a b)|iset (xs:List Int):VS q E (.iset xs) (.iset xs)|ref {i:Nat}:i<q.σ.length->VS q E (.ref i) (.ref (q.L (.a i)))|t {xs:List W} {ys:List V}:Pd q E xs ys->VS q E (.t xs) (.t ys)|l {xs:List W} {ys:List V} {a:Nat}:¬Ex q E a->q.τ[a]?=J (.list ys)->Pd q E xs ys->VS q E (.l xs) (.ref a)|dic {ks:List Int} {vs:List W} {es:List (Int×V)} {a:Nat}:¬Ex q E a->q.τ[a]?=J (.idict es)->es.map (λx=>x.1)=ks->Pd q E vs (es.map λx=>x.2)->VS q E (.dic ks vs) (.ref a)
inductive Pd(q:Wd)(E:Nat->Prop):List W->List V->Prop
 |nil:Pd q E [] []|cons {x:W} {xs:List W} {v:V} {vs:List V}:VS q E x v->Pd q E xs vs->Pd q E (x::xs) (v::vs)
end
inductive VC(q:Wd)(E:Nat->Prop):W->Nat->Prop
 |l {xs:List W} {ys:List V} {a:Nat}:q.τ[a]?=J (.list ys)->Pd q E xs ys->VC q E (.l xs) a|dic {ks:List Int} {vs:List W} {es:List (Int×V)} {a:Nat}:q.τ[a]?=J (.idict es)->es.map (λx=>x.1)=ks->Pd q E vs (es.map λx=>x.2)->VC q E (.dic ks vs) a
inductive VB(q:Wd)(E:Nat->Prop):W->V->Prop
 |val {w:W} {v:V}:VS q E w v->VB q E w v|o {c:W} {a:Nat}:E a->VC q E c a->VB q E (.o c) (.ref a)|fld {i:Nat} {n:Bb}:Ug q.σ (.f i n)->VB q E (.fld i n) (.ref (q.L (.f i n)))
class inductive LD(q:Wd)(E:Nat->Prop):List W->List V->Prop
 |nil:LD q E [] []|cons {x:W} {xs:List W} {v:V} {vs:List V}:VB q E x v->LD q E xs vs->LD q E (x::xs) (v::vs)
inductive FV(q:Wd)(E:Nat->Prop)(i:Nat)(n:Bb):W->V->Prop
 |val {w:W} {v:V}:VS q E w v->FV q E i n w v|o {c:W}:VC q E c (q.L (.f i n))->FV q E i n (.o c) (.ref (q.L (.f i n)))
structure FS(q:Wd)(E:Nat->Prop)(i:Nat)(fs:List (Bb×W))(es:List (Bb×V)):Prop where
 keys:fs.map (λx=>x.1)=es.map (λx=>x.1)
 at_:∀n w,de fs n=J w->∃v,Pf es n=J v/\FV q E i n w v
inductive OS(q:Wd)(E:Nat->Prop)(i:Nat):OF->Prop
 |inst {c:Nat} {fs:List (Bb×W)} {es:List (Bb×V)}:q.τ[q.L (.a i)]?=J (.inst c (q.L (.d i)))->q.τ[q.L (.d i)]?=J (.h es)->FS q E i fs es->OS q E i ⟨J c,fs⟩|sd {fs:List (Bb×W)} {es:List (Bb×V)}:q.τ[q.L (.a i)]?=J (.h es)->FS q E i fs es->OS q E i ⟨Y,fs⟩
structure Rl(E:Nat->Prop)(q:Wd):Prop where
 inj:∀p p',Ug q.σ p->Ug q.σ p'->q.L p=q.L p'->p=p'
 lt:∀p,Ug q.σ p->q.L p<q.τ.length
 sep:∀p,Ug q.σ p->¬E (q.L p)
 elt:∀a,E a->a<q.τ.length
 obj:∀i o,q.σ[i]?=J o->OS q E i o
structure Le(q q':Wd):Prop where
 len:q.τ.length<=q'.τ.length
 usd:∀p,Ug q.σ p->Ug q'.σ p/\q'.L p=q.L p
 new:∀p,Ug q'.σ p->Ug q.σ p\/q.τ.length<=q'.L p
 keep:∀a o,q.τ[a]?=J o->(∀p,Ug q.σ p->q.L p≠a)->q'.τ[a]?=J o
variable {q q' X:Wd} {E:Nat->Prop}
theorem oh{a:Type}{l:List a}{i:Nat}{o:a}(h:l[i]?=J o):i<l.length:=(wb.mp h).1
theorem Le.refl:Le q q:=⟨Gb _,λu h=>⟨h,rfl⟩,λu h=>.inl h,λu u h u=>h⟩
theorem Le.trans(x:Le q q')(y:Le q' X):Le q X:=
 ⟨Za x.len y.len,λp h=>⟨(y.usd p (x.usd p h).1).1,((y.usd p (x.usd p h).1).2).trans (x.usd p h).2⟩,
  λp h=>(y.new p h).elim (λb=>(x.new p b).imp_right λz=>by refine U ((y.usd p b).2) ?_;exact z) λz=>.inr (Za x.len z),
  λa o e h=>y.keep a o (x.keep a o e h) λp u z=>(x.new p u).elim (λc=>h p c ((x.usd p c).2.symm.trans z)) λc=>dc _ (rb (oh e) (z▸c))⟩
theorem Le.ex(x:Le q q'){a:Nat}(e:q.τ[a]?=J o)(h:¬Ex q E a):¬Ex q' E a/\q'.τ[a]?=J o:=
 ⟨λz=>z.elim (λb=>by obtain⟨p,u,c⟩:=b;exact(x.new p u).elim (λd=>h (.inl ⟨p,d,(x.usd p d).2.symm.trans c⟩)) λd=>dc _ (rb (oh e) (c▸d))) λz=>h (.inr z),
  x.keep a o e λp u z=>h (.inl ⟨p,u,z⟩)⟩
theorem Le.a(x:Le q q'){i:Nat}(h:i<q.σ.length):i<q'.σ.length/\q'.L (.a i)=q.L (.a i):=x.usd (.a i) h
theorem VS.map{E':Nat->Prop}(c:∀i,i<q.σ.length->i<q'.σ.length/\q'.L (.a i)=q.L (.a i))(b:∀a o,q.τ[a]?=J o->¬Ex q E a->¬Ex q' E' a/\q'.τ[a]?=J o){w:W}{v:V}(h:VS q E w v):VS q' E' w v:=
 VS.rec (motive_1:=λw v u=>VS q' E' w v) (motive_2:=λw v u=>Pd q' E' w v) .none .bool .int .str .k .rng .iset (λh=>(c _ h).2▸.ref (c _ h).1) (λu h=>.t h)
  (λn e u h=>.l (b _ _ e n).1 (b _ _ e n).2 h) (λn e k u h=>.dic (b _ _ e n).1 (b _ _ e n).2 k h) .nil (λu u h t=>.cons h t) h
def qdo(q:Wd)(E:Nat->Prop)(j:W)(d:V):Prop:=match j,d with|.none,v=>v=.none|.bool b,v=>v=.bool b|.int i,v=>v=.int i|.str s,v=>v=.str s|.k c,v=>v=.k c|.rng a b,v=>v=.rng a b|.iset b,v=>v=.iset b|.ref i,v=>i<q.σ.length/\v=.ref (q.L (.a i))|.t b,v=>∃c,v=.t c/\Pd q E b c|.l b,v=>∃a c,v=.ref a/\q.τ[a]?=J (.list c)/\Pd q E b c|.dic c vs,v=>∃a b,v=.ref a/\q.τ[a]?=J (.idict b)/\b.map (λx=>x.1)=c/\Pd q E vs (b.map λx=>x.2)|.fld u y,z=>False|.o u,y=>False
theorem VS.wF{w:W}{v:V}(h:VS q E w v):qdo q E w v:=
 VS.rec (motive_1:=λw v u=>qdo q E w v) (motive_2:=λu u u=>True) rfl (λu=>rfl) (λu=>rfl) (λu=>rfl) (λu=>rfl) (λu u=>rfl) (λu=>rfl) (λh=>⟨h,rfl⟩) (λh u=>⟨_,rfl,h⟩) (λu e h u=>⟨_,_,rfl,e,h⟩) (λu e k h u=>⟨_,_,rfl,e,k,h⟩) trivial (λu u u u=>trivial) h
def qdl(q:Wd)(E:Nat->Prop)(z:W)(y:V):Prop:=match z,y with|.o c,v=>∃a,v=.ref a/\E a/\VC q E c a|.fld i n,v=>Ug q.σ (.f i n)/\v=.ref (q.L (.f i n))|w,v=>VS q E w v
theorem VB.wF{w:W}{v:V}(h:VB q E w v):qdl q E w v:=
 VB.rec (motive:=λw v y=>qdl q E w v) (λ{w v} h=>by induction w using W.casesOn<;>first|exact h|exact h.wF.elim) (λe h=>⟨_,rfl,e,h⟩) (λu=>⟨u,rfl⟩) h
def qdm(q:Wd)(E:Nat->Prop)(z:W)(j:Nat):Prop:=match z,j with|.l c,a=>∃b,q.τ[a]?=J (.list b)/\Pd q E c b|.dic c vs,a=>∃b,q.τ[a]?=J (.idict b)/\b.map (λx=>x.1)=c/\Pd q E vs (b.map λx=>x.2)|u,y=>False
theorem VC.wF{w:W}{a:Nat}(h:VC q E w a):qdm q E w a:=VC.rec (motive:=λw a u=>qdm q E w a) (λe h=>⟨_,e,h⟩) (λe k h=>⟨_,e,k,h⟩) h
theorem Pd.ind{P:List W->List V->Prop}(c:P [] [])(d:∀x a v vs,VS q E x v->Pd q E a vs->P a vs->P (x::a) (v::vs)){b:List W}(h:Pd q E b vs):P b vs:=
 Pd.rec (motive_1:=λu u u=>True) (motive_2:=λw v u=>P w v) trivial (λu=>trivial) (λu=>trivial) (λu=>trivial) (λu=>trivial) (λu u=>trivial) (λu=>trivial) (λu=>trivial) (λu u=>trivial) (λu u u u=>trivial) (λu u u u u=>trivial) c (λa t u e=>d _ _ _ _ a t e) h
theorem Pd.map{E':Nat->Prop}(b:∀i,i<q.σ.length->i<q'.σ.length/\q'.L (.a i)=q.L (.a i))(c:∀a o,q.τ[a]?=J o->¬Ex q E a->¬Ex q' E' a/\q'.τ[a]?=J o){w:List W}{v:List V}(h:Pd q E w v):Pd q' E' w v:=
 h.ind (P:=Pd q' E') .nil λu u u u a u t=>.cons (a.map b c) t
theorem VS.mono(x:Le q q'){w:W}{v:V}(h:VS q E w v):VS q' E w v:=h.map (λu h=>x.a h) λu u e n=>x.ex e n
theorem Pd.mono(x:Le q q'){w:List W}{v:List V}(h:Pd q E w v):Pd q' E w v:=h.map (λu h=>x.a h) λu u e n=>x.ex e n
theorem VC.mono(x:Le q q'){c:W}{a:Nat}(h:VC q E c a)(b:∀o,q.τ[a]?=J o->q'.τ[a]?=J o):VC q' E c a:=
 VC.rec (motive:=λc a u=>(∀o,q.τ[a]?=J o->q'.τ[a]?=J o)->VC q' E c a) (λe h b=>.l (b _ e) (h.mono x)) (λe k h b=>.dic (b _ e) k (h.mono x)) h b
theorem Rl.eget(r:Rl E q)(x:Le q q'){a:Nat}(h:E a)(e:q.τ[a]?=J o):q'.τ[a]?=J o:=x.keep a o e λp u z=>r.sep p u (z▸h)
theorem VB.mono(r:Rl E q)(x:Le q q'){w:W}{v:V}(h:VB q E w v):VB q' E w v:=
 VB.rec (motive:=λw v y=>VB q' E w v) (λh=>.val (h.mono x)) (λe h=>.o e (h.mono x λo=>r.eget x e)) (λu=>(x.usd _ u).2▸.fld (x.usd _ u).1) h
theorem LD.mono(r:Rl E q)(x:Le q q'){w:List W}{v:List V}(h:LD q E w v):LD q' E w v:=by
 induction h with
 |nil=>exact .nil|cons h u t=>exact .cons (h.mono r x) t
theorem Pd.len{w:List W}{v:List V}(h:Pd q E w v):w.length=v.length:=h.ind (P:=λw v=>w.length=v.length) rfl λu u u u u u t=>Gc (λx=>x+1) t
theorem Pd.uncons{c:List W}{v:V}(h:Pd q E (x::c) (v::vs)):VS q E x v/\Pd q E c vs:=
 h.ind (P:=λw v=>match w,v with|x::c,v::vs=>VS q E x v/\Pd q E c vs|_,_=>True) trivial λu u u u a b u=>⟨a,b⟩
theorem Pd.app{w b:List W}{v c:List V}(h:Pd q E w v)(k:Pd q E b c):Pd q E (w++b) (v++c):=h.ind (P:=λw v=>Pd q E (w++b) (v++c)) k λu u u u a u t=>.cons a t
theorem Pd.get{w:List W}{v:List V}(h:Pd q E w v){i:Nat}(e:w[i]?=J x):∃y,v[i]?=J y/\VS q E x y:=
 h.ind (P:=λw v=>∀i,w[i]?=J x->∃y,v[i]?=J y/\VS q E x y) (λu e=>ja e) (λu u v u a u t i=>Sa i (λe=>⟨v,rfl,ba e▸a⟩) λi e=>t i e) i e
theorem Pd.set{w:List W}{v:List V}(h:Pd q E w v)(i:Nat)(k:VS q E x y):Pd q E (w.set i x) (v.set i y):=
 h.ind (P:=λw v=>∀i,Pd q E (w.set i x) (v.set i y)) (λu=>.nil) (λu u u u a b t i=>Sa i (.cons k b) λi=>.cons a (t i)) i
theorem Pd.take{w:List W}{v:List V}(h:Pd q E w v)(i:Nat):Pd q E (w.take i) (v.take i):=
 h.ind (P:=λw v=>∀i,Pd q E (w.take i) (v.take i)) (λi=>by refine U TX (U TX ?_);exact .nil) (λu u u u a u t i=>Sa i .nil λi=>.cons a (t i)) i
theorem Pd.drop{w:List W}{v:List V}(h:Pd q E w v)(i:Nat):Pd q E (w.drop i) (v.drop i):=
 h.ind (P:=λw v=>∀i,Pd q E (w.drop i) (v.drop i)) (λi=>by refine U xA (U xA ?_);exact .nil) (λu u u u a b t i=>Sa i (.cons a b) λi=>t i) i
theorem Pd.rep(h:VS q E x y)(n:Nat):Pd q E (Ia n x) (Ia n y):=un .nil (λu t=>.cons h t) n
theorem VB.nb{w:W}{v:V}(h:VB q E w v):nb w=Z->VS q E w v:=
 VB.rec (motive:=λw v u=>Mine.Internal.nb w=Z->VS q E w v) (λh u=>h) (λu u h=>zc h ia) (λu h=>zc h ia) h
theorem VS.nb{w:W}{v:V}(h:VS q E w v):nb w=Z:=
 VS.rec (motive_1:=λw u u=>Mine.Internal.nb w=Z) (motive_2:=λu u u=>True) rfl (λu=>rfl) (λu=>rfl) (λu=>rfl) (λu=>rfl) (λu u=>rfl) (λu=>rfl) (λu=>rfl) (λu u=>rfl) (λu u u u=>rfl) (λu u u u u=>rfl) trivial (λu u u u=>trivial) h
theorem LD.nbs{w:List W}{v:List V}(h:LD q E w v)(g:BA w=Z):Pd q E w v:=by
 induction h with
 |nil=>exact .nil|cons a u t=>exact .cons (a.nb (Aa.mp g).1) (t (Aa.mp g).2)
end
section
variable {w:W} {v:V} {o:O} {b:Nat}
theorem Ej(n m:Bb)(w:W)(a:List (Bb×W)):de (jj a n w) m=if n=m then J w else de a m:=by
 induction a with
 |nil=>rfl|cons p r c=>
  show de (if p.1=n then(p.1,w)::r else(p.1,p.2)::jj r n w) m=if n=m then J w else if p.1=m then J p.2 else de r m
  by_cases h:p.1=n
  ·refine U (Dd h) ?_
   show(if p.1=m then J w else de r m)=_
   refine U h ?_;by_cases z:n=m
   ·exact U (Dd z) (U (Dd z) rfl)
   ·exact U (fe z) (U (fe z) (U (fe z) rfl))
  ·refine U (fe h) ?_
   show(if p.1=m then J p.2 else de (jj r n w) m)=_
   refine U c ?_;by_cases z:p.1=m
   ·exact U (Dd z) (U (fe λy=>h (z.trans y.symm)) (U (Dd z) rfl))
   ·exact U (fe z) (U (fe z) rfl)
theorem BJ(n m:Bb)(w:V)(a:List (Bb×V)):Pf (Hh a n w) m=if n=m then J w else Pf a m:=by
 induction a with
 |nil=>rfl|cons p r c=>
  show Pf (if p.1=n then(p.1,w)::r else(p.1,p.2)::Hh r n w) m=if n=m then J w else if p.1=m then J p.2 else Pf r m
  by_cases h:p.1=n
  ·refine U (Dd h) ?_
   show(if p.1=m then J w else Pf r m)=_
   refine U h ?_;by_cases z:n=m
   ·exact U (Dd z) (U (Dd z) rfl)
   ·exact U (fe z) (U (fe z) (U (fe z) rfl))
  ·refine U (fe h) ?_
   show(if p.1=m then J p.2 else Pf (Hh r n w) m)=_
   refine U c ?_;by_cases z:p.1=m
   ·exact U (Dd z) (U (fe λy=>h (z.trans y.symm)) (U (Dd z) rfl))
   ·exact U (fe z) (U (fe z) rfl)
theorem LN(n:Bb)(w:W)(v:V)(c:List (Bb×W)):∀a:List (Bb×V),c.map (λx=>x.1)=a.map (λx=>x.1)->(jj c n w).map (λx=>x.1)=(Hh a n v).map (λx=>x.1):=by
 induction c with
 |nil=>
  intro a h
  induction a using ma with
  |nil=>rfl|cons u y=>exact zc h.symm (Bc _ _)
 |cons p c d=>
  intro a h
  induction a using ma with
  |nil=>exact zc h (Bc _ _)|cons l a=>
   have e:p.1=l.1:=Xd h;show((if p.1=n then(p.1,w)::c else(p.1,p.2)::jj c n w).map λx=>x.1)=(if l.1=n then(l.1,v)::a else(l.1,l.2)::Hh a n v).map λx=>x.1
   refine Ed e ?_;by_cases q:p.1=n
   ·exact U (Dd q) (U (Dd q) (Gc (λx=>p.1::x) (wd h)))
   ·exact U (fe q) (U (fe q) (Gc (λx=>p.1::x) (d a (wd h))))
variable {q X:Wd} {E:Nat->Prop} {i:Nat} {n:Bb}
theorem FV.mono(x:Le q X)(h:FV q E i n w v):(∀c,w=.o c->Ug q.σ (.f i n))->(∀c,w=.o c->∀o,q.τ[q.L (.f i n)]?=J o->X.τ[q.L (.f i n)]?=J o)->FV X E i n w v:=
 FV.rec (motive:=λw v y=>(∀c,w=.o c->Ug q.σ (.f i n))->(∀c,w=.o c->∀o,q.τ[q.L (.f i n)]?=J o->X.τ[q.L (.f i n)]?=J o)->FV X E i n w v) (λh y y=>.val (h.mono x))
  (λh u a=>have e:=(x.usd _ (u _ rfl)).2;e▸.o (e.symm▸h.mono x (a _ rfl))) h
theorem OS.mono(x:Le q X){o:OF}(f:q.σ[i]?=J o)(a:∀p,(p=.a i\/p=.d i\/∃n,p=.f i n)->Ug q.σ p->∀o,q.τ[q.L p]?=J o->X.τ[q.L p]?=J o)(h:OS q E i o):OS X E i o:=by
 have k:∀{fs es},o.fs=fs->FS q E i fs es->FS X E i fs es:=λg F=>⟨F.keys,λn w e=>by
  refine aa λj=>?_;obtain⟨v,l,z⟩:=F.at_ n w e;refine j ?_;have u:∀c,w=.o c->Ug q.σ (.f i n):=λc d=>⟨c,by unfold ii;refine U f ?_;exact(g▸e).trans (Gc J d)⟩;exact⟨v,l,z.mono x u λc d=>a _ (.inr (.inr ⟨n,rfl⟩)) (u c d)⟩⟩
 have d:Ug q.σ (.a i):=oh f;cases h with
 |inst j r F=>
  have l:Ug q.σ (.d i):=⟨_,_,f,rfl⟩;have m:=(x.usd _ l).2;exact .inst (by refine U ((x.usd _ d).2) (U m ?_);exact a _ (.inl rfl) d _ j) (by refine U m ?_;exact a _ (.inr (.inl rfl)) l _ r) (k rfl F)
 |sd j F=>exact .sd (by refine U ((x.usd _ d).2) ?_;exact a _ (.inl rfl) d _ j) (k rfl F)
theorem Rl.more(r:Rl E q){τ':St}(c:q.τ.length<=τ'.length)(d:∀(a:Nat)(o:O),q.τ[a]?=J o->τ'[a]?=J o):Rl E ⟨q.L,q.σ,τ'⟩/\Le q ⟨q.L,q.σ,τ'⟩:=by
 have x:Le q ⟨q.L,q.σ,τ'⟩:=⟨c,λp h=>⟨h,rfl⟩,λp h=>.inl h,λa o e y=>d a o e⟩;exact⟨⟨r.inj,λp u=>rb (r.lt p u) c,r.sep,λa h=>rb (r.elt a h) c,λi o h=>(r.obj i o h).mono x h λp y y o=>d _ o⟩,x⟩
theorem Rl.push(r:Rl E q)(o:O):Rl E ⟨q.L,q.σ,q.τ++[o]⟩/\Le q ⟨q.L,q.σ,q.τ++[o]⟩:=
 r.more (by refine U Ha ?_;exact Nc _ _) λa c e=>by refine U (Xa (oh e)) ?_;exact e
theorem cw{a:St}:(a++[o])[a.length]?=J o:=by refine U (La (Gb _)) (U (jh _) ?_);rfl
theorem Rl.top(r:Rl E q):¬Ex q E q.τ.length:=λz=>z.elim (λa=>by obtain⟨p,u,e⟩:=a;exact dc _ (e▸r.lt p u)) λz=>dc _ (r.elt _ z)
theorem Rl.add(r:Rl E q)(c:b<q.τ.length)(d:∀p,Ug q.σ p->q.L p≠b)(e:∀i o,q.σ[i]?=J o->OS q (λa=>E a\/a=b) i o):Rl (λa=>E a\/a=b) q:=
 ⟨r.inj,r.lt,λp u z=>z.elim (r.sep p u) (d p u),λa z=>z.elim (r.elt a) λz=>z▸c,e⟩
theorem VS.sub{c:Nat->Prop}(hEx:∀a,c a->E a)(h:VS q E w v):VS q c w v:=h.map (λu h=>⟨h,rfl⟩) λu u e n=>⟨λz=>n (z.imp_right (hEx _)),e⟩
theorem Pd.sub{c:Nat->Prop}(hEx:∀a,c a->E a){w:List W}{v:List V}(h:Pd q E w v):Pd q c w v:=h.map (λu h=>⟨h,rfl⟩) λu u e n=>⟨λz=>n (z.imp_right (hEx _)),e⟩
theorem zM(c:q.τ.length<=b){a:Nat}(e:q.τ[a]?=J o)(h:¬Ex q E a):¬Ex q (λa=>E a\/a=b) a:=
 λz=>z.elim (λu=>h (.inl u)) λz=>z.elim (λz=>h (.inr z)) λz=>dc _ (rb (oh e) (z▸c))
theorem VS.sup(c:q.τ.length<=b)(h:VS q E w v):VS q (λa=>E a\/a=b) w v:=h.map (λu h=>⟨h,rfl⟩) λu u e n=>⟨zM c e n,e⟩
theorem Pd.sup(c:q.τ.length<=b){w:List W}{v:List V}(h:Pd q E w v):Pd q (λa=>E a\/a=b) w v:=h.map (λu h=>⟨h,rfl⟩) λu u e n=>⟨zM c e n,e⟩
end
section
variable {i a:Nat} {b c:Bool} {O:List W} {N:St}
section
variable {X T R S K:Type}
def Sb(P:X->T->Prop)(x:Option X)(y:Option T):Prop:=∀a,x=J a->∃b,y=J b/\P a b
theorem Sb.rf{x:Option X}:Sb Eq x x:=λa e=>⟨a,e,rfl⟩
theorem Sb.no{P:X->T->Prop}{y:Option T}:Sb P Y y:=λu e=>nosome' e
where nosome' {P:Prop} {a:X} (e:Y=J a):P:=ja e
theorem Sb.ok{P:X->T->Prop}{a:X}{b:T}(h:P a b):Sb P (J a) (J b):=λu e=>⟨b,rfl,ba e▸h⟩
theorem Sb.bind{P:X->T->Prop}{d:R->S->Prop}{x:Option X}{y:Option T}{k:X->Option R}{k2:Option T->Option S}(h:Sb P x y)(f:∀a b,P a b->Sb d (k a) (k2 (J b))):Sb d (x.bind k) (k2 y):=by
 induction x with
 |none=>exact .no|some a=>obtain⟨b,e,p⟩:=h a rfl;refine U e ?_;exact f a b p
theorem Sb.map{P:X->T->Prop}{d:R->S->Prop}{x:Option X}{y:Option T}{k:X->R}{k2:Option T->Option S}(h:Sb P x y)(f:∀a b,P a b->Sb d (J (k a)) (k2 (J b))):Sb d (x.map k) (k2 y):=by
 induction x with
 |none=>exact .no|some a=>obtain⟨b,e,p⟩:=h a rfl;refine U e ?_;exact f a b p
theorem Sb.wY{P:X->T->Prop}{d:R->S->Prop}{x:Option X}{y:Option T}{k:X->Option R}{k2:T->Option S}(h:Sb P x y)(e:∀a b,P a b->Sb d (k a) (k2 b)):Sb d (x.bind k) (y.bind k2):=Sb.bind (k2:=λo=>o.bind k2) h e
theorem Sb.map2{P:X->T->Prop}{d:R->S->Prop}{x:Option X}{y:Option T}{k:X->R}{k2:T->S}(h:Sb P x y)(e:∀a b,P a b->d (k a) (k2 b)):Sb d (x.map k) (y.map k2):=Sb.map (k2:=Op k2) h λa b p=>Sb.ok (e a b p)
theorem Sb.wT{d:R->S->Prop}{x y:Option X}{k:X->Option R}{k2:X->Option S}(h:Sb Eq x y)(f:∀a,Sb d (k a) (k2 a)):Sb d (x.bind k) (y.bind k2):=Sb.wY h λa u e=>e▸f a
theorem Sb.mapE{x y:Option X}{k:X->R}(h:Sb Eq x y):Sb Eq (x.map k) (y.map k):=Sb.map2 h λu u e=>e▸rfl
theorem Sb.mapR{P:X->T->Prop}{d:X->S->Prop}{x:Option X}{y:Option T}{k2:T->S}(h:Sb P x y)(f:∀a b,P a b->d a (k2 b)):Sb d x (y.map k2):=λa e=>by
 obtain⟨b,g,p⟩:=h a e;exact⟨k2 b,by refine U g ?_;rfl,f a b p⟩
theorem Sb.wJ{d:R->S->Prop}{x:Option X}{y:Option S}{k:X->Option R}(e:∀a,x=J a->Sb d (k a) y):Sb d (x.bind k) y:=by
 induction x with
 |none=>exact .no|some a=>exact e a rfl
theorem Sb.lookm{d:R->S->Prop}{x:Option X}{y:Option S}{k:X->R}(e:∀a,x=J a->Sb d (J (k a)) y):Sb d (x.map k) y:=by
 induction x with
 |none=>exact .no|some a=>exact e a rfl
theorem Sb.imp{P d:X->T->Prop}{x:Option X}{y:Option T}(h:Sb P x y)(f:∀a b,P a b->d a b):Sb d x y:=λa e=>(h a e).imp λu z=>⟨z.1,f _ _ z.2⟩
inductive PX(E:Nat->Prop)(q:Wd)(V:Wd->X->T->Prop)(a:X×ub)(b:T×St):Prop
 |mk (L:mr->Nat):Le q ⟨L,a.2,b.2⟩->Rl E ⟨L,a.2,b.2⟩->V ⟨L,a.2,b.2⟩ a.1 b.1->PX E q V a b
abbrev SX(E:Nat->Prop)(q:Wd)(V:Wd->X->T->Prop)(x:Option (X×ub))(y:Option (T×St)):Prop:=Sb (PX E q V) x y
variable {E:Nat->Prop} {q q':Wd} {V:Wd->X->T->Prop} {Q:Wd->R->S->Prop}
theorem SX.at(x:Le q q')(r:Rl E q'){a:X}{b:T}(h:V q' a b):SX E q V (J (a,q'.σ)) (J (b,q'.τ)):=Sb.ok (.mk q'.L x r h)
theorem SX.ret(r:Rl E q){a:X}{b:T}(h:V q a b):SX E q V (J (a,q.σ)) (J (b,q.τ)):=SX.at .refl r h
theorem SX.le(x:Le q q'){d:Option (X×ub)}{e:Option (T×St)}(h:SX E q' V d e):SX E q V d e:=Sb.imp h λu u p=>p.rec λL y r v=>.mk L (x.trans y) r v
theorem SX.bind{x:Option (X×ub)}{y:Option (T×St)}{k:X×ub->Option (R×ub)}{k2:Option (T×St)->Option (S×St)}(h:SX E q V x y)(d:∀q' a b,Le q q'->Rl E q'->V q' a b->SX E q' Q (k (a,q'.σ)) (k2 (J (b,q'.τ)))):SX E q Q (x.bind k) (k2 y):=
 Sb.bind h λa b p=>p.rec λL y r v=>SX.le y (d ⟨L,a.2,b.2⟩ a.1 b.1 y r v)
theorem SX.map{x:Option (X×ub)}{y:Option (T×St)}{k:X×ub->R×ub}{k2:Option (T×St)->Option (S×St)}(h:SX E q V x y)(d:∀q' a b,Le q q'->Rl E q'->V q' a b->SX E q' Q (J (k (a,q'.σ))) (k2 (J (b,q'.τ)))):SX E q Q (x.map k) (k2 y):=
 Sb.map h λa b p=>p.rec λL y r v=>SX.le y (d ⟨L,a.2,b.2⟩ a.1 b.1 y r v)
theorem SX.wY{x:Option (X×ub)}{y:Option (T×St)}{k:X×ub->Option (R×ub)}{k2:T×St->Option (S×St)}(h:SX E q V x y)(d:∀q' a b,Le q q'->Rl E q'->V q' a b->SX E q' Q (k (a,q'.σ)) (k2 (b,q'.τ))):SX E q Q (x.bind k) (y.bind k2):=SX.bind (k2:=λo=>o.bind k2) h d
theorem SX.map2{x:Option (X×ub)}{y:Option (T×St)}{k:X×ub->R×ub}{k2:T×St->S×St}(h:SX E q V x y)(d:∀q' a b,Le q q'->Rl E q'->V q' a b->SX E q' Q (J (k (a,q'.σ))) (J (k2 (b,q'.τ)))):SX E q Q (x.map k) (y.map k2):=SX.map (k2:=λo=>o.map k2) h d
end
theorem WJ{w:W}(h:Bk w=J i):w=.ref i:=by induction w using W.casesOn<;>first|exact ja h|exact Gc W.ref (ba h)
theorem qJ{w:W}{i:Int}(h:Ua w=J i):w=.int i:=by induction w using W.casesOn<;>first|exact ja h|exact Gc W.int (ba h)
theorem fK{w:W}{i:Bb}(h:br w=J i):w=.str i:=by induction w using W.casesOn<;>first|exact ja h|exact Gc W.str (ba h)
theorem RI{w:W}{i:Bool}(h:Li w=J i):w=.bool i:=by induction w using W.casesOn<;>first|exact ja h|exact Gc W.bool (ba h)
theorem rK{w:W}{i:List W}(h:ng w=J i):w=.t i:=by induction w using W.casesOn<;>first|exact ja h|exact Gc W.t (ba h)
theorem Fo{w:W}{i:W}(h:sK w=J i):w=.o i:=by induction w using W.casesOn<;>first|exact ja h|exact Gc W.o (ba h)
theorem wo{w:W}{i:List W}(h:Hl w=J i):w=.l i:=by induction w using W.casesOn<;>first|exact ja h|exact Gc W.l (ba h)
theorem Mq{u:Unit}(h:Ge b=J u):b=Z:=by
 induction b
 ·exact ja h
 ·rfl
theorem vi{w u:W}(h:kf w=J u):u=w/\nb w=Z:=by
 refine Ds h λy e z=>?_;subst z;exact⟨rfl,Mq e⟩
theorem Sb.okb{X T:Type}{P:X->T->Prop}(h:b=c){k:Unit->Option X}{k2:Unit->Option T}(d:b=Z->Sb P (k ()) (k2 ())):Sb P ((Ge b).bind k) ((Ge c).bind k2):=by
 subst h
 induction b
 ·exact .no
 ·exact d rfl
theorem Sb.okm{X T:Type}{P:X->T->Prop}(h:b=c){k:Unit->X}{k2:Unit->T}(d:b=Z->P (k ()) (k2 ())):Sb P ((Ge b).map k) ((Ge c).map k2):=by
 subst h
 induction b
 ·exact .no
 ·exact .ok (d rfl)
theorem Sb.okmb{X T:Type}{P:X->T->Prop}{k:Unit->X}{k2:Unit->Option T}(d:b=Z->Sb P (J (k ())) (k2 ())):Sb P ((Ge b).map k) ((Ge b).bind k2):=by
 induction b
 ·exact .no
 ·exact d rfl
theorem Sb.ifB{X T:Type}{P:X->T->Prop}(h:b=c){x d:Option X}{y e:Option T}(f:Sb P x y)(g:Sb P d e):Sb P (ln b x d) (ln c y e):=by
 subst h
 induction b
 ·exact g
 ·exact f
variable {q q':Wd} {E:Nat->Prop} {w:W} {v:V}
theorem VS.ref_inv(h:VS q E (.ref i) v):i<q.σ.length/\v=.ref (q.L (.a i)):=h.wF
theorem VS.tup_inv(h:VS q E (.t O) v):∃d,v=.t d/\Pd q E O d:=h.wF
theorem VB.ref_of(h:VB q E w v)(e:Bk w=J i):i<q.σ.length/\v=.ref (q.L (.a i)):=((WJ e)▸h:VB q E (.ref i) v).nb rfl |>.ref_inv
theorem VB.wZ(h:VB q E w v){i:Int}(e:Ua w=J i):v=.int i:=((qJ e)▸h:VB q E (.int i) v).wF.wF
theorem VB.str_of(h:VB q E w v){i:Bb}(e:br w=J i):v=.str i:=((fK e)▸h:VB q E (.str i) v).wF.wF
theorem VB.bool_of(h:VB q E w v){i:Bool}(e:Li w=J i):v=.bool i:=((RI e)▸h:VB q E (.bool i) v).wF.wF
theorem VB.tup_of(h:VB q E w v){i:List W}(e:ng w=J i):∃d,v=.t d/\Pd q E i d:=((rK e)▸h:VB q E (.t i) v).nb rfl |>.tup_inv
theorem Rl.get(r:Rl E q)(h:i<q.σ.length):∃o,q.σ[i]?=J o/\OS q E i o:=⟨q.σ[i],Wa h,r.obj i _ (Wa h)⟩
inductive G3(q:Wd)(E:Nat->Prop)(c:W)(v:V):Prop
 |at {a:Nat}:v=.ref a->VC q E c a->G3 q E c v|val:VS q E c v->G3 q E c v
theorem vq(r:Rl E q){n:Bb}{c:W}(h:ii q.σ i n=J (.o c)):VC q E c (q.L (.f i n)):=by
 refine aa λd=>(Wg h λo f g=>(d ?_));have e:∀{fs es},o.fs=fs->FS q E i fs es->VC q E c (q.L (.f i n)):=λj F=>by
  refine aa λd=>?_;obtain⟨v,_,z⟩:=F.at_ n _ (j▸g);refine d ?_;cases z with
  |val z=>exact zc z.nb ia|o z=>exact z
 cases r.obj i o f with
 |inst u y F=>exact e rfl F|sd u F=>exact e rfl F
theorem VB.cont(r:Rl E q)(h:VB q E w v){c:W}(e:pj w q.σ=J c):G3 q E c v:=by
 have y:=h.wF
 induction w using W.casesOn<;>first|exact ba e▸.val y|skip
 ·exact Wg e λb e1 e2=>(.at y.2 (vq r (Fo e2▸e1)))
 ·obtain⟨a,rfl,_,z⟩:=y
  exact ba e▸.at rfl z
theorem G3.l(h:G3 q E (.l O) v):∃a d,v=.ref a/\q.τ[a]?=J (.list d)/\Pd q E O d:=
 h.rec (λe h=>h.wF.elim λd z=>⟨_,d,e,z⟩) λh=>h.wF
theorem G3.dic{f:List Int}(h:G3 q E (.dic f O) v):∃a d,v=.ref a/\q.τ[a]?=J (.idict d)/\d.map (λx=>x.1)=f/\Pd q E O (d.map λx=>x.2):=
 h.rec (λe h=>h.wF.elim λd z=>⟨_,d,e,z⟩) λh=>h.wF
theorem G3.vs(h:G3 q E w v)(d:∀a,¬VC q E w a):VS q E w v:=by
 induction h with
 | «at» u h=>exact zc h (d _)|val h=>exact h
theorem Pi(r:Rl E q)(h:VB q E w v)(e:Pe w q.σ=J O):∃a d,v=.ref a/\q.τ[a]?=J (.list d)/\Pd q E O d:=by
 exact aa λf=>(Wg e λc g j=>(f ((h.cont r (wo j▸g)).l)))
theorem ge{d:List V}(h:N[a]?=J (.list d)):tc N a=J d:=by unfold tc;refine U h ?_;rfl
theorem Wq{d:List (Bb×V)}(h:N[a]?=J (.h d)):Vq N a=J d:=by unfold Vq;refine U h ?_;rfl
theorem uo{c d:Nat}(h:N[a]?=J (.inst c d)):wi N a=J (c,d):=by unfold wi;refine U h ?_;rfl
end
section
variable {xs:List W} {ys:List V}
variable {q S:Wd} {E:Nat->Prop} {w u:W} {v x:V} {tab:Ch} {T X:Nat->Option (List Int)} {n:Bb}
theorem VS.noC(h:VS q E w v)(a:qaw w=ua):fH v=J v:=by
 have y:=h.wF
 induction w using W.casesOn<;>first|exact y.elim|(rw[y];rfl)|(rw[y.2];rfl)|(obtain⟨_,rfl,_⟩:=y;rfl)|(obtain⟨_,_,rfl,_⟩:=y;rfl)|exact zc a λh=>Bd h
theorem aZ(h:nb w=Z):xT w=ua:=by induction w using W.casesOn<;>first|rfl|exact zc h λh=>Bd h
theorem QA(r:Rl E q)(h:VB q E w v):Sb (VB q E) ((Bk w).bind (Kx tab n q.σ)) (Ni (tab.w X) v n q.τ):=Sb.wJ λi e=>by
 obtain⟨g,rfl⟩:=h.ref_of e;obtain⟨o,b,O⟩:=r.get g;unfold Kx;refine U b ?_;cases O with
 |sd=>exact .no| @inst c s t j k F=>
  show Sb _ ((Ge (tab.attr c n)).bind _) ((wi q.τ (q.L (.a i))).bind _)
  refine U (uo j) ?_;show Sb _ _ ((Vq q.τ (q.L (.d i))).bind _)
  refine U (Wq k) (Sb.okb rfl λu=>Sb.wJ λa d=>(aa λf=>?_));obtain⟨l,m,z⟩:=F.at_ n a d;refine f ?_;clear f;refine U m ?_;cases z with
  |val z=>
   show Sb _ (Mine.Internal.ln (xT a) _ (Mine.Internal.ln (qaw a) _ _)) (fH l)
   refine U (aZ z.nb) ?_
   induction p:qaw a with
   |true=>exact .no|false=>refine U (z.noC p) ?_;exact .ok (.val z)
  | @o c z=>exact .ok (.fld ⟨c,by show(q.σ[i]?).bind _=_;refine U b ?_;exact d⟩)
theorem LG(h:Pd q E xs ys)(k:Int):Sb (VS q E) (qE xs k) (F4 ys k):=by
 unfold qE F4;refine Ed h.len ?_
 induction Ol xs.length k with
 |none=>exact .no|some i=>exactλu e=>h.get e
theorem AJ:∀{a:List (Int×V)}{b:List W},Pd q E b (a.map λx=>x.2)->∀k,Sb (VS q E) (By (a.map λx=>x.1) b k) (Qm a k):=by
 intro a
 induction a with
 |nil=>
  intro b u y
  induction b using ma<;>exact .no
 |cons d a e=>
  intro b h k
  induction b using ma with
  |nil=>exact .no|cons x b=>
   obtain⟨h,t⟩:=h.uncons;show Sb _ (if d.1=k then J x else By (a.map λx=>x.1) b k) (if d.1=k then J d.2 else Qm a k)
   by_cases c:d.1=k
   ·exact U (Dd c) (U (Dd c) (Sb.ok h))
   ·exact U (fe c) (U (fe c) (e t k))
theorem gI(r:Rl E q)(h:VB q E w v)(k:VB q E u x):Sb (VS q E) (nV w u q.σ) (cD v x q.τ):=Sb.wJ λc e=>by
 have C:=h.cont r e
 induction c using W.casesOn<;>try exact .no
 ·obtain⟨ys,rfl,z⟩:=(C.vs λy z=>z.wF).tup_inv
  exact Sb.wJ λi ei=>(k.wZ ei).symm▸LG z i
 ·refine aa λnq=>?_
  obtain⟨a,ys,rfl,e1,z⟩:=C.l;refine nq ?_;clear nq;show Sb _ _ ((q.τ[a]?).bind _)
  exact U e1 (Sb.wJ λi ei=>(k.wZ ei).symm▸LG z i)
 ·obtain⟨a,es,rfl,e1,rfl,z⟩:=C.dic
  show Sb _ _ ((q.τ[a]?).bind _)
  exact U e1 (Sb.wJ λi ei=>(k.wZ ei).symm▸AJ z i)
 ·skip
  refine aa λnq=>?_;obtain⟨hi,rfl⟩:=(C.vs λy z=>z.wF).ref_inv;obtain⟨o,ho,O⟩:=r.get hi;refine nq ?_;clear nq;refine Sb.wJ λs es=>(U (k.str_of es) ?_);unfold aF;refine U ho ?_;cases O with
  |inst=>exact .no| @sd fs es' e1 F=>
   show Sb _ ((de fs s).bind kf) ((q.τ[q.L (.a i)]?).bind _)
   refine U e1 (Sb.wJ λw' e'=>(aa λnq=>?_));obtain⟨v',e3,z⟩:=F.at_ s w' e';refine nq ?_;clear nq;show Sb _ _ (Pf es' s)
   refine U e3 ?_;cases z with
   |val z=>exactλu hu=>⟨v',rfl,(vi hu).1▸z⟩|o=>exact .no
theorem Ml(r:Rl E q)(h:Pd q E xs ys):SX E q (λx=>VS x E) (So xs q.σ) (gj ys q.τ):=Sb.okm (Gc Td h.len) λu=>
 have p:=r.push (.list ys)
 .mk q.L p.2 p.1 (VS.l (q:=⟨q.L,q.σ,q.τ++[.list ys]⟩) r.top cw (h.mono p.2))
theorem As(r:Rl E q)(h:Pd q E xs ys):SX E q (λx=>VS x E) (cH xs q.σ) (Bp ys q.τ):=Sb.okm (Gc Td h.len) λu=>.mk q.L .refl r (VS.t h)
theorem SX.vb{x:io}{y:Option (V×St)}(h:SX E q (λx=>VS x E) x y):SX E q (λx=>VB x E) x y:=Sb.imp h λu u p=>p.rec λL y r v=>.mk L y r (.val v)
theorem SX.int(r:Rl E q)(i:Int):SX E q (λx=>VS x E) (J (.int i,q.σ)) (J (.int i,q.τ)):=SX.ret (V:=λq=>VS q E) r (.int i)
theorem Pd.ints{i:List Int}:Pd q E (i.map .int) (i.map .int):=by
 induction i with
 |nil=>exact .nil|cons a i b=>exact .cons (.int a) b
theorem NS(b:∀a xs,T a=J xs->X a=J xs)(r:Rl E q)(h:VB q E w v){k:Int}:SX E q (λx=>VS x E) (W6 T k q.σ w) (KS (tab.w X) v k q.τ):=by
 induction w using W.casesOn<;>try exact Sb.no
 rename wa=>c
 induction c<;>try exact Sb.no
 rw[((h.wF).wF:v=.k _)];exact Sb.wJ λxs e=>by
  show SX E q _ _ ((X _).bind _)
  exact U (b _ _ e) (Sb.okb rfl λu=>Ml r (Pd.ints.take _))
theorem I0(r:Rl E q)(h:VB q E w v)(k:VB q E u x){f:Int->Int->Option Int}:SX E q (λx=>VS x E) (P4 f w u q.σ) (O4 f v x q.τ):=
 Sb.wJ λa d=>Sb.wJ λb e=>by
  refine U (h.wZ d) (U (k.wZ e) ?_);exact Sb.lookm λc g=>by
   show SX E q _ _ ((f a b).map _)
   exact U g (SX.int r c)
theorem UR(r:Rl E q)(h:VB q E w v)(k:VB q E u x):SX E q (λx=>VS x E) (ZX w u q.σ) (TR v x q.τ):=by
 have L:SX E q (λx=>VS x E) ((Pe w q.σ).bind λxs=>(Pe u q.σ).bind λys=>So (xs++ys) q.σ) (TR v x q.τ):=Sb.wJ λxs ex=>Sb.wJ λys ey=>by
  obtain⟨a,vs,rfl,e1,z1⟩:=Pi r h ex;obtain⟨b,us,rfl,e2,z2⟩:=Pi r k ey;show SX E q _ _ ((tc q.τ a).bind λxs=>(tc q.τ b).bind λys=>gj (xs++ys) q.τ)
  exact U (ge e1) (U (ge e2) (Ml r (z1.app z2)))
 induction w using W.casesOn<;>try exact L
 ·rename Int=>a
  refine U (h.wZ (i:=a) rfl) ?_;exact Sb.lookm λb eb=>by refine U (k.wZ eb) ?_;exact SX.int r _
 ·skip
  refine aa λnq=>?_;obtain⟨vs,rfl,z1⟩:=h.tup_of (i:=xs) rfl;refine nq ?_;clear nq;exact Sb.wJ λys ey=>by
   obtain⟨us,rfl,z2⟩:=k.tup_of ey;exact As r (z1.app z2)
theorem lS(r:Rl E q)(h:VB q E w v)(k:VB q E u x){a:He}:SX E q (λx=>VS x E) (mY a w u q.σ) (jS a v x q.τ):=by
 induction a<;>first|exact Sb.no|exact UR r h k|exact I0 r h k
end
section
variable {X:List W} {ys:List V}
variable {q S:Wd} {E:Nat->Prop} {w u:W} {v x:V} {T:Ch} {n:Bb}
theorem cy(h:VS q E w v):Sb Eq (YD w) (dB v):=by
 have y:=h.wF
 induction w using W.casesOn<;>first|exact Sb.no|(rw[y];exact Sb.ok rfl)|skip
 rw[(y:v=.str s)];show Sb Eq (if Ip s=Z then _ else _) (if Ip s=Z then _ else _)
 split
 ·exact Sb.ok rfl
 ·exact Sb.no
theorem gy{f:W->Option Vf}{g:V->Option Vf}(a:∀{w v},VS q E w v->Sb Eq (f w) (g v))(h:Pd q E X ys):Sb Eq (Oe f X) (om g ys):=
 h.ind (P:=λX ys=>Sb Eq (Oe f X) (om g ys)) (Sb.ok rfl) λu u u u h u t=>Sb.wT (a h) λu=>Sb.mapE t
theorem cE{n:Nat}{f:List Vf->Vf}(a:∀{w v},VS q E w v->Sb Eq (Zd n w) (mv n v q.τ))(h:Pd q E X ys):Sb Eq ((Oe (Zd n) X).map f) ((om (λx=>mv n x q.τ) ys).map f):=
 Sb.mapE (gy a h)
theorem pq:∀(n:Nat){w:W}{v:V},VS q E w v->Sb Eq (Zd n w) (mv n v q.τ):=by
 intro n
 induction n with
 |zero=>
  rintro _ _ h;exact cy h
 |succ n ih=>
  rintro w _ h;have y:=h.wF
  induction w using W.casesOn<;>first|exact Sb.no|(rw[y];exact Sb.ok rfl)|skip
  ·rw[y];exact cy (q:=q) (E:=E) (.str _)
  ·obtain⟨ys,rfl,z⟩:=y
   exact cE (ih) z
  ·obtain⟨a,ys,rfl,e,z⟩:=y
   show Sb Eq _ ((tc q.τ a).bind _)
   exact U (ge e) (cE (ih) z)
  ·exact y.elim
theorem dy(n:Nat)(h:VB q E w v):Sb Eq (Zd (n+1) w) (mv (n+1) v q.τ):=by
 have y:=h.wF
 induction w using W.casesOn<;>first|exact pq _ y|exact Sb.no|skip
 rename W=>c
 obtain⟨a,rfl,_,c0⟩:=y;have z:=c0.wF
 induction c using W.casesOn<;>try exact Sb.no
 refine aa λnq=>?_;obtain⟨ys,e,z⟩:=z;refine nq ?_;show Sb Eq _ ((tc q.τ a).bind _)
 exact U (ge e) (cE (pq n) z)
theorem uB{c:Type}(h:VB q E w v)(k:VB q E u x){f:Int->Int->c}:Sb Eq (tE f w u) (Iv f v x):=
 Sb.wJ λa d=>Sb.lookm λb e=>by refine U (h.wZ d) (U (k.wZ e) ?_);exact Sb.ok rfl
theorem vM(h:VB q E w v)(k:VB q E u x):Sb Eq (l4 w u) (j4 v x q.τ):=
 Sb.wT (dy 5 h) λy=>Sb.mapE (dy 5 k)
theorem Sb.nots{x y:Option Bool}(h:Sb Eq x y):Sb Eq (x.map λx=> !x) (y.map λx=> !x):=Sb.mapE h
theorem VN{k:Int}:∀d:List (Int×V),(Qm d k).isSome=decide (k∈d.map λx=>x.1):=by
 intro d
 induction d with
 |nil=>
  exact rfl
 |cons e d f=>
  obtain⟨a,b⟩:=e;show(if a=k then J b else Qm d k).isSome=_
  by_cases c:a=k
  ·exact U (Dd c) ((decide_eq_true (c▸sa)).symm)
  ·exact U (fe c) (U f (decide_eq_decide.mpr ⟨oa _,λz=>(fb.mp z).resolve_left (cq c)⟩))
theorem NG(h:Pd q E X ys)(e:Vf):Sb Eq (qcl e X) (tT e ys q.τ):=Sb.mapE (gy (pq 5) h)
theorem kN(r:Rl E q)(h:VB q E w v)(k:VB q E u x):Sb Eq (qcm w u q.σ) (qav v x q.τ):=Sb.wJ λc e=>by
 have C:=k.cont r e
 induction c using W.casesOn<;>try exact Sb.no
 ·refine aa λd=>?_
  obtain⟨a,ys,rfl,b,z⟩:=C.l;refine d ?_;clear d;show Sb Eq _ ((q.τ[a]?).bind _)
  refine U b ?_
  induction w using W.casesOn<;>try exact Sb.no
  ·exact U (h.wZ rfl) (NG z _)
  ·obtain⟨f,rfl,z2⟩:=h.tup_of rfl
   exact Sb.wT (pq 5 (.t z2)) λy=>NG z _
 ·obtain⟨a,d,rfl,b,rfl,z⟩:=C.dic
  show Sb Eq _ ((q.τ[a]?).bind _)
  refine U b ?_;exact Sb.lookm λi f=>by
   exact U (h.wZ f) (Sb.ok (VN d).symm)
theorem NB(h:VB q E w v):Sb Eq (Fz w) (hH v):=by
 have y:=h.wF
 induction w using W.casesOn<;>first|exact Sb.no|skip
 ·rw[y.wF];exact Sb.ok rfl
 ·rw[y.wF];exact Sb.ok rfl
 ·rw[y.wF];exact Sb.ok rfl
 ·obtain⟨_,rfl,_⟩:=y.wF;exact Sb.ok rfl
 ·obtain⟨_,_,rfl,_⟩:=y.wF;exact Sb.ok rfl
 ·obtain⟨_,rfl⟩:=y.wF;exact Sb.ok rfl
theorem mz(r:Rl E q)(h:VB q E w v)(k:VB q E u x){op:xr}:Sb Eq (aM op w u q.σ) (lq op v x q.τ):=by
 induction op<;>first|exact uB h k|exact vM h k|exact(vM h k).nots|exact kN r h k|skip
 ·induction u using W.casesOn<;>try exact Sb.no
  rw[k.wF.wF];exact NB h
 ·induction u using W.casesOn<;>try exact Sb.no
  ·rw[k.wF.wF];exact(NB h).nots
  ·rw[k.wF.wF];exact Sb.lookm λb eb=>by refine U (h.bool_of eb) ?_;exact Sb.ok rfl
 ·induction w using W.casesOn<;>try exact Sb.no
  exact U (h.wZ rfl) ((kN r (h.wZ rfl▸h) k).nots)
end
section
variable {q q':Wd} {E:Nat->Prop} {w u:W} {v x:V} {S:Ch} {n:Bb} {T:List W} {X:List V} {xs:List W} {ys:List V}
theorem Hn(h:Pd q E xs ys):Sb Eq (Dl xs) (ki ys):=
 h.ind (P:=λxs ys=>Sb Eq (Dl xs) (ki ys)) (Sb.ok rfl) λu u u u h u t=>Sb.wT (λi e=>⟨i,by refine U (VB.wZ (.val h) e) ?_;rfl,rfl⟩) λu=>Sb.mapE t
theorem vk(h:VB q E w v):Sb Eq (Ua w) (qh v):=λi e=>⟨i,by refine U (h.wZ e) ?_;rfl,rfl⟩
theorem qaG(h:VB q E w v):Sb Eq (br w) (iK v):=λi e=>⟨i,by refine U (h.str_of e) ?_;rfl,rfl⟩
theorem IL(h:VB q E w v):Sb Eq (Li w) (gp v):=λi e=>⟨i,by refine U (h.bool_of e) ?_;rfl,rfl⟩
theorem Eo(h:VB q E w v):Sb (Pd q E) (ng w) (xx v):=λi e=>by
 obtain⟨ys,rfl,z⟩:=h.tup_of e;exact⟨ys,rfl,z⟩
theorem uJ(r:Rl E q)(h:VB q E w v):Sb (Pd q E) (Pe w q.σ) ((sw v).bind (tc q.τ)):=λxs e=>by
 obtain⟨a,ys,rfl,b,z⟩:=Pi r h e;exact⟨ys,ge b,z⟩
theorem Pd.mapint{b:Type}{f:b->Int}:∀l:List b,Pd q E (l.map λi=>.int (f i)) (l.map λi=>.int (f i)):=by
 intro l
 induction l with
 |nil=>
  exact .nil
 |cons a l c=>
  exact .cons (.int _) (c)
theorem Au{a b:Int}:Sb (Pd q E) (DH a b) (vC a b):=Sb.okm rfl λu=>Pd.mapint (f:=λi:Nat=>a+(i:Int)) _
theorem YU(r:Rl E q)(h:VB q E w v):Sb (Pd q E) (du w q.σ) (PP v q.τ):=by
 have L:Sb (Pd q E) (Pe w q.σ) (PP v q.τ):=λxs e=>by
  obtain⟨a,ys,rfl,b,z⟩:=Pi r h e;exact⟨ys,ge b,z⟩
 induction w using W.casesOn<;>try exact L
 ·rw[h.wF.wF];exact Au
 ·obtain⟨ys,rfl,z⟩:=h.wF.wF
  exact Sb.ok z
theorem L1(r:Rl E q)(h:VB q E w v):Sb (Pd q E) (qej w q.σ) (K1 v q.τ):=by
 have L:Sb (Pd q E) (Pe w q.σ) (K1 v q.τ):=λxs e=>by
  obtain⟨a,ys,rfl,b,z⟩:=Pi r h e;exact⟨ys,ge b,z⟩
 induction w using W.casesOn<;>try exact L
 obtain⟨ys,rfl,z⟩:=h.wF.wF;exact Sb.ok z
theorem IT(r:Rl E q)(h:VB q E w v):Sb Eq (mZ w q.σ) (lZ q.τ v):=by
 have L:Sb Eq ((Pe w q.σ).map λxs=>(xs.length:Int)) (lZ q.τ v):=Sb.lookm λxs e=>by
  obtain⟨a,ys,rfl,b,z⟩:=Pi r h e;show Sb Eq _ ((tc q.τ a).map _)
  exact U (ge b) (U z.len (Sb.ok rfl))
 induction w using W.casesOn<;>try exact L
 ·rw[h.wF.wF];exact Sb.ok rfl
 ·obtain⟨ys,rfl,z⟩:=h.wF.wF
  exact Sb.ok (Gc Nat.cast z.len)
theorem zk(h:LD q E T X):Sb (VB q E) (one T) (one X):=by
 cases h with
 |nil=>exact Sb.no|cons a t=>cases t with|nil=>exact Sb.ok a|cons=>exact Sb.no
theorem mI(h:LD q E T X):Sb (λp a=>VB q E p.1 a.1/\VB q E p.2 a.2) (two T) (two X):=by
 cases h with
 |nil=>exact Sb.no|cons a t=>cases t with|nil=>exact Sb.no|cons b t=>cases t with|nil=>exact Sb.ok ⟨a,b⟩|cons=>exact Sb.no
theorem WC{is:List Int}:Sb (Pd q E) (cQ is) (bQ is):=Sb.okm rfl λu=>.ints
theorem iV(r:Rl E q)(h:VB q E w v):Sb (Pd q E) ((pj w q.σ).bind UC) (qX q.τ v):=Sb.wJ λc e=>by
 have C:=h.cont r e
 induction c using W.casesOn<;>try exact .no
 ·rw[(C.vs λu z=>z.wF).wF];exact Sb.ok .ints
 ·obtain⟨a,ys,rfl,b,z⟩:=C.l
  show Sb _ _ ((q.τ[a]?).bind _)
  exact U b (Sb.wT (Hn z) λu=>WC)
 ·obtain⟨a,d,rfl,b,rfl,z⟩:=C.dic
  show Sb _ _ ((q.τ[a]?).bind _)
  exact U b WC
theorem Gk(r:Rl E q){o:Option W}{a:Option V}(h:Sb (VS q E) o a):SX E q (λx=>VS x E) (zx q.σ o) (kD q.τ a):=Sb.map2 h λu u z=>.mk q.L .refl r z
theorem WW(r:Rl E q){o:Option (List W)}{a:Option (List V)}(h:Sb (Pd q E) o a):SX E q (λx=>VS x E) (o.bind λxs=>So xs q.σ) (a.bind λxs=>gj xs q.τ):=Sb.wY h λu u z=>Ml r z
theorem PG{f:Int->Int->Int}(p:W×W)(b:V×V)(h:VB q E p.1 b.1/\VB q E p.2 b.2):Sb (VS q E) (qaz f p) (qay f b):=Sb.map2 (uB h.1 h.2) λa u e=>e▸.int a
theorem uP(h:LD q E T X):Sb (VS q E) (O0 T) (f9 X):=by
 cases h with
 |nil=>exact Sb.no|cons a t=>cases t with|nil=>exact Sb.wT (vk a) λi=>Sb.okm rfl λu=>.rng 0 i|cons b t=>cases t with|nil=>exact Sb.wT (vk a) λi=>Sb.wT (vk b) λj=>Sb.okm rfl λu=>.rng i j|cons=>exact Sb.no
theorem kY(r:Rl E q)(h:LD q E T X){b:Bi}:SX E q (λx=>VS x E) (b4 b T q.σ) (sR b X q.τ):=by
 induction b with
 |len=>exact Gk r (Sb.map2 (Sb.wY (zk h) λu u z=>IT r z) λa u e=>e▸.int a)|max=>exact Gk r (Sb.wY (mI h) PG)|min=>exact Gk r (Sb.wY (mI h) PG)|sum=>exact Gk r (Sb.map2 (Sb.wY (Sb.wJ λw e=>by
  obtain⟨v,c,z⟩:=zk h w e;refine U c ?_;exact uJ r z) λu u z=>Hn z) λa u e=>e▸.int _)
 |sorted=>exact WW r (Sb.wJ λw e=>by
  refine Wg e λa c d=>?_;obtain⟨v,f,z⟩:=zk h a c;refine U f ?_;exactλy g=>iV r z y (by refine U d ?_;exact g))
 |range=>exact Gk r (uP h)|tuple=>exact Sb.wY (Sb.wY (zk h) λu u z=>YU r z) λu u z=>As r z|list=>exact WW r (Sb.wY (zk h) λu u z=>Eo z)|set=>exact Gk r (Sb.wT (Sb.wY (Sb.wY (zk h) λu u z=>L1 r z) λu u z=>Hn z) λis=>Sb.okm rfl λu=>.iset is)
theorem Pd.vbs(h:Pd q E xs ys):LD q E xs ys:=h.ind (P:=LD q E) .nil λu u u u a u t=>.cons (.val a) t
theorem tZ(r:Rl E q)(h:VB q E w v)(k:Pd q E T X){c:Nat}(b:v=.ref c):SX E q (λx=>VS x E) (qaA w n T q.σ) (QT c n X q.τ):=Sb.wJ λm d=>by
 unfold QT;refine U d ?_;refine Sb.wJ λxs e=>?_;obtain⟨a,ys,rfl,f,z⟩:=Pi r h e;cases b;refine U (ge f) ?_
 induction m<;>first|exact Sb.no|exact Gk r (Sb.wT (Sb.wY (zk k.vbs) λu u z=>vk z) λu=>Sb.wT (Hn z) λu=>Sb.map2 Sb.rf λa u e=>e▸.int a)|exact Gk r (Sb.wT (Sb.wY (zk k.vbs) λu u z=>vk z) λu=>Sb.map2 (Hn z) λa u e=>e▸.int _)
def X9(q:Wd)(E:Nat->Prop)(xs:List W)(a:It):Prop:=∀q',Le q q'->∃ys,Pd q' E xs ys/\∀k,zm a k q'.τ=J ys[k]?
theorem X9.st(h:Pd q E xs ys):X9 q E xs (.st ys):=λu x=>⟨ys,h.mono x,λu=>rfl⟩
theorem Pr{u:List W}(h:Bl xs=J u):u=xs/\xs.length<4900:=by
 refine Ds h λy e z=>?_;subst z;exact⟨rfl,ud.mp (Mq e)⟩
theorem yB(h:VB q E w v):Sb (λxs it=>X9 q E xs it/\xs.length<4900) (zy w) (fj v q.τ):=by
 have L:Sb (X9 q E) (yN w) (fj v q.τ):=by
  induction w using W.casesOn<;>try exact Sb.no
  ·rw[h.wF.wF];exact Sb.mapR Au λu u z=>.st z
  ·obtain⟨ys,rfl,z⟩:=h.wF.wF
   exact Sb.ok (.st z)
  ·skip
   obtain⟨a,ys,rfl,e1,_⟩:=h.wF.wF;show Sb _ _ ((tc q.τ a).map _)
   refine U (ge e1) ?_;exact Sb.ok λq' x=>by
    obtain⟨b,us,e2,e3,z⟩:=((h.wF:VS q E (.l xs) (.ref a)).mono x).wF;cases e2;exact⟨us,z,λk=>by show(tc q'.τ a).map _=_;refine U (ge e3) ?_;rfl⟩
 exactλxs e=>by
  refine Wg e λys e1 e2=>?_;obtain⟨it,e3,z⟩:=L ys e1;obtain⟨rfl,hl⟩:=Pr e2;exact⟨it,e3,z,hl⟩
theorem Ey{f:W->ub->kR}{g:V->St->Option (List V×St)}{d:It}(k:∀q' w v,Le q q'->Rl E q'->VS q' E w v->SX E q' (λx=>Pd x E) (f w q'.σ) (g v q'.τ)):
 ∀(xs c:List W)(n:Nat)(q':Wd),Le q q'->Rl E q'->X9 q E (c++xs) d->xs.length<n->SX E q' (λx=>Pd x E) (Yr f xs q'.σ) (Ro n d c.length g q'.τ):=by
 intro xs
 induction xs with
 |nil=>
  intro c n q' x r I h
  induction n using Sa with
  |zero=>exact zc h (We _)|succ n=>
   obtain⟨ys,z,e⟩:=I q' x;show SX E q' _ _ ((zm d c.length q'.τ).bind _)
   refine U (e _) (U (Rc (by rw[<-z.len,Wb];exact Gb _)) ?_);exact Sb.ok (.mk q'.L .refl r Pd.nil)
 |cons w xs l=>
  intro c n q' x r I h
  induction n using Sa with
  |zero=>exact zc h (We _)|succ n=>
   obtain⟨ys,z,e⟩:=I q' x;obtain⟨v,m,p⟩:=z.get (i:=c.length) (x:=w) (by refine U (La (Gb _)) (U (jh _) ?_);rfl);show SX E q' _ _ ((zm d c.length q'.τ).bind _)
   refine U (e _) (U m (SX.bind (k2:=λo=>o.bind _) (k q' w v x r p) λj a b o s z1=>SX.map (k2:=Op _) (V:=λq=>Pd q E) (y:=Ro n d (c.length+1) g j.τ) ?_ λt C D A B z2=>Sb.ok (.mk t.L .refl B ((z1.mono A).app z2))));have:=l (c++[w]) n j (x.trans o) s (by refine U (Dc _ _ _) ?_;exact I) (Fg h);rw[Ha]at this;exact this
end
section
variable {F:Type} {i A:Nat} {p:mr} {c:ED} {D:St} {I:cW}
theorem Gv{l:List F}{a x:F}(h:(l++[a])[i]?=J x):l[i]?=J x\/(i=l.length/\a=x):=by
 rcases ck i l.length with c|c
 ·rw[Xa c]at h;exact .inl h
 ·rw[La c]at h
  have b:i=l.length:=by have:=oh h;rw[Ii]at this;lia
  rw[b,jh]at h;exact .inr ⟨b,ba h⟩
theorem Oh{l m:List F}{x:F}(h:l[i]?=J x):(l++m)[i]?=J x:=by refine U (Xa (oh h)) ?_;exact h
noncomputable def gq(q:Wd)(da dd:Nat)(a:mr):Nat:=match a with|.a i=>if i=q.σ.length then da else q.L (.a i)|.d i=>if i=q.σ.length then dd else q.L (.d i)|.f i n=>q.L (.f i n)
variable {q B:Wd} {E:Nat->Prop} {w u:W} {v x:V} {R:Ch} {z N:Nat->Option (List Int)} {n:Bb} {S:List W} {T:List V} {L:List W} {K:List V} {o:OF} {da dd:Nat} {os:List O}
theorem dm(q:Wd)(da dd:Nat):gq q da dd (.a q.σ.length)=da:=Dd rfl
theorem Dr(q:Wd)(da dd:Nat):gq q da dd (.d q.σ.length)=dd:=Dd rfl
theorem gr(u:Ug q.σ p):Ug (q.σ++[o]) p/\gq q da dd p=q.L p:=by
 induction p with
 |a i=>exact⟨rb u (by refine U Ha ?_;exact Nc _ _),fe (ic u)⟩|d i=>obtain⟨b,c,e,g⟩:=u;exact⟨⟨b,c,Oh e,g⟩,fe (ic (oh e))⟩|f i n=>
  refine aa λh=>?_;obtain⟨c,e⟩:=u;exact Wg e λb j g=>(h (⟨⟨c,Fa.mpr ⟨b,Oh j,g⟩⟩,rfl⟩))
theorem pA(h:∀n w,de o.fs n=J w->nb w=Z)(u:Ug (q.σ++[o]) p):Ug q.σ p\/p=.a q.σ.length\/(p=.d q.σ.length/\o.cls≠Y):=by
 induction p with
 |a i=>
  have b:i<(q.σ++[o]).length:=u;rw[Ha]at b;rcases Nat.lt_or_eq_of_le (Qf b)with c|c
  ·exact .inl c
  ·exact .inr (.inl (Gc _ c))
 |d i=>
  refine aa λb=>?_;obtain⟨j,c,e,g⟩:=u;refine b ?_;clear b;rcases Gv e with e|⟨rfl,rfl⟩
  ·exact .inl ⟨j,c,e,g⟩
  ·exact .inr (.inr ⟨rfl,by refine U g ?_;exact ID _⟩)
 |f i n=>
  refine aa λb=>?_;obtain⟨c,e⟩:=u;refine Wg e λj k g=>(b ?_);clear b;refine aa λb=>?_;rcases Gv k with k|⟨_,rfl⟩
  ·refine b ?_
   clear b;exact .inl ⟨c,Fa.mpr ⟨j,k,g⟩⟩
  ·refine b ?_
   clear b;exact zc (h n _ g) ia
theorem OS.inst'{c a:Nat}{d:List (Bb×W)}{es:List (Bb×V)}(e:q.L (.a i)=A)(f:q.L (.d i)=a)(g:q.τ[A]?=J (.inst c a))(h:q.τ[a]?=J (.h es))(b:FS q E i d es):OS q E i ⟨J c,d⟩:=by
 subst e f;exact .inst g h b
theorem OS.sd'{b:List (Bb×W)}{d:List (Bb×V)}(e:q.L (.a i)=A)(f:q.τ[A]?=J (.h d))(a:FS q E i b d):OS q E i ⟨Y,b⟩:=by
 subst e;exact .sd f a
theorem VS.ref'(a:q.L (.a i)=A)(h:i<q.σ.length):VS q E (.ref i) (.ref A):=a▸.ref h
theorem Rl.add1(r:Rl E q)(f:∀n w,de o.fs n=J w->nb w=Z)(m:q.τ.length<=da/\da<(q.τ++os).length)(j:o.cls≠Y->(q.τ.length<=dd/\dd<(q.τ++os).length)/\da≠dd):
 Le q ⟨gq q da dd,q.σ++[o],q.τ++os⟩/\(OS ⟨gq q da dd,q.σ++[o],q.τ++os⟩ E q.σ.length o->Rl E ⟨gq q da dd,q.σ++[o],q.τ++os⟩):=by
 have s:q.τ.length<=(q.τ++os).length:=by refine U Ha ?_;exact Nc _ _
 have g:∀p,Ug (q.σ++[o]) p->(Ug q.σ p/\gq q da dd p=q.L p)\/(q.τ.length<=gq q da dd p/\gq q da dd p<(q.τ++os).length):=λp u=>by
  rcases pA f u with u|rfl|⟨rfl,c⟩
  ·exact .inl ⟨u,(gr (o:=o) u).2⟩
  ·exact .inr (by refine U (dm _ _ _) ?_;exact m)
  ·exact .inr (by refine U (Dr _ _ _) ?_;exact(j c).1)
 have X:Le q ⟨gq q da dd,q.σ++[o],q.τ++os⟩:=⟨s,λp u=>gr u,λp u=>(g p u).imp LX LX,λa t e y=>Oh e⟩;refine⟨X,λO=>⟨λp k u C e=>?_,λp u=>(g p u).elim (λb=>ib (Fd b.2) (rb (r.lt p b.1) s)) And.right,λp u b=>(g p u).elim (λc=>r.sep p c.1 (c.2▸b)) λc=>dc _ (rb (r.elt _ b) c.1),λa b=>rb (r.elt a b) s,λi t e=>?_⟩⟩
 ·have d:∀{p k},Ug q.σ p->q.τ.length<=gq q da dd k->gq q da dd p≠gq q da dd k:=λ{p k} u h e=>
   dc _ (rb (r.lt p u) (Za h (Fd (e.symm.trans (gr (o:=o) u).2))))
  rcases pA f u with v|rfl|⟨rfl,c⟩<;>rcases pA f C with l|rfl|⟨rfl,I⟩
  ·exact r.inj p k v l (((gr (o:=o) v).2.symm.trans e).trans (gr (o:=o) l).2)
  ·exact zc e (d v (by refine U (dm _ _ _) ?_;exact m.1))
  ·exact zc e (d v (by refine U (Dr _ _ _) ?_;exact(j I).1.1))
  ·exact zc e.symm (d l (by refine U (dm _ _ _) ?_;exact m.1))
  ·rfl
  ·exact zc ((dm q da dd).symm.trans (e.trans (Dr q da dd))) (j I).2
  ·exact zc e.symm (d l (by refine U (Dr _ _ _) ?_;exact(j c).1.1))
  ·exact zc ((dm q da dd).symm.trans (e.symm.trans (Dr q da dd))) (j c).2
  ·rfl
 ·rcases Gv e with e|⟨rfl,rfl⟩
  ·exact(r.obj i t e).mono X e λp y y o e=>Oh e
  ·exact O
def vn(c:Yp)(I:Nat->List V->St->Option (V×St)):Prop:=∀E q a S T,Rl E q->Pd q E S T->SX E q (λx=>VS x E) (c a S q.σ) (I a T q.τ)
variable {G:Yp} {Q:Nat->List V->St->Option (V×St)}
theorem oE{b d:List W}(h:Tr b=J d):d=b/\BA b=Z:=by
 refine Ds h λy e a=>?_;subst a;exact⟨rfl,Mq e⟩
theorem dz{os:List O}:(D++os).length=D.length+os.length:=Ha
theorem nE{os:List O}{k:Nat}:(D++os)[D.length+k]?=os[k]?:=by exact U (La (Nc _ _)) (U (Nat.add_sub_cancel_left _ _) rfl)
theorem FZ(r:Rl E q)(C:vn G Q)(k:Pd q E S T){a g:Nat}:SX E q (λx=>VS x E) ((G g (.ref q.σ.length::S) (q.σ++[⟨J a,[]⟩])).bind (YG q.σ.length)) ((Q g (.ref (q.τ.length+1)::T) (q.τ++[.h [],.inst a q.τ.length])).bind (EE q.τ)):=by
 have f:(q.τ++[O.h [],.inst a q.τ.length])[q.τ.length]?=J (.h []):=nE (k:=0);have A:=r.add1 (o:=⟨J a,[]⟩) (da:=q.τ.length+1) (dd:=q.τ.length) (os:=[.h [],.inst a q.τ.length]) (λu u e=>ja e) ⟨se _,by refine U dz ?_;exact pd _⟩ λu=>⟨⟨Gb _,by refine U dz ?_;exact Tf (pd _)⟩,Ku _⟩;have d:VS ⟨gq q (q.τ.length+1) q.τ.length,q.σ++[⟨J a,[]⟩],q.τ++[.h [],.inst a q.τ.length]⟩ E (.ref q.σ.length) (.ref (q.τ.length+1)):=.ref' (dm q _ q.τ.length) (by refine U Ha ?_;exact pd _);refine SX.le A.1 (SX.bind (k2:=λo=>o.bind (EE q.τ)) (C E _ g _ _ (A.2 (.inst' (es:=[]) (dm q _ q.τ.length) (Dr q (q.τ.length+1) _) (nE:(q.τ++[O.h [],.inst a q.τ.length])[q.τ.length+1]?=J (.inst a q.τ.length)) f ⟨rfl,λu u e=>ja e⟩)) (.cons d (k.mono A.1))) λe b h j l z2=>?_)
 delta YG EE
 induction b using W.casesOn<;>try exact Sb.no
 rw[(z2.wF:h=.none)];exact Sb.ok (.mk e.L .refl l (d.mono j))
theorem uS(r:Rl E q)(k:LD q E S T){c:wa}:SX E q (λx=>VS x E) ((OD c).bind λb=>b4 b S q.σ) ((OD c).bind λb=>sR b T q.τ):=Sb.wT Sb.rf λb=>kY r k
theorem OL(r:Rl E q)(C:vn G Q)(h:VB q E w v)(k:LD q E S T):SX E q (λx=>VS x E) (dG R G S q.σ w) (cG (R.w N) Q v T q.τ):=by
 induction w using W.casesOn<;>try exact Sb.no
 rename wa=>c
 rw[((h.wF).wF:v=.k c)]
 induction c<;>first|exact uS r k|exact Sb.no|skip
 refine Sb.wJ λus e=>?_;obtain⟨rfl,hn⟩:=oE e;have k':=k.nbs hn;show SX E q _ _ (match R.init a with|some g=>_|none=>_)
 induction R.init a with
 |none=>exact C E q a _ _ r k'|some g=>exact FZ r C k'
inductive OX(q:Wd)(E:Nat->Prop):ED->cW->Prop
 |fn {f i:Nat}:i<q.σ.length->OX q E (.fn f i) (.fn f (.ref (q.L (.a i))))|lm {w:W} {a:Nat}:VB q E w (.ref a)->OX q E (.lm w) (.lm a)
theorem OX.mono(r:Rl E q)(x:Le q B)(h:OX q E c I):OX B E c I:=
 h.rec (λh=>(x.a h).2▸.fn (x.a h).1) λh=>.lm (h.mono r x)
theorem zS(r:Rl E q)(d:i<q.σ.length):Sb (λp a=>p.1=a.1/\∃b,Vq q.τ a.2=J b/\FS q E i p.2 b) (Sx q.σ i) (wi q.τ (q.L (.a i))):=by
 refine aa λb=>?_;obtain⟨o,e,O⟩:=r.get d;refine b ?_;unfold Sx;refine U e ?_;cases O with
 |sd=>exact Sb.no|inst f g a=>refine U (uo f) ?_;exact Sb.ok ⟨rfl,_,Wq g,a⟩
theorem CJ{b:List (Bb×W)}:{a:List (Bb×V)}->b.map (λx=>x.1)=a.map (λx=>x.1)->∀n,de b n=Y->Pf a n=Y:=by
 induction b with
 |nil=>
  intro a h n e
  induction a using ma with
  |nil=>rfl|cons u y=>exact zc h.symm (Bc _ _)
 |cons p b f=>
  intro a h n e
  induction a using ma with
  |nil=>exact zc h (Bc _ _)|cons d a=>
   replace e:(if p.1=n then J p.2 else de b n)=Y:=e;show(if d.1=n then J d.2 else Pf a n)=Y
   refine Ed (Xd h:p.1=d.1) ?_;by_cases c:p.1=n
   ·rw[Dd c]at e;exact ja e.symm
   ·rw[fe c]at e|-;exact f (wd h) n e
theorem yU(r:Rl E q)(h:VB q E w v):Sb (OX q E) (xU R n w q.σ) (cu (R.w N) v n q.τ):=by
 have b:Sb (OX q E) ((Pe w q.σ).map λu=>.lm w) (cu (R.w N) v n q.τ):=Sb.lookm λL e=>by
  obtain⟨a,K,rfl,f,d⟩:=Pi r h e;show Sb _ _ ((q.τ[a]?).bind _)
  exact U f (Sb.ok (.lm h))
 induction w using W.casesOn<;>try exact b
 refine aa λk=>?_;obtain⟨g,rfl⟩:=h.wF.wF;obtain⟨o,l,O⟩:=r.get g;refine k ?_;show Sb _ ((Sx q.σ i).bind _) ((q.τ[q.L (.a i)]?).bind _)
 unfold Sx;refine U l ?_;cases O with
 |sd=>exact Sb.no| @inst c j a f m d=>
  refine U f ?_;show Sb _ ((TW R c n (de j n)).map _) ((Vq q.τ _).bind λa=>HE (R.w N) c n _ (Pf a n))
  refine U (Wq m) ?_
  induction e:de j n with
  |some=>exact Sb.no|none=>
   show Sb _ _ (HE (R.w N) c n _ (Pf a n))
   exact U (CJ d.keys n e) (Sb.map2 Sb.rf λu u e=>e▸.fn g)
theorem BY(r:Rl E q)(C:vn G Q)(h:OX q E c I)(k:Pd q E S T):SX E q (λx=>VS x E) (qbs G c n S q.σ) (ky Q I n T q.τ):=
 h.rec (λa=>C E q _ _ _ r (.cons (.ref a) k)) λh=>tZ r h k rfl
theorem rV(r:Rl E q){f:Nat}(b:i<q.σ.length):Sb (λj a=>j<q.σ.length/\a=q.L (.a j)) (G1 R f q.σ i) (J9 (R.w N) f q.τ (q.L (.a i))):=by
 refine Sb.wY (zS r b) λp d a=>?_;obtain⟨e,h,g,_⟩:=a;refine U g (U e ?_);by_cases c:R.sup d.1=J f
 ·exact U (Dd c) (U (Dd c) (Sb.ok ⟨b,rfl⟩))
 ·exact U (fe c) Sb.no
theorem LD.two(h:Pd q E L K):Sb (λp a=>VS q E p.1 a.1/\VS q E p.2 a.2) (two L) (two K):=
 h.ind (P:=λL K=>Sb _ (Mine.Internal.two L) (Mine.Internal.two K)) Sb.no λa u b u x k u=>k.ind (P:=λL K=>Sb _ (Mine.Internal.two (a::L)) (Mine.Internal.two (b::K))) Sb.no λd u e u y k u=>k.ind (P:=λL K=>Sb _ (Mine.Internal.two (a::d::L)) (Mine.Internal.two (b::e::K))) (Sb.ok ⟨x,y⟩) λu u u u u u u=>Sb.no
theorem qM(r:Rl E q)(h:Pd q E L K)(k:Pd q E S T):SX E q (λx=>VS x E) (pM L S q.σ) (oG K T q.τ):=by
 refine Sb.wJ λp ep=>Sb.wJ λp2 ep2=>Sb.wJ λa ea=>Sb.wJ λb eb=>?_;refine aa λnq=>?_;obtain⟨p0,e0,z1,z2⟩:=LD.two h p ep;obtain⟨p3,e3,w1,w2⟩:=LD.two k p2 ep2;refine nq ?_;clear nq;refine U (lI e0) ?_;show SX E q _ _ ((two T).bind λp=>nG p0.1 p0.2 p.1 p.2 q.τ)
 refine U e3 (U (VB.str_of (.val z1) ea) (U (VB.str_of (.val z2) eb) ?_));show SX E q _ _ (if a=b then Y else _)
 by_cases cc:a=b
 ·exact U (Dd cc) Sb.no
 ·refine U (fe cc) (U (fe cc) ?_)
  have A:=r.add1 (o:=⟨Y,[(a,p2.1),(b,p2.2)]⟩) (da:=q.τ.length) (dd:=0) (os:=[.h [(a,p3.1),(b,p3.2)]]) (λn w e=>by
   replace e:(if a=n then J p2.1 else if b=n then J p2.2 else Y)=J w:=e
   split at e
   ·exact ba e▸w1.nb
   ·split at e
    ·exact ba e▸w2.nb
    ·exact ja e) ⟨Gb _,by refine U dz ?_;exact pd _⟩ λh=>zc rfl h
  have r1:=A.2 (.sd' (dm q _ 0) (nE (k:=0)) ⟨rfl,λn w e=>by
   replace e:(if a=n then J p2.1 else if b=n then J p2.2 else Y)=J w:=e
   split at e
   ·rename_i hc;exact⟨_,Dd hc,ba e▸.val (w1.mono A.1)⟩
   ·rename_i hc;split at e
    ·rename_i hc2;exact⟨_,(fe hc).trans (Dd hc2),ba e▸.val (w2.mono A.1)⟩
    ·exact ja e⟩)
  exact Sb.ok (.mk _ A.1 r1 (VS.ref' (dm q _ 0) (by refine U Ha ?_;exact pd _)))
end
structure Ww(E:Nat->Prop)(q:Wd)(S:fc)(T:Me):Prop where
 len:S.length=T.length
 no:∀i:Nat,S[i]?=J Y->T[i]?=J Y
 at_:∀(i:Nat) w,Ke S i=J w->∃v,Zk T i=J v/\VB q E w v
section
variable {q y:Wd} {E:Nat->Prop} {w u:W} {v x:V} {Q:Ch} {F L:Nat->Option (List Int)} {n:Bb} {O R:List W} {D K:List V} {S:fc} {T:Me} {I:Yp} {N:Nat->List V->St->Option (V×St)}
theorem Ww.mono(m:Ww E q S T)(r:Rl E q)(x:Le q y):Ww E y S T:=⟨m.len,m.no,λi w e=>(m.at_ i w e).imp λu z=>⟨z.1,z.2.mono r x⟩⟩
theorem yq{b:Type}{l:List b}{i j:Nat}{a:b}:(l.set i a)[j]?=if i=j then(if i<l.length then J a else Y)else l[j]?:=by exact U jl rfl
theorem Ww.set(m:Ww E q S T)(i:Nat)(h:VB q E w v):Ww E q (S.set i (J w)) (T.set i (J v)):=by
 refine⟨by refine U yb (U yb ?_);exact m.len,λj e=>?_,λj u e=>?_⟩
 ·rw[yq]at e|-
  by_cases c:i=j
  ·rw[Dd c]at e;split at e
   ·exact nomatch e
   ·exact ja e
  ·rw[fe c]at e|-;exact m.no j e
 ·unfold Ke at e;unfold Zk
  rw[yq]at e|-;by_cases c:i=j
  ·rw[Dd c]at e|-;refine Ed m.len ?_;split at e
   ·rename_i hl;refine U (Dd hl) ?_;exact⟨v,rfl,ba (e:J w=J u)▸h⟩
   ·exact ja e
  ·rw[fe c]at e|-;exact m.at_ j u e
theorem Ww.more(m:Ww E q S T)(k:Nat):Ww E q (S++Ia k Y) (T++Ia k Y):=by
 refine⟨by exact U Ha (U Ha (U m.len (U Ng (U Ng rfl)))),λj e=>?_,λj u e=>?_⟩
 ·rcases ck j S.length with c|c
  ·rw[Xa c]at e
   exact Oh (m.no j e)
  ·rw[La c,Te]at e
   refine U (La (m.len▸c)) (U Te (Ed m.len ?_))
   split at e
   ·rename_i h;exact U (Dd h) rfl
   ·exact ja e
 ·refine aa λnq=>(Wg e λo e1 e2=>(nq ?_))
  rcases ck j S.length with c|c
  ·rw[Xa c]at e1
   refine aa λnq=>?_;obtain⟨v,e3,z⟩:=m.at_ j u (Fa.mpr ⟨o,e1,e2⟩);exact Wg e3 λo' e4 e5=>(nq (⟨v,Fa.mpr ⟨o',Oh e4,e5⟩,z⟩))
  ·rw[La c]at e1
   rw[(λj o e=>yA (Ma e):∀{α:Type}(j:Nat)(o:Option α),(Ia k (Y:Option α))[j]?=J o->o=Y) _ _ e1]at e2;exact ja e2
theorem qB(m:Ww E q S T){i:Nat}(h:xq S i=Z):free T i=Z:=by
 have z:S[i]?=J Y->free T i=Z:=λe=>by unfold free;exact U (m.no i e) rfl
 unfold xq at h;revert z h
 induction S[i]? with
 |none=>exactλh=>zc h ia|some o=>induction o with|none=>exactλh z=>z rfl|some u=>exactλh=>zc h ia
theorem qeb{d:Type}{b:Bool}{x c:Option d}(h:b=Z):(if b then x else c)=x:=Dd h
theorem MC{is:List Nat}{R:List W}{K:List V}{S:fc}{T:Me}(h:Pd q E R K)(m:Ww E q S T):Sb (Ww E q) (Ul is R S) (Dk is K T):=by
 refine h.ind (P:=λR K=>∀is S T,Ww E q S T->Sb (Ww E q) (Ul is R S) (Dk is K T)) (λis S T m=>?_) (λa R b K d g f is S T m=>?_) is S T m
 ·induction is using ma with|nil=>exact Sb.ok m|cons i is=>exact Sb.no
 ·induction is using ma with
  |nil=>exact Sb.no|cons i is=>
   intro z e;replace e:(if xq S i then Ul is R (S.set i (J a))else Y)=J z:=e;show∃_,(if free T i then _ else _)=_/\_
   by_cases c:xq S i=Z
   ·rw[Dd c]at e
    exact U (qeb (qB m c)) (f is _ _ (m.set i (.val d)) z e)
   ·rw[fe c]at e;exact ja e
theorem OI(m:Ww E q S T)(h:VS q E w v):{t:CT}->Sb (Ww E q) (Xu t w S) (Kj t v T):=by
 intro t
 induction t using CT.casesOn with
 |x i=>
  intro z e;replace e:(if xq S i then J (S.set i (J w))else Y)=J z:=e;show∃_,(if free T i then _ else _)=_/\_
  split at e
  ·rename_i hf;refine U (qeb (qB m hf)) ?_;exact⟨_,rfl,ba e▸m.set i (.val h)⟩
  ·exact ja e
 |t is=>
  exact Sb.wY (Eo (.val h)) λu u z=>MC z m
theorem fF{is:List Nat}{R:List W}{K:List V}{S:fc}{T:Me}(h:Pd q E R K)(m:Ww E q S T):Sb (Ww E q) (Em is R S) (xe is K T):=by
 refine h.ind (P:=λR K=>∀is S T,Ww E q S T->Sb (Ww E q) (Em is R S) (xe is K T)) (λis S T m=>?_) (λa R b K d g f is S T m=>?_) is S T m
 ·induction is using ma with|nil=>exact Sb.ok m|cons i is=>exact Sb.no
 ·induction is using ma with
  |nil=>exact Sb.no|cons i is=>
   intro z e;replace e:(if i<S.length then Em is R (S.set i (J a))else Y)=J z:=e;show∃_,(if i<T.length then _ else _)=_/\_
   by_cases c:i<S.length
   ·rw[Dd c]at e
    exact U (Dd (m.len▸c)) (f is _ _ (m.set i (.val d)) z e)
   ·rw[fe c]at e;exact ja e
theorem d4(m:Ww E q S T)(h:VS q E w v):{t:CT}->Sb (Ww E q) (Lx t w S) (ql t v T):=by
 intro t
 induction t using CT.casesOn with
 |x i=>
  intro z e;replace e:(if i<S.length then J (S.set i (J w))else Y)=J z:=e;show∃_,(if i<T.length then _ else _)=_/\_
  split at e
  ·rename_i hf;refine U (Dd (m.len▸hf)) ?_;exact⟨_,rfl,ba e▸m.set i (.val h)⟩
  ·exact ja e
 |t is=>
  exact Sb.wY (Eo (.val h)) λu u z=>fF z m
abbrev Rt{b c:Type}(E:Nat->Prop)(V:Wd->b->c->Prop)(f:fc->ub->Option (b×ub))(g:Me->St->Option (c×St)):Prop:=∀q S T,Rl E q->Ww E q S T->SX E q V (f S q.σ) (g T q.τ)
theorem VB.grd(h:VB q E w v)(e:kf w=J u):VS q E u v:=(vi e).1▸h.nb (vi e).2
theorem qdc{k:V->Option β}(h:VB q E w v){P:α->β->Prop}{f:W->Option α}(b:∀u,VS q E u v->Sb P (f u) (k v)):Sb P ((kf w).bind f) (k v):=Sb.wJ λu e=>b u ((vi e).1▸h.nb (vi e).2)
theorem fD{t:CT}{c:fc->ub->C3}{d:Me->St->Option (Bool×St)}{G:fc->ub->kR}{f:Me->St->Option (List V×St)}(j:Rt E (λu=>Eq) c d)(k:Rt E (λx=>Pd x E) G f)(r:Rl E q)(m:Ww E q S T)(h:VS q E w v):
 SX E q (λx=>Pd x E) ((Xu t w S).bind λb=>(c b q.σ).bind λp=>ln p.1 (G b p.2) (J ([],p.2))) ((Kj t v T).bind λb=>(d b q.τ).bind λp=>ln p.1 (f b p.2) (J ([],p.2))):=
 Sb.wY (OI m h) λu u m1=>SX.wY (j q _ _ r m1) λg b o l i e=>Sb.ifB e (k g _ _ i (m1.mono r l)) (.ok (PX.mk g.L .refl i Pd.nil))
theorem Sb.mapB{o:Option W}{b:Option V}(r:Rl E q)(h:Sb (VB q E) o b):SX E q (λx=>VB x E) (o.map λv=>(v,q.σ)) (b.map λv=>(v,q.τ)):=Sb.map2 h λu u z=>PX.mk q.L .refl r z
theorem Sb.mapV{b:Type}{o c:Option b}{f:b->W}{g:b->V}(r:Rl E q)(h:Sb Eq o c)(z:∀a,VS q E (f a) (g a)):SX E q (λx=>VB x E) (o.map λv=>(f v,q.σ)) (c.map λv=>(g v,q.τ)):=Sb.map2 h λa u e=>e▸PX.mk q.L .refl r (VB.val (z a))
theorem Az{c:fc->ub->io}{g:Me->St->Option (V×St)}(h:Rt E (λx=>VB x E) c g):Rt E (λx=>VS x E) (λS b=>(c S b).bind λr=>(kf r.1).map λw=>(w,r.2)) g:=λq S T r m a e=>by
 refine aa λi=>(Wg e λp j k=>?_);obtain⟨b,l,P⟩:=h q S T r m p j;refine Ds k λw o d=>?_;subst d;exact i (⟨b,l,P.rec λf x r z=>.mk f x r (VB.grd z o)⟩)
variable (A:∀a R,F a=J R->L a=J R) (C:vn I N)
include A C
mutual
theorem Pc(e:X):Rt E (λx=>VB x E) (fX Q F I e) (evX (Q.w L) N e):=match e with
 |.x i=>λq S T r m=>Sb.mapB r λw e=>m.at_ i w e|.k v=>λq u u r u=>Sb.ok (PX.mk q.L .refl r (VB.val (.k v)))|.none=>λq u u r u=>Sb.ok (PX.mk q.L .refl r (VB.val .none))|.bool b=>λq u u r u=>Sb.ok (PX.mk q.L .refl r (VB.val (.bool b)))|.int b=>λq u u r u=>Sb.ok (PX.mk q.L .refl r (VB.val (.int b)))|.str b=>λq u u r u=>Sb.ok (PX.mk q.L .refl r (VB.val (.str b)))|.attr o n=>λq u u r m=>SX.wY (Pc o q _ _ r m) λp u u l g z=>Sb.mapB g (QA g z)|.sub o i=>λq u u r m=>SX.wY (Pc o q _ _ r m) λp u u l g z=>SX.wY (Pc i p _ _ g (m.mono r l)) λs u u j h z2=>
  Sb.mapB h ((gI h (z.mono g j) z2).imp λu u z=>.val z)
 |.cut o k=>λq u u r m=>SX.wY (Pc o q _ _ r m) λp u u l g z=>(NS A g z).vb|.bin c a b=>λq u u r m=>SX.wY (Pc a q _ _ r m) λp u u l g z=>SX.wY (Pc b p _ _ g (m.mono r l)) λs u u j h z2=>
  (lS h (z.mono g j) z2).vb
 |.neg a=>λq u u r m=>SX.wY (Pc a q _ _ r m) λp u u l g z=>Sb.mapV g (vk z) λu=>.int _|.cmp c a b=>λq u u r m=>SX.wY (Pc a q _ _ r m) λp u u l g z=>SX.wY (Pc b p _ _ g (m.mono r l)) λs u u j h z2=>
  Sb.mapV h (mz h (z.mono g j) z2) .bool
 |.cmp2 f t a b c=>λq u u r m=>SX.wY (Pc a q _ _ r m) λp u u l g z=>SX.wY (Pc b p _ _ g (m.mono r l)) λs u u j h z2=>
  Sb.wT (mz h (z.mono g j) z2) λa=>Sb.ifB rfl (SX.wY (Pc c s _ _ h ((m.mono r l).mono g j)) λP u u B d G=>
   Sb.mapV d (mz d (z2.mono h B) G) .bool) (Sb.ok (PX.mk s.L .refl h (VB.val (.bool ua))))
 |.ite t a b=>λq u u r m=>SX.wY (tm t q _ _ r m) λp u u l g z=>Sb.ifB z (Pc a p _ _ g (m.mono r l)) (Pc b p _ _ g (m.mono r l))|.t R=>λq u u r m=>SX.wY (tj R q _ _ r m) λp u u l g z=>(As g z).vb|.list R=>λq u u r m=>SX.wY (tj R q _ _ r m) λp u u l g z=>(Ml g z).vb|.dict b d=>λq u u r m=>SX.wY (tj b q _ _ r m) λp u u l g z=>SX.wY (tj d p _ _ g (m.mono r l)) λs u u j h z2=>(qM h (z.mono j) z2).vb|.comp k b B f rest t=>λq u u r m=>SX.wY (Pc b q _ _ r m) λp u u l g z=>Sb.wY (yB z) λR G d=>
  SX.wY (Ey (λs u u j h z2=>fD (yv f) (ny rest (Az (Pc t))) h (((m.mono r l).mono g j).more k) z2) R [] 5000 p .refl g d.1 (Pt d.2 (by decide))) λs u u j h z2=>(Ml h z2).vb
 |.call f O=>λq u u r m=>SX.wY (Pc f q _ _ r m) λp u u l g z=>SX.wY (wG O p _ _ g (m.mono r l)) λs u u j h z2=>(OL h C (z.mono g j) z2).vb|.meth o n O=>λq u u r m=>SX.wY (Pc o q _ _ r m) λp u u l g z=>Sb.wY (yU g z) λu u c=>SX.wY (tj O p _ _ g (m.mono r l)) λs u u j h z2=>(BY h C (c.mono g j) z2).vb|.sup i f O=>λq u u r m=>Sb.wY (Sb.wJ λj b=>by
  refine aa λc=>(Wg b λw d h=>?_);obtain⟨v,k,z⟩:=m.at_ i w d;obtain⟨o,rfl⟩:=z.ref_of h;refine c ?_;refine U k ?_;exact rV r o) λj c h=>SX.wY (tj O q _ _ r m) λp u u l g z=>by
  exact U h.2 (Ed ((l.a h.1).2) (SX.vb (C E p f _ _ g (.cons (.ref (l.a h.1).1) z))))
theorem tj(e:List X):Rt E (λx=>Pd x E) (xG Q F I e) (Mi (Q.w L) N e):=match e with
 |[]=>λq b b r b=>Sb.ok (PX.mk q.L .refl r Pd.nil)|x::R=>λq b b r m=>SX.wY (Pc x q _ _ r m) λc b b d f z=>Sb.wJ λu e=>SX.map2 (tj R c _ _ f (m.mono r d)) λg b b h i z2=>
  Sb.ok (PX.mk g.L .refl i (Pd.cons ((z.grd e).mono h) z2))
theorem wG(e:List X):Rt E (λx=>LD x E) (w7 Q F I e) (Mi (Q.w L) N e):=match e with
 |[]=>λq u u r u=>Sb.ok (PX.mk q.L .refl r LD.nil)|x::R=>λq u u r m=>SX.wY (Pc x q _ _ r m) λc u u d b z=>SX.map2 (wG R c _ _ b (m.mono r d)) λf u u g h z2=>
  Sb.ok (PX.mk f.L .refl h (LD.cons (z.mono b g) z2))
theorem tm(e:B):Rt E (λu=>Eq) (fT Q F I e) (Wt (Q.w L) N e):=match e with|.and a b=>λq u u r m=>SX.wY (tm a q _ _ r m) λc u u f d z=>Sb.ifB z (tm b c _ _ d (m.mono r f)) (Sb.ok (PX.mk c.L .refl d rfl))|.or a b=>λq u u r m=>SX.wY (tm a q _ _ r m) λc u u f d z=>Sb.ifB z (Sb.ok (PX.mk c.L .refl d rfl)) (tm b c _ _ d (m.mono r f))|.not a=>λq u u r m=>SX.map2 (tm a q _ _ r m) λc u u f d z=>Sb.ok (PX.mk c.L .refl d (Gc (λx=> !x) z))|.wK x=>λq u u r m=>SX.wY (Pc x q _ _ r m) λc u u f d z=>Sb.map2 (IL z) λu u e=>PX.mk c.L .refl d e
theorem yv(e:List B):Rt E (λu=>Eq) (DM Q F I e) (my (Q.w L) N e):=match e with|[]=>λq u u r u=>Sb.ok (PX.mk q.L .refl r rfl)|t::d=>λq u u r m=>SX.wY (tm t q _ _ r m) λb u u f c z=>Sb.ifB z (yv d b _ _ c (m.mono r f)) (Sb.ok (PX.mk b.L .refl c rfl))
theorem ny:∀(e:List G){b:fc->ub->io}{l:Me->St->Option (V×St)},Rt E (λx=>VS x E) b l->Rt E (λx=>Pd x E) (vG Q F I e b) (evRest (Q.w L) N e l)
 |[],c,j,h=>λq u u r m=>SX.map2 (h q _ _ r m) λi u u o g z=>Sb.ok (PX.mk i.L .refl g (Pd.cons z .nil))|.mk f p k::s,c,j,h=>λq u u r m=>SX.wY (Pc f q _ _ r m) λi u u o g z=>Sb.wY (yB z) λR P d=>
  Ey (λX u u t B z2=>fD (yv k) (ny s h) B ((m.mono r o).mono g t) z2) R [] 5000 i .refl g d.1 (Pt d.2 (by decide))
end
end
section
variable {ob:O} {a j:Nat} {S:Type} {o1:OF} {p:mr}
inductive VO(q:Wd)(E:Nat->Prop):W->O->Prop
 |l {xs:List W} {ys:List V}:Pd q E xs ys->VO q E (.l xs) (.list ys)|dic {ks:List Int} {vs:List W} {es:List (Int×V)}:es.map (λx=>x.1)=ks->Pd q E vs (es.map λx=>x.2)->VO q E (.dic ks vs) (.idict es)
variable {q q' Q:Wd} {E E':Nat->Prop} {w u c:W} {v x:V} {T:Ch} {N R:Nat->Option (List Int)} {n:Bb} {i:Nat} {o:OF}
abbrev gk(q q':Wd)(E E':Nat->Prop):Prop:=∀{w v},VS q E w v->VS q' E' w v
theorem gk.all(e:gk q q' E E'){b:List W}{d:List V}(h:Pd q E b d):Pd q' E' b d:=h.ind (P:=Pd q' E') .nil λu u u u a u t=>.cons (e a) t
theorem VO.map(b:gk q q' E E')(h:VO q E c ob):VO q' E' c ob:=h.rec (λh=>.l (b.all h)) λk h=>.dic k (b.all h)
theorem VC.of(e:q.τ[a]?=J ob)(h:VO q E c ob):VC q E c a:=h.rec (motive:=λc ob u=>q.τ[a]?=J ob->VC q E c a) (λh e=>.l e h) (λk h e=>.dic e k h) e
theorem VC.vo(h:VC q E c a):∃ob,q.τ[a]?=J ob/\VO q E c ob:=h.rec (λe h=>⟨_,e,.l h⟩) λe k h=>⟨_,e,.dic k h⟩
theorem VC.map(b:gk q q' E E')(h:VC q E c a)(d:∀o,q.τ[a]?=J o->q'.τ[a]?=J o):VC q' E' c a:=by
 obtain⟨ob,e,z⟩:=h.vo;exact .of (d _ e) (z.map b)
theorem FV.map(b:gk q q' E E')(h:FV q E i n w v):(∀c,w=.o c->q'.L (.f i n)=q.L (.f i n)/\∀o,q.τ[q.L (.f i n)]?=J o->q'.τ[q.L (.f i n)]?=J o)->FV q' E' i n w v:=
 FV.rec (motive:=λw v y=>(∀c,w=.o c->q'.L (.f i n)=q.L (.f i n)/\∀o,q.τ[q.L (.f i n)]?=J o->q'.τ[q.L (.f i n)]?=J o)->FV q' E' i n w v) (λh y=>.val (b h))
  (λh u=>(u _ rfl).1▸.o ((u _ rfl).1.symm▸h.map b (u _ rfl).2)) h
def Of(i:Nat)(z:mr):Prop:=match z with|.a j=>j=i|.d j=>j=i|.f j u=>j=i
theorem OS.map(r:gk q q' E E')(d:q.σ[i]?=J o)(f:∀p,Of i p->Ug q.σ p->q'.L p=q.L p/\∀o,q.τ[q.L p]?=J o->q'.τ[q.L p]?=J o)(h:OS q E i o):OS q' E' i o:=by
 have l:∀{fs es},o.fs=fs->FS q E i fs es->FS q' E' i fs es:=λg F=>⟨F.keys,λn w e=>by
  obtain⟨v,b,z⟩:=F.at_ n w e;exact⟨v,b,z.map r λc k=>f _ rfl ⟨c,by unfold ii;refine U d ?_;exact(g▸e).trans (Gc J k)⟩⟩⟩
 have b:=f (.a i) rfl (oh d);cases h with
 |inst k s F=>
  have m:=f (.d i) rfl ⟨_,_,d,rfl⟩;exact .inst' b.1 m.1 (b.2 _ k) (m.2 _ s) (l rfl F)
 |sd k F=>exact .sd' b.1 (b.2 _ k) (l rfl F)
theorem xj{l:List S}{i:Nat}{a x:S}(h:(l.set i a)[j]?=J x):(i=j/\x=a)\/(i≠j/\l[j]?=J x):=by
 rw[yq]at h;by_cases c:i=j
 ·rw[Dd c]at h;split at h
  ·exact .inl ⟨c,(ba h).symm⟩
  ·exact ja h
 ·rw[fe c]at h;exact .inr ⟨c,h⟩
theorem bg{l:List S}{i:Nat}{a x:S}(h:l[j]?=J x)(b:i≠j):(l.set i a)[j]?=J x:=by refine U (Xc b) ?_;exact h
theorem Gp{l:List S}{i:Nat}{a x:S}(h:l[i]?=J x):(l.set i a)[i]?=J a:=by exact U (je (oh h)) rfl
theorem CV{o:OF}(k:q.σ[i]?=J o)(l:o1.cls=o.cls)(m:∀n c,de o1.fs n=J (.o c)->∃c,de o.fs n=J (.o c))(u:Ug (q.σ.set i o1) p):Ug q.σ p:=by
 induction p with
 |a j=>have:j<(q.σ.set i o1).length:=u;rw[yb]at this;exact this|d j=>
  refine aa λr=>?_;obtain⟨g,h,e,b⟩:=u;refine r ?_;rcases xj e with⟨rfl,rfl⟩|⟨_,e⟩
  ·exact⟨o,h,k,l▸b⟩
  ·exact⟨g,h,e,b⟩
 |f j n=>
  obtain⟨c,e⟩:=u;obtain⟨g,h,b⟩:=Fa.mp e;rcases xj h with⟨rfl,rfl⟩|⟨_,h⟩
  ·obtain⟨r,s⟩:=m n c b
   exact⟨r,Fa.mpr ⟨o,k,s⟩⟩
  ·exact⟨c,Fa.mpr ⟨g,h,b⟩⟩
theorem gD{o:OF}(g:q.σ[i]?=J o)(m:o1.cls=o.cls)(r:∀n c,de o.fs n=J (.o c)->∃c,de o1.fs n=J (.o c))(u:Ug q.σ p):Ug (q.σ.set i o1) p:=by
 induction p with
 |a j=>show j<(q.σ.set i o1).length;refine U yb ?_;exact u|d j=>
  refine aa λl=>?_;obtain⟨h,k,e,b⟩:=u;refine l ?_;by_cases c:i=j
  ·subst c;rw[g]at e;obtain rfl:=ba e;exact⟨o1,k,Gp g,m.trans b⟩
  ·exact⟨h,k,bg e c,b⟩
 |f j n=>
  obtain⟨c,e⟩:=u;obtain⟨h,k,b⟩:=Fa.mp e;by_cases l:i=j
  ·subst l;rw[g]at k;obtain rfl:=ba k
   obtain⟨s,t⟩:=r n c b;exact⟨s,Fa.mpr ⟨o1,Gp g,t⟩⟩
  ·exact⟨c,Fa.mpr ⟨h,bg k l,b⟩⟩
theorem Rl.turn(r:Rl E q){o:OF}{p0:mr}(f:q.σ[i]?=J o)(s:Of i p0)(g:Ug q.σ p0)(k:o1.cls=o.cls)(l:∀n,(∃c,de o1.fs n=J (.o c))↔∃c,de o.fs n=J (.o c))
 (t:Le q ⟨q.L,q.σ.set i o1,q.τ.set (q.L p0) ob⟩->OS ⟨q.L,q.σ.set i o1,q.τ.set (q.L p0) ob⟩ E i o1):Le q ⟨q.L,q.σ.set i o1,q.τ.set (q.L p0) ob⟩/\Rl E ⟨q.L,q.σ.set i o1,q.τ.set (q.L p0) ob⟩:=by
 have b:∀{p},Ug (q.σ.set i o1) p->Ug q.σ p:=CV f k λn c h=>(l n).mp ⟨c,h⟩;have d:(q.τ.set (q.L p0) ob).length=q.τ.length:=yb;have X:Le q ⟨q.L,q.σ.set i o1,q.τ.set (q.L p0) ob⟩:=⟨Fd d.symm,λp u=>⟨gD f k (λn c h=>(l n).mpr ⟨c,h⟩) u,rfl⟩,λp u=>.inl (b u),λa m e h=>bg e (h p0 g)⟩;refine⟨X,λp y u A e=>r.inj p y (b u) (b A) e,λp u=>d.symm▸r.lt p (b u),λp u=>r.sep p (b u),λa h=>d.symm▸r.elt a h,λj m e=>?_⟩;rcases xj e with⟨rfl,rfl⟩|⟨B,e⟩
 ·exact t X
 ·refine(r.obj j m e).map (λh=>h.mono X) e λp C u=>⟨rfl,λD F=>bg F λz=>B ?_⟩
  have:=r.inj _ _ g u z;subst this
  induction p0<;>exact s.symm.trans C
theorem FS.put{b:List (Bb×W)}{d:List (Bb×V)}(F:FS q E i b d)(f:FV q' E' i n w v)(g:∀m,n≠m->∀w v,de b m=J w->FV q E i m w v->FV q' E' i m w v):FS q' E' i (jj b n w) (Hh d n v):=
 ⟨LN n w v b d F.keys,λm u e=>by
  rw[Ej]at e;refine U (BJ _ _ _ _) ?_;by_cases c:n=m
  ·rw[Dd c]at e|-;subst c;exact⟨v,rfl,ba e▸f⟩
  ·rw[fe c]at e|-
   obtain⟨h,k,z⟩:=F.at_ m u e;exact⟨h,k,g m c _ _ e z⟩⟩
theorem jw{b f:List (Bb×W)}(h:RJ b n w=J f):f=jj b n w/\∀c,de b n≠J (.o c):=by
 unfold RJ at h
 induction e:de b n with
 |none=>rw[e]at h;exact⟨(ba h).symm,λy z=>ja z⟩|some u=>
  rw[e]at h
  induction d:xT u with
  |true=>simp only[d]at h;exact ja h|false=>simp only[d]at h;exact⟨(ba h).symm,λc z=>by rw[ba z]at d;exact Bd d⟩
theorem BH{f:List (Bb×W)}(g:nb w=Z)(h:∀c,de f n≠J (.o c))(m:Bb):(∃c,de (jj f n w) m=J (.o c))↔∃c,de f m=J (.o c):=by
 refine U (Ej _ _ _ _) ?_;by_cases c:n=m
 ·exact U (Dd c) (⟨λb=>by obtain⟨d,e⟩:=b;exact zc g (ba e▸ia),λb=>by obtain⟨d,e⟩:=b;exact zc (c▸e) (h d)⟩)
 ·rw[fe c]
theorem nC(r:Rl E q)(h:VB q E w v)(k:VS q E u x):Sb (λb d=>Le q ⟨q.L,b,d⟩/\Rl E ⟨q.L,b,d⟩) ((Bk w).bind (Co T n u q.σ)) (Qn (T.w R) v n x q.τ):=Sb.wJ λi e=>by
 obtain⟨l,rfl⟩:=h.ref_of e;obtain⟨o,b,O⟩:=r.get l;unfold Co;refine U b ?_;cases O with
 |sd=>exact .no| @inst c s f t A F=>
  show Sb _ ((Ge _).bind _) ((wi q.τ (q.L (.a i))).bind _)
  refine U (uo t) ?_;show Sb _ _ ((Vq q.τ (q.L (.d i))).bind _)
  refine U (Wq A) ?_;have B:s.length=f.length:=by have:=Gc nj F.keys;rw[ya,ya]at this;exact this
  show Sb _ ((Ge (T.attr c n&&ac s.length 900)).bind _) ((Ge (T.attr c n&&ac f.length 900)).map _)
  refine U B ?_
  induction I:(T.attr c n&&ac f.length 900)with
  |false=>exact .no|true=>
   refine Sb.lookm λK C=>?_;obtain⟨rfl,D⟩:=jw C;exact Sb.ok (r.turn (p0:=.d i) b rfl ⟨_,_,b,rfl⟩ rfl (BH k.nb D) λX=>.inst (bg t λz=>nomatch (r.inj (.d i) (.a i) ⟨_,_,b,rfl⟩ l z)) (Gp A) (F.put (.val (k.mono X)) λm y w v e z=>z.mono X (λd g=>⟨d,Fa.mpr ⟨_,b,g▸e⟩⟩) λd g o G=>bg G λz=>nomatch (r.inj (.d i) (.f i m) ⟨_,_,b,rfl⟩ ⟨d,Fa.mpr ⟨_,b,g▸e⟩⟩ z)))
theorem yw(r:Rl E q){b:W}(B:ii q.σ i n=J (.o c))(K:VO q E b ob):Le q ⟨q.L,Fm q.σ i n (.o b),q.τ.set (q.L (.f i n)) ob⟩/\Rl E ⟨q.L,Fm q.σ i n (.o b),q.τ.set (q.L (.f i n)) ob⟩:=by
 have A:Ug q.σ (.f i n):=⟨c,B⟩;refine aa λl=>?_;obtain⟨o,g,e⟩:=Fa.mp B;obtain⟨L,P,_⟩:=(vq r B).vo;refine l ?_;have s:Fm q.σ i n (.o b)=q.σ.set i ⟨o.cls,jj o.fs n (.o b)⟩:=by unfold Fm;exact U g rfl
 refine U s ?_;refine r.turn g rfl A rfl (λm=>by
  refine U (Ej _ _ _ _) ?_;by_cases k:n=m
  ·exact U (Dd k) (⟨λy=>⟨c,k▸e⟩,λy=>⟨b,rfl⟩⟩)
  ·rw[fe k]) λX=>?_
 have hm:∀m,n≠m->∀w v,de o.fs m=J w->FV q E i m w v->FV ⟨q.L,q.σ.set i ⟨o.cls,jj o.fs n (.o b)⟩,q.τ.set (q.L (.f i n)) ob⟩ E i m w v:=λm hn w v f z=>
  z.mono X (λd C=>⟨d,Fa.mpr ⟨_,g,C▸f⟩⟩) λd C o' D=>bg D λz=>hn (mr.f_inj (r.inj (.f i n) (.f i m) A ⟨d,Fa.mpr ⟨_,g,C▸f⟩⟩ z))
 have I:∀{s:List (Bb×V)}{y},o.fs=y->FS q E i y s->FS ⟨q.L,q.σ.set i ⟨o.cls,jj o.fs n (.o b)⟩,q.τ.set (q.L (.f i n)) ob⟩ E i (jj y n (.o b)) s:=λG F=>by
  subst G;refine⟨?_,λm u f=>?_⟩
  ·refine aa λl=>?_
   obtain⟨v,t,_⟩:=F.at_ n _ e;exact l (Ed F.keys (keys_in e))
  ·rw[Ej]at f
   by_cases k:n=m
   ·rw[Dd k]at f;subst k
    obtain⟨v,t,z⟩:=F.at_ n _ e;refine aa λl=>?_;cases z with
    |val z=>refine l ?_;exact zc z.nb ia|o z=>refine l ?_;exact⟨_,t,ba f▸.o (.of (Gp P) (K.map λh=>h.mono X))⟩
   ·rw[fe k]at f
    obtain⟨v,t,z⟩:=F.at_ m u f;exact⟨v,t,hm m k _ _ f z⟩
 have O:=r.obj i o g;cases O with
 | @inst k y s h t F=>exact .inst (bg h λz=>nomatch (r.inj (.f i n) (.a i) A (oh g) z)) (bg t λz=>nomatch (r.inj (.f i n) (.d i) A ⟨_,_,g,rfl⟩ z)) (I rfl F)| @sd y s h F=>exact .sd (bg h λz=>nomatch (r.inj (.f i n) (.a i) A (oh g) z)) (I rfl F)
where keys_in {w u:W}:{fs:List (Bb×W)}->de fs n=J u->(jj fs n w).map (λx=>x.1)=fs.map (λx=>x.1)
 |[],h=>ja h|(k,a)::fs,h=>by
  replace h:(if k=n then J a else de fs n)=J u:=h;show(if k=n then(k,w)::fs else(k,a)::jj fs n w).map (λx=>x.1)=_
  by_cases c:k=n
  ·refine U (Dd c) ?_;rfl
  ·rw[fe c]at h|-;exact Gc (λx=>k::x) (keys_in h)
end
def Ow(P:List Nat)(T:fc)(ow:Nat->Nat)(a:Nat):Prop:=(∃i c,Ke T i=J (.o c)/\ow i=a)\/a∈P
def EX(X O:Nat->Prop)(a:Nat):Prop:=X a\/O a
structure Ju(O Q:Nat->Prop)(q R:Wd):Prop where
 len:q.τ.length<=R.τ.length
 usd:∀p,Ug q.σ p->Ug R.σ p/\R.L p=q.L p
 new:∀p,Ug R.σ p->Ug q.σ p\/q.τ.length<=R.L p\/O (R.L p)
 keep:∀(a:Nat)(o:Mine.Internal.O),q.τ[a]?=J o->(∀p,Ug q.σ p->q.L p≠a)->¬O a->R.τ[a]?=J o
 own:∀a,Q a->O a\/q.τ.length<=a
structure Aj(X:Nat->Prop)(P:List Nat)(T:fc)(S:Me)(ow:Nat->Nat)(q:Wd):Prop where
 rl:Rl (EX X (Ow P T ow)) q
 len:T.length=S.length
 no:∀i:Nat,T[i]?=J Y->S[i]?=J Y
 val:∀i w,Ke T i=J w->xT w=ua->∃v,Zk S i=J v/\VS q (EX X (Ow P T ow)) w v
 own:∀i c,Ke T i=J (.o c)->Zk S i=J (.ref (ow i))/\VC q (EX X (Ow P T ow)) c (ow i)
 inj:∀i j c c',Ke T i=J (.o c)->Ke T j=J (.o c')->ow i=ow j->i=j
 sep:∀a,Ow P T ow a->¬X a
 pn:P.Nodup
 ps:∀i c,Ke T i=J (.o c)->ow i∉P
section
variable {q R L:Wd} {E K X O Q N:Nat->Prop} {w u c:W} {v x:V} {I:Ch} {n:Bb} {i b:Nat} {P:List Nat} {T:fc} {S:Me} {ow:Nat->Nat}
theorem Ju.refl:Ju O O q q:=⟨Gb _,λu h=>⟨h,rfl⟩,λu h=>.inl h,λu u h u u=>h,λu h=>.inl h⟩
theorem Le.s(x:Le q R):Ju O O q R:=⟨x.len,x.usd,λp u=>(x.new p u).imp_right .inl,λa o e h y=>x.keep a o e h,λy h=>.inl h⟩
theorem Ju.trans(x:Ju O Q q R)(y:Ju Q N R L):Ju O N q L:=
 ⟨Za x.len y.len,λp h=>⟨(y.usd p (x.usd p h).1).1,((y.usd p (x.usd p h).1).2).trans (x.usd p h).2⟩,
  λp h=>(y.new p h).elim (λg=>(x.new p g).imp_right λz=>by refine U ((y.usd p g).2) ?_;exact z) λz=>.inr (z.elim (λz=>.inl (Za x.len z)) λz=>(x.own _ z).symm),
  λa o e h f=>y.keep a o (x.keep a o e h f) (λp u z=>(x.new p u).elim (λd=>h p d ((x.usd p d).2.symm.trans z)) λd=>d.elim (λd=>dc _ (rb (oh e) (z▸d))) λd=>f (z▸d)) λz=>(x.own a z).elim f λz=>dc _ (rb (oh e) z),
  λa z=>(y.own a z).elim (x.own a) λz=>.inr (Za x.len z)⟩
theorem Ju.le(x:Ju O Q q R)(h:∀a,¬O a):Le q R:=⟨x.len,x.usd,λp u=>(x.new p u).imp_right λz=>z.resolve_right (h _),λa o e n=>x.keep a o e n (h a)⟩
theorem Ju.carry(x:Ju O Q q R):gk q R (EX X O) (EX X Q):=λ{w v} h=>h.map (λi a=>x.usd (.a i) a) λa o e f=>
 have g:¬O a:=λz=>f (.inr (.inr z))
 ⟨λz=>z.elim (λj=>by obtain⟨p,u,k⟩:=j;exact(x.new p u).elim (λd=>f (.inl ⟨p,d,(x.usd p d).2.symm.trans k⟩)) λd=>d.elim (λd=>dc _ (rb (oh e) (k▸d))) λd=>g (k▸d))
  λz=>z.elim (λz=>f (.inr (.inl z))) λz=>(x.own a z).elim g λz=>dc _ (rb (oh e) z),
  x.keep a o e (λp u z=>f (.inl ⟨p,u,z⟩)) g⟩
theorem Rl.sub(r:Rl E q)(h:∀a,K a->E a):Rl K q:=⟨r.inj,r.lt,λp u z=>r.sep p u (h _ z),λa z=>r.elt a (h a z),λi o e=>(r.obj i o e).map (λz=>z.sub h) e λy y y=>⟨rfl,λy z=>z⟩⟩
theorem Aj.wS(F:Aj X P T S ow q):Ww (EX X (Ow P T ow)) q T S:=⟨F.len,F.no,λi w e=>by
 induction d:xT w with
 |false=>obtain⟨v,a,z⟩:=F.val i w e d;exact⟨v,a,.val z⟩|true=>
  induction w using W.casesOn<;>try exact Bd d
  obtain⟨a,z⟩:=F.own i _ e;exact⟨_,a,.o (.inr (.inl ⟨i,_,e,rfl⟩)) z⟩⟩
theorem Aj.le(F:Aj X P T S ow q)(x:Le q R)(r:Rl (EX X (Ow P T ow)) R):Aj X P T S ow R:=
 ⟨r,F.len,F.no,λi w e h=>(F.val i w e h).imp λu z=>⟨z.1,z.2.mono x⟩,λi c e=>⟨(F.own i c e).1,(F.own i c e).2.mono x λo=>F.rl.eget x (.inr (.inl ⟨i,c,e,rfl⟩))⟩,F.inj,F.sep,F.pn,F.ps⟩
theorem Su(a:i<T.length)(w:W)(j:Nat):Ke (T.set i (J w)) j=if i=j then J w else Ke T j:=by
 unfold Ke;refine U yq ?_;by_cases c:i=j
 ·refine U (Dd c) (U (Dd c) (U (Dd a) ?_));rfl
 ·exact U (fe c) (U (fe c) rfl)
theorem mD(a:i<S.length)(w:V)(j:Nat):Zk (S.set i (J w)) j=if i=j then J w else Zk S j:=by
 unfold Zk;refine U yq ?_;by_cases c:i=j
 ·refine U (Dd c) (U (Dd c) (U (Dd a) ?_));rfl
 ·exact U (fe c) (U (fe c) rfl)
theorem lO(h:∀i:Nat,T[i]?=J Y->S[i]?=J Y)(j:Nat):(T.set i (J w))[j]?=J Y->(S.set i (J v))[j]?=J Y:=λe=>by
 refine aa λa=>?_;rcases xj e with⟨_,e⟩|⟨d,e⟩
 ·exact a (ja e)
 ·exact a (bg (h j e) d)
theorem Aj.less(F:Aj X P T S ow q){k:List Nat}{d:fc}{g:Me}{f:Nat->Nat}(l:∀a,Ow k d f a->Ow P T ow a)(len:d.length=g.length)(p:∀i:Nat,d[i]?=J Y->g[i]?=J Y)
 (m:∀i w,Ke d i=J w->xT w=ua->∃v,Zk g i=J v/\VS q (EX X (Ow k d f)) w v)(own:∀i c,Ke d i=J (.o c)->Zk g i=J (.ref (f i))/\VC q (EX X (Ow P T ow)) c (f i))
 (o:∀i j c e,Ke d i=J (.o c)->Ke d j=J (.o e)->f i=f j->i=j)(j:k.Nodup)(r:∀i c,Ke d i=J (.o c)->f i∉k):Aj X k d g f q/\Ju (Ow P T ow) (Ow k d f) q q:=by
 have hEx:∀a,EX X (Ow k d f) a->EX X (Ow P T ow) a:=λa z=>z.imp_right (l a);exact⟨⟨F.rl.sub hEx,len,p,m,λi c e=>⟨(own i c e).1,(own i c e).2.map (λz=>z.sub hEx) λu z=>z⟩,o,λa z=>F.sep a (l a z),j,r⟩,
  Gb _,λu h=>⟨h,rfl⟩,λu h=>.inl h,λu u h u u=>h,λa z=>.inl (l a z)⟩
theorem ri(a:i<T.length){j:Nat}{u:W}(h:Ke (T.set i (J w)) j=J u):(i=j/\u=w)\/(i≠j/\Ke T j=J u):=by
 rw[Su a]at h;by_cases c:i=j
 ·rw[Dd c]at h;exact .inl ⟨c,(ba h).symm⟩
 ·rw[fe c]at h;exact .inr ⟨c,h⟩
theorem OQ(a:i<S.length):Zk (S.set i (J v)) i=J v:=by exact U (mD a _ _) (U (Dd rfl) rfl)
theorem rA(a:i<S.length){j:Nat}{x:V}(c:i≠j)(h:Zk S j=J x):Zk (S.set i (J v)) j=J x:=by refine U (mD a _ _) (U (fe c) ?_);exact h
theorem Aj.setV(F:Aj X P T S ow q)(g:i<T.length)(h:VS q (EX X (Ow P T ow)) w v):Aj X P (T.set i (J w)) (S.set i (J v)) ow q/\Ju (Ow P T ow) (Ow P (T.set i (J w)) ow) q q:=by
 have f:i<S.length:=F.len▸g;have d:∀{j c},Ke (T.set i (J w)) j=J (.o c)->i≠j/\Ke T j=J (.o c):=λe=>(ri g e).resolve_left λz=>(λc e=>zc h.nb (e▸ia):∀c,w≠ .o c) _ z.2.symm;have l:∀a,Ow P (T.set i (J w)) ow a->Ow P T ow a:=λa z=>z.imp_left λm=>by obtain⟨j,c,e,o⟩:=m;exact⟨j,c,(d e).2,o⟩
 exact F.less l (by refine U yb (U yb ?_);exact F.len) (lO F.no) (λj u e p=>by
  rcases ri g e with⟨rfl,rfl⟩|⟨c,e⟩
  ·exact⟨v,OQ f,h.sub λa z=>z.imp_right (l a)⟩
  ·refine aa λk=>?_
   obtain⟨y,r,z⟩:=F.val j u e p;refine k ?_;exact⟨y,rA f c r,z.sub λa z=>z.imp_right (l a)⟩)
  (λj c e=>⟨rA f (d e).1 (F.own j c (d e).2).1,(F.own j c (d e).2).2⟩) (λj k c r e o=>F.inj j k c r (d e).2 (d o).2) F.pn λj c e=>F.ps j c (d e).2
noncomputable def qaL(ow:Nat->Nat)(i b j:Nat):Nat:=if j=i then b else ow j
theorem Sw:qaL ow i b i=b:=Dd rfl
theorem Lp{j:Nat}(h:i≠j):qaL ow i b j=ow j:=fe (cq h)
theorem Aj.setO(F:Aj X (b::P) T S ow q)(m:i<T.length)(h:VC q (EX X (Ow (b::P) T ow)) c b):∃p,Aj X P (T.set i (J (.o c))) (S.set i (J (.ref b))) p q/\Ju (Ow (b::P) T ow) (Ow P (T.set i (J (.o c))) p) q q:=by
 have o:i<S.length:=F.len▸m;refine⟨qaL ow i b,?_⟩;have r:=Fc.mp F.pn;have t:∀a,Ow P (T.set i (J (.o c))) (qaL ow i b) a->Ow (b::P) T ow a:=λa z=>z.elim (λf=>by
  obtain⟨j,d,e,l⟩:=f;rcases ri m e with⟨rfl,_⟩|⟨g,e⟩
  ·exact .inr (by rw[Sw]at l;exact l▸sa)
  ·exact .inl ⟨j,d,e,by rw[Lp g]at l;exact l⟩) λz=>.inr (oa _ z)
 refine F.less t (by refine U yb (U yb ?_);exact F.len) (lO F.no) (λj u e A=>?_) (λj d e=>?_) (λj k d B e l=>?_) r.2 λj d e=>?_
 ·rcases ri m e with⟨rfl,rfl⟩|⟨g,e⟩
  ·exact Bd A
  ·obtain⟨y,f,z⟩:=F.val j u e A
   exact⟨y,rA o g f,z.sub λa z=>z.imp_right (t a)⟩
 ·rcases ri m e with⟨rfl,f⟩|⟨g,e⟩
  ·cases f;refine U Sw ?_;exact⟨OQ o,h⟩
  ·exact U (Lp g) (⟨rA o g (F.own j d e).1,(F.own j d e).2⟩)
 ·rcases ri m e with⟨rfl,_⟩|⟨g,e⟩<;>rcases ri m l with⟨rfl,_⟩|⟨s,l⟩
  ·exactλf=>rfl
  ·exact U Sw (U (Lp s) λz=>zc (z▸sa) (F.ps k B l))
  ·exact U Sw (U (Lp g) λz=>zc (z.symm▸sa) (F.ps j d e))
  ·exact U (Lp g) (U (Lp s) (F.inj j k d B e l))
 ·rcases ri m e with⟨rfl,_⟩|⟨g,e⟩
  ·exact U Sw r.1
  ·exact U (Lp g) λz=>F.ps j d e (oa _ z)
theorem Aj.frz(F:Aj X P T S ow q)(h:Ke T i=J (.o c)):Aj X P (T.set i (J c)) S ow q/\Ju (Ow P T ow) (Ow P (T.set i (J c)) ow) q q:=by
 have s:i<T.length:=by
  exact Wg h λo e g=>(oh e)
 obtain⟨r,z1⟩:=F.own i c h;have t:∀d,c≠ .o d:=λd e=>(by have:=(e▸z1).wF;exact this);have g:∀{j d},Ke (T.set i (J c)) j=J (.o d)->i≠j/\Ke T j=J (.o d):=λe=>(ri s e).resolve_left λz=>t _ z.2.symm;have m:∀a,Ow P (T.set i (J c)) ow a->Ow P T ow a:=λa z=>z.imp_left λl=>by obtain⟨j,d,e,f⟩:=l;exact⟨j,d,(g e).2,f⟩
 refine F.less m (by refine U yb ?_;exact F.len) (λj e=>?_) (λj u e A=>?_) (λj d e=>F.own j d (g e).2) (λj k d o e f=>F.inj j k d o (g e).2 (g f).2) F.pn λj d e=>F.ps j d (g e).2
 ·refine aa λo=>?_
  rcases xj e with⟨_,e⟩|⟨_,e⟩
  ·exact o (ja e)
  ·exact o (F.no j e)
 ·rcases ri s e with⟨rfl,rfl⟩|⟨B,e⟩
  ·refine⟨_,r,?_⟩
   have y:¬Ex q (EX X (Ow P (T.set i (J u)) ow)) (ow i):=λz=>z.elim (λl=>by obtain⟨p,v,f⟩:=l;exact F.rl.sep p v (f▸.inr (.inl ⟨i,u,h,rfl⟩))) λz=>z.elim (F.sep _ (.inl ⟨i,u,h,rfl⟩)) λz=>z.elim (λl=>by obtain⟨j,d,e,f⟩:=l;exact(g e).1 (F.inj i j u d h (g e).2 f.symm)) λz=>F.ps i u h z;exact z1.rec (motive:=λu a f=>¬Ex q _ a->VS q _ u (.ref a)) (λe h n=>.l n e (h.sub λa z=>z.imp_right (m a))) (λe k h n=>.dic n e k (h.sub λa z=>z.imp_right (m a))) y
  ·refine aa λo=>?_
   obtain⟨y,r,z⟩:=F.val j u e A;exact o (⟨y,r,z.sub λa z=>z.imp_right (m a)⟩)
theorem Rl.wr(r:Rl E q)(h:E b)(d:Mine.Internal.O):Rl E ⟨q.L,q.σ,q.τ.set b d⟩/\gk q ⟨q.L,q.σ,q.τ.set b d⟩ E E:=by
 have C:gk q ⟨q.L,q.σ,q.τ.set b d⟩ E E:=λz=>VS.map (q:=q) (q':=⟨q.L,q.σ,q.τ.set b d⟩) (λy h=>⟨h,rfl⟩) (λa o e n=>⟨n,bg (l:=q.τ) e λz=>n (.inr (z▸h))⟩) z;have f:(q.τ.set b d).length=q.τ.length:=yb;exact⟨⟨r.inj,λp u=>f.symm▸r.lt p u,r.sep,λa h=>f.symm▸r.elt a h,λi o e=>(r.obj i o e).map C e λp y u=>⟨rfl,λo e=>bg e λz=>r.sep p u (z▸h)⟩⟩,C⟩
theorem Aj.upd(F:Aj X P T S ow q)(h:Ke T i=J (.o c)){c':W}{ob:Mine.Internal.O}(k:VO q (EX X (Ow P T ow)) c' ob):Aj X P (T.set i (J (.o c'))) S ow ⟨q.L,q.σ,q.τ.set (ow i) ob⟩/\Ju (Ow P T ow) (Ow P (T.set i (J (.o c'))) ow) q ⟨q.L,q.σ,q.τ.set (ow i) ob⟩:=by
 have m:i<T.length:=by
  exact Wg h λo e f=>(oh e)
 have A:Ow P T ow (ow i):=.inl ⟨i,c,h,rfl⟩;refine aa λr=>?_;obtain⟨G,z1⟩:=F.own i c h;obtain⟨x1,e0,_⟩:=z1.vo;have g:∀{j d},Ke (T.set i (J (.o c'))) j=J (.o d)->∃d,Ke T j=J (.o d):=λe=>(ri m e).elim (λz=>z.1▸⟨c,h⟩) λz=>⟨_,z.2⟩;have s:∀a,Ow P (T.set i (J (.o c'))) ow a↔Ow P T ow a:=λa=>⟨λz=>z.imp_left λl=>by obtain⟨j,d,e,f⟩:=l;exact(g e).elim λB z=>⟨j,B,z,f⟩,λz=>z.imp_left λl=>by
  obtain⟨j,d,e,f⟩:=l;by_cases p:i=j
  ·exact⟨j,c',by exact U (Su m _ _) (U (Dd p) rfl),f⟩
  ·exact⟨j,d,by refine U (Su m _ _) (U (fe p) ?_);exact e,f⟩⟩
 obtain⟨r1,C⟩:=F.rl.wr (.inr A) ob;refine r ?_;have hEx:∀a,EX X (Ow P (T.set i (J (.o c'))) ow) a->EX X (Ow P T ow) a:=λa z=>z.imp_right (s a).mp;have t:gk q ⟨q.L,q.σ,q.τ.set (ow i) ob⟩ (EX X (Ow P T ow)) (EX X (Ow P (T.set i (J (.o c'))) ow)):=λz=>(C z).sub hEx;refine⟨⟨r1.sub hEx,by refine U yb ?_;exact F.len,λj e=>?_,λj u e D=>?_,λj d e=>?_,λj k d B e f=>(g e).elim λy e=>(g f).elim λy f=>F.inj j k _ _ e f,λa z=>F.sep a ((s a).mp z),F.pn,λj d e=>(g e).elim λy e=>F.ps j _ e⟩,
  Fd yb.symm,λy h=>⟨h,rfl⟩,λy h=>.inl h,λa o e y n=>bg e λz=>n (z▸A),λa z=>.inl ((s a).mp z)⟩
 ·refine aa λr=>?_
  rcases xj e with⟨_,e⟩|⟨_,e⟩
  ·exact r (ja e)
  ·exact r (F.no j e)
 ·rcases ri m e with⟨rfl,rfl⟩|⟨p,e⟩
  ·exact Bd D
  ·exact(F.val j u e D).imp λy z=>⟨z.1,t z.2⟩
 ·rcases ri m e with⟨rfl,y⟩|⟨p,e⟩
  ·cases y;exact⟨G,.of (Gp e0) (k.map t)⟩
  ·obtain⟨B,z2⟩:=F.own j d e
   exact⟨B,z2.map t λo f=>bg f λz=>p (F.inj i j c d h e z)⟩
end
inductive TV(q:Wd)(E:Nat->Prop):List Nat->W->V->Prop
 |val {w:W} {v:V}:VS q E w v->TV q E [] w v|own {c:W} {b:Nat}:VC q E c b->TV q E [b] (.o c) (.ref b)
class inductive TS(q:Wd)(E:Nat->Prop):List Nat->List W->List V->Prop
 |nil:TS q E [] [] []|cons {P P':List Nat} {w:W} {v:V} {ws:List W} {vs:List V}:TV q E P w v->TS q E P' ws vs->TS q E (P++P') (w::ws) (v::vs)
inductive BI(X:Nat->Prop)(P:List Nat)(T:fc)(S:Me)(ow:Nat->Nat)(q:Wd){D B:Type}(V:Wd->(Nat->Prop)->List Nat->D->B->Prop)(a:D×ub)(b:B×St):Prop
 |mk (L:mr->Nat) (Q:List Nat):Le q ⟨L,a.2,b.2⟩->(∀b∈Q,q.τ.length<=b)->Aj X (P++Q) T S ow ⟨L,a.2,b.2⟩->V ⟨L,a.2,b.2⟩ (EX X (Ow (P++Q) T ow)) Q a.1 b.1->BI X P T S ow q V a b
section
variable {q q' t:Wd} {E E' X O s:Nat->Prop} {w u c:W} {v x:V} {R:Ch} {G N:Nat->Option (List Int)} {n:Bb} {i b:Nat} {P Q:List Nat} {T:fc} {S:Me} {ow:Nat->Nat} {ws:List W} {vs:List V}
theorem QE{a:Nat}:Ow (P++Q) T ow a↔Ow P T ow a\/a∈Q:=⟨λz=>z.elim (λz=>.inl (.inl z)) λz=>(Xb.mp z).elim (λz=>.inl (.inr z)) .inr,λz=>z.elim (λz=>z.imp_right λz=>Je _ z) λz=>.inr (Ld _ z)⟩
theorem Le.fresh(x:Le q q')(h:∀b∈Q,q.τ.length<=b):Ju (Ow P T ow) (Ow (P++Q) T ow) q q':=⟨x.len,x.usd,λp u=>(x.new p u).imp_right .inl,λa o e h y=>x.keep a o e h,λa z=>(QE.mp z).imp_right (h a)⟩
theorem TV.map(d:gk q q' E E')(e:∀b∈P,∀o,q.τ[b]?=J o->q'.τ[b]?=J o)(h:TV q E P w v):TV q' E' P w v:=
 h.rec (motive:=λP w v u=>(∀b∈P,∀o,q.τ[b]?=J o->q'.τ[b]?=J o)->TV q' E' P w v) (λh u=>.val (d h)) (λh k=>.own (h.map d (k _ sa))) e
theorem TS.map(f:gk q q' E E')(h:TS q E P ws vs):(∀b∈P,∀o,q.τ[b]?=J o->q'.τ[b]?=J o)->TS q' E' P ws vs:=
 h.rec (motive:=λP w v u=>(∀b∈P,∀o,q.τ[b]?=J o->q'.τ[b]?=J o)->TS q' E' P w v) (λu=>.nil) λa u d k=>.cons (a.map f λb e=>k b (Je _ e)) (d λb e=>k b (Ld _ e))
theorem Pd.ts{ws:List W}{vs:List V}(h:Pd q E ws vs):TS q E [] ws vs:=h.ind (P:=TS q E []) .nil λu u u u a u d=>.cons (.val a) d
theorem Aj.push(F:Aj X P T S ow q)(d:Mine.Internal.O):Le q ⟨q.L,q.σ,q.τ++[d]⟩/\Aj X (P++[q.τ.length]) T S ow ⟨q.L,q.σ,q.τ++[d]⟩/\gk q ⟨q.L,q.σ,q.τ++[d]⟩ (EX X (Ow P T ow)) (EX X (Ow (P++[q.τ.length]) T ow)):=by
 refine aa λg=>?_;obtain⟨r,x⟩:=F.rl.push d;refine g ?_;have C:gk q ⟨q.L,q.σ,q.τ++[d]⟩ (EX X (Ow P T ow)) (EX X (Ow (P++[q.τ.length]) T ow)):=λz=>(x.fresh (λb h=>Fd (Ra.mp h).symm:∀b∈[q.τ.length],q.τ.length<=b)).carry z;have hEx:∀a,EX X (Ow (P++[q.τ.length]) T ow) a->EX X (Ow P T ow) a\/a=q.τ.length:=λa z=>z.elim (λz=>.inl (.inl z)) λz=>(QE.mp z).imp .inr λz=>Ra.mp z;have f:∀{a},Ow P T ow a->a<q.τ.length:=λz=>F.rl.elt _ (.inr z);refine⟨x,⟨⟨r.inj,r.lt,λp u z=>(hEx _ z).elim (r.sep p u) λe=>dc _ (e▸F.rl.lt p u),λa z=>(hEx a z).elim (r.elt a) λe=>e▸(by show _<(q.τ++[d]).length;refine U Ha ?_;exact pd _),λi o e=>(F.rl.obj i o e).map C e λp j u=>⟨rfl,λo e=>Oh e⟩⟩,
  F.len,F.no,λi w e h=>(F.val i w e h).imp λj z=>⟨z.1,C z.2⟩,λi c e=>⟨(F.own i c e).1,(F.own i c e).2.map C λo e=>Oh e⟩,F.inj,λa z=>(QE.mp z).elim (F.sep a) λz y=>dc _ ((Ra.mp z)▸F.rl.elt a (.inl y)),
  ?_,λi c e z=>(Xb.mp z).elim (F.ps i c e) λz=>dc _ ((Ra.mp z)▸f (.inl ⟨i,c,e,rfl⟩))⟩,C⟩
 exact di.mpr ⟨F.pn,Fc.mpr ⟨Tb,.nil⟩,λa k b l e=>dc _ ((e.trans (Ra.mp l))▸f (.inr k))⟩
variable {K:Yp} {I:Nat->List V->St->Option (V×St)} {D B:Type} {A:Wd->(Nat->Prop)->List Nat->D->B->Prop}
theorem BI.le(F:Aj X P T S ow q){x:Option (D×ub)}{y:Option (B×St)}{d:Wd->D->B->Prop}(h:SX (EX X (Ow P T ow)) q d x y)(e:∀q' a b,d q' a b->A q' (EX X (Ow P T ow)) [] a b):Sb (BI X P T S ow q A) x y:=
 Sb.imp h λa b p=>p.rec λL x r z=>.mk L [] x (λu h=>(Tb h).elim) (by refine U (Wb _) ?_;exact F.le x r) (by refine U (Wb _) ?_;exact e _ _ _ z)
theorem yu(F:Aj X P T S ow q){d:Mine.Internal.O}(h:VO q (EX X (Ow P T ow)) c d):BI X P T S ow q TV (.o c,q.σ) (.ref q.τ.length,q.τ++[d]):=
 (F.push d).elim λx z=>z.elim λe C=>.mk q.L [q.τ.length] x (λb h=>Fd (Ra.mp h).symm) e (.own (.of cw (h.map C)))
theorem BI.up{x:Option (D×ub)}{y:Option (B×St)}(h:Le q q')(d:Sb (BI X P T S ow q' A) x y):Sb (BI X P T S ow q A) x y:=Sb.imp d λu u p=>p.rec λe Q f g j k=>.mk e Q (h.trans f) (λb l=>Za h.len (g b l)) j k
theorem BI.bind(F:Aj X P T S ow q){d e:Type}{f:Wd->d->e->Prop}{x:Option (d×ub)}{y:Option (e×St)}{k:d×ub->Option (D×ub)}{k2:e×St->Option (B×St)}(h:SX (EX X (Ow P T ow)) q f x y)
 (g:∀q' a b,Le q q'->Aj X P T S ow q'->f q' a b->Sb (BI X P T S ow q' A) (k (a,q'.σ)) (k2 (b,q'.τ))):Sb (BI X P T S ow q A) (x.bind k) (y.bind k2):=
 Sb.wY h λa b p=>p.rec λL x r z=>BI.up x (g ⟨L,a.2,b.2⟩ a.1 b.1 x (F.le x r) z)
theorem Mr{K:Nat->List V->St->Option (V×St)}{x:Mine.Internal.X}{T:Me}{d:St}:Mi (R.w N) K [x] T d=(evX (R.w N) K x T d).map λp=>([p.1],p.2):=by
 show(evX (R.w N) K x T d).bind _=_
 induction evX (R.w N) K x T d<;>rfl
theorem xM{K:Nat->List V->St->Option (V×St)}{k e:Mine.Internal.X}{T:Me}{d:St}:evX (R.w N) K (.dict [k] [e]) T d=(evX (R.w N) K k T d).bind λp=>(evX (R.w N) K e T p.2).bind λq=>mG p.1 q.1 q.2:=by
 show(Mi (R.w N) K [k] T d).bind (λp=>(Mi (R.w N) K [e] T p.2).bind λq=>oG p.1 q.1 q.2)=_
 refine U Mr ?_
 induction evX (R.w N) K k T d with
 |none=>rfl|some p=>
  show(Mi (R.w N) K [e] T p.2).bind (λq=>oG [p.1] q.1 q.2)=(evX (R.w N) K e T p.2).bind _
  refine U Mr ?_
  induction evX (R.w N) K e T p.2<;>rfl
theorem JY{K:Nat->List V->St->Option (V×St)}{a b:Mine.Internal.X}{T:Me}{d:St}:evX (R.w N) K (.bin .Mult (.list [a]) b) T d=(evX (R.w N) K a T d).bind λp=>(evX (R.w N) K b T (p.2++[.list [p.1]])).bind λq=>aU (.ref p.2.length) q.1 q.2:=by
 show((Mi (R.w N) K [a] T d).bind λp=>gj p.1 p.2).bind (λp=>(evX (R.w N) K b T p.2).bind λq=>aU p.1 q.1 q.2)=_
 refine U Mr ?_
 induction evX (R.w N) K a T d<;>rfl
variable (hs:∀a xs,G a=J xs->N a=J xs) (C:vn K I)
include hs C
theorem sm(F:Aj X P T S ow q)(e:Mine.Internal.X):Sb (BI X P T S ow q TV) (HM R G K e T q.σ) (evX (R.w N) I e S q.τ):=
 BI.le F (Az (Pc hs C e) q T S F.rl F.wS) λu u u z=>.val z
theorem FM(F:Aj X P T S ow q)(a b:Mine.Internal.X):Sb (BI X P T S ow q TV) (EM R G K a b T q.σ) (evX (R.w N) I (.bin .Mult (.list [a]) b) S q.τ):=by
 refine U JY (BI.bind F (Pc hs C a q T S F.rl F.wS) λe w v x1 f z1=>Sb.wJ λl m=>?_);obtain⟨r,x⟩:=f.rl.push (.list [v]);have z:VS ⟨e.L,e.σ,e.τ++[.list [v]]⟩ (EX X (Ow P T ow)) (.l [l]) (.ref e.τ.length):=VS.l (q:=⟨e.L,e.σ,e.τ++[.list [v]]⟩) f.rl.top cw (.cons ((z1.grd m).mono x) .nil);refine BI.up x (BI.bind (q:=⟨e.L,e.σ,e.τ++[.list [v]]⟩) (f.le x r) (Pc hs C b _ T S r (f.le x r).wS) λo k k' p L z2=>Sb.wJ λi ei=>(aa λnq=>?_));obtain⟨d,g,e1,e2,h⟩:=(z.mono p).wF;cases e1;refine nq ?_
 induction g using ma with
 |nil=>exact zc h.len (Zb _)|cons y g=>
  induction g using ma with
  |cons v g=>exact zc (Kh h.len).symm (Zb _)|nil=>
   refine U (z2.wZ ei) ?_;show Sb _ _ (((tc o.τ e.τ.length).bind one).bind _)
   refine U (ge e2) (Sb.okmb λj=>?_);have j:=Nl j;show Sb _ _ ((Ge (Td (Ia i.toNat y).length)).map _)
   have ho:Td i.toNat=Z:=ud.mpr (by lia);exact U Ng (U ho (Sb.ok (yu L (.l (Pd.rep h.uncons.1 _)))))
theorem BM(F:Aj X P T S ow q)(k e:Mine.Internal.X):Sb (BI X P T S ow q TV) (u7 R G K k e T q.σ) (evX (R.w N) I (.dict [k] [e]) S q.τ):=by
 refine U xM (BI.bind F (Pc hs C k q T S F.rl F.wS) λf w v l d z1=>Sb.wJ λa g=>(U (z1.wZ g) (BI.bind d (Pc hs C e f T S d.rl d.wS) λm u y o h z2=>Sb.lookm λp j=>?_)));exact Sb.ok (yu h (.dic rfl (.cons (z2.grd j) .nil)))
theorem KM(F:Aj X P T S ow q)(e:Mine.Internal.X):Sb (BI X P T S ow q TV) (fV R G K e T q.σ) (evX (R.w N) I e S q.τ):=by
 induction e using Mine.Internal.X.casesOn<;>try exact sm hs C F _
 ·skip
  show Sb _ (match zt op a with|some c=>EM R G K c b T q.σ|none=>HM R G K (.bin op a b) T q.σ) _
  induction e:zt op a with
  |none=>exact sm hs C F _|some c=>
   obtain⟨rfl,rfl⟩:op=.Mult/\a=.list [c]:=by
    induction a using Mine.Internal.X.casesOn<;>try exact ja e
    match xs,e with
    |[d],e=>induction op<;>first|exact ja e|exact⟨rfl,by obtain rfl:=ba e;rfl⟩
   exact FM hs C F c b
 ·skip
  exact BI.bind F (tj hs C xs q T S F.rl F.wS) λq1 ws vs x1 F1 z1=>Sb.okm (Gc Td z1.len) λu=>yu F1 (.l z1)
 ·skip
  match ks,vs with
  |[],[]=>exact Sb.ok (yu F (.dic rfl .nil))|[k],[v]=>exact BM hs C F k v|[],y::z=>exact sm hs C F _|[y],[]=>exact sm hs C F _|[y],z::j::f=>exact sm hs C F _|y::z::j,f=>exact sm hs C F _
theorem nT:∀(d:List Mine.Internal.X){P:List Nat}{q:Wd},Aj X P T S ow q->Sb (BI X P T S ow q TS) (qat R G K d T q.σ) (Mi (R.w N) I d S q.τ):=by
 intro d
 induction d with
 |nil=>
  rintro P q F;exact Sb.ok (.mk q.L [] .refl (λy h=>(Tb h).elim) (by refine U (Wb _) ?_;exact F) .nil)
 |cons e d l=>
  rintro P q F;exact Sb.wY (KM hs C F e) λa b p=>p.rec λL Q x m j z=>Sb.map2 (l j) λa2 b2 r=>r.rec λy Q2 g f k z2=>by
   rw[Dc]at k z2;exact .mk y (Q++Q2) (x.trans g) (λb h=>(Xb.mp h).elim (m b) λh=>Za x.len (f b h)) k
    (.cons (z.map (by refine Ed (Dc _ _ _) ?_;exact(g.fresh f).carry) λb h o e=>g.keep b o e λp u z=>j.rl.sep p u (.inr (.inr (Ld _ (z▸h))))) z2)
end
section
variable {k:Int} {z:Mine.Internal.O} {a:Nat} {A:W} {D:V}
inductive nR(X:Nat->Prop)(P:List Nat)(O:Nat->Prop)(q:Wd)(a:fc×ub)(b:Me×St):Prop
 |mk (L:mr->Nat) (ow:Nat->Nat):Ju O (Ow P a.1 ow) q ⟨L,a.2,b.2⟩->(∀b'∈P,∀o,q.τ[b']?=J o->b.2[b']?=J o)->Aj X P a.1 b.1 ow ⟨L,a.2,b.2⟩->nR X P O q a b
noncomputable def DF(L:mr->Nat)(i:Nat)(n:Bb)(b:Nat)(d:mr):Nat:=match d with|.a e=>L (.a e)|.d e=>L (.d e)|.f e f=>if e=i/\f=n then b else L (.f e f)
variable {q F l:Wd} {E m X O j:Nat->Prop} {w u c:W} {v x:V} {K:Ch} {s I:Nat->Option (List Int)} {n:Bb} {i b:Nat} {P Q:List Nat} {N:fc} {R:Me} {ow:Nat->Nat} {r:List W} {B:List V}
theorem oC(h:VS q E u x){B:List W}:{f:List (Int×V)}->Pd q E B (f.map λx=>x.2)->(iw f k x).map (λx=>x.1)=PJ (f.map λx=>x.1) k/\Pd q E (NJ (f.map λx=>x.1) B k u) ((iw f k x).map λx=>x.2):=by
 induction B with
 |nil=>
  intro f d
  induction f using ma with
  |nil=>exact⟨rfl,.cons h .nil⟩|cons u e=>exact zc d.len.symm (Zb _)
 |cons w B g=>
  intro f d
  induction f using ma with
  |nil=>exact zc d.len (Zb _)|cons p f=>
   obtain⟨a,e⟩:=p;have g:=g d.uncons.2;show(if a=k then(a,x)::f else(a,e)::iw f k x).map (λx=>x.1)=(if a=k then a::f.map λx=>x.1 else a::PJ (f.map λx=>x.1) k)/\Pd q E (if a=k then u::B else w::NJ (f.map λx=>x.1) B k u) ((if a=k then(a,x)::f else(a,e)::iw f k x).map λx=>x.2)
   by_cases c:a=k
   ·exact U (Dd c) (U (Dd c) (U (Dd c) (⟨rfl,.cons h d.uncons.2⟩)))
   ·exact U (fe c) (U (fe c) (U (fe c) (⟨Gc (λx=>a::x) g.1,.cons d.uncons.1 g.2⟩)))
theorem kC(d:VO q E c z)(h:VS q E u x):Sb (VO q E) (kP k u c) (ZU (.int k) x z):=
 d.rec (λ{xs ys} d=>by
  show Sb _ ((Ol xs.length k).bind λi=>(V0 xs u i).map W.l) ((Ol ys.length k).bind λi=>(u9 ys x i).map Mine.Internal.O.list)
  refine U d.len (Sb.wT Sb.rf λi=>?_);show Sb _ ((if i<xs.length then J (xs.set i u)else Y).map W.l) ((if i<ys.length then J (ys.set i x)else Y).map Mine.Internal.O.list)
  refine U d.len ?_;by_cases c:i<ys.length
  ·exact U (Dd c) (U (Dd c) (Sb.ok (.l (d.set i h))))
  ·refine U (fe c) ?_;exact Sb.no) λ{ks B es} e d=>by
  subst e;exact Sb.okm (by exact U (ya _) rfl) λf=>.dic (oC h d).1 (oC h d).2
theorem qeP(e:q.L (.f i n)=a)(h:VC q E c a):FV q E i n (.o c) (.ref a):=by subst e;exact .o h
theorem ZM(L:Aj X (b::P) N R ow q)(x1:VB q (EX X (Ow (b::P) N ow)) w v)(k:VC q (EX X (Ow (b::P) N ow)) c b):Sb (λe g=>nR X P (Ow (b::P) N ow) q (N,e) (R,g)) ((Bk w).bind (Co K n (.o c) q.σ)) (Qn (K.w I) v n (.ref b) q.τ):=Sb.wJ λi x2=>by
 obtain⟨hi,rfl⟩:=x1.ref_of x2;obtain⟨x3,ho,OO⟩:=L.rl.get hi;unfold Co;refine U ho ?_;cases OO with
 |sd=>exact .no| @inst cl fs es e1 e2 FF=>
  show Sb _ ((Ge _).bind _) ((wi q.τ (q.L (.a i))).bind _)
  refine U (uo e1) ?_;show Sb _ _ ((Vq q.τ (q.L (.d i))).bind _)
  have hl:fs.length=es.length:=by have:=Gc nj FF.keys;rw[ya,ya]at this;exact this
  refine U (Wq e2) ?_;show Sb _ ((Ge (K.attr cl n&&ac fs.length 900)).bind _) ((Ge (K.attr cl n&&ac es.length 900)).map _)
  refine U hl ?_
  induction hb:(K.attr cl n&&ac es.length 900)with
  |false=>exact .no|true=>
   refine Sb.lookm λgs eg=>Sb.ok ?_;have T:=L.rl;obtain⟨rfl,hn⟩:=jw eg;have hd:Ug q.σ (.d i):=⟨_,_,ho,rfl⟩;have hO:Ow (b::P) N ow b:=.inr sa;have Eb:EX X (Ow (b::P) N ow) b:=.inr hO;have x6:∀a,Ow P N ow a->Ow (b::P) N ow a:=λa e=>e.imp_right (oa _);have x5:∀p,Ug q.σ p->Ug (q.σ.set i ⟨J cl,jj fs n (.o c)⟩) p/\DF q.L i n b p=q.L p:=λp u=>⟨gD (o1:=⟨J cl,jj fs n (.o c)⟩) ho rfl (λg d x2=>by
    refine U (Ej _ _ _ _) ?_;by_cases cc:n=g
    ·exact⟨c,Dd cc⟩
    ·exact⟨d,(fe cc).trans x2⟩) u,by
    induction p with
    |f h g=>
     refine fe λe=>?_;obtain⟨rfl,rfl⟩:=e;obtain⟨d,x2⟩:=u;obtain⟨o',o,e4⟩:=Fa.mp x2;rw[ho]at o;obtain rfl:=ba o;exact hn d e4
    |_=>rfl⟩
   have x7:∀p,Ug (q.σ.set i ⟨J cl,jj fs n (.o c)⟩) p->Ug q.σ p\/p=.f i n:=λp u=>by
    induction p with
    |a h=>exact .inl (by have:h<(q.σ.set i _).length:=u;rw[yb]at this;exact this)|d h=>
     refine aa λnq=>?_;obtain⟨o',c',x2,o⟩:=u;refine nq ?_;clear nq;rcases xj x2 with⟨rfl,rfl⟩|⟨_,x2⟩
     ·exact .inl hd
     ·exact .inl ⟨o',c',x2,o⟩
    |f h g=>
     obtain⟨d,x2⟩:=u;obtain⟨o',o,e4⟩:=Fa.mp x2;rcases xj o with⟨rfl,rfl⟩|⟨_,o⟩
     ·replace e4:de (jj fs n (.o c)) g=J (.o d):=e4
      rw[Ej]at e4;by_cases cc:n=g
      ·exact .inr (cc▸rfl)
      ·rw[fe cc]at e4;exact .inl ⟨d,Fa.mpr ⟨_,ho,e4⟩⟩
     ·exact .inl ⟨d,Fa.mpr ⟨o',o,e4⟩⟩
   have Lf:DF q.L i n b (.f i n)=b:=Dd ⟨rfl,rfl⟩;have S:Ju (Ow (b::P) N ow) (Ow P N ow) q ⟨DF q.L i n b,q.σ.set i ⟨J cl,jj fs n (.o c)⟩,q.τ.set (q.L (.d i)) (.h (Hh es n (.ref b)))⟩:=
    ⟨Fd yb.symm,x5,λp u=>(x7 p u).imp_right λe=>.inr (by refine U e ?_;show Ow _ _ _ (DF q.L i n b (.f i n));refine U Lf ?_;exact hO),λa x3 x2 x1 x4=>bg x2 (x1 _ hd),λa e=>.inl (x6 a e)⟩
   have Cy:gk q ⟨DF q.L i n b,q.σ.set i ⟨J cl,jj fs n (.o c)⟩,q.τ.set (q.L (.d i)) (.h (Hh es n (.ref b)))⟩ (EX X (Ow (b::P) N ow)) (EX X (Ow P N ow)):=λe=>S.carry e;have ke:∀{a},EX X (Ow (b::P) N ow) a->∀x3,q.τ[a]?=J x3->(q.τ.set (q.L (.d i)) (.h (Hh es n (.ref b))))[a]?=J x3:=λe x3 x2=>bg x2 λo=>T.sep _ hd (o▸e);have x8:∀{a},a<q.τ.length->a<(q.τ.set (q.L (.d i)) (.h (Hh es n (.ref b)))).length:=λe=>by refine U yb ?_;exact e
   have kp:∀{p},Ug q.σ p->p≠ .d i->∀x3,q.τ[q.L p]?=J x3->(q.τ.set (q.L (.d i)) (.h (Hh es n (.ref b))))[q.L p]?=J x3:=λu hn x3 x2=>bg x2 λe=>hn (T.inj _ _ hd u e).symm;refine .mk (DF q.L i n b) ow S (λb' x9 x3 x2=>ke (.inr (.inr (oa _ x9))) x3 x2) ⟨⟨λp p' u u' x2=>?_,λp u=>x8 ((x7 p u).elim (λe=>ib (Fd (x5 p e).2) (T.lt p e)) λe=>by refine U e ?_;exact ib (Fd Lf) (T.elt b Eb)),λp u e=>(x7 p u).elim (λo=>T.sep p o (by refine Ed ((x5 p o).2) ?_;exact e.imp_right (x6 _))) λo=>(λe=>e.elim (L.sep b hO) λe=>e.elim ((by rintro⟨h,d,x2,e'⟩;exact L.ps h d x2 (e'▸sa))) (Fc.mp L.pn).1:¬EX X (Ow P N ow) b) (by rw[o]at e;refine Ed Lf ?_;exact e),λa e=>x8 (T.elt a (e.imp_right (x6 a))),λh o' x2=>?_⟩,
    L.len,L.no,λh u x2 x1=>(L.val h u x2 x1).imp λx4 e=>⟨e.1,Cy e.2⟩,λh d x2=>⟨(L.own h d x2).1,(L.own h d x2).2.map (λe=>Cy e) (ke (.inr (.inl ⟨h,d,x2,rfl⟩)))⟩,L.inj,λa e=>L.sep a (x6 a e),(Fc.mp L.pn).2,λh d x2 e=>L.ps h d x2 (oa _ e)⟩
   ·rcases x7 p u with o|rfl<;>rcases x7 p' u' with y'|rfl
    ·exact T.inj p p' o y' (((x5 p o).2.symm.trans x2).trans (x5 p' y').2)
    ·exact zc (((x5 p o).2.symm.trans x2).trans Lf) λe=>T.sep p o (by refine U e ?_;exact Eb)
    ·exact zc ((Lf.symm.trans x2).trans (x5 p' y').2) λe=>T.sep p' y' (by refine Ed e ?_;exact Eb)
    ·rfl
   ·rcases xj x2 with⟨rfl,rfl⟩|⟨y1,x2⟩
    ·exact .inst (kp (p:=.a i) hi (λe=>nomatch e) _ e1) (Gp e2) (FF.put (qeP Lf (k.map (λe=>Cy e) (ke Eb))) λg hm w v x2 e=>FV.map (q':=⟨DF q.L i n b,q.σ.set i ⟨J cl,jj fs n (.o c)⟩,q.τ.set (q.L (.d i)) (.h (Hh es n (.ref b)))⟩) (λe=>Cy e) e λd y2=>by
      have um:Ug q.σ (.f i g):=⟨d,Fa.mpr ⟨_,ho,y2▸x2⟩⟩;exact⟨(x5 _ um).2,kp (p:=.f i g) um λe=>nomatch e⟩)
    ·exact(T.obj h o' x2).map (λe=>Cy e) x2 λp hp u=>⟨(x5 p u).2,kp u λe=>by rw[e]at hp;exact y1 hp⟩
theorem nR.of{f:fc}{e:Me}{g:Nat->Nat}{Q:List Nat}(d:Aj X P f e g F)(S:Ju O (Ow P f g) q F)(k:∀b∈P,∀o,q.τ[b]?=J o->F.τ[b]?=J o):nR X P O q (f,F.σ) (e,F.τ):=.mk F.L g S k d
theorem nR.bind(d:Aj X Q N R ow q)(hQ:∀b∈P,b∈Q){α β:Type}{V':Wd->α->β->Prop}{x:Option (α×ub)}{f:Option (β×St)}{k:α×ub->W3}{k2:β×St->Option (Me×St)}(h:SX (EX X (Ow Q N ow)) q V' x f)
 (hk:∀F a b,Le q F->Aj X Q N R ow F->V' F a b->Sb (nR X P (Ow Q N ow) F) (k (a,F.σ)) (k2 (b,F.τ))):Sb (nR X P (Ow Q N ow) q) (x.bind k) (f.bind k2):=
 Sb.wY h λa b p=>p.rec λL x g T=>Sb.imp (hk ⟨L,a.2,b.2⟩ a.1 b.1 x (d.le x g) T) λu u p=>p.rec λL2 x1 S kp F2=>.mk L2 x1 (x.s.trans S) (λb hb o e=>kp b hb o (d.rl.eget x (.inr (.inr (hQ b hb))) e)) F2
variable {y:Yp} {G:Nat->List V->St->Option (V×St)}
theorem Aw{d:St}(e:d[a]?=J z):Ci (.ref a) (.int k) x d=(ZU (.int k) x z).map (d.set a):=by
 show((d[a]?).bind _).map _=_;refine U e ?_;rfl
theorem VE(f:Aj X P N R ow q)(hw:Ke N i=J w)(hv:Zk R i=J v)(k:VB q (EX X (Ow P N ow)) A D)(h:VS q (EX X (Ow P N ow)) u x):Sb (nR X P (Ow P N ow) q) (Wz i A u N q.σ w) ((Ci v D x q.τ).map λσ=>(R,σ)):=by
 induction w using W.casesOn<;>try exact Sb.no
 ·rename Nat=>g
  refine aa λnq=>?_;obtain⟨v2,e1,p⟩:=f.val i _ hw rfl;obtain⟨hj,rfl⟩:=p.wF;refine nq ?_;clear nq;rw[hv]at e1;obtain rfl:=ba e1;refine Sb.wJ λL es=>(aa λnq=>?_);obtain⟨o,ho,OO⟩:=f.rl.get hj;refine nq ?_;clear nq;refine U ho (U (k.str_of es) ?_);cases OO with
  |inst=>exact Sb.no| @sd fs es e1 FF=>
   have hl:fs.length=es.length:=by have:=Gc nj FF.keys;rw[ya,ya]at this;exact this
   show Sb _ ((Ge (Td fs.length)).bind λS=>(RJ fs L u).map _) ((((q.τ[q.L (.a g)]?).bind (ZU (.str L) x)).map (q.τ.set (q.L (.a g)))).map _)
   refine U e1 ?_;show Sb _ _ ((((Ge (Td es.length)).map _).map _).map _)
   refine U hl ?_
   induction Td es.length with
   |false=>exact Sb.no|true=>
    refine Sb.lookm λgs eg=>Sb.ok ?_;obtain⟨rfl,hn⟩:=jw eg;have T:=f.rl.turn (o1:=⟨Y,jj fs L u⟩) (p0:=.a g) (ob:=.h (Hh es L x)) ho rfl hj rfl (BH h.nb hn) λX=>.sd (Gp e1) (FF.put (.val (h.mono X)) λd S w v e p=>p.mono X (λx1 hd=>⟨x1,Fa.mpr ⟨_,ho,hd▸e⟩⟩) λx1 hd o e'=>bg e' λp=>nomatch (f.rl.inj (.a g) (.f g d) hj ⟨x1,Fa.mpr ⟨_,ho,hd▸e⟩⟩ p));exact .mk q.L ow T.1.s (λb d o e=>f.rl.eget T.1 (.inr (.inr d)) e) (f.le T.1 T.2)
 ·rename W=>c
  refine aa λnq=>?_;obtain⟨e1,p⟩:=f.own i c hw;rw[hv]at e1;obtain rfl:=ba e1;obtain⟨z,S,zo⟩:=p.vo;refine nq ?_;clear nq;refine Sb.wJ λk' ek=>(U (k.wZ ek) (U (Aw S) (Sb.map (k2:=λo=>(o.map (q.τ.set (ow i))).map λσ=>(R,σ)) (kC zo h) λc' x2 L=>Sb.ok ?_)));have g:=f.upd hw L;exact .mk q.L ow g.2 (λb d o e=>bg e λp=>f.ps i c hw (p▸d)) g.1
theorem Cp(f:Rl E q)(h:VB q E w v){i:Nat}(e:Bm K n q.σ w=J i):Ni (K.w I) v n q.τ=J (.ref (q.L (.f i n)))/\Ug q.σ (.f i n):=by
 refine aa λL=>?_;obtain⟨g,e1,e2⟩:=Fa.mp e;refine L ?_;clear L;refine aa λL=>?_;obtain⟨u,S,e4⟩:=Fa.mp e2;refine L ?_;clear L;obtain⟨c,e5,rfl⟩:=ef.mp e4;obtain⟨d,T,e7⟩:=Fa.mp e5;cases Fo e7;obtain⟨v',e8,p⟩:=QA (tab:=K) (n:=n) f h u (Fa.mpr ⟨g,e1,S⟩);refine aa λL=>?_;obtain⟨o,ho,e9⟩:=Fa.mp T;refine L ?_;clear L;have hu:u=.fld g n:=by
  unfold Kx at S;rw[ho]at S;refine aa λL=>?_;obtain⟨cl,f1,f2⟩:=Fa.mp (show(o.cls.bind _)=J u from S);obtain⟨_,f3,f4⟩:=Fa.mp f2;refine L ?_;clear L;rw[e9]at f4;exact(ba f4).symm
 rw[hu]at p;rw[p.wF.2]at e8;exact⟨e8,c,T⟩
theorem gw(d:Rl E q)(g:Ug q.σ (.f i n))(k:VB q E A D)(h:VS q E u x):Sb (λe f=>Le q ⟨q.L,e,f⟩/\Rl E ⟨q.L,e,f⟩) (dw n A u q.σ i) (Ci (.ref (q.L (.f i n))) D x q.τ):=by
 refine aa λo=>?_;obtain⟨c,e⟩:=g;obtain⟨z,p,L⟩:=(vq d e).vo;refine o ?_;unfold dw;refine U e ?_;exact Sb.wJ (x:=Ua A) λk' S=>(U (k.wZ S) (U (Aw p) (Sb.map2 (kC L h) λc' T f=>yw d e f)))
variable (t:∀a xs,s a=J xs->I a=J xs) (C:vn y G)
include t C
theorem JM(d:Aj X P N R ow q)(h:VS q (EX X (Ow P N ow)) u x)(o e:Mine.Internal.X):Sb (nR X P (Ow P N ow) q) (lT K s y o e u N q.σ) (IK (K.w I) G (.sub o e) x R q.τ):=by
 induction o using Mine.Internal.X.casesOn<;>try exact Sb.no
 ·rename Nat=>f
  show Sb _ ((fX K s y e N q.σ).bind λp=>(Ke N f).bind (Wz f p.1 u N p.2)) (((Zk R f).map λv=>(v,q.τ)).bind λp=>(evX (K.w I) G e R p.2).bind λq=>(Ci p.1 q.1 x q.2).map λL=>(R,L))
  induction hw:Ke N f with
  |none=>exact Sb.wJ λg g=>Sb.no|some w=>
   refine aa λnq=>?_;obtain⟨v,hv,_⟩:=d.wS.at_ f w hw;refine nq (U hv ?_);show Sb _ _ ((evX (K.w I) G e R q.τ).bind λq=>(Ci v q.1 x q.2).map λL=>(R,L))
   exact nR.bind d (λg h=>h) (Pc t C e q N R d.rl d.wS) λq1 A D x1 S z1=>VE S hw hv z1 (h.mono x1)
 ·rename Mine.Internal.X=>o
  show Sb _ ((fX K s y o N q.σ).bind _) (((evX (K.w I) G o R q.τ).bind λp=>(Ni (K.w I) p.1 n p.2).map λv=>(v,p.2)).bind λp=>(evX (K.w I) G e R p.2).bind λq=>(Ci p.1 q.1 x q.2).map λL=>(R,L))
  refine U (Va _ _ _) (nR.bind d (λg h=>h) (Pc t C o q N R d.rl d.wS) λq1 w v x1 S z1=>Sb.wJ λi ei=>?_);obtain⟨eg,hu⟩:=Cp S.rl z1 ei;refine U eg ?_;show Sb _ _ ((evX (K.w I) G e R q1.τ).bind λq=>(Ci (.ref (q1.L (.f i n))) q.1 x q.2).map λL=>(R,L))
  exact nR.bind S (λg h=>h) (Pc t C e q1 N R S.rl S.wS) λq2 A D p g z2=>by
   have f:=p.usd _ hu;exact Ed f.2 (Sb.map2 (gw g.rl f.1 z2 ((h.mono x1).mono p)) λL τ T=>.mk q2.L ow T.1.s (λb hb o e=>g.rl.eget T.1 (.inr (.inr hb)) e) (g.le T.1 T.2))
mutual
theorem GM:∀(d:Mine.Internal.T){Q P:List Nat}{w:W}{v:V}{N:fc}{R:Me}{ow:Nat->Nat}{q:Wd},Aj X (Q++P) N R ow q->TV q (EX X (Ow (Q++P) N ow)) Q w v->Sb (nR X P (Ow (Q++P) N ow) q) (fP K s y d w N q.σ) (IK (K.w I) G d v R q.τ)
 |.x i,Q,P,w,v,N,R,ow,q,f,h=>Sb.okm (by exact U f.len rfl) λe=>by
  have e:=ud.mp e;cases h with
  |val h=>have S:=f.setV e h;exact .mk q.L ow S.2 (λg g g o=>o) S.1|own h=>obtain⟨p,S⟩:=f.setO e h;exact .mk q.L p S.2 (λg g g o=>o) S.1
 |.t e,Q,P,w,v,N,R,ow,q,f,h=>by
  cases h with
  |val h=>exact Sb.wY (Eo (.val h)) λg g L=>vz e (Q:=[]) f L.ts|own h=>exact Sb.no
 |.attr p n,Q,P,w,v,N,R,ow,q,f,h=>nR.bind f (λg h=>Ld _ h) (Pc t C p q N R f.rl f.wS) λq1 u e x1 F1 z1=>by
  have h1:=h.map (q':=q1) (E':=EX X (Ow (Q++P) N ow)) (λL=>L.mono x1) λb hb p o=>f.rl.eget x1 (.inr (.inr (Je _ hb))) o;cases h1 with
  |val k=>exact Sb.map2 (nC F1.rl z1 k) λL τ T=>.mk q1.L ow T.1.s (λb hb p o=>F1.rl.eget T.1 (.inr (.inr hb)) o) (F1.le T.1 T.2)|own k=>exact Sb.map2 (ZM F1 z1 k) λg g L=>L
 |.sub p o,Q,P,w,v,N,R,ow,q,f,h=>by
  cases h with
  |val h=>exact Sb.wJ λu e=>JM t C f ((vi e).1▸h) p o|own h=>exact Sb.no
theorem vz:∀(ts:List Mine.Internal.T){Q P:List Nat}{r:List W}{B:List V}{N:fc}{R:Me}{ow:Nat->Nat}{q:Wd},Aj X (Q++P) N R ow q->TS q (EX X (Ow (Q++P) N ow)) Q r B->Sb (nR X P (Ow (Q++P) N ow) q) (v7 K s y ts r N q.σ) (dK (K.w I) G ts B R q.τ)
 |[],f,P,g,h,N,R,ow,q,T,o=>by
  cases o with
  |nil=>exact Sb.ok (.mk q.L ow .refl (λu u u p=>p) T)|cons=>exact Sb.no
 |d::ts,f,P,g,h,N,R,ow,q,T,o=>by
  cases o with
  |nil=>exact Sb.no| @cons Pa Pb w v r B a b=>
   rw[Dc]at T a b|-;refine Sb.wY (GM d T a) λL p' o=>o.rec λx1 x4 S kp F2=>?_;refine Sb.imp (vz ts (q:=⟨x1,L.2,p'.2⟩) F2 (b.map (λe=>S.carry e) λb hb e p=>kp b (Je _ hb) e p)) λu u o=>o.rec λL3 x2 S3 x3 F3=>.mk L3 x2 (S.trans S3) (λb hb e p=>x3 b hb e (kp b (Ld _ hb) e p)) F3
end
end
inductive qaX(q:Wd)(X:Nat->Prop):eW->Fl->Prop
 |next:qaX q X .next .next|ret {w:W} {v:V}:VS q X w v->qaX q X (.ret w) (.ret v)
inductive HA(X O:Nat->Prop)(q:Wd)(a:eW×fc×ub)(b:Fl×Me×St):Prop
 |mk (L:mr->Nat) (ow:Nat->Nat):Ju O (Ow [] a.2.1 ow) q ⟨L,a.2.2,b.2.2⟩->Aj X [] a.2.1 b.2.1 ow ⟨L,a.2.2,b.2.2⟩->qaX ⟨L,a.2.2,b.2.2⟩ X a.1 b.1->HA X O q a b
def W9(X O:Nat->Prop)(q:Wd)(xs:List W)(a:It):Prop:=∀O' q',Ju O O' q q'->∃ys,Pd q' (EX X O') xs ys/\∀k,zm a k q'.τ=J ys[k]?
section
variable {q q' G:Wd} {E C X O O':Nat->Prop} {w u c:W} {v x:V} {D:Ch} {B F:Nat->Option (List Int)} {n:Bb} {i b:Nat} {P Q:List Nat} {N:fc} {T:Me} {ow:Nat->Nat} {I xs:List W} {K ys:List V}
theorem HA.le{O':Nat->Prop}{a:eW×fc×ub}{b:Fl×Me×St}(S:Ju O O' q q')(p:HA X O' q' a b):HA X O q a b:=p.rec λL ow e d f=>.mk L ow (S.trans e) d f
theorem HA.go{p:fc×ub}{d:Me×St}(h:nR X [] O q p d):HA X O q (RY p) (nJ d):=h.rec λL ow S u a=>.mk L ow S a .next
theorem HA.bind(d:Aj X [] N T ow q){e f:Type}{g:Wd->e->f->Prop}{x:Option (e×ub)}{y:Option (f×St)}{k:e×ub->al}{k2:f×St->Option (Fl×Me×St)}(h:SX (EX X (Ow [] N ow)) q g x y)
 (j:∀q' a b,Le q q'->Aj X [] N T ow q'->g q' a b->Sb (HA X (Ow [] N ow) q') (k (a,q'.σ)) (k2 (b,q'.τ))):Sb (HA X (Ow [] N ow) q) (x.bind k) (y.bind k2):=
 Sb.wY h λa b p=>p.rec λL x r z=>Sb.imp (j ⟨L,a.2,b.2⟩ a.1 b.1 x (d.le x r) z) λu u p=>p.le x.s
theorem HA.stay(a:Aj X [] N T ow q):HA X (Ow [] N ow) q (.next,N,q.σ) (.next,T,q.τ):=.mk q.L ow .refl a .next
theorem HA.at(a:Aj X [] N T ow q')(x:Le q q'):HA X (Ow [] N ow) q (.next,N,q'.σ) (.next,T,q'.τ):=(HA.stay a).le x.s
theorem Jw{k:fc->ub->al}{k2:Me->St->Option (Fl×Me×St)}{x:al}{y:Option (Fl×Me×St)}(h:Sb (HA X O q) x y)(e:∀q' N T ow,Ju O (Ow [] N ow) q q'->Aj X [] N T ow q'->Sb (HA X (Ow [] N ow) q') (k N q'.σ) (k2 T q'.τ)):Sb (HA X O q) (x.bind (Iw k)) (y.bind (dD k2)):=
 Sb.wY h λa b p=>by
  obtain⟨f,N,g⟩:=a;obtain⟨l,T,j⟩:=b;obtain⟨L,ow,S,d,R⟩:=p;cases R with
  |next=>exact Sb.imp (e ⟨L,g,j⟩ N T ow S d) λu u p=>p.le S|ret z=>exact Sb.ok (.mk L ow S d (.ret z))
theorem W9.st(h:Pd q (EX X O) xs ys):W9 X O q xs (.st ys):=λu u S=>⟨ys,gk.all (λz=>S.carry z) h,λu=>rfl⟩
theorem vJ(h:VB q (EX X O) w v):Sb (λxs it=>W9 X O q xs it/\xs.length<4900) (zy w) (fj v q.τ):=by
 have L:Sb (W9 X O q) (yN w) (fj v q.τ):=by
  induction w using W.casesOn<;>try exact Sb.no
  ·rw[h.wF.wF];exact Sb.mapR Au λu u z=>.st z
  ·obtain⟨ys,rfl,z⟩:=h.wF.wF
   exact Sb.ok (.st z)
  ·skip
   obtain⟨a,ys,rfl,e1,_⟩:=h.wF.wF;show Sb _ _ ((tc q.τ a).map _)
   refine U (ge e1) ?_;exact Sb.ok λO' q' S=>by
    refine aa λnq=>?_;obtain⟨b,us,e2,e3,z⟩:=(S.carry (h.wF:VS q (EX X O) (.l xs) (.ref a))).wF;cases e2;refine nq ?_;exact⟨us,z,λk=>by show(tc q'.τ a).map _=_;refine U (ge e3) ?_;rfl⟩
 exactλxs e=>by
  refine aa λnq=>(Wg e λys e1 e2=>?_);obtain⟨it,e3,z⟩:=L ys e1;obtain⟨rfl,hl⟩:=Pr e2;exact nq (⟨it,e3,z,hl⟩)
abbrev Tt(X:Nat->Prop)(f:fc->ub->al)(g:Me->St->Option (Fl×Me×St)):Prop:=∀q N T ow,Aj X [] N T ow q->Sb (HA X (Ow [] N ow) q) (f N q.σ) (g T q.τ)
theorem Fy{r:Wd}{s:Nat->Prop}{f:W->fc->ub->al}{g:V->Me->St->Option (Fl×Me×St)}{k:It}(t:∀q N T ow w v,Aj X [] N T ow q->VS q (EX X (Ow [] N ow)) w v->Sb (HA X (Ow [] N ow) q) (f w N q.σ) (g v T q.τ)):
 ∀(xs h:List W)(n:Nat)(q:Wd)(N:fc)(T:Me)(ow:Nat->Nat),Ju s (Ow [] N ow) r q->Aj X [] N T ow q->W9 X s r (h++xs) k->xs.length<n->Sb (HA X (Ow [] N ow) q) (Ov f xs N q.σ) (Gq n k h.length g T q.τ):=by
 intro xs
 induction xs with
 |nil=>
  intro h n q N T ow S a d l
  induction n using Sa with
  |zero=>exact zc l (We _)|succ n=>
   refine aa λm=>?_;obtain⟨ys,z,e⟩:=d _ _ S;refine m ?_;show Sb _ _ ((zm k h.length q.τ).bind _)
   refine U (e _) (U (Rc (by rw[<-z.len,Wb];exact Gb _)) ?_);exact Sb.ok (.stay a)
 |cons w xs y=>
  intro h n q N T ow S a d l
  induction n using Sa with
  |zero=>exact zc l (We _)|succ n=>
   refine aa λm=>?_;obtain⟨ys,z,e⟩:=d _ _ S;obtain⟨v,A,L⟩:=z.get (i:=h.length) (x:=w) (by refine U (La (Gb _)) (U (jh _) ?_);rfl);refine m ?_;show Sb _ _ ((zm k h.length q.τ).bind _)
   refine U (e _) (U A (Jw (t q N T ow w v a L) λR o j p S1 F1=>?_));have:=y (h++[w]) n R o j p (S.trans S1) F1 (by refine U (Dc _ _ _) ?_;exact d) (Fg l);rw[Ha]at this;exact this
theorem FJ{t:fc->ub->C3}{k:Me->St->Option (Bool×St)}{f:fc->ub->al}{g:Me->St->Option (Fl×Me×St)}(m:∀E,Rt E (λu=>Eq) t k)(o:Tt X f g):(n:Nat)->Tt X (Pv t f n) (JB n k g):=by
 intro n
 induction n with
 |zero=>
  exactλu u u u u=>Sb.no
 |succ n p=>
  exactλq N T ow a=>HA.bind a (m _ q N T a.rl a.wS) λr b z A l e=>by
   subst e
   induction b with
   |false=>exact Sb.ok (.stay l)|true=>exact Jw (o r N T ow l) λs h d j S y=>p s h d j y
theorem Ry{t:CT}{f:fc->ub->al}{g:Me->St->Option (Fl×Me×St)}(k:Tt X f g)(d:Aj X [] N T ow q)(h:VS q (EX X (Ow [] N ow)) w v):Sb (HA X (Ow [] N ow) q) ((Lx t w N).bind λa=>f a q.σ) ((ql t v T).bind λa=>g a q.τ):=by
 have e:∀(is:List Nat)(xs:List W)(ys:List V)(N:fc)(T:Me),Aj X [] N T ow q->Pd q (EX X (Ow [] N ow)) xs ys->Sb (λm j=>Aj X [] m j ow q/\Ju (Ow [] N ow) (Ow [] m ow) q q) (Em is xs N) (xe is ys T):=by
  intro is
  induction is with
  |nil=>intro xs ys N T d h;induction xs using ma with
   |nil=>induction ys using ma with|nil=>exact Sb.ok ⟨d,.refl⟩|cons=>exact zc h.len.symm (Zb _)
   |cons=>exact Sb.no
  |cons i is l=>intro xs ys N T d h;induction xs using ma with
   |nil=>exact Sb.no|cons a xs=>induction ys using ma with
    |nil=>exact zc h.len (Zb _)|cons b ys=>
     show Sb _ (if i<N.length then _ else Y) (if i<T.length then _ else Y)
     refine Ed d.len ?_;by_cases c:i<N.length
     ·refine U (Dd c) (U (Dd c) ?_)
      have S:=d.setV c h.uncons.1;exact Sb.imp (l xs ys _ _ S.1 (gk.all (λz=>S.2.carry z) h.uncons.2)) λu u z=>⟨z.1,S.2.trans z.2⟩
     ·exact U (fe c) Sb.no
 have one:Sb (λm j=>Aj X [] m j ow q/\Ju (Ow [] N ow) (Ow [] m ow) q q) (Lx t w N) (ql t v T):=by
  induction t with
  |x i=>
   show Sb _ (if i<N.length then _ else Y) (if i<T.length then _ else Y)
   refine Ed d.len ?_;by_cases c:i<N.length
   ·exact U (Dd c) (U (Dd c) (Sb.ok (d.setV c h)))
   ·exact U (fe c) Sb.no
  |t is=>exact Sb.wY (Eo (.val h)) λu u z=>e is _ _ N T d z
 exact Sb.wY one λm j z=>Sb.imp (k q m j ow z.1) λu u p=>p.le z.2
class inductive a4(q:Wd)(E:Nat->Prop):List (List W)->List (List V)->Prop
 |nil:a4 q E [] []|cons {a:List W} {b:List V} {as:List (List W)} {bs:List (List V)}:Pd q E a b->a4 q E as bs->a4 q E (a::as) (b::bs)
theorem ND(h:Pd q E I K):Sb (a4 q E) (fm I) (Wn K):=
 h.ind (P:=λI K=>Sb (a4 q E) (fm I) (Wn K)) (Sb.ok .nil) λu u u u a u t=>Sb.wY (Eo (.val a)) λu u z=>Sb.map2 t λu u t=>.cons z t
theorem qdg{as g j:List W}{f d e:List V}(h:Pd q E as f)(k:Pd q E g d)(l:Pd q E j e):Pd q E ((as.zip (g.zip j)).map λp=>W.t [p.1,p.2.1,p.2.2]) ((f.zip (d.zip e)).map λp=>V.t [p.1,p.2.1,p.2.2]):=
 h.ind (P:=λas f=>∀g j d e,Pd q E g d->Pd q E j e->Pd q E ((as.zip (g.zip j)).map λp=>W.t [p.1,p.2.1,p.2.2]) ((f.zip (d.zip e)).map λp=>V.t [p.1,p.2.1,p.2.2]))
  (λu u u u u u=>.nil)
  (λa as m f x u o g j d e k l=>k.ind (P:=λg d=>Pd q E (((a::as).zip (g.zip j)).map λp=>W.t [p.1,p.2.1,p.2.2]) (((m::f).zip (d.zip e)).map λp=>V.t [p.1,p.2.1,p.2.2])) .nil
   λb g r d y s u=>l.ind (P:=λj e=>Pd q E (((a::as).zip ((b::g).zip j)).map λp=>W.t [p.1,p.2.1,p.2.2]) (((m::f).zip ((r::d).zip e)).map λp=>V.t [p.1,p.2.1,p.2.2])) .nil
    λc j t e z p u=>.cons (.t (.cons x (.cons y (.cons z .nil)))) (o _ _ _ _ s p))
  _ _ _ _ k l
theorem aW{a:List (List W)}{b:List (List V)}(h:a4 q E a b):Sb (Pd q E) (sA a) (YV b):=by
 cases h with
 |nil=>exact Sb.no|cons d t=>cases t with|nil=>exact Sb.no|cons e t=>cases t with|nil=>exact Sb.no|cons f t=>cases t with|nil=>exact Sb.okm (by exact U d.len (U e.len (U f.len rfl))) λu=>qdg d e f|cons=>exact Sb.no
end
section
variable {l:Lm} {a:Nat} {A:St}
variable {q p t:Wd} {E s X O r:Nat->Prop} {w u c:W} {v x:V} {S:Ch} {B N:Nat->Option (List Int)} {n m:Bb} {i b:Nat} {P Q:List Nat} {K:fc} {R:Me} {ow:Nat->Nat} {y G:List W} {z F:List V}
theorem jT(h:VS q E u x):Sb (Pd q E) (vv u) (CW x q.τ):=by
 induction u using W.casesOn<;>try exact Sb.no
 ·rw[h.wF];exact Au
 ·obtain⟨a,F,rfl,e,d⟩:=h.wF
  show Sb _ _ (tc q.τ a)
  exact U (ge e) (Sb.ok d)
theorem WG(h:VS q E u x)(d:Pd q E G F)(l:Lm):Sb (Pd q E) (pZ l u G) (qaB l [x] q.τ F):=by
 induction l<;>try exact Sb.no
 ·exact Sb.okm (Gc Td d.len) λe=>d.app (.cons h .nil)
 ·exact Sb.wY (jT h) λe e z2=>Sb.okm (by exact U d.len (U z2.len rfl)) λe=>d.app z2
theorem UN{d:List W}(e:pZ l u G=J d):sZ l=Z:=by induction l<;>first|rfl|exact ja e
theorem tw(e:A[a]?=J (.list F)):cu (S.w N) (.ref a) m A=J (.lm a):=by
 show(A[a]?).bind _=_;refine U e ?_;rfl
variable {D:Yp} {L:Nat->List V->St->Option (V×St)}
theorem zE(e:A[a]?=J (.list F))(f:Zt m=J l)(g:sZ l=Z){d:List V}:QT a m d A=(qaB l d A F).map λh=>(.none,A.set a (.list h)):=by
 unfold QT;refine U f ?_;refine U (ge e) ?_;show NT l a d A F=_
 unfold NT;exact U g rfl
theorem V1(h:TS q E P y z):y.length=z.length:=by
 induction h with
 |nil=>rfl|cons u d e=>exact Gc (λx=>x+1) e
variable (I:∀a G,B a=J G->N a=J G) (C:vn D L)
include I C
theorem bS(o:Mine.Internal.X)(e:Mine.Internal.X):Tt X (fY S B D m o e) (eE (S.w N) L (.expr (.meth o m [e]))):=λq K R ow d=>by
 induction o using Mine.Internal.X.casesOn<;>try exact Sb.no
 ·rename Nat=>j
  refine Sb.wJ λG x3=>(aa λk=>(Wg x3 λw hw ew=>(Wg ew λc ec el=>?_)));cases Fo ec;cases wo el;obtain⟨ev,f⟩:=d.own j _ hw;obtain⟨F,e1,_⟩:=f.wF;refine k ?_;show Sb _ _ ((((Zk R j).map λv=>(v,q.τ)).bind λg=>(cu (S.w N) g.1 m g.2).bind λc=>(Mi (S.w N) L [e] R g.2).bind λq=>ky L c m q.1 q.2).bind _)
  refine U ev ?_;show Sb _ _ (((cu (S.w N) (.ref (ow j)) m q.τ).bind _).bind _)
  refine U (tw e1) (U Mr (U yh (U (Va _ _ _) (HA.bind d (Pc I C e q K R d.rl d.wS) λq1 u x x1 F1 z1=>Sb.wJ λu' eu=>Sb.wJ λl hl=>(aa λk=>?_)))));obtain⟨e2,z2⟩:=F1.own j _ hw;obtain⟨us,e3,z3⟩:=z2.wF;refine k (Sb.lookm λzs ez=>(aa λk=>?_));obtain⟨x4,e4,z4⟩:=WG (z1.grd eu) z3 l zs ez;refine k ?_;show Sb _ _ ((QT (ow j) m [x] q1.τ).bind _)
  refine U (zE e3 hl (UN ez)) (U e4 ?_);have h:=F1.upd hw (c':=.l zs) (ob:=.list x4) (.l z4);exact Sb.ok (.mk q1.L ow h.2 h.1 .next)
 ·rename Mine.Internal.X=>o
  show Sb _ _ ((((evX (S.w N) L o R q.τ).bind λg=>(Ni (S.w N) g.1 n g.2).map λv=>(v,g.2)).bind λg=>(cu (S.w N) g.1 m g.2).bind λc=>(Mi (S.w N) L [e] R g.2).bind λq=>ky L c m q.1 q.2).bind _)
  refine U (Va _ _ _) (U (Va _ _ _) (HA.bind d (Pc I C o q K R d.rl d.wS) λq1 w v x1 F1 z1=>Sb.wJ λi ei=>?_));obtain⟨eg,hu⟩:=Cp F1.rl z1 ei;refine U eg (Sb.wJ λx5 h=>?_);have g:∀{q G},Rl (EX X (Ow [] K ow)) q->(ii q.σ i n).bind cs=J G->ii q.σ i n=J (.o (.l G))/\∃F,q.τ[q.L (.f i n)]?=J (.list F)/\Pd q (EX X (Ow [] K ow)) G F:=λf e=>by
   refine aa λk=>(Wg e λw hw ew=>(Wg ew λc ec el=>?_));cases Fo ec;cases wo el;exact k (⟨hw,(vq f hw).wF⟩)
  refine aa λk=>?_;obtain⟨_,x6,e0,_⟩:=g F1.rl h;refine k ?_;show Sb _ _ (((cu (S.w N) (.ref (q1.L (.f i n))) m q1.τ).bind _).bind _)
  refine U (tw e0) (U Mr (U yh (U (Va _ _ _) (HA.bind F1 (Pc I C e q1 K R F1.rl F1.wS) λq2 u x x2 j z2=>Sb.wJ λu' eu=>Sb.wJ λl hl=>Sb.wJ λG x3=>Sb.lookm λzs ez=>(aa λk=>?_)))));obtain⟨hw,F,e3,z3⟩:=g j.rl x3;rw[(x2.usd _ hu).2]at e3;obtain⟨x4,e4,z4⟩:=WG (z2.grd eu) z3 l zs ez;refine k ?_;show Sb _ _ ((QT (q1.L (.f i n)) m [x] q2.τ).bind _)
  refine U (zE e3 hl (UN ez)) (U e4 ?_);have T:=yw j.rl hw (VO.l z4);rw[(x2.usd _ hu).2]at T;exact Sb.ok (.at (j.le T.1 T.2) T.1)
theorem vT(o k e:Mine.Internal.X):Tt X (XY S B D o k e) (eE (S.w N) L (.expr (.meth o "insert" [k,e]))):=λq K R ow g=>by
 induction o using Mine.Internal.X.casesOn<;>try exact Sb.no
 rename Nat=>j
 refine Sb.wJ λG x3=>(aa λnq=>(Wg x3 λw hw ew=>(Wg ew λc ec el=>?_)));cases Fo ec;cases wo el;obtain⟨ev,h⟩:=g.own j _ hw;obtain⟨F,e1,_⟩:=h.wF;refine nq ?_;show Sb _ _ ((((Zk R j).map λv=>(v,q.τ)).bind λT=>(cu (S.w N) T.1 "insert" T.2).bind λc=>(Mi (S.w N) L [k,e] R T.2).bind λq=>ky L c "insert" q.1 q.2).bind _)
 refine U ev ?_;show Sb _ _ (((cu (S.w N) (.ref (ow j)) "insert" q.τ).bind _).bind _)
 refine U (tw e1) ?_;show Sb _ _ ((((evX (S.w N) L k R q.τ).bind λT=>(Mi (S.w N) L [e] R T.2).map λq=>(T.1::q.1,q.2)).bind λq=>QT (ow j) "insert" q.1 q.2).bind _)
 refine U (Va _ _ _) (U (Va _ _ _) (HA.bind g (Pc I C k q K R g.rl g.wS) λq0 T y' x0 F0 z0=>Sb.wJ λk' ek=>(U (z0.wZ ek) (U Mr (U (pf _ _ _) (U yh ?_))))));refine HA.bind F0 (Pc I C e q0 K R F0.rl F0.wS) λq1 u x x1 F1 z1=>Sb.wJ λu' eu=>(aa λnq=>?_);obtain⟨e2,z2⟩:=F1.own j _ hw;obtain⟨us,e3,z3⟩:=z2.wF;refine nq (Sb.lookm λzs ez=>?_);show Sb _ _ ((QT (ow j) "insert" [.int k',x] q1.τ).bind _)
 refine U (zE e3 (by rfl:Zt "insert"=J .insert) rfl) ?_;refine Ds ez λf e5 x2=>?_;subst x2;have e6:qaB .insert [V.int k',x] q1.τ us=J (us.take k'.toNat++x::us.drop k'.toNat):=by
  show(Ge _).map _=_
  refine Ed z3.len (U e5 ?_);rfl
 refine U e6 ?_;have d:=F1.upd hw (c':=.l _) (ob:=.list _) (.l ((z3.take k'.toNat).app (.cons (z1.grd eu) (z3.drop k'.toNat))));exact Sb.ok (.mk q1.L ow d.2 d.1 .next)
theorem gS(o:Mine.Internal.X)(n:Bb)(i:Mine.Internal.X)(op:He)(e:Mine.Internal.X):Tt X (λK σ=>(fX S B D o K σ).bind λf=>(Bm S n f.2 f.1).bind λj=>iY S B D n i e op K f.2 j) (eE (S.w N) L (.aug (.attr o n) i op e)):=λq K R ow g=>by
 show Sb _ _ (((evX (S.w N) L o R q.τ).bind λf=>(Ni (S.w N) f.1 n f.2).map λv=>(v,f.2)).bind _)
 refine U (Va _ _ _) (HA.bind g (Pc I C o q K R g.rl g.wS) λq1 w v x1 F1 z1=>Sb.wJ λj ej=>?_);obtain⟨eg,hu⟩:=Cp F1.rl z1 ej;refine U eg ?_;show Sb _ _ ((evX (S.w N) L i R q1.τ).bind λq=>(cD (.ref (q1.L (.f j n))) q.1 q.2).bind λk=>(evX (S.w N) L e R q.2).bind λu=>(qh k).bind λx=>(qh u.1).bind λf=>(AL op x f).bind λh=>(Ci (.ref (q1.L (.f j n))) q.1 (.int h) u.2).map λσ=>(Mine.Internal.Fl.next,R,σ))
 refine HA.bind F1 (Pc I C i q1 K R F1.rl F1.wS) λq2 iv x6 x2 F2 z2=>?_;have h:=x2.usd _ hu;refine Ed h.2 (Sb.wY (gI F2.rl (.fld h.1) z2) λk x5 zo=>HA.bind F2 (Pc I C e q2 K R F2.rl F2.wS) λq3 u f x3 F3 z3=>Sb.wT (vk (.val (zo.mono x3))) λa=>Sb.wT (vk z3) λb=>Sb.wT Sb.rf λd=>?_);have x4:=x3.usd _ h.1;exact Ed x4.2 (Sb.map2 (gw F3.rl x4.1 (z2.mono F2.rl x3) (.int d)) λσ A T=>.at (F3.le T.1 T.2) T.1)
theorem dS(d:Mine.Internal.T)(e:Mine.Internal.X):Tt X (gY S B D d e) (eE (S.w N) L (.assign d e)):=λq K R ow f=>by
 have one:{F':fc->ub->io}->Sb (BI X [] K R ow q TV) (F' K q.σ) (evX (S.w N) L e R q.τ)->Sb (HA X (Ow [] K ow) q) ((F' K q.σ).bind λg=>(fP S B D d g.1 K g.2).map RY) ((evX (S.w N) L e R q.τ).bind λg=>(IK (S.w N) L d g.1 R g.2).map nJ):=λh=>
  Sb.wY h λa b g=>g.rec λj Q x hq F1 k=>Sb.map2 (GM I C d (Q:=Q) (P:=[]) (q:=⟨j,a.2,b.2⟩) (by refine U (Wb _) ?_;exact F1) (by refine U (Wb _) ?_;exact k)) λg p' h=>(HA.go h).le (by refine U (Wb _) ?_;exact x.fresh hq)
 induction d using T.casesOn<;>try exact one (KM I C f e)
 show Sb _ (match zF e with|some o=>_|none=>_) _
 induction he:zF e with
 |none=>exact one (F':=HM S B D e) (sm I C f e)|some o=>
  have:e=.t o:=by induction e using Mine.Internal.X.casesOn<;>first|exact ja he|exact Gc Mine.Internal.X.t (ba he)
  subst this;show Sb _ _ (((Mi (S.w N) L o R q.τ).bind λg=>Bp g.1 g.2).bind _)
  rw[Va];refine Sb.wY (nT I C o f) λa b g=>g.rec λj Q x hq F1 k=>(U yh ?_);refine Sb.okb (Gc Td (V1 k)) λu=>Sb.map2 (vz I C ts (Q:=Q) (P:=[]) (q:=⟨j,a.2,b.2⟩) (by refine U (Wb _) ?_;exact F1) (by refine U (Wb _) ?_;exact k)) λg p' h=>(HA.go h).le (by refine U (Wb _) ?_;exact x.fresh hq)
theorem AU(e:Mine.Internal.X):Tt X (λK f=>(qbx S B D e K f).map λd=>(.ret d.1,K,d.2)) (eE (S.w N) L (.ret e)):=λq K R ow f=>by
 have g:Sb (HA X (Ow [] K ow) q) ((HM S B D e K q.σ).map λd=>(.ret d.1,K,d.2)) ((evX (S.w N) L e R q.τ).map λd=>(.ret d.1,R,d.2)):=Sb.map2 (Az (Pc I C e) q K R f.rl f.wS) λa b d=>d.rec λg x j o=>.mk g ow x.s (f.le x j) (.ret (o.sub λT o=>.inl o))
 induction e using Mine.Internal.X.casesOn<;>try exact g
 show Sb _ ((((Ke K i).bind M0).map _).map _) (((Zk R i).map _).map _)
 refine U (pf _ _ _) (U (pf _ _ _) (Sb.lookm λw ew=>(aa λnq=>(Wg ew λu hu er=>?_))));refine nq ?_;clear nq
 induction hb:xT u with
 |false=>
  refine aa λnq=>?_;obtain⟨v,e1,o⟩:=f.val i u hu hb;refine nq ?_;clear nq;have:w=u:=by induction u using W.casesOn<;>first|exact(ba er).symm|exact ja er|exact Bd hb
  exact U e1 (U this (Sb.ok (.mk q.L ow .refl f (.ret (o.sub λT o=>.inl o)))))
 |true=>
  induction u using W.casesOn<;>try exact Bd hb
  rename W=>c
  refine aa λnq=>?_;obtain rfl:=ba er;obtain⟨e1,o⟩:=f.own i _ hu;refine nq ?_;clear nq;have hO:Ow [] K ow (ow i):=.inl ⟨i,_,hu,rfl⟩;have nx:¬Ex q X (ow i):=λo=>o.elim (λh=>by obtain⟨d,v,k⟩:=h;exact f.rl.sep d v (k▸.inr hO)) (f.sep _ hO);exact U e1 (Sb.ok (.mk q.L ow .refl f (.ret (o.rec (motive:=λu a T=>¬Ex q X a->VS q X u (.ref a)) (λe h n=>.l n e (h.sub λT o=>.inl o)) (λe k h n=>.dic n e k (h.sub λT o=>.inl o)) nx))))
end
section
variable {q q' B:Wd} {E E' X O A:Nat->Prop} {w u c:W} {v x:V} {tab:Ch} {sc scr:Nat->Option (List Int)} {K:fc} {Q:Me} {ow:Nat->Nat} {T:List W} {args':List V}
variable {G:Yp} {I:Nat->List V->St->Option (V×St)}
theorem sM(h:VB q E w v):Sb Eq (sG w) (rG v):=by
 induction w using W.casesOn<;>first|exact Sb.no|(rw[(h.wF).wF];exact Sb.ok rfl)
theorem bT{eb:Nat->S}{s:SF}(h:aT eb s=Y):∃i,s=.frz i:=by induction s using SF.casesOn<;>first|exact⟨_,rfl⟩|exact ja h.symm
section
variable {F:Nat->fc->ub->al} {eb:Nat->S} (N:∀a xs,sc a=J xs->scr a=J xs) (C:vn G I) (D:∀i,Tt X (F i) (eE (tab.w scr) I (eb i)))
include N C D
mutual
theorem IM:∀(s:SF){p:S},aT eb s=J p->Tt X (fS tab sc G F s) (eE (tab.w scr) I p)
 |.q t e,y,h=>by obtain rfl:=ba h;exact dS N C t e|.aug o n i b e,y,h=>by obtain rfl:=ba h;exact gS N C o n i b e|.expr e,y,h=>by obtain rfl:=ba h;exactλq K Q ow d=>HA.bind d (Pc N C e q K Q d.rl d.wS) λj u u l g z=>Sb.map2 (sM z) λu u u=>HA.stay g|.app o m e,y,h=>by obtain rfl:=ba h;exact bS N C o e|.ins o k e,y,h=>by obtain rfl:=ba h;exact vT N C o k e|.ifs t a b,y,h=>by obtain rfl:=ba h;exactλq K Q ow d=>HA.bind d (tm N C t q K Q d.rl d.wS) λj u u l g z=>Sb.ifB z (uk a j K Q ow g) (uk b j K Q ow g)|.whil t b,y,h=>by obtain rfl:=ba h;exact FJ (λu=>tm N C t) (uk b) 5000|.fors t e b,y,h=>by
  refine aa λk=>?_;obtain rfl:=ba h;refine k ?_;exactλq K Q ow d=>HA.bind d (Pc N C e q K Q d.rl d.wS) λj u u l g z=>Sb.wY (vJ z) λxs m f=>
   Fy (λq K Q ow w v d h=>Ry (uk b) d h) xs [] 5000 j K Q ow .refl g f.1 (Pt f.2 (by decide))
 |.forz t f b,y,h=>by
  refine aa λk=>?_;obtain rfl:=ba h;refine k ?_;exactλq K Q ow d=>HA.bind d (tj N C f q K Q d.rl d.wS) λj u u l g z=>by
   refine U (Va _ _ _) (Sb.wY (Sb.wY (ND z) λu u z=>aW z) λxs r z=>Sb.wJ λm e=>(aa λk=>?_));obtain⟨rfl,o⟩:=Pr e;exact k (Fy (λq K Q ow w v d h=>Ry (uk b) d h) m [] 5000 j K Q ow .refl g (.st z) (Pt o (by decide)))
 |.ret e,y,h=>by obtain rfl:=ba h;exact AU N C e|.frz y,j,h=>ja h|.blk i,y,h=>by obtain rfl:=ba h;exact D i
theorem uk(d:List SF):Tt X (iJ tab sc G F d) (uv (tab.w scr) I (sv eb d)):=match d with
 |[]=>λq K Q ow b=>Sb.ok (HA.stay b)|s::d=>λq K Q ow b=>by
  show Sb _ _ (uv (tab.w scr) I (match aT eb s with|some j=>j::sv eb d|none=>sv eb d) Q q.τ)
  induction h:aT eb s with
  |some j=>exact Jw (IM s h q K Q ow b) λk f e g S l=>uk d k f e g l|none=>
   obtain⟨i,rfl⟩:=bT h;show Sb _ ((((Ke K i).bind sK).map _).bind _) _
   refine U yh (Sb.wJ λc e=>(aa λf=>(Wg e λw g j=>?_)));cases Fo j;refine f ?_;have S:=b.frz g;exact Sb.imp (uk d q _ Q ow S.1) λu u p=>p.le S.2
end
end
theorem RT{eb:Nat->S}{s:SF}(h:Lv s=Z):∃b,aT eb s=J b:=by induction s using SF.casesOn<;>first|exact⟨_,rfl⟩|exact zc h ia
theorem xC{f:Nat->Option SF}(N:∀a xs,sc a=J xs->scr a=J xs)(C:vn G I)(d i:_):Tt X (Ee tab f sc G d i) (eE (tab.w scr) I (o4 f d i)):=match d,i with
 |0,i=>λu u u u u=>Sb.no|d+1,i=>λq K Q ow b=>by
  show Sb _ ((f i).bind _) (eE _ _ (((f i).bind (aT (o4 f d))).getD _) _ _)
  induction f i with
  |none=>exact Sb.no|some s=>
   show Sb _ ((Ge (Lv s)).bind _) _
   refine Sb.wJ λu e=>?_;obtain⟨h,g⟩:=RT (eb:=o4 f d) (Mq e);show Sb _ _ (eE _ _ ((aT (o4 f d) s).getD _) _ _)
   exact U g (IM N C (xC N C d) s g q K Q ow b)
theorem Jx{i:Nat}{k:Nat}(h:Ke (T.map J++Ia k Y) i=J w):T[i]?=J w:=by
 refine aa λd=>(Wg h λo b e=>?_);subst e;refine d ?_;rcases ck i T.length with c|c
 ·rw[Xa (by refine U (ya _) ?_;exact c),Ec]at b
  refine Ds b λa f g=>?_;cases g;exact f
 ·rw[La (by refine U (ya _) ?_;exact c)]at b
  exact nomatch yA (Ma b)
theorem Aj.start(r:Rl E q)(h:Pd q E T args')(k:Nat):Aj E [] (T.map J++Ia k Y) (args'.map J++Ia k Y) (λu=>0) q/\∀a,¬Ow [] (T.map J++Ia k Y) (λu=>0) a:=by
 have nob:∀i c,Ke (T.map J++Ia k Y) i≠J (.o c):=λi c e=>by
  obtain⟨v,_,z⟩:=h.get (Jx e);exact z.wF
 have no:∀a,¬Ow [] (T.map J++Ia k Y) (λu=>0) a:=λa z=>z.elim ((by rintro⟨i,c,e,_⟩;exact nob i c e)) λz=>(Tb z).elim;have hEx:∀a,EX E (Ow [] (T.map J++Ia k Y) λu=>0) a->E a:=λa z=>z.resolve_right (no a);refine⟨⟨r.sub hEx,by exact U Ha (U Ha (U (ya _) (U (ya _) (U h.len (U Ng (U Ng rfl)))))),λi e=>?_,λi w e u=>?_,λi c e=>(nob i c e).elim,λi j c c' e=>(nob i c e).elim,λa z=>(no a z).elim,.nil,λi c e=>(nob i c e).elim⟩,no⟩
 ·rcases ck i T.length with c|c
  ·rw[Xa (by refine U (ya _) ?_;exact c),Ec,Wa c]at e
   cases e
  ·rw[La (by refine U (ya _) ?_;exact c),ya,Te]at e
   refine U (La (by rw[ya,<-h.len];exact c)) (U (ya _) (U Te (Ed h.len ?_)))
   split at e
   ·rename_i hh;exact U (Dd hh) rfl
   ·exact ja e
 ·obtain⟨v,e1,z⟩:=h.get (Jx e)
  refine⟨v,?_,z.sub hEx⟩;unfold Zk;refine U (Oh (by rw[Ec,e1];rfl:(args'.map J)[i]?=J (J v))) ?_;rfl
theorem Zz{e:Nat->Option SF}(N:∀a xs,sc a=J xs->scr a=J xs)(C:vn G I){fn:Rg}(r:Rl E q)(h:Pd q E T args'):SX E q (λx=>VS x E) (Vo tab e sc G fn T q.σ) (yP (tab.w scr) I (u4 e fn) args' q.τ):=by
 show SX E q _ ((Ge (Ub T.length fn.params)).bind _) ((Ge (Ub args'.length fn.params)).bind _)
 refine U h.len (Sb.okb rfl λu=>?_);obtain⟨d,j⟩:=Aj.start r h (fn.slots - fn.params);refine Sb.map2 (uk N C (xC N C 4) fn.body q _ _ _ d) λa b p=>?_;obtain⟨f,K,l⟩:=a;obtain⟨m,Q,n⟩:=b;obtain⟨L,ow,S,k,R⟩:=p;have x:=S.le j;have g:=k.rl.sub λa z=>.inl z;cases R with
 |next=>exact .mk L x g VS.none|ret z=>exact .mk L x g z
theorem Bt(p:mr)(u:Ug [] p):False:=by
 induction p with
 |a i=>exact We _ u|d i=>obtain⟨_,_,e,_⟩:=u;exact ja e|f i n=>obtain⟨_,e⟩:=u;exact ja e
theorem Qq(j:q'.τ=q.τ)(l:∀a,Ex q' E' a->Ex q E a){w:W}{v:V}(m:Hd w=Z)(o:VS q E w v):VS q' E' w v:=
 W.rec (motive_1:=λw=>∀v:V,Hd w=Z->VS q E w v->VS q' E' w v) (motive_2:=λf=>∀d:List V,Ob f=Z->Pd q E f d->Pd q' E' f d)
  (λv u h=>by rw[(h.wF:_=V.none)];exact .none) (λb v u h=>by rw[(h.wF:_=V.bool b)];exact .bool b) (λb v u h=>by rw[(h.wF:_=V.int b)];exact .int b)
  (λb v u h=>by rw[(h.wF:_=V.str b)];exact .str b) (λb v u h=>by rw[(h.wF:_=V.k b)];exact .k b) (λa b v u h=>by rw[(h.wF:_=V.rng a b)];exact .rng a b)
  (λb v u h=>by rw[(h.wF:_=V.iset b)];exact .iset b) (λxs b v e h=>by obtain⟨g,rfl,z⟩:=h.wF;exact .t (b _ e z))
  (λxs b v e h=>by cases h with|l n g z=>exact .l (λy=>n (l _ y)) (j▸g) (b _ e z))
  (λp xs b v e h=>by cases h with|dic n g k z=>exact .dic (λy=>n (l _ y)) (j▸g) k (b _ e z))
  (λi v e h=>zc e ia) (λi n v e h=>h.wF.elim) (λw b v e h=>h.wF.elim)
  (λd e h=>by induction d using ma with|nil=>exact .nil|cons=>exact zc h.len.symm (Zb _))
  (λw f b g d e h=>by induction d using ma with|nil=>exact zc h.len (Zb _)|cons=>exact .cons (b _ (Aa.mp e).1 h.uncons.1) (g _ (Aa.mp e).2 h.uncons.2)) w v m o
theorem Ms(f:q'.τ=q.τ)(g:∀a,Ex q' E' a->Ex q E a){b:List W}{d:List V}(e:Ob b=Z)(h:Pd q E b d):Pd q' E' b d:=by
 obtain⟨k,j,z2⟩:=(Qq f g (w:=.t b) e (.t h)).wF;cases j;exact z2
theorem aP(b:q'.τ=q.τ)(f:∀a,Ex q' E' a->Ex q E a){w:W}{a:Nat}(e:Hd w=Z)(h:VC q E w a):VC q' E' w a:=by
 cases h with
 |l d z=>exact .l (b▸d) (Ms b f e z)|dic d k z=>exact .dic (b▸d) k (Ms b f e z)
theorem UE:∀{b:List (Bb×W)}{n:Bb}{w:W},Jf b=Z->de b n=J w->YO w=Z:=by
 intro b
 induction b with
 |nil=>exactλz e=>ja e|cons d r f=>
  intro n w h e;replace e:(if d.1=n then J d.2 else de r n)=J w:=e
  split at e
  ·obtain rfl:=ba e;exact(Aa.mp h).1
  ·exact f (Aa.mp h).2 e
theorem Ly{b:ub}:∀{i:Nat}{o:OF},oe b=Z->b[i]?=J o->Jf o.fs=Z:=by
 induction b with
 |nil=>exactλu e=>ja e|cons x b d=>
  intro i o h e
  induction i using Sa with
  |zero=>obtain rfl:=ba e;exact(Aa.mp h).1|succ i=>exact d (Aa.mp h).2 e
theorem OS.shift{i j:Nat}{o:OF}(f:q'.τ=q.τ)(l:∀a,Ex q' E' a->Ex q E a)(m:q'.L (.a j)=q.L (.a i))(r:o.cls≠Y->q'.L (.d j)=q.L (.d i))(p:∀n c,de o.fs n=J (.o c)->q'.L (.f j n)=q.L (.f i n))(s:Jf o.fs=Z)(h:OS q E i o):OS q' E' j o:=by
 have d:∀{d es},o.fs=d->FS q E i d es->FS q' E' j d es:=λg b=>⟨b.keys,λn w e=>by
  have k:=UE s (g▸e);obtain⟨v,t,z⟩:=b.at_ n w e;refine⟨v,t,?_⟩;cases z with
  |val z=>exact .val (Qq f l (by induction w using W.casesOn<;>first|exact k|exact zc z.nb ia) z)|o z=>exact(p n _ (g▸e))▸.o ((p n _ (g▸e)).symm▸aP f l k z)⟩
 cases h with
 |inst k t b=>exact .inst' m (r (ID _)) (f▸k) (f▸t) (d rfl b)|sd k b=>exact .sd' m (f▸k) (d rfl b)
noncomputable def own(z:mr):Nat:=match z with|.a i=>i|.d i=>i|.f i u=>i
noncomputable def vR(m:Nat)(z:mr):mr:=match z with|.a i=>.a (i+m)|.d i=>.d (i+m)|.f i n=>.f (i+m) n
noncomputable def uR(m:Nat)(z:mr):mr:=match z with|.a i=>.a (i - m)|.d i=>.d (i - m)|.f i n=>.f (i - m) n
theorem J0(m:Nat)(p:mr):¬own (vR m p)<m:=by induction p<;>exact Ud.mpr (Ve m _)
theorem Uy{m:Nat}{p:mr}(h:¬own p<m):vR m (uR m p)=p:=by
 have k:=Ud.mp h
 induction p with
 |a i=>exact Gc mr.a (Br k)|d i=>exact Gc mr.d (Br k)|f i n=>exact Gc (λx=>mr.f x n) (Br k)
theorem yW{m:Nat}(p:mr):uR m (vR m p)=p:=by
 induction p with
 |a i=>exact Gc mr.a (Ar i m)|d i=>exact Gc mr.d (Ar i m)|f i n=>exact Gc (λx=>mr.f x n) (Ar i m)
theorem qf{d b:ub}{p f:mr}(h:(∃i j,p=.a i/\f=.a j/\d[i]?=b[j]?)\/(∃i j,p=.d i/\f=.d j/\d[i]?=b[j]?)\/(∃i j n,p=.f i n/\f=.f j n/\d[i]?=b[j]?)):Ug d p->Ug b f:=by
 rcases h with⟨i,j,rfl,rfl,e⟩|⟨i,j,rfl,rfl,e⟩|⟨i,j,n,rfl,rfl,e⟩
 ·exactλu=>oh (e▸Wa u:b[j]?=J _)
 ·exact(by rintro⟨o,c,g,k⟩;exact⟨o,c,e▸g,k⟩)
 ·exact(by rintro⟨c,g⟩;exact⟨c,by unfold ii at g|-;refine Ed e ?_;exact g⟩)
theorem Im{b:ub}{m:Nat}{p:mr}:Ug (b.drop m) p↔Ug b (vR m p):=by
 have g:∀i:Nat,(b.drop m)[i]?=b[i+m]?:=λi=>by exact U FK (U (pi _ _) rfl)
 induction p with
 |a i=>exact⟨qf (.inl ⟨i,i+m,rfl,rfl,g i⟩),qf (.inl ⟨i+m,i,rfl,rfl,(g i).symm⟩)⟩|d i=>exact⟨qf (.inr (.inl ⟨i,i+m,rfl,rfl,g i⟩)),qf (.inr (.inl ⟨i+m,i,rfl,rfl,(g i).symm⟩))⟩|f i n=>exact⟨qf (.inr (.inr ⟨i,i+m,n,rfl,rfl,g i⟩)),qf (.inr (.inr ⟨i+m,i,n,rfl,rfl,(g i).symm⟩))⟩
theorem Rl.down(r:Rl E q)(m:Nat)(g:oe (q.σ.drop m)=Z):Rl (λa=>E a\/∃p,Ug q.σ p/\own p<m/\q.L p=a) ⟨λp=>q.L (vR m p),q.σ.drop m,q.τ⟩/\∀a,Ex ⟨λp=>q.L (vR m p),q.σ.drop m,q.τ⟩ (λa=>E a\/∃p,Ug q.σ p/\own p<m/\q.L p=a) a->Ex q E a:=by
 have f:∀a,Ex ⟨λp=>q.L (vR m p),q.σ.drop m,q.τ⟩ (λa=>E a\/∃p,Ug q.σ p/\own p<m/\q.L p=a) a->Ex q E a:=λa z=>z.elim ((by rintro⟨p,u,e⟩;exact .inl ⟨_,Im.mp u,e⟩)) λz=>z.elim .inr (by rintro⟨p,u,_,e⟩;exact .inl ⟨p,u,e⟩);refine⟨⟨λp b u d e=>?_,λp u=>r.lt _ (Im.mp u),λp u z=>?_,λa z=>z.elim (r.elt a) (by rintro⟨p,u,_,e⟩;exact e▸r.lt p u),λi o e=>?_⟩,f⟩
 ·have:=r.inj _ _ (Im.mp u) (Im.mp d) e
  exact Ed (yW (m:=m) p) (Ed (yW (m:=m) b) (U this rfl))
 ·exact z.elim (r.sep _ (Im.mp u)) (by rintro⟨b,d,l,e⟩;exact J0 m p (r.inj b _ d (Im.mp u) e▸l))
 ·have h:q.σ[i+m]?=J o:=by exact Ed e (U FK (U (pi _ _) rfl))
  exact(r.obj _ o h).shift (q:=q) (q':=⟨λp=>q.L (vR m p),q.σ.drop m,q.τ⟩) rfl f rfl (λy=>rfl) (λy y y=>rfl) (Ly g e)
theorem eJ{m:Nat}(hx:∀a,Ex q' E' a->Ex q E a)(ht:q'.τ=q.τ)(hl:∀i,m<=i->i<q.σ.length->i - m<q'.σ.length/\q'.L (.a (i - m))=q.L (.a i)):∀{ws us:List W}{vs:List V},gB m ws=J us->Pd q E ws vs->Pd q' E' us vs:=by
 intro ws
 induction ws with
 |nil=>
  intro us vs e h
  induction vs using ma with
  |nil=>obtain rfl:=ba e;exact .nil|cons=>exact zc h.len.symm (Zb _)
 |cons w ws ih=>
  intro us vs e h
  induction vs using ma with
  |nil=>exact zc h.len (Zb _)|cons v vs=>
   refine Wg e λu e1 e2=>?_;refine Ds e2 λus' e3 g=>?_;subst g;refine .cons ?_ (ih e3 h.uncons.2);have pl:(Ge (Hd w)).map (λy=>w)=J u->VS q' E' u v:=λe=>by
    refine Ds e λl e4 g=>?_;subst g;exact Qq ht hx (Mq e4) h.uncons.1
   induction w using W.casesOn<;>first|exact pl e1|skip
   replace e1:(if m<=i then J (W.ref (i - m))else Y)=J u:=e1
   split at e1
   ·rename_i c
    obtain rfl:=ba e1;obtain⟨hi,rfl⟩:=h.uncons.1.wF;exact(hl i c hi).2▸.ref (hl i c hi).1
   ·exact ja e1
theorem nQ{run:List W->ub->io}{run':List V->St->Option (V×St)}(hr:∀E q T args',Rl E q->Pd q E T args'->SX E q (λx=>VS x E) (run T q.σ) (run' args' q.τ))(r:Rl E q)(h:Pd q E T args'):SX E q (λx=>VS x E) (G9 run T q.σ) (run' args' q.τ):=by
 refine Sb.wJ λm y=>Sb.wJ λy em=>Sb.wJ λws ew=>Sb.wJ λy ep=>Sb.wJ λp er=>?_;have hm:m<=q.σ.length:=Nl (Mq em);refine aa λnq=>?_;obtain⟨r1,hx⟩:=r.down m (Mq ep);have up:∀i,m<=i->i<q.σ.length->i - m<(q.σ.drop m).length/\q.L (vR m (.a (i - m)))=q.L (.a i):=λi c hi=>⟨by refine U Mm ?_;lia,Gc q.L (Uy (p:=.a i) (Ud.mpr c))⟩;obtain⟨b,e1,P⟩:=hr _ ⟨λp=>q.L (vR m p),q.σ.drop m,q.τ⟩ ws args' r1 (eJ hx rfl up ew h) p er;refine nq ?_;clear nq;refine U e1 ?_;obtain⟨w,σ'⟩:=p;obtain⟨L,x,r2,z⟩:=P;refine Sb.lookm λy eq=>?_;obtain⟨pw,ph⟩:=Aa.mp (Mq eq);replace ph:oe (σ'.take (q.σ.length - m))=Z:=ph;have len:∀i,i<q.σ.length - m->i<σ'.length:=λi hi=>(x.usd (.a i) (show i<(q.σ.drop m).length by refine U Mm ?_;exact hi)).1;have tl:(q.σ.take m).length=m:=by refine U mu ?_;lia
 have at_:∀i:Nat,(q.σ.take m++σ'.take (q.σ.length - m))[i]?=if i<m then q.σ[i]? else if i - m<q.σ.length - m then σ'[i - m]? else Y:=λi=>by
  by_cases c:i<m
  ·exact U (Dd c) (U (Xa (by rw[tl];exact c)) (U lr (U (Dd c) rfl)))
  ·exact U (fe c) (U (La (by rw[tl];exact Ud.mp c)) (U tl (U lr rfl)))
 have lo:{p:mr}->own p<m->(Ug (q.σ.take m++σ'.take (q.σ.length - m)) p↔Ug q.σ p):=λ{p} c=>by
  have g:=λi(c:i<m)=>(at_ i).trans (Dd c)
  induction p with
  |a i=>exact⟨qf (.inl ⟨i,i,rfl,rfl,g i c⟩),qf (.inl ⟨i,i,rfl,rfl,(g i c).symm⟩)⟩|d i=>exact⟨qf (.inr (.inl ⟨i,i,rfl,rfl,g i c⟩)),qf (.inr (.inl ⟨i,i,rfl,rfl,(g i c).symm⟩))⟩|f i n=>exact⟨qf (.inr (.inr ⟨i,i,n,rfl,rfl,g i c⟩)),qf (.inr (.inr ⟨i,i,n,rfl,rfl,(g i c).symm⟩))⟩
 have hi:{p:mr}->¬own p<m->Ug (q.σ.take m++σ'.take (q.σ.length - m)) p->Ug σ' (uR m p)/\own p - m<q.σ.length - m:=λ{p} c u=>by
  have g:=λi(c:¬i<m)=>(at_ i).trans (fe c);have k:own p - m<q.σ.length - m:=by
   have hne:(q.σ.take m++σ'.take (q.σ.length - m))[own p]?≠Y:=by
    induction p with
    |a i=>exactλz=>zc u (Ud.mpr (fh.mp z))|d i=>obtain⟨o,_,e,_⟩:=u;exactλz=>ja (z.symm.trans e)|f i n=>obtain⟨_,e⟩:=u;refine Wg e λo e j=>?_;exactλz=>ja (z.symm.trans e)
   rw[g _ c]at hne;exact qet λc2=>hne (fe c2)
  refine⟨?_,k⟩
  induction p with
  |a i=>exact qf (.inl ⟨i,i - m,rfl,rfl,(g i c).trans (Dd k)⟩) u|d i=>exact qf (.inr (.inl ⟨i,i - m,rfl,rfl,(g i c).trans (Dd k)⟩)) u|f i n=>exact qf (.inr (.inr ⟨i,i - m,n,rfl,rfl,(g i c).trans (Dd k)⟩)) u
 have hi2:{p:mr}->¬own p<m->Ug q.σ p->Ug (q.σ.take m++σ'.take (q.σ.length - m)) p/\L (uR m p)=q.L p:=λ{p} c u=>by
  have u1:Ug (q.σ.drop m) (uR m p):=Im.mpr ((Uy c).symm▸u);refine aa λnq=>?_;obtain⟨u2,e2⟩:=x.usd _ u1;refine nq ?_;clear nq;have g:=λi(c:¬i<m)(k:i - m<q.σ.length - m)=>((at_ i).trans (fe c)).trans (Dd k);refine⟨?_,e2.trans (Gc q.L (Uy c))⟩;have k:own p - m<q.σ.length - m:=by
   have:own p<q.σ.length:=by
    refine aa λnq=>?_
    induction p with
    |a i=>refine nq ?_;clear nq;exact u|d i=>refine nq ?_;clear nq;obtain⟨o,_,e,_⟩:=u;exact oh e|f i n=>refine nq ?_;clear nq;obtain⟨_,e⟩:=u;refine Wg e λo e j=>?_;exact oh e
   have:=Ud.mp c
   lia
  induction p with
  |a i=>exact qf (.inl ⟨i - m,i,rfl,rfl,(g i c k).symm⟩) u2|d i=>exact qf (.inr (.inl ⟨i - m,i,rfl,rfl,(g i c k).symm⟩)) u2|f i n=>exact qf (.inr (.inr ⟨i - m,i,n,rfl,rfl,(g i c k).symm⟩)) u2
 let L2:mr->Nat:=λp=>if own p<m then q.L p else L (uR m p)
 have l1:∀{p},own p<m->L2 p=q.L p:=λc=>Dd c;have l2:∀{p},¬own p<m->L2 p=L (uR m p):=λc=>fe c;have hEx:∀{p},own p<m->Ug q.σ p->(E (q.L p)\/∃p',Ug q.σ p'/\own p'<m/\q.L p'=q.L p):=λ{p} c u=>.inr ⟨p,u,c,rfl⟩;have x2:Le q ⟨L2,q.σ.take m++σ'.take (q.σ.length - m),b.2⟩:=⟨x.len,λp u=>by
  by_cases c:own p<m
  ·exact⟨(lo c).mpr u,l1 c⟩
  ·exact⟨(hi2 c u).1,(l2 c).trans (hi2 c u).2⟩,λp u=>by
  by_cases c:own p<m
  ·exact .inl ((lo c).mp u)
  ·refine(x.new _ (hi c u).1).imp (λu1=>(Uy c)▸Im.mp u1) λz=>?_
   refine U (show(Wd.mk L2 (q.σ.take m++σ'.take (q.σ.length - m)) b.2).L p=L (uR m p)from l2 c) ?_;exact z,λa o e n=>x.keep a o e λp u z=>n _ (Im.mp u) z⟩
 have hx2:∀a,Ex ⟨L2,q.σ.take m++σ'.take (q.σ.length - m),b.2⟩ E a->Ex ⟨L,σ',b.2⟩ (λa=>E a\/∃p,Ug q.σ p/\own p<m/\q.L p=a) a:=λa z=>z.elim (λ⟨p,u,e⟩=>by
  by_cases c:own p<m
  ·exact .inr (.inr ⟨p,(lo c).mp u,c,(l1 c).symm.trans e⟩)
  ·exact .inl ⟨_,(hi c u).1,(l2 c).symm.trans e⟩) λz=>.inr (.inl z)
 refine Sb.ok (.mk L2 x2 ⟨λp p' u u' e=>?_,λp u=>?_,λp u z=>?_,λa z=>rb (r.elt a z) x.len,λi o e=>?_⟩ (Qq (q:=⟨L,σ',b.2⟩) (q':=⟨L2,q.σ.take m++σ'.take (q.σ.length - m),b.2⟩) rfl hx2 pw z))
 ·have mix:∀{p p'},own p<m->Ug q.σ p->¬own p'<m->Ug σ' (uR m p')->q.L p=L (uR m p')->False:=λc u c' u' e=>r2.sep _ u' (.inr ⟨_,u,c,e⟩)
  replace e:L2 p=L2 p':=e;by_cases c:own p<m<;>by_cases c':own p'<m
  ·exact r.inj p p' ((lo c).mp u) ((lo c').mp u') ((l1 c).symm.trans (e.trans (l1 c')))
  ·exact(mix c ((lo c).mp u) c' (hi c' u').1 ((l1 c).symm.trans (e.trans (l2 c')))).elim
  ·exact(mix c' ((lo c').mp u') c (hi c u).1 ((l1 c').symm.trans (e.symm.trans (l2 c)))).elim
  ·have:=r2.inj _ _ (hi c u).1 (hi c' u').1 ((l2 c).symm.trans (e.trans (l2 c')))
   exact Ed (Uy c) (U this (U (Uy c') rfl))
 ·by_cases c:own p<m
  ·exact ib (Fd (l1 c)) (rb (r.lt p ((lo c).mp u)) x.len)
  ·exact ib (Fd (l2 c)) (r2.lt _ (hi c u).1)
 ·replace z:E (L2 p):=z
  by_cases c:own p<m
  ·rw[l1 c]at z;exact r.sep p ((lo c).mp u) z
  ·rw[l2 c]at z;exact r2.sep _ (hi c u).1 (.inl z)
 ·replace e:(q.σ.take m++σ'.take (q.σ.length - m))[i]?=J o:=e
  rw[at_]at e;by_cases c:i<m
  ·rw[Dd c]at e
   refine(r.obj i o e).mono x2 e λp hp u o' e'=>r1.eget x (hEx ?_ u) e';rcases hp with rfl|rfl|⟨n,rfl⟩<;>exact c
  ·rw[fe c]at e
   split at e
   ·rename_i k
    have e4:(σ'.take (q.σ.length - m))[i - m]?=J o:=by refine U lr (U (Dd k) ?_);exact e
    exact(r2.obj _ o e).shift (q:=⟨L,σ',b.2⟩) (q':=⟨L2,q.σ.take m++σ'.take (q.σ.length - m),b.2⟩) rfl hx2 (l2 (p:=.a i) c) (λy=>l2 (p:=.d i) c) (λn y y=>l2 (p:=.f i n) c) (Ly ph e4)
   ·exact ja e
theorem WI{g:Nat->Option SF}{pc:Nat->Option Rg}{f:Nat->Option Fn}(hT:∀a fn,pc a=J fn->f a=J (u4 g fn)):∀n(sc:Nat->Option (List Int)),(∀a xs,sc a=J xs->scr a=J xs)->vn (Nb tab g pc n sc) (vl (tab.w scr) f n):=by
 intro n
 induction n with
 |zero=>exactλj j j j j j j j j=>Sb.no|succ n k=>
  exactλsc N E q a T args' r h=>Sb.wJ λfn l=>by
   show SX E q _ _ ((f a).bind _)
   refine U (hT a fn l) ?_;show SX E q _ (yt fn.mode _ _ T q.σ) _
   induction fn.mode with
   |all=>exact Zz N (k sc N) r h|sub=>exact nQ (λE q T args' r h=>Zz N (k sc N) r h) r h|pure=>
    refine Sb.wJ λj m=>(Sb.wJ λp s=>?_);obtain⟨b,t,P⟩:=Zz (sc:=λj=>Y) (λj j e=>ja e) (k _ λj j e=>ja e) (fn:=fn) (⟨λp j u=>(Bt p u).elim,λp u=>(Bt p u).elim,λp u=>(Bt p u).elim,λa z=>z.elim ((by rintro⟨p,u,e⟩;exact e▸r.lt p u)) (r.elt a),λi o e=>ja e⟩:Rl (Ex q E) ⟨q.L,[],q.τ⟩) (Ms (q:=q) (q':=⟨q.L,[],q.τ⟩) (E:=E) (E':=Ex q E) rfl (λa z=>z.elim ((by rintro⟨p,u,_⟩;exact(Bt p u).elim)) λz=>z) (Mq m) h) p s;obtain⟨w,R⟩:=p
    induction R using ma with
    |cons=>exact Sb.no|nil=>
     refine U (show(J (u4 g fn)).bind (λfn=>yP (tab.w scr) (vl (tab.w scr) f n) fn args' q.τ)=J b from t) ?_;obtain⟨L,x,_,z⟩:=P;have d:=r.more (τ':=b.2) x.len λa o e=>x.keep a o e λp u=>(Bt p u).elim;exact Sb.ok (.mk q.L d.2 d.1 (VS.map (q:=⟨L,[],b.2⟩) (q':=⟨q.L,q.σ,b.2⟩) (λi h=>zc h (We _)) (λa o e n=>⟨λy=>n (.inr y),e⟩) z))
end
theorem LY:QM=KY.map λp=>(p.1,u4 Ib p.2):=rfl
theorem CE{d i:Type}{f:d->i}{a:Nat}{b:d}:{l:List (Nat×d)}->l.lookup a=J b->(l.map λp=>(p.1,f p.2)).lookup a=J (f b):=by
 intro l
 induction l with
 |nil=>
  rintro _
  first|contradiction|exact ja (by assumption)
 |cons g l j=>
  obtain⟨k,c⟩:=g;rintro h;rw[Mc]at h;refine U Vb (U Mc ?_)
  induction e:a==k with
  |true=>rw[e]at h;exact Gc J (Gc f (ba h))|false=>rw[e]at h;exact j h
theorem MY(a:Nat)(b:Rg)(h:pc a=J b):qT a=J (u4 Ib b):=by
 show QM.lookup a=_
 exact U LY (CE h)
theorem d5{scr:Nat->Option (List Int)}{n a:Nat}{c:wa}{b:Bool}{f:ub}(h:Nb db Ib pc n scr a [.k c] []=J (.bool b,f)):∃d,vl (ux scr) qT n a [.k c] []=J (.bool b,d):=by
 refine aa λg=>?_;obtain⟨⟨v,d⟩,e,P⟩:=WI (tab:=db) (scr:=scr) MY n scr (λy y e=>e) (λy=>False) ⟨λy=>0,[],[]⟩ a [.k c] [.k c] (⟨λp y u=>(Bt p u).elim,λp u=>(Bt p u).elim,λp u=>(Bt p u).elim,λy h=>h.elim,λy y e=>ja e⟩:Rl (λy=>False) ⟨λy=>0,[],[]⟩) (.cons (.k c) .nil) _ h;obtain⟨L,_,_,z⟩:=P;exact g (⟨d,(z.wF:v=.bool b)▸e⟩)
noncomputable section
noncomputable def H{a b:Type}(o:Option a)(f:a->Option b):Option b:=Pp Y f o
noncomputable def M{a:Type}(b:Bool)(x y:a):a:=Bool.rec y x b
noncomputable def qef(a:List W):Nat->Option W:=gc (motive:=λu=>Nat->Option W) (λu=>Y) (λx u b n=>un (J x) (λn u=>b n) n) a
def O9(a:List W)(w:W):Nat->Option (List W):=gc (motive:=λu=>Nat->Option (List W)) (λu=>Y) (λx t b n=>un (J (w::t)) (λn u=>H (b n) λr=>J (x::r)) n) a
noncomputable def len{a:Type}(b:List a):Nat:=gc 0 (λu u n=>nc n) b
def L0(a:List W)(k:Int):Option Nat:=Ot (λn=>J n) (λn=>M (ac n (len a)) (J (qfr (len a) (nc n))) Y) k
def Kg(a:List W)(k:Int):Option W:=H (L0 a k) (qef a)
def iu(a:List W)(k:Int)(w:W):Option (List W):=H (L0 a k) (O9 a w)
noncomputable def Qh(a b:Int):Bool:=Ot (λa=>Ot (λb=>ac a b) (λu=>ua) b) (λa=>Ot (λu=>Z) (λb=>ac b a) b) a
noncomputable def Rp(a b:Int):Bool:=Ot (λa=>Ot (λb=>Ub a b) (λu=>ua) b) (λa=>Ot (λu=>ua) (λb=>Ub a b) b) a
def Vk(x:Int)(a:List Int):Bool:=gc ua (λk u b=>M (Rp k x) Z b) a
def HB(b:List Int)(x:Int):List W->Option W:=gc (motive:=λu=>List W->Option W) (λu=>Y) (λk u c a=>gc Y (λv a u=>M (Rp k x) (J v) (c a)) a) b
def Ql(a:List Int)(x:Int):List Int:=gc [x] (λk t b=>M (Rp k x) (k::t) (k::b)) a
def Sl(b:List Int)(x:Int)(w:W):List W->List W:=gc (motive:=λu=>List W->List W) (λu=>[w]) (λk u c a=>gc [w] (λv a u=>M (Rp k x) (w::a) (v::c a)) a) b
noncomputable def uw(n:Nat):Int->List W:=un (motive:=λu=>Int->List W) (λu=>[]) (λu b a=>.int a::b (a+1)) n
def CD(a b:Int):Bool:=M (Qh (-1000) a) (M (Qh a 1000) (M (Qh (-1000) b) (Qh b 1000) ua) ua) ua
def Jd{a:Type}(n:Nat)(b:List a):Bool:=ac (len b) n
def Nf{R:Type}(w:W)(k:List W->Option R):Option R:=W.casesOn w Y (λu=>Y) (λu=>Y) (λu=>Y) (λu=>Y) (λa b=>M (CD a b) (k (uw (b - a).toNat a)) Y) (λu=>Y) (λa=>M (Jd 4900 a) (k a) Y) (λa=>M (Jd 4900 a) (k a) Y) (λu u=>Y) (λu=>Y) (λu u=>Y) λu=>Y
def Jv(a:List W):Option (List Int):=gc (J []) (λx u b=>H (Ua x) λi=>H b λr=>J (i::r)) a
def rk(a b:W):Option Bool:=match a,b with|.int x,.int y=>J (Rp x y)|a,b=>l4 a b
def AA(a c:W):Option Bool:=match c with
 |.dic b u=>H (Ua a) λx=>J (Vk x b)|.l b=>(match a with
  |.int x=>(match Jv b with|some is=>J (Vk x is)|none=>NW a c)
  |a=>NW a c)
 |_=>Y
noncomputable def Wj(a:List W):Option (W×List W):=ma a Y λx t=>J (x,t)
noncomputable def wy(a:List W):Bool:=ma a Z λu u=>ua
inductive Fk where
 |go (me:fc) (σ:ub)|ret (w:W) (σ:ub)
noncomputable def i8(p:eW×fc×ub):Fk:=match p.1 with|.next=>.go p.2.1 p.2.2|.ret w=>.ret w p.2.2
structure Or where
 ro:{R:Type}->Nat->List W->ub->(W->Option R)->Option R
 cf:{R:Type}->Nat->List W->ub->(W×ub->Option R)->Option R
 cb:{R:Type}->Nat->fc->ub->(Fk->Option R)->Option R
section
variable {R:Type}
def vF(u v:W)(b:ub)(k:W->Option R):Option R:=H (pj u b) λc=>match c with|.t a=>H (Ua v) λi=>H (Kg a i) k|.l a=>H (Ua v) λi=>H (Kg a i) k|.dic a d=>H (Ua v) λi=>H (HB a i d) k|.ref i=>H (br v) λs=>H (aF b i s) k|_=>Y
def ON(w:W)(b:ub)(k:W->Option R):Option R:=match w with|.t a=>k (.int (jb (len a)))|.iset a=>k (.int (Ig a).length)|w=>H (pj w b) λc=>H (Hl c) λa=>k (.int (jb (len a)))
def rL(a b:W)(e:ub)(k:W->Option R):Option R:=match a with|.int x=>H (Ua b) λy=>k (.int (x+y))|.t c=>H (ng b) λd=>M (Jd 4096 (c++d)) (k (.t (c++d))) Y|a=>H (Pe a e) λc=>H (Pe b e) λd=>M (Jd 4096 (c++d)) (k (.l (c++d))) Y
def lY(c:He)(a b:W)(d:ub)(k:W->Option R):Option R:=match c with|.Add=>rL a b d k|.Sub=>H (Ua a) λx=>H (Ua b) λy=>k (.int (x - y))|.FloorDiv=>H (Ua a) λx=>H (Ua b) λy=>H (SS x y) λz=>k (.int z)|.Mod=>H (Ua a) λx=>H (Ua b) λy=>H (Lz x y) λz=>k (.int z)|.Pow=>H (Ua a) λx=>H (Ua b) λy=>H (qU x y) λz=>k (.int z)|_=>Y
def YL(a b:W)(k:Int->Int->Option R):Option R:=H (Ua a) λx=>H (Ua b) λy=>k x y
def ZL(e:xr)(a b:W)(d:ub)(k:Bool->Option R):Option R:=match e with|.Lt=>YL a b λx y=>k (Qh x y)|.LtE=>YL a b λx y=>k (!Qh y x)|.Gt=>YL a b λx y=>k (Qh y x)|.GtE=>YL a b λx y=>k (!Qh x y)|.Eq=>H (rk a b) k|.NotEq=>H (rk a b) λb=>k (!b)|.Is=>H (qax a b) k|.IsNot=>H (Ph a b) k|.In=>H (pj b d) λc=>H (AA a c) k|.NotIn=>H (Ua a) λx=>H (pj b d) λc=>H (AA (.int x) c) λb=>k (!b)
def qas(b:Bi)(a:List W)(c:ub):Option W:=(b4 b a c).map oj
def qar(b:Bi)(d:List W)(e:ub)(k:W->Option R):Option R:=match b with
 |.len=>H (one d) λw=>ON w e k|.range=>(match d with|[b]=>H (Ua b) λy=>M (CD 0 y) (k (.rng 0 y)) Y|[a,b]=>H (Ua a) λx=>H (Ua b) λy=>M (CD x y) (k (.rng x y)) Y|_=>Y)
 |.max=>H (two d) λp=>H (Ua p.1) λx=>H (Ua p.2) λy=>k (.int (max x y))|.min=>H (two d) λp=>H (Ua p.1) λx=>H (Ua p.2) λy=>k (.int (min x y))|.sorted=>H (one d) λw=>H (pj w e) λc=>H (UC c) λa=>M (Jd 4096 a) (k (.l a)) Y|.tuple=>H (one d) λw=>H (du w e) λa=>M (Jd 4096 a) (k (.t a)) Y|.list=>H (one d) λw=>H (ng w) λa=>M (Jd 4096 a) (k (.l a)) Y|b=>H (qas b d e) k
def G4(o:W)(n:Bb)(a:List W)(b:ub):Option W:=(qaA o n a b).map oj
noncomputable def QP(z:List Nat)(y:List W)(u:fc)(j:(fc->Option R)):Option R:=match z,y,u,j with|[],b,a,k=>M (wy b) (k a) Y|i::is,b,a,k=>H (Wj b) λp=>M (xq a i) (QP is p.2 (a.set i (J p.1)) k) Y
def jm(t:CT)(v:W)(a:fc)(k:fc->Option R):Option R:=match t with|.x i=>M (xq a i) (k (a.set i (J v))) Y|.t is=>H (ng v) λb=>QP is b a k
noncomputable def ze(g:W->(List W->Option R)->Option R)(c:List W):(List W->Option R)->Option R:=gc (motive:=λu=>(List W->Option R)->Option R) (λk=>k []) (λx u d k=>g x λa=>d λb=>k (a++b)) c
variable (O:Or)
def uW(g:W)(c:List W)(d:ub)(k:W->Option R):Option R:=match g with
 |.k (.ref a)=>M (BA c) (match db.init a with|some u=>Y|none=>O.ro a c d k) Y
 |.k v=>H (OD v) λb=>qar b c d k|_=>Y
def qdI(c:ED)(n:Bb)(a:List W)(b:ub)(k:W->Option R):Option R:=match c with|.fn f i=>O.ro f (.ref i::a) b k|.lm o=>H (G4 o n a b) k
mutual
noncomputable def kX(m:X)(p:fc)(e:ub)(h:(W->Option R)):Option R:=match m,p,e,h with
 |.x i,A,y,k=>H (Ke A i) k|.k v,y,z,k=>k (.k v)|.none,y,z,k=>k .none|.bool b,y,z,k=>k (.bool b)|.int i,y,z,k=>k (.int i)|.str s,y,z,k=>k (.str s)|.attr o n,A,l,k=>kX o A l λw=>H (Bk w) λi=>H (Kx db n l i) k|.sub o i,A,l,k=>kX o A l λu=>kX i A l λv=>vF u v l k|.cut y z,j,q,d=>Y|.bin c a b,A,l,k=>kX a A l λu=>kX b A l λv=>lY c u v l k|.neg a,A,l,k=>kX a A l λw=>H (Ua w) λi=>k (.int (-i))|.cmp c a b,A,l,k=>kX a A l λu=>kX b A l λv=>ZL c u v l λr=>k (.bool r)|.cmp2 f g a b c,A,l,k=>kX a A l λu=>kX b A l λv=>ZL f u v l λr=>M r (kX c A l λx=>ZL g v x l λr=>k (.bool r)) (k (.bool ua))|.ite t a b,A,l,k=>kT t A l λr=>M r (kX a A l k) (kX b A l k)|.t a,A,l,k=>GN a A l λb=>M (Jd 4096 b) (k (.t b)) Y|.list a,A,l,k=>GN a A l λb=>M (Jd 4096 b) (k (.l b)) Y|.dict y z,j,q,d=>Y|.comp n f s t rest u,A,l,k=>kX f A l λw=>Nf w λa=>
  ze (λv i=>jm s v (A++Ia n Y) λg=>AT t g l λr=>M r (EN rest (λA i=>kX u A l λw=>M (nb w) (i w) Y) g l i) (i [])) a λg=>M (Jd 4096 g) (k (.l g)) Y
 |.call f a,A,l,k=>kX f A l λg=>qcq a A l λb=>uW O g b l k|.meth o n a,A,l,k=>kX o A l λw=>H (xU db n w l) λc=>GN a A l λb=>qdI O c n b l k|.sup y z j,q,d,l=>Y
noncomputable def GN(z:List X)(j:fc)(q:ub)(d:(List W->Option R)):Option R:=match z,j,q,d with|[],u,y,k=>k []|x::c,a,b,k=>kX x a b λw=>M (nb w) (GN c a b λe=>k (w::e)) Y
noncomputable def qcq(z:List X)(j:fc)(q:ub)(d:(List W->Option R)):Option R:=match z,j,q,d with|[],u,y,k=>k []|x::c,a,b,k=>kX x a b λw=>qcq c a b λe=>k (w::e)
noncomputable def kT(z:B)(y:fc)(u:ub)(j:(Bool->Option R)):Option R:=match z,y,u,j with|.and a b,c,d,k=>kT a c d λr=>M r (kT b c d k) (k ua)|.or a b,c,d,k=>kT a c d λr=>M r (k Z) (kT b c d k)|.not a,c,d,k=>kT a c d λr=>k (!r)|.wK x,c,d,k=>kX x c d λw=>H (Li w) k
noncomputable def AT(z:List B)(j:fc)(q:ub)(d:(Bool->Option R)):Option R:=match z,j,q,d with|[],u,y,k=>k Z|t::c,a,b,k=>kT t a b λr=>M r (AT c a b k) (k ua)
noncomputable def EN(z:List G)(y:(fc->(W->Option R)->Option R))(j:fc)(q:ub)(d:(List W->Option R)):Option R:=match z,y,j,q,d with
 |[],a,e,u,k=>a e λw=>k [w]|.mk b f g::l,a,e,h,k=>kX b e h λw=>Nf w λm=>
  ze (λv i=>jm f v e λc=>AT g c h λr=>M r (EN l a c h i) (i [])) m k
end
end
end
noncomputable section
def XU{R:Type}(f:(Fk->Option R)->Option R)(g:fc->ub->(Fk->Option R)->Option R)(k:Fk->Option R):Option R:=f λr=>Fk.rec (λb a=>g b a k) (λw a=>k (.ret w a)) r
def pB{R:Type}(g:W->fc->ub->(Fk->Option R)->Option R)(c:List W):fc->ub->(Fk->Option R)->Option R:=gc (motive:=λu=>fc->ub->(Fk->Option R)->Option R) (λa b k=>k (.go a b)) (λx u d a b k=>XU (g x a b) d k) c
def R2{R:Type}(t:fc->ub->(Bool×ub->Option R)->Option R)(g:fc->ub->(Fk->Option R)->Option R)(n:Nat):fc->ub->(Fk->Option R)->Option R:=un (motive:=λu=>fc->ub->(Fk->Option R)->Option R) (λu u u=>Y) (λu b a c k=>t a c λq=>M q.1 (XU (g a q.2) b k) (k (.go a q.2))) n
section
variable {R:Type} (O:Or)
def LL(g:W)(d:List W)(c:ub)(k:W×ub->Option R):Option R:=match g with
 |.k (.ref a)=>M (BA d) (match db.init a with|some g=>O.cf g (.ref c.length::d) (c++[⟨J a,[]⟩]) λp=>H (YG c.length p) k|none=>O.cf a d c k) Y
 |.k v=>H (OD v) λb=>qar b d c λw=>k (w,c)|_=>Y
def qeN(c:ED)(n:Bb)(b:List W)(a:ub)(k:W×ub->Option R):Option R:=match c with|.fn f i=>O.cf f (.ref i::b) a k|.lm o=>H (G4 o n b a) λw=>k (w,a)
noncomputable def bU(q:X):Bool:=match q with|.meth u n y=>decide (n=("new_var":Bb))|.bin u (.int y) (.call z j)=>Z|_=>ua
def nt(g:W->ub->(List W×ub->Option R)->Option R)(b:List W):ub->(List W×ub->Option R)->Option R:=gc (motive:=λu=>ub->(List W×ub->Option R)->Option R) (λa k=>k ([],a)) (λx u c a k=>g x a λp=>c p.2 λq=>k (p.1++q.1,q.2)) b
mutual
noncomputable def hK(z:X)(y:fc)(u:ub)(d:(W×ub->Option R)):Option R:=match z,y,u,d with|.bin c a b,l,h,k=>hK a l h λp=>hK b l p.2 λq=>lY c p.1 q.1 q.2 λw=>k (w,q.2)|.t m,l,h,k=>qck m l h λq=>M (Jd 4096 q.1) (k (.t q.1,q.2)) Y|.sub o i,l,h,k=>hK o l h λp=>hK i l p.2 λq=>vF p.1 q.1 q.2 λw=>k (w,q.2)|.cmp c a b,l,h,k=>hK a l h λp=>hK b l p.2 λq=>ZL c p.1 q.1 q.2 λr=>k (.bool r,q.2)|.call f a,l,h,k=>kX O f l h λg=>qcj a l h λq=>LL O g q.1 q.2 k|.meth o n a,l,h,k=>kX O o l h λw=>H (xU db n w h) λc=>GN O a l h λb=>qeN O c n b h k|.sup i f a,l,h,k=>H (Ke l i) λw=>H (Bk w) λi=>H (G1 db f h i) λj=>GN O a l h λb=>O.cf f (.ref j::b) h k|.comp n a c e rest b,l,h,k=>M (bU b&&e.isEmpty&&rest.isEmpty) (kX O a l h λw=>Nf w λm=>nt (λv h g=>jm c v (l++Ia n Y) λf=>hK b f h λp=>M (nb p.1) (g ([p.1],p.2)) Y) m h λq=>M (Jd 4096 q.1) (k (.l q.1,q.2)) Y) (kX O (.comp n a c e rest b) l h λw=>k (w,h))|e,l,h,k=>kX O e l h λw=>k (w,h)
noncomputable def qck(z:List X)(y:fc)(j:ub)(d:(List W×ub->Option R)):Option R:=match z,y,j,d with|[],u,a,k=>k ([],a)|x::c,b,a,k=>hK x b a λp=>M (nb p.1) (qck c b p.2 λq=>k (p.1::q.1,q.2)) Y
noncomputable def qcj(z:List X)(y:fc)(j:ub)(d:(List W×ub->Option R)):Option R:=match z,y,j,d with|[],u,a,k=>k ([],a)|x::c,b,a,k=>hK x b a λp=>qcj c b p.2 λq=>k (p.1::q.1,q.2)
end
def K0(e:X)(a:fc)(b:ub)(k:W×ub->Option R):Option R:=hK O e a b λp=>M (nb p.1) (k p) Y
def qbr(e f:List X)(d:fc)(c:ub)(k:W×ub->Option R):Option R:=match e,f with|[],[]=>k (.o (.dic [] []),c)|[a],[b]=>kX O a d c λu=>H (Ua u) λi=>kX O b d c λw=>M (nb w) (k (.o (.dic [i] [w]),c)) Y|y,z=>Y
def GZ(a b:X)(d:fc)(c:ub)(k:W×ub->Option R):Option R:=kX O a d c λw=>M (nb w) (kX O b d c λv=>H (Ua v) λi=>M (!Qh i 0) (M (Qh i 4096) (k (.o (.l (Ia i.toNat w)),c)) Y) Y) Y
def vK(e:X)(f:fc)(d:ub)(k:W×ub->Option R):Option R:=match e with
 |.list b=>GN O b f d λa=>M (Jd 4096 a) (k (.o (.l a),d)) Y|.dict a b=>qbr O a b f d k|.bin g a b=>(match zt g a with|some c=>GZ O c b f d k|none=>K0 O (.bin g a b) f d k)
 |e=>K0 O e f d k
noncomputable def qaP(z:List X)(y:fc)(j:ub)(d:(List W×ub->Option R)):Option R:=match z,y,j,d with|[],u,a,k=>k ([],a)|x::c,b,a,k=>vK O x b a λp=>qaP c b p.2 λq=>k (p.1::q.1,q.2)
def lP(i:Int)(v c:W)(k:W->Option R):Option R:=match c with|.l a=>H (iu a i v) λb=>k (.l b)|.dic a b=>M (Jd 4096 a) (k (.dic (Ql a i) (Sl a i v b))) Y|_=>Y
def nX(j:Nat)(d v:W)(e:fc)(b:ub)(c:W)(k:fc×ub->Option R):Option R:=match c with|.o c=>H (Ua d) λi=>lP i v c λc=>k (e.set j (J (.o c)),b)|.ref i=>H (br d) λs=>H ((b[i]?).bind kO) λa=>M (Jd 4096 a) (H (RJ a s v) λa=>k (e,b.set i ⟨Y,a⟩)) Y|_=>Y
def mP(n:Bb)(d v:W)(a:ub)(i:Nat)(k:ub->Option R):Option R:=H (ii a i n) λb=>H (sK b) λc=>H (Ua d) λx=>lP x v c λc=>k (Fm a i n (.o c))
def H9(o e:X)(v:W)(b:fc)(a:ub)(k:fc×ub->Option R):Option R:=match o with|.x j=>kX O e b a λd=>H (Ke b j) λc=>nX j d v b a c k|.attr o n=>kX O o b a λw=>H (Bm db n a w) λi=>kX O e b a λd=>mP n d v a i λa=>k (b,a)|_=>Y
mutual
noncomputable def pK(z:T)(y:W)(u:fc)(j:ub)(q:(fc×ub->Option R)):Option R:=match z,y,u,j,q with|.x i,v,b,a,k=>M (ac i b.length) (k (b.set i (J v),a)) Y|.t c,v,b,a,k=>H (ng v) λd=>a9 c d b a k|.attr o n,v,b,a,k=>kX O o b a λw=>H (Bk w) λi=>H (Co db n v a i) λa=>k (b,a)|.sub o e,v,b,a,k=>M (nb v) (H9 O o e v b a k) Y
noncomputable def a9(z:List T)(y:List W)(u:fc)(j:ub)(d:(fc×ub->Option R)):Option R:=match z,y,u,j,d with|[],a,b,c,k=>M (wy a) (k (b,c)) Y|t::e,a,b,c,k=>H (Wj a) λp=>pK t p.1 b c λq=>a9 e p.2 q.1 q.2 k
end
def qZ(l:Lm)(v:W)(a:List W)(k:List W->Option R):Option R:=match l with|.append=>M (Jd 4096 a) (k (a++[v])) Y|.extend=>H (vv v) λb=>M (ac (len a+len b) 4096) (k (a++b)) Y|_=>Y
noncomputable def U0(z:List Nat)(y:List W)(u:fc)(j:(fc->Option R)):Option R:=match z,y,u,j with|[],b,a,k=>M (wy b) (k a) Y|i::is,b,a,k=>H (Wj b) λp=>M (ac i a.length) (U0 is p.2 (a.set i (J p.1)) k) Y
def lk(t:CT)(v:W)(a:fc)(k:fc->Option R):Option R:=match t with|.x i=>M (ac i a.length) (k (a.set i (J v))) Y|.t is=>H (ng v) λb=>U0 is b a k
def N5(m:Bb)(o e:X)(a:fc)(c:ub)(k:Fk->Option R):Option R:=match o with|.x j=>H (Ke a j) λb=>H (cs b) λd=>hK O e a c λp=>M (nb p.1) (H (Zt m) λl=>qZ l p.1 d λf=>k (.go (a.set j (J (.o (.l f)))) p.2)) Y|.attr o n=>kX O o a c λw=>H (Bm db n c w) λi=>H (ii c i n) λb=>H (cs b) λd=>kX O e a c λv=>M (nb v) (H (Zt m) λl=>qZ l v d λf=>k (.go a (Fm c i n (.o (.l f))))) Y|_=>Y
def S7(o i e:X)(a:fc)(c:ub)(k:Fk->Option R):Option R:=match o with|.x j=>H (Ke a j) λb=>H (cs b) λd=>kX O i a c λq=>H (Ua q) λi=>kX O e a c λv=>M (nb v) (H (nN i v d) λf=>k (.go (a.set j (J (.o (.l f)))) c)) Y|_=>Y
def P5(t:T)(e:X)(a:fc)(b:ub)(k:Fk->Option R):Option R:=match t with
 |.t c=>(match zF e with|some d=>qaP O d a b λq=>M (Jd 4096 q.1) (a9 O c q.1 a q.2 λp=>k (.go p.1 p.2)) Y|none=>K0 O e a b λq=>pK O (.t c) q.1 a q.2 λp=>k (.go p.1 p.2))
 |t=>vK O e a b λq=>pK O t q.1 a q.2 λp=>k (.go p.1 p.2)
def R5(o:X)(n:Bb)(i:X)(f:He)(e:X)(b:fc)(a:ub)(k:Fk->Option R):Option R:=kX O o b a λw=>H (Bm db n a w) λj=>kX O i b a λd=>vF (.fld j n) d a λc=>kX O e b a λr=>H (Ua c) λx=>H (Ua r) λy=>H (AL f x y) λz=>mP n d (.int z) a j λa=>k (.go b a)
def hN(e:X)(a:fc)(c:ub)(k:Bool×ub->Option R):Option R:=hK O e a c λp=>H (Li p.1) λb=>k (!b,p.2)
def hI(a b:X)(c:fc)(d:ub)(k:Bool×ub->Option R):Option R:=hK O a c d λp=>kX O b c p.2 λv=>H (Ph p.1 v) λr=>k (r,p.2)
def hEx(e:X)(a:fc)(c:ub)(k:Bool×ub->Option R):Option R:=hK O e a c λp=>H (Li p.1) λb=>k (b,p.2)
def hT(t:B)(d:fc)(c:ub)(k:Bool×ub->Option R):Option R:=match t with|.not (.wK e)=>hN O e d c k|.wK (.cmp .IsNot a b)=>hI O a b d c k|.wK (.cmp .Eq (.call f a) b)=>hEx O (.cmp .Eq (.call f a) b) d c k|t=>kT O t d c λb=>k (b,c)
def d9(e:X)(a:fc)(b:ub)(k:Fk->Option R):Option R:=match e with|.x i=>H (Ke a i) λu=>H (M0 u) λw=>k (.ret w b)|e=>K0 O e a b λp=>k (.ret p.1 p.2)
mutual
noncomputable def kS(z:SF)(y:fc)(j:ub)(d:(Fk->Option R)):Option R:=match z,y,j,d with|.q t e,f,g,k=>P5 O t e f g k|.aug o n i a e,f,g,k=>R5 O o n i a e f g k|.expr e,f,g,k=>hK O e f g λp=>H (sG p.1) λu=>k (.go f p.2)|.app o m e,f,g,k=>N5 O m o e f g k|.ins o i e,f,g,k=>S7 O o i e f g k|.ifs t a b,f,g,k=>hT O t f g λq=>M q.1 (Tg a f q.2 k) (Tg b f q.2 k)|.whil t b,f,g,k=>R2 (hT O t) (λf g k=>Tg b f g k) 5000 f g k|.fors t e b,f,g,k=>kX O e f g λw=>Nf w λc=>pB (λv f g k=>lk t v f λa=>Tg b a g k) c f g k|.forz t h b,f,g,k=>GN O h f g λl=>H (fm l) λm=>H (sA m) λo=>H (Bl o) λc=>pB (λv f g k=>lk t v f λa=>Tg b a g k) c f g k|.ret e,f,g,k=>d9 O e f g k|.frz i,f,g,k=>H (Ke f i) λb=>H (sK b) λc=>k (.go (f.set i (J c)) g)|.blk i,f,g,k=>O.cb i f g k
noncomputable def Tg(z:List SF)(y:fc)(u:ub)(j:(Fk->Option R)):Option R:=match z,y,u,j with|[],a,b,k=>k (.go a b)|s::c,a,b,k=>XU (kS s a b) (λa b k=>Tg c a b k) k
end
end
end
section
variable {b:Bool} {xs:List W} {k a:Int} {w:W}
inductive RK{R X V:Type}(P:V->X->Prop)(x:Option V)(k:X->Option R)(r:R):Prop
 |mk (b:V) (a:X):x=J b->P b a->k a=J r->RK P x k r
def Rq{R X V:Type}(P:V->X->Prop)(f:(X->Option R)->Option R)(x:Option V):Prop:=∀k r,f k=J r->RK P x k r
section
variable {R X V T O:Type} {P:V->X->Prop} {Q:O->T->Prop} {f:(X->Option R)->Option R} {x:Option V} {N L:(T->Option R)->Option R} {S z2:Option O}
theorem Rq.bind{g:X->(T->Option R)->Option R}{y:V->Option O}(h:Rq P f x)(c:∀b a,P b a->Rq Q (g a) (y b)):Rq Q (λk=>f λa=>g a k) (x.bind y):=λk r e=>by
 induction h _ r e with|mk b a d p i=>subst d;exact c b a p k r i
theorem Rq.map{g:X->T}{y:V->O}(h:Rq P f x)(c:∀b a,P b a->Q (y b) (g a)):Rq Q (λk=>f λa=>k (g a)) (x.map y):=λk r e=>by
 induction h _ r e with|mk b a d p i=>subst d;exact .mk _ _ rfl (c b a p) i
theorem Rq.imp{Q:V->X->Prop}(h:Rq P f x)(c:∀b a,P b a->Q b a):Rq Q f x:=λk r e=>by
 induction h _ r e with|mk b a d p g=>exact .mk b a d (c b a p) g
theorem Rq.op{o:Option X}{g:X->(T->Option R)->Option R}(h:∀a,o=J a->Rq Q (g a) S):Rq Q (λk=>H o λa=>g a k) S:=λk r e=>by
 induction o with
 |none=>exact ja e|some a=>exact h a rfl k r e
theorem Rq.wW{o:Option X}{g:X->(T->Option R)->Option R}{y:X->Option O}(h:∀a,Rq Q (g a) (y a)):Rq Q (λk=>H o λa=>g a k) (o.bind y):=λk r e=>by
 induction o with
 |none=>exact ja e|some a=>exact h a k r e
theorem Rq.opm{o:Option X}{g:X->T}{y:X->O}(h:∀a,Q (y a) (g a)):Rq (R:=R) Q (λk=>H o λa=>k (g a)) (o.map y):=λk r e=>by
 induction o with
 |none=>exact ja e|some a=>exact .mk _ _ rfl (h a) e
theorem Rq.ret{d:O}{c:T}(h:Q d c):Rq (R:=R) Q (λk=>k c) (J d):=λu u e=>.mk _ _ rfl h e
theorem Rq.no:Rq (R:=R) Q (λu=>Y) S:=λu u e=>ja e
theorem Rq.ifB(h:Rq Q N S)(c:Rq Q L z2):Rq Q (λk=>M b (N k) (L k)) (ln b S z2):=by induction b<;>assumption
theorem Rq.grd(h:b=Z->Rq Q N S):Rq Q (λk=>M b (N k) Y) S:=by
 induction b with
 |true=>exact h rfl|false=>exact Rq.no
end
theorem wg(h:b=Z):Ge b=J ():=by refine U h ?_;rfl
theorem PD{X V:Type}{o:Option X}{f:X->Option V}:H o f=o.bind f:=by induction o<;>rfl
theorem Qe{X:Type}:∀xs:List X,len xs=xs.length:=by
 intro xs
 induction xs with
 |nil=>
  exact rfl
 |cons d xs c=>
  exact Gc nc (c)
theorem Tz(xs:List W)(n:Nat):qef xs n=xs[n]?:=match xs,n with|[],u=>rfl|u::y,0=>rfl|u::xs,n+1=>Tz xs n
theorem wm{X:Type}{x y:X}:M b x y=if b then x else y:=by induction b<;>rfl
theorem yH:∀{k:Int}{n:Nat},L0 xs k=J n->Ol xs.length k=J n:=by
 intro k n h
 induction k using Int.casesOn with
 |ofNat m=>
  obtain rfl:=ba h;exact Dd (wf m)
 |negSucc m=>
  replace h:M (ac m (len xs)) (J (qfr (len xs) (nc m))) Y=J n:=h;rw[wm,Qe]at h
  split at h
  ·rename_i c
   have c:=ud.mp c;unfold Ol;exact U (fe λz=>nomatch z) (U (Dd (show -(xs.length:Int)<=Int.negSucc m from Int.neg_le_neg (n5.mpr c))) (Gc J ((Gc Int.toNat (Int.subNatNat_of_le c)).trans (ba h))))
  ·exact ja h
theorem hZ(h:Kg xs k=J w):qE xs k=J w:=by
 unfold Kg at h;rw[PD]at h;refine Wg h λn c d=>?_;unfold qE;refine U (yH c) (Ed d (U (Tz _ _) ?_));rfl
theorem B2:∀{xs:List W}{n:Nat}{w:W}{c:List W},O9 xs w n=J c->n<xs.length/\c=xs.set n w:=by
 intro xs
 induction xs with
 |nil=>exactλh=>ja h|cons x xs d=>
  intro n w c h
  induction n using Sa with
  |zero=>exact⟨Lu _,(ba h).symm⟩|succ n=>
   replace h:H (O9 xs w n) (λr=>J (x::r))=J c:=h;rw[PD]at h;refine aa λe=>(Wg h λr g i=>?_);obtain⟨l,rfl⟩:=d g;exact e (⟨KR l,(ba i).symm⟩)
theorem BV{c:List W}(h:iu xs k w=J c):((Ol xs.length k).bind λi=>(V0 xs w i).map W.l)=J (.l c):=by
 unfold iu at h;rw[PD]at h;refine aa λd=>(Wg h λn e g=>?_);obtain⟨l,rfl⟩:=B2 g;refine d (U (yH e) ?_);show((if n<xs.length then J (xs.set n w)else Y).map W.l)=_
 refine U (Dd l) ?_;rfl
theorem Pg(a b:Int):Qh a b=decide (a<b):=by
 refine U (propext Gh) (U (propext decide_eq_true_iff) ?_)
 induction a with
 |ofNat a=>induction b with|ofNat b=>exact(iff_of_eq ud).trans oi.symm|negSucc b=>exact⟨λh=>zc h ia,λh=>zc (Int.lt_trans h (CK b)) (Wi.mpr (wf a))⟩
 |negSucc a=>induction b with|ofNat b=>exact⟨λu=>zr (CK a) (wf b),λu=>rfl⟩|negSucc b=>exact(iff_of_eq ud).trans ⟨λh=>Int.neg_lt_neg (oi.mpr (KR h)),λh=>Fg (oi.mp (Int.lt_of_neg_lt_neg h))⟩
theorem vp(a b:Int):Rp a b=decide (a=b):=by
 refine U (propext Gh) (U (propext decide_eq_true_iff) ?_)
 induction a with
 |ofNat a=>induction b with|ofNat b=>exact(iff_of_eq qbb).trans Int.ofNat_inj.symm|negSucc b=>exact⟨λh=>zc h ia,λh=>nomatch h⟩
 |negSucc a=>induction b with|ofNat b=>exact⟨λh=>zc h ia,λh=>nomatch h⟩|negSucc b=>exact(iff_of_eq qbb).trans Int.negSucc_inj.symm
theorem XT(x:Int):∀c:List Int,Vk x c=decide (x∈c):=by
 intro c
 induction c with
 |nil=>
  exact rfl
 |cons k c d=>
  show M (Rp k x) Z (Vk x c)=_
  refine U wm (U (vp _ _) (U d ?_));by_cases h:k=x
  ·exact U h (U (decide_eq_true rfl) ((decide_eq_true sa).symm))
  ·exact U (decide_eq_false h) (decide_eq_decide.mpr ⟨oa _,λz=>(fb.mp z).resolve_left λe=>h e.symm⟩)
theorem IB(c:List Int)(x:Int)(d:List W):HB c x d=By c d x:=match c,x,d with
 |[],u,y=>rfl|u::y,z,[]=>rfl|k::c,x,v::d=>by
  show M (Rp k x) (J v) (HB c x d)=if k=x then J v else By c d x
  refine U wm (U (vp _ _) (U (IB c x d) ?_));simp only[decide_eq_true_eq]
theorem nP:∀(c:List Int)(x:Int),Ql c x=PJ c x:=by
 intro c
 induction c with
 |nil=>
  rintro _;exact rfl
 |cons k c d=>
  rintro x;show M (Rp k x) (k::c) (k::Ql c x)=if k=x then k::c else k::PJ c x
  refine U wm (U (vp _ _) (U (d x) ?_));simp only[decide_eq_true_eq]
theorem rC(d:List Int)(x:Int)(w:W)(c:List W):Sl d x w c=NJ d c x w:=match d,x,w,c with
 |[],u,y,z=>rfl|u::y,z,j,[]=>rfl|k::d,x,w,v::c=>by
  show M (Rp k x) (w::c) (v::Sl d x w c)=if k=x then w::c else v::NJ d c x w
  refine U wm (U (vp _ _) (U (rC d x w c) ?_));simp only[decide_eq_true_eq]
theorem Yz:∀(n:Nat)(a:Int),uw n a=(Ka n).map λ(i:Nat)=>W.int (a+(i:Int)):=by
 intro n
 induction n with
 |zero=>
  rintro _;exact rfl
 |succ n c=>
  rintro a;show W.int a::uw n (a+1)=_
  exact U (c (a+1)) (U tD (U Vb (U Qd (congr (Gc _ (Gc W.int (j5 a).symm)) (fg λ(i:Nat) u=>Gc W.int (show a+1+(i:Int)=a+((i+1:Nat):Int) by lia))))))
theorem UY{c:Bool}(h:M b c ua=Z):b=Z/\c=Z:=by
 induction b with
 |true=>exact⟨rfl,h⟩|false=>exact zc h ia
theorem Iz{b:Int}(h:Qh a b=Z):a<b:=Nl ((Pg a b).symm.trans h)
theorem eA{b:Int}(h:CD a b=Z):Wo a b=Z:=
 have c:=UY h;have d:=UY c.2;have e:=UY d.2
 decide_eq_true ⟨Iz c.1,Iz d.1,Iz e.1,Iz e.2⟩
theorem Rn{X:Type}{n:Nat}{xs:List X}(h:Jd n xs=Z):ac xs.length n=Z:=by unfold Jd at h;rw[Qe]at h;exact h
theorem Fq{R:Type}:Rq (R:=R) Eq (Nf w) (zy w):=λk r e=>by
 induction w using W.casesOn<;>first|exact ja e|skip
 ·skip
  replace e:M (CD a b) (k (uw (b - a).toNat a)) Y=J r:=e
  induction h:CD a b with
  |false=>rw[h]at e;exact ja e|true=>
   rw[h]at e;refine .mk _ _ ?_ rfl e;have hs:=Nl (eA h);show(((Ge (Wo a b)).map λu=>sP a b).bind Bl)=_
   refine U (wg (eA h)) ?_;show((Ge (ac (sP a b).length 4900)).map λu=>sP a b)=_
   refine U (show uw (b - a).toNat a=sP a b from Yz _ _) (U (wg (ud.mpr (by
    show((Ka (b - a).toNat).map _).length<4900
    rw[ya,Ab];lia))) ?_);rfl
 all_goals
  replace e:M (Jd 4900 xs) (k xs) Y=J r:=e;refine aa λnq=>?_
  induction h:Jd 4900 xs with
  |false=>refine nq ?_;rw[h]at e;exact ja e|true=>
   refine nq ?_;rw[h]at e;refine .mk _ _ ?_ rfl e;show Bl xs=_
   unfold Bl;refine U (wg (Rn h)) ?_;rfl
theorem sN{x:W}{i:Int}(h:Ua x=J i):W.int i=x:=by induction x using W.casesOn<;>first|exact ja h|exact Gc W.int (ba h).symm
theorem aG{X V:Type}{o:Option X}{f:X->Option V}{b:V}(h:H o f=J b):∃a,o=J a/\f a=J b:=by
 induction o with
 |none=>exact ja h|some a=>exact⟨a,rfl,h⟩
theorem Ez:{is:List Int}->Jv xs=J is->xs=is.map W.int:=by
 induction xs with
 |nil=>exactλh=>ba h▸rfl|cons x xs e=>
  intro is h;refine(aG (show H (Ua x) (λi=>H (Jv xs) λr=>J (i::r))=J is from h)).elim λi c=>(aG c.2).elim λr d=>?_;refine Ed (ba d.2) (Ed (sN c.1) (U (e d.1) ?_));rfl
theorem sz{x y:Int}:Yc (.int x) (.int y)=Rp x y:=by
 refine U (vp _ _) ?_
 rfl
end
section
variable {T:Type} {r:Bool} {S:Bi}
variable {R:Type} {u v w a b:W} {X:ub} {V:List W}
abbrev Rx(X:ub)(f:(T->Option R)->Option R)(x:Option (T×ub)):Prop:=Rq (λp w=>p=(w,X)) f x
theorem W7{c:List W}:Rq (R:=R) Eq (λk=>H (Ua v) λi=>H (Kg c i) k) ((Ua v).bind (qE c)):=Rq.wW λi=>Rq.op λu e u u d=>.mk _ _ (hZ e) rfl d
theorem jA:Rq (R:=R) Eq (vF u v X) (nV u v X):=Rq.wW λc=>by
 induction c using W.casesOn<;>first|exact Rq.no|exact W7|skip
 ·exact Rq.wW λi=>Rq.op λy e y y e2=>.mk _ _ ((IB _ _ _).symm.trans e) rfl e2
 ·exact Rq.wW λs=>Rq.op λy e y y e2=>.mk _ _ e rfl e2
theorem oH{o:Option T}{f:T->W}:Rx (R:=R) X (λk=>H o λz=>k (f z)) (o.map λz=>(f z,X)):=Rq.opm λu=>rfl
theorem TG(c:List T):jb (len c)=(c.length:Int):=Gc jb (Qe c)
theorem HT:Rq (R:=R) (λi w=>w=W.int i) (ON w X) (mZ w X):=by
 have h:Rq (R:=R) (λi w=>w=W.int i) (λk=>H (pj w X) λc=>H (Hl c) λd=>k (.int (jb (len d)))) ((Pe w X).map λd=>(d.length:Int)):=by
  exact U Tc (Rq.wW λc=>Rq.opm λd=>Gc W.int (TG d))
 induction w using W.casesOn<;>first|exact h|exact Rq.ret (Gc W.int (TG _))|exact Rq.ret rfl
theorem Sn{c:List T}{x:W}{f:List T->W}:Rx (R:=R) X (λk=>M (Jd 4096 c) (k (f c)) Y) ((Ge (Td c.length)).map λu=>(f c,X)):=Rq.grd λh=>by
 unfold Td;refine U (wg (Rn h)) ?_;exact Rq.ret rfl
theorem RR:Rx (R:=R) X (rL a b X) (ZX a b X):=by
 have h:Rx (R:=R) X (λk=>H (Pe a X) λd=>H (Pe b X) λc=>M (Jd 4096 (d++c)) (k (.l (d++c))) Y) ((Pe a X).bind λd=>(Pe b X).bind λc=>So (d++c) X):=Rq.wW λd=>Rq.wW λc=>Sn (x:=.none)
 induction a using W.casesOn<;>first|exact h|exact oH|exact Rq.wW λc=>Sn (x:=.none)
theorem ZF{c:He}:Rx (R:=R) X (lY c a b X) (mY c a b X):=by
 induction c<;>first|exact Rq.no|exact RR|exact(λf=>Rq.wW λx=>Rq.wW λy=>oH:∀f:Int->Int->Option Int,Rx (R:=R) X (λk=>H (Ua a) λx=>H (Ua b) λy=>H (f x y) λz=>k (.int z)) (P4 f a b X)) _|exact Rq.wW λx=>Rq.wW λy=>Rq.ret rfl
theorem IY(h:rk a b=J r):l4 a b=J r:=by
 induction a using W.casesOn<;>first|exact h|skip
 induction b using W.casesOn<;>first|exact h|exact(Gc J sz).trans h
theorem fy:∀is:List Int,Oe (Zd 5) (is.map W.int)=J (is.map rg):=by
 intro is
 induction is with
 |nil=>
  exact rfl
 |cons i is c=>
  show(Oe (Zd 5) (is.map W.int)).map _=_
  refine U c ?_;rfl
theorem YR(x:Int):∀is:List Int,((is.map rg).any λd=>Yc d (.int x))=Vk x is:=by
 intro is
 induction is with
 |nil=>
  exact rfl
 |cons i is c=>
  show(Yc (.int i) (.int x)||(is.map rg).any _)=M (Rp i x) Z (Vk x is)
  refine U sz (U c ?_)
  induction Rp i x<;>rfl
theorem iN{c:W}(h:AA a c=J r):NW a c=J r:=by
 induction c using W.casesOn<;>first|exact h|skip
 ·skip
  induction a using W.casesOn<;>first|exact h|skip
  rename Int=>x
  induction e:Jv xs with
  |none=>exact(by rw[show AA (.int x) (.l xs)=match Jv xs with|some is=>J (Vk x is)|none=>NW (.int x) (.l xs)from rfl,e]at h;exact h)|some is=>
   rw[show AA (.int x) (.l xs)=match Jv xs with|some is=>J (Vk x is)|none=>NW (.int x) (.l xs)from rfl,e]at h;show(Oe (Zd 5) xs).map _=_
   exact U (Ez e) (U (fy _) ((Gc J (YR x is)).trans h))
 ·skip
  induction a using W.casesOn<;>first|exact ja h|skip
  rename Int=>x
  exact(Gc J (XT x ks).symm).trans h
theorem pu{f:Int->Int->Bool}{g:Int->Int->Bool}(h:∀x y,f x y=g x y):Rq (R:=R) Eq (λk=>YL a b λx y=>k (g x y)) (tE f a b):=Rq.wW λx=>Rq.opm λy=>h x y
theorem qu{d:xr}:Rq (R:=R) Eq (ZL d a b X) (aM d a b X):=by
 have g:∀(Q:Bool->Bool->Prop)(f:Bool->Bool),(∀b,Q (f b) (f b))->Rq (R:=R) Q (λk=>H (rk a b) λb=>k (f b)) ((l4 a b).map f):=λQ f h=>Rq.op λr e=>by refine U (IY e) ?_;exact Rq.ret (h r)
 induction d
 ·have:=g Eq id λu=>rfl
  rw[Option.map_id]at this;exact this
 ·exact g Eq (λx=> !x) λu=>rfl
 ·exact pu λx y=>(Pg x y).symm
 ·exact pu λx y=>by refine U (Pg _ _) (Ed decide_not ?_);exact decide_eq_decide.mpr Wi.symm
 ·exact pu λx y=>(Pg y x).symm
 ·exact pu λx y=>by refine U (Pg _ _) (Ed decide_not ?_);exact decide_eq_decide.mpr Wi.symm
 ·exact Rq.op λr e=>by show Rq _ _ (qax a b);refine U e ?_;exact Rq.ret rfl
 ·exact Rq.op λr e=>by show Rq _ _ (Ph a b);refine U e ?_;exact Rq.ret rfl
 ·exact Rq.wW λc=>Rq.op λr e=>by refine U (iN e) ?_;exact Rq.ret rfl
 ·refine Rq.wW λx=>(U Tc (Rq.wW λc=>Rq.op λr e=>?_))
  show Rq _ _ ((NW (.int x) c).map _)
  exact U (iN e) (Rq.ret rfl)
theorem RA{p:W×ub}(h:b4 S V X=J p):p.2=X:=by
 induction S<;>first
  |(refine Ds (show Op _ _=J p from h) λy y z=>?_;subst z;rfl)|(refine Wg (show Option.bind _ _=J p from h) λz z h=>?_;refine Ds (show Op _ _=J p from h) λy y z=>?_;subst z;rfl)
theorem lE{o:Option (W×ub)}(h:∀p,o=J p->p.2=X):Rx (R:=R) X (λk=>H (o.map oj) k) o:=Rq.op λw e=>by
 refine Ds e λp z y=>?_;subst z;subst y;exact Rq.ret (Gc (Prod.mk p.1) (h p rfl))
theorem SN{n:Bb}:Rx (R:=R) X (λk=>H (G4 u n V X) k) (qaA u n V X):=lE λp h=>by
 refine Wg h λz z h=>(Wg h λz z h=>?_);refine Ds h λy y z=>?_;subst z
 rfl
theorem qaQ{o:Option W}:Rx (R:=R) X (λk=>H o k) (zx X o):=Rq.opm (g:=λa=>a) λu=>rfl
theorem AN{f:Int->Int->Int}:Rx (R:=R) X (λk=>H (two V) λp=>H (Ua p.1) λx=>H (Ua p.2) λy=>k (.int (f x y))) (zx X ((two V).bind (qaz f))):=by
 show Rq _ _ (((two V).bind _).map _)
 refine U Tc (Rq.wW λp=>?_);show Rq _ _ ((((Ua p.1).bind _).map _).map _)
 refine U (pf _ _ _) (U Tc (Rq.wW λx=>?_));show Rq _ _ (((Ua p.2).map _).map _)
 exact U (pf _ _ _) oH
theorem BL:Rx (R:=R) X (qar S V X) (b4 S V X):=by
 induction S
 ·show Rq _ _ ((((one V).bind _).map _).map _)
  refine U (pf _ _ _) (U Tc ?_);exact Rq.wW λw=>HT.map λi w h=>by refine U h ?_;rfl
 ·exact AN
 ·exact AN
 ·exact lE λp h=>RA h
 ·show Rq _ _ ((((one V).bind _).bind UC).bind _)
  exact U (Va _ _ _) (U (Va _ _ _) (Rq.wW λw=>(Rq.wW λc=>Rq.wW λd=>Sn (x:=.none))))
 ·show Rq _ (qar .range V X) ((O0 V).map _)
  match V with
  |[]=>exact Rq.no|[b]=>
   refine U Tc (Rq.wW λy=>Rq.grd λh=>?_);show Rq _ _ ((((Ge (Wo 0 y)).map _).map _))
   exact U (wg (eA h)) (Rq.ret rfl)
  |[a,b]=>
   refine U Tc (Rq.wW λx=>?_);show Rq _ _ (((Ua b).bind _).map _)
   refine U Tc (Rq.wW λy=>Rq.grd λh=>?_);show Rq _ _ ((((Ge (Wo x y)).map _).map _))
   exact U (wg (eA h)) (Rq.ret rfl)
  |u::z::j::q=>exact Rq.no
 ·show Rq _ _ (((one V).bind λw=>du w X).bind _)
  exact U (Va _ _ _) (Rq.wW λw=>Rq.wW λd=>Sn (x:=.none))
 ·show Rq _ _ (((one V).bind ng).bind _)
  exact U (Va _ _ _) (Rq.wW λw=>Rq.wW λd=>Sn (x:=.none))
 ·exact lE λp h=>RA h
end
section
variable {w:W} {Q:List W}
structure zh(O:Or)(cf:Yp)(cb:Nat->fc->ub->al):Prop where
 ro:∀{R:Type} a Q T,Rq (R:=R) (λp w=>p=(w,T)) (O.ro a Q T) (cf a Q T)
 cf:∀{R:Type} a Q T,Rq (R:=R) Eq (O.cf a Q T) (cf a Q T)
 cb:∀{R:Type} i V T,Rq (R:=R) (λp f=>i8 p=f) (O.cb i V T) (cb i V T)
variable {R:Type} {O:Or} {L:Nat->Option (List Int)} {cf:Yp} {cb:Nat->fc->ub->al} {T:ub} {V:fc} {S P N:Type}
theorem Rx.bind{c:P->N->Prop}{f:(S->Option R)->Option R}{x:Option (S×ub)}{g:S->(N->Option R)->Option R}{y:S×ub->Option P}(h:Rx T f x)(d:∀a,Rq c (g a) (y (a,T))):Rq c (λk=>f λa=>g a k) (x.bind y):=Rq.bind h λb a e=>by refine U e ?_;exact d a
theorem Rx.map{c:P->N->Prop}{f:(S->Option R)->Option R}{x:Option (S×ub)}{g:S->N}{y:S×ub->P}(h:Rx T f x)(d:∀a,c (y (a,T)) (g a)):Rq c (λk=>f λa=>k (g a)) (x.map y):=Rq.map h λb a e=>by refine U e ?_;exact d a
theorem Rx.opv{o:Option S}:Rx (R:=R) T (λk=>H o k) (o.map λv=>(v,T)):=Rq.opm (g:=λa=>a) λu=>rfl
abbrev Re{S:Type}(f:(S->Option R)->Option R)(x:Option S):Prop:=Rq Eq f x
theorem Re.bind{c:P->N->Prop}{f:(S->Option R)->Option R}{x:Option S}{g:S->(N->Option R)->Option R}{y:S->Option P}(h:Re f x)(d:∀a,Rq c (g a) (y a)):Rq c (λk=>f λa=>g a k) (x.bind y):=Rq.bind h λb a e=>by refine U e ?_;exact d a
theorem aN{S:Type}{b:Bool}{f:(S->Option R)->Option R}{x y:Option S}(h:Re f x):Re (λk=>M b (f k) Y) (if b=Z then x else y):=Rq.grd λe=>by refine U (Dd e) ?_;exact h
theorem PC(is:List Nat)(a:List W)(V:fc):Re (R:=R) (QP is a V) (Ul is a V):=match is,a,V with|[],[],u=>Rq.ret rfl|[],u::y,z=>Rq.no|u::y,[],z=>Rq.no|i::is,x::a,V=>aN (PC is a (V.set i (J x)))
theorem Jr:∀{t:CT}{v:W}{V:fc},Re (R:=R) (jm t v V) (Xu t v V)
 |.x i,v,V=>aN (Rq.ret rfl)|.t is,v,V=>Rq.wW λa=>PC is a V
theorem gv{g:W->(List W->Option R)->Option R}{f:W->ub->kR}(h:∀v,Rx T (g v) (f v T))(c:_):Rx T (ze g c) (Yr f c T):=match c with|[]=>Rq.ret rfl|x::c=>(h x).bind λa=>(gv h c).map λb=>rfl
theorem En(h:nb w=Z):kf w=J w:=by unfold kf;refine U (wg h) ?_;rfl
theorem K4{a:P->N->Prop}{f:(N->Option R)->Option R}{y:W->Option P}(h:Rq a f (y w)):Rq a (λk=>M (nb w) (f k) Y) ((kf w).bind y):=Rq.grd λe=>by refine U (En e) ?_;exact h
theorem qee{c:N}{a:P->N->Prop}{y:W->P}(h:a (y w) c):Rq (R:=R) a (λk=>M (nb w) (k c) Y) ((kf w).map y):=Rq.grd λe=>by refine U (En e) ?_;exact Rq.ret h
theorem qeX{a:P->W->Prop}{y:W->P}(h:a (y w) w):Rq (R:=R) a (λk=>M (nb w) (k w) Y) ((kf w).map y):=qee h
theorem KL(C:zh O cf cb){g:W}:Rx (R:=R) T (uW O g Q T) (dG db cf Q T g):=by
 induction g using W.casesOn<;>first|exact Rq.no|skip
 rename wa=>c
 induction c<;>first|exact Rq.no|exact Rq.wW λb=>BL|skip
 refine Rq.grd λh=>?_;show Rq _ _ ((Tr Q).bind _)
 unfold Tr;refine U (wg h) ?_
 induction db.init a with
 |some g=>exact Rq.no|none=>exact C.ro _ _ _
theorem AY(C:zh O cf cb){c:ED}{n:Bb}:Rx (R:=R) T (qdI O c n Q T) (qbs cf c n Q T):=by
 induction c with
 |fn f i=>exact C.ro _ _ _|lm o=>exact SN
variable (C:zh O cf cb)
include C
mutual
theorem Wc(e:X)(V:fc):Rx (R:=R) T (kX O e V T) (fX db L cf e V T):=match e,V with
 |.x i,V=>Rx.opv|.k v,V=>Rq.ret rfl|.none,V=>Rq.ret rfl|.bool b,V=>Rq.ret rfl|.int i,V=>Rq.ret rfl|.str s,V=>Rq.ret rfl|.attr o n,V=>(Wc o V).bind λw=>by
  exact U Tc (Rq.wW λi=>Rx.opv)
 |.sub o i,V=>(Wc o V).bind λu=>(Wc i V).bind λv=>jA.map λy y e=>by exact U e rfl|.cut o k,V=>Rq.no|.bin c a b,V=>(Wc a V).bind λu=>(Wc b V).bind λv=>ZF|.neg a,V=>(Wc a V).bind λw=>oH|.cmp c a b,V=>(Wc a V).bind λu=>(Wc b V).bind λv=>qu.map λy y e=>by exact U e rfl|.cmp2 d f a b c,V=>(Wc a V).bind λu=>(Wc b V).bind λv=>qu.bind λr y e=>by
  subst e;exact Rq.ifB ((Wc c V).bind λx=>qu.map λy y e=>by exact U e rfl) (Rq.ret rfl)
 |.ite t a b,V=>(ut t V).bind λr=>Rq.ifB (Wc a V) (Wc b V)|.t a,V=>(Kn a V).bind λQ=>Sn (x:=.none)|.list a,V=>(Kn a V).bind λQ=>Sn (x:=.none)|.dict z j,V=>Rq.no|.comp n b h f rest g,V=>(Wc b V).bind λw=>Fq.bind λa y e=>by
  subst e;exact(gv (λv=>Jr.bind λd=>(Hz f d).bind λr=>Rq.ifB (zB rest (λV=>(Wc g V).bind λw=>qeX rfl) d) (Rq.ret rfl)) a).bind λd=>Sn (x:=.none)
 |.call f a,V=>(Wc f V).bind λg=>(FN a V).bind λQ=>KL C|.meth o n a,V=>(Wc o V).bind λw=>Rq.wW λc=>(Kn a V).bind λQ=>AY C|.sup z j q,V=>Rq.no
theorem Kn(e:List X)(V:fc):Rx (R:=R) T (GN O e V T) (xG db L cf e V T):=match e,V with|[],V=>Rq.ret rfl|x::a,V=>(Wc x V).bind λw=>K4 ((Kn a V).map λQ=>rfl)
theorem FN(e:List X)(V:fc):Rx (R:=R) T (qcq O e V T) (w7 db L cf e V T):=match e,V with|[],V=>Rq.ret rfl|x::a,V=>(Wc x V).bind λw=>(FN a V).map λQ=>rfl
theorem ut(e:B)(V:fc):Rx (R:=R) T (kT O e V T) (fT db L cf e V T):=match e,V with|.and a b,V=>(ut a V).bind λr=>Rq.ifB (ut b V) (Rq.ret rfl)|.or a b,V=>(ut a V).bind λr=>Rq.ifB (Rq.ret rfl) (ut b V)|.not a,V=>(ut a V).map λr=>rfl|.wK x,V=>(Wc x V).bind λw=>Rx.opv
theorem Hz(e:List B)(V:fc):Rx (R:=R) T (AT O e V T) (DM db L cf e V T):=match e,V with|[],V=>Rq.ret rfl|t::a,V=>(ut t V).bind λr=>Rq.ifB (Hz a V) (Rq.ret rfl)
theorem zB:∀(e:List G){E:fc->(W->Option R)->Option R}{d:fc->ub->io},(∀V,Rx T (E V) (d V T))->∀V:fc,Rx (R:=R) T (EN O e E V T) (vG db L cf e d V T)
 |[],y,z,hEx=>λV=>(hEx V).map λw=>rfl|.mk a f c::g,y,z,hEx=>λV=>(Wc a V).bind λw=>Fq.bind λh u e=>by
  subst e;exact gv (λv=>Jr.bind λb=>(Hz c b).bind λr=>Rq.ifB (zB g hEx b) (Rq.ret rfl)) h
end
end
section
variable {R:Type} {O:Or} {sc:Nat->Option (List Int)} {Q:Yp} {N:Nat->fc->ub->al} {S:ub} {V:fc} {P L K:Type} {w v c:W} {n:Bb} {i j:Nat}
abbrev Rs(f:(Fk->Option R)->Option R)(x:al):Prop:=Rq (λp f=>i8 p=f) f x
theorem Re.map{d:L->K->Prop}{f:(P->Option R)->Option R}{x:Option P}{g:P->K}{y:P->L}(h:Re f x)(l:∀a,d (y a) (g a)):Rq d (λk=>f λa=>k (g a)) (x.map y):=Rq.map h λb a e=>by refine U e ?_;exact l a
theorem jC{x:Int}:Re (R:=R) (lP x v c) (kP x v c):=by
 induction c using W.casesOn<;>first|exact Rq.no|skip
 ·exact Rq.op λys e=>by refine U (show kP x v (.l _)=_ from BV e) ?_;exact Rq.ret rfl
 ·refine Rq.grd λh=>?_
  show Rq _ _ ((Ge (Td _)).map _)
  unfold Td;refine U (wg (Rn h)) (U (nP _ _) (U (rC _ _ _ _) ?_));exact Rq.ret rfl
theorem oP{iv:W}:Re (R:=R) (nX j iv v V S c) (Wz j iv v V S c):=by
 induction c using W.casesOn<;>first|exact Rq.no|skip
 ·exact Rq.wW λs=>Rq.wW λfs=>Rq.grd λh=>by
   show Rq _ _ ((Ge (Td _)).bind _)
   unfold Td;refine U (wg (Rn h)) ?_;exact Rq.opm λu=>rfl
 ·exact Rq.wW λx=>jC.map λu=>rfl
theorem pC{a:W}:Re (R:=R) (mP n a v S i) (dw n a v S i):=by
 show Rq _ _ (((ii S i n).bind sK).bind _)
 exact U (Va _ _ _) (Rq.wW λb=>Rq.wW λc=>Rq.wW λx=>jC.map λu=>rfl)
theorem VG{l:Lm}{xs:List W}:Re (R:=R) (qZ l v xs) (pZ l v xs):=by
 induction l<;>first|exact Rq.no|skip
 ·refine Rq.grd λh=>?_
  show Rq _ _ ((Ge (Td _)).map _)
  unfold Td;refine U (wg (Rn h)) ?_;exact Rq.ret rfl
 ·refine Rq.wW λys=>Rq.grd λh=>?_
  rw[Qe,Qe]at h;show Rq _ _ ((Ge (Td _)).map _)
  unfold Td;refine U (wg h) ?_;exact Rq.ret rfl
theorem qaK{a b:List W}{x:W}(h:Wj a=J (x,b)):a=x::b:=by
 induction a using ma with
 |nil=>exact ja h|cons=>obtain⟨rfl,rfl⟩:=Ta (ba h);rfl
theorem bN{P:Type}{n m:Nat}{f:(P->Option R)->Option R}{x y:Option P}(h:Re f x):Re (λk=>M (ac n m) (f k) Y) (if n<m then x else y):=Rq.grd λe=>by refine U (Dd (ud.mp e)) ?_;exact h
theorem bI(is:List Nat)(a:List W)(V:fc):Re (R:=R) (U0 is a V) (Em is a V):=match is,a,V with|[],[],u=>Rq.ret rfl|[],u::y,z=>Rq.no|u::y,[],z=>Rq.no|i::is,x::a,V=>bN (bI is a (V.set i (J x)))
theorem UA:∀{t:CT}{v:W}{V:fc},Re (R:=R) (lk t v V) (Lx t v V)
 |.x i,v,V=>bN (Rq.ret rfl)|.t is,v,V=>Rq.wW λa=>bI is a V
theorem cA{f:(Fk->Option R)->Option R}{x:al}{g:fc->ub->(Fk->Option R)->Option R}{y:fc->ub->al}(h:Rs f x)(m:∀V S,Rs (g V S) (y V S)):Rs (XU f g) (x.bind (Iw y)):=λk r e=>by
 induction h _ r e with|mk p a o q l=>
  subst o;subst q;obtain⟨s,b,d⟩:=p
  induction s with
  |next=>exact m b d k r l|ret w=>exact .mk (.ret w,b,d) _ rfl rfl l
theorem Cv{g:W->fc->ub->(Fk->Option R)->Option R}{f:W->fc->ub->al}(h:∀v V S,Rs (g v V S) (f v V S))(a V S:_):Rs (pB g a V S) (Ov f a V S):=match a,V,S with|[],u,y=>Rq.ret rfl|x::a,V,S=>cA (h x V S) (Cv h a)
theorem SQ{t:fc->ub->(Bool×ub->Option R)->Option R}{d:fc->ub->C3}{g:fc->ub->(Fk->Option R)->Option R}{f:fc->ub->al}(m:∀V S,Re (t V S) (d V S))(h:∀V S,Rs (g V S) (f V S))(n V S:_):Rs (R2 t g n V S) (Pv d f n V S):=match n,V,S with
 |0,u,y=>Rq.no|n+1,V,S=>λk r e=>by
  induction m V S _ r e with|mk p a s q o=>
   refine aa λu=>?_;subst q;obtain⟨b,l⟩:=p;refine u ?_;show RK _ ((d V S).bind _) k r
   refine U s ?_
   induction b with
   |false=>exact .mk _ _ rfl rfl o|true=>exact cA (h V l) (SQ m h n) k r o
theorem Rx.e{f:(P->Option R)->Option R}{x:Option (P×ub)}(h:Rx S f x):Re (λk=>f λw=>k (w,S)) x:=λk r e=>by
 induction h _ r e with|mk b a d q g=>exact .mk _ _ d q g
theorem qaC{op:He}{a c:X}(h:zt op a=J c):op=.Mult/\a=.list [c]:=by
 induction a using X.casesOn<;>first|exact ja h|skip
 match xs,h with
 |[x],h=>induction op<;>first|exact ja h|exact⟨rfl,by obtain rfl:=ba h;rfl⟩
 |[],h=>exact ja h|u::y::z,h=>exact ja h
theorem YA{g:W->ub->(List W×ub->Option R)->Option R}{f:W->ub->kR}(h:∀v S,Re (g v S) (f v S))(a S:_):Re (nt g a S) (Yr f a S):=match a,S with|[],S=>Rq.ret rfl|x::a,S=>(h x S).bind λp=>(YA h a p.2).map λq=>rfl
theorem pX{a:List W}{c:W×ub}:Re (R:=R) (λk=>M (Jd 4096 a) (k c) Y) ((Ge (Td a.length)).map λu=>c):=Rq.grd λh=>by unfold Td;refine U (wg (Rn h)) ?_;exact Rq.ret rfl
variable (C:zh O Q N)
include C
theorem ML{g:W}{ws:List W}:Re (R:=R) (LL O g ws S) (dG db Q ws S g):=by
 induction g using W.casesOn<;>first|exact Rq.no|skip
 rename wa=>c
 induction c<;>first|exact Rq.no|exact Rq.wW λb=>Rx.e BL|skip
 refine Rq.grd λh=>?_;show Rq _ _ ((Tr ws).bind _)
 unfold Tr;refine U (wg h) ?_
 induction db.init a with
 |some g=>exact Re.bind (C.cf _ _ _) λp=>Rq.op λq e=>e.symm▸Rq.ret rfl|none=>exact C.cf _ _ _
mutual
theorem Mj(e:X)(V:fc)(S:ub):Re (R:=R) (hK O e V S) (fX db sc Q e V S):=match e,V,S with
 |.x i,V,S=>(Wc C (.x i) V).e|.k v,V,S=>(Wc C (.k v) V).e|.none,V,S=>(Wc C .none V).e|.bool b,V,S=>(Wc C (.bool b) V).e|.int b,V,S=>(Wc C (.int b) V).e|.str b,V,S=>(Wc C (.str b) V).e|.attr o n,V,S=>(Wc C (.attr o n) V).e|.sub o i,V,S=>(Mj o V S).bind λp=>(Mj i V p.2).bind λq=>Re.map jA λw=>rfl|.cut o n,V,S=>Rq.no|.bin d a b,V,S=>(Mj a V S).bind λp=>(Mj b V p.2).bind λq=>Rx.e ZF|.neg a,V,S=>(Wc C (.neg a) V).e|.cmp d a b,V,S=>(Mj a V S).bind λp=>(Mj b V p.2).bind λq=>Re.map qu λw=>rfl|.cmp2 d f a b c,V,S=>(Wc C (.cmp2 d f a b c) V).e|.ite t a b,V,S=>(Wc C (.ite t a b) V).e|.t h,V,S=>(dN h V S).bind λq=>pX|.list h,V,S=>(Wc C (.list h) V).e|.dict u y,V,S=>Rq.no|.comp n d l f rest a,V,S=>λk r e=>by
  induction m:bU a&&f.isEmpty&&rest.isEmpty with
  |false=>
   exact Rx.e (Wc C (.comp n d l f rest a) V) k r (by refine Ed e ?_;show _=M (bU a&&f.isEmpty&&rest.isEmpty) _ _;refine U m ?_;rfl)
  |true=>
   replace e:M (bU a&&f.isEmpty&&rest.isEmpty) (kX O d V S λw=>Nf w λh=>nt (λv S s=>jm l v (V++Ia n Y) λb=>hK O a b S λp=>M (nb p.1) (s ([p.1],p.2)) Y) h S λq=>M (Jd 4096 q.1) (k (.l q.1,q.2)) Y) _=J r:=e;rw[m]at e
   induction f using ma with
   |cons=>rw[Aa,Aa]at m;exact zc m.1.2 ia|nil=>induction rest using ma with
    |cons=>rw[Aa]at m;exact zc m.2 ia|nil=>
     exact((Wc C d V).bind (g:=λw(k:W×ub->Option R)=>Nf w λh=>nt (λv S s=>jm l v (V++Ia n Y) λb=>hK O a b S λp=>M (nb p.1) (s ([p.1],p.2)) Y) h S λq=>M (Jd 4096 q.1) (k (.l q.1,q.2)) Y) λw=>Re.bind Fq λh=>(YA (λv S=>Jr.bind λb=>by
      show Re _ (((fX db sc Q a b S).bind _).map _)
      refine U Tc ((Mj a b S).bind λp=>Rq.grd λs=>?_);show Re _ (((kf p.1).map _).map _)
      refine U (En s) ?_;exact Rq.ret rfl) h S).bind λq=>pX) k r e
 |.call f a,V,S=>(Wc C f V).bind λg=>(cN a V S).bind λq=>ML C|.meth o n a,V,S=>(Wc C o V).bind λw=>Rq.wW λc=>(Kn C a V).bind λb=>by
  induction c with
  |fn f i=>exact C.cf _ _ _|lm o=>exact Rx.e SN
 |.sup i f a,V,S=>by
  show Rq _ _ ((((Ke V i).bind Bk).bind _).bind _)
  exact U (Va _ _ _) (U (Va _ _ _) (Rq.wW λw=>Rq.wW λi=>Rq.wW λj=>(Kn C a V).bind λb=>C.cf _ _ _))
theorem dN(a:List X)(V:fc)(S:ub):Re (R:=R) (qck O a V S) (xG db sc Q a V S):=match a,V,S with|[],V,S=>Rq.ret rfl|x::b,V,S=>(Mj x V S).bind λp=>Rq.grd λh=>by refine U (En h) ?_;exact(dN b V p.2).map λq=>rfl
theorem cN(a:List X)(V:fc)(S:ub):Re (R:=R) (qcj O a V S) (w7 db sc Q a V S):=match a,V,S with|[],V,S=>Rq.ret rfl|x::b,V,S=>(Mj x V S).bind λp=>(cN b V p.2).map λq=>rfl
end
theorem Vz(e:X):Re (R:=R) (K0 O e V S) (HM db sc Q e V S):=(Mj C e V _).bind λp=>nbM' p
where nbM' (p:W×ub):Re (R:=R) (λk=>M (nb p.1) (k p) Y) ((kf p.1).map λw=>(w,p.2)):=Rq.grd λe=>by refine U (En e) ?_;exact Rq.ret rfl
theorem ZT(a b:X):Re (R:=R) (GZ O a b V S) (EM db sc Q a b V S):=(Wc C a V).bind λw=>K4 (y:=λw=>(fX db sc Q b V S).bind λq=>(Ua q.1).bind λk=>(Ge (decide (0<=k/\k<4096))).map λu=>(W.o (.l (Ia k.toNat w)),q.2)) ((Wc C b V).bind λv=>Rq.wW λi=>Rq.grd λd=>Rq.grd λe=>by
 rw[Pg]at d e;refine U (wg (decide_eq_true ⟨Wi.mp (λz=>zc d (by rw[decide_eq_true z];exact ia):¬i<0),Nl e⟩)) ?_;exact Rq.ret rfl)
theorem BX(e:X):Re (R:=R) (vK O e V S) (fV db sc Q e V S):=by
 induction e using X.casesOn<;>first|exact Vz C _|skip
 ·skip
  show Re (λk=>match zt op a with|some c=>GZ O c b V S k|none=>K0 O (.bin op a b) V S k) (match zt op a with|some c=>EM db sc Q c b V S|none=>HM db sc Q (.bin op a b) V S)
  induction zt op a with
  |none=>exact Vz C _|some c=>exact ZT C c b
 ·exact(Kn C _ V).bind λws=>Rq.grd λh=>by unfold Td;refine U (wg (Rn h)) ?_;exact Rq.ret rfl
 ·skip
  match ks,vs with
  |[],[]=>exact Rq.ret rfl|[a],[b]=>exact(Wc C a V).bind λu=>Rq.wW λi=>(Wc C b V).bind λw=>qee (y:=λw=>(W.o (.dic [i] [w]),S)) rfl|[],z::j=>exact Rq.no|[z],[]=>exact Rq.no|[z],j::q::d=>exact Rq.no|z::j::q,d=>exact Rq.no
theorem LQ(a:List X)(S:ub):Re (R:=R) (qaP O a V S) (qat db sc Q a V S):=match a,S with|[],S=>Rq.ret rfl|x::b,S=>(BX C x).bind λp=>(LQ b p.2).map λq=>rfl
theorem lV(o e:X):Re (R:=R) (H9 O o e v V S) (lT db sc Q o e v V S):=by
 induction o using X.casesOn<;>first|exact Rq.no|skip
 ·exact(Wc C e V).bind λiv=>Rq.wW λc=>oP
 ·exact(Wc C _ V).bind λw=>Rq.wW λi=>(Wc C e V).bind λiv=>pC.map λu=>rfl
mutual
theorem TO(t:T)(v:W)(V:fc)(S:ub):Re (R:=R) (pK O t v V S) (fP db sc Q t v V S):=match t,v,V,S with
 |.x i,v,V,S=>Rq.grd λh=>by
  show Rq _ _ ((Ge (ac i V.length)).map _)
  exact U (wg h) (Rq.ret rfl)
 |.t a,v,V,S=>Rq.wW λb=>RE a b V S|.attr o n,v,V,S=>(Wc C o V).bind λw=>by
  exact U Tc (Rq.wW λi=>Rq.opm λu=>rfl)
 |.sub o e,v,V,S=>K4 (y:=λv=>lT db sc Q o e v V S) (lV C o e)
theorem RE(a:List T)(b:List W)(V:fc)(S:ub):Re (R:=R) (a9 O a b V S) (v7 db sc Q a b V S):=match a,b,V,S with|[],[],V,S=>Rq.ret rfl|[],u::y,V,S=>Rq.no|t::a,[],V,S=>Rq.no|t::a,v::b,V,S=>(TO t v V S).bind λq=>RE a b q.1 q.2
end
theorem qci{f:(fc×ub->Option R)->Option R}{x:W3}(h:Re f x):Rs (λk=>f λp=>k (.go p.1 p.2)) (x.map RY):=h.map λu=>rfl
theorem cS(t:T)(e:X):Rs (R:=R) (P5 O t e V S) (gY db sc Q t e V S):=by
 induction t using T.casesOn<;>first|exact(BX C e).bind λq=>qci C (TO C _ q.1 V q.2)|skip
 show Rs (λk=>match zF e with|some es=>qaP O es V S λq=>M (Jd 4096 q.1) (a9 O ts q.1 V q.2 λp=>k (.go p.1 p.2)) Y|none=>K0 O e V S λq=>pK O (.t ts) q.1 V q.2 λp=>k (.go p.1 p.2)) (match zF e with|some es=>_|none=>_)
 induction zF e with
 |none=>exact(Vz C e).bind λq=>qci C (TO C _ q.1 V q.2)|some es=>exact(LQ C es S).bind λq=>Rq.grd λh=>by unfold Td;refine U (wg (Rn h)) ?_;exact qci C (RE C ts q.1 V q.2)
theorem eS(o:X)(n:Bb)(i:X)(a:He)(e:X):Rs (R:=R) (R5 O o n i a e V S) ((fX db sc Q o V S).bind λp=>(Bm db n p.2 p.1).bind λj=>iY db sc Q n i e a V p.2 j):=
 (Wc C o V).bind λw=>Rq.wW λj=>(Wc C i V).bind λd=>Re.bind jA λb=>(Wc C e V).bind λr=>Rq.wW λx=>Rq.wW λy=>Rq.wW λz=>pC.map λu=>rfl
theorem aS(m:Bb)(o e:X):Rs (R:=R) (N5 O m o e V S) (fY db sc Q m o e V S):=by
 induction o using X.casesOn<;>first|exact Rq.no|skip
 ·rename Nat=>j
  show Rq _ _ (((Ke V j).bind cs).bind _)
  exact U (Va _ _ _) (Rq.wW λb=>Rq.wW λxs=>(Mj C e V S).bind λp=>K4 (y:=λv=>(Zt m).bind λm=>(pZ m v xs).map λys=>(eW.next,V.set j (J (.o (.l ys))),p.2)) (Rq.wW λl=>VG.map λu=>rfl))
 ·rename X=>o
  refine(Wc C o V).bind λw=>Rq.wW λi=>(U (Va _ _ _) (Rq.op λb eb=>Rq.op λxs ex=>(U eb ?_)));show Rq _ _ ((cs b).bind _)
  refine U ex ((Wc C e V).bind λv=>K4 (y:=λv=>(Zt m).bind λm=>((ii S i n).bind cs).bind λxs=>(pZ m v xs).map λys=>(eW.next,V,Fm S i n (.o (.l ys)))) (Rq.wW λl=>(U (by rw[eb];exact ex:(ii S i n).bind cs=J xs) ?_)));exact VG.map λu=>rfl
theorem uT(o i e:X):Rs (R:=R) (S7 O o i e V S) (XY db sc Q o i e V S):=by
 induction o using X.casesOn<;>first|exact Rq.no|skip
 rename Nat=>j
 show Rq _ _ (((Ke V j).bind cs).bind _)
 exact U (Va _ _ _) (Rq.wW λb=>Rq.wW λxs=>(Wc C i V).bind λq=>Rq.wW λi=>(Wc C e V).bind λv=>K4 (y:=λv=>(nN i v xs).map λys=>(eW.next,V.set j (J (.o (.l ys))),S)) (Rq.opm λu=>rfl))
theorem MW(t:B):Re (R:=R) (hT O t V S) (fT db sc Q t V S):=by
 have d:∀t,Re (R:=R) (λk=>kT O t V S λb=>k (b,S)) (fT db sc Q t V S):=λt=>(ut C t V).e
 induction t using B.casesOn<;>first|exact d _|skip
 ·rename B=>t
  induction t using B.casesOn<;>first|exact d _|skip
  rename X=>e
  show Rq _ _ (((fX db sc Q e V S).bind _).map _)
  refine U Tc ((Mj C e V _).bind λp=>?_);show Rq _ _ (((Li p.1).map _).map _)
  exact U (pf _ _ _) (Rq.opm λu=>rfl)
 ·skip
  induction x using X.casesOn<;>first|exact d _|skip
  induction op<;>first|exact d _|skip
  ·induction a using X.casesOn<;>first|exact d _|skip
   exact(Mj C _ V _).bind λp=>Rq.opm λu=>rfl
  ·show Rq _ _ (((fX db sc Q a V S).bind _).bind _)
   refine U (Va _ _ _) ((Mj C a V _).bind λp=>?_);show Rq _ _ (((fX db sc Q b V p.2).bind _).bind _)
   exact U (Va _ _ _) ((Wc C b V).bind λv=>(U yh (Rq.wW λr=>Rq.ret rfl)))
theorem zU(e:X):Rs (R:=R) (d9 O e V S) ((qbx db sc Q e V S).map λp=>(.ret p.1,V,p.2)):=by
 induction e using X.casesOn<;>first|exact(Vz C _).map λy=>rfl|skip
 exact U (pf _ _ _) (U Tc (Rq.wW λu=>Rq.opm λy=>rfl))
mutual
theorem QW(s:SF)(V:fc)(S:ub):Rs (R:=R) (kS O s V S) (fS db sc Q N s V S):=match s,V,S with
 |.q t e,V,S=>cS C t e|.aug o n i a e,V,S=>eS C o n i a e|.expr e,V,S=>(Mj C e V _).bind λp=>Rq.opm λu=>rfl|.app o m e,V,S=>aS C m o e|.ins o i e,V,S=>uT C o i e|.ifs t a b,V,S=>(MW C t).bind λq=>Rq.ifB (Jn a V q.2) (Jn b V q.2)|.whil t b,V,S=>by
  show Rs (R2 (hT O t) (λV S k=>Tg O b V S k) 5000 V S) (Pv (fT db sc Q t) (λV S=>iJ db sc Q N b V S) 5000 V S)
  generalize 5000=n;exact SQ (λV S=>MW C t) (λV S=>Jn b V S) n V S
 |.fors t e b,V,S=>(Wc C e V).bind λw=>Re.bind Fq λd=>Cv (λv V S=>UA.bind λa=>Jn b a S) d V S|.forz t f b,V,S=>(Kn C f V).bind λg=>by
  exact U (Va _ _ _) (U (Va _ _ _) (Rq.wW λh=>Rq.wW λk=>Rq.wW λd=>Cv (λv V S=>UA.bind λa=>Jn b a S) d V S))
 |.ret e,V,S=>zU C e|.frz i,V,S=>by
  show Rq _ _ (((Ke V i).bind sK).map _)
  exact U Tc (Rq.wW λb=>Rq.opm λu=>rfl)
 |.blk i,V,S=>C.cb i V S
theorem Jn(a:List SF)(V:fc)(S:ub):Rs (R:=R) (Tg O a V S) (iJ db sc Q N a V S):=match a,V,S with|[],V,S=>Rq.ret rfl|s::a,V,S=>cA (QW s V S) (Jn a)
end
end
section
variable {w:W} {R:Type} {e:Mine.Internal.X} {fn:Rg} {n:Nat}
noncomputable section
abbrev CF:=(R:Type)->List W->ub->(W×ub->Option R)->Option R
abbrev CB:=(R:Type)->fc->ub->(Fk->Option R)->Option R
def mi(V:Yp)(a:Nat)(f:CF):Prop:=∀R b c,Re (f R b c) (V a b c)
def vh(L:Nat->fc->ub->al)(i:Nat)(f:CB):Prop:=∀R a b,Rs (f R a b) (L i a b)
abbrev CR:=(R:Type)->List W->ub->(W->Option R)->Option R
def Mg(V:Yp)(a:Nat)(f:CR):Prop:=∀R c b,Rx b (f R c b) (V a c b)
noncomputable def Or.nil:Or:=⟨λu u u u=>Y,λu u u u=>Y,λu u u u=>Y⟩
noncomputable def Or.c(O:Or)(a:Nat)(f:CF):Or:=⟨O.ro,λb c g k=>M (Ub a b) (f _ c g k) (O.cf b c g k),O.cb⟩
noncomputable def Or.b(O:Or)(a:Nat)(f:CB):Or:=⟨O.ro,O.cf,λb c g k=>M (Ub a b) (f _ c g k) (O.cb b c g k)⟩
def Or.r(O:Or)(a:Nat)(f:CR):Or:=⟨λb c g k=>M (Ub a b) (f _ c g k) (O.ro b c g k),O.cf,O.cb⟩
section
variable {O:Or} {V:Yp} {L:Nat->fc->ub->al}
theorem zh.nil:zh Or.nil V L:=⟨λu u u=>Rq.no,λu u u=>Rq.no,λu u u=>Rq.no⟩
theorem LI{a b:Nat}{c:Type}{x y:c}{P:c->Prop}(f:a=b->P x)(g:P y):P (M (Ub a b) x y):=by
 induction h:Ub a b with
 |true=>exact f (Uc h)|false=>exact g
theorem zh.c(C:zh O V L){a:Nat}{f:CF}(h:mi V a f):zh (O.c a f) V L:=⟨C.ro,λ{R} b g j k r=>LI (P:=λx=>x=J r->RK Eq (V b g j) k r) (λc=>c▸h R g j k r) (C.cf b g j k r),C.cb⟩
theorem zh.b(C:zh O V L){a:Nat}{f:CB}(h:vh L a f):zh (O.b a f) V L:=⟨C.ro,C.cf,λ{R} b g j k r=>LI (P:=λx=>x=J r->RK _ (L b g j) k r) (λc=>c▸h R g j k r) (C.cb b g j k r)⟩
theorem zh.r(C:zh O V L){a:Nat}{f:CR}(h:Mg V a f):zh (O.r a f) V L:=⟨λ{R} b g j k r=>LI (P:=λx=>x=J r->RK _ (V b g j) k r) (λc=>c▸h R g j k r) (C.ro b g j k r),C.cf,C.cb⟩
end
theorem pS{c g:Type}{o:Option c}{f:c->Option g}{b:g}(h:H o f=J b):∃a,o=J a/\f a=J b:=by
 induction o with
 |none=>exact ja h|some a=>exact⟨a,rfl,h⟩
theorem dp{c g:Type}{o:Option c}{f:c->Option g}{b:g}{P:Prop}(h:H o f=J b)(k:∀a,o=J a->f a=J b->P):P:=by
 obtain⟨a,j,l⟩:=pS h;exact k a j l
structure Cd(A S:Type)where
 dec:(R:Type)->A->(S->Option R)->Option R
 wR:S->A
 ok:∀R a k r,dec R a k=J r->∃s,wR s=a/\k s=J r
structure Qg(A X S:Type)where
 dec:(R:Type)->A->(X->S->Option R)->Option R
 wR:X->S->A
 ok:∀R a k r,dec R a k=J r->∃x s,wR x s=a/\k x s=J r
section
variable {A S T X G:Type}
noncomputable def Cd.id:Cd A A:=⟨λu a k=>k a,λa=>a,λu a u u e=>⟨a,rfl,e⟩⟩
def Cd.op(f:A->Option S)(g:S->A)(h:∀a s,f a=J s->g s=a):Cd A S:=⟨λu a k=>H (f a) k,g,λu a u u e=>by
 refine dp e λs b c=>?_;exact⟨s,h a s b,c⟩⟩
noncomputable def b7(w:W):Option (List Int×List W):=match w with|.dic a b=>J (a,b)|_=>Y
def PW(i:Nat)(w:W):Option Unit:=H (Bk w) λj=>M (Ub j i) (J ()) Y
theorem tN{i:Nat}{u:Unit}(e:PW i w=J u):W.ref i=w:=by
 induction w using W.casesOn<;>first|exact ja e|skip
 rename Nat=>j
 exact LI (a:=j) (b:=i) (x:=J ()) (y:=(Y:Option Unit)) (P:=λx=>x=J u->W.ref i=.ref j) (λc z=>c▸rfl) (λe=>ja e) e
noncomputable def Cd.int:Cd W Int:=.op Ua .int λa s e=>by induction a using W.casesOn<;>first|exact ja e|exact Gc W.int (ba e).symm
noncomputable def Cd.l:Cd W (List W):=.op Hl .l λa s e=>by induction a using W.casesOn<;>first|exact ja e|exact Gc W.l (ba e).symm
noncomputable def Cd.t:Cd W (List W):=.op ng .t λa s e=>by induction a using W.casesOn<;>first|exact ja e|exact Gc W.t (ba e).symm
noncomputable def Cd.bool:Cd W Bool:=.op Li .bool λa s e=>by induction a using W.casesOn<;>first|exact ja e|exact Gc W.bool (ba e).symm
noncomputable def Cd.dic:Cd W (List Int×List W):=.op b7 (λs=>.dic s.1 s.2) λa s e=>by induction a using W.casesOn<;>first|exact ja e|(obtain rfl:=ba e;rfl)
noncomputable def Cd.ref(i:Nat):Cd W Unit:=.op (PW i) (λu=>.ref i) λu u e=>tN e
theorem j2{b:W}(h:sK w=J b):W.o b=w:=by induction w using W.casesOn<;>first|exact ja h|exact Gc W.o (ba h).symm
noncomputable def Cd.o(c:Cd W S):Cd W S:=⟨λR w k=>H (sK w) λb=>c.dec R b k,λs=>.o (c.wR s),λR a k r e=>by
 exact(pS e).elim λb h=>(c.ok R b k r h.2).elim λs g=>⟨s,(Gc W.o g.1).trans (j2 h.1),g.2⟩⟩
def Cd.some'(c:Cd W S):Cd (Option W) S:=⟨λR o k=>H o λb=>c.dec R b k,λs=>J (c.wR s),λR a k r e=>by
 exact(pS e).elim λb h=>(c.ok R b k r h.2).elim λs g=>⟨s,(Gc J g.1).trans h.1.symm,g.2⟩⟩
def Cd.fld(n:Bb)(c:Cd W S):Cd (Bb×W) S:=⟨λR x k=>M (decide (x.1=n)) (c.dec R x.2 k) Y,λs=>(n,c.wR s),λR a k r e=>by
 have h:a.1=n/\c.dec R a.2 k=J r:=by
  induction h:decide (a.1=n)with
  |true=>exact⟨Nl h,(Gc (λb=>M b (c.dec R a.2 k) Y) h).symm.trans e⟩|false=>exact ja ((Gc (λb=>M b (c.dec R a.2 k) Y) h).symm.trans e)
 exact(c.ok R _ _ _ h.2).elim λs g=>⟨s,by exact U g.1 (Ed h.1 rfl),g.2⟩⟩
noncomputable def Qg.nil:Qg (List A) Unit Unit:=⟨λu l k=>ma l (k () ()) λu u=>Y,λu u=>[],λR a k r e=>by
 induction a using ma with
 |nil=>exact⟨(),(),rfl,e⟩|cons=>exact ja e⟩
noncomputable def Qg.rest:Qg (List A) (List A) Unit:=⟨λu l k=>k l (),λx u=>x,λu a u u e=>⟨a,(),rfl,e⟩⟩
noncomputable def Qg.cons(c:Qg A X S)(d:Qg (List A) G T):Qg (List A) (X×G) (S×T):=⟨λR l k=>ma l Y λx t=>c.dec R x λx s=>d.dec R t λy r=>k (x,y) (s,r),λx s=>c.wR x.1 s.1::d.wR x.2 s.2,λR a k r e=>by
 induction a using ma with
 |nil=>exact ja e|cons x t=>
  exact(c.ok R _ _ _ e).elim λx h=>h.elim λs h=>(d.ok R _ _ _ h.2).elim λy g=>g.elim λq g=>⟨(x,y),(s,q),congr (Gc FA h.1) g.1,g.2⟩⟩
noncomputable def Qg.p(c:Cd A S)(d:Qg (List A) X T):Qg (List A) (S×X) T:=⟨λR l k=>ma l Y λx t=>c.dec R x λs=>d.dec R t λy r=>k (s,y) r,λx s=>c.wR x.1::d.wR x.2 s,λR a k r e=>by
 induction a using ma with
 |nil=>exact ja e|cons x t=>
  exact(c.ok R _ _ _ e).elim λs h=>(d.ok R _ _ _ h.2).elim λy g=>g.elim λq g=>⟨(s,y),q,congr (Gc FA h.1) g.1,g.2⟩⟩
noncomputable def Qg.a(c:Cd A S)(d:Qg (List A) X T):Qg (List A) X (S×T):=⟨λR l k=>ma l Y λx t=>c.dec R x λs=>d.dec R t λy r=>k y (s,r),λx s=>c.wR s.1::d.wR x s.2,λR a k r e=>by
 induction a using ma with
 |nil=>exact ja e|cons x t=>
  exact(c.ok R _ _ _ e).elim λs h=>(d.ok R _ _ _ h.2).elim λy g=>g.elim λq g=>⟨y,(s,q),congr (Gc FA h.1) g.1,g.2⟩⟩
noncomputable def Qg.sk(c:Cd A Unit)(d:Qg (List A) X T):Qg (List A) X T:=⟨λR l k=>ma l Y λx t=>c.dec R x λu=>d.dec R t k,λx s=>c.wR ()::d.wR x s,λR a k r e=>by
 induction a using ma with
 |nil=>exact ja e|cons x t=>
  exact(c.ok R _ _ _ e).elim λs h=>(d.ok R _ _ _ h.2).elim λy g=>g.elim λq g=>⟨y,q,congr (Gc FA h.1) g.1,g.2⟩⟩
def Qg.obj(c:Nat)(d:Qg (List (Bb×W)) X S):Qg OF X S:=⟨λR o k=>H o.cls λj=>M (Ub j c) (d.dec R o.fs k) Y,λx s=>⟨J c,d.wR x s⟩,λR a k r e=>by
 exact(pS e).elim λj h=>LI (a:=j) (b:=c) (x:=d.dec R a.fs k) (y:=Y) (P:=λx=>x=J r->∃x s,OF.mk (J c) (d.wR x s)=a/\k x s=J r) (λq f=>(d.ok R _ _ _ f).elim λx g=>g.elim λs g=>⟨x,s,congr (Gc OF.mk ((Gc J q.symm).trans h.1.symm)) g.1,g.2⟩) (λe=>ja e) h.2⟩
noncomputable def Qg.pas(c:Qg A X S):Qg A (X×S) Unit:=⟨λR a k=>c.dec R a λx s=>k (x,s) (),λy u=>c.wR y.1 y.2,λR a k r e=>by
 obtain⟨x,s,b,f⟩:=c.ok R a _ r e;exact⟨(x,s),(),b,f⟩⟩
end
inductive Fw(I K:Type)where
 |go (m:I) (h:K)|ret (w:W) (h:K)
section
variable {I K:Type}
def V4(t:I->K->(Bool->Option R)->Option R)(g:I->K->(Fw I K->Option R)->Option R)(n:Nat):I->K->(Fw I K->Option R)->Option R:=un (motive:=λu=>I->K->(Fw I K->Option R)->Option R) (λu u u=>Y) (λu a m h k=>t m h λb=>M b (g m h λr=>Fw.rec (λm h=>a m h k) (λw h=>k (.ret w h)) r) (k (.go m h))) n
noncomputable def lg(g:W->I->K->(Fw I K->Option R)->Option R)(a:List W):I->K->(Fw I K->Option R)->Option R:=gc (motive:=λu=>I->K->(Fw I K->Option R)->Option R) (λm h k=>k (.go m h)) (λx u b m h k=>g x m h λr=>Fw.rec (λm h=>b m h k) (λw h=>k (.ret w h)) r) a
def U4(t:I->K->(Bool->Option R)->Option R)(g:I->K->(I->K->Option R)->Option R)(n:Nat):I->K->(I->K->Option R)->Option R:=un (motive:=λu=>I->K->(I->K->Option R)->Option R) (λu u u=>Y) (λu a m h k=>t m h λb=>M b (g m h λm h=>a m h k) (k m h)) n
noncomputable def nh(g:W->I->K->(I->K->Option R)->Option R)(a:List W):I->K->(I->K->Option R)->Option R:=gc (motive:=λu=>I->K->(I->K->Option R)->Option R) (λm h k=>k m h) (λx u b m h k=>g x m h λm h=>b m h k) a
def pv(N:I->fc)(eH:K->ub)(k:Fk->Option R)(r:Fw I K):Option R:=Fw.rec (λm h=>k (.go (N m) (eH h))) (λw h=>k (.ret w (eH h))) r
variable {X G:Type} {CM:Qg fc X I} {CH:Qg ub G K} {O:Or} {N:I->fc} {eH:K->ub}
theorem R9{t:fc->ub->(Bool×ub->Option R)->Option R}{b:fc->ub->(Fk->Option R)->Option R}{a:I->K->(Bool->Option R)->Option R}{f:I->K->(Fw I K->Option R)->Option R}
 (j:∀m h k,t (N m) (eH h) k=a m h λb=>k (b,eH h))(l:∀m h k,b (N m) (eH h) k=f m h (pv N eH k))(k:Fk->Option R):∀n m h,R2 t b n (N m) (eH h) k=V4 a f n m h (pv N eH k):=by
 intro n
 induction n with
 |zero=>
  rintro m h;exact rfl
 |succ n o=>
  rintro m h;exact(j m h _).trans (Gc (a m h) (funext λc=>by
   induction c with
   |false=>rfl|true=>exact(l m h _).trans (Gc (f m h) (funext λr=>by
    induction r with
    |go p g=>exact o p g|ret w g=>rfl))))
theorem CG{b:W->fc->ub->(Fk->Option R)->Option R}{c:W->I->K->(Fw I K->Option R)->Option R}(g:∀v m h k,b v (N m) (eH h) k=c v m h (pv N eH k))(k:Fk->Option R):∀a m h,pB b a (N m) (eH h) k=lg c a m h (pv N eH k):=by
 intro a
 induction a with
 |nil=>
  rintro m h;exact rfl
 |cons x a j=>
  rintro m h;exact(g x m h _).trans (Gc (c x m h) (funext λr=>by
   induction r with
   |go l f=>exact j l f|ret w f=>rfl))
theorem P2{t:fc->ub->(Bool×ub->Option R)->Option R}{b:fc->ub->(Fk->Option R)->Option R}{a:I->K->(Bool->Option R)->Option R}{f:I->K->(I->K->Option R)->Option R}
 (g:∀m h k,t (N m) (eH h) k=a m h λb=>k (b,eH h))(j:∀m h k,b (N m) (eH h) k=f m h λm h=>k (.go (N m) (eH h)))(k:Fk->Option R):∀n m h,R2 t b n (N m) (eH h) k=U4 a f n m h λm h=>k (.go (N m) (eH h)):=by
 intro n
 induction n with
 |zero=>
  rintro m h;exact rfl
 |succ n l=>
  rintro m h;exact(g m h _).trans (Gc (a m h) (funext λc=>by
   induction c with
   |false=>rfl|true=>exact(j m h _).trans (Gc (f m h) (funext λo=>funext λp=>l o p))))
theorem oB{b:W->fc->ub->(Fk->Option R)->Option R}{c:W->I->K->(I->K->Option R)->Option R}(f:∀v m h k,b v (N m) (eH h) k=c v m h λm h=>k (.go (N m) (eH h)))(k:Fk->Option R):∀a m h,pB b a (N m) (eH h) k=nh c a m h λm h=>k (.go (N m) (eH h)):=by
 intro a
 induction a with
 |nil=>
  rintro m h;exact rfl
 |cons x a g=>
  rintro m h;exact(f x m h _).trans (Gc (c x m h) (funext λj=>funext λl=>g j l))
noncomputable abbrev BP(X G I K:Type):=(R:Type)->X->G->I->K->(Fw I K->Option R)->Option R
def Rj(CM:Qg fc X I)(CH:Qg ub G K)(f:BP X G I K):CB:=λR a b k=>CM.dec R a λx m=>CH.dec R b λy h=>f R x y m h (pv (CM.wR x) (CH.wR y) k)
variable {Q:Nat->Option (List Int)} {V:Yp} {d i:Nat}
theorem II{s:SF}(C:zh O V (Ee db Ib Q V d))(a:Ib i=J s)(b:Lv s=Z){f:BP X G I K}(E:∀R x y m h k,kS O s (CM.wR x m) (CH.wR y h) k=f R x y m h (pv (CM.wR x) (CH.wR y) k)):vh (Ee db Ib Q V (d+1)) i (Rj CM CH f):=λR l o k r e=>by
 refine aa λc=>?_;obtain⟨x,m,rfl,g⟩:=CM.ok _ _ _ _ e;obtain⟨y,h,rfl,j⟩:=CH.ok _ _ _ _ g;refine c ?_;have:=QW (sc:=Q) (R:=R) C s _ _ k r ((E R _ _ _ _ k).trans j);show RK _ ((Ib i).bind _) k r
 refine U a ?_;show RK _ ((Ge (Lv s)).bind _) k r
 exact U b this
theorem TQ{t:B}{b:List SF}(C:zh O V (Ee db Ib Q V d))(a:Ib i=J (.whil t b)){tP:(R:Type)->X->G->I->K->(Bool->Option R)->Option R}{gP:BP X G I K}
 (c:∀R x y m h k,hT O t (CM.wR x m) (CH.wR y h) k=tP R x y m h λb=>k (b,CH.wR y h))(f:∀R x y m h k,Tg O b (CM.wR x m) (CH.wR y h) k=gP R x y m h (pv (CM.wR x) (CH.wR y) k)):vh (Ee db Ib Q V (d+1)) i (Rj CM CH λR x y m h k=>V4 (tP R x y) (gP R x y) 5000 m h k):=
 II C a rfl λR x y m h k=>by
  show R2 (hT O t) (λg j k=>Tg O b g j k) 5000 _ _ k=_
  generalize 5000=n;exact R9 (c R x y) (f R x y) k n m h
theorem Sr{t:CT}{b:List SF}(C:zh O V (Ee db Ib Q V d))(f:Ib i=J (.fors t e b)){eP:(R:Type)->X->G->I->K->(List W->Option R)->Option R}{gP:W->BP X G I K}
 (g:∀R x y m h k,(kX O e (CM.wR x m) (CH.wR y h) λw=>Nf w k)=eP R x y m h k)(j:∀v R x y m h k,(lk t v (CM.wR x m) λa=>Tg O b a (CH.wR y h) k)=gP v R x y m h (pv (CM.wR x) (CH.wR y) k)):vh (Ee db Ib Q V (d+1)) i (Rj CM CH λR x y m h k=>eP R x y m h λc=>lg (λv=>gP v R x y) c m h k):=
 II C f rfl λR x y m h k=>(g R x y m h _).trans (Gc (eP R x y m h) (funext λc=>CG (b:=λv l o k=>lk t v l λa=>Tg O b a o k) (λv m h k=>j v R x y m h k) k c m h))
noncomputable abbrev BN(X G I K:Type):=(R:Type)->X->G->I->K->(I->K->Option R)->Option R
def rj(CM:Qg fc X I)(CH:Qg ub G K)(f:BN X G I K):CB:=Rj CM CH λR x y m h k=>f R x y m h λm h=>k (.go m h)
theorem EF{t:B}{b:List SF}(C:zh O V (Ee db Ib Q V d))(a:Ib i=J (.whil t b)){tP:(R:Type)->X->G->I->K->(Bool->Option R)->Option R}{gP:BN X G I K}
 (c:∀R x y m h k,hT O t (CM.wR x m) (CH.wR y h) k=tP R x y m h λb=>k (b,CH.wR y h))(f:∀R x y m h k,Tg O b (CM.wR x m) (CH.wR y h) k=gP R x y m h λm h=>k (.go (CM.wR x m) (CH.wR y h))):vh (Ee db Ib Q V (d+1)) i (rj CM CH λR x y m h k=>U4 (tP R x y) (gP R x y) 5000 m h k):=
 II C a rfl λR x y m h k=>by
  show R2 (hT O t) (λg j k=>Tg O b g j k) 5000 _ _ k=_
  generalize 5000=n;exact P2 (c R x y) (f R x y) k n m h
theorem uj{t:CT}{b:List SF}(C:zh O V (Ee db Ib Q V d))(f:Ib i=J (.fors t e b)){eP:(R:Type)->X->G->I->K->(List W->Option R)->Option R}{gP:W->BN X G I K}
 (g:∀R x y m h k,(kX O e (CM.wR x m) (CH.wR y h) λw=>Nf w k)=eP R x y m h k)(j:∀v R x y m h k,(lk t v (CM.wR x m) λa=>Tg O b a (CH.wR y h) k)=gP v R x y m h λm h=>k (.go (CM.wR x m) (CH.wR y h))):vh (Ee db Ib Q V (d+1)) i (rj CM CH λR x y m h k=>eP R x y m h λc=>nh (λv=>gP v R x y) c m h k):=
 II C f rfl λR x y m h k=>(g R x y m h _).trans (Gc (eP R x y m h) (funext λc=>oB (b:=λv l o k=>lk t v l λa=>Tg O b a o k) (λv m h k=>j v R x y m h k) k c m h))
theorem rT{t:CT}{f:List Mine.Internal.X}{b:List SF}(C:zh O V (Ee db Ib Q V d))(g:Ib i=J (.forz t f b)){eP:(R:Type)->X->G->I->K->(List W->Option R)->Option R}{gP:W->BP X G I K}
 (j:∀R x y m h k,(GN O f (CM.wR x m) (CH.wR y h) λa=>H (fm a) λc=>H (sA c) λl=>H (Bl l) k)=eP R x y m h k)(l:∀v R x y m h k,(lk t v (CM.wR x m) λa=>Tg O b a (CH.wR y h) k)=gP v R x y m h (pv (CM.wR x) (CH.wR y) k)):vh (Ee db Ib Q V (d+1)) i (Rj CM CH λR x y m h k=>eP R x y m h λc=>lg (λv=>gP v R x y) c m h k):=
 II C g rfl λR x y m h k=>(j R x y m h _).trans (Gc (eP R x y m h) (funext λc=>CG (b:=λv o p k=>lk t v o λa=>Tg O b a p k) (λv m h k=>l v R x y m h k) k c m h))
theorem SM{t:CT}{f:List Mine.Internal.X}{b:List SF}(C:zh O V (Ee db Ib Q V d))(g:Ib i=J (.forz t f b)){eP:(R:Type)->X->G->I->K->(List W->Option R)->Option R}{gP:W->BN X G I K}
 (j:∀R x y m h k,(GN O f (CM.wR x m) (CH.wR y h) λa=>H (fm a) λc=>H (sA c) λl=>H (Bl l) k)=eP R x y m h k)(l:∀v R x y m h k,(lk t v (CM.wR x m) λa=>Tg O b a (CH.wR y h) k)=gP v R x y m h λm h=>k (.go (CM.wR x m) (CH.wR y h))):vh (Ee db Ib Q V (d+1)) i (rj CM CH λR x y m h k=>eP R x y m h λc=>nh (λv=>gP v R x y) c m h k):=
 II C g rfl λR x y m h k=>(j R x y m h _).trans (Gc (eP R x y m h) (funext λc=>oB (b:=λv o p k=>lk t v o λa=>Tg O b a p k) (λv m h k=>l v R x y m h k) k c m h))
noncomputable def nk(g:W->K->(List W->K->Option R)->Option R)(c:List W):K->(List W->K->Option R)->Option R:=gc (motive:=λu=>K->(List W->K->Option R)->Option R) (λh k=>k [] h) (λx u f h k=>g x h λa h=>f h λb h=>k (a++b) h) c
theorem jv{g:W->ub->(List W×ub->Option R)->Option R}{gP:W->K->(List W->K->Option R)->Option R}(E:∀v h k,g v (eH h) k=gP v h λc h=>k (c,eH h)):∀(b:List W)(h:K)(k:List W×ub->Option R),nt g b (eH h) k=nk gP b h λc h=>k (c,eH h):=by
 intro b
 induction b with
 |nil=>
  rintro h k;exact rfl
 |cons x b f=>
  rintro h k;exact(E x h _).trans (Gc (gP x h) (funext λa=>funext λj=>f j _))
def WS(r:Fk):W×ub:=Fk.rec (λu a=>(.none,a)) (λw a=>(w,a)) r
def bn(O:Or)(fn:Rg)(a:List W)(b:ub)(k:W×ub->Option R):Option R:=M (Ub a.length fn.params) (Tg O fn.body (a.map J++Ia (fn.slots - fn.params) Y) b λr=>k (WS r)) Y
theorem vw{b:List W}{a:ub}(C:zh O V (Ee db Ib Q V 4)):Re (R:=R) (bn O fn b a) (Vo db Ib Q V fn b a):=Rq.grd λh=>by
 show Rq _ _ ((Ge (Ub b.length fn.params)).bind _)
 refine U (wg h) ?_;exact Rq.map (Jn C fn.body _ a) λp f e=>by
  subst e;obtain⟨c,g,a⟩:=p
  induction c<;>rfl
noncomputable def yg{A T:Type}(b:Qg (List W) A Unit)(CH:Qg ub G K)(f:(R:Type)->A->G->K->(T->Option R)->Option R)(g:A->G->K->T->W×ub):CF:=λR c j k=>b.dec R c λa u=>CH.dec R j λy h=>f R a y h λt=>k (g a y h t)
theorem qj{A T:Type}{b:Qg (List W) A Unit}{a:Nat}(C:zh O (Nb db Ib pc n Q) (Ee db Ib Q (Nb db Ib pc n Q) 4))(c:pc a=J fn)(j:fn.mode=.all){f:(R:Type)->A->G->K->(T->Option R)->Option R}{g:A->G->K->T->W×ub}
 (E:∀R a y h k,bn O fn (b.wR a ()) (CH.wR y h) k=f R a y h λt=>k (g a y h t)):mi (Nb db Ib pc (n+1) Q) a (yg b CH f g):=λR p q k r e=>by
 refine aa λl=>?_;obtain⟨a,_,rfl,m⟩:=b.ok _ _ _ _ e;obtain⟨y,h,rfl,o⟩:=CH.ok _ _ _ _ m;refine l ?_;have:=vw (fn:=fn) C k r ((E R _ _ _ k).trans o);show RK _ ((pc _).bind _) k r
 refine U c ?_;show RK _ (yt fn.mode _ _ _ _) k r
 exact U j this
noncomputable def Ck{A:Type}(b:Qg (List W) A Unit)(CH:Qg ub G K)(f:(R:Type)->A->G->K->(W->Option R)->Option R):CR:=λR c g k=>b.dec R c λa u=>CH.dec R g λy h=>f R a y h k
open Classical in
theorem Uq{A:Type}{CA:Qg (List W) A Unit}{a:Nat}(C:zh O (Nb db Ib pc n Q) (Ee db Ib Q (Nb db Ib pc n Q) 4))(hf:pc a=J fn)(hm:fn.mode=.all){f:(R:Type)->A->G->K->(W->Option R)->Option R}
 (E:∀R a y h k,bn O fn (CA.wR a ()) (CH.wR y h) k=f R a y h λt=>k (t,CH.wR y h)):Mg (Nb db Ib pc (n+1) Q) a (Ck CA CH f):=λR ws σ k r e=>by
 refine aa λnq=>?_;obtain⟨a,_,rfl,e2⟩:=CA.ok _ _ _ _ e;obtain⟨y,h,rfl,e3⟩:=CH.ok _ _ _ _ e2;refine nq ?_;have:=vw (fn:=fn) C (λp=>if p.2=CH.wR y h then k p.1 else Y) r ((E R a y h _).trans ((Gc (f R a y h) (funext λw=>Dd rfl)).trans e3))
 induction this with|mk p q e5 e6 e7=>
 refine aa λnq=>?_;subst e6;refine nq ?_;replace e7:(if p.2=CH.wR y h then k p.1 else Y)=J r:=e7
 split at e7
 ·rename_i c
  refine .mk p p.1 ?_ (c▸rfl) e7;show(pc _).bind _=_
  refine U hf ?_;show yt fn.mode _ _ _ _=_
  exact U hm e5
 ·exact ja e7
end
end
end
noncomputable section
abbrev fr{S:Type}(c:Cd W S):Cd (Option W) S:=Cd.some' c
abbrev ow:Cd (Option W) (Option W):=Cd.id
abbrev WX:=OF×OF×(List W×List W×List W×Unit)×ub
noncomputable abbrev Ae:=(List W×List W×Unit)×Unit
noncomputable def qcK:Qg (List (Bb×W)) (List W×List W×List W×Unit) (List W×List W×Unit):=.p (.fld "able" .l)<| .p (.fld "lows" .l)<| .p (.fld "highs" .l)<| .a (.fld "at" (.o .l))<| .a (.fld "counts" (.o .l)) .nil
def Ak:Qg ub WX Ae:=.p .id<| .p .id<| .cons (.obj 357 qcK) .rest
section
variable {R:Type}
noncomputable abbrev WX.wM(y:WX):List W:=y.2.2.1.1
noncomputable abbrev WX.wO(y:WX):List W:=y.2.2.1.2.1
noncomputable abbrev WX.wN(y:WX):List W:=y.2.2.1.2.2.1
noncomputable abbrev Ae.at(h:Ae):List W:=h.1.1
noncomputable abbrev Ae.co(h:Ae):List W:=h.1.2.1
noncomputable abbrev Ae.mk(a c:List W):Ae:=((a,c,()),())
def Vd(n:Int)(k:List W->Option R):Option R:=M (CD 0 n) (M (CD 0 n) (k (uw (n - 0).toNat 0)) Y) Y
def Sd(a:List W):Int:=jb (len a)
def Jl(c:List W)(o:Int)(k:W->Option R):Option R:=Vd (Sd c) λf=>ze (λv e=>H (Ua v) λi=>H (Kg c i) λa=>H (rk a (.int o)) λb=>M b (M (nb v) (e [v]) Y) (e [])) f λa=>M (Jd 4096 a) (k (.l a)) Y
end
section
variable {X:Nat->Option (List Int)} {n d:Nat} {V:Yp}
def TU:CR:=Ck (.sk (.ref 2)<| .p .int .nil) Ak λR a y h k=>Jl h.at a.1 k
theorem KO:Mg (Nb db Ib pc (n+1) X) 328 TU:=Uq .nil rfl rfl λR a y h k=>by kernel_rfl
noncomputable abbrev M1:=(List Int×List W)×List W×Option W×Unit
def qdw:Qg fc (Int×Option W×Option W×Option W×Option W×Unit) M1:=.sk (fr (.ref 2))<| .p (fr .int)<| .a (fr (.o .dic))<| .a (fr (.o .l))<| .p ow<| .a ow<| .p ow<| .p ow<| .p ow .nil
def EW{R:Type}(b:Int)(v:W)(m:M1)(h:Ae)(k:M1->Ae->Option R):Option R:=H (Ua v) λi=>M (Jd 4096 m.1.1) (M (nb v) (M (Jd 4096 m.2.1) (k ((Ql m.1.1 i,Sl m.1.1 i (.t [.int b,.int (-1)]) m.1.2),m.2.1++[v],J v,()) h) Y) Y) Y
def qH{R:Type}(a:List W)(b:Int)(m:M1)(h:Ae)(k:M1->Ae->Option R):Option R:=H (Kg a b) λr=>Nf r λc=>nh (EW b) c m h k
def zP:CB:=rj qdw Ak λR x y m h k=>qH y.wM x.1 m h k
theorem RZ:vh (Ee db Ib X V (d+1)) 3351 zP:=uj (CM:=qdw) (CH:=Ak) .nil rfl (eP:=λR x y m h k=>H (Kg y.wM x.1) λr=>Nf r k) (gP:=λv R x y m h k=>EW x.1 v m h k) (λR x y m h k=>by kernel_rfl) λv R x y m h k=>by kernel_rfl
noncomputable abbrev M3:=W×Option W×Option W×Unit
def qdy:Qg fc (Option W×(List Int×List W)×Option W×Option W×Option W×Unit) M3:=.sk (fr (.ref 2))<| .p ow<| .p (fr (.o .dic))<| .p ow<| .p ow<| .p ow<| .a (fr .id)<| .a ow<| .a ow .nil
def UO{R:Type}(w:W)(k:W->W->Option R):Option R:=M (nb w) (H (ng w) λa=>H (Wj a) λp=>H (Wj p.2) λq=>M (wy q.2) (k p.1 q.1) Y) Y
def FW{R:Type}(c:List Int×List W)(m:M3)(h:Ae)(k:M3->Ae->Option R):Option R:=H (Ua m.1) λi=>H (HB c.1 i c.2) λw=>UO w λa b=>M (nb m.1) (M (nb m.1) (H (Ua a) λx=>H (iu h.at x m.1) λe=>M (nb b) (k (b,J a,J b,()) (.mk e h.co)) Y) Y) Y
def uX{R:Type}(m:M3)(k:Bool->Option R):Option R:=H (Ua m.1) λx=>k (!Qh x 0)
def ZB{R:Type}(c:List Int×List W)(m:M3)(h:Ae)(k:M3->Ae->Option R):Option R:=U4 (λm u=>uX m) (FW c) 5000 m h k
def BC:CB:=rj qdy Ak λR x y m h k=>ZB x.2.1 m h k
theorem TZ:vh (Ee db Ib X V (d+1)) 3353 BC:=EF (CM:=qdy) (CH:=Ak) .nil rfl (tP:=λR x y m h k=>uX m k) (gP:=λR x y m h k=>FW x.2.1 m h k) (λR x y m h k=>by kernel_rfl) λR x y m h k=>by kernel_rfl
def qdA:Qg fc (Option W×Option W×W×W×Option W×Unit) M1:=.sk (fr (.ref 2))<| .p ow<| .a (fr (.o .dic))<| .a (fr (.o .l))<| .p ow<| .a ow<| .p (fr .id)<| .p (fr .id)<| .p ow .nil
def GW{R:Type}(a b v:W)(m:M1)(h:Ae)(k:M1->Ae->Option R):Option R:=H (Ua v) λx=>M (!Vk x m.1.1) (M (nb b) (M (nb a) (H (Ua v) λi=>M (Jd 4096 m.1.1) (M (nb v) (M (Jd 4096 m.2.1) (k ((Ql m.1.1 i,Sl m.1.1 i (.t [b,a]) m.1.2),m.2.1++[v],J v,()) h) Y) Y) Y) Y) Y) (k (m.1,m.2.1,J v,()) h)
def sH{R:Type}(a:List W)(b c:W)(m:M1)(h:Ae)(k:M1->Ae->Option R):Option R:=H (Ua c) λi=>H (Kg a i) λr=>Nf r λe=>nh (GW b c) e m h k
def CP:CB:=rj qdA Ak λR x y m h k=>sH y.wM x.2.2.1 x.2.2.2.1 m h k
theorem VZ:vh (Ee db Ib X V (d+1)) 3355 CP:=uj (CM:=qdA) (CH:=Ak) .nil rfl (eP:=λR x y m h k=>H (Ua x.2.2.2.1) λi=>H (Kg y.wM i) λr=>Nf r k) (gP:=λv R x y m h k=>GW x.2.2.1 x.2.2.2.1 v m h k) (λR x y m h k=>by kernel_rfl) λv R x y m h k=>by kernel_rfl
noncomputable abbrev M4:=(List Int×List W)×List W×Option W×Option W×Unit
def qdz:Qg fc (Option W×Option W×W×Option W×Unit) M4:=.sk (fr (.ref 2))<| .p ow<| .a (fr (.o .dic))<| .a (fr (.o .l))<| .p ow<| .a ow<| .p (fr .id)<| .a ow<| .p ow .nil
def FG{R:Type}(a:List W)(b v:W)(m:M4)(h:Ae)(k:M4->Ae->Option R):Option R:=sH a b v (m.1,m.2.1,m.2.2.1,()) h λm h=>k (m.1,m.2.1,m.2.2.1,J v,()) h
def ot{R:Type}(a:W)(h:Ae)(k:List W->Option R):Option R:=M (nb a) (H (Ua a) λo=>Jl h.at o λw=>Nf w k) Y
def rH{R:Type}(b:List W)(a:W)(m:M4)(h:Ae)(k:M4->Ae->Option R):Option R:=ot a h λc=>nh (FG b a) c m h k
def AP:CB:=rj qdz Ak λR x y m h k=>rH y.wM x.2.2.1 m h k
theorem UZ:vh (Ee db Ib X (Nb db Ib pc (n+1) X) (d+2)) 3354 AP:=uj (CM:=qdz) (CH:=Ak) ((zh.nil.r KO).b VZ) rfl (eP:=λR x y m h k=>ot x.2.2.1 h k) (gP:=λv R x y m h k=>FG y.wM x.2.2.1 v m h k) (λR x y m h k=>by kernel_rfl) λv R x y m h k=>by kernel_rfl
noncomputable abbrev M2:=(List Int×List W)×List W×Int×Option W×Option W×Option W×Option W×Unit
def qdx:Qg fc (Option W×Unit) M2:=.sk (fr (.ref 2))<| .p ow<| .a (fr (.o .dic))<| .a (fr (.o .l))<| .a (fr .int)<| .a ow<| .a ow<| .a ow<| .a ow .nil
def Jp{R:Type}(e f:List W)(i:W)(k:Int->Int->Option R):Option R:=H (Ua i) λa=>H (Kg e a) λc=>H (Ua i) λb=>H (Kg f b) λh=>H (Ua c) λx=>H (Ua h) λy=>k x y
def SR{R:Type}(e:List W)(i:W)(z:Int->Int)(k:List W->Option R):Option R:=H (Ua i) λa=>H (Kg e a) λc=>H (Ua c) λx=>H (Ua i) λb=>H (iu e b (.int (z x))) k
def TM{R:Type}(c a:List W)(m:M2)(h:Ae)(k:Fw M2 Ae->Option R):Option R:=H (Kg m.2.1 m.2.2.1) λb=>M (nb b) (Jp h.co a b λx y=>M (Qh x y)
 (SR h.co b (λx=>x+1) λe=>ZB m.1 (b,m.2.2.2.2.2.1,m.2.2.2.2.2.2.1,()) (.mk h.at e) λm h=>k (.ret .none h))
 (rH c b (m.1,m.2.1,m.2.2.2.1,m.2.2.2.2.2.1,()) h λe h=>k (.go (e.1,e.2.1,m.2.2.1+1,e.2.2.1,J b,e.2.2.2.1,m.2.2.2.2.2.2.1,()) h))) Y
def tX{R:Type}(m:M2)(k:Bool->Option R):Option R:=k (Qh m.2.2.1 (Sd m.2.1))
def YB{R:Type}(b a:List W)(m:M2)(h:Ae)(k:Fw M2 Ae->Option R):Option R:=V4 (λm u=>tX m) (TM b a) 5000 m h k
def AC:CB:=Rj qdx Ak λR x y m h k=>YB y.wM y.wN m h k
theorem SZ:vh (Ee db Ib X (Nb db Ib pc (n+1) X) (d+3)) 3352 AC:=TQ (CM:=qdx) (CH:=Ak) ((zh.nil.b TZ).b UZ) rfl (tP:=λR x y m h k=>tX m k) (gP:=λR x y m h k=>TM y.wM y.wN m h k) (λR x y m h k=>by kernel_rfl) λR x y m h k=>by delta BC TM ZB;generalize 5000=N;as_aux_lemma=>kernel_rfl
def Ks{R:Type}(a c:List W)(b:Int)(h:Ae)(k:W->Ae->Option R):Option R:=qH a b (([],[]),[],Y,()) h λm h=>YB a c (m.1,m.2.1,0,m.2.2.1,Y,Y,Y,()) h λr=>Fw.rec (λm h=>H (UC (.l m.2.1)) λe=>M (Jd 4096 e) (k (.l e) h) Y) (λw h=>k w h) r
def UU:CF:=yg (.sk (.ref 2)<| .p .int .nil) Ak (λR a y h k=>Ks y.wM y.wN a.1 h λw h=>k (w,h)) λu y u t=>(t.1,Ak.wR y t.2)
theorem A8:mi (Nb db Ib pc (n+2) X) 335 UU:=qj ((zh.nil.b RZ).b SZ) rfl rfl λR a y h k=>by delta AC Ks YB;generalize 5000=N;as_aux_lemma=>kernel_rfl
end
end
section
variable {R:Type}
noncomputable section
section
variable {X:Nat->Option (List Int)} {n d:Nat} {V:Yp}
noncomputable abbrev DW:=List Int×List W
noncomputable abbrev M6:=W×Option W×Unit
def qdB:Qg fc (W×DW×Unit) M6:=.sk (fr (.ref 2))<| .a (fr .id)<| .p (fr .id)<| .p (fr .dic)<| .a ow .nil
def xX(w:W)(m:M6)(k:Bool->Option R):Option R:=H (rk m.1 w) λb=>k (!b)
def HW(c:DW)(m:M6)(h:Ae)(k:M6->Ae->Option R):Option R:=H (Ua m.1) λi=>H (HB c.1 i c.2) λw=>UO w λa b=>M (nb b) (M (nb b) (H (Ua a) λx=>H (iu h.at x b) λe=>k (b,J a,()) (.mk e h.co)) Y) Y
def tH(N:Nat)(w:W)(c:DW)(m:M6)(h:Ae)(k:M6->Ae->Option R):Option R:=U4 (λm u=>xX w m) (HW c) N m h k
def EC(N:Nat):CB:=rj qdB Ak λR x y m h k=>tH N x.1 x.2.1 m h k
theorem YZ:vh (Ee db Ib X V (d+1)) 3491 (EC 5000):=EF (CM:=qdB) (CH:=Ak) .nil rfl (tP:=λR x y m h k=>xX x.1 m k) (gP:=λR x y m h k=>HW x.2.1 m h k) (λR x y m h k=>by kernel_rfl) λR x y m h k=>by kernel_rfl
def KB(N:Nat)(o w:W)(c:DW)(h:Ae)(k:W->Ae->Option R):Option R:=SR h.co o (λx=>x - 1) λa=>SR a w (λx=>x+1) λa=>tH N w c (o,Y,()) (.mk h.at a) λu h=>k .none h
def VU(N:Nat):CF:=yg (.sk (.ref 2)<| .p .id<| .p .id<| .p .dic .nil) Ak (λR a y h k=>KB N a.1 a.2.1 a.2.2.1 h λw h=>k (w,h)) λu y u t=>(t.1,Ak.wR y t.2)
theorem i7(N:Nat)(R:Type)(a:W×W×DW×Unit)(y:WX)(h:Ae)(k:W×ub->Option R):bn (Or.nil.b 3491 (EC N)) E7 [.ref 2,a.1,a.2.1,.dic a.2.2.1.1 a.2.2.1.2] (Ak.wR y h) k=KB N a.1 a.2.1 a.2.2.1 h λw h=>k (w,Ak.wR y h):=by kernel_rfl
theorem C8:mi (Nb db Ib pc (n+1) X) 349 (VU 5000):=qj (zh.nil.b YZ) rfl rfl (i7 5000)
abbrev M7:=DW×List W×Option W×Option W×Unit
def qdC:Qg fc (W×Option W×W×Unit) M7:=.sk (fr (.ref 2))<| .p (fr .id)<| .a (fr (.o .dic))<| .a (fr (.o .l))<| .p ow<| .p (fr .id)<| .a ow<| .a ow .nil
def qy(f g:List W)(a e:W)(j:Ae->ub)(v:W)(m:M7)(h:Ae)(k:Fw M7 Ae->Option R):Option R:=H (Ua v) λi=>H (Kg h.at i) λo=>M (nb o) (H (Ua v) λi=>H (Kg f i) λr=>H (pj r (j h)) λc=>H (AA e c) λb=>
 M b (H (Ua o) λx=>M (!Vk x m.1.1)
  (M (nb v) (M (nb e) (H (Ua o) λi=>M (Jd 4096 m.1.1) (M (nb o) (M (Jd 4096 m.2.1)
   (Jp h.co g o λx y=>M (Qh y x) (M (nb o) (M (nb a) (KB 5000 o a (Ql m.1.1 i,Sl m.1.1 i (.t [v,e]) m.1.2) h λw h=>H (sG w) λu=>k (.ret .none h)) Y) Y)
    (k (.go ((Ql m.1.1 i,Sl m.1.1 i (.t [v,e]) m.1.2),m.2.1++[o],J v,J o,()) h))) Y) Y) Y) Y) Y)
  (k (.go (m.1,m.2.1,J v,J o,()) h))) (k (.go (m.1,m.2.1,J v,J o,()) h))) Y
def bC(b c:List W)(a e:W)(f:Ae->ub)(m:M7)(h:Ae)(k:Fw M7 Ae->Option R):Option R:=Vd (Sd h.at) λg=>lg (qy b c a e f) g m h k
def DP:CB:=Rj qdC Ak λR x y m h k=>bC y.wM y.wO x.1 x.2.2.1 (Ak.wR y) m h k
theorem XZ:vh (Ee db Ib X (Nb db Ib pc (n+1) X) (d+1)) 3422 DP:=Sr (CM:=qdC) (CH:=Ak) (zh.nil.c C8) rfl (eP:=λR x y m h k=>Vd (Sd h.at) k) (gP:=λv R x y m h k=>qy y.wM y.wO x.1 x.2.2.1 (Ak.wR y) v m h k) (λR x y m h k=>by kernel_rfl) λv R x y m h k=>by kernel_rfl
abbrev M8:=DW×List W×Int×Option W×Option W×Option W×Unit
def qdD:Qg fc (W×Unit) M8:=.sk (fr (.ref 2))<| .p (fr .id)<| .a (fr (.o .dic))<| .a (fr (.o .l))<| .a (fr .int)<| .a ow<| .a ow<| .a ow .nil
def UM(b c:List W)(a:W)(g:Ae->ub)(m:M8)(h:Ae)(k:Fw M8 Ae->Option R):Option R:=H (Kg m.2.1 m.2.2.1) λf=>M (nb f) (bC b c a f g (m.1,m.2.1,m.2.2.2.2.1,m.2.2.2.2.2.1,()) h λr=>Fw.rec (λe h=>k (.go (e.1,e.2.1,m.2.2.1+1,J f,e.2.2.1,e.2.2.2.1,()) h)) (λw h=>k (.ret w h)) r) Y
def vX(m:M8)(k:Bool->Option R):Option R:=k (Qh m.2.2.1 (Sd m.2.1))
def aC(N:Nat)(b c:List W)(a:W)(e:Ae->ub)(m:M8)(h:Ae)(k:Fw M8 Ae->Option R):Option R:=V4 (λm u=>vX m) (UM b c a e) N m h k
def DC(N:Nat):CB:=Rj qdD Ak λR x y m h k=>aC N y.wM y.wO x.1 (Ak.wR y) m h k
theorem WZ:vh (Ee db Ib X (Nb db Ib pc (n+1) X) (d+2)) 3421 (DC 5000):=TQ (CM:=qdD) (CH:=Ak) (zh.nil.b XZ) rfl (tP:=λR x y m h k=>vX m k) (gP:=λR x y m h k=>UM y.wM y.wO x.1 (Ak.wR y) m h k) (λR x y m h k=>by kernel_rfl) λR x y m h k=>by kernel_rfl
def tq(N:Nat)(a b:List W)(w:Int)(e:Ae->ub)(h:Ae)(k:W->Ae->Option R):Option R:=aC N a b (.int w) e (([w],[.t [.int (-1),.int (-1)]]),[.int w],0,Y,Y,Y,()) h λr=>Fw.rec (λm h=>H (UC (.l m.2.1)) λc=>M (Jd 4096 c) (k (.l c) h) Y) (λw h=>k w h) r
def NH(N:Nat):CF:=yg (.sk (.ref 2)<| .p .int .nil) Ak (λR a y h k=>tq N y.wM y.wO a.1 (Ak.wR y) h λw h=>k (w,h)) λu y u t=>(t.1,Ak.wR y t.2)
theorem f7(N:Nat)(R:Type)(a:Int×Unit)(y:WX)(h:Ae)(k:W×ub->Option R):bn (Or.nil.b 3421 (DC N)) D7 [.ref 2,.int a.1] (Ak.wR y h) k=tq N y.wM y.wO a.1 (Ak.wR y) h λw h=>k (w,Ak.wR y h):=by kernel_rfl
theorem B8:mi (Nb db Ib pc (n+2) X) 342 (NH 5000):=qj (zh.nil.b WZ) rfl rfl (f7 5000)
noncomputable abbrev M9:=List W×Option W×Unit
def qdE:Qg fc (Option W×Option W×Option W×Option W×Option W×W×Option W×Unit) M9:=.sk (fr (.ref 2))<| .p ow<| .p ow<| .p ow<| .p ow<| .p ow<| .p (fr .id)<| .a (fr (.o .l))<| .p ow<| .a ow .nil
def JW(a:List W)(v:W)(m:M9)(h:Ae)(k:M9->Ae->Option R):Option R:=H (Ua v) λi=>H (Kg a i) λr=>M (nb r) (H (vv r) λb=>M (ac (len m.1+len b) 4096) (k (m.1++b,J v,()) h) Y) Y
def vH(a:List W)(b:W)(m:M9)(h:Ae)(k:M9->Ae->Option R):Option R:=ot b h λc=>nh (JW a) c m h k
def EP:CB:=rj qdE Ak λR x y m h k=>vH y.wM x.2.2.2.2.2.1 m h k
theorem a0:vh (Ee db Ib X (Nb db Ib pc (n+1) X) (d+1)) 3542 EP:=uj (CM:=qdE) (CH:=Ak) (zh.nil.r KO) rfl (eP:=λR x y m h k=>ot x.2.2.2.2.2.1 h k) (gP:=λv R x y m h k=>JW y.wM v m h k) (λR x y m h k=>by kernel_rfl) λv R x y m h k=>by kernel_rfl
def G6:Qg fc (Option W×Option W×Option W×Option W×List W×Option W×Unit) M1:=.sk (fr (.ref 2))<| .p ow<| .a (fr (.o .dic))<| .a (fr (.o .l))<| .p ow<| .p ow<| .p ow<| .p (fr .l)<| .a ow<| .p ow .nil
def KW(v:W)(m:M1)(h:Ae)(k:M1->Ae->Option R):Option R:=H (Ua v) λx=>M (!Vk x m.1.1) (H (Ua v) λi=>M (Jd 4096 m.1.1) (M (nb v) (M (Jd 4096 m.2.1) (k ((Ql m.1.1 i,Sl m.1.1 i (.bool Z) m.1.2),m.2.1++[v],J v,()) h) Y) Y) Y) (k (m.1,m.2.1,J v,()) h)
def wH(fresh:List W)(m:M1)(h:Ae)(k:M1->Ae->Option R):Option R:=M (Jd 4900 fresh) (nh KW fresh m h k) Y
def FP:CB:=rj G6 Ak λR x y m h k=>wH x.2.2.2.2.1 m h k
theorem b0:vh (Ee db Ib X V (d+1)) 3543 FP:=uj (CM:=G6) (CH:=Ak) .nil rfl (eP:=λR x y m h k=>M (Jd 4900 x.2.2.2.2.1) (k x.2.2.2.2.1) Y) (gP:=λv R x y m h k=>KW v m h k) (λR x y m h k=>by kernel_rfl) λv R x y m h k=>by kernel_rfl
abbrev lR:=DW×List W×Int×Bool×Option W×Option W×Option W×Option W×Unit
def H6:Qg fc (Option W×Unit) lR:=.sk (fr (.ref 2))<| .p ow<| .a (fr (.o .dic))<| .a (fr (.o .l))<| .a (fr .int)<| .a (fr .bool)<| .a ow<| .a ow<| .a ow<| .a ow .nil
def kF(a:List W)(h:Ae)(k:List W->Option R):Option R:=Vd (Sd a) λc=>ze (λv b=>Jp h.co a v λx y=>M (Qh y x) (M (nb v) (b [v]) Y) (b [])) c λb=>M (Jd 4096 b) (k b) Y
def uC(a:List W)(c:W)(m:lR)(r:Bool)(fresh:List W)(h:Ae)(k:lR->Ae->Option R):Option R:=vH a c (fresh,m.2.2.2.2.2.2.2.1,()) h λm1 h=>wH m1.1 (m.1,m.2.1,m.2.2.2.2.2.2.1,()) h λb h=>k (b.1,b.2.1,m.2.2.1+1,r,J c,J (.l m1.1),b.2.2.1,m1.2.1,()) h
def IW(a c b:List W)(m:lR)(h:Ae)(k:lR->Ae->Option R):Option R:=H (Kg m.2.1 m.2.2.1) λe=>M (nb e) (M (!m.2.2.2.1) (Jp h.co b e λx y=>M (Qh x y) (kF c h λf=>M (ac (len ([]:List W)+len f) 4096) (uC a e m Z ([]++f) h k) Y) (uC a e m m.2.2.2.1 [] h k)) (uC a e m m.2.2.2.1 [] h k)) Y
def yX(m:lR)(k:Bool->Option R):Option R:=k (Qh m.2.2.1 (Sd m.2.1))
def uH(N:Nat)(b c a:List W)(m:lR)(h:Ae)(k:lR->Ae->Option R):Option R:=U4 (λm u=>yX m) (IW b c a) N m h k
def FC(N:Nat):CB:=rj H6 Ak λR x y m h k=>uH N y.wM y.wO y.wN m h k
theorem ZZ:vh (Ee db Ib X (Nb db Ib pc (n+1) X) (d+2)) 3541 (FC 5000):=EF (CM:=H6) (CH:=Ak) ((zh.nil.b a0).b b0) rfl (tP:=λR x y m h k=>yX m k) (gP:=λR x y m h k=>IW y.wM y.wO y.wN m h k) (λR x y m h k=>by kernel_rfl) λR x y m h k=>by kernel_rfl
def Tl(N:Nat)(b c a:List W)(o:Int)(h:Ae)(k:List W->Bool->Ae->Option R):Option R:=uH N b c a (([o],[.bool Z]),[.int o],0,ua,Y,Y,Y,Y,()) h λm h=>H (UC (.dic m.1.1 m.1.2)) λe=>M (Jd 4096 e) (k e m.2.2.2.1 h) Y
def OH(N:Nat):CF:=yg (.sk (.ref 2)<| .p .int .nil) Ak (λR a y h k=>Tl N y.wM y.wO y.wN a.1 h λb r h=>k (b,r,h)) λu y u t=>(.t [.l t.1,.bool t.2.1],Ak.wR y t.2.2)
theorem j7(N:Nat)(R:Type)(a:Int×Unit)(y:WX)(h:Ae)(k:W×ub->Option R):bn (Or.nil.b 3541 (FC N)) F7 [.ref 2,.int a.1] (Ak.wR y h) k=Tl N y.wM y.wO y.wN a.1 h λb r h=>k (.t [.l b,.bool r],Ak.wR y h):=by kernel_rfl
theorem D8:mi (Nb db Ib pc (n+2) X) 354 (OH 5000):=qj (zh.nil.b ZZ) rfl rfl (j7 5000)
end
end
end
section
variable {R:Type}
noncomputable section
def Sh(O:Or)(V:Rg)(b:List W):Option W:=M (Ob b) (bn O V b [] λp=>ma p.2 (J p.1) λu u=>Y) Y
def sh(v:List W->Option W):CR:=λu b u k=>H (v b) k
def OP(v:List W->Option W):CF:=λu b c k=>H (v b) λw=>k (w,c)
section
variable {X:Nat->Option (List Int)} {n d a:Nat} {T:Yp} {Q:Nat->fc->ub->al} {O:Or} {V:Rg} {S:List W->Option W}
theorem Yn(C:zh O (Nb db Ib pc n λy=>Y) (Ee db Ib (λy=>Y) (Nb db Ib pc n λy=>Y) 4))(h:pc a=J V)(i:V.mode=.pure):Mg (Nb db Ib pc (n+1) X) a (sh (Sh O V)):=λR c j k r e=>by
 refine dp e λw b l=>?_;unfold Sh at b
 induction f:Ob c with
 |false=>rw[f]at b;exact ja b|true=>
  rw[f]at b;replace b:bn O V c [] (λp=>ma p.2 (J p.1) λy y=>Y)=J w:=b
  induction vw (fn:=V) C _ w b with|mk p q m o g=>
  subst o;obtain⟨u,s⟩:=p
  induction s using ma with
  |cons=>exact ja g|nil=>
   obtain rfl:=ba g;refine .mk (u,j) u ?_ rfl l;show(pc a).bind _=_
   refine U h ?_;show yt V.mode _ _ _ _=_
   refine U i ?_;show(Ge (Ob c)).bind _=_
   refine U (wg f) ?_;show(Vo _ _ _ _ _ _ _).bind _=_
   refine U m ?_;rfl
theorem Q9(h:Mg T a (sh S)):mi T a (OP S):=λR b c=>Rx.e (h R b c)
noncomputable def Or.v(O:Or)(a:Nat)(v:List W->Option W):Or:=(O.r a (sh v)).c a (OP v)
theorem zh.v(C:zh O T Q)(h:Mg T a (sh S)):zh (O.v a S) T Q:=(C.r h).c (Q9 h)
def qel:=Sh .nil qdP
def qem:=Sh .nil qdQ
def qaM:=Sh .nil qdR
def qen:=Sh .nil qdS
def qaN:=Sh (Or.nil.v 47 qen) qdT
def qaO:=Sh .nil qdU
def qcZ:=Sh .nil qdV
def qda:=Sh .nil qdW
def qeo:=Sh ((Or.nil.v 66 qcZ).v 71 qda) qdX
def qep:=Sh .nil qdY
def qdb:=Sh .nil qdZ
def JK:=Sh ((((Or.nil.v 66 qcZ).v 71 qda).v 78 qeo).v 85 qep) qea
def iD:=Sh (Or.nil.v 99 JK) B7
def IQ:=Sh ((Or.nil.v 28 qel).v 35 qem) C7
def JQ:=Sh .nil J7
theorem qcB:Mg (Nb db Ib pc (n+1) X) 28 (sh qel):=Yn .nil rfl rfl
theorem qcC:Mg (Nb db Ib pc (n+1) X) 35 (sh qem):=Yn .nil rfl rfl
theorem qcD:Mg (Nb db Ib pc (n+1) X) 40 (sh qaM):=Yn .nil rfl rfl
theorem qcE:Mg (Nb db Ib pc (n+1) X) 47 (sh qen):=Yn .nil rfl rfl
theorem qcF:Mg (Nb db Ib pc (n+2) X) 54 (sh qaN):=Yn (zh.nil.v qcE) rfl rfl
theorem qcG:Mg (Nb db Ib pc (n+1) X) 61 (sh qaO):=Yn .nil rfl rfl
theorem U8:Mg (Nb db Ib pc (n+1) X) 66 (sh qcZ):=Yn .nil rfl rfl
theorem V8:Mg (Nb db Ib pc (n+1) X) 71 (sh qda):=Yn .nil rfl rfl
theorem qcH:Mg (Nb db Ib pc (n+2) X) 78 (sh qeo):=Yn ((zh.nil.v U8).v V8) rfl rfl
theorem qcI:Mg (Nb db Ib pc (n+1) X) 85 (sh qep):=Yn .nil rfl rfl
theorem qcJ:Mg (Nb db Ib pc (n+1) X) 92 (sh qdb):=Yn .nil rfl rfl
theorem W8:Mg (Nb db Ib pc (n+3) X) 99 (sh JK):=Yn ((((zh.nil.v U8).v V8).v qcH).v qcI) rfl rfl
theorem l8:Mg (Nb db Ib pc (n+4) X) 106 (sh iD):=Yn (zh.nil.v W8) rfl rfl
theorem YW:Mg (Nb db Ib pc (n+2) X) 309 (sh IQ):=Yn ((zh.nil.v qcB).v qcC) rfl rfl
theorem O8:Mg (Nb db Ib pc (n+1) X) 451 (sh JQ):=Yn .nil rfl rfl
abbrev Ff:=List W×List W×List W×List W×DW×Int×Bool×List W×Unit
def B9:Qg (List (Bb×W)) Unit Ff:=.a (.fld "domains" (.o .l))<| .a (.fld "firsts" (.o .l))<| .a (.fld "trail" (.o .l))<| .a (.fld "marks" (.o .l))<| .a (.fld "news" (.o .dic))<| .a (.fld "speaker" .int)<| .a (.fld "is_failed" .bool)<| .a (.fld "clash" .t) .nil
abbrev qeD:=Unit×ub
abbrev qeC:=Ff×Unit
def fu:Qg ub qeD qeC:=.cons (.obj 256 B9) .rest
noncomputable abbrev Ff.wL(s:Ff):List W:=s.1
noncomputable abbrev Ff.trail(s:Ff):List W:=s.2.2.1
noncomputable abbrev Ff.news(s:Ff):DW:=s.2.2.2.2.1
noncomputable abbrev Ff.spk(s:Ff):Int:=s.2.2.2.2.2.1
noncomputable abbrev Ff.bad(s:Ff):Bool:=s.2.2.2.2.2.2.1
noncomputable abbrev Ff.put(s:Ff)(b c:List W)(e:DW):Ff:=(b,s.2.1,c,s.2.2.2.1,e,s.2.2.2.2.2)
noncomputable abbrev Ff.fails(s:Ff)(c:List W):Ff:=(s.1,s.2.1,s.2.2.1,s.2.2.2.1,s.2.2.2.2.1,s.2.2.2.2.2.1,Z,c,())
def cx(b:List W)(x:W)(k:W->Option R):Option R:=H (Ua x) λi=>H (Kg b i) k
def MU:CR:=Ck (.sk (.ref 0)<| .p .id .nil) fu λR a y h k=>cx h.1.wL a.1 λd=>M (nb d) (k d) Y
theorem mH:Mg (Nb db Ib pc (n+1) X) 141 MU:=Uq .nil rfl rfl λR a y h k=>by kernel_rfl
def O7(b:List W)(x v:W)(k:W->Option R):Option R:=cx b x λd=>M (BA [d,v]) (H (qaN [d,v]) λw=>M (nb w) (k w) Y) Y
def NU:CR:=Ck (.sk (.ref 0)<| .p .id<| .p .id .nil) fu λR a y h k=>O7 h.1.wL a.1 a.2.1 k
theorem p8:Mg (Nb db Ib pc (n+3) X) 169 NU:=Uq (zh.nil.v qcF) rfl rfl λR a y h k=>by kernel_rfl
def WQ(b:List W)(x:W)(k:W->Option R):Option R:=cx b x λd=>M (BA [d]) (H (qaM [d]) λw=>M (nb w) (k w) Y) Y
def OU:CR:=Ck (.sk (.ref 0)<| .p .id .nil) fu λR a y h k=>WQ h.1.wL a.1 k
theorem q8:Mg (Nb db Ib pc (n+2) X) 190 OU:=Uq (zh.nil.v qcD) rfl rfl λR a y h k=>by kernel_rfl
def Qo(r:W)(c:Ff->ub)(h:Ff)(k:Ff->Option R):Option R:=H (du r (c (h.fails h.2.2.2.2.2.2.2.1))) λb=>M (Jd 4096 b) (k (h.fails b)) Y
def aA:CF:=yg (.sk (.ref 0)<| .p .id .nil) fu (λR a y h k=>Qo a.1 (λs=>fu.wR y (s,())) h.1 k) λu y u s=>(.bool ua,fu.wR y (s,()))
theorem TB:mi (Nb db Ib pc (n+1) X) 225 aA:=qj .nil rfl rfl λR a y h k=>by kernel_rfl
def qbg(e:List W)(f:W)(c:Ff->ub)(h:Ff)(k:Bool×Ff->Option R):Option R:=H (qax f .none) λb=>M b
 (H (qdb [.t e]) λw=>M (nb w) (Qo (.t ([]++[w])) c h λs=>k (ua,s)) Y)
 (H (qdb [.t e]) λw=>M (nb w) (rL f (.t [w]) (c h) λr=>M (nb r) (Qo r c h λs=>k (ua,s)) Y) Y)
def rp(e:List W)(f g:W)(j:Ff->ub)(h:Ff)(k:Bool×Ff->Option R):Option R:=H (Kg e 0) λx=>M (nb x) (cx h.wL x λc=>M (nb c) (M (BA [.t e,c]) (H (JK [.t e,c]) λfresh=>M (nb fresh) (H (rk fresh (.t [])) λb=>M b (qbg e f j h k) (H (rk fresh c) λb=>M b (k (Z,h))
 (M (nb x) (M (nb c) (M (nb f) (M (nb g) (M (Jd 4096 h.trail) (M (nb fresh) (M (nb fresh) (H (Ua x) λi=>H (iu h.wL i fresh) λl=>H (Ua x) λi=>M (Jd 4096 h.news.1) (k (Z,h.put l (h.trail++[.t [x,c,.t e,f,g]]) (Ql h.news.1 i,Sl h.news.1 i (.bool Z) h.news.2))) Y) Y) Y) Y) Y) Y) Y) Y))) Y) Y) Y) Y
def PU:CF:=yg (.sk (.ref 0)<| .p .t<| .p .id<| .p .id .nil) fu (λR a y h k=>rp a.1 a.2.1 a.2.2.1 (λs=>fu.wR y (s,())) h.1 k) λu y u t=>(.bool t.1,fu.wR y (t.2,()))
theorem XW:mi (Nb db Ib pc (n+4) X) 204 PU:=qj (((zh.nil.v qcJ).v W8).c TB) rfl rfl λR a y h k=>by kernel_rfl
end
end
end
section
variable {R:Type}
noncomputable section
noncomputable def qG(m:Nat):List W->(List W->Option R)->Option R
 |[],k=>k []|w::b,k=>H (wl m w) λv=>qG m b λc=>k (v::c)
def uF(f:CF):CF:=λR b c k=>H (uq b) λm=>M (gh m (len c)) (qG m b λe=>M (oe (c.drop m)) (f R e (c.drop m) λp=>M (Hd p.1) (M (oe (p.2.take (c.length - m))) (k (p.1,c.take m++p.2.take (c.length - m))) Y) Y) Y) Y
section
variable {V:Nat->Option (List Int)} {n d a:Nat} {P:Yp} {Q:Nat->fc->ub->al} {O:Or} {S:Rg} {X L N T A:Type}
theorem nv{m:Nat}:{b:List W}->Re (R:=R) (qG m b) (gB m b)
 |[]=>Rq.ret rfl|w::b=>Rq.wW λv=>nv.map λc=>rfl
theorem Qs{b:Qg (List W) A Unit}{c:Qg ub L N}(C:zh O (Nb db Ib pc n V) (Ee db Ib V (Nb db Ib pc n V) 4))(l:pc a=J S)(o:S.mode=.sub){f:(R:Type)->A->L->N->(T->Option R)->Option R}{g:A->L->N->T->W×ub}
 (E:∀R a y h k,bn O S (b.wR a ()) (c.wR y h) k=f R a y h λt=>k (g a y h t)):mi (Nb db Ib pc (n+1) V) a (uF (yg b c f g)):=λR i q=>by
 show Re _ ((pc a).bind _)
 refine U l ?_;show Re _ (yt S.mode _ _ _ _)
 refine U o (Rq.wW λm=>Rq.grd λj=>?_);rw[Qe]at j;refine U (wg (decide_eq_true (gb j))) (nv.bind λi=>Rq.grd λs=>(U (wg s) ?_));refine Re.bind (f:=yg b c f g R i (q.drop m)) (λk r e=>?_) λp=>Rq.grd λt=>Rq.grd λu=>?_
 ·refine aa λv=>?_
  obtain⟨a,_,rfl,w⟩:=b.ok _ _ _ _ e;obtain⟨y,h,x,z⟩:=c.ok _ _ _ _ w;exact v (Ed x (vw (fn:=S) C k r ((E R _ _ _ k).trans z)))
 ·show Re _ ((Ge _).map _)
  exact U (wg (Aa.mpr ⟨t,u⟩)) (Rq.ret rfl)
def mV(f:CR):CR:=λR b c k=>H (uq b) λm=>M (gh m (len c)) (qG m b λe=>M (oe (c.drop m)) (f R e (c.drop m) λw=>M (Hd w) (k w) Y) Y) Y
theorem SY{c:Type}{b:Bool}{x:Option c}{r:c}(h:M b x Y=J r):b=Z/\x=J r:=by
 induction b with
 |true=>exact⟨rfl,h⟩|false=>exact ja h
open Classical in
theorem kA{CA:Qg (List W) A Unit}{CH:Qg ub L N}(C:zh O (Nb db Ib pc n V) (Ee db Ib V (Nb db Ib pc n V) 4))(hf:pc a=J S)(hm:S.mode=.sub){f:(R:Type)->A->L->N->(W->Option R)->Option R}
 (E:∀R a y h k,bn O S (CA.wR a ()) (CH.wR y h) k=f R a y h λw=>k (w,CH.wR y h)):Mg (Nb db Ib pc (n+1) V) a (mV (Ck CA CH f)):=λR ws σ k r e=>by
 refine aa λnq=>(dp e λm e1 e=>?_);obtain⟨hl,e⟩:=SY e;refine nq ?_;rw[Qe]at hl
 induction nv _ _ e with|mk vs vs' e2 q e=>
 refine aa λnq=>?_;subst q;obtain⟨hp,e⟩:=SY e;obtain⟨a,_,e3,e⟩:=CA.ok _ _ _ _ e;obtain⟨y,h,e4,e⟩:=CH.ok _ _ _ _ e;refine nq ?_
 induction vw (fn:=S) C (λp=>if p.2=CH.wR y h then M (Hd p.1) (k p.1) Y else Y) r ((E R a y h _).trans ((Gc (f R a y h) (funext λw=>Dd rfl)).trans e))with|mk p q e5 e6 e7=>
 refine aa λnq=>?_;subst e6;refine nq ?_;replace e7:(if p.2=CH.wR y h then M (Hd p.1) (k p.1) Y else Y)=J r:=e7
 split at e7
 ·rename_i c
  obtain⟨hq,e7⟩:=SY e7;refine .mk (p.1,σ) p.1 ?_ rfl e7;show(pc _).bind _=_
  refine U hf ?_;show yt S.mode _ _ _ _=_
  refine U hm ?_;show(uq ws).bind _=_
  refine U e1 ?_;show(Ge (decide (m<=σ.length))).bind _=_
  refine U (wg (decide_eq_true (gb hl))) ?_;show(gB m ws).bind _=_
  refine U e2 ?_;show(Ge (oe (σ.drop m))).bind _=_
  refine U (wg hp) (Ed e3 (Ed e4 ?_));show(Vo _ _ _ _ _ _ _).bind _=_
  refine U e5 ?_;show(Ge (Hd p.1&&oe (p.2.take (σ.length - m)))).map (λu=>(p.1,σ.take m++p.2.take (σ.length - m)))=_
  refine U c (U e4 (U (uD (by rw[Mm];exact Gb _):(σ.drop m).take (σ.length - m)=σ.drop m) (U hq (U hp ?_))));show J (p.1,σ.take m++σ.drop m)=_
  exact U (List.take_append_drop _ _) rfl
 ·exact ja e7
def iA(e:List W)(r:W)(b:Ff->ub)(h:Ff)(k:Bool×Ff->Option R):Option R:=H (du r (b h)) λc=>M (Jd 4096 c) (rp e (.t c) (.int h.spk) b h k) Y
def QU:CF:=yg (.sk (.ref 0)<| .p .t<| .p .id .nil) fu (λR a y h k=>iA a.1 a.2.1 (λs=>fu.wR y (s,())) h.1 k) λu y u t=>(.bool t.1,fu.wR y (t.2,()))
theorem s8:mi (Nb db Ib pc (n+5) V) 211 QU:=qj (zh.nil.c XW) rfl rfl λR a y h k=>by kernel_rfl
def KH:CF:=uF (yg (.sk (.ref 0)<| .p .t .nil) fu (λR a y h k=>rp a.1 .none (.int (-1)) (λs=>fu.wR y (s,())) h.1 k) λu y u t=>(.bool t.1,fu.wR y (t.2,())))
theorem t8:mi (Nb db Ib pc (n+5) V) 218 KH:=Qs (zh.nil.c XW) rfl rfl λR a y h k=>by kernel_rfl
def fN(b:List W)(h:Ff)(k:W->Option R):Option R:=H (Kg b 0) λx=>cx h.wL x λd=>M (BA [.t b,d]) (H (iD [.t b,d]) λw=>M (nb w) (k w) Y) Y
def JH:CR:=mV (Ck (.sk (.ref 0)<| .p .t .nil) fu λR a y h k=>fN a.1 h.1 k)
theorem r8:Mg (Nb db Ib pc (n+5) V) 197 JH:=kA (zh.nil.v l8) rfl rfl λR a y h k=>by kernel_rfl
def jP(h:Ff)(k:Ff->Option R):Option R:=M (Jd 4096 h.2.2.2.1) (k (h.1,h.2.1,h.2.2.1,h.2.2.2.1++[.int (Sd h.trail)],h.2.2.2.2)) Y
def LH:CF:=uF (yg (.sk (.ref 0) .nil) fu (λR a y h k=>jP h.1 k) λu y h s=>(.none,fu.wR y (s,())))
theorem u8:mi (Nb db Ib pc (n+1) V) 232 LH:=Qs .nil rfl rfl λR a y h k=>by kernel_rfl
def P9(c:W)(e:Ff->ub)(h:Ff)(k:W×Ff->Option R):Option R:=M (nb c) (M (Jd 4096 h.1) (M (nb c) (M (Jd 4096 h.2.1) (H (rk c (.t [])) λb=>M b
 (Qo (.t []) e (h.1++[c],h.2.1++[c],h.2.2) λs=>k (.int (Sd s.1 - 1),s))
 (k (.int (Sd (h.1++[c]) - 1),(h.1++[c],h.2.1++[c],h.2.2)))) Y) Y) Y) Y
def IH:CF:=uF (yg (.sk (.ref 0)<| .p .id .nil) fu (λR a y h k=>P9 a.1 (λs=>fu.wR y (s,())) h.1 k) λu y u t=>(t.1,fu.wR y (t.2,())))
theorem n8:mi (Nb db Ib pc (n+2) V) 127 IH:=Qs (zh.nil.c TB) rfl rfl λR a y h k=>by kernel_rfl
noncomputable def rX:Ff:=([],[],[],[],([],[]),-1,ua,[],())
def HH:CF:=uF (yg (.sk (.ref 0) .nil) (.cons (.obj 256 .nil) .nil) (λR u u u k=>k ()) λu y u u=>(.none,fu.wR ((),[]) (rX,())))
theorem m8:mi (Nb db Ib pc (n+1) V) 120 HH:=Qs .nil rfl rfl λR a y h k=>by kernel_rfl
def LU:CR:=Ck (.sk (.ref 0) .nil) fu λR a y h k=>k (.int (Sd h.1.wL))
theorem o8:Mg (Nb db Ib pc (n+1) V) 134 LU:=Uq .nil rfl rfl λR a y h k=>by kernel_rfl
end
end
end
section
variable {R:Type}
noncomputable section
noncomputable abbrev ur:=W×W×W×List W×List W×List W×List W×List W×Unit
def A7(w:W):Option Unit:=H (Li w) λb=>M b Y (J ())
def Cd.fls:Cd W Unit:=.op A7 (λu=>.bool ua) λa s e=>by
 induction a using W.casesOn<;>first|exact ja e|skip
 induction b<;>first|rfl|exact ja e
def i4:Qg (List (Bb×W)) ur Unit:=.p (.fld "number" .id)<| .p (.fld "scope" .id)<| .p (.fld "strength" .id)<| .p (.fld "taken" .t)<| .p (.fld "rows" .t)<| .p (.fld "wanted" (.o .l))<| .p (.fld "lows" (.o .l))<| .p (.fld "highs" (.o .l))<| .sk (.fld "has_twins" .fls) .nil
noncomputable abbrev ur.wQ(x:ur):List W:=x.2.2.2.1
noncomputable abbrev ur.rows(x:ur):List W:=x.2.2.2.2.1
noncomputable abbrev ur.wP(x:ur):List W:=x.2.2.2.2.2.1
noncomputable abbrev ur.wO(x:ur):List W:=x.2.2.2.2.2.2.1
noncomputable abbrev ur.wN(x:ur):List W:=x.2.2.2.2.2.2.2.1
abbrev Y2:=Unit×ur×ub
abbrev H2:=Ff×Unit×Unit
def c2:Qg ub Y2 H2:=.cons (.obj 256 B9)<| .cons (.obj 435 i4) .rest
abbrev Y3:=Unit×ur×(List W×List W×List W×Unit)×Unit
abbrev H3:=Ff×Unit×(List W×List W×Unit)×Unit
def c3:Qg ub Y3 H3:=.cons (.obj 256 B9)<| .cons (.obj 435 i4)<| .cons (.obj 357 qcK) .nil
noncomputable abbrev Y3.ca(y:Y3):ur:=y.2.1
noncomputable abbrev Y3.wM(y:Y3):List W:=y.2.2.1.1
noncomputable abbrev Y3.wO(y:Y3):List W:=y.2.2.1.2.1
noncomputable abbrev Y3.wN(y:Y3):List W:=y.2.2.1.2.2.1
noncomputable abbrev H3.st(h:H3):Ff:=h.1
noncomputable abbrev H3.pl(h:H3):Ae:=(h.2.2.1,())
noncomputable abbrev H3.wX(h:H3)(p:Ae):H3:=(h.1,(),p.1,())
noncomputable abbrev H3.putS(h:H3)(s:Ff):H3:=(s,(),h.2.2.1,())
def Or.rc(O:Or)(a:Nat)(f:CR):Or:=(O.r a f).c a λR c b k=>f R c b λw=>k (w,b)
section
variable {X:Nat->Option (List Int)} {n d a:Nat} {V:Yp} {T:Nat->fc->ub->al} {O:Or}
theorem zh.rc(C:zh O V T){f:CR}(h:Mg V a f):zh (O.rc a f) V T:=(C.r h).c λR b c=>Rx.e (h R b c)
def TY(f c:List W)(x:W)(k:List W->Option R):Option R:=Vd (Sd c) λg=>ze (λv e=>M (nb x) (H (Ua v) λi=>H (Kg c i) λw=>M (nb w) (O7 f x w λr=>H (Li r) λb=>M b (M (nb v) (e [v]) Y) (e [])) Y) Y) g λb=>M (Jd 4096 b) (k b) Y
def QO(e b:List W)(x:W)(k:List W->Option R):Option R:=TY e b x λc=>M (nb x) (WQ e x λw=>H (Ua w) λp=>M (Qh (Sd c) p) (M (Jd 4096 (c++[.int (Sd b)])) (k (c++[.int (Sd b)])) Y) (k c)) Y
def QH:CR:=Ck (.sk (.ref 1)<| .sk (.ref 0)<| .p .id .nil) c2 λR a y h k=>QO h.1.wL y.2.1.wP a.1 λb=>k (.l b)
theorem G8:Mg (Nb db Ib pc (n+4) X) 389 QH:=Uq ((zh.nil.r p8).r q8) rfl rfl λR a y h k=>by kernel_rfl
noncomputable abbrev JR:=List W×Option W×Option W×Unit
def qeK:Qg fc (Option W×Unit) JR:=.sk (fr (.ref 1))<| .sk (fr (.ref 0))<| .sk (fr (.ref 2))<| .p ow<| .a (fr (.o .l))<| .a ow<| .a ow .nil
def I6:Qg fc (Option W×W×Unit) (List W×Option W×Unit):=.sk (fr (.ref 1))<| .sk (fr (.ref 0))<| .sk (fr (.ref 2))<| .p ow<| .a (fr (.o .l))<| .p (fr .id)<| .a ow .nil
def sF(x d:W)(k:W->Option R):Option R:=M (BA [x,d]) (H (IQ [x,d]) k) Y
def t7(fr:List W)(s:W)(k:List W->Option R):Option R:=M (nb s) (H (vv s) λb=>M (ac (len fr+len b) 4096) (k (fr++b)) Y) Y
def uy(b:List W)(h:H3)(v:W)(m:List W×Option W×Unit)(u:Unit)(k:List W×Option W×Unit->Unit->Option R):Option R:=H (Ua v) λi=>H (Kg b i) λx=>H (Ua v) λi=>H (Kg b i) λc=>M (nb c) (cx h.st.wL c λd=>M (nb d) (sF x d λs=>t7 m.1 s λr=>k (r,J v,()) u) Y) Y
def gX(b:List W)(h:H3)(o:W)(m:List W×Option W×Unit)(u:Unit)(k:List W×Option W×Unit->Unit->Option R):Option R:=ot o h.pl λc=>nh (uy b h) c m u k
def JP:CB:=rj I6 c3.pas λR x y m u k=>gX y.1.ca.wQ y.2 x.2.1 m u k
theorem u0:vh (Ee db Ib X (Nb db Ib pc (n+2) X) (d+1)) 4082 JP:=uj (CM:=I6) (CH:=c3.pas) (((zh.nil.r KO).rc mH).v YW) rfl (eP:=λR x y m h k=>ot x.2.1 y.2.pl k) (gP:=λv R x y m h k=>uy y.1.ca.wQ y.2 v m h k) (λR x y m h k=>by kernel_rfl) λv R x y m h k=>by kernel_rfl
def J6:Qg fc (W×Unit) JR:=.sk (fr (.ref 1))<| .sk (fr (.ref 0))<| .sk (fr (.ref 2))<| .p (fr .id)<| .a (fr (.o .l))<| .a ow<| .a ow .nil
def GG(b:List W)(h:H3)(v:W)(m:JR)(u:Unit)(k:JR->Unit->Option R):Option R:=gX b h v (m.1,m.2.2.1,()) u λm u=>k (m.1,J v,m.2.1,()) u
def eX(b:List W)(h:H3)(os:W)(m:JR)(u:Unit)(k:JR->Unit->Option R):Option R:=Nf os λc=>nh (GG b h) c m u k
def IP:CB:=rj J6 c3.pas λR x y m u k=>eX y.1.ca.wQ y.2 x.1 m u k
theorem r0:vh (Ee db Ib X (Nb db Ib pc (n+2) X) (d+2)) 4081 IP:=uj (CM:=J6) (CH:=c3.pas) (zh.nil.b u0) rfl (eP:=λR x y m h k=>Nf x.1 k) (gP:=λv R x y m h k=>GG y.1.ca.wQ y.2 v m h k) (λR x y m h k=>by kernel_rfl) λv R x y m h k=>by kernel_rfl
def Wx(b:List W)(h:H3)(os:W)(k:List W->Option R):Option R:=eX b h os ([],Y,Y,()) () λm u=>k m.1
def TH:CR:=Ck (.sk (.ref 1)<| .sk (.ref 0)<| .sk (.ref 2)<| .p .id .nil) c3 λR a y h k=>Wx y.ca.wQ h a.1 λr=>k (.l r)
theorem ZW:Mg (Nb db Ib pc (n+3) X) 408 TH:=Uq (zh.nil.b r0) rfl rfl λR a y h k=>by kernel_rfl
noncomputable abbrev UX:=List W×Option W×Unit
def K6:Qg fc (List W×Unit) UX:=.sk (fr (.ref 1))<| .sk (fr (.ref 2))<| .p (fr .l)<| .a (fr (.o .l))<| .a ow .nil
def A6(c b os:List W)(v:W)(k:List W->Option R):Option R:=M (Jd 4900 os) (ze (λo e=>H (Ua v) λi=>H (Kg c i) λx=>M (nb x) (H (Ua o) λj=>H (Kg b j) λw=>M (nb w) (e [.t [x,.str "!=",w]]) Y) Y) os λe=>M (Jd 4096 e) (k e) Y) Y
def HG(e c os:List W)(h:H3)(v:W)(m:UX)(u:Unit)(k:UX->Unit->Option R):Option R:=H (Ua v) λi=>H (Kg h.pl.at i) λa=>H (Ua a) λx=>H (AA (.int x) (.l os)) λb=>M (!b) (A6 e c os v λf=>M (ac (len m.1+len f) 4096) (k (m.1++f,J v,()) u) Y) (k (m.1,J v,()) u)
def hX(b c os:List W)(h:H3)(m:UX)(u:Unit)(k:UX->Unit->Option R):Option R:=Vd (Sd b) λe=>nh (HG b c os h) e m u k
def LP:CB:=rj K6 c3.pas λR x y m u k=>hX y.1.ca.wQ y.1.ca.wP x.1 y.2 m u k
theorem w0:vh (Ee db Ib X V (d+1)) 4131 LP:=uj (CM:=K6) (CH:=c3.pas) .nil rfl (eP:=λR x y m h k=>Vd (Sd y.1.ca.wQ) k) (gP:=λv R x y m h k=>HG y.1.ca.wQ y.1.ca.wP x.1 y.2 v m h k) (λR x y m h k=>by kernel_rfl) λv R x y m h k=>by kernel_rfl
def wt(c b os:List W)(h:H3)(k:List W->Option R):Option R:=hX c b os h ([],Y,()) () λm u=>k m.1
def bA:CR:=Ck (.sk (.ref 1)<| .sk (.ref 2)<| .p .l .nil) c3 λR a y h k=>wt y.ca.wQ y.ca.wP a.1 h λr=>k (.l r)
theorem aX:Mg (Nb db Ib pc (n+1) X) 413 bA:=Uq (zh.nil.b w0) rfl rfl λR a y h k=>by kernel_rfl
end
end
end
section
variable {R:Type}
noncomputable section
section
variable {X:Nat->Option (List Int)} {n d a:Nat} {T:Yp} {V:Nat->fc->ub->al} {O:Or}
noncomputable abbrev qeF:=Int×Option W×Option W×Option W×Option W×List W×Option W×W×List W×Unit
def N6:Qg fc qeF (Option W×Unit):=.sk (fr (.ref 1))<| .sk (fr (.ref 0))<| .sk (fr (.ref 2))<| .p (fr .int)<| .p ow<| .p ow<| .p ow<| .p ow<| .p (fr .l)<| .p ow<| .p (fr .id)<| .a ow<| .p (fr .l) .nil
abbrev Kw(R:Type):=W->H3->Option R
def WM(x:W)(b:List W)(y:Y3)(v:W)(m:Option W×Unit)(h:H3)(k:Fw (Option W×Unit) H3->Option R):Option R:=M (nb x) (M (nb v) (iA [x,.str "!=",v] (.l b) (λs=>c3.wR y (h.putS s)) h.st λt=>M (!t.1) (k (.ret (.bool ua) (h.putS t.2))) (k (.go (J v,()) (h.putS t.2)))) Y) Y
def tG(o:Int)(b c:List W)(k:List W->Option R):Option R:=M (Qh o (Sd b)) (H (Kg b o) λw=>M (nb w) (k [w]) Y) (M (Jd 4900 c) (k c) Y)
def jX(o:Int)(x:W)(b c:List W)(y:Y3)(m:Option W×Unit)(h:H3)(k:Fw (Option W×Unit) H3->Option R):Option R:=tG o y.ca.wP c λe=>lg (WM x b y) e m h k
def MP:CB:=Rj N6 c3 λR x y m h k=>jX x.1 x.2.2.2.2.2.2.2.1 x.2.2.2.2.2.1 x.2.2.2.2.2.2.2.2.1 y m h k
theorem A0:vh (Ee db Ib X (Nb db Ib pc (n+5) X) (d+1)) 4182 MP:=Sr (CM:=N6) (CH:=c3) (zh.nil.c s8) rfl (eP:=λR x y m h k=>tG x.1 y.ca.wP x.2.2.2.2.2.2.2.2.1 k) (gP:=λv R x y m h k=>WM x.2.2.2.2.2.2.2.1 x.2.2.2.2.2.1 y v m h k) (λR x y m h k=>by kernel_rfl) λv R x y m h k=>by kernel_rfl
noncomputable abbrev T3:=Option W×Option W×Option W×Option W×Unit
noncomputable abbrev qeG:=Int×Option W×Option W×List W×Option W×List W×Unit
def O6:Qg fc qeG T3:=.sk (fr (.ref 1))<| .sk (fr (.ref 0))<| .sk (fr (.ref 2))<| .p (fr .int)<| .p ow<| .p ow<| .p (fr .l)<| .p ow<| .p (fr .l)<| .a ow<| .a ow<| .a ow<| .a ow .nil
def gz(f c:List W)(x:W)(k:List W->Option R):Option R:=M (nb x) (cx f x λd=>M (nb d) (M (BA [d]) (H (qaO [d]) λw=>Nf w λg=>ze (λu e=>H (Ua u) λy=>H (AA (.int y) (.l c)) λb=>M (!b) (M (nb u) (e [u]) Y) (e [])) g λb=>M (Jd 4096 b) (k b) Y) Y) Y) Y
def VM(o:Int)(c:List W)(y:Y3)(v:W)(m:T3)(h:H3)(k:Fw T3 H3->Option R):Option R:=H (Ua v) λi=>H (Kg y.ca.wQ i) λx=>M (nb x) (gz h.st.wL y.ca.wP x λb=>jX o x c b y (m.2.2.1,()) h λr=>Fw.rec (λe h=>k (.go (J v,J x,e.1,J (.l b),()) h)) (λw h=>k (.ret w h)) r) Y
def iX(o:Int)(b c:List W)(y:Y3)(m:T3)(h:H3)(k:Fw T3 H3->Option R):Option R:=M (Jd 4900 b) (lg (VM o c y) b m h k) Y
def JC:CB:=Rj O6 c3 λR x y m h k=>iX x.1 x.2.2.2.1 x.2.2.2.2.2.1 y m h k
theorem y0:vh (Ee db Ib X (Nb db Ib pc (n+5) X) (d+2)) 4181 JC:=Sr (CM:=O6) (CH:=c3) (((zh.nil.r mH).v qcG).b A0) rfl (eP:=λR x y m h k=>M (Jd 4900 x.2.2.2.1) (k x.2.2.2.1) Y) (gP:=λv R x y m h k=>VM x.1 x.2.2.2.2.2.1 y v m h k) (λR x y m h k=>by kernel_rfl) λv R x y m h k=>by kernel_rfl
def Zo(e g h f:List W)(o:Int)(l:ub)(k:List W->Option R):Option R:=Vd (Sd e) λm=>ze (λv j=>H (Ua v) λi=>H (Kg g i) λr=>H (pj r l) λc=>H (AA (.int o) c) λb=>M b (H (Ua v) λi=>H (Kg h i) λa=>H (Ua a) λx=>H (AA (.int x) (.l f)) λb=>M (!b) (M (nb v) (j [v]) Y) (j [])) (j [])) m λb=>M (Jd 4096 b) (k b) Y
def Bw(c f e:List W)(k:List W->Option R):Option R:=Vd (Sd c) λh=>ze (λv g=>H (Ua v) λx=>H (AA (.int x) (.l e)) λb=>M (!b) (H (Ua v) λi=>H (Kg f i) λl=>H (Ua l) λy=>M (Qh 0 y) (M (nb v) (g [v]) Y) (g [])) (g [])) h λb=>M (Jd 4096 b) (k b) Y
def Uj(o:Int)(b c:List W)(y:Y3)(h:H3)(k:Kw R):Option R:=iX o b c y (Y,Y,Y,Y,()) h λq=>Fw.rec (λu h=>k (.bool Z) h) (λw h=>k w h) q
def NO(N:Nat)(o:Int)(y:Y3)(h:H3)(k:Kw R):Option R:=Tl N y.wM y.wO y.wN o h.pl λf r c=>Zo y.ca.wQ y.wM c.at f o (c3.wR y (h.wX c)) λe=>H (rk (.l e) (.l [])) λb=>M b (k (.bool Z) (h.wX c))
 (M r (Bw y.ca.wP y.ca.wO f λi=>wt y.ca.wQ y.ca.wP i (h.wX c) λg=>Uj o e g y (h.wX c) k) (Wx y.ca.wQ (h.wX c) (.l f) λg=>Uj o e g y (h.wX c) k))
def UH(N:Nat):CF:=yg (.sk (.ref 1)<| .sk (.ref 0)<| .sk (.ref 2)<| .p .int .nil) c3 (λR a y h k=>NO N a.1 y h λw h=>k (w,h)) λu y u t=>(t.1,c3.wR y t.2)
theorem o7(N:Nat)(R:Type)(a:Int×Unit)(y:Y3)(h:H3)(k:W×ub->Option R):bn ((((Or.nil.c 354 (OH N)).rc 408 TH).rc 413 bA).b 4181 JC) I7 [.ref 1,.ref 0,.ref 2,.int a.1] (c3.wR y h) k=NO N a.1 y h λw h=>k (w,c3.wR y h):=by kernel_rfl
theorem J8:mi (Nb db Ib pc (n+6) X) 418 (UH 5000):=qj ((((zh.nil.c D8).rc ZW).rc aX).b y0) rfl rfl (o7 5000)
def HZ(n:Int)(v:W)(k:List W->Option R):Option R:=M (!Qh n 0) (M (Qh n 4096) (k (Ia n.toNat v)) Y) Y
def mN(b c:List W)(k:List W->List W->Option R):Option R:=HZ (Sd b) (.int (-1)) λe=>HZ (Sd c) (.int 0) λf=>k e f
def MH:CF:=yg (.sk (.ref 2)<| .p .l<| .p .l<| .p .l .nil) (.p .id<| .p .id<| .cons (.obj 357 .nil) .nil) (λR a y h k=>mN a.1 a.2.1 λu v=>k (u,v)) λa y z t=>(.none,Ak.wR (y.1,y.2.1,(a.1,a.2.1,a.2.2.1,()),[]) ((t.1,t.2,()),()))
theorem w8:mi (Nb db Ib pc (n+1) X) 323 MH:=qj .nil rfl rfl λR a y h k=>by kernel_rfl
end
end
end
section
variable {R:Type}
noncomputable section
section
variable {X:Nat->Option (List Int)} {n d a:Nat} {T:Yp} {V:Nat->fc->ub->al} {O:Or}
noncomputable def QD:SF->List SF
 |.whil u b=>b|.fors u y b=>b|.forz u y b=>b|_=>[]
noncomputable abbrev X4:=Option W×Option W×Option W×Option W×Unit
noncomputable abbrev HK:=Option W×Option W×Unit
def L6:Qg fc X4 HK:=.sk (fr (.ref 1))<| .sk (fr (.ref 0))<| .p ow<| .p ow<| .sk (fr (.ref 2))<| .a ow<| .a ow<| .p ow<| .p ow .nil
def EG(v w:W)(y:Y3)(h:H3)(k:Ff->Option R):Option R:=H (Ua v) λi=>H (Kg y.ca.wQ i) λx=>M (nb x) (M (nb w) (Wx y.ca.wQ h w λb=>M (nb x) (cx h.st.wL x λd=>M (nb d) (sF x d λs=>H (Pe s (c3.wR y h)) λc=>M (Jd 4096 (b++c)) (Qo (.l (b++c)) (λs=>c3.wR y (h.putS s)) h.st k) Y) Y) Y) Y) Y
def ry(y:Y3)(v:W)(m:HK)(h:H3)(k:Fw HK H3->Option R):Option R:=M (nb v) (H (Ua v) λi=>Ks y.wM y.wN i h.pl λw p=>M (nb w) (H (Ph w .none) λr=>M r (EG v w y (h.wX p) λs=>k (.ret (.bool ua) ((h.wX p).putS s))) (k (.go (J v,J w,()) (h.wX p)))) Y) Y
def cC(y:Y3)(m:HK)(h:H3)(k:Fw HK H3->Option R):Option R:=Vd (Sd y.ca.wQ) λb=>lg (ry y) b m h k
def GC:CB:=Rj L6 c3 λR x y m h k=>cC y m h k
theorem i0:vh (Ee db Ib X (Nb db Ib pc (n+4) X) (d+1)) 4011 GC:=Sr (CM:=L6) (CH:=c3) (((((zh.nil.c A8).c TB).r ZW).r mH).v YW) rfl (eP:=λR x y m h k=>Vd (Sd y.ca.wQ) k) (gP:=λv R x y m h k=>ry y v m h k) (λR x y m h k=>by kernel_rfl) λv R x y m h k=>by kernel_rfl
def AS:Qg fc (Option W×Option W×Option W×Option W×W×Unit) (Option W×Unit):=.sk (fr (.ref 1))<| .sk (fr (.ref 0))<| .p ow<| .p ow<| .sk (fr (.ref 2))<| .p ow<| .p ow<| .p (fr .id)<| .a ow .nil
def Dv(N:Nat)(v:W)(y:Y3)(m:Option W×Unit)(h:H3)(k:Fw (Option W×Unit) H3->Option R):Option R:=M (nb v) (H (Ua v) λi=>tq N y.wM y.wO i (λp=>c3.wR y (h.wX p)) h.pl λw p=>M (nb w) (H (Ph w .none) λr=>M r (M (nb w) (H (Hl w) λos=>wt y.ca.wQ y.ca.wP os (h.wX p) λb=>Qo (.l b) (λs=>c3.wR y ((h.wX p).putS s)) h.st λs=>k (.ret (.bool ua) ((h.wX p).putS s))) Y) (k (.go (J w,()) (h.wX p)))) Y) Y
def rQ(v:W)(y:Y3)(h:H3)(k:Bool->Option R):Option R:=Jp h.pl.co y.ca.wO v λx z=>k (Qh x z)
def dX(N:Nat)(v:W)(y:Y3)(m:Option W×Unit)(h:H3)(k:Fw (Option W×Unit) H3->Option R):Option R:=V4 (λu h=>rQ v y h) (Dv N v y) N m h k
def HP(N:Nat):CB:=Rj AS c3 λR x y m h k=>dX N x.2.2.2.2.1 y m h k
theorem CY(N:Nat)(R:Type)(x:Option W×Option W×Option W×Option W×W×Unit)(y:Y3)(m:Option W×Unit)(h:H3)(k:Fk->Option R):Tg (((Or.nil.c 342 (NH N)).c 225 aA).r 413 bA) (QD qW) (AS.wR x m) (c3.wR y h) k=Dv N x.2.2.2.2.1 y m h (pv (AS.wR x) (c3.wR y) k):=by kernel_rfl
theorem l0:vh (Ee db Ib X (Nb db Ib pc (n+2) X) (d+1)) 4013 (HP 5000):=TQ (CM:=AS) (CH:=c3) (((zh.nil.c B8).c TB).r aX) rfl (tP:=λR x y m h k=>rQ x.2.2.2.2.1 y h k) (gP:=λR x y m h k=>Dv 5000 x.2.2.2.2.1 y m h k) (λR x y m h k=>by kernel_rfl) (CY 5000)
def P6:Qg fc X4 HK:=.sk (fr (.ref 1))<| .sk (fr (.ref 0))<| .p ow<| .p ow<| .sk (fr (.ref 2))<| .p ow<| .p ow<| .a ow<| .a ow .nil
def rB(N:Nat)(y:Y3)(v:W)(m:HK)(h:H3)(k:Fw HK H3->Option R):Option R:=dX N v y (m.2.1,()) h λr=>Fw.rec (λm h=>k (.go (J v,m.1,()) h)) (λw h=>k (.ret w h)) r
def dC(N:Nat)(y:Y3)(m:HK)(h:H3)(k:Fw HK H3->Option R):Option R:=Vd (Sd y.ca.wP) λb=>lg (rB N y) b m h k
def HC(N:Nat):CB:=Rj P6 c3 λR x y m h k=>dC N y m h k
theorem j0:vh (Ee db Ib X (Nb db Ib pc (n+2) X) (d+2)) 4012 (HC 5000):=Sr (CM:=P6) (CH:=c3) (zh.nil.b l0) rfl (eP:=λR x y m h k=>Vd (Sd y.ca.wP) k) (gP:=λv R x y m h k=>rB 5000 y v m h k) (λR x y m h k=>by kernel_rfl) λv R x y m h k=>by generalize 5000=N;as_aux_lemma=>kernel_rfl
def BS:Qg fc (Option W×Option W×Option W×Option W×Option W×Unit) (Option W×Unit):=.sk (fr (.ref 1))<| .sk (fr (.ref 0))<| .p ow<| .p ow<| .sk (fr (.ref 2))<| .p ow<| .p ow<| .a ow<| .p ow .nil
def sy(N:Nat)(y:Y3)(v:W)(m:Option W×Unit)(h:H3)(k:Fw (Option W×Unit) H3->Option R):Option R:=M (nb v) (H (Ua v) λo=>NO N o y h λw h=>H (Li w) λb=>M (!b) (k (.ret (.bool ua) h)) (k (.go (J v,()) h))) Y
def eC(N:Nat)(y:Y3)(m:Option W×Unit)(h:H3)(k:Fw (Option W×Unit) H3->Option R):Option R:=Vd (Sd y.ca.wP+1) λb=>lg (sy N y) b m h k
def IC(N:Nat):CB:=Rj BS c3 λR x y m h k=>eC N y m h k
theorem DY(N:Nat)(v:W)(R:Type)(x:Option W×Option W×Option W×Option W×Option W×Unit)(y:Y3)(m:Option W×Unit)(h:H3)(k:Fk->Option R):(lk (.x 7) v (BS.wR x m) λb=>Tg (Or.nil.c 418 (UH N)) (QD rW) b (c3.wR y h) k)=sy N y v m h (pv (BS.wR x) (c3.wR y) k):=by kernel_rfl
theorem n0:vh (Ee db Ib X (Nb db Ib pc (n+6) X) (d+1)) 4014 (IC 5000):=Sr (CM:=BS) (CH:=c3) (zh.nil.c J8) rfl (eP:=λR x y m h k=>Vd (Sd y.ca.wP+1) k) (gP:=λv R x y m h k=>sy 5000 y v m h k) (λR x y m h k=>by kernel_rfl) (DY 5000)
def RO(b:ur)(k:List W->Option R):Option R:=Vd (Sd b.wP) λe=>ze (λv c=>Jp b.wO b.wN v λx y=>M (Qh y x) (M (nb v) (c [v]) Y) (c [])) e λc=>M (Jd 4096 c) (k c) Y
def qL(e:List W)(b:ur)(k:List W->Option R):Option R:=M (Jd 4900 b.wQ) (ze (λv c=>M (nb v) (QO e b.wP v λf=>c [.l f]) Y) b.wQ λc=>M (Jd 4096 c) (k c) Y) Y
def WO(y:Y3)(h:H3):OF:=(Qg.obj 357 qcK).wR y.2.2.1 h.2.2.1
def Jy(N:Nat)(c:ur)(s:Ff)(k:W->Ff->ub->Option R):Option R:=RO c λf=>H (rk (.l f) (.l [])) λb=>M (!b) (Qo (.t []) (λs=>c2.wR ((),c,[]) (s,(),())) s λs=>k (.bool ua) s [])
 (qL s.wL c λe=>M (Jd 4096 (c.wO++[.int 0])) (M (Jd 4096 (c.wN++[.int (Sd c.wQ+1)])) (mN e (c.wO++[.int 0]) λu v=>
  let y:Y3:=((),c,(e,c.wO++[.int 0],c.wN++[.int (Sd c.wQ+1)],()),())
  cC y (Y,Y,()) (s,(),(u,v,()),()) λr=>Fw.rec (λm h=>dC N y (Y,Y,()) h λr=>Fw.rec (λm h=>eC N y (m.1,()) h λr=>Fw.rec (λm h=>k (.bool Z) h.st [WO y h]) (λw h=>k w h.st [WO y h]) r) (λw h=>k w h.st [WO y h]) r) (λw h=>k w h.st [WO y h]) r) Y) Y)
abbrev D3:Qg ub (Unit×ur×Unit) (Ff×Unit×Unit):=.cons (.obj 256 B9)<| .cons (.obj 435 i4) .nil
def SH(N:Nat):CF:=yg (.sk (.ref 1)<| .sk (.ref 0) .nil) D3 (λR a y h k=>Jy N y.2.1 h.1 λw s j=>k (w,s,j)) λu y u t=>(t.1,c2.wR ((),y.2.1,t.2.2) (t.2.1,(),()))
theorem n7(N:Nat)(R:Type)(a:Unit)(y:Unit×ur×Unit)(h:Ff×Unit×Unit)(k:W×ub->Option R):bn ((((((Or.nil.c 225 aA).r 389 QH).c 323 MH).b 4011 GC).b 4012 (HC N)).b 4014 (IC N)) H7 [.ref 1,.ref 0] (D3.wR y h) k=Jy N y.2.1 h.1 λw s j=>k (w,c2.wR ((),y.2.1,j) (s,(),())):=by kernel_rfl
theorem I8:mi (Nb db Ib pc (n+7) X) 401 (SH 5000):=qj ((((((zh.nil.c TB).r G8).c w8).b i0).b j0).b n0) rfl rfl (n7 5000)
def zH(N:Nat)(c:ur)(s:Ff)(k:Bool->Ff->ub->Option R):Option R:=M (Qh (-1) (Sd s.trail)) (Jy N c s λw s j=>H (Li w) λb=>M (!b) (k ua s j) (k Z s j)) (k Z s [])
def RH(N:Nat):CF:=yg (.sk (.ref 1)<| .sk (.ref 0) .nil) D3 (λR a y h k=>zH N y.2.1 h.1 λw s j=>k (w,s,j)) λu y u t=>(.bool t.1,c2.wR ((),y.2.1,t.2.2) (t.2.1,(),()))
theorem l7(N:Nat)(R:Type)(a:Unit)(y:Unit×ur×Unit)(h:Ff×Unit×Unit)(k:W×ub->Option R):bn (Or.nil.c 401 (SH N)) G7 [.ref 1,.ref 0] (D3.wR y h) k=zH N y.2.1 h.1 λw s j=>k (.bool w,c2.wR ((),y.2.1,j) (s,(),())):=by kernel_rfl
theorem H8:mi (Nb db Ib pc (n+8) X) 396 (RH 5000):=qj (zh.nil.c I8) rfl rfl (l7 5000)
end
end
end
section
variable {R:Type}
noncomputable section
section
variable {X:Nat->Option (List Int)} {n d a:Nat} {V:Yp} {T:Nat->fc->ub->al} {O:Or}
def qcY(w:W)(k:W->W->Option R):Option R:=H (ng w) λb=>H (Wj b) λp=>H (Wj p.2) λq=>M (wy q.2) (k p.1 q.1) Y
def nI(w:W)(k:W->W->W->Option R):Option R:=H (ng w) λb=>H (Wj b) λp=>H (Wj p.2) λq=>H (Wj q.2) λr=>M (wy r.2) (k p.1 q.1 r.1) Y
def MQ(e:ub)(d:W)(k:List W->Option R):Option R:=Nf d λf=>ze (λp b=>qcY p λlo c=>rL c (.int 1) e λc=>H (Ua lo) λx=>H (Ua c) λy=>M (CD x y) (M (CD x y) (ze (λv b=>M (nb v) (b [v]) Y) (uw (y - x).toNat x) b) Y) Y) f λb=>M (Jd 4096 b) (k b) Y
def Ay(e:ub)(b:List W)(k:List W->Option R):Option R:=Vd (Sd b) λf=>ze (λx c=>M (nb x) (cx b x λd=>M (nb d) (MQ e d λg=>c [.l g]) Y) Y) f λc=>M (Jd 4096 c) (k c) Y
def ZH:CR:=Ck (.sk (.ref 0) .nil) fu λR a y h k=>Ay (fu.wR y h) h.1.wL λb=>k (.l b)
theorem S8:Mg (Nb db Ib pc (n+2) X) 471 ZH:=Uq ((zh.nil.r mH).r o8) rfl rfl λR a y h k=>by kernel_rfl
def RW(h:ub)(m f:List W)(k:List W->Option R):Option R:=M (Jd 4900 f) (ze (λone j=>ON one h λn=>H (Ua n) λz=>Vd z λo=>ze (λx g=>vF one x h λe=>H (Ua x) λi=>H (Kg m i) λl=>H (Ua e) λu=>H (pj l h) λc=>H (AA (.int u) c) λb=>M (!b) (M (nb x) (g [x]) Y) (g [])) o λc=>M (Jd 4096 c) (H (rk (.l c) (.l [])) λb=>M b (M (nb one) (j [one]) Y) (j [])) Y) f λb=>M (Jd 4096 b) (k b) Y) Y
def gG(b:ub)(h f:List W)(k:List W->Option R):Option R:=Vd (Sd h) λi=>ze (λx j=>M (Jd 4900 f) (ze (λone c=>vF one x b λe=>M (nb e) (c [e]) Y) f λe=>M (Jd 4096 e) (H (qas .set [.l e] b) λw=>H (pj w b) λc=>H (UC c) λg=>M (Jd 4096 g) (j [.l g]) Y) Y) Y) i λc=>M (Jd 4096 c) (k c) Y
def yL(N:Nat)(c:ur)(s:Ff)(f:List W)(k:W->Ff->ub->Option R):Option R:=Ay (c2.wR ((),c,[]) (s,(),())) s.wL λh=>RW (c2.wR ((),c,[]) (s,(),())) h f λg=>zH N c s λb s j=>H (rk (.l g) (.l [])) λe=>M (b != !e) (k (.bool ua) s j)
 (H (rk (.l g) (.l [])) λe=>M e (k (.bool s.bad) s j) (Ay (c2.wR ((),c,j) (s,(),())) s.wL λi=>gG (c2.wR ((),c,j) (s,(),())) h g λl=>H (rk (.l i) (.l l)) λr=>k (.bool r) s j))
def aI(N:Nat):CF:=uF (yg (.sk (.ref 0)<| .sk (.ref 1)<| .p .l .nil) D3 (λR a y h k=>yL N y.2.1 h.1 a.1 λw s j=>k (w,s,j)) λu y u t=>(t.1,c2.wR ((),y.2.1,t.2.2) (t.2.1,(),())))
theorem r7(N:Nat)(R:Type)(a:List W×Unit)(y:Unit×ur×Unit)(h:Ff×Unit×Unit)(k:W×ub->Option R):bn ((Or.nil.rc 471 ZH).c 396 (RH N)) K7 [.ref 0,.ref 1,.l a.1] (D3.wR y h) k=yL N y.2.1 h.1 a.1 λw s j=>k (w,c2.wR ((),y.2.1,j) (s,(),())):=by kernel_rfl
theorem T8:mi (Nb db Ib pc (n+9) X) 476 (aI 5000):=Qs ((zh.nil.rc S8).c H8) rfl rfl (r7 5000)
abbrev qdi:=ur×Unit
def tW:Qg ub qdi (Unit×Unit):=.cons (.obj 435 i4) .nil
def zX(b:ur)(k:List W->Option R):Option R:=M (Jd 4096 ([.str "cardinality",.t b.wQ]++b.rows)) (k ([.str "cardinality",.t b.wQ]++b.rows)) Y
def WH:CR:=mV (Ck (.sk (.ref 0) .nil) tW λR a y h k=>zX y.1 λr=>k (.t r))
theorem L8:Mg (Nb db Ib pc (n+1) X) 432 WH:=kA .nil rfl rfl λR a y h k=>by kernel_rfl
noncomputable abbrev lW:=Option W×Option W×Option W×Unit
def Q6:Qg fc (W×Unit) lW:=.sk (fr (.ref 0))<| .p (fr .id)<| .a ow<| .a ow<| .a ow .nil
def zW(e:List W)(k:List W->Option R):Option R:=H (Kg e 0) λa=>M (nb a) (H (Kg e 1) λb=>M (nb b) (H (Kg e 2) λc=>M (nb c) (H (fm [a,b,c]) λf=>H (sA f) λg=>H (Bl g) k) Y) Y) Y
def qt(e:W)(g:ub)(v:W)(m:lW)(h:Unit×Unit)(k:Fw lW (Unit×Unit)->Option R):Option R:=nI v λa b c=>H (ng e) λf=>M (Jd 4096 f) (M (nb a) (H (G4 (.l f) "count" [a] g) λn=>H (Ua b) λx=>H (Ua n) λy=>M (!Qh y x)
 (H (Ua n) λx=>H (Ua c) λy=>M (!(!Qh y x)) (k (.ret (.bool ua) h)) (k (.go (J a,J b,J c,()) h))) (k (.ret (.bool ua) h))) Y) Y
def lX(b:List W)(c:W)(e:ub)(m:lW)(h:Unit×Unit)(k:Fw lW (Unit×Unit)->Option R):Option R:=zW b λf=>lg (qt c e) f m h k
def NP:CB:=Rj Q6 tW λR x y m h k=>lX y.1.rows x.1 (tW.wR y h) m h k
theorem B0:vh (Ee db Ib X V (d+1)) 4251 NP:=rT (CM:=Q6) (CH:=tW) .nil rfl (eP:=λR x y m h k=>zW y.1.rows k) (gP:=λv R x y m h k=>qt x.1 (tW.wR y ((),())) v m h k) (λR x y m h k=>by kernel_rfl) λv R x y m h k=>by kernel_rfl
def lz(y:qdi)(b:W)(k:W->Option R):Option R:=lX y.1.rows b (tW.wR y ((),())) (Y,Y,Y,()) ((),()) λq=>Fw.rec (λu u=>k (.bool Z)) (λw u=>k w) q
def VH:CR:=mV (Ck (.sk (.ref 0)<| .p .id .nil) tW λR a y h k=>lz y a.1 k)
theorem K8:Mg (Nb db Ib pc (n+1) X) 425 VH:=kA (zh.nil.b B0) rfl rfl λR a y h k=>by kernel_rfl
def JN(one c:W)(k:Bool->Option R):Option R:=Nf c λi=>ze (λrow g=>nI row λv l h=>Nf one λos=>ze (λe f=>H (rk e v) λb=>M b (M (nb e) (f [e]) Y) (f [])) os λb=>M (Jd 4096 b) (H (Ua l) λx=>M (!Qh (Sd b) x) (H (Ua h) λy=>M (!(!Qh y (Sd b))) (M (nb v) (g [v]) Y) (g [])) (M (nb v) (g [v]) Y)) Y) i λb=>M (Jd 4096 b) (H (rk (.l b) (.l [])) k) Y
def HV:=Sh .nil QY
theorem Q8:Mg (Nb db Ib pc (n+1) X) 461 (sh HV):=Yn .nil rfl rfl
theorem q7(R:Type)(one c:W)(k:W×ub->Option R):bn .nil QY [one,c] [] k=JN one c λb=>k (.bool b,[]):=by kernel_rfl
def qeL:Qg fc (Option W×Unit) (List W×Option W×Unit):=.p ow<| .a (fr .l)<| .a ow .nil
def Ev(v:W)(m:List W×Option W×Unit)(c:ub)(h:Unit)(k:List W×Option W×Unit->Unit->Option R):Option R:=M (Jd 4900 m.1) (ze (λe f=>Nf v λos=>ze (λu b=>M (nb u) (rL e (.t [u]) c λw=>M (nb w) (b [w]) Y) Y) os f) m.1 λb=>M (Jd 4096 b) (k (b,J v,()) h) Y) Y
def R6:Qg fc (W×Unit) (List W×Option W×Unit):=.p (fr .id)<| .a (fr .l)<| .a ow .nil
def ww:CB:=rj R6 .rest λR x y m h k=>Nf x.1 λb=>nh (λv m h k=>Ev v m y h k) b m h k
theorem C0:vh (Ee db Ib X V (d+1)) 4561 ww:=uj (CM:=R6) (CH:=.rest) .nil rfl (eP:=λR x y m h k=>Nf x.1 k) (gP:=λv R x y m h k=>Ev v m y h k) (λR x y m h k=>by kernel_rfl) λv R x y m h k=>by kernel_rfl
def yV(b:W)(k:List W->Option R):Option R:=Nf b λc=>nh (λv m h k=>Ev v m [] h k) c ([.t []],Y,()) () λm u=>k m.1
def KQ:=Sh (Or.nil.b 4561 ww) PY
theorem P8:Mg (Nb db Ib pc (n+1) X) 456 (sh KQ):=Yn (zh.nil.b C0) rfl rfl
theorem p7(R:Type)(b:W)(k:W×ub->Option R):bn (Or.nil.b 4561 ww) PY [b] [] k=yV b λc=>k (.l c,[]):=by kernel_rfl
end
end
end
section
variable {R:Type}
noncomputable section
section
variable {V:Nat->Option (List Int)} {n d a:Nat} {Q:Yp} {T:Nat->fc->ub->al} {O:Or}
noncomputable abbrev c5:=(W×W×W×List W×List W×Unit)×Unit
noncomputable abbrev DR:=List W×List W×List W×Unit
abbrev MK:=DR×Unit
def qeM:Qg (List (Bb×W)) (W×W×W×List W×List W×Unit) DR:=.p (.fld "number" .id)<| .p (.fld "scope" .id)<| .p (.fld "strength" .id)<| .p (.fld "taken" .t)<| .p (.fld "rows" .t)<| .a (.fld "wanted" (.o .l))<| .a (.fld "lows" (.o .l))<| .a (.fld "highs" (.o .l)) .nil
def uY:Qg ub c5 MK:=.cons (.obj 435 qeM) .nil
def d8(v lo b:W)(h:MK)(k:MK->Option R):Option R:=M (nb v) (M (Jd 4096 h.1.1) (M (nb lo) (M (Jd 4096 h.1.2.1) (M (nb b) (M (Jd 4096 h.1.2.2.1) (k ((h.1.1++[v],h.1.2.1++[lo],h.1.2.2.1++[b],()),())) Y) Y) Y) Y) Y) Y
def bY(v lo b:W)(c:ub)(h:MK)(k:MK->Option R):Option R:=M (nb v) (H (G4 (.fld 0 "wanted") "index" [v] c) λw=>M (nb w) (H (Ua w) λi=>H (Kg h.1.2.1 i) λl=>H (Ua l) λx=>H (Ua lo) λy=>H (Ua w) λj=>H (Kg h.1.2.2.1 j) λg=>H (Ua g) λz=>H (Ua b) λu=>H (Ua w) λi=>H (iu h.1.2.1 i (.int (max x y))) λe=>H (Ua w) λj=>H (iu h.1.2.2.1 j (.int (min z u))) λf=>k ((h.1.1,e,f,()),())) Y) Y
def DX(v lo c:W)(y:c5)(h:MK)(k:MK->Option R):Option R:=H (AA v (.l h.1.1)) λb=>M b (bY v lo c (uY.wR y h) h k) (d8 v lo c h k)
def WU:CF:=yg (.sk (.ref 0)<| .p .id<| .p .id<| .p .id .nil) uY (λR a y h k=>DX a.1 a.2.1 a.2.2.1 y h k) λu y u h=>(.none,uY.wR y h)
theorem F8:mi (Nb db Ib pc (n+1) V) 384 WU:=qj .nil rfl rfl λR a y h k=>by kernel_rfl
noncomputable abbrev A5:=Option W×Option W×Option W×Unit
def S6:Qg fc (Option W×W×W×W×Unit) A5:=.sk (fr (.ref 0))<| .p ow<| .p (fr .id)<| .p (fr .id)<| .p (fr .id)<| .a ow<| .a ow<| .a ow .nil
def HX(a b c:W)(k:List W->Option R):Option R:=M (nb a) (M (nb b) (M (nb c) (H (fm [a,b,c]) λe=>H (sA e) λf=>H (Bl f) k) Y) Y) Y
def LW(y:c5)(v:W)(m:A5)(h:MK)(k:A5->MK->Option R):Option R:=nI v λa b c=>M (nb a) (H (Ua b) λx=>M (nb c) (DX a (.int (max x 0)) c y h λh=>k (J a,J b,J c,()) h) Y) Y
def cX(a b c:W)(y:c5)(m:A5)(h:MK)(k:A5->MK->Option R):Option R:=HX a b c λe=>nh (LW y) e m h k
def GP:CB:=rj S6 uY λR x y m h k=>cX x.2.1 x.2.2.1 x.2.2.2.1 y m h k
theorem d0:vh (Ee db Ib V (Nb db Ib pc (n+1) V) (d+1)) 3771 GP:=SM (CM:=S6) (CH:=uY) (zh.nil.c F8) rfl (eP:=λR x y m h k=>HX x.2.1 x.2.2.1 x.2.2.2.1 k) (gP:=λv R x y m h k=>LW y v m h k) (λR x y m h k=>by kernel_rfl) λv R x y m h k=>by kernel_rfl
def RU:CF:=yg (.sk (.ref 0)<| .p .t<| .p .id .nil) (.cons (.obj 435 .nil) .nil) (λR a u u k=>M (Jd 4096 a.1) (M (nb a.2.1) (k ()) Y) Y) λa u u u=>(.none,[⟨J 435,[("number",.int (-1)),("scope",.t a.1),("strength",a.2.1)]⟩])
theorem v8:mi (Nb db Ib pc (n+1) V) 274 RU:=qj .nil rfl rfl λR a y h k=>by kernel_rfl
noncomputable def qdt(b c e f:List W)(s:DR)(g:Bool):OF:=⟨J 435,[("number",.int (-1)),("scope",.t b),("strength",.str "values"),("taken",.t b),("rows",.t [.t c,.t e,.t f]),("wanted",.o (.l s.1)),("lows",.o (.l s.2.1)),("highs",.o (.l s.2.2.1)),("has_twins",.bool g)]⟩
noncomputable def qbq(b c e f:List W):c5:=((.int (-1),.t b,.str "values",b,[.t c,.t e,.t f],()),())
def vW(b c e f:List W)(k:DR->Bool->Option R):Option R:=M (Jd 4096 b) (M (Jd 4096 b) (M (Jd 4096 c) (M (Jd 4096 e) (M (Jd 4096 f) (cX (.t c) (.t e) (.t f) (qbq b c e f) (Y,Y,Y,()) (([],[],[],()),()) λu h=>H (qas .set [.t b] (uY.wR (qbq b c e f) h)) λw=>ON w (uY.wR (qbq b c e f) h) λn=>H (Ua n) λx=>k h.1 (Qh x (Sd b))) Y) Y) Y) Y) Y
def PH:CF:=uF (yg (.sk (.ref 0)<| .p .t<| .p .t<| .p .t<| .p .t .nil) (.cons (.obj 435 .nil) .nil) (λR a u u k=>vW a.1 a.2.1 a.2.2.1 a.2.2.2.1 λs t=>k (s,t)) λa u u t=>(.none,[qdt a.1 a.2.1 a.2.2.1 a.2.2.2.1 t.1 t.2]))
theorem E8:mi (Nb db Ib pc (n+2) V) 377 PH:=Qs ((zh.nil.c v8).b d0) rfl rfl λR a y h k=>by kernel_rfl
noncomputable def Qg.sd{X S:Type}(d:Qg (List (Bb×W)) X S):Qg OF X S:=⟨λR o k=>Pp (d.dec R o.fs k) (λu=>Y) o.cls,λx s=>⟨Y,d.wR x s⟩,λR a k r e=>by
 obtain⟨b,f⟩:=a
 induction b with
 |some=>exact ja e|none=>
  obtain⟨x,s,rfl,c⟩:=d.ok R _ _ _ e;exact⟨x,s,rfl,c⟩⟩
abbrev qew:=(List W×Unit)×ub
noncomputable abbrev qev:=(Int×Unit)×Unit
def qdM:Qg ub qew qev:=.cons (.sd (.p (.fld "cells" .l)<| .a (.fld "at" .int) .nil)) .rest
def qk(b:List W)(e f:Int)(k:Int->Int->Option R):Option R:=M (Qh (Sd b) (e+1)) (k 0 (e+1)) (H (Kg b (e+1 - 1)) λc=>H (Ua c) λx=>H (Lz x f) λz=>k z (e+1))
def XH:CF:=yg (.sk (.ref 0)<| .p .int .nil) qdM (λR a y h k=>qk y.1.1 h.1.1 a.1 λz i=>k (z,i)) λu y u t=>(.int t.1,qdM.wR y ((t.2,()),()))
theorem N8:mi (Nb db Ib pc (n+1) V) 444 XH:=qj .nil rfl rfl λR a y h k=>by kernel_rfl
end
end
end
section
variable {R:Type}
noncomputable section
section
variable {X:Nat->Option (List Int)} {n d a:Nat} {T:Yp} {V:Nat->fc->ub->al} {O:Or}
def Xg(s:Ff):OF:=(Qg.obj 256 B9).wR () s
def Ap(m:Nat)(v:W)(s:Ff)(k:List W->Ff->Option R):Option R:=M (BA [v]) (H (JQ [v]) λb=>M (nb b) (H (wl m b) λb=>M (oe [Xg s]) (P9 b (λs=>[Xg s]) s λt=>M (Hd t.1) (M (oe [Xg t.2]) (M (nb t.1) (k [t.1] t.2) Y) Y) Y) Y) Y) Y
def fG(f:List W)(g:ub)(k:List W->Option R):Option R:=Vd 3 λh=>ze (λc i=>M (Jd 4900 f) (ze (λrow b=>vF row c g λe=>M (nb e) (b [e]) Y) f λb=>M (Jd 4096 b) (M (Jd 4096 b) (i [.t b]) Y) Y) Y) h λb=>M (Jd 4096 b) (k b) Y
abbrev zK:=List W×List W×List W×List W×DR×Bool
noncomputable def Io(p:zK):OF:=qdt p.1 p.2.1 p.2.2.1 p.2.2.2.1 p.2.2.2.2.1 p.2.2.2.2.2
def Uo(m:Nat)(l e:List W)(o:ub)(k:zK->Option R):Option R:=M (Jd 4096 e) (fG l o λf=>H (Kg f 0) λa=>H (Kg f 1) λb=>H (Kg f 2) λc=>M (BA [.t e,a,b,c]) (H (wl (m+1) (.t e)) λt=>H (wl (m+1) a) λa=>H (wl (m+1) b) λb=>H (wl (m+1) c) λc=>H (ng t) λg=>H (ng a) λe=>H (ng b) λh=>H (ng c) λi=>vW g e h i λq j=>M (oe [Io (g,e,h,i,q,j)]) (k (g,e,h,i,q,j)) Y) Y) Y
def xt(b:ub)(m:Nat)(e g:List W)(k:Ff->zK->Option R):Option R:=M (Jd 4900 e) (nk (Ap m) e rX λf s=>M (Jd 4096 f) (Uo m g f (b++[Xg s]) λc=>k s c) Y) Y
def Cs:Or:=(((Or.nil.c 120 HH).c 127 IH).v 451 JQ).c 377 PH
noncomputable def UV:Mine.Internal.X:=.comp 2 (.x 0) (.x 6) [] [] (.meth (.x 2) "new_var" [.call (.k (.ref 451)) [.x 6]])
noncomputable def Rv(b c:List W)(m:Nat)(w:Option W):fc:=[J (.l b),J (.l c),J (.ref m),w,Y]
theorem qcw(c f:List W)(o:OF)(s:Ff)(k:W×ub->Option R):hK Cs UV (Rv c f 1 Y) [o,Xg s] k=M (Jd 4900 c) (nk (Ap 1) c s λe s=>M (Jd 4096 e) (k (.l e,[o,Xg s])) Y) Y:=
 dn (b:=M (Jd 4900 c) (nt (λv g h=>jm (.x 6) v (Rv c f 1 Y++Ia 2 Y) λe=>hK Cs (.meth (.x 2) "new_var" [.call (.k (.ref 451)) [.x 6]]) e g λp=>M (nb p.1) (h ([p.1],p.2)) Y) c [o,Xg s] λq=>M (Jd 4096 q.1) (k (.l q.1,q.2)) Y) Y) (by kernel_rfl)
  (Gc (λz=>M (Jd 4900 c) z Y) (jv (eH:=λs=>[o,Xg s]) (gP:=Ap 1) (λv s k=>by kernel_rfl) c s _))
theorem qcx(c h:List W)(o e f:OF)(s:Ff)(k:W×ub->Option R):hK Cs UV (Rv c h 3 Y) [o,e,f,Xg s] k=M (Jd 4900 c) (nk (Ap 3) c s λg s=>M (Jd 4096 g) (k (.l g,[o,e,f,Xg s])) Y) Y:=
 dn (b:=M (Jd 4900 c) (nt (λv i j=>jm (.x 6) v (Rv c h 3 Y++Ia 2 Y) λg=>hK Cs (.meth (.x 2) "new_var" [.call (.k (.ref 451)) [.x 6]]) g i λp=>M (nb p.1) (j ([p.1],p.2)) Y) c [o,e,f,Xg s] λq=>M (Jd 4096 q.1) (k (.l q.1,q.2)) Y) Y) (by kernel_rfl)
  (Gc (λz=>M (Jd 4900 c) z Y) (jv (eH:=λs=>[o,e,f,Xg s]) (gP:=Ap 3) (λv s k=>by kernel_rfl) c s _))
def kG(b c:List W)(m:Nat)(k:W×ub->Option R)(p:W×ub):Option R:=LL Cs (.k (.type "tuple")) [p.1] p.2 λq=>M (nb q.1) (Tg Cs (lJ.body.drop 2) (Rv b c m (J q.1)) q.2 λr=>k (WS r)) Y
theorem FY(e f:List W)(o:OF)(k:W×ub->Option R):bn Cs lJ [.l e,.l f] [o] k=xt [o] 1 e f λs c=>k (.t [.ref 1,.ref 2],[o,Xg s,Io c]):=
 dn (b:=hK Cs UV (Rv e f 1 Y) [o,Xg rX] (kG e f 1 k)) (by kernel_rfl) ((qcw e f o rX _).trans (Gc (λz=>M (Jd 4900 e) z Y) (Gc (nk (Ap 1) e rX) (funext λg=>funext λs=>by kernel_rfl))))
theorem GY(e f:List W)(o g h:OF)(k:W×ub->Option R):bn Cs lJ [.l e,.l f] [o,g,h] k=xt [o,g,h] 3 e f λs c=>k (.t [.ref 3,.ref 4],[o,g,h,Xg s,Io c]):=
 dn (b:=hK Cs UV (Rv e f 3 Y) [o,g,h,Xg rX] (kG e f 3 k)) (by kernel_rfl) ((qcx e f o g h rX _).trans (Gc (λz=>M (Jd 4900 e) z Y) (Gc (nk (Ap 3) e rX) (funext λi=>funext λs=>by kernel_rfl))))
def KC:CF:=yg (.p .l<| .p .l .nil) (.p .id .nil) (λR a y h k=>xt [y.1] 1 a.1 a.2.1 λs c=>k (s,c)) λu y u t=>(.t [.ref 1,.ref 2],[y.1,Xg t.1,Io t.2])
def LC:CF:=yg (.p .l<| .p .l .nil) (.p .id<| .p .id<| .p .id .nil) (λR a y h k=>xt [y.1,y.2.1,y.2.2.1] 3 a.1 a.2.1 λs c=>k (s,c)) λu y u t=>(.t [.ref 3,.ref 4],[y.1,y.2.1,y.2.2.1,Xg t.1,Io t.2])
def YH:CF:=λR c b k=>M (Ub (len b) 1) (KC R c b k) (LC R c b k)
theorem bX:zh Cs (Nb db Ib pc (n+2) X) (Ee db Ib X (Nb db Ib pc (n+2) X) 4):=(((zh.nil.c m8).c n8).v O8).c E8
theorem D0:mi (Nb db Ib pc (n+3) X) 466 KC:=qj (O:=Cs) (fn:=lJ) bX rfl rfl λR a y h k=>FY a.1 a.2.1 y.1 k
theorem G0:mi (Nb db Ib pc (n+3) X) 466 LC:=qj (O:=Cs) (fn:=lJ) bX rfl rfl λR a y h k=>GY a.1 a.2.1 y.1 y.2.1 y.2.2.1 k
theorem R8:mi (Nb db Ib pc (n+3) X) 466 YH:=λR b c k r=>LI (P:=λx=>x=J r->RK _ _ k r) (λu=>D0 R b c k r) (G0 R b c k r)
end
end
end
noncomputable section
section
variable {sc:Nat->Option (List Int)} {n d a:Nat} {V:Yp} {cb:Nat->fc->ub->al} {O:Or}
def Ze(N:Nat):Or:=(((((((((Or.nil.c 444 XH).v 456 KQ).v 461 HV).c 466 YH).r 432 WH).r 425 VH).c 476 (aI N)).r 197 JH).c 232 LH).c 218 KH
theorem Z8:zh (Ze 5000) (Nb db Ib pc (n+10) sc) cb:=(((((((((zh.nil.c N8).v P8).v Q8).c R8).r L8).r K8).c T8).r r8).c u8).c t8
noncomputable def wp(X:List W)(i:Int):OF:=⟨Y,[("cells",.l X),("at",.int i)]⟩
abbrev rest(i:Nat):List SF:=mJ.body.drop i
variable {R:Type} (N:Nat) (q:W) (X:List W) (i:Int) (k:Fk->Option R)
noncomputable abbrev AZ:fc:=[J q,J (.ref 0),Y,Y,Y,Y,Y,Y,Y,Y,Y,Y,Y,Y,Y,Y]
noncomputable abbrev qcu(b:W):fc:=[J q,J (.ref 0),J b,Y,Y,Y,Y,Y,Y,Y,Y,Y,Y,Y,Y,Y]
noncomputable abbrev b8(b:W)(c:List W):fc:=[J q,J (.ref 0),J b,J (.l c),Y,Y,Y,Y,Y,Y,Y,Y,Y,Y,Y,Y]
theorem qcQ:Tg (Ze N) (rest 1) (AZ q) [wp X i] k=qk X i 3 λz i=>Tg (Ze N) (rest 2) (qcu q (.int (1+z))) [wp X i] k:=by kernel_rfl
def ZG{R:Type}(X:List W)(_:W)(i:Int)(k:List W->Int->Option R):Option R:=qk X i 7 λz i=>k [.int (1+z)] i
theorem qcR(c:Int):Tg (Ze N) (rest 2) (qcu q (.int c)) [wp X i] k=Vd c λe=>nk (ZG X) e i λg i=>M (Jd 4096 g) (Tg (Ze N) (rest 3) (b8 q (.int c) g) [wp X i] k) Y:=
 dn (b:=Vd c λe=>nt (λv h j=>jm (.x 17) v (qcu q (.int c)++Ia 2 Y) λf=>hK (Ze N) (.bin .Add (.int 1) (.call (.k (.ref 444)) [.x 1,.int 7])) f h λp=>M (nb p.1) (j ([p.1],p.2)) Y) e [wp X i] λp=>M (Jd 4096 p.1) (Tg (Ze N) (rest 3) (b8 q (.int c) p.1) p.2 k) Y) (by kernel_rfl)
  (Gc (Vd c) (funext λe=>jv (eH:=λi=>[wp X i]) (gP:=ZG X) (λv i k=>by kernel_rfl) e i _))
def qbk{R:Type}(m v:W)(k:Bool->Option R):Option R:=H (Ua v) λy=>H (qU 2 y) λz=>H (Ua m) λx=>H (SS x z) λq=>H (Lz q 2) λr=>k (Rp r 1)
def YN{R:Type}(m:W)(k:List W->Option R):Option R:=Vd 3 λe=>ze (λv c=>qbk m v λb=>M b (M (nb v) (c [v]) Y) (c [])) e λb=>M (Jd 4096 b) (k b) Y
def PN{R:Type}(b:List W)(k:List W->Option R):Option R:=M (Jd 4900 b) (ze (λm c=>YN m λe=>c [.l e]) b λc=>M (Jd 4096 c) (k c) Y) Y
noncomputable def row(v l h:Int):W:=.t [.int v,.int l,.int h]
noncomputable abbrev I4(e:W)(h j:List W)(v g:Int)(f b:List W)(c:Option W):fc:=[J q,J (.ref 0),J e,J (.l h),J (.int v),J (.l j),J (.o (.l f)),J (.int (0+1)),J (.int g),J (.o (.l b)),c,Y,Y,Y,Y,Y]
noncomputable abbrev BZ(e:W)(j l:List W)(v f g h b c:Option W):fc:=[J q,J (.ref 0),J e,J (.l j),v,J (.l l),f,g,h,b,c,Y,Y,Y,Y,Y]
theorem o9(b:W)(c:List W):Tg (Ze N) (rest 3) (b8 q b c) [wp X i] k=PN c λe=>Tg (Ze N) (rest 4) (BZ q b c e Y Y Y Y Y Y) [wp X i] k:=by kernel_rfl
theorem p9(b:W)(c e:List W):Tg (Ze N) (rest 4) (BZ q b c e Y Y Y Y Y Y) [wp X i] k=qk X i 3 λv i=>Tg (Ze N) (rest 6) (BZ q b c e (J (.int v)) (J (.o (.l []))) Y Y Y Y) [wp X i] k:=by kernel_rfl
theorem q9(b:W)(e f:List W)(v:Int):Tg (Ze N) (rest 6) (BZ q b e f (J (.int v)) (J (.o (.l []))) Y Y Y Y) [wp X i] k=qk X i 3 λg i=>qk X i 3 λh i=>qk X i 3 λc i=>qk X i 3 λj i=>Tg (Ze N) (rest 7) (BZ q b e f (J (.int v)) (J (.o (.l [row v g (g+h),row v c (c+j)]))) (J (.int (0+1))) (J (.int c)) Y Y) [wp X i] k:=by kernel_rfl
theorem r9(b:W)(h j:List W)(v e f c g:Int):Tg (Ze N) (rest 7) (BZ q b h j (J (.int v)) (J (.o (.l [row v e f,row v c g]))) (J (.int (0+1))) (J (.int c)) Y Y) [wp X i] k=Tg (Ze N) (rest 8) (I4 q b h j v c [row v e f,row v c g] [row v (max e c) (min f g)] Y) [wp X i] k:=by kernel_rfl
theorem s9(e:W)(g h c b:List W)(v j:Int):Tg (Ze N) (rest 8) (I4 q e g h v j c b Y) [wp X i] k=qk X i 2 λf i=>M (Rp f 1)
 (H (Lz (v+1) 3) λw=>qk X i 3 λl i=>H (nN 1 (row w 0 l) c) λc=>M (Jd 4096 b) (Tg (Ze N) (rest 9) (I4 q e g h v j c (b++[row w 0 l]) (J (row w 0 l))) [wp X i] k) Y)
 (Tg (Ze N) (rest 9) (I4 q e g h v j c b Y) [wp X i] k):=by kernel_rfl
def M5{R:Type}(e c:List W)(k:List W->Option R):Option R:=M (BA [.l e]) (H (KQ [.l e]) λg=>Nf g λh=>ze (λone f=>M (BA [one,.l c]) (H (HV [one,.l c]) λb=>H (Li b) λb=>M b (M (nb one) (f [one]) Y) (f [])) Y) h λan=>M (Jd 4096 an) (k an) Y) Y
noncomputable def aQ:List W:=[.str "<=",.str ">=",.str "!=",.str "="]
def a8{R:Type}(b:Int)(X:List W)(i:Int)(k:List W->Int->Option R):Option R:=qk X i b λx i=>qk X i 4 λs i=>H (Kg aQ s) λc=>M (nb c) (qk X i 3 λz i=>k [.int x,c,.int z] i) Y
noncomputable abbrev qcv(g:W)(o p:List W)(v j:W)(h e:List W)(l f:Option W)(an m:List W)(a b c:Option W):fc:=[J q,J (.ref 0),J g,J (.l o),J v,J (.l p),J (.l h),l,J j,J (.l e),f,J (.l an),J (.t m),a,b,c]
theorem qcS(c v g:Int)(l h e b:List W)(f:Option W):Tg (Ze N) (rest 9) (I4 q (.int c) l h v g e b f) [wp X i] k=M5 h e λan=>a8 c X i λj i=>Tg (Ze N) (rest 13) (qcv q (.int c) l h (.int v) (.int g) e b (J (.int (0+1))) f an j Y Y Y) [wp X i] k:=by kernel_rfl
noncomputable def Px(p:zK):ur:=(.int (-1),.t p.1,.str "values",p.1,[.t p.2.1,.t p.2.2.1,.t p.2.2.2.1],p.2.2.2.2.1.1,p.2.2.2.2.1.2.1,p.2.2.2.2.1.2.2.1,())
def Wh(p:zK):OF:=(Qg.obj 435 i4).wR (Px p) ()
def JE{R:Type}(p:zK)(k:Option R):Option R:=H (M p.2.2.2.2.2 Y (J ())) λu=>k
def zC{R:Type}(c:zK)(f:List W)(e:Int)(j:ub)(k:Bool->Option R):Option R:=M (oe [Io c]) (JE c (zX (Px c) λr=>M (Hd (.t r)) (M (CD 0 e) (H (du (.rng 0 e) j) λg=>M (Jd 4096 g) (fG f j λh=>M (Jd 4096 h) (M (Jd 4096 ([.str "cardinality",.t g]++h)) (H (rk (.t r) (.t ([.str "cardinality",.t g]++h))) λb=>k (!b)) Y) Y) Y) Y) Y)) Y
def Xz{R:Type}(m:Nat)(c:zK)(f an:List W)(k:Bool->Option R):Option R:=M (BA [.l f]) (H (KQ [.l f]) λh=>Nf h λj=>ze (λone g=>M (nb one) (H (wl (m+1) one) λe=>M (oe [Io c]) (JE c (lz (Px c,()) e λw=>M (Hd w) (H (AA one (.l an)) λb=>H (Ph w (.bool b)) λr=>M r (M (nb one) (g [one]) Y) (g [])) Y)) Y) Y) j λe=>M (Jd 4096 e) (H (rk (.l e) (.l [])) λb=>k (!b)) Y) Y
def On{R:Type}(N m:Nat)(s:Ff)(c:OF)(f:ur)(e:Option R->Option R)(an:List W)(k:Bool->Ff->Option R):Option R:=H (wl m (.l an)) λa=>M (oe [Xg s,c]) (H (Hl a) λan=>e (yL N f s an λw s j=>M (Hd w) (M (oe [Xg s,(Qg.obj 435 i4).wR f ()]) (H (Li w) λb=>k (!b) s) Y) Y)) Y
end
end
noncomputable section
section
abbrev bt(i:Nat):List SF:=((mJ.body.drop 13).flatMap QD).drop i
variable {R:Type} (N:Nat) (q:W) (K F E:OF) (k:Fk->Option R) (T:Int) (G I Q X S an P:List W) (v L:W) (O V a b:Option W) (s:Ff) (c:zK)
noncomputable abbrev mT(x y:Option W):fc:=qcv q (.int T) G I v L Q X O V an P (J (.l S)) x y
noncomputable def XB(d:ub)(k:Fk->Option R):Option R:=k (.ret (.bool ua) d)
theorem qfd:Tg (Ze N) (bt 0) (mT q T G I Q X S an P v L O V a b) [K] k=xt [K] 1 I S λs c=>Tg (Ze N) (bt 1) (mT q T G I Q X S an P v L O V (J (.ref 1)) (J (.ref 2))) [K,Xg s,Io c] k:=by kernel_rfl
theorem qfe:Tg (Ze N) (bt 0) (mT q T G I Q X S an P v L O V a b) [K,F,E] k=xt [K,F,E] 3 I S λs c=>Tg (Ze N) (bt 1) (mT q T G I Q X S an P v L O V (J (.ref 3)) (J (.ref 4))) [K,F,E,Xg s,Io c] k:=by kernel_rfl
noncomputable abbrev m1:fc:=mT q T G I Q X S an P v L O V (J (.ref 1)) (J (.ref 2))
noncomputable abbrev m3:fc:=mT q T G I Q X S an P v L O V (J (.ref 3)) (J (.ref 4))
theorem qff:Tg (Ze N) (bt 1) (m1 q T G I Q X S an P v L O V) [K,Xg s,Io c] k=zC c S T [K,Xg s,Io c] λr=>M r (XB [K,Xg s,Io c] k) (Tg (Ze N) (bt 2) (m1 q T G I Q X S an P v L O V) [K,Xg s,Io c] k):=by kernel_rfl
theorem qfg:Tg (Ze N) (bt 1) (m3 q T G I Q X S an P v L O V) [K,F,E,Xg s,Io c] k=zC c S T [K,F,E,Xg s,Io c] λr=>M r (XB [K,F,E,Xg s,Io c] k) (Tg (Ze N) (bt 2) (m3 q T G I Q X S an P v L O V) [K,F,E,Xg s,Io c] k):=by kernel_rfl
theorem qfh:Tg (Ze N) (bt 2) (m1 q T G I Q X S an P v L O V) [K,Xg s,Io c] k=Xz 1 c I an λr=>M r (XB [K,Xg s,Io c] k) (Tg (Ze N) (bt 3) (m1 q T G I Q X S an P v L O V) [K,Xg s,Io c] k):=by kernel_rfl
theorem qfi:Tg (Ze N) (bt 2) (m3 q T G I Q X S an P v L O V) [K,F,E,Xg s,Io c] k=Xz 3 c I an λr=>M r (XB [K,F,E,Xg s,Io c] k) (Tg (Ze N) (bt 3) (m3 q T G I Q X S an P v L O V) [K,F,E,Xg s,Io c] k):=by kernel_rfl
theorem qfj:Tg (Ze N) (bt 3) (m1 q T G I Q X S an P v L O V) [K,Xg s,Io c] k=On N 1 s (Io c) (Px c) (JE c) an λr s=>M r (XB [K,Xg s,Wh c] k) (Tg (Ze N) (bt 4) (m1 q T G I Q X S an P v L O V) [K,Xg s,Wh c] k):=by kernel_rfl
theorem qfk:Tg (Ze N) (bt 3) (m3 q T G I Q X S an P v L O V) [K,F,E,Xg s,Io c] k=On N 3 s (Io c) (Px c) (JE c) an λr s=>M r (XB [K,F,E,Xg s,Wh c] k) (Tg (Ze N) (bt 4) (m3 q T G I Q X S an P v L O V) [K,F,E,Xg s,Wh c] k):=by kernel_rfl
def WB{R:Type}(m:Nat)(P:List W)(s:Ff)(c:OF)(k:Bool->Option R):Option R:=M (!s.bad) (H (wl m (.t P)) λl=>M (oe [Xg s,c]) (H (ng l) λI=>fN I s λw=>M (Hd w) (H (rk w (.int 0)) k) Y) Y) (k ua)
def lM{R:Type}(m:Nat)(P:List W)(s:Ff)(c:OF)(k:Ff->Option R):Option R:=M (oe [Xg s,c]) (jP s λs=>M (oe [Xg s,c]) (H (wl m (.t P)) λl=>M (oe [Xg s,c]) (H (ng l) λI=>rp I .none (.int (-1)) (λs=>[Xg s,c]) s λt=>M (oe [Xg t.2,c]) (k t.2) Y) Y) Y) Y
theorem qfl:Tg (Ze N) (bt 4) (m1 q T G I Q X S an P v L O V) [K,Xg s,Wh c] k=WB 1 P s (Wh c) λr=>M r (lM 1 P s (Wh c) λs=>On N 1 s (Wh c) (Px c) (λz=>z) an λr s=>M r (XB [K,Xg s,Wh c] k) (k (.go (m1 q T G I Q X S an P v L O V) [K,Xg s,Wh c]))) (k (.go (m1 q T G I Q X S an P v L O V) [K,Xg s,Wh c])):=by kernel_rfl
theorem qfm:Tg (Ze N) (bt 4) (m3 q T G I Q X S an P v L O V) [K,F,E,Xg s,Wh c] k=WB 3 P s (Wh c) λr=>M r (lM 3 P s (Wh c) λs=>On N 3 s (Wh c) (Px c) (λz=>z) an λr s=>M r (XB [K,F,E,Xg s,Wh c] k) (k (.go (m3 q T G I Q X S an P v L O V) [K,F,E,Xg s,Wh c]))) (k (.go (m3 q T G I Q X S an P v L O V) [K,F,E,Xg s,Wh c])):=by kernel_rfl
theorem qcT:Tg (Ze N) (rest 13) (qcv q (.int T) G I v L Q X O V an P Y Y Y) [K] k=Tg (Ze N) (bt 0) (mT q T G I Q X Q an P v L O V Y Y) [K] λr=>Fk.rec (λe d=>lk (.x 13) (.l X) e λe=>Tg (Ze N) (bt 0) e d λr=>Fk.rec (λu d=>k (.ret (.bool Z) d)) (λw d=>k (.ret w d)) r) (λw d=>k (.ret w d)) r:=by kernel_rfl
end
end
section
variable {b o:Int} {w i Q O:W} {X P able V lows:List W} {h:Ae} {m:M1} {c:DW} {N:Nat} {σ:Ae->ub}
def Nt{S:Type}(f:(R:Type)->(S->Option R)->Option R):Prop:=∀(R:Type)(k:S->Option R),f R k=H (f S J) k
section
variable {S T A B K L:Type}
theorem QI{d e j:Type}{o:Option d}{f:d->Option e}{g:e->Option j}:H (H o f) g=H o λa=>H (f a) g:=by induction o<;>rfl
theorem Nt.ret{s:S}:Nt (λR k=>k s):=λu u=>rfl
theorem Nt.no:Nt (S:=S) (λR k=>Y):=λu u=>rfl
theorem Nt.wV{o:Option A}{f:A->(R:Type)->(S->Option R)->Option R}(h:∀a,Nt (f a)):Nt (λR k=>Mine.Internal.H o λa=>f a R k):=λR k=>by
 induction o with
 |none=>rfl|some a=>exact h a R k
theorem Nt.iff{b:Bool}{f g:(R:Type)->(S->Option R)->Option R}(h:Nt f)(a:Nt g):Nt (λR k=>Mine.Internal.M b (f R k) (g R k)):=λR k=>by
 induction b with
 |true=>exact h R k|false=>exact a R k
theorem Nt.seq{f:(R:Type)->(S->Option R)->Option R}{g:S->(R:Type)->(T->Option R)->Option R}(a:Nt f)(d:∀s,Nt (g s)):Nt (λR k=>f R λs=>g s R k):=λR k=>by
 show f R _=Mine.Internal.H (f T _) k
 exact U (a R _) (U (a T _) (U QI (Gc _ (funext λs=>d s R k))))
theorem Nt.seq2{f:(R:Type)->(A->B->Option R)->Option R}{g:A->B->(R:Type)->(T->Option R)->Option R}(d:Nt λR k=>f R λa b=>k (a,b))(e:∀a b,Nt (g a b)):Nt (λR k=>f R λa b=>g a b R k):=Nt.seq (f:=λR k=>f R λa b=>k (a,b)) (g:=λs=>g s.1 s.2) d λs=>e s.1 s.2
theorem Nt.comp{g:(R:Type)->W->(List W->Option R)->Option R}(h:∀v,Nt λR k=>g R v k):∀X,Nt (λR k=>ze (g R) X k):=by
 intro X
 induction X with
 |nil=>
  exact Nt.ret
 |cons x X d=>
  exact Nt.seq (f:=λR k=>g R x k) (h x) λa=>Nt.seq (f:=λR k=>ze (g R) X k) (d) λb=>Nt.ret
theorem Nt.fold{g:(R:Type)->W->K->L->(K->L->Option R)->Option R}(h:∀v m s,Nt λR k=>g R v m s λm s=>k (m,s)):∀X m s,Nt (λR k=>nh (g R) X m s λm s=>k (m,s)):=by
 intro X
 induction X with
 |nil=>
  rintro m s;exact Nt.ret
 |cons x X a=>
  rintro m s;exact Nt.seq2 (f:=λR k=>g R x m s k) (h x m s) λm s=>a m s
theorem Nt.wh{t:(R:Type)->K->L->(Bool->Option R)->Option R}{g:(R:Type)->K->L->(K->L->Option R)->Option R}(a:∀m s,Nt λR k=>t R m s k)(h:∀m s,Nt λR k=>g R m s λm s=>k (m,s)):∀n m s,Nt (λR k=>U4 (t R) (g R) n m s λm s=>k (m,s)):=by
 intro n
 induction n with
 |zero=>
  rintro m s;exact Nt.no
 |succ n d=>
  rintro m s;exact Nt.seq (f:=λR k=>t R m s k) (a m s) λb=>Nt.iff (Nt.seq2 (f:=λR k=>g R m s k) (h m s) λm s=>d m s) Nt.ret
theorem Nt.whP{t:(R:Type)->K->L->(Bool->Option R)->Option R}{g:(R:Type)->K->L->(Fw K L->Option R)->Option R}(a:∀m s,Nt λR k=>t R m s k)(h:∀m s,Nt λR k=>g R m s k):∀n m s,Nt (λR k=>Mine.Internal.V4 (t R) (g R) n m s k):=by
 intro n
 induction n with
 |zero=>
  rintro m s;exact Nt.no
 |succ n d=>
  rintro m s;exact Nt.seq (f:=λR k=>t R m s k) (a m s) λb=>Nt.iff (Nt.seq (f:=λR k=>g R m s k) (g:=λr R k=>Fw.rec (λm s=>Mine.Internal.V4 (t R) (g R) n m s k) (λw s=>k (.ret w s)) r) (h m s) λr=>by
   induction r with
   |go m s=>exact d m s|ret w s=>exact Nt.ret) Nt.ret
theorem Nt.foldP{g:(R:Type)->W->K->L->(Fw K L->Option R)->Option R}(h:∀v m s,Nt λR k=>g R v m s k):∀X m s,Nt (λR k=>Mine.Internal.lg (g R) X m s k):=by
 intro X
 induction X with
 |nil=>
  rintro m s;exact Nt.ret
 |cons x X a=>
  rintro m s;exact Nt.seq (f:=λR k=>g R x m s k) (g:=λr R k=>Fw.rec (λm s=>Mine.Internal.lg (g R) X m s k) (λw s=>k (.ret w s)) r) (h x m s) λr=>by
   induction r with
   |go m s=>exact a m s|ret w s=>exact Nt.ret
theorem Nt.fw{f:K->L->(R:Type)->(T->Option R)->Option R}{g:W->L->(R:Type)->(T->Option R)->Option R}(a:∀m s,Nt (f m s))(d:∀w s,Nt (g w s))(r:Fw K L):Nt (λR k=>Fw.rec (λm s=>f m s R k) (λw s=>g w s R k) r):=by
 induction r with
 |go m s=>exact a m s|ret w s=>exact d w s
end
theorem Lq{n:Int}:Nt (λR k=>Vd (R:=R) n k):=.iff (.iff .ret .no) .no
theorem Pz:Nt (λR k=>Nf (R:=R) w k):=λR k=>by induction w using W.casesOn<;>first|rfl|(exact Nt.iff (f:=λR k=>k _) .ret .no R k)
theorem Sz{a:List W}:Nt (λR k=>Jp (R:=R) X a i λx y=>k (x,y)):=.wV λu=>.wV λu=>.wV λu=>.wV λu=>.wV λu=>.wV λu=>.ret
theorem ME{z:Int->Int}:Nt (λR k=>SR (R:=R) X i z k):=.wV λu=>.wV λu=>.wV λu=>.wV λu=>λu u=>by induction iu X _ _<;>rfl
theorem lH:Nt (λR k=>UO (R:=R) w λa b=>k (a,b)):=.iff (.wV λu=>.wV λu=>.wV λu=>.iff .ret .no) .no
theorem NE:Nt (λR k=>Jl (R:=R) P o k):=by
 delta Jl
 exact .seq Lq λX=>.seq (.comp (λv=>.wV λu=>.wV λu=>.wV λu=>.iff (.iff .ret .no) .ret) X) λa=>.iff .ret .no
theorem QB:Nt (λR k=>ot (R:=R) w h k):=.iff (.wV λo=>.seq NE λw=>Pz) .no
theorem sO:Nt (λR k=>qH (R:=R) able b m h λm h=>k (m,h)):=by
 delta qH
 exact .wV λr=>.seq Pz λX=>.fold (λv m h=>.wV λi=>.iff (.iff (.iff .ret .no) .no) .no) X m h
theorem uO{m:M3}:Nt (λR k=>ZB (R:=R) c m h λm h=>k (m,h)):=by
 delta ZB
 exact .wh (λm h=>.wV λx=>.ret) (λm h=>.wV λi=>.wV λw=>.seq2 lH λa b=>.iff (.iff (.wV λx=>.wV λd=>.iff .ret .no) .no) .no) 5000 m h
theorem xO{a:W}:Nt (λR k=>sH (R:=R) able Q a m h λm h=>k (m,h)):=by
 delta sH
 exact .wV λi=>.wV λr=>.seq Pz λX=>.fold (λv m h=>.wV λx=>.iff (.iff (.iff (.wV λi=>.iff (.iff (.iff .ret .no) .no) .no) .no) .no) .ret) X m h
theorem rO{v:W}{m:M4}:Nt (λR k=>FG (R:=R) able Q v m h λm h=>k (m,h)):=by
 delta FG
 exact .seq2 xO λm h=>.ret
theorem vO{m:M4}:Nt (λR k=>rH (R:=R) able Q m h λm h=>k (m,h)):=by
 delta rH
 exact .seq QB λX=>.fold (λv m h=>rO) X m h
theorem tO{m:M2}:Nt (λR k=>YB (R:=R) able V m h k):=by
 delta YB
 exact .whP (λm h=>.ret) (λm h=>.wV λa=>.iff (.seq2 Sz λx y=>.iff (.seq ME λd=>.seq2 uO λm h=>.ret) (.seq2 vO λm h=>.ret)) .no) 5000 m h
theorem HO:Nt (λR k=>Ks (R:=R) able V b h λw h=>k (w,h)):=by
 delta Ks
 exact .seq2 sO λm h=>.seq tO λr=>.fw (λm h=>.wV λX=>.iff .ret .no) (λw h=>.ret) r
theorem AO{m:M6}:Nt (λR k=>tH (R:=R) N w c m h λm h=>k (m,h)):=by
 delta tH
 exact .wh (λm h=>.wV λx=>.ret) (λm h=>.wV λi=>.wV λw=>.seq2 lH λa b=>.iff (.iff (.wV λx=>.wV λd=>.ret) .no) .no) N m h
theorem jU{o:W}:Nt (λR k=>KB (R:=R) N o w c h λw h=>k (w,h)):=by
 delta KB
 exact .seq ME λa=>.seq ME λa=>.seq2 AO λu h=>.ret
theorem zO{m:M7}:Nt (λR k=>bC (R:=R) able lows O Q σ m h k):=by
 delta bC
 exact .seq Lq λX=>.foldP (λv m h=>.wV λi=>.wV λo=>.iff (.wV λi=>.wV λr=>.wV λc=>.wV λb=>.iff (.wV λx=>.iff (.iff (.iff (.wV λi=>.iff (.iff (.iff (.seq2 Sz λx y=>.iff (.iff (.iff (.seq2 jU λw h=>.wV λu=>.ret) .no) .no) .ret) .no) .no) .no) .no) .no) .ret) .ret) .no) X m h
theorem yO{m:M8}:Nt (λR k=>aC (R:=R) N able lows O σ m h k):=by
 delta aC
 exact .whP (λm h=>.ret) (λm h=>.wV λa=>.iff (.seq zO λr=>.fw (λm h=>.ret) (λw h=>.ret) r) .no) N m h
theorem iU{w:Int}:Nt (λR k=>tq (R:=R) N able lows w σ h λw h=>k (w,h)):=by
 delta tq
 exact .seq yO λr=>.fw (λm h=>.wV λX=>.iff .ret .no) (λw h=>.ret) r
theorem DO{m:M9}:Nt (λR k=>vH (R:=R) able w m h λm h=>k (m,h)):=by
 delta vH
 exact .seq QB λX=>.fold (λv m h=>.wV λi=>.wV λr=>.iff (.wV λa=>.iff .ret .no) .no) X m h
theorem EO{f:List W}:Nt (λR k=>wH (R:=R) f m h λm h=>k (m,h)):=by
 delta wH
 exact .iff (.fold (λv m h=>.wV λx=>.iff (.wV λi=>.iff (.iff (.iff .ret .no) .no) .no) .ret) f m h) .no
theorem Qz{m:lR}{r:Bool}{f:List W}:Nt (λR k=>uC (R:=R) able w m r f h λm h=>k (m,h)):=by
 delta uC
 exact .seq2 DO λm h=>.seq2 EO λm h=>.ret
theorem JO:Nt (λR k=>kF (R:=R) lows h k):=by
 delta kF
 exact .seq Lq λX=>.seq (.comp (λv=>.seq2 Sz λx y=>.iff (.iff .ret .no) .ret) X) λa=>.iff .ret .no
theorem BO{m:lR}:Nt (λR k=>uH (R:=R) N able lows V m h λm h=>k (m,h)):=by
 delta uH
 exact .wh (λm h=>.ret) (λm h=>.wV λa=>.iff (.iff (.seq2 Sz λx y=>.iff (.seq JO λd=>.iff Qz .no) Qz) Qz) .no) N m h
theorem OE:Nt (λR k=>Tl (R:=R) N able lows V o h λf r h=>k (f,r,h)):=by
 delta Tl
 exact .seq2 BO λm h=>.wV λX=>.iff .ret .no
theorem qO{d e:List W}{σ:ub}:Nt (λR k=>Zo (R:=R) d able P e o σ k):=by
 delta Zo
 exact .seq Lq λf=>.seq (.comp (λv=>.wV λi=>.wV λr=>.wV λc=>.wV λb=>.iff (.wV λi=>.wV λa=>.wV λx=>.wV λb=>.iff (.iff .ret .no) .ret) .ret) f) λa=>.iff .ret .no
end
noncomputable section
def qeg(b a:List W)(i:Int)(h:Ae):Option (W×Ae):=Ks b a i h λw h=>J (w,h)
def qau(a b:List W)(i:Int)(h:Ae):Option (W×Ae):=tq 5000 a b i (λu=>[]) h λw h=>J (w,h)
def qaE(b c a:List W)(o:Int)(h:Ae):Option (List W×Bool×Ae):=Tl 5000 b c a o h λf r h=>J (f,r,h)
def qdq(a c d b:List W)(o:Int):Option (List W):=Zo a c d b o [] J
def XO(c a:List W)(d:List W):Ae->Option (Bool×W×Ae):=gc (motive:=λu=>Ae->Option (Bool×W×Ae)) (λh=>J (Z,.none,h)) (λv u e h=>H (Ua v) λi=>H (qeg c a i h) λr=>H (Ph r.1 .none) λb=>M b (J (ua,r.1,r.2)) (e r.2)) d
def mB(c a:List W)(v:W)(i:Int)(n:Nat):Ae->Option (Bool×W×Ae):=un (motive:=λu=>Ae->Option (Bool×W×Ae)) (λu=>Y) (λu d h=>Jp h.co a v λx z=>M (Qh x z) (H (qau c a i h) λr=>H (Ph r.1 .none) λb=>M b (J (ua,r.1,r.2)) (d r.2)) (J (Z,.none,h))) n
def LM(a b:List W)(os:List W):Ae->Option (Bool×W×Ae):=gc (motive:=λu=>Ae->Option (Bool×W×Ae)) (λh=>J (Z,.none,h)) (λv u c h=>H (Ua v) λi=>H (mB a b v i 10 h) λr=>M r.1 (c r.2.2) (J r)) os
noncomputable def Mb(m:Nat):List Nat:=Sa m [] λm=>Sa m [0] λm=>Sa m [1] λm=>Sa m [0,1] λm=>Sa m [2] λm=>Sa m [0,2] λm=>Sa m [1,2] λu=>[0,1,2]
noncomputable def Cb(a:List Nat):List W:=gc [] (λx u b=>.int (.ofNat x)::b) a
def gi(a:List Nat):List W:=gc [] (λr u b=>.l (Cb (Mb r))::b) a
def jp(o:Nat)(b:List Nat):Nat:=gc 0 (λx u a=>M (Ub x o) (nc a) a) b
def qec(lo a b:List Nat):Bool:=gc (motive:=λu=>Nat->List Nat->Bool) (λu u=>Z) (λl u c o a=>gc Z (λh a u=>M (gh l (jp o b)) (M (gh (jp o b) h) (c (nc o) a) ua) ua) a) lo 0 a
def Ym(lo b:List Nat)(c:List Nat):List Nat->Bool:=gc (motive:=λu=>List Nat->Bool) (λa=>qec lo b a) (λr u d a=>gc ua (λo u z=>M (d (o::a)) Z z) (Mb r)) c
noncomputable def Ki(o:Nat):Nat:=Sa o 1 λo=>Sa o 2 λu=>4
def Ye(o:Nat)(a:List Nat):Bool:=gc ua (λx u b=>M (Ub x o) Z b) a
def iq(lo d:List Nat)(o:Nat)(b:List Nat):List Nat->Nat->List Nat:=gc (motive:=λu=>List Nat->Nat->List Nat) (λu u=>[]) (λr b c a k=>M (Ye o (Mb r)) (M (Ym lo d (a++Ki o::b) []) (c (a++[r]) (nc k)) (k::c (a++[r]) (nc k))) (c (a++[r]) (nc k))) b
def qbv(b:List Int):List Nat->Bool:=gc (motive:=λu=>List Nat->Bool) (λa=>gc Z (λu u u=>ua) a) (λx u c a=>gc ua (λy a u=>M (Rp x (.ofNat y)) (c a) ua) a) b
def pN(a:List W):Option (List Int):=H (Jv a) λis=>M (gh (len is) 4) (J is) Y
def qcs(w:W):Option (List Int):=H (Hl w) pN
def sL(n:Nat)(is:List Int):Bool:=gc Z (λi u a=>M (!Qh i 0) (M (Qh i (.ofNat n)) a ua) ua) is
def SL(a b d c:List W)(lo e f:List Nat)(os:List Nat):Ae->Option Bool:=gc (motive:=λu=>Ae->Option Bool) (λu=>J (Ym lo e f [])) (λo u g h=>H (qaE b d c (.ofNat o) h) λr=>H (pN r.1) λu=>H (pN r.2.2.at) λas=>M (Ub (len as) (len a)) (H (qdq a b r.2.2.at r.1 (.ofNat o)) λi=>H (Jv i) λis=>M (qbv is (iq lo e o f [] 0)) (g r.2.2) Y) Y) os
def bad(lo b a:List Nat)(n:Nat)(r:Bool×W×Ae):Option Bool:=H (qcs r.2.1) λis=>M (sL n is) (H (pN r.2.2.at) λas=>M (Ub (len as) (len a)) (J (!Ym lo b a [])) Y) Y
def chk(lo b a:List Nat)(n:Nat)(os:List Nat):Option Bool:=
 H (XO (gi a) (Cb (b++[n+1])) (uw n 0) (.mk (Ia n (.int (-1))) (Ia (len os) (.int 0)))) λr=>M r.1 (H (LM (gi a) (Cb (lo++[0])) (uw (len lo) 0) r.2.2) λr=>M r.1 (SL (uw n 0) (gi a) (Cb (lo++[0])) (Cb (b++[n+1])) lo b a os r.2.2) (bad lo b a (len lo) r)) (bad lo b a (len os) r)
noncomputable def yes(o:Option Bool):Bool:=Pp ua (λb=>b) o
def OA(f:Nat->Bool)(n:Nat):Bool:=un Z (λk a=>M (f (nc k)) a ua) n
def jt(lo d os:List Nat)(z:Nat):Bool:=M (OA (λa=>yes (chk lo d [a] 1 os)) z) (M (OA (λa=>OA (λb=>yes (chk lo d [a,b] 2 os)) z) z) (OA (λa=>OA (λb=>OA (λc=>yes (chk lo d [a,b,c] 3 os)) z) z) z) ua) ua
end
def b5(l h:Nat):Prop:=jt [l] [h] [0,1] 3=Z/\jt [l,0] [h,0] [0,1,2] 7=Z/\jt [l,0] [h,1] [0,1,2] 7=Z/\jt [l,0] [h,2] [0,1,2] 7=Z
set_option maxHeartbeats 0 in
theorem V6:∀p∈[(0,0),(0,1),(0,2),(1,1),(1,2),(1,3),(2,2),(2,3),(2,4)],b5 p.1 p.2:=by
 refine Ac.mpr ⟨?_,Ac.mpr ⟨?_,Ac.mpr ⟨?_,Ac.mpr ⟨?_,Ac.mpr ⟨?_,Ac.mpr ⟨?_,Ac.mpr ⟨?_,Ac.mpr ⟨?_,Ac.mpr ⟨?_,λu z=>nomatch z⟩⟩⟩⟩⟩⟩⟩⟩⟩
 all_goals refine⟨?_,?_,?_,?_⟩<;>decide+kernel
section
variable {b:Bool} {P:Nat->Prop}
section
variable {X V:Type}
theorem Lb{o:Option X}{a:X}{f:X->Option V}(h:o=J a):H o f=f a:=h▸rfl
theorem Db{x y:X}(h:b=Z):M b x y=x:=h▸rfl
theorem ji{x y:X}(h:b=ua):M b x y=y:=h▸rfl
theorem bJ{R:Type}{g:W->(List W->Option R)->Option R}{f:W->List W}{a:List W}:(∀v∈a,∀k,g v k=k (f v))->∀k,ze g a k=k (a.flatMap f):=by
 induction a with
 |nil=>exactλu k=>rfl|cons x a c=>exactλh k=>(h x sa _).trans (c (λv d=>h v (oa _ d)) _)
end
noncomputable section
def Lw(m:Nat):List W:=Cb (Mb m)
noncomputable def pr(a b:Nat):W:=.t [.int (.ofNat a),.int (.ofNat b)]
def Dn(m:Nat):W:=.t (Sa m [] λm=>Sa m [pr 0 0] λm=>Sa m [pr 1 1] λm=>Sa m [pr 0 1] λm=>Sa m [pr 2 2] λm=>Sa m [pr 0 0,pr 2 2] λm=>Sa m [pr 1 2] λu=>[pr 0 2])
end
inductive Mk:Nat->Prop
 |m1:Mk 1|m2:Mk 2|m3:Mk 3|m4:Mk 4|m5:Mk 5|m6:Mk 6|m7:Mk 7
inductive V3:Nat->Prop
 |v0:V3 0|v1:V3 1|v2:V3 2
theorem Mk.of{m:Nat}(h:1<=m)(k:m<=7):Mk m:=by
 rcases m with _|_|_|_|_|_|_|_|m
 ·exact zc h (dc 0)
 ·exact .m1
 ·exact .m2
 ·exact .m3
 ·exact .m4
 ·exact .m5
 ·exact .m6
 ·exact .m7
 ·exact zc k (lL.mpr (Ve 8 _))
theorem V3.of:{v:Nat}->v<3->V3 v
 |0,u=>.v0|1,_=>.v1|2,_=>.v2|u+3,h=>zc h (Ud.mpr (Ve 3 _))
theorem Mk.all(h:P 1/\P 2/\P 3/\P 4/\P 5/\P 6/\P 7){m:Nat}(a:Mk m):P m:=
 a.rec (motive:=λm u=>P m) h.1 h.2.1 h.2.2.1 h.2.2.2.1 h.2.2.2.2.1 h.2.2.2.2.2.1 h.2.2.2.2.2.2
theorem V3.all(h:P 0/\P 1/\P 2){u:Nat}(a:V3 u):P u:=
 a.rec (motive:=λu y=>P u) h.1 h.2.1 h.2.2
theorem Mk.all2{P:Nat->Nat->Prop}(c:P 1 0/\P 2 0/\P 3 0/\P 4 0/\P 5 0/\P 6 0/\P 7 0)(d:P 1 1/\P 2 1/\P 3 1/\P 4 1/\P 5 1/\P 6 1/\P 7 1)(e:P 1 2/\P 2 2/\P 3 2/\P 4 2/\P 5 2/\P 6 2/\P 7 2){m u:Nat}(a:Mk m)(f:V3 u):P m u:=
 V3.all (P:=λu=>P m u) ⟨Mk.all (P:=λm=>P m 0) c a,Mk.all (P:=λm=>P m 1) d a,Mk.all (P:=λm=>P m 2) e a⟩ f
def pp(m u:Nat):Nat:=M (Ye u (Mb m)) (m - Ki u) m
def X7(m:Nat)(f:Nat->Bool):Nat:=M (Ye 0 (Mb m)) (M (f 0) 1 0) 0+(M (Ye 1 (Mb m)) (M (f 1) 2 0) 0+M (Ye 2 (Mb m)) (M (f 2) 4 0) 0)
noncomputable def w9(s z u:Nat):Bool:=Sa s (gh u z) λs=>Sa s (gh z u) λs=>Sa s (!Ub u z) λy=>Ub u z
def Yh(s m z:Nat):Nat:=X7 m (w9 s z)
noncomputable def Ft(s:Nat):W:=Sa s (.str "<=") λs=>Sa s (.str ">=") λs=>Sa s (.str "!=") λu=>.str "="
inductive S4:Nat->Prop
 |s0:S4 0|s1:S4 1|s2:S4 2|s3:S4 3
theorem S4.of:{v:Nat}->v<4->S4 v
 |0,u=>.s0|1,_=>.s1|2,_=>.s2|3,_=>.s3|u+4,h=>zc h (Ud.mpr (Ve 4 _))
theorem S4.all(h:P 0/\P 1/\P 2/\P 3){u:Nat}(a:S4 u):P u:=
 a.rec (motive:=λu y=>P u) h.1 h.2.1 h.2.2.1 h.2.2.2
variable {R:Type} {m u s:Nat} {x:Int}
theorem VT(k:List W->Option R):Mk m->YN (.int (.ofNat m)) k=k (Lw m):=Mk.all (P:=λm=>YN (.int (.ofNat m)) k=k (Lw m)) (by and_intros<;>kernel_rfl)
theorem GV:Mk m->JQ [.l (Lw m)]=J (Dn m):=Mk.all (P:=λm=>JQ [.l (Lw m)]=J (Dn m)) (by and_intros<;>kernel_rfl)
theorem J2:Mk m->qaO [Dn m]=J (.l (Lw m)):=Mk.all (P:=λm=>qaO [Dn m]=J (.l (Lw m))) (by and_intros<;>kernel_rfl)
theorem LV(a:ub)(k:List W->Option R):Mk m->MQ a (Dn m) k=k (Lw m):=Mk.all (P:=λm=>MQ a (Dn m) k=k (Lw m)) (by and_intros<;>kernel_rfl)
theorem D2:Mk m->qaM [Dn m]=J (.int (.ofNat (len (Mb m)))):=Mk.all (P:=λm=>qaM [Dn m]=J (.int (.ofNat (len (Mb m))))) (by and_intros<;>kernel_rfl)
theorem G2:Mk m->V3 u->qaN [Dn m,.int (.ofNat u)]=J (.bool (Ye u (Mb m))):=Mk.all2 (P:=λm u=>qaN [Dn m,.int (.ofNat u)]=J (.bool (Ye u (Mb m)))) (by and_intros<;>kernel_rfl) (by and_intros<;>kernel_rfl) (by and_intros<;>kernel_rfl)
theorem KV:Mk m->V3 u->JK [.t [.int x,.str "!=",.int (.ofNat u)],Dn m]=J (Dn (pp m u)):=Mk.all2 (P:=λm u=>JK [.t [.int x,.str "!=",.int (.ofNat u)],Dn m]=J (Dn (pp m u))) (by and_intros<;>kernel_rfl) (by and_intros<;>kernel_rfl) (by and_intros<;>kernel_rfl)
theorem JV(d:S4 s)(a:Mk m)(c:V3 u):JK [.t [.int x,Ft s,.int (.ofNat u)],Dn m]=J (Dn (Yh s m u)):=
 S4.all (P:=λs=>JK [.t [.int x,Ft s,.int (.ofNat u)],Dn m]=J (Dn (Yh s m u))) ⟨Mk.all2 (P:=λm u=>JK [.t [.int x,Ft 0,.int (.ofNat u)],Dn m]=J (Dn (Yh 0 m u))) (by and_intros<;>kernel_rfl) (by and_intros<;>kernel_rfl) (by and_intros<;>kernel_rfl) a c,
  Mk.all2 (P:=λm u=>JK [.t [.int x,Ft 1,.int (.ofNat u)],Dn m]=J (Dn (Yh 1 m u))) (by and_intros<;>kernel_rfl) (by and_intros<;>kernel_rfl) (by and_intros<;>kernel_rfl) a c,
  Mk.all2 (P:=λm u=>JK [.t [.int x,Ft 2,.int (.ofNat u)],Dn m]=J (Dn (Yh 2 m u))) (by and_intros<;>kernel_rfl) (by and_intros<;>kernel_rfl) (by and_intros<;>kernel_rfl) a c,
  Mk.all2 (P:=λm u=>JK [.t [.int x,Ft 3,.int (.ofNat u)],Dn m]=J (Dn (Yh 3 m u))) (by and_intros<;>kernel_rfl) (by and_intros<;>kernel_rfl) (by and_intros<;>kernel_rfl) a c⟩ d
def Pn(m d:Nat):Int:=M (Ub d m) 1 (M (Ub d 0) (-1) 0)
theorem DV(d:S4 s)(a:Mk m)(c:V3 u):iD [.t [.int x,Ft s,.int (.ofNat u)],Dn m]=J (.int (Pn m (Yh s m u))):=
 S4.all (P:=λs=>iD [.t [.int x,Ft s,.int (.ofNat u)],Dn m]=J (.int (Pn m (Yh s m u)))) ⟨Mk.all2 (P:=λm u=>iD [.t [.int x,Ft 0,.int (.ofNat u)],Dn m]=J (.int (Pn m (Yh 0 m u)))) (by and_intros<;>kernel_rfl) (by and_intros<;>kernel_rfl) (by and_intros<;>kernel_rfl) a c,
  Mk.all2 (P:=λm u=>iD [.t [.int x,Ft 1,.int (.ofNat u)],Dn m]=J (.int (Pn m (Yh 1 m u)))) (by and_intros<;>kernel_rfl) (by and_intros<;>kernel_rfl) (by and_intros<;>kernel_rfl) a c,
  Mk.all2 (P:=λm u=>iD [.t [.int x,Ft 2,.int (.ofNat u)],Dn m]=J (.int (Pn m (Yh 2 m u)))) (by and_intros<;>kernel_rfl) (by and_intros<;>kernel_rfl) (by and_intros<;>kernel_rfl) a c,
  Mk.all2 (P:=λm u=>iD [.t [.int x,Ft 3,.int (.ofNat u)],Dn m]=J (.int (Pn m (Yh 3 m u)))) (by and_intros<;>kernel_rfl) (by and_intros<;>kernel_rfl) (by and_intros<;>kernel_rfl) a c⟩ d
def Vs(x:Int)(m:Nat):List W:=match IQ [.int x,Dn m]with|some (.l ss)=>ss|_=>[]
theorem qA:Mk m->IQ [.int x,Dn m]=J (.l (Vs x m))/\gh (len (Vs x m)) 5=Z/\Ob (Vs x m)=Z:=Mk.all (P:=λm=>IQ [.int x,Dn m]=J (.l (Vs x m))/\gh (len (Vs x m)) 5=Z/\Ob (Vs x m)=Z) (by and_intros<;>kernel_rfl)
theorem tM:{d:Nat}->d<=7->rk (Dn d) (.t [])=J (Ub d 0)
 |0,u=>by kernel_rfl|d+1,h=>Mk.all (P:=λd=>rk (Dn d) (.t [])=J (Ub d 0)) (by and_intros<;>kernel_rfl) (Mk.of (Ve 1 d) h)
theorem HY{a b:Nat}(d:Mk a)(c:Mk b):rk (Dn a) (Dn b)=J (Ub a b):=Mk.all (P:=λa=>rk (Dn a) (Dn b)=J (Ub a b))
 ⟨Mk.all (P:=λb=>rk (Dn 1) (Dn b)=J (Ub 1 b)) (by and_intros<;>kernel_rfl) c,Mk.all (P:=λb=>rk (Dn 2) (Dn b)=J (Ub 2 b)) (by and_intros<;>kernel_rfl) c,Mk.all (P:=λb=>rk (Dn 3) (Dn b)=J (Ub 3 b)) (by and_intros<;>kernel_rfl) c,Mk.all (P:=λb=>rk (Dn 4) (Dn b)=J (Ub 4 b)) (by and_intros<;>kernel_rfl) c,Mk.all (P:=λb=>rk (Dn 5) (Dn b)=J (Ub 5 b)) (by and_intros<;>kernel_rfl) c,Mk.all (P:=λb=>rk (Dn 6) (Dn b)=J (Ub 6 b)) (by and_intros<;>kernel_rfl) c,Mk.all (P:=λb=>rk (Dn 7) (Dn b)=J (Ub 7 b)) (by and_intros<;>kernel_rfl) c⟩ d
end
section
variable {X:Type} {i x m b u:Nat} {w:W} {s:Ff}
theorem Kc{n:Nat}{a:List X}(h:a.length<n):Jd n a=Z:=by
 unfold Jd;refine U (Qe _) ?_;exact ud.mpr h
theorem V7{a:List W}(h:a[i]?=J w):Kg a (.ofNat i)=J w:=(Tz a i).trans h
theorem yp{f:X->W}{c:List X}{a:X}(h:c[i]?=J a):Kg (c.map f) (.ofNat i)=J (f a):=V7 (by refine U Ec (U h ?_);rfl)
theorem A2{a:List W}:∀{i:Nat}{w:W},i<a.length->O9 a w i=J (a.set i w):=by
 induction a with
 |nil=>exactλh=>zc h (We _)|cons x a c=>
  intro i w h
  induction i using Sa with
  |zero=>rfl|succ i=>show H (O9 a w i) _=_;exact U (c (Fg h)) rfl
theorem Pj{a c:List W}(h:Ob a=Z)(k:Ob c=Z):Ob (a++c)=Z:=by
 induction a with
 |nil=>exact k|cons x a d=>exact Aa.mpr ⟨(Aa.mp h).1,d (Aa.mp h).2⟩
theorem QJ{x:Int}:∀a:List Int,(Ql a x).length<=a.length+1:=by
 intro a
 induction a with
 |nil=>
  exact Gb _
 |cons k a c=>
  show(M (Rp k x) (k::a) (k::Ql a x)).length<=_
  induction Rp k x with
  |true=>exact se _|false=>exact sf (c)
theorem Dt{x:Int}(h:Hd w=Z)(c:List Int)(a:List W)(j:Ob a=Z):Ob (Sl c x w a)=Z:=match c,a,j with
 |[],u,y=>Aa.mpr ⟨h,rfl⟩|u::y,[],z=>Aa.mpr ⟨h,rfl⟩|k::c,v::a,e=>by
  show Ob (M (Rp k x) (w::a) (v::Sl c x w a))=Z
  have e:=Aa.mp e
  induction Rp k x with
  |true=>exact Aa.mpr ⟨h,e.2⟩|false=>exact Aa.mpr ⟨e.1,Dt h c a e.2⟩
theorem Hu:Mk m->Hd (Dn m)=Z:=Mk.all (P:=λm=>Hd (Dn m)=Z) (by and_intros<;>kernel_rfl)
theorem yr:{a:List Nat}->(∀m∈a,Mk m)->Ob (a.map Dn)=Z:=by
 intro a
 induction a with
 |nil=>
  rintro _;exact rfl
 |cons m a c=>
  rintro h;exact Aa.mpr ⟨Hu (h m sa),c λx d=>h x (oa _ d)⟩
structure SI(ms:List Nat)(b:Nat)(s:Ff):Prop where
 all:∀m∈ms,Mk m
 wL:s.1=ms.map Dn
 fst:Ob s.2.1=Z
 trp:Ob s.trail=Z
 mkp:Ob s.2.2.2.1=Z
 nwp:Ob s.news.2=Z
 clp:Ob s.2.2.2.2.2.2.2.1=Z
 trl:s.trail.length<=b
 mkl:s.2.2.2.1.length<=b
 nwl:s.news.1.length<=b
 bad:s.bad=ua
theorem iC(a:Ob s.1=Z)(c:Ob s.2.1=Z)(d:Ob s.trail=Z)(e:Ob s.2.2.2.1=Z)(f:Ob s.news.2=Z)(g:Ob s.2.2.2.2.2.2.2.1=Z):Jf (Xg s).fs=Z:=by
 show(Ob s.1&&(Ob s.2.1&&(Ob s.trail&&(Ob s.2.2.2.1&&(Ob s.news.2&&(Z&&(Z&&(Ob s.2.2.2.2.2.2.2.1&&Z))))))))=Z
 refine U a (U c (U d (U e (U f (U g ?_)))));rfl
theorem SI.plain{a:List Nat}(I:SI a b s):Jf (Xg s).fs=Z:=iC (I.wL▸yr I.all) I.fst I.trp I.mkp I.nwp I.clp
theorem List.set_getElem?_self'{c:List X}:∀{i:Nat}{a:X},c[i]?=J a->c.set i a=c:=by
 induction c with
 |nil=>exactλh=>ja h|cons x c d=>
  intro i a h
  induction i using Sa with
  |zero=>exact Gc (λy=>y::_) (ba h).symm|succ i=>exact Gc (λy=>x::y) (d h)
theorem bH{c:List X}{a b:X}(h:b∈c.set i a):b∈c\/b=a:=List.mem_or_eq_of_mem_set h
theorem jB{c:List Nat}{d:Nat}(I:SI c b s)(A:b<4000)(h:c[x]?=J m)(j:Mk d){y z rs sp:W}(q:JK [.t [.int (.ofNat x),y,z],Dn m]=J (Dn d))(r:Ob [y,z]=Z)(f:nb rs=Z/\Hd rs=Z)(g:nb sp=Z/\Hd sp=Z)(n:Ff->ub):
 ∃o,SI (c.set x d) (b+1) o/\∀(R:Type)(k:Bool×Ff->Option R),rp [.int (.ofNat x),y,z] rs sp n s k=k (Z,o):=by
 have p:Mk m:=I.all m (Ma h);have start:∀(R:Type)(k:Bool×Ff->Option R),rp [.int (.ofNat x),y,z] rs sp n s k=M (Ub d m) (k (Z,s)) (M (nb rs) (M (nb sp) (M (Jd 4096 s.trail) (H (iu s.wL (.ofNat x) (Dn d)) λa=>M (Jd 4096 s.news.1) (k (Z,s.put a (s.trail++[.t [.int (.ofNat x),Dn m,.t [.int (.ofNat x),y,z],rs,sp]]) (Ql s.news.1 (.ofNat x),Sl s.news.1 (.ofNat x) (.bool Z) s.news.2))) Y) Y) Y) Y):=λR k=>
  (Lb (by refine U (show s.wL=c.map Dn from I.wL) ?_;exact yp h:Kg s.wL (.ofNat x)=J (Dn m))).trans ((Lb q).trans ((Lb ((tM (d:=d) (by cases j<;>decide)).trans (Gc J (by cases j<;>rfl)):rk (Dn d) (.t [])=J ua)).trans (Lb (HY j p))))
 have mX:Ob [.int (.ofNat x),y,z]=Z:=Aa.mpr ⟨rfl,r⟩
 induction l:Ub d m with
 |true=>
  have:c.set x d=c:=by refine U (Uc l) ?_;exact List.set_getElem?_self' h
  exact⟨s,⟨this.symm▸I.all,this.symm▸I.wL,I.fst,I.trp,I.mkp,I.nwp,I.clp,Kd I.trl,Kd I.mkl,Kd I.nwl,I.bad⟩,λR k=>(start R k).trans (Db l)⟩
 |false=>
  have t:iu s.wL (.ofNat x) (Dn d)=J ((c.set x d).map Dn):=by
   refine U (show s.wL=c.map Dn from I.wL) ?_;exact(A2 (by refine U (ya _) ?_;exact(getlt' h:x<c.length))).trans (Gc J (R3.symm))
  refine⟨s.put ((c.set x d).map Dn) (s.trail++[.t [.int (.ofNat x),Dn m,.t [.int (.ofNat x),y,z],rs,sp]]) (Ql s.news.1 (.ofNat x),Sl s.news.1 (.ofNat x) (.bool Z) s.news.2),⟨λa v=>(bH v).elim (I.all a) λe=>e▸j,rfl,I.fst,Pj I.trp ?_,I.mkp,Dt rfl _ _ I.nwp,I.clp,?_,Kd I.mkl,Za (QJ _) (sf I.nwl),I.bad⟩,λR k=>(start R k).trans ((ji l).trans ((Db f.1).trans ((Db g.1).trans ((Db (Kc (ib I.trl (by lia)))).trans ((Lb t).trans (Db (Kc (ib I.nwl (by lia)))))))))⟩
  ·show(Ob [.int (.ofNat x),Dn m,.t [.int (.ofNat x),y,z],rs,sp]&&Z)=Z
   show((Z&&(Hd (Dn m)&&(Ob [.int (.ofNat x),y,z]&&(Hd rs&&(Hd sp&&Z)))))&&Z)=Z
   refine U (Hu p) (U mX (U f.2 (U g.2 ?_)));rfl
  ·show(s.trail++[_]).length<=_
   exact U Ha (sf I.trl)
where getlt' {X:Type} {l:List X} {i:Nat} {o:X} (h:l[i]?=J o):i<l.length:=(wb.mp h).1
theorem jK{c:List Nat}(I:SI c b s)(f:b<4000)(e:c[x]?=J m)(g:V3 u)(j:Mk (pp m u)){rs:List W}(l:Ob rs=Z)(n:rs.length<4096)(d:Ff->ub):
 ∃a,SI (c.set x (pp m u)) (b+1) a/\∀(R:Type)(k:Bool×Ff->Option R),iA [.int (.ofNat x),.str "!=",.int (.ofNat u)] (.l rs) d s k=k (Z,a):=by
 obtain⟨a,o,h⟩:=jB (rs:=.t rs) (sp:=.int s.spk) I f e j (KV (I.all m (Ma e)) g) rfl ⟨rfl,l⟩ ⟨rfl,rfl⟩ d;exact⟨a,o,λR k=>(Lb (rfl:du (.l rs) (d s)=J rs)).trans ((Db (Kc n)).trans (h R k))⟩
theorem dJ{a:List Nat}{t:Nat}(I:SI a b s)(g:b<4000)(c:a[x]?=J m)(d:S4 t)(h:V3 u)(j:Mk (Yh t m u))(e:Ff->ub):
 ∃f,SI (a.set x (Yh t m u)) (b+1) f/\∀(R:Type)(k:Bool×Ff->Option R),rp [.int (.ofNat x),Ft t,.int (.ofNat u)] .none (.int (-1)) e s k=k (Z,f):=
 jB I g c j (JV d (I.all m (Ma c)) h) (S4.all (P:=λt=>Ob [Ft t,.int (.ofNat u)]=Z) ⟨rfl,rfl,rfl,rfl⟩ d) ⟨rfl,rfl⟩ ⟨rfl,rfl⟩ e
structure SB(s:Ff):Prop where
 pl:Jf (Xg s).fs=Z
 bad:s.bad=Z
theorem wz{c:List Nat}(I:SI c b s){rs:List W}(d:Ob rs=Z)(e:rs.length<4096)(a:Ff->ub)(f:du w (a (s.fails s.2.2.2.2.2.2.2.1))=J rs):
 SB (s.fails rs)/\∀(R:Type)(k:Ff->Option R),Qo w a s k=k (s.fails rs):=
 ⟨⟨iC (I.wL▸yr I.all) I.fst I.trp I.mkp I.nwp d,rfl⟩,λR k=>(Lb f).trans (Db (Kc e))⟩
theorem vU{a:List Nat}(I:SI a b s)(d:b<4000):∃c,SI a (b+1) c/\∀(R:Type)(k:Ff->Option R),jP s k=k c:=
 ⟨((s.1,s.2.1,s.2.2.1,s.2.2.2.1++[W.int (Sd s.trail)],s.2.2.2.2):Ff),⟨I.all,I.wL,I.fst,I.trp,Pj I.mkp rfl,I.nwp,I.clp,Kd I.trl,by
  refine U Ha ?_;exact sf I.mkl,Kd I.nwl,I.bad⟩,λR k=>Db (Kc (ib I.mkl (by lia)))⟩
structure Rz(n:Nat)(xs:List W):Prop where
 pl:Ob xs=Z
 len:xs.length<=n
end
theorem Od:∀a:List Nat,Cb a=a.map λi=>W.int (.ofNat i):=by
 intro a
 induction a with
 |nil=>
  exact rfl
 |cons x a c=>
  exact Gc (λy=>W.int (.ofNat x)::y) (c)
theorem Lg{a:List Nat}{i j:Nat}(h:a[i]?=J j):Kg (Cb a) (.ofNat i)=J (.int (.ofNat j)):=by refine U (Od _) ?_;exact yp h
theorem wc(a:List Nat):(Cb a).length=a.length:=by exact U (Od _) (U (ya _) rfl)
theorem mf:∀a:List Nat,Ob (Cb a)=Z:=by
 intro a
 induction a with
 |nil=>
  exact rfl
 |cons d a c=>
  exact c
section
variable {R:Type}
theorem xg{n:Nat}(h:n<12)(k:List W->Option R):Vd (.ofNat n) k=k (Cb (Ka n)):=by
 have e:CD 0 (.ofNat n)=Z:=by
  unfold CD;rw[Pg,Pg,Pg,Pg,decide_eq_true (by lia),decide_eq_true (by lia),decide_eq_true (show(-1000:Int)<jb n from zr (by decide) (wf n)),decide_eq_true (show jb n<1000 from(show(n:Int)<1000 by lia))];rfl
 refine(Db e).trans ((Db e).trans (Gc k (U (show(jb n - 0).toNat=n from by rw[Int.sub_zero];rfl) (U (Yz _ _) (U (Od _) ?_)))));exact fg λi u=>Gc W.int (o5 (i:Int))
theorem Dh{g:W->(List W->Option R)->Option R}{p:Nat->Bool}:{a:List Nat}->(∀i∈a,∀k,g (.int (.ofNat i)) k=M (p i) (k [.int (.ofNat i)]) (k []))->∀k,ze g (Cb a) k=k (Cb (a.filter p)):=by
 intro a
 induction a with
 |nil=>exactλu k=>rfl|cons x a c=>
  intro h k;refine(h x sa _).trans ?_;replace c:=c λi d=>h i (oa _ d);refine U Ri ?_
  induction e:p x with
  |true=>exact c _|false=>exact c _
theorem Ln{a:Type}{f:a->W}{c:List a}:Sd (c.map f)=.ofNat c.length:=by unfold Sd;exact U (Qe _) (U (ya _) rfl)
theorem Zf{a:List Nat}:Sd (Cb a)=.ofNat a.length:=by exact U (Od _) (U Ln rfl)
end
theorem GE{as:List Int}(d:as.length<=4)(o:Int):∃a:List Nat,(∀j∈a,j<as.length)/\a.length<=4/\∀(R:Type)(k:W->Option R),Jl (as.map W.int) o k=k (.l (Cb a)):=by
 refine⟨(Ka as.length).filter λi=>Rp (as[i]?.getD 0) o,λj f=>bc.mp (Vc.mp f).1,Za (Qb _ _) (by refine U Ab ?_;exact d),λR k=>?_⟩;show Vd (Sd (as.map W.int)) _=_
 refine U Ln ?_;refine((λk=>xg (R:=R) (n:=as.length) (by lia) k) _).trans ((Dh (p:=λi=>Rp (as[i]?.getD 0) o) (λi c k=>?_) _).trans (Db (Kc ?_)))
 ·have c:=bc.mp c
  have e:as[i]?=J as[i]:=Wa c;refine(Lb (yp e)).trans ?_;refine U e ?_;rfl
 ·exact U (wc _) (ib (Qb _ _) (by refine U Ab ?_;lia))
section
variable {T V:Type}
theorem Qr{g:(R:Type)->W->T->V->(T->V->Option R)->Option R}(I:Nat->T->Prop){u:V}{B:Nat}:∀{xs:List W}{j:Nat}{m:T},j+xs.length<=B->(∀j v m,v∈xs->j<B->I j m->∃a,I (j+1) a/\∀R k,g R v m u k=k a u)->I j m->∃a,I (j+xs.length) a/\∀R k,nh (g R) xs m u k=k a u:=by
 intro xs
 induction xs with
 |nil=>
  rintro j m _ _ i;exact⟨m,i,λy y=>rfl⟩
 |cons x xs d=>
  rintro j m c h i;rw[mc,pi xs.length 1,<-qr]at c|-;refine aa λe=>?_;obtain⟨m1,f,l⟩:=h j x m sa (rb (pd j) (Za (Nc _ _) c)) i;obtain⟨o,p,q⟩:=d c (λj v m r=>h j v m (oa _ r)) f;exact e (⟨o,p,λR k=>(l R _).trans (q R k)⟩)
end
theorem Rz.mono{n d:Nat}{a:List W}(h:Rz n a)(k:n<=d):Rz d a:=⟨h.pl,Za h.len k⟩
theorem AM{n d:Nat}{fr a:List W}(h:Rz n fr)(c:Rz d a)(e:n+d<4096):Rz (n+d) (fr++a)/\∀(R:Type)(k:List W->Option R),t7 fr (.l a) k=k (fr++a):=
 ⟨⟨Pj h.pl c.pl,by refine U Ha ?_;exact Kk h.len c.len⟩,λR k=>Db (b:=ac (len fr+len a) 4096) (by refine U (Qe _) (U (Qe _) ?_);exact ud.mpr (ib (Kk h.len c.len) e))⟩
theorem qp{X:List Nat}{b i m:Nat}{s:Ff}(I:SI X b s)(h:X[i]?=J m){R:Type}(k:W->Option R):cx s.wL (.int (.ofNat i)) k=k (Dn m):=Lb (o:=Kg s.wL (.ofNat i)) (by refine U (show s.wL=X.map Dn from I.wL) ?_;exact yp h)
theorem VQ{x:Int}{m:Nat}(h:Mk m):Rz 5 (Vs x m)/\∀(R:Type)(k:W->Option R),sF (.int x) (Dn m) k=k (.l (Vs x m)):=
 ⟨⟨(qA h).2.2,by have:=gb (qA (x:=x) h).2.1;rw[Qe]at this;exact this⟩,λR k=>Lb (qA h).1⟩
section
variable {X:List Nat} {b n:Nat} {s:Ff} {h:H3} {as:List Int}
theorem jG(I:SI X b h.st)(F:X.length=n)(w:n<=4)(G:h.pl.at=as.map W.int)(l:as.length=n){is:List Int}(K:is.length<=4):∃C,Rz 100 C/\∀(R:Type)(k:List W->Option R),Wx (Cb (Ka n)) h (.l (is.map W.int)) k=k C:=by
 have d:∀{j:Nat}{m:List W×Option W×Unit},j<n->{a:Nat}->a+5<4096->Rz a m.1->∃c:List W×Option W×Unit,Rz (a+5) c.1/\∀(R:Type) k,uy (R:=R) (Cb (Ka n)) h (.int (.ofNat j)) m () k=k c ():=λ{j m} p a D r=>by
  have e:Kg (Cb (Ka n)) (.ofNat j)=J (.int (.ofNat j)):=Lg (by exact U (bf p) rfl);have q:X[j]?=J X[j]:=Wa (F▸p);refine aa λy=>?_;obtain⟨f,z⟩:=VQ (x:=.ofNat j) (I.all _ (Ma q));obtain⟨i,o⟩:=AM r f D;exact y (⟨(m.1++Vs (.ofNat j) X[j],J (.int (.ofNat j)),()),i,λR k=>(Lb e).trans ((Lb e).trans ((qp I q _).trans ((z R _).trans (o R _))))⟩)
 have f:∀{o:Int}{m:JR}{a:Nat},a+20<4096->Rz a m.1->∃c:JR,Rz (a+20) c.1/\∀(R:Type) k,GG (R:=R) (Cb (Ka n)) h (.int o) m () k=k c ():=λ{o m a} D r=>by
  refine aa λy=>?_;obtain⟨E,L,N,e⟩:=GE (as:=as) (l▸w) o;obtain⟨c,A,q⟩:=Qr (g:=λR=>uy (R:=R) (Cb (Ka n)) h) (u:=()) (xs:=Cb E) (j:=0) (m:=(m.1,m.2.2.1,())) (B:=4) (λj(m:List W×Option W×Unit)=>Rz (a+5*j) m.1) (by refine U (wc _) (U (lh _) ?_);exact N) (λj v m t p i=>by
   rw[Od]at t;obtain⟨x,O,rfl⟩:=Rb.mp t;exact d (l▸L x O) (by show a+5*j+5<4096;lia) i) r
  refine y ?_;refine⟨(c.1,J (.int o),c.2.1,()),A.mono (by refine U (wc _) ?_;lia),λR k=>?_⟩;have z:ot (R:=R) (.int o) h.pl (λxs=>nh (uy (Cb (Ka n)) h) xs (m.1,m.2.2.1,()) () λm u=>k (m.1,J (.int o),m.2.1,()) u)=nh (uy (Cb (Ka n)) h) (Cb E) (m.1,m.2.2.1,()) () λm u=>k (m.1,J (.int o),m.2.1,()) u:=by
   show Jl h.pl.at o _=_
   refine U G ?_;exact(e R _).trans (Db (Kc (by refine U (wc _) ?_;lia)))
  exact z.trans (q R _)
 obtain⟨c,A,e⟩:=Qr (g:=λR=>GG (R:=R) (Cb (Ka n)) h) (u:=()) (xs:=is.map W.int) (j:=0) (m:=(([],Y,Y,()):JR)) (B:=4) (λj m=>Rz (20*j) m.1) (by refine U (ya _) (U (lh _) ?_);exact K) (λj v m t p i=>by
  obtain⟨x,_,rfl⟩:=Rb.mp t;exact f (by show 20*j+20<4096;lia) i) ⟨rfl,Gb _⟩
 exact⟨c.1,A.mono (by refine U (ya _) ?_;lia),λR k=>(Db (Kc (by refine U (ya _) ?_;lia))).trans (e R _)⟩
end
theorem rN:∀is:List Int,Jv (is.map W.int)=J is:=by
 intro is
 induction is with
 |nil=>
  exact rfl
 |cons i is a=>
  show H (Jv (is.map W.int)) _=_;refine U a ?_;rfl
theorem Il(a:List Nat):Cb a=(a.map jb).map W.int:=by refine U (Od _) (U Qd ?_);rfl
theorem Dz{x:Int}{is:List Int}:AA (.int x) (.l (is.map W.int))=J (Vk x is):=by
 show(match Jv (is.map W.int)with|some is=>J (Vk x is)|none=>NW (.int x) (.l (is.map W.int)))=_
 exact U (rN _) rfl
theorem aO(x:Nat):∀a:List Nat,Vk (.ofNat x) (a.map jb)=Ye x a:=by
 intro a
 induction a with
 |nil=>
  exact rfl
 |cons j a b=>
  show M (Ub j x) Z (Vk (.ofNat x) (a.map jb))=_
  refine U b ?_;rfl
theorem MG{x:Nat}{a:List Nat}:AA (.int (.ofNat x)) (.l (Cb a))=J (Ye x a):=by exact U (Il _) (U Dz (U (aO _ _) rfl))
theorem dM{g:(R:Type)->W->(List W->Option R)->Option R}{d:Nat}:{xs:List W}->(∀v∈xs,∃a,Rz d a/\∀R b,g R v b=b a)->∃b,Rz (d*xs.length) b/\∀R k,ze (g R) xs k=k b:=by
 intro xs
 induction xs with
 |nil=>
  rintro _;exact⟨[],⟨rfl,td _⟩,λu u=>rfl⟩
 |cons x xs f=>
  rintro h;refine aa λi=>?_;obtain⟨a,c,j⟩:=h x sa;obtain⟨b,e,l⟩:=f λv m=>h v (oa _ m);refine i ?_;exact⟨a++b,⟨Pj c.pl e.pl,by refine U Ha (U mc (U (B5 _ _) (U (pi _ _) ?_)));exact Kk e.len c.len⟩,λR k=>(j R _).trans (l R _)⟩
section
variable {n:Nat} {h:H3} {as:List Int}
theorem RG(t:n<=4)(E:h.pl.at=as.map W.int)(l:as.length=n){a c:List Nat}(A:∀j∈c,j<a.length)(F:c.length<=4):∃C,Rz 100 C/\∀(R:Type)(k:List W->Option R),wt (Cb (Ka n)) (Cb a) (Cb c) h k=k C:=by
 have z:{i:Nat}->i<n->∃f,Rz 4 f/\∀(R:Type)(k:List W->Option R),A6 (Cb (Ka n)) (Cb a) (Cb c) (.int (.ofNat i)) k=k f:=λ{i} G=>by
  have q:Kg (Cb (Ka n)) (.ofNat i)=J (.int (.ofNat i)):=Lg (by exact U (bf G) rfl);obtain⟨f,r,e⟩:=dM (g:=λR o y=>H (Ua (.int (.ofNat i))) λi=>H (Kg (Cb (Ka n)) i) λx=>M (nb x) (H (Ua o) λj=>H (Kg (Cb a) j) λw=>M (nb w) (y [.t [x,.str "!=",w]]) Y) Y) (d:=1) (xs:=Cb c) λv o=>by
   rw[Od]at o;obtain⟨j,p,rfl⟩:=Rb.mp o;have s:Kg (Cb a) (.ofNat j)=J (.int (.ofNat a[j]!)):=Lg (by exact U (Wa (A j p)) (U (getElem!_pos a j (A j p)) rfl));exact⟨[.t [.int (.ofNat i),.str "!=",.int (.ofNat a[j]!)]],⟨rfl,Gb _⟩,λR y=>(Lb q).trans (Lb s)⟩
  rw[wc,Z9]at r;exact⟨f,r.mono F,λR k=>(Db (Kc (by refine U (wc _) ?_;lia))).trans ((e R _).trans (Db (Kc (ib r.len (by lia)))))⟩
 refine aa λr=>?_;obtain⟨w,I,e⟩:=Qr (g:=λR=>HG (R:=R) (Cb (Ka n)) (Cb a) (Cb c) h) (u:=()) (xs:=Cb (Ka n)) (j:=0) (m:=(([],Y,()):UX)) (B:=4) (λj m=>Rz (4*j) m.1) (by refine U (wc _) (U Ab (U (lh _) ?_));exact t) (λj v m o N i=>by
  rw[Od]at o;obtain⟨x,p,rfl⟩:=Rb.mp o;have p:=bc.mp p;have q:Kg h.pl.at (.ofNat x)=J (.int as[x]!):=by refine U E ?_;exact yp (by exact U (Wa (l.symm▸p)) (U (getElem!_pos as x (l.symm▸p)) rfl))
  have s:AA (.int as[x]!) (.l (Cb c))=J (Vk as[x]! (c.map jb)):=by refine U (Il _) ?_;exact Dz
  induction y:Vk as[x]! (c.map jb)with
  |true=>exact⟨(m.1,J (.int (.ofNat x)),()),i.mono (Nat.mul_le_mul_left 4 (se j)),λR k=>(Lb q).trans ((Lb s).trans (by refine U y ?_;rfl))⟩|false=>
   refine aa λr=>?_;obtain⟨f,D,K⟩:=z p;obtain⟨L,_⟩:=AM i D (by show 4*j+4<4096;lia);refine r ?_;exact⟨(m.1++f,J (.int (.ofNat x)),()),L,λR k=>(Lb q).trans ((Lb s).trans ((Db (by refine U y ?_;rfl)).trans ((K R _).trans (Db (b:=ac (len m.1+len f) 4096) (by refine U (Qe _) (U (Qe _) ?_);exact ud.mpr (ib (Kk i.len D.len) (show 4*j+4<4096 by lia)))))))⟩) ⟨rfl,Gb _⟩
 refine r ?_;refine⟨w.1,I.mono (by refine U (wc _) (U Ab ?_);lia),λR k=>?_⟩;have p:Vd (R:=R) (Sd (Cb (Ka n))) (λxs=>nh (HG (Cb (Ka n)) (Cb a) (Cb c) h) xs (([],Y,()):UX) () λm y=>k m.1)=k w.1:=by
  exact U Zf (U Ab ((xg (by lia) _).trans (e R _)))
 exact p
end
section
variable {V X:Type}
end
def zq(m:Nat)(us:List Nat):Nat:=us.foldl pp m
theorem a7(u:Nat):pp 0 u=0:=rfl
theorem P7:∀a:List Nat,zq 0 a=0:=by
 intro a
 induction a with
 |nil=>
  exact rfl
 |cons u a c=>
  show zq (pp 0 u) a=0;refine U (a7 _) ?_;exact c
theorem RS(m u:Nat):pp m u<=m:=by
 unfold pp
 induction Ye u (Mb m)with
 |true=>exact Nat.sub_le _ _|false=>exact Gb _
theorem Mk.le{m:Nat}(h:Mk m):1<=m/\m<=7:=Mk.all (P:=λm=>1<=m/\m<=7) (by decide) h
theorem eN{m u:Nat}{a:List Nat}(c:Mk m)(h:Mk (zq m (u::a))):Mk (pp m u):=by
 refine Mk.of (Nat.pos_of_ne_zero λe=>?_) (Za (RS m u) c.le.2);have:zq m (u::a)=0:=by show zq (pp m u) a=0;refine U e ?_;exact P7 a
 rw[this]at h;exact zc h.le.1 (by decide)
section
variable {n b x:Nat} {X:List Nat}
theorem RP{c:Type}{l:List c}{i:Nat}{a:c}(h:i<l.length):(l.set i a)[i]?=J a:=by exact U (je h) rfl
structure oW(X:List Nat)(b:Nat)(p:Ae)(h:H3):Prop where
 si:SI X b h.st
 pl:h.pl=p
theorem lD{y:Y3}{f:List W}{p:Ae}(j:x<X.length)(r:Ob f=Z)(t:f.length<4096){a:List Nat}:∀{m b:Nat}{h:H3}(d:Option W×Unit),(∀u∈a,V3 u)->Mk (zq m a)->b+a.length<=4000->oW (X.set x m) b p h->
 ∃g e,oW (X.set x (zq m a)) (b+a.length) p e/\∀(R:Type) k,lg (WM (R:=R) (.int (.ofNat x)) f y) (Cb a) d h k=k (.go g e):=by
 induction a with
 |nil=>exactλ{m b h} d z z z i=>⟨d,h,i,λR k=>rfl⟩|cons u a v=>
  intro m b h d l hT o i;have z:Mk m:=i.si.all m (Ma (RP j));have c:b+1+a.length=b+(u::a).length:=by exact U mc (U (qr _ _ _) (U (pi 1 _) rfl))
  obtain⟨A,q,B⟩:=jK i.si (rb (Yd (kh a.length)) o) (RP j) (l u sa) (eN z hT) r t λs=>c3.wR y (h.putS s);rw[List.set_set]at q;obtain⟨g,e,s,C⟩:=v (m:=pp m u) (b:=b+1) (h:=h.putS A) (J (.int (.ofNat u)),()) (λw D=>l w (oa _ D)) hT (c.symm▸o) ⟨q,i.pl⟩;exact⟨g,e,c▸s,λR k=>(B R _).trans (C R k)⟩
end
def Hk(o:Nat)(vs:List Nat)(m:Nat):List Nat:=if o<vs.length then[vs[o]!]else(Mb m).filter λu=> !Ye u vs
theorem oU{m:Nat}:Mk m->∀u∈Mb m,V3 u:=Mk.all (P:=λm=>∀u∈Mb m,V3 u) (by and_intros<;>(intro u a;exact V3.of (by revert u;decide)))
theorem Xr{R:Type}{a:List W}(h:a.length<4900)(k:List W->Option R):Nf (.l a) k=k a:=Db (Kc h)
theorem Oj{m:Nat}:Mk m->(Mb m).length<=3:=Mk.all (P:=λm=>(Mb m).length<=3) (by decide)
theorem JI{X a:List Nat}{b x m:Nat}{s:Ff}(I:SI X b s)(d:X[x]?=J m){R:Type}(k:List W->Option R):gz s.wL (Cb a) (.int (.ofNat x)) k=k (Cb ((Mb m).filter λu=> !Ye u a)):=by
 have c:=I.all m (Ma d);refine(qp I d _).trans ((Lb (J2 c)).trans ((Xr (by unfold Lw;refine U (wc _) ?_;have:=Oj c;lia) _).trans ?_));exact(Dh (p:=λu=> !Ye u a) (λu e f=>(Lb MG).trans rfl) _).trans (Db (Kc (U (wc _) (ib (Qb _ _) (by have:=Oj c;lia)))))
theorem MV{o:Nat}{c:List Nat}{m:Nat}(d:Mk m){R:Type}(k:List W->Option R):tG (.ofNat o) (Cb c) (Cb ((Mb m).filter λu=> !Ye u c)) k=k (Cb (Hk o c m)):=by
 have e:Qh (.ofNat o) (Sd (Cb c))=ac o c.length:=by refine U Zf ?_;rfl
 unfold Hk;by_cases h:o<c.length
 ·refine U (Dd h) ((Db (e.trans (ud.mpr h))).trans (Lb (o:=Kg (Cb c) (.ofNat o)) (a:=.int (.ofNat c[o]!)) ?_))
  exact Lg (by exact U (Wa h) (U (getElem!_pos c o h) rfl))
 ·refine U (fe h) ?_
  exact(ji (e.trans (Xs.mpr λz=>h (ud.mp z)))).trans (Db (Kc (by refine U (wc _) ?_;exact ib (Qb _ _) (by have:=Oj d;lia))))
theorem rz{xs:List W}{a:List Vf}(h:Oe (Zd 5) xs=J a):rk (.l xs) (.l [])=J xs.isEmpty:=by
 show((Oe (Zd 5) xs).map xD).bind _=_
 refine U h ?_
 induction xs using ma with
 |nil=>obtain rfl:=ba h;rfl|cons x xs=>
  refine aa λb=>(Wg h λd e c=>?_);refine Ds c λf g z=>?_;subst z;refine b ?_
  rfl
theorem zl(a:List Nat):rk (.l (Cb a)) (.l [])=J a.isEmpty:=by
 refine U (Il _) ((rz (fy _)).trans ?_)
 induction a using ma<;>rfl
theorem SI.mono{a:List Nat}{b c:Nat}{s:Ff}(I:SI a b s)(h:b<=c):SI a c s:=⟨I.all,I.wL,I.fst,I.trp,I.mkp,I.nwp,I.clp,Za I.trl h,Za I.mkl h,Za I.nwl h,I.bad⟩
def Bz(o:Nat)(vs ms:List Nat)(k:Nat):List Nat:=ms.set k (zq ms[k]! (Hk o vs ms[k]!))
def vm(o:Nat)(vs ms ks:List Nat):List Nat:=ks.foldl (Bz o vs) ms
theorem NQ{o:Nat}{vs:List Nat}{m:Nat}(a:Mk m):(Hk o vs m).length<=3:=by
 unfold Hk
 split
 ·exact gb rfl
 ·exact Za (Qb _ _) (Oj a)
theorem tI{o:Nat}{vs:List Nat}{m:Nat}(hv:∀v∈vs,V3 v)(hm:Mk m):∀u∈Hk o vs m,V3 u:=by
 unfold Hk
 split
 ·rename_i h
  intro u hu;exact U (Ra.mp hu) (U (getElem!_pos vs o h) (hv _ (lu h)))
 ·exactλu hu=>oU hm u (Vc.mp hu).1
theorem vc{a:List Nat}{k:Nat}(h:k<a.length):a[k]?=J a[k]! :=by exact U (Wa h) (U (getElem!_pos a k h) rfl)
section
variable {n o:Nat} {vs:List Nat} {y:Y3} {X:List W} {p:Ae}
theorem Tv(B:y.ca.wQ=Cb (Ka n))(r:y.ca.wP=Cb vs)(C:∀v∈vs,V3 v)(D:Ob X=Z)(E:X.length<4096){a:List Nat}:∀{ms:List Nat}{b:Nat}{h:H3}(c:T3),ms.length=n->a.Nodup->(∀k∈a,k<n/\Mk (zq ms[k]! (Hk o vs ms[k]!)))->b+3*a.length<=4000->oW ms b p h->
 ∃f e,oW (vm o vs ms a) (b+3*a.length) p e/\∀(R:Type) k,lg (VM (R:=R) (.ofNat o) X y) (Cb a) c h k=k (.go f e):=by
 induction a with
 |nil=>exactλ{ms b h} c q q q q i=>⟨c,h,i,λR k=>rfl⟩|cons k a F=>
  intro ms b h c s t v g i;obtain⟨d,hT⟩:=v k sa;have w:k<ms.length:=s.symm▸d;have l:=vc w;have m:=i.si.all _ (Ma l);rw[mc,B5,<-qr,kL]at g|-;have x:=NQ (o:=o) (vs:=vs) m;obtain⟨m1,N,A,G⟩:=lD (y:=y) w D E (c.2.2.1,()) (tI C m) hT (Za (Zj x b) (Za (Nc _ _) g)) (by refine U (List.set_getElem?_self' l) ?_;exact i:oW (ms.set k ms[k]!) b p h);obtain⟨f,e,I,K⟩:=F (ms:=Bz o vs ms k) (J (.int (.ofNat k)),J (.int (.ofNat k)),m1.1,J (.l (Cb ((Mb ms[k]!).filter λu=> !Ye u vs))),()) (by unfold Bz;refine U yb ?_;exact s) (Fc.mp t).2 (λj u=>by
   have q:k≠j:=λz=>(Fc.mp t).1 (z▸u);have L:(Bz o vs ms k)[j]! =ms[j]! :=by
    unfold Bz;exact U Cc (U (Xc q) (Ed Cc rfl))
   refine U L ?_;exact v j (oa _ u)) g ⟨A.si.mono (Zj x b),A.pl⟩
  refine⟨f,e,I,λR q=>dn ?_ (K R q)⟩;refine(Lb (by refine U B ?_;exact Lg (by exact U (bf d) rfl):Kg y.ca.wQ (.ofNat k)=J (.int (.ofNat k)))).trans ?_;show gz h.st.wL y.ca.wP (.int (.ofNat k)) _=_
  refine U r ((JI i.si l _).trans ?_);show tG (.ofNat o) y.ca.wP _ _=_
  exact U r ((MV m _).trans (G R _))
end
theorem ul{b c:Type}{o:Option b}{f g:b->Option c}(h:∀a,o=J a->f a=g a):H o f=H o g:=by
 induction o with
 |none=>rfl|some a=>exact h a rfl
theorem CN{a:List W}{i:Int}{w:W}(h:Kg a i=J w):w∈a:=by
 refine dp h λn z e=>?_;rw[Tz]at e;exact Ma e
theorem LA:∀{X:List Nat}{w:W},w∈gi X->∃b,w=.l b:=by
 intro X
 induction X with
 |nil=>
  rintro _ h;exact zc h Tb
 |cons r X c=>
  rintro w h;refine aa λa=>?_;cases h with
  |head=>refine a ?_;exact⟨_,rfl⟩|tail u h=>refine a ?_;exact c h
theorem DI{R:Type}{a b f:List W}{X:List Nat}{o:Int}{d:ub}(k:List W->Option R):Zo a (gi X) b f o d k=Zo a (gi X) b f o [] k:=
 Gc (λg=>Vd (Sd a) λe=>ze g e λc=>M (Jd 4096 c) (k c) Y) (funext λv=>funext λe=>Gc (H (Ua v)) (funext λi=>ul λr c=>by
  obtain⟨g,rfl⟩:=LA (CN c)
  rfl))
section
variable {V lo:List Nat} {fs:List Int}
theorem ZP(e:V.length<=4)(a:lo.length=V.length):∃b:List Nat,(∀j∈b,j<V.length)/\b.length<=4/\∀(R:Type)(k:List W->Option R),Bw (Cb V) (Cb lo) (fs.map W.int) k=k (Cb b):=by
 let p:Nat->Bool:=λi=> !Vk (.ofNat i) fs&&Qh 0 (.ofNat lo[i]!)
 have f:((Ka V.length).filter p).length<=V.length:=Za (Qb _ _) (by refine U Ab ?_;exact Gb _);refine⟨(Ka V.length).filter p,λj g=>bc.mp (Vc.mp g).1,Za f e,λR k=>?_⟩;show Vd (Sd (Cb V)) _=_
 refine U Zf ?_;refine(xg (by lia) _).trans ((Dh (p:=p) (λi c h=>?_) _).trans (Db (Kc ?_)))
 ·have c:=bc.mp c
  refine(Lb Dz).trans ?_
  induction d:Vk (.ofNat i) fs with
  |true=>show _=M (!Vk (.ofNat i) fs&&_) _ _;refine U d ?_;rfl|false=>
   refine(Lb (Lg (vc (a.symm▸c)):Kg (Cb lo) (.ofNat i)=J (.int (.ofNat lo[i]!)))).trans ?_;show M (Qh 0 (.ofNat lo[i]!)) _ _=M (!Vk (.ofNat i) fs&&Qh 0 (.ofNat lo[i]!)) _ _
   refine U d ?_;rfl
 ·refine U (wc _) ?_;lia
end
section
variable {n o:Nat} {V lo X:List Nat} {y:Y3}
structure JD(n:Nat)(V lo X:List Nat)(y:Y3):Prop where
 n4:n<=4
 v4:V.length<=4
 lo':lo.length=V.length
 v3:∀v∈V,V3 v
 wQ:y.ca.wQ=Cb (Ka n)
 wP:y.ca.wP=Cb V
 wO:y.ca.wO=Cb lo
 wM:y.wM=gi X
theorem mx(a:JD n V lo X y){h:H3}{p:Ae}{f:List W}{r:Bool}{fs as:List Int}{d i:List Nat}{b:Nat}(D:qaE y.wM y.wO y.wN (.ofNat o) h.pl=J (f,r,p))(v:f=fs.map W.int)(s:fs.length<=4)(w:p.at=as.map W.int)(m:as.length=n)
 (x:qdq y.ca.wQ y.wM p.at f (.ofNat o)=J (Cb d))(z:i.length=n)(E:d.Nodup)(F:∀k∈d,k<n/\Mk (zq i[k]! (Hk o V i[k]!)))(G:d.length<=4)(K:b+3*d.length<=4000)(I:SI i b h.st):
 ∃g,oW (vm o V i d) (b+3*d.length) p g/\∀(R:Type)(k:Kw R),NO 5000 (.ofNat o) y h k=k (.bool Z) g:=by
 have A:oW i b p (h.wX p):=⟨I,rfl⟩;have start:∀(R:Type)(k:Kw R),NO 5000 (.ofNat o) y h k=H (rk (.l (Cb d)) (.l [])) λb=>M b (k (.bool Z) (h.wX p)) (M r (Bw y.ca.wP y.ca.wO f λc=>wt y.ca.wQ y.ca.wP c (h.wX p) λX=>Uj (.ofNat o) (Cb d) X y (h.wX p) k) (Wx y.ca.wQ (h.wX p) (.l f) λX=>Uj (.ofNat o) (Cb d) X y (h.wX p) k)):=λR k=>by
  refine(OE R λt=>Zo y.ca.wQ y.wM t.2.2.at t.1 (.ofNat o) (c3.wR y (h.wX t.2.2)) λe=>H (rk (.l e) (.l [])) λb=>M b (k (.bool Z) (h.wX t.2.2)) (M t.2.1 (Bw y.ca.wP y.ca.wO t.1 λc=>wt y.ca.wQ y.ca.wP c (h.wX t.2.2) λX=>Uj (.ofNat o) e X y (h.wX t.2.2) k) (Wx y.ca.wQ (h.wX t.2.2) (.l t.1) λX=>Uj (.ofNat o) e X y (h.wX t.2.2) k))).trans ((Lb D).trans ?_);rw[a.wM]at x|-;exact(DI _).trans ((qO R _).trans (Lb x))
 induction j:d using ma with
 |nil=>
  refine aa λl=>?_;subst j;exact l (⟨h.wX p,A,λR k=>(start R k).trans (Lb (zl []))⟩)
 |cons k0 P=>
  refine Ed j ?_;have c:{X:List W}->Rz 100 X->∃g,oW (vm o V i d) (b+3*d.length) p g/\∀(R:Type)(k:Kw R),Uj (.ofNat o) (Cb d) X y (h.wX p) k=k (.bool Z) g:=λ{X} B=>by
   refine aa λl=>?_;obtain⟨t,g,q,e⟩:=Tv a.wQ a.wP a.v3 B.pl (ib B.len (by decide)) (Y,Y,Y,Y,()) z E F K A;refine l ?_;exact⟨g,q,λR k=>(Db (Kc (by refine U (wc _) ?_;lia))).trans (e R _)⟩
  have C:rk (.l (Cb d)) (.l [])=J ua:=(zl d).trans (by refine U j ?_;rfl)
  induction r with
  |true=>
   refine aa λl=>?_;obtain⟨Q,L,N,e⟩:=ZP (fs:=fs) a.v4 a.lo';obtain⟨S,t,O⟩:=RG (h:=h.wX p) a.n4 w m L N;obtain⟨g,q,u⟩:=c t;refine l (⟨g,q,λR k=>(start R k).trans ((Lb C).trans ?_)⟩);show Bw y.ca.wP y.ca.wO f _=_
   exact U v (U a.wP (U a.wO ((e R _).trans (U a.wQ ((O R _).trans (u R k))))))
  |false=>
   refine aa λl=>?_;obtain⟨L,t,e⟩:=jG (h:=h.wX p) I z a.n4 w m s;obtain⟨g,q,u⟩:=c t;refine l (⟨g,q,λR k=>(start R k).trans ((Lb C).trans ((ji rfl).trans ((ji rfl).trans ?_)))⟩);exact U v (U a.wQ ((e R _).trans (u R k)))
end
theorem VW{w:W}{b:Bool}(h:Ph w .none=J b):nb w=Z:=by induction w using W.casesOn<;>first|rfl|exact ja h
section
variable {n:Nat} {V lo X:List Nat} {y:Y3}
structure qft(h h':H3):Prop where
 sb:SB h'.st
theorem sT(a:JD n V lo X y){h:H3}{c:List Nat}{b:Nat}(I:SI c b h.st)(g:c.length=n){as is:List Int}(q:h.pl.at=as.map W.int)(e:as.length=n)(r:is.length<=4){i:Nat}(d:i<n):∃j,SB j/\∀(R:Type)(k:Ff->Option R),EG (.int (.ofNat i)) (.l (is.map W.int)) y h k=k j:=by
 refine aa λt=>?_;obtain⟨f,l,u⟩:=jG I g a.n4 q e r;have m:=vc (g.symm▸d);obtain⟨o,v⟩:=VQ (x:=.ofNat i) (I.all _ (Ma m));have p:(f++Vs (.ofNat i) c[i]!).length<4096:=by
  have:=l.len;have:=o.len;refine U Ha ?_;lia
 obtain⟨z,A⟩:=wz I (rs:=f++Vs (.ofNat i) c[i]!) (Pj l.pl o.pl) p (λs=>c3.wR y (h.putS s)) (w:=.l (f++Vs (.ofNat i) c[i]!)) rfl;refine t ?_;refine⟨_,z,λR k=>(Lb (by refine U a.wQ ?_;exact Lg (by exact U (bf d) rfl):Kg y.ca.wQ (.ofNat i)=J (.int (.ofNat i)))).trans ?_⟩;exact(Db rfl).trans ((Db rfl).trans (U a.wQ ((u R _).trans ((Db rfl).trans ((qp I m _).trans ((v R _).trans ((Lb (rfl:Pe (.l (Vs (.ofNat i) c[i]!)) _=J _)).trans ((Db (Kc p)).trans (A R k)))))))))
theorem TE(a:JD n V lo X y){ms:List Nat}{b:Nat}(D:ms.length=n):∀{c:List Nat}{h:H3}{m:HK}{r:Bool×W×Ae},(∀k∈c,k<n)->SI ms b h.st->XO y.wM y.wN (Cb c) h.pl=J r->
 (r.1=Z->∃v,∀(R:Type) k,lg (ry (R:=R) y) (Cb c) m h k=k (.go v (h.wX r.2.2)))/\
 (r.1=ua->∀is as:List Int,r.2.1=.l (is.map W.int)->is.length<=4->r.2.2.at=as.map W.int->as.length=n->∃d,SB d/\∀(R:Type) k,lg (ry (R:=R) y) (Cb c) m h k=k (.ret (.bool ua) ((h.wX r.2.2).putS d))):=by
 intro c
 induction c with
 |nil=>
  rintro h m r _ I e;obtain rfl:=ba e;exact⟨λu=>⟨m,λR k=>rfl⟩,λh=>zc h.symm ia⟩
 |cons i c E=>
  rintro h m r x I e;refine aa λf=>?_;refine dp (show H (qeg y.wM y.wN (.ofNat i) h.pl) _=J r from e) λj F G=>?_;obtain⟨w,p⟩:=j;refine dp G λA B C=>(f ?_);clear f;have step:∀(R:Type) k,ry (R:=R) y (.int (.ofNat i)) m h k=M A (EG (.int (.ofNat i)) w y (h.wX p) λs=>k (.ret (.bool ua) ((h.wX p).putS s))) (k (.go (J (.int (.ofNat i)),J w,()) (h.wX p))):=λR k=>
   (HO R λt=>M (nb t.1) (H (Ph t.1 .none) λr=>M r (EG (.int (.ofNat i)) t.1 y (h.wX t.2) λs=>k (.ret (.bool ua) ((h.wX t.2).putS s))) (k (.go (J (.int (.ofNat i)),J t.1,()) (h.wX t.2)))) Y).trans ((Lb F).trans ((Db (VW B)).trans (Lb B)))
  induction A with
  |false=>
   obtain⟨K,L⟩:=E (h:=h.wX p) (m:=(J (.int (.ofNat i)),J w,())) (λk g=>x k (oa _ g)) I C;exact⟨λg=>(K g).imp λv l=>λR k=>(step R _).trans (l R k),λg is as o q s t=>(L g is as o q s t).imp λd z=>⟨z.1,λR k=>(step R _).trans (z.2 R k)⟩⟩
  |true=>
   cases (ba C:(ua,w,p)=r);refine⟨λh=>zc h ia,λu is as o q s t=>?_⟩;refine aa λf=>?_;obtain⟨d,g,l⟩:=sT a (h:=h.wX p) I D s t q (x i sa);subst (o:w=.l (is.map W.int));refine f ?_;clear f;exact⟨d,g,λR k=>(step R _).trans (l R _)⟩
end
theorem Bv{R a b:Type}{g:W->a->b->(Fw a b->Option R)->Option R}{x:W}{c:List W}{m d:a}{h f:b}(e:∀k,g x m h k=k (.go d f))(k:Fw a b->Option R):lg g (x::c) m h k=lg g c d f k:=e _
theorem rE{a:Type}{b:Bool}{x:Option a}{r:a}(h:M b x Y=J r):b=Z/\x=J r:=by
 induction b with
 |true=>exact⟨rfl,h⟩|false=>exact ja h
section
variable {R:Type} {T:List Nat} {X:List W} {w V:W} {Q:Ae->ub}
theorem kJ{v:W}{m:M7}{h:Ae}{k:Fw M7 Ae->Option R}:qy (gi T) X w V Q v m h k=qy (gi T) X w V (λu=>[]) v m h k:=
 Gc (H (Ua v)) (funext λi=>Gc (H (Kg h.at i)) (funext λo=>Gc (λz=>M (nb o) z Y) (Gc (H (Ua v)) (funext λi=>ul λr a=>by
  obtain⟨b,rfl⟩:=LA (CN a)
  rfl))))
theorem MM{N:Nat}{i:Int}{h:Ae}{k:W->Ae->Option R}:tq N (gi T) X i Q h k=tq N (gi T) X i (λu=>[]) h k:=by
 delta tq aC UM bC
 exact U (funext λV=>funext λQ=>funext λv=>funext λm=>funext λh=>funext λk=>kJ:qy (R:=R) (gi T) X (.int i)=λV u=>qy (gi T) X (.int i) V λu=>[]) rfl
end
theorem Cq{a:List W}{is:List Int}(h:pN a=J is):a=is.map W.int/\is.length<=4:=by
 refine aa λc=>(dp h λg d e=>?_);obtain⟨b,f⟩:=rE e;obtain rfl:=ba f;exact c (⟨Ez d,by rw[Qe]at b;exact gb b⟩)
theorem CI{n:Nat}:{is:List Int}->sL n is=Z->∃c:List Nat,is=c.map jb/\∀j∈c,j<n:=by
 intro is
 induction is with
 |nil=>
  rintro _;exact⟨[],rfl,λu h=>(Tb h).elim⟩
 |cons i is d=>
  rintro h;have h:M (!Qh i 0) (M (Qh i (.ofNat n)) (sL n is) ua) ua=Z:=h;refine aa λa=>?_
  induction e:Qh i 0 with
  |true=>refine a ?_;clear a;rw[e]at h;exact zc h ia|false=>
   refine a ?_;clear a;rw[e]at h
   induction b:Qh i (.ofNat n)with
   |false=>rw[b]at h;exact zc h ia|true=>
    rw[b]at h;obtain⟨c,rfl,f⟩:=d h;rw[Pg]at e b;have e:=of_decide_eq_false e;have b:i<(n:Int):=Nl b;refine⟨i.toNat::c,Gc (λx=>x::_) (DK (by lia)).symm,λj g=>?_⟩;refine aa λa=>?_;cases g with
    |head=>refine a ?_;clear a;lia|tail y h=>refine a ?_;clear a;exact f j h
structure qaV(n a:Nat)(r:Bool×W×Ae)(js:List Nat)(as:List Int):Prop where
 out:r.2.1=.l (Cb js)
 js4:js.length<=4
 lt:∀j∈js,j<n
 ats:r.2.2.at=as.map W.int
 len:as.length=a
theorem XF{lo hi T:List Nat}{n:Nat}{r:Bool×W×Ae}{x:Bool}(h:bad lo hi T n r=J x):(∃js as,qaV n T.length r js as)/\x= !Ym lo hi T []:=by
 refine aa λnq=>(dp h λis e1 e2=>?_);obtain⟨e3,e4⟩:=rE e2;refine dp e4 λas e5 e6=>?_;obtain⟨e7,e8⟩:=rE e6;obtain rfl:=ba e8;refine dp e1 λxs e9 e10=>?_;obtain⟨rfl,h4⟩:=Cq e10;obtain⟨js,rfl,h5⟩:=CI e3;obtain⟨h6,_⟩:=Cq e5;refine nq (⟨⟨js,as,⟨?_,by rw[ya]at h4;exact h4,h5,h6,by rw[Qe,Qe]at e7;exact Uc e7⟩⟩,rfl⟩);refine U (Il _) ?_
 induction hw:r.2.1 using W.casesOn<;>rw[hw]at e9<;>first|exact ja e9|skip
 obtain rfl:=ba e9;rfl
section
variable {n:Nat} {S lo T:List Nat} {y:Y3}
theorem FQ{R:Type}{e:List W}{i:Nat}(d:i<lo.length)(k:Int->Int->Option R):Jp e (Cb (lo++[0])) (.int (.ofNat i)) k=Jp e (Cb lo) (.int (.ofNat i)) k:=by
 unfold Jp;refine ul λa u=>ul λc u=>ul λb f=>?_;cases (ba f:jb i=b);exact Gc (λo=>H o _) ((Lg (by refine U (Xa d) ?_;exact vc d):Kg (Cb (lo++[0])) (.ofNat i)=J (.int (.ofNat lo[i]!))).trans (Lg (vc d):Kg (Cb lo) (.ofNat i)=J (.int (.ofNat lo[i]!))).symm)
def RQ(R:Type)(y:Y3)(i N:Nat)(m:Option W×Unit)(h:H3)(k:Fw (Option W×Unit) H3->Option R):Option R:=V4 (λu h=>rQ (.int (.ofNat i)) y h) (Dv 5000 (.int (.ofNat i)) y) N m h k
theorem gE(g:JD n S lo T y)(O:y.wO=Cb (lo++[0])){i:Nat}(P:i<lo.length):∀{f N:Nat}{h:H3}{m:Option W×Unit}{r:Bool×W×Ae},f<=N->mB y.wM y.wO (.int (.ofNat i)) (.ofNat i) f h.pl=J r->
 (r.1=Z->∃E,∀(R:Type) k,RQ R y i N m h k=k (.go E (h.wX r.2.2)))/\
 (r.1=ua->∀o as,qaV S.length n r o as->∀A b,SI A b h.st->∃C,SB C/\∀(R:Type) k,RQ R y i N m h k=k (.ret (.bool ua) ((h.wX r.2.2).putS C))):=by
 intro f
 induction f with
 |zero=>exactλu e=>ja e|succ f ih=>
  intro N h m r F e
  induction N using Sa with
  |zero=>exact zc F (zI f)|succ N=>
   have e:Jp h.pl.co y.wO (.int (.ofNat i)) (λx z=>M (Qh x z) (H (qau y.wM y.wO (.ofNat i) h.pl) λr=>H (Ph r.1 .none) λb=>M b (J (ua,r.1,r.2)) (mB y.wM y.wO (.int (.ofNat i)) (.ofNat i) f r.2)) (J (Z,.none,h.pl)))=J r:=e;have tl:∀k:Int->Int->Option (Bool×W×Ae),Jp h.pl.co y.wO (.int (.ofNat i)) k=Jp h.pl.co y.ca.wO (.int (.ofNat i)) k:=λk=>by
    exact U O (U g.wO (FQ P k))
   have e:=(tl _).symm.trans e;refine aa λl=>(dp e λa ea e=>(dp e λc ec e=>(dp e λb eb e=>?_)));refine dp e λd ed e=>(dp e λx ex e=>(dp e λz ez e=>(l ?_)));clear l;have e:M (Qh x z) (H (qau y.wM y.wO (.ofNat i) h.pl) λr=>H (Ph r.1 .none) λb=>M b (J (ua,r.1,r.2)) (mB y.wM y.wO (.int (.ofNat i)) (.ofNat i) f r.2)) (J (Z,.none,h.pl))=J r:=e;have start:∀(R:Type) k,RQ R y i (N+1) m h k=M (Qh x z) (Dv 5000 (.int (.ofNat i)) y m h λr=>Fw.rec (λm h=>RQ R y i N m h k) (λw h=>k (.ret w h)) r) (k (.go m h)):=λR k=>by
    show Jp h.pl.co y.ca.wO (.int (.ofNat i)) (λx z=>M (Qh x z) (Dv 5000 (.int (.ofNat i)) y m h λr=>Fw.rec (λm h=>RQ R y i N m h k) (λw h=>k (.ret w h)) r) (k (.go m h)))=_
    exact(Lb ea).trans ((Lb ec).trans ((Lb eb).trans ((Lb ed).trans ((Lb ex).trans (Lb ez)))))
   induction q:Qh x z with
   |false=>
    rw[q]at e;refine aa λl=>?_;cases (ba e:(Z,W.none,h.pl)=r);refine l ?_;clear l;exact⟨λu=>⟨m,λR k=>(start R k).trans (ji q)⟩,λh=>zc h.symm ia⟩
   |true=>
    rw[q]at e;refine aa λl=>?_;refine dp (show H (qau y.wM y.wO (.ofNat i) h.pl) _=J r from e) λj e1 e2=>?_;obtain⟨w,p⟩:=j;refine dp e2 λG K L=>(l ?_);clear l;have step:∀(R:Type) k,Dv (R:=R) 5000 (.int (.ofNat i)) y m h k=M G (M (nb w) (H (Hl w) λos=>wt y.ca.wQ y.ca.wP os (h.wX p) λv=>Qo (.l v) (λs=>c3.wR y ((h.wX p).putS s)) h.st λs=>k (.ret (.bool ua) ((h.wX p).putS s))) Y) (k (.go (J w,()) (h.wX p))):=λR k=>by
     refine(Db rfl).trans ((Lb (rfl:Ua (.int (.ofNat i))=J _)).trans (dn ?_ ((iU (able:=y.wM) (lows:=y.wO) (N:=5000) (w:=.ofNat i) (σ:=λu=>[]) (h:=h.pl) R λt=>M (nb t.1) (H (Ph t.1 .none) λr=>M r (M (nb t.1) (H (Hl t.1) λos=>wt y.ca.wQ y.ca.wP os (h.wX t.2) λv=>Qo (.l v) (λs=>c3.wR y ((h.wX t.2).putS s)) h.st λs=>k (.ret (.bool ua) ((h.wX t.2).putS s))) Y) (k (.go (J t.1,()) (h.wX t.2)))) Y).trans ((Lb e1).trans ((Db (VW K)).trans (Lb K))))));exact U g.wM MM
    induction G with
    |false=>
     obtain⟨h1,h2⟩:=ih (h:=h.wX p) (m:=(J w,())) (Nat.le_of_succ_le_succ F) L;exact⟨λt=>(h1 t).imp λE D=>λR k=>(start R k).trans ((Db q).trans ((step R _).trans (D R k))),λt o as B A b I=>(h2 t o as B A b I).imp λC z=>⟨z.1,λR k=>(start R k).trans ((Db q).trans ((step R _).trans (z.2 R k)))⟩⟩
    |true=>
     cases (ba L:(ua,w,p)=r);refine⟨λh=>zc h ia,λu o as B A b I=>?_⟩;refine aa λl=>?_;obtain⟨v,t,D⟩:=RG (h:=h.wX p) g.n4 B.ats B.len B.lt B.js4;obtain⟨C,E⟩:=wz I t.pl (ib t.len (by decide)) (λs=>c3.wR y ((h.wX p).putS s)) (w:=.l v) rfl;have s:w=.l (Cb o):=B.out;subst s;refine l ?_;clear l;refine⟨_,C,λR k=>(start R k).trans ((Db q).trans ((step R _).trans ((Db rfl).trans ((Db rfl).trans ((Lb (rfl:Hl (.l (Cb o))=J (Cb o))).trans ?_)))))⟩;exact U g.wQ (U g.wP ((D R _).trans (E R _)))
theorem jJ(a:JD n S lo T y)(x:y.wO=Cb (lo++[0])):∀{c:List Nat}{h:H3}{m:HK}{r:Bool×W×Ae},(∀k∈c,k<lo.length)->LM y.wM y.wO (Cb c) h.pl=J r->
 (r.1=Z->∃q,∀(R:Type) k,lg (rB (R:=R) 5000 y) (Cb c) m h k=k (.go q (h.wX r.2.2)))/\
 (r.1=ua->∀d as,qaV S.length n r d as->∀f b,SI f b h.st->∃l,SB l/\∀(R:Type) k,lg (rB (R:=R) 5000 y) (Cb c) m h k=k (.ret (.bool ua) ((h.wX r.2.2).putS l))):=by
 intro c
 induction c with
 |nil=>
  rintro h m r _ e;obtain rfl:=ba e;exact⟨λu=>⟨m,λR k=>rfl⟩,λh=>zc h.symm ia⟩
 |cons i c A=>
  rintro h m r s e;refine aa λg=>(dp (show H (mB y.wM y.wO (.int (.ofNat i)) (.ofNat i) 10 h.pl) _=J r from e) λt C o=>?_);obtain⟨D,E⟩:=gE a x (s i sa) (N:=5000) (m:=(m.2.1,())) (by decide) C;refine g ?_
  induction j:t.1 with
  |true=>
   rw[j]at o;refine aa λg=>?_;obtain⟨m1,v⟩:=D j;obtain⟨F,G⟩:=A (h:=h.wX t.2.2) (m:=(J (.int (.ofNat i)),m1.1,())) (λk p=>s k (oa _ p)) o;exact g (⟨λp=>(F p).imp λq K=>λR k=>(Bv (λk=>v R _) k).trans (K R k),λp d as B f b I=>(G p d as B f b I).imp λl z=>⟨z.1,λR k=>(Bv (λk=>v R _) k).trans (z.2 R k)⟩⟩)
  |false=>
   rw[j]at o;refine aa λg=>?_;cases (ba o:t=r);exact g (⟨λh=>zc (j.symm.trans h) ia,λu d as B f b I=>(E j d as B f b I).imp λl z=>⟨z.1,λR k=>z.2 R _⟩⟩)
end
section
variable {o r x:Nat} {rs:List Nat}
theorem nf:{xs:List Nat}->Ye o xs=Z↔o∈xs:=by
 intro xs
 induction xs with
 |nil=>
  exact⟨λh=>(zc h ia),λh=>((Tb h).elim)⟩
 |cons x xs a=>
  show M (Ub x o) Z (Ye o xs)=Z↔_
  refine U (propext fb) (Ed (propext a) (U wm ?_))
  induction e:Ub x o with
  |true=>exact⟨λu=>.inl (Uc e).symm,λu=>rfl⟩|false=>exact⟨.inr,λh=>h.elim (λh=>zc h.symm (Gg e)) id⟩
theorem mq:{a:List Nat}->jp o a=a.count o:=by
 intro a
 induction a with
 |nil=>
  exact rfl
 |cons x a b=>
  show M (Ub x o) (nc (jp o a)) (jp o a)=_
  refine U Vw (U b (U wm ?_))
  induction e:Ub x o with
  |true=>exact U (Dd rfl) (U (Dd (beq_iff_eq.mpr (Uc e))) rfl)|false=>refine U (fe ia) (U (fe λh=>Gg e (beq_iff_eq.mp h)) ?_);rfl
structure Wy(rs xs:List Nat):Prop where
 len:xs.length=rs.length
 mem:(i r x:Nat)->rs[i]?=J r->xs[i]?=J x->x∈Mb r
theorem Wy.cons{c:List Nat}(h:x∈Mb r)(k:Wy rs c):Wy (r::rs) (x::c):=
 ⟨Gc nc k.len,λi a b d e=>by
  induction i using Sa with
  |zero=>obtain rfl:=ba d;obtain rfl:=ba e;exact h|succ i=>exact k.mem i a b d e⟩
theorem Wy.tail{a:List Nat}(k:Wy (r::rs) (x::a)):x∈Mb r/\Wy rs a:=⟨k.mem 0 r x rfl rfl,Kh k.len,λi r x h=>k.mem (i+1) r x h⟩
def BK(lo hi a:List Nat):Prop:=∀i l g,lo[i]?=J l->hi[i]?=J g->l<=a.count i/\a.count i<=g
variable {lo hi:List Nat}
theorem XR{f:Nat->Bool}:{os:List Nat}->(gc ua (λo u z=>M (f o) Z z) os:Bool)=Z↔∃o,o∈os/\f o=Z:=by
 intro os
 induction os with
 |nil=>
  exact⟨λh=>(zc h ia),λa=>by obtain⟨_,h,_⟩:=a;exact((Tb h).elim)⟩
 |cons o os b=>
  show M (f o) Z (gc ua (λo u z=>M (f o) Z z) os:Bool)=Z↔_
  induction e:f o with
  |true=>exact⟨λu=>⟨o,sa,e⟩,λu=>rfl⟩|false=>exact(b).trans ⟨λa=>by obtain⟨x,h,k⟩:=a;exact⟨x,oa _ h,k⟩,λa=>by obtain⟨x,h,k⟩:=a;exact(fb.mp h).elim (λz=>by rw[z,e]at k;exact zc k ia) λh=>⟨x,h,k⟩⟩
theorem VY{acc:List Nat}:∀{lo:List Nat}{o:Nat}{hi:List Nat},(gc (motive:=λu=>Nat->List Nat->Bool) (λu u=>Z) (λl u ih o hi=>gc Z (λh hi u=>M (gh l (jp o acc)) (M (gh (jp o acc) h) (ih (nc o) hi) ua) ua) hi) lo o hi:Bool)=Z↔∀i l g,lo[i]?=J l->hi[i]?=J g->l<=acc.count (o+i)/\acc.count (o+i)<=g:=by
 intro lo
 induction lo with
 |nil=>
  intro o hi;exact⟨λu i l g h=>(ja h),λu=>rfl⟩
 |cons l lo ih0=>
  intro o hi
  induction hi using ma with
  |nil=>
   exact⟨λu i l g u h=>(ja h),λu=>rfl⟩
  |cons g hi=>
   show M (gh l (jp o acc)) (M (gh (jp o acc) g) (gc (motive:=λu=>Nat->List Nat->Bool) (λu u=>Z) (λl u ih o hi=>gc Z (λh hi u=>M (gh l (jp o acc)) (M (gh (jp o acc) h) (ih (nc o) hi) ua) ua) hi) lo (nc o) hi:Bool) ua) ua=Z↔_
   have ih:=ih0 (o:=nc o) (hi:=hi);refine U mq (U wm (U wm ?_))
   constructor
   ·intro h
    split at h
    ·rename_i h1
     split at h
     ·rename_i h2
      intro i a b ha hb
      induction i using Sa with
      |zero=>
       obtain rfl:=ba ha;obtain rfl:=ba hb;exact⟨gb h1,gb h2⟩
      |succ i=>
       have:=ih.mp h i a b ha hb;rw[E5]at this;exact this
     ·exact zc h ia
    ·exact zc h ia
   ·intro h
    have h0:l<=acc.count o/\acc.count o<=g:=h 0 l g rfl rfl;refine U (Dd (NF h0.1)) (U (Dd (NF h0.2)) (ih.mpr λi a b ha hb=>?_));have:=h (i+1) a b ha hb;exact U (E5 _ _) this
theorem gT:{rs a:List Nat}->Ym lo hi rs a=Z↔∃b,Wy rs b/\BK lo hi (b++a):=by
 intro rs
 induction rs with
 |nil=>
  intro a;have e:qec lo hi a=Z↔BK lo hi a:=by
   refine VY.trans ?_;simp only[lh];rfl
  exact e.trans ⟨λh=>⟨[],⟨rfl,λu u u h=>(ja h)⟩,h⟩,λc=>by obtain⟨b,h,k⟩:=c;cases kg.mp h.len;exact k⟩
 |cons r rs d=>
  intro a;have e:Ym lo hi (r::rs) a=Z↔∃o,o∈Mb r/\Ym lo hi rs (o::a)=Z:=XR;have c:∀(o:Nat)(b:List Nat),BK lo hi (b++o::a)↔BK lo hi (o::b++a):=λo b=>by
   unfold BK;simp only[List.perm_middle.count_eq,Km]
  refine e.trans ⟨λw=>?_,λw=>?_⟩
  ·obtain⟨o,f,h⟩:=w
   obtain⟨b,g,i⟩:=d.mp h;exact⟨o::b,.cons f g,(c o b).mp i⟩
  ·refine aa λf=>?_
   obtain⟨b,h,k⟩:=w
   induction b using ma with
   |nil=>refine f ?_;exact zc h.len.symm (Zb _)|cons x b=>refine f ?_;exact⟨x,h.tail.1,d.mpr ⟨b,h.tail.2,(c x b).mpr k⟩⟩
theorem su:Ym lo hi rs []=Z↔∃a,Wy rs a/\BK lo hi a:=gT.trans (by simp only[Wb])
theorem eY:∀{rs a:List Nat}{k j:Nat},j∈iq lo hi o rs a k->k<=j:=by
 intro rs
 induction rs with
 |nil=>
  rintro _ _ _ h;exact(Tb h).elim
 |cons r rs b=>
  rintro a k j h;have h:j∈M (Ye o (Mb r)) (M (Ym lo hi (a++Ki o::rs) []) (iq lo hi o rs (a++[r]) (nc k)) (k::iq lo hi o rs (a++[r]) (nc k))) (iq lo hi o rs (a++[r]) (nc k)):=h;have b:j∈iq lo hi o rs (a++[r]) (nc k)->k<=j:=λh=>Sf (b h);revert h
  induction Ye o (Mb r)with
  |false=>exact b|true=>
   induction Ym lo hi (a++Ki o::rs) []with
   |true=>exact b|false=>exactλh=>(fb.mp h).elim (λe=>e▸Gb _) b
theorem Hx:∀{rs pre:List Nat}{k:Nat},(iq lo hi o rs pre k).Nodup:=by
 intro rs
 induction rs with
 |nil=>
  rintro _ _;exact kW
 |cons r rs a=>
  rintro pre k;show(M (Ye o (Mb r)) (M (Ym lo hi (pre++Ki o::rs) []) (iq lo hi o rs (pre++[r]) (nc k)) (k::iq lo hi o rs (pre++[r]) (nc k))) (iq lo hi o rs (pre++[r]) (nc k))).Nodup
  induction Ye o (Mb r)with
  |false=>exact a|true=>
   induction Ym lo hi (pre++Ki o::rs) []with
   |true=>exact a|false=>exact Fc.mpr ⟨λh=>zc (eY h) (Nat.not_succ_le_self k),a⟩
theorem aH:∀{rs pre:List Nat}{k j:Nat},pre.length=k->(j∈iq lo hi o rs pre k↔k<=j/\∃r,(pre++rs)[j]?=J r/\Ye o (Mb r)=Z/\Ym lo hi ((pre++rs).set j (Ki o)) []=ua):=by
 intro rs
 induction rs with
 |nil=>
  rintro pre k j e;exact⟨λh=>((Tb h).elim),λa=>by
   obtain⟨h,r,c,_⟩:=a;rw[Wb,Rc (e▸h)]at c;exact ja c⟩
 |cons r rs b=>
  rintro pre k j e;have b:=b (pre:=pre++[r]) (k:=nc k) (j:=j) (by refine U Ha (U e ?_);rfl);rw[Dc]at b;have i:(pre++r::rs)[k]?=J r:=by refine Ed e (U (La (Gb _)) (U (jh _) ?_));rfl
  have l:(pre++r::rs).set k (Ki o)=pre++Ki o::rs:=by refine Ed e (U (List.set_append_right _ _ (Gb _)) (U (jh _) ?_));rfl
  show j∈M (Ye o (Mb r)) (M (Ym lo hi (pre++Ki o::rs) []) (iq lo hi o rs (pre++[r]) (nc k)) (k::iq lo hi o rs (pre++[r]) (nc k))) (iq lo hi o rs (pre++[r]) (nc k))↔_
  have a:(Ye o (Mb r)=Z->Ym lo hi (pre++Ki o::rs) []=Z)->(j∈iq lo hi o rs (pre++[r]) (nc k)↔k<=j/\∃x,(pre++r::rs)[j]?=J x/\Ye o (Mb x)=Z/\Ym lo hi ((pre++r::rs).set j (Ki o)) []=ua):=λm=>b.trans ⟨λh=>⟨Sf h.1,h.2⟩,λg=>by
   obtain⟨h,x,d,c,f⟩:=g;exact⟨by
   rcases Lk h with z|z
   ·rw[<-z]at d f
    rw[i]at d;obtain rfl:=ba d;rw[l,m c]at f;exact zc f.symm ia
   ·exact z,x,d,c,f⟩⟩
  induction c:Ye o (Mb r)with
  |false=>exact a λh=>zc (c.symm.trans h) ia|true=>
   induction d:Ym lo hi (pre++Ki o::rs) []with
   |true=>exact a λu=>d|false=>
    refine fb.trans ⟨λh=>h.elim (λz=>by subst z;exact⟨Gb _,r,i,c,by refine U l ?_;exact d⟩) λh=>(b.mp h).imp_left Sf,λw=>?_⟩;rcases Lk w.1 with z|z
    ·exact .inl z.symm
    ·exact .inr (b.mpr ⟨z,w.2⟩)
end
def zi(vs:List Nat)(u:Nat):Nat:=gc 0 (λv y ih=>M (Ub v u) 0 (nc ih)) vs
def D6(os:List Nat):Nat:=gc 0 (λo u ih=>Nat.lor (Ki o) ih) os
def re(vs:List Nat)(m:Nat):Nat:=D6 ((Mb m).map (zi vs))
noncomputable abbrev ye:List (List Nat):=[[0],[1],[2],[0,1],[1,2],[2,0]]
noncomputable abbrev Rm:List Nat:=[1,2,3,4,5,6,7]
noncomputable abbrev il:List Nat:=[0,1,2]
theorem Mk.mem{m:Nat}:Mk m->m∈Rm:=Mk.all (P:=λm=>m∈Rm) (by decide)
theorem Mk.mem'{m:Nat}(h:m∈Rm):Mk m:=Mk.of (by revert h;revert m;decide) (by revert h;revert m;decide)
theorem V3.mem{u:Nat}:V3 u->u∈il:=V3.all (P:=λu=>u∈il) (by decide)
theorem jD{i:Nat}(h:i<=2):i∈il:=(bc.mpr (Sg h):i∈Ka 3)
theorem V3.mem'{u:Nat}(h:u∈il):V3 u:=V3.of (by revert h;revert u;decide)
theorem uh:∀a∈ye,(∀u∈il,zi a u<=a.length/\Ki (zi a u)=re a (Ki u))/\(∀i∈il,i<a.length->a[i]! ∈il/\zi a a[i]! =i)/\a.length<=2/\a≠[]:=by decide+kernel
theorem tQ:∀a∈ye,∀m∈Rm,∀o∈il,o<=a.length->∀u∈Mb m,Ye u (Hk o a m)=Ub (zi a u) o:=by decide+kernel
theorem Hw:∀a∈ye,∀m∈Rm,re a m∈Rm/\(∀o∈il,Ye o (Mb (re a m))=Ye o ((Mb m).map (zi a)))/\∀o∈Mb (re a m),o<=a.length:=by decide+kernel
theorem sV:∀m∈(0::Rm),∀u∈il,pp m u∈(0::Rm)/\∀w∈il,Ye w (Mb (pp m u))=(Ye w (Mb m)&& !Ub w u):=by decide+kernel
theorem Vj:∀m∈(0::Rm),∀w∈Mb m,w∈il:=by decide+kernel
theorem qaH:∀a∈(0::Rm),∀b∈(0::Rm),(∀w∈il,Ye w (Mb a)=Ye w (Mb b))->a=b:=by decide+kernel
def Y8(vs:List Nat)(m:Nat):List Nat:=if((Ka vs.length).filter λi=>Ye vs[i]! (Mb m)).length<(Mb m).length then((Ka vs.length).filter λi=>Ye vs[i]! (Mb m))++[vs.length]else(Ka vs.length).filter λi=>Ye vs[i]! (Mb m)
theorem sQ:∀a∈ye,∀m∈Rm,Y8 a m=Mb (re a m):=by decide+kernel
theorem KG:∀{d:List Nat}{m:Nat},m∈(0::Rm)->(∀u∈d,u∈il)->zq m d∈(0::Rm)/\∀w∈il,(w∈Mb (zq m d)↔w∈Mb m/\¬w∈d):=by
 intro d
 induction d with
 |nil=>
  rintro m h _;exact⟨h,λw y=>⟨λx=>⟨x,Tb⟩,λx=>x.1⟩⟩
 |cons u d j=>
  rintro m h i;refine aa λk=>?_;obtain⟨l,n⟩:=sV m h u (i u sa);obtain⟨o,p⟩:=j l λw g=>i w (oa _ g);refine k (⟨o,λw g=>(p w g).trans ?_⟩);refine Ed (propext (nf (xs:=Mb (pp m u)))) (U (n w g) (Ed (propext (nf (xs:=Mb m))) (U (Ad _ _) (U (propext fb) ?_))));have e:(!Ub w u)=Z↔w≠u:=by
   induction e:Ub w u with
   |true=>exact⟨λh=>(zc h ia),λh=>zc (Uc e) h⟩|false=>exact⟨λy=>Gg e,λy=>rfl⟩
  exact U (propext e) (⟨λf=>by obtain⟨⟨a,b⟩,c⟩:=f;exact⟨a,λx=>x.elim b c⟩,λf=>by obtain⟨a,b⟩:=f;exact⟨⟨a,λx=>b (.inl x)⟩,λx=>b (.inr x)⟩⟩)
theorem pE{o:Nat}{vs:List Nat}:∀{a ms:List Nat}{j:Nat},a.Nodup->(∀k∈a,k<ms.length)->(vm o vs ms a).length=ms.length/\(vm o vs ms a)[j]! =if j∈a then zq ms[j]! (Hk o vs ms[j]!)else ms[j]! :=by
 intro a
 induction a with
 |nil=>
  rintro ms j _ _;exact⟨rfl,rfl⟩
 |cons k a d=>
  rintro ms j b h;have c:(Bz o vs ms k).length=ms.length:=yb;obtain⟨f,g⟩:=d (ms:=Bz o vs ms k) (j:=j) (Fc.mp b).2 λx i=>c▸h x (oa _ i);refine⟨f.trans c,g.trans ?_⟩;by_cases e:k=j
  ·subst e
   refine U (fe ((Fc.mp b).1)) (U (Dd sa) ?_);refine U Cc (U (je (h k sa)) ?_);rfl
  ·have l:(Bz o vs ms k)[j]! =ms[j]! :=by
    unfold Bz;exact U Cc (U (Xc e) (Ed Cc rfl))
   refine U l ?_;by_cases x:j∈a
   ·exact U (Dd x) (U (Dd (oa _ x)) rfl)
   ·exact U (fe x) (U (fe λz=>(fb.mp z).elim (λz=>e z.symm) x) rfl)
theorem lA:∀x∈il,Mb (Ki x)=[x]:=by decide
theorem zn{W:List Nat}{k:Nat}(h:k<W.length):W[k]! ∈W:=Ma (vc h)
def SW(X lo V W:List Nat)(k u:Nat):Bool:=Ym lo V ((W.map (re X)).set k (Ki (zi X u))) []
section
variable {X lo V W T:List Nat} {o:Nat}
theorem cK(j:X∈ye)(l:∀m∈W,m∈Rm)(b:Ym lo V (W.map (re X)) []=Z){k:Nat}(c:k<W.length):∃u,u∈Mb W[k]! /\SW X lo V W k u=Z:=by
 refine aa λm=>?_;obtain⟨f,F,C⟩:=su.mp b;have e:=vc (by refine U F.len (U (ya _) ?_);exact c:k<f.length);obtain⟨n,p,t⟩:=Hw X j _ (l _ (zn c));have b:=F.mem k _ _ (by refine U Ec (U (vc c) ?_);rfl:(W.map (re X))[k]?=J (re X W[k]!)) e;have g:f[k]! ∈il:=Vj _ (oa _ n) _ b;have h:=p _ g;rw[nf.mpr b]at h;obtain⟨u,q,s⟩:=Rb.mp (nf.mp h.symm);refine m ?_;refine⟨u,q,su.mpr ⟨f,⟨by refine U yb ?_;exact F.len,λi r x d a=>?_⟩,C⟩⟩;by_cases z:k=i
 ·subst z
  rw[je (by refine U (ya _) ?_;exact c)]at d;obtain rfl:=ba d;rw[e]at a;obtain rfl:=ba a;exact U s (U (lA _ g) (Nm _))
 ·rw[Xc z]at d
  exact F.mem i r x d a
structure Ko(X lo V W:List Nat)(o:Nat)(T:List Nat):Prop where
 len:T.length=W.length
 msk:∀k,k<W.length->T[k]! ∈Rm
 mem:∀k,k<W.length->∀u∈il,(u∈Mb T[k]! ↔u∈Mb W[k]! /\(zi X u<o->SW X lo V W k u=Z))
theorem Ko.start(a:∀m∈W,m∈Rm):Ko X lo V W 0 W:=⟨rfl,λk b=>a _ (zn b),λk y u y=>⟨λh=>⟨h,λh=>zc h (We _)⟩,LX⟩⟩
theorem Ko.step(q:X∈ye)(B:∀m∈W,m∈Rm)(E:Ym lo V (W.map (re X)) []=Z)(C:o<=X.length)(I:Ko X lo V W o T):
 (∀k∈iq lo V o (W.map (re X)) [] 0,k<W.length/\Mk (zq T[k]! (Hk o X T[k]!)))/\Ko X lo V W (o+1) (vm o X T (iq lo V o (W.map (re X)) [] 0)):=by
 have x:o∈il:=by
  have:=(uh X q).2.2.1;have:o<=2:=Za C this;exact jD this
 have l:∀k,k<W.length->(k∈iq lo V o (W.map (re X)) [] 0↔Ye o ((Mb W[k]!).map (zi X))=Z/\Ym lo V ((W.map (re X)).set k (Ki o)) []=ua):=λk g=>by
  have b:(W.map (re X))[k]?=J (re X W[k]!):=by refine U Ec (U (vc g) ?_);rfl
  have c:=(Hw X q _ (B _ (zn g))).2.1 o x;refine(aH rfl).trans ⟨λw=>?_,λa=>by obtain⟨m,s⟩:=a;exact⟨td _,_,b,c.trans m,s⟩⟩;refine aa λA=>?_;obtain⟨_,r,m,s,t⟩:=w;cases b.symm.trans m;exact A (⟨c.symm.trans s,t⟩)
 have w:∀k∈iq lo V o (W.map (re X)) [] 0,k<W.length:=λk h=>by
  refine aa λA=>?_;obtain⟨_,r,m,_⟩:=(aH rfl).mp h;refine A ?_;have:=(wb.mp m).1;rw[List.nil_append,ya]at this;exact this
 have get:=λj=>pE (o:=o) (vs:=X) (j:=j) (Hx (lo:=lo) (hi:=V) (o:=o) (rs:=W.map (re X)) (pre:=[]) (k:=0)) λk g=>I.len▸w k g;have n:∀k,k<W.length->∀u∈Mb T[k]!,(u∈Hk o X T[k]! ↔zi X u=o):=λk g u p=>by
  refine Ed (propext nf) (U (tQ X q _ (I.msk k g) o x C u p) ?_);exact⟨Uc,λh=>by refine U h ?_;exact Nat.beq_refl o⟩
 have D:∀k,k<W.length->∀u∈Hk o X T[k]!,u∈il:=λk g u p=>(tI (λv a=>by
  obtain⟨i,V,rfl⟩:=Gj a;have s:=(uh X q).2.2.1;have t:i∈il:=by
   have:i<=2:=by lia
   exact jD this
  have:=((uh X q).2.1 i t V).1;rw[getElem!_pos X i V]at this;exact V3.mem' this) (Mk.mem' (I.msk k g)) u p).mem
 have r:∀k,k<W.length->∀u∈il,(u∈Mb (vm o X T (iq lo V o (W.map (re X)) [] 0))[k]! ↔u∈Mb W[k]! /\(zi X u<o+1->SW X lo V W k u=Z)):=λk g u p=>by
  refine U ((get k).2) ?_;by_cases i:k∈iq lo V o (W.map (re X)) [] 0
  ·refine U (Dd i) ?_
   refine((KG (oa _ (I.msk k g)) (D k g)).2 u p).trans ⟨λ⟨a,b⟩=>?_,λ⟨a,b⟩=>?_⟩
   ·have e:zi X u≠o:=λz=>b ((n k g u a).mpr z)
    obtain⟨c,d⟩:=(I.mem k g u p).mp a;exact⟨c,λz=>d (Nk (Qf z) e)⟩
   ·have c:=(I.mem k g u p).mpr ⟨a,λz=>b (Tf z)⟩
    refine⟨c,λz=>?_⟩;have e:=(n k g u c).mp z;have f:=b (e▸pd _);unfold SW at f;rw[e,((l k g).mp i).2]at f;exact zc f ia
  ·refine U (fe i) ((I.mem k g u p).trans ⟨λ⟨a,b⟩=>⟨a,λz=>?_⟩,λ⟨a,b⟩=>⟨a,λz=>b (Tf z)⟩⟩)
   rcases Lk (Qf z)with e|e
   ·induction f:SW X lo V W k u with
    |true=>rfl|false=>
     unfold SW at f;rw[e]at f;exact zc ((l k g).mpr ⟨nf.mpr (Rb.mpr ⟨u,a,e⟩),f⟩) i
   ·exact b e
 have a:∀k,k<W.length->(vm o X T (iq lo V o (W.map (re X)) [] 0))[k]! ∈Rm:=λk g=>by
  refine aa λA=>?_;obtain⟨u,m,s⟩:=cK q B E g;refine A ?_;have t:=(r k g u (Vj _ (oa _ (B _ (zn g))) u m)).mpr ⟨m,λy=>s⟩;have b:(vm o X T (iq lo V o (W.map (re X)) [] 0))[k]! ∈(0::Rm):=by
   refine U ((get k).2) ?_
   split
   ·exact(KG (oa _ (I.msk k g)) (D k g)).1
   ·exact oa _ (I.msk k g)
  rcases fb.mp b with z|z
  ·rw[z]at t;cases t
  ·exact z
 exact⟨λk h=>⟨w k h,by have:=a k (w k h);rw[(get k).2,Dd h]at this;exact Mk.mem' this⟩,⟨(get 0).1.trans I.len,a,r⟩⟩
end
theorem XS:∀{b:List Int}{a:List Nat},qbv b a=Z->b=a.map jb:=by
 intro b
 induction b with
 |nil=>
  intro a h
  induction a using ma with
  |nil=>rfl|cons=>exact zc h ia
 |cons x b c=>
  intro a h
  induction a using ma with
  |nil=>exact zc h ia|cons y a=>
   have h:M (Rp x (.ofNat y)) (qbv b a) ua=Z:=h
   induction e:Rp x (.ofNat y)with
   |false=>rw[e]at h;exact zc h ia|true=>
    rw[e]at h;rw[vp]at e;refine U (Nl e) (U (c h) ?_);rfl
theorem ZR{lo X:List Nat}{o:Nat}:∀{b a:List Nat}{k:Nat},(iq lo X o b a k).length<=b.length:=by
 intro b
 induction b with
 |nil=>exact Gb _|cons r b c=>
  intro a k;show(M (Ye o (Mb r)) (M (Ym lo X (a++Ki o::b) []) (iq lo X o b (a++[r]) (nc k)) (k::iq lo X o b (a++[r]) (nc k))) (iq lo X o b (a++[r]) (nc k))).length<=_
  induction Ye o (Mb r)with
  |false=>exact Kd c|true=>
   induction Ym lo X (a++Ki o::b) []with
   |true=>exact Kd c|false=>exact sf c
section
variable {n:Nat} {V lo X T:List Nat} {y:Y3}
theorem PO(a:JD n V lo (T.map (re V)) y)(v:V∈ye)(i:T.length=n)(A:∀m∈T,m∈Rm)(B:Ym lo X (T.map (re V)) []=Z):∀{os:List Nat}{o b:Nat}{h:H3}{m:Option W×Unit}{ns:List Nat}{x:Bool},os=LF o os.length->o+os.length=V.length+1->SL y.ca.wQ y.wM y.wO y.wN lo X (T.map (re V)) os h.pl=J x->Ko V lo X T o ns->SI ns b h.st->b+12*os.length<=4000->
 ∃C d g,Ko V lo X T (V.length+1) g/\SI g (b+12*os.length) d.st/\∀(R:Type) k,lg (sy (R:=R) 5000 y) (Cb os) m h k=k (.go C d):=by
 intro os
 induction os with
 |nil=>
  intro o b h m ns x _ e _ K I _;exact⟨m,h,ns,(show o=V.length+1 from e)▸K,I,λR k=>rfl⟩
 |cons o os D=>
  intro o' b h m ns x j E e K I F;rw[mc,List.range'_succ]at j;refine aa λs=>?_;cases (EK j).1;rw[mc]at E F;refine dp (show H (qaE y.wM y.wO y.wN (.ofNat o) h.pl) _=J x from e) λz G e=>?_;obtain⟨f,r,p⟩:=z;refine dp e λfs L e=>(dp e λas N e=>?_);obtain⟨t,e⟩:=rE e;refine dp e λO P e=>(dp e λis Q e=>?_);obtain⟨S,e⟩:=rE e;obtain⟨f1,f2⟩:=Cq L;obtain⟨a1,a2⟩:=Cq N;have ht:as.length=n:=by
   rw[Qe,Qe,a.wQ,wc,Ab]at t;exact Uc t
  obtain⟨k1,k2⟩:=K.step v A B (by lia);have kl:(iq lo X o (T.map (re V)) [] 0).length<=4:=Za ZR (by refine U (ya _) (U i ?_);exact a.n4);obtain⟨d,u,e9⟩:=mx a (o:=o) G f1 f2 a1 ht ((by exact U (Ez Q) (U (XS S) (U (Il _) rfl)):O=Cb (iq lo X o (T.map (re V)) [] 0))▸P) (K.len.trans i) Hx (λk l=>i▸k1 k l) kl (by lia) I;obtain⟨m2,h2,l,K2,I2,q⟩:=D (m:=(J (.int (.ofNat o)),())) ((EK j).2) (by lia) (by refine U u.pl ?_;exact e:SL y.ca.wQ y.wM y.wO y.wN lo X (T.map (re V)) os d.pl=J x) k2 (u.si.mono (c:=b+12) (by lia)) (by lia);refine s ?_;clear s;have st:∀(R:Type) k,sy (R:=R) 5000 y (.int (.ofNat o)) m h k=k (.go (J (.int (.ofNat o)),()) d):=λR k=>e9 R λw h=>H (Li w) λb=>M (!b) (k (.ret (.bool ua) h)) (k (.go (J (.int (.ofNat o)),()) h));exact⟨m2,h2,l,K2,by refine U mc ?_;exact I2.mono (by lia),λR k=>(Bv (st R) k).trans (q R k)⟩
end
section
variable {V X:List Nat} {b:Nat} {s:Ff}
theorem CX(a:X∈ye){i:Nat}(c:i<X.length):V3 X[i]! :=by
 have e:=(uh X a).2.2.1;have d:i∈il:=by
  have:i<=2:=by lia
  exact jD this
 exact V3.mem' ((uh X a).2.1 i d c).1
theorem Hq(a c:List Nat):Cb (a++c)=Cb a++Cb c:=by exact U (Od _) (U (Od _) (U (Od _) (U HR rfl)))
theorem nU(I:SI V b s)(c:X∈ye){x m:Nat}(d:V[x]?=J m){R:Type}(k:List W->Option R):QO s.wL (Cb X) (.int (.ofNat x)) k=k (Cb (Mb (re X m))):=by
 have f:=I.all _ (Ma d);have g:=(uh X c).2.2.1;refine Ed (sQ X c m f.mem) ?_;show TY s.wL (Cb X) _ _=_
 unfold TY;refine U Zf ?_;refine(xg (by lia) _).trans ((Dh (p:=λi=>Ye X[i]! (Mb m)) (λi a j=>?_) _).trans ((Db (Kc ?_)).trans ?_))
 ·have a:=bc.mp a
  have e:Kg (Cb X) (.ofNat i)=J (.int (.ofNat X[i]!)):=Lg (vc a);exact(Lb e).trans ((qp I d _).trans (Lb (G2 f (CX c a))))
 ·exact U (wc _) (ib (Qb _ _) (by refine U Ab ?_;lia))
 ·refine(Db rfl).trans ((qp I d _).trans ((Lb (D2 f)).trans ?_))
  have e:Qh (Sd (Cb ((Ka X.length).filter λi=>Ye X[i]! (Mb m)))) (.ofNat (len (Mb m)))=ac ((Ka X.length).filter λi=>Ye X[i]! (Mb m)).length (Mb m).length:=by
   refine U Zf (U (Qe _) ?_);rfl
  have l:((Ka X.length).filter λi=>Ye X[i]! (Mb m)).length<=2:=Za (Qb _ _) (by refine U Ab ?_;exact g);unfold Y8;by_cases h:((Ka X.length).filter λi=>Ye X[i]! (Mb m)).length<(Mb m).length
  ·refine U (Dd h) (U (Hq _ _) ((Db (e.trans (ud.mpr h))).trans (Db (Kc ?_))))
   refine U Ha (U (wc _) ?_);show _+1<_;lia
  ·exact U (fe h) (ji (e.trans (Xs.mpr λz=>h (ud.mp z))))
structure LK(n:Nat)(X lo hi:List Nat)(ca:ur):Prop where
 n3:n<=3
 vs':X∈ye
 lo':lo.length=X.length
 hi':hi.length=X.length
 wQ:ca.wQ=Cb (Ka n)
 wP:ca.wP=Cb X
 wO:ca.wO=Cb lo
 wN:ca.wN=Cb hi
theorem Ou:∀a:List Nat,gi a=a.map λr=>W.l (Cb (Mb r)):=by
 intro a
 induction a with
 |nil=>
  exact rfl
 |cons r a c=>
  exact Gc (λx=>W.l (Cb (Mb r))::x) (c)
theorem QR{n:Nat}{lo a:List Nat}{c:ur}(C:LK n X lo a c)(I:SI V b s)(d:V.length=n){R:Type}(k:List W->Option R):qL s.wL c k=k (gi (V.map (re X))):=by
 unfold qL;have j:=C.n3;refine U C.wQ (U C.wP ?_);refine(Db (Kc (by refine U (wc _) (U Ab ?_);lia))).trans ((bJ (f:=λv=>Pp [] (λi=>[W.l (Cb (Mb (re X V[i.toNat]!)))]) (Ua v)) (λv g l=>?_) _).trans ?_)
 ·rw[Od]at g
  obtain⟨i,a,rfl⟩:=Rb.mp g;have a:=bc.mp a;exact nU I C.vs' (vc (d.symm▸a)) _
 ·have e:(Cb (Ka n)).flatMap (λv=>Pp [] (λi=>[W.l (Cb (Mb (re X V[i.toNat]!)))]) (Ua v))=gi (V.map (re X)):=by
   refine U (Od _) (U (Ou _) (U (List.flatMap_map _ _ _) (U Qd (Ed List.map_eq_flatMap (et λi=>?_)))));refine U Ec (U Ec ?_);by_cases h:i<n
   ·refine U (bf h) (U (vc (d.symm▸h)) ?_);rfl
   ·refine U (Rc (by rw[Ab];lia)) (U (Rc (by lia)) ?_);rfl
  refine U e ?_;exact Db (Kc (by refine U (Ou _) (U (ya _) (U (ya _) ?_));lia))
end
theorem gN{b c:Bool}(h:M b c ua=Z):b=Z/\c=Z:=by
 induction b with
 |true=>exact⟨rfl,h⟩|false=>exact zc h ia
theorem ml{f:Nat->Bool}:{z:Nat}->OA f z=Z->∀a,1<=a->a<=z->f a=Z:=by
 intro z
 induction z with
 |zero=>
  rintro _ a d g;exact zc (Za d g) (zI 0)
 |succ z i=>
  rintro h a d g;obtain⟨j,k⟩:=gN (b:=f (z+1)) (c:=OA f z) h;rcases Lk g with e|e
  ·exact U e j
  ·exact i k a d (Qf e)
theorem NA{lo j os:List Nat}{z:Nat}(h:jt lo j os z=Z):{e:List Nat}->e≠[]->e.length<=3->(∀r∈e,1<=r/\r<=z)->chk lo j e e.length os=J Z:=by
 have d:{o:Option Bool}->yes o=Z->o=J Z:=λ{o} h=>by
  induction o with
  |none=>exact zc h ia|some b=>exact Gc J h
 obtain⟨l,h⟩:=gN h;obtain⟨m,h⟩:=gN h;intro e n p i
 induction e using ma with
 |nil=>exact zc rfl n|cons a e=>
  have f:=i a sa
  induction e using ma with
  |nil=>exact d (ml l a f.1 f.2)|cons b e=>
   have g:=i b (oa _ sa)
   induction e using ma with
   |nil=>exact d (ml (ml m a f.1 f.2) b g.1 g.2)|cons c e=>
    have k:=i c (oa _ (oa _ sa))
    induction e using ma with
    |nil=>exact d (ml (ml (ml h a f.1 f.2) b g.1 g.2) c k.1 k.2)|cons=>exact zc p (lL.mpr (Ve 4 _))
inductive zR:List Nat->List Nat->List Nat->Prop
 |one (v l h:Nat):l<=2->h<=l+2->zR [v] [l] [h]|two (v w l h g:Nat):l<=2->h<=l+2->g<=2->zR [v,w] [l,0] [h,g]
theorem IS:∀l∈Ka 3,∀h∈Ka 5,l<=h->h<=l+2->(l,h)∈[(0,0),(0,1),(0,2),(1,1),(1,2),(1,3),(2,2),(2,3),(2,4)]:=by decide
theorem cB{l h g:Nat}(a:l<=2)(b:h<=l+2)(c:g<=2)(d:l<=h):jt [l] [h] [0,1] 3=Z/\jt [l,0] [h,g] [0,1,2] 7=Z:=by
 have e:=V6 _ (IS l (bc.mpr (Sg a)) h (bc.mpr (by lia)) d b);exact⟨e.1,V3.all (P:=λg=>jt [l,0] [h,g] [0,1,2] 7=Z) e.2 (V3.of (Sg c))⟩
theorem I1:∀a∈ye,∀m∈Rm,1<=re a m/\re a m<=(if a.length=1 then 3 else 7):=by decide+kernel
theorem HS{a lo c b:List Nat}(o:a∈ye)(p:zR a lo c)(j:∀i,i<a.length->lo[i]! <=c[i]!)(q:∀m∈b,m∈Rm)(s:b≠[])(i:b.length<=3):chk lo c (b.map (re a)) b.length (Ka (a.length+1))=J Z:=by
 have e:(b.map (re a)).length=b.length:=ya _;refine Ed e ?_;have k:b.map (re a)≠[]:=λz=>s (List.map_eq_nil_iff.mp z);have n:∀r∈b.map (re a),1<=r/\r<=(if a.length=1 then 3 else 7):=λr t=>by
  obtain⟨m,d,rfl⟩:=Rb.mp t;exact I1 a o m (q m d)
 cases p with
 |one v l h d f=>exact NA (cB d f (td 2) (j 0 (Lu _))).1 k (e▸i) n|two v w l h g d f m=>exact NA (cB d f m (j 0 (Lu _))).2 k (e▸i) n
theorem kH{x:Bool}(h:Z= !x):x=ua:=by induction x with|true=>exact zc h.symm ia|false=>rfl
theorem dO{n:Nat}(h:n<4096){v:W}{R:Type}(k:List W->Option R):HZ (.ofNat n) v k=k (Ia n v):=by
 exact(Db (by refine U (by rw[Pg];exact decide_eq_false (Wi.mpr (wf n)):Qh (.ofNat n) 0=ua) ?_;rfl)).trans (Db (by refine U (Pg _ _) ?_;exact decide_eq_true (show(n:Int)<4096 by lia):Qh (.ofNat n) 4096=Z))
theorem vP(n:Nat):uw n 0=Cb (Ka n):=by
 exact U (Yz _ _) (U (Od _) (fg λi u=>Gc W.int (o5 (i:Int))))
inductive IF(X lo V T:List Nat)(b:Nat)(s:Ff):Bool->Prop
 |yes {ns:List Nat}:Ko X lo V T (X.length+1) ns->SI ns (b+36) s->IF X lo V T b s Z|no:SB s->IF X lo V T b s ua
theorem TL{g a c d:List W}{lo V f:List Nat}{x:Bool}:∀{os:List Nat}{h:Ae},SL g a c d lo V f os h=J x->Ym lo V f []=x:=by
 intro os
 induction os with
 |nil=>
  rintro h e;exact ba e
 |cons o os i=>
  rintro h e;refine aa λj=>(dp (show H (qaE a c d (.ofNat o) h) _=J x from e) λz z e=>(dp e λz z e=>(dp e λz z e=>?_)));obtain⟨_,e⟩:=rE e;refine dp e λz z e=>(dp e λz z e=>?_);obtain⟨_,e⟩:=rE e;exact j (i e)
section
variable {n b:Nat} {X lo V T:List Nat} {S:ur} {s:Ff}
theorem pH(C:LK n X lo V S){R:Type}(k:List W->Option R):RO S k=k (Cb ((Ka X.length).filter λi=>Qh (.ofNat V[i]!) (.ofNat lo[i]!))):=by
 have c:=(uh X C.vs').2.2.1;unfold RO;refine U C.wP (U Zf ?_);refine(xg (by lia) _).trans ((Dh (p:=λi=>Qh (.ofNat V[i]!) (.ofNat lo[i]!)) (λi a d=>?_) _).trans (Db (Kc ?_)))
 ·have a:=bc.mp a
  exact(Lb (by refine U C.wO ?_;exact Lg (vc (C.lo'.symm▸a)):Kg S.wO (.ofNat i)=J (.int (.ofNat lo[i]!)))).trans (Lb (by refine U C.wN ?_;exact Lg (vc (C.hi'.symm▸a)):Kg S.wN (.ofNat i)=J (.int (.ofNat V[i]!))))
 ·exact U (wc _) (ib (Qb _ _) (by refine U Ab ?_;lia))
theorem lU(C:LK n X lo V S)(B:zR X lo V)(I:SI T b s)(A:T.length=n)(h1:T≠[])(hb:b+40<=4000):∃g j,IF X lo V T b g (Ym lo V (T.map (re X)) [])/\∀(R:Type) k,Jy (R:=R) 5000 S s k=k (.bool (Ym lo V (T.map (re X)) [])) g j:=by
 have h2:=(uh X C.vs').2.2.1;have Q:=C.n3;have N:∀m∈T,m∈Rm:=λm h=>(I.all m h).mem;by_cases E:(Ka X.length).filter (λi=>Qh (.ofNat V[i]!) (.ofNat lo[i]!))=[]
 ·have h0:∀i,i<X.length->lo[i]! <=V[i]! :=λi d=>by
   have:=ai.mp E i (bc.mpr d);rw[Pg]at this;have:=λh=>this (decide_eq_true (p:=jb V[i]! <jb lo[i]!) h);exact og λz=>this (oi.mpr z)
  have c:=HS C.vs' B h0 N h1 (A▸Q);have ey:S.wO++[.int 0]=Cb (lo++[0]):=by refine U C.wO (U (Hq _ _) ?_);rfl
  have eh:S.wN++[.int (Sd S.wQ+1)]=Cb (V++[n+1]):=by refine U C.wN (U C.wQ (U Zf (U Ab (U (Hq _ _) ?_))));rfl
  let rs:=T.map (re X)
  let y:Y3:=((),S,(gi rs,Cb (lo++[0]),Cb (V++[n+1]),()),())
  let h:H3:=(s,(),(Ia n (.int (-1)),Ia (X.length+1) (.int 0),()),())
  have a:JD n X lo rs y:=⟨Kd Q,by lia,C.lo',λv e=>by
   obtain⟨i,V,rfl⟩:=Gj e;have:=CX C.vs' V;rw[getElem!_pos X i V]at this;exact this,C.wQ,C.wP,C.wO,rfl⟩
  have lt:Sd y.ca.wQ=.ofNat n:=by show Sd S.wQ=_;exact U C.wQ (U Zf (U Ab rfl))
  have lw:Sd y.ca.wP=.ofNat X.length:=by show Sd S.wP=_;exact U C.wP (U Zf rfl)
  have l:∀(R:Type) m h k,cC (R:=R) y m h k=lg (ry y) (Cb (Ka n)) m h k:=λR m h k=>by
   unfold cC;refine U lt ?_;exact xg (by lia) _
  have t:∀(R:Type) m h k,dC (R:=R) 5000 y m h k=lg (rB 5000 y) (Cb (Ka lo.length)) m h k:=λR m h k=>by
   unfold dC;refine U lw (U C.lo' ?_);exact xg (by lia) _
  have O:∀(R:Type) m h k,eC (R:=R) 5000 y m h k=lg (sy 5000 y) (Cb (Ka (X.length+1))) m h k:=λR m h k=>by
   unfold eC;refine U lw ?_;exact xg (n:=X.length+1) (by lia) _
  have start:∀(R:Type) k,Jy (R:=R) 5000 S s k=cC y (Y,Y,()) h λr=>Fw.rec (λm h=>dC 5000 y (Y,Y,()) h λr=>Fw.rec (λm h=>eC 5000 y (m.1,()) h λr=>Fw.rec (λm h=>k (.bool Z) h.st [WO y h]) (λw h=>k w h.st [WO y h]) r) (λw h=>k w h.st [WO y h]) r) (λw h=>k w h.st [WO y h]) r:=λR k=>by
   unfold Jy;refine(pH C _).trans (U E ((Lb (zl [])).trans ((ji rfl).trans ((QR C I A _).trans (U ey (U eh ?_))))));refine(Db (Kc (by refine U (wc _) (U Ha (U C.lo' ?_));show X.length+1<_;lia))).trans ((Db (Kc (by refine U (wc _) (U Ha (U C.hi' ?_));show X.length+1<_;lia))).trans ?_);have e:Sd (gi rs)=.ofNat n:=by exact U (Ou _) (U Ln (U (ya _) (U A rfl)))
   have f:Sd (Cb (lo++[0]))=.ofNat (X.length+1):=by refine U Zf (U Ha (U C.lo' ?_));rfl
   unfold mN;exact U e (U f ((dO (by lia) _).trans (dO (by lia) _)))
  subst A;unfold chk at c;rw[Qe (Ka _),Ab,vP,vP,Qe lo]at c;refine aa λf=>(dp c λq c1 c=>?_);obtain⟨p1,p2⟩:=TE a (ms:=T) (b:=b) (h:=h) (m:=(Y,Y,())) rfl (λk L=>bc.mp L) I c1;refine f ?_
  induction F:q.1 with
  |false=>
   rw[F]at c;refine aa λf=>?_;obtain⟨⟨P,as,D⟩,e⟩:=XF c;have e:=kH e;obtain⟨g,u,v⟩:=p2 F _ as (D.out.trans (Gc W.l (Il P))) (by refine U (ya _) ?_;exact D.js4) D.ats (D.len.trans (ya _));exact f (U e (⟨g,[WO y ((h.wX q.2.2).putS g)],.no u,λR k=>(start R k).trans ((l R _ _ _).trans (v R _))⟩))
  |true=>
   rw[F]at c;refine aa λf=>?_;obtain⟨m1,e1⟩:=p1 F;refine dp (show H (LM y.wM y.wO (Cb (Ka lo.length)) (h.wX q.2.2).pl) _=J Z from c) λG c2 c=>?_;obtain⟨p3,p4⟩:=jJ a rfl (h:=h.wX q.2.2) (m:=(Y,Y,())) (λk L=>bc.mp L) c2;refine f ?_
   induction L:G.1 with
   |false=>
    rw[L]at c;refine aa λf=>?_;obtain⟨⟨P,as,D⟩,e⟩:=XF c;have e:=kH e;obtain⟨g,u,v⟩:=p4 L P as ⟨D.out,D.js4,C.lo'▸D.lt,D.ats,D.len.trans (ya _)⟩ T b I;exact f (U e (⟨g,[WO y (((h.wX q.2.2).wX G.2.2).putS g)],.no u,λR k=>(start R k).trans ((l R _ _ _).trans ((e1 R _).trans ((t R _ _ _).trans (v R _))))⟩))
   |true=>
    rw[L]at c;refine aa λf=>?_;obtain⟨m2,D⟩:=p3 L;have c:SL (Cb (Ka T.length)) y.wM y.wO y.wN lo V rs (Ka (X.length+1)) G.2.2=J Z:=c;have e:=TL c;obtain⟨m3,P,ns,K,I3,v⟩:=PO a C.vs' rfl N e (os:=Ka (X.length+1)) (o:=0) (b:=b) (h:=(h.wX q.2.2).wX G.2.2) (m:=(m2.1,())) (ns:=T) (x:=Z) (by exact U Ab (U MF rfl)) (by exact U Ab (U (lh _) rfl)) (by refine U a.wQ ?_;exact c) (Ko.start N) I (by refine U Ab ?_;lia);refine f (U (show Ym lo V (T.map (re X)) []=Z from e) ?_);exact⟨P.st,[WO y P],.yes K (I3.mono (by refine U Ab ?_;lia)),λR k=>(start R k).trans ((l R _ _ _).trans ((e1 R _).trans ((t R _ _ _).trans ((D R _).trans ((O R _ _ _).trans (v R _))))))⟩
 ·have e:Ym lo V (T.map (re X)) []=ua:=by
   induction z:Ym lo V (T.map (re X)) []with
   |false=>rfl|true=>
    obtain⟨a,F,c⟩:=su.mp z;refine zc (ai.mpr λi d=>?_) E;have d:=bc.mp d;have:=c i _ _ (vc (C.lo'.symm▸d)) (vc (C.hi'.symm▸d));exact U (Pg _ _) λh=>zc (Nl h) (Wi.mpr (n5.mpr (Za this.1 this.2)))
  obtain⟨u,D⟩:=wz I (rs:=[]) rfl (by decide) (λs=>c2.wR ((),S,[]) (s,(),())) (w:=.t []) rfl;refine U e (⟨_,[],.no u,λR k=>(pH C _).trans ((Lb (zl _)).trans ((Db ?_).trans (D R _)))⟩)
  induction z:(Ka X.length).filter λi=>Qh (.ofNat V[i]!) (.ofNat lo[i]!)using ma with
  |nil=>exact zc z E|cons=>rfl
end
section
variable {n b:Nat} {T lo V X:List Nat} {S:ur} {s:Ff}
theorem rU(C:LK n T lo V S)(B:zR T lo V)(I:SI X b s)(c:X.length=n)(d:X≠[])(f:b+40<=4000):∃a j,IF T lo V X b a (Ym lo V (X.map (re T)) [])/\∀(R:Type) k,zH (R:=R) 5000 S s k=k (Ym lo V (X.map (re T)) []) a j:=by
 refine aa λg=>?_;obtain⟨a,j,A,e⟩:=lU C B I c d f;refine g (⟨a,j,A,λR k=>?_⟩);refine(Db (by refine U (Pg _ _) ?_;exact decide_eq_true (zr (by decide) (wf _)):Qh (-1) (Sd s.trail)=Z)).trans ((e R _).trans ((Lb rfl).trans ?_))
 induction Ym lo V (X.map (re T)) []<;>rfl
end
theorem Bg{d R:Type}{g:W->(List W->Option R)->Option R}{w:d->W}{f:d->List W}:{c:List d}->(∀a∈c,∀k,g (w a) k=k (f a))->∀k,ze g (c.map w) k=k (c.flatMap f):=by
 intro c
 induction c with
 |nil=>
  rintro _ k;exact rfl
 |cons x c a=>
  rintro h k;exact(h x sa _).trans (a (λv e=>h v (oa _ e)) _)
def Tw(t:List Nat):W:=.t (Cb t)
def Nr(m:Nat)(ts:List (List Nat)):List (List Nat):=ts.flatMap λt=>(Mb m).map λu=>t++[u]
def Qy(X:List Nat):List (List Nat):=X.foldl (λts m=>Nr m ts) [[]]
theorem uz{m:Nat}(c:Mk m):∀a:List (List Nat),(Nr m a).length<=3*a.length:=by
 intro a
 induction a with
 |nil=>
  exact Gb _
 |cons t a d=>
  show(((Mb m).map λu=>t++[u])++Nr m a).length<=_
  have:=Oj c;have:=d;refine U Ha (U (ya _) (U mc ?_))
  lia
theorem bO:∀{X:List Nat}{ts:List (List Nat)}{t:List Nat},t∈X.foldl (λts m=>Nr m ts) ts↔∃p,p∈ts/\∃q,Wy X q/\t=p++q:=by
 intro X
 induction X with
 |nil=>
  rintro ts t;exact⟨λh=>⟨t,h,[],⟨rfl,λy y y h=>(ja h)⟩,(Wb t).symm⟩,λa=>by
   obtain⟨p,h,q,F,e⟩:=a;refine aa λc=>?_;cases kg.mp F.len;refine c ?_;refine U e (U (Wb _) ?_);exact h⟩
 |cons m X d=>
  rintro ts t;exact(d (ts:=Nr m ts)).trans ⟨λa=>by
   obtain⟨p,h,q,F,e⟩:=a;refine aa λc=>?_;obtain⟨f,g,i⟩:=nu.mp h;obtain⟨u,j,rfl⟩:=Rb.mp i;refine c ?_;exact⟨f,g,u::q,.cons j F,by refine U e (U (Dc _ _ _) ?_);rfl⟩,λa=>by
   obtain⟨p,h,q,F,e⟩:=a;refine aa λc=>?_
   induction q using ma with
   |nil=>refine c ?_;exact zc F.len.symm (Zb _)|cons u q=>refine c ?_;exact⟨p++[u],nu.mpr ⟨p,h,Rb.mpr ⟨u,F.tail.1,rfl⟩⟩,q,F.tail.2,by refine U e (U (Dc _ _ _) ?_);rfl⟩⟩
theorem Xn{X t:List Nat}:t∈Qy X↔Wy X t:=bO.trans ⟨λa=>by obtain⟨p,h,q,F,e⟩:=a;cases Ra.mp h;refine U e ?_;exact F,λh=>⟨[],Nm _,t,h,rfl⟩⟩
theorem Bn{c d:Type}{f:c->d}:{a:List c}->(a.flatMap λx=>[f x])=a.map f:=by
 intro a
 induction a with
 |nil=>
  exact rfl
 |cons x a e=>
  exact Gc (λy=>f x::y) (e)
theorem XM{m:Nat}(d:Mk m){c:List (List Nat)}(j:c.length<=9)(g:∀t∈c,t.length<=3){a:Option W}{h:ub}{u:Unit}{R:Type}(k:List W×Option W×Unit->Unit->Option R):Ev (.l (Lw m)) (c.map Tw,a,()) h u k=k ((Nr m c).map Tw,J (.l (Lw m)),()) u:=by
 have l:=Oj d;refine(Db (Kc (by refine U (ya _) ?_;lia))).trans ((Bg (f:=λt=>(Mb m).map λu=>Tw (t++[u])) (λt i o=>?_) _).trans ?_)
 ·refine(Xr (by unfold Lw;refine U (wc _) ?_;lia) _).trans ?_
  unfold Lw;refine U (Od _) ((Bg (f:=λu=>[Tw (t++[u])]) (λu p e=>?_) _).trans (by exact U Bn rfl));refine(Db (Kc (by refine U Ha (U (wc _) ?_);have:=g t i;show _+1<_;lia))).trans ?_;unfold Tw;refine U (Hq _ _) ?_;rfl
 ·have e:(c.flatMap λt=>(Mb m).map λu=>Tw (t++[u]))=(Nr m c).map Tw:=by
   unfold Nr;refine U List.map_flatMap ?_;exact Gc (λf=>c.flatMap f) (funext λt=>by refine U Qd ?_;rfl)
  refine U e ?_;exact Db (Kc (by refine U (ya _) ?_;have:=uz d c;lia))
theorem eD:∀{ms:List Nat}{ts:List (List Nat)}{j:Nat}{a:Option W},(∀m∈ms,Mk m)->j+ms.length<=3->ts.length<=3^j->(∀t∈ts,t.length=j)->∃b,∀(R:Type) k,nh (λv m h k=>Ev (R:=R) v m [] h k) (ms.map λm=>W.l (Lw m)) (ts.map Tw,a,()) () k=k ((ms.foldl (λts m=>Nr m ts) ts).map Tw,b,()) ():=by
 intro ms
 induction ms with
 |nil=>
  rintro ts j a _ _ _ _;exact⟨a,λR k=>rfl⟩
 |cons m ms g=>
  rintro ts j a c i d f;rw[mc]at i;have l:ts.length<=9:=Za d (by
   exact AI (n:=3) (by decide) (by lia:j<=2))
  obtain⟨b,e⟩:=g (ts:=Nr m ts) (j:=j+1) (a:=J (.l (Lw m))) (λx h=>c x (oa _ h)) (by lia) (Za (uz (c m sa) ts) (by refine U (C5 _ _) (U (HD _ _) ?_);exact yI 3 d)) (λt h=>by
   obtain⟨p,o,h⟩:=nu.mp h;obtain⟨u,_,rfl⟩:=Rb.mp h;refine U Ha (U (f p o) ?_);rfl)
  exact⟨b,λR k=>((λR k=>XM (c m sa) l (λt h=>by refine U (f t h) ?_;lia) k:∀(R:Type) k,Ev (R:=R) (.l (Lw m)) (ts.map Tw,a,()) [] () k=k ((Nr m ts).map Tw,J (.l (Lw m)),()) ()) R λm h=>nh (λv m h k=>Ev v m [] h k) (ms.map λm=>W.l (Lw m)) m h k).trans (e R k)⟩
theorem jL{m:Nat}:Hd (.l (Lw m))=Z:=mf _
theorem aw{b:Type}{f:b->W}:{a:List b}->(∀x∈a,Hd (f x)=Z)->Ob (a.map f)=Z:=by
 intro a
 induction a with
 |nil=>
  rintro _;exact rfl
 |cons x a c=>
  rintro h;exact Aa.mpr ⟨h x sa,c λy d=>h y (oa _ d)⟩
theorem sI{ms:List Nat}(b:∀m∈ms,Mk m)(d:ms.length<=3):KQ [.l (ms.map λm=>.l (Lw m))]=J (.l ((Qy ms).map Tw)):=by
 refine aa λc=>?_;obtain⟨f,e⟩:=eD (ms:=ms) (ts:=[[]]) (j:=0) (a:=Y) b (by lia) (by decide) λt h=>by refine U (Ra.mp h) ?_;rfl
 refine c ((Db (Aa.mpr ⟨aw λm u=>jL,rfl⟩:Ob [W.l (ms.map λm=>.l (Lw m))]=Z)).trans ((p7 W _ _).trans ?_));exact(Xr (by refine U (ya _) ?_;lia) _).trans (e W _)
noncomputable abbrev Go:=Nat×Nat×Nat
noncomputable def Ie(r:Go):W:=.t [.int (.ofNat r.1),.int (.ofNat r.2.1),.int (.ofNat r.2.2)]
noncomputable def Xv(t:List Nat)(r:Go):Bool:= !ac (t.count r.1) r.2.1&& !ac r.2.2 (t.count r.1)
theorem pI{r:Go}{R:Type}(k:W->W->W->Option R):nI (Ie r) k=k (.int (.ofNat r.1)) (.int (.ofNat r.2.1)) (.int (.ofNat r.2.2)):=rfl
theorem KN{t:List Nat}(g:t.length<=3){a:List Go}(c:a.length<=9){R:Type}(k:Bool->Option R):JN (Tw t) (.l (a.map Ie)) k=k (a.all (Xv t)):=by
 refine(Xr (by refine U (ya _) ?_;lia) _).trans ((Bg (f:=λr=>Cb (if Xv t r then[]else[r.1])) (λr c b=>?_) _).trans ?_)
 ·refine(pI _).trans ?_
  refine(Db (Kc (by refine U (wc _) ?_;lia))).trans ?_;refine(Dh (p:=λu=>Ub u r.1) (λi d b=>Lb rfl) _).trans ((Db (Kc (by refine U (wc _) ?_;exact ib (Qb _ _) (by lia)))).trans ((Lb rfl).trans ?_));have e:(t.filter λu=>Ub u r.1).length=t.count r.1:=by
   refine U List.count_eq_length_filter ?_;exact Gc (λf=>(t.filter f).length) (funext λu=>by
    induction z:Ub u r.1 with
    |true=>exact(beq_iff_eq.mpr (Uc z)).symm|false=>exact(Xs.mpr λh=>Gg z (beq_iff_eq.mp h)).symm)
  refine U Zf (U e ?_);show M (!ac (t.count r.1) r.2.1) (M (!(!ac r.2.2 (t.count r.1))) (b [.int (.ofNat r.1)]) (b [])) (b [.int (.ofNat r.1)])=_
  unfold Xv
  induction ac (t.count r.1) r.2.1<;>induction ac r.2.2 (t.count r.1)<;>rfl
 ·have e:(a.flatMap λr=>Cb (if Xv t r then[]else[r.1]))=Cb ((a.filter λr=> !Xv t r).map λx=>x.1):=by
   clear c
   induction a with
   |nil=>rfl|cons r a d=>
    refine U fL (U d (U Ri ?_))
    induction Xv t r<;>rfl
  refine U e ?_;refine(Db (Kc (by refine U (wc _) (U (ya _) ?_);exact ib (Qb _ _) (by lia)))).trans ((Lb (zl _)).trans (Gc k ?_));refine U List.isEmpty_map ?_;clear e c
  induction a with
  |nil=>rfl|cons r a d=>
   refine U Ri (U wA ?_)
   induction Xv t r with
   |true=>exact d|false=>rfl
theorem Mu{t:List Nat}:Hd (Tw t)=Z:=mf _
theorem IV{t:List Nat}(b:t.length<=3){a:List Go}(c:a.length<=9):HV [Tw t,.l (a.map Ie)]=J (.bool (a.all (Xv t))):=by
 exact(Db (Aa.mpr ⟨Mu,Aa.mpr ⟨aw λr u=>rfl,rfl⟩⟩:Ob [Tw t,W.l (a.map Ie)]=Z)).trans ((q7 W _ _ _).trans (KN b c _))
theorem DQ:∀{a:List Nat}{ts:List (List Nat)},(∀m∈a,Mk m)->(a.foldl (λts m=>Nr m ts) ts).length<=ts.length*3^a.length:=by
 intro a
 induction a with
 |nil=>
  rintro ts _;exact U GR (U (Nat.pow_zero _) (U (Nat.mul_one _) (Gb _)))
 |cons m a b=>
  rintro ts h;exact Za (b (ts:=Nr m ts) λx c=>h x (oa _ c)) (U mc (U (C5 _ _) (U (HD (3^a.length) 3) (Ed (Nat.mul_assoc _ _ _) (yI _ (HD _ _▸uz (h m sa) ts))))))
theorem BF{a:List Nat}(b:∀m∈a,Mk m)(c:a.length<=3):(Qy a).length<=27:=Za (DQ b) (by
 refine U Ii (U (Z9 _) ?_);exact AI (by decide) c)
def yn(ms:List Nat)(rs:List Go):List (List Nat):=(Qy ms).filter λt=>rs.all (Xv t)
theorem oy{b c:Type}{f:b->c}{p:b->Bool}:{a:List b}->(a.flatMap λx=>if p x then[f x]else[])=(a.filter p).map f:=by
 intro a
 induction a with
 |nil=>
  exact rfl
 |cons x a d=>
  refine U fL (U d (U Ri ?_))
  induction p x<;>rfl
theorem dY{b:List Nat}(d:∀m∈b,Mk m)(c:b.length<=3){a:List Go}(e:a.length<=9){R:Type}(k:List W->Option R):M5 (b.map λm=>.l (Lw m)) (a.map Ie) k=k ((yn b a).map Tw):=by
 have g:=BF d c;refine(Db rfl).trans ((Lb (sI d c)).trans ((Xr (by refine U (ya _) ?_;lia) _).trans ((Bg (f:=λt=>if a.all (Xv t)then[Tw t]else[]) (λt h j=>?_) _).trans ?_)))
 ·have i:t.length<=3:=by refine U ((Xn.mp h).len) ?_;exact c
  refine(Db rfl).trans ((Lb (IV i e)).trans ?_)
  induction a.all (Xv t)<;>rfl
 ·refine U oy ?_
  exact Db (Kc (by refine U (ya _) ?_;exact ib (Qb _ _) (by lia)))
section
variable {t:List Nat} {l h:Nat} {a:Go}
theorem tV:∀b∈ye,∀i∈il,i<b.length->∀u∈il,Ub (zi b u) i=Ub u b[i]! :=by decide+kernel
theorem Yx{b:List Nat}(c:b∈ye){i:Nat}(d:i<b.length):{t:List Nat}->(∀u∈t,u∈il)->(t.map (zi b)).count i=t.count b[i]! :=by
 intro t
 induction t with
 |nil=>exactλy=>rfl|cons u t e=>
  intro h;have j:=(uh b c).2.2.1;have f:i∈il:=by
   have:i<=2:=by lia
   exact jD this
  refine Ed mq (Ed mq ?_);show M (Ub (zi b u) i) (nc (jp i (t.map (zi b)))) (jp i (t.map (zi b)))=M (Ub u b[i]!) (nc (jp b[i]! t)) (jp b[i]! t)
  exact U (tV b c i f d u (h u sa)) (U mq (U mq (U (e λw g=>h w (oa _ g)) rfl)))
theorem kU{r:Go}:Xv t r=Z↔r.2.1<=t.count r.1/\t.count r.1<=r.2.2:=by
 unfold Xv;rw[Ad,Se,Se,<-ku,<-ku,ud,ud,Ud,Ud]
inductive Jj:List Nat->List Nat->List Nat->List Go->Prop
 |r1 (v l1 h1 l2 h2:Nat):Jj [v] [max l1 l2] [min h1 h2] [(v,l1,h1),(v,l2,h2)]|s1 (v l h:Nat):Jj [v] [l] [h] [(v,l,h)]|r2 (v w l1 h1 l2 h2 g:Nat):Jj [v,w] [max l1 l2,0] [min h1 h2,g] [(v,l1,h1),(w,0,g),(v,l2,h2)]|s2 (v w l h g:Nat):Jj [v,w] [l,0] [h,g] [(v,l,h),(w,0,g)]
theorem T6{d:List Nat}:BK [l] [h] d↔l<=d.count 0/\d.count 0<=h:=⟨λc=>c 0 l h rfl rfl,λc i a b e f=>by
 induction i using Sa with
 |zero=>obtain rfl:=ba e;obtain rfl:=ba f;exact c|succ i=>exact ja e⟩
theorem U6{m g:Nat}{d:List Nat}:BK [l,m] [h,g] d↔(l<=d.count 0/\d.count 0<=h)/\m<=d.count 1/\d.count 1<=g:=⟨λc=>⟨c 0 l h rfl rfl,c 1 m g rfl rfl⟩,λc i a b e f=>by
 induction i using Sa with
 |zero=>obtain rfl:=ba e;obtain rfl:=ba f;exact c.1|succ i=>induction i using Sa with|zero=>obtain rfl:=ba e;obtain rfl:=ba f;exact c.2|succ i=>exact ja e⟩
theorem WR{b:List Go}:b.all (Xv t)=Z↔∀r∈b,r.2.1<=t.count r.1/\t.count r.1<=r.2.2:=md.trans (forall_congr' λr=>imp_congr_right λu=>kU)
theorem K5{P:Go->Prop}:(∀r∈[a],P r)↔P a:=⟨λh=>h a sa,λh=>Ac.mpr ⟨h,λu z=>(Tb z).elim⟩⟩
theorem cY{P:Go->Prop}{b:Go}:(∀r∈[a,b],P r)↔P a/\P b:=Ac.trans (and_congr_right λu=>K5)
theorem mm{b d e f c:Nat}:((b<=c/\c<=d)/\e<=c/\c<=f)↔max b e<=c/\c<=min d f:=by
 exact U (propext qbc) (U (propext Nat.le_min) (⟨λh=>⟨⟨h.1.1,h.2.1⟩,h.1.2,h.2.2⟩,λh=>⟨⟨h.1.1,h.2.1⟩,h.1.2,h.2.2⟩⟩))
theorem dr{b lo d:List Nat}{e:List Go}(T:Jj b lo d e)(f:b∈ye)(i:∀u∈t,u∈il):e.all (Xv t)=Z↔BK lo d (t.map (zi b)):=by
 have c:0<b.length->(t.map (zi b)).count 0=t.count b[0]! :=λh=>Yx f h i;have j:1<b.length->(t.map (zi b)).count 1=t.count b[1]! :=λh=>Yx f h i;refine WR.trans ?_;cases T with
 |r1 v k m n o=>exact cY.trans (mm.trans (c qaa▸T6.symm))|s1 v l h=>exact K5.trans (c qaa▸T6.symm)|r2 v w k m n o g=>exact Ac.trans ((and_congr_right λy=>cY).trans ((and_left_comm.trans (and_comm.trans (and_congr_left λy=>mm))).trans (j (pd 1)▸c qab▸U6.symm)))|s2 v w l h g=>exact cY.trans (j (pd 1)▸c qab▸U6.symm)
end
section
variable {X:List Nat} {R:Type}
def jE(X t:List Nat):Bool:=((Ka t.length).filter λi=> !Ye t[i]! (Mb X[i]!)).isEmpty
theorem nB{t:List Nat}(b:t.length=X.length):jE X t=Z↔Wy X t:=by
 unfold jE;refine U (propext Be) (U (propext ai) ?_);refine⟨λh=>⟨b,λi r x d c=>?_⟩,λF i a=>?_⟩
 ·have a:i<t.length:=(wb.mp c).1
  have:=h i (bc.mpr a);cases (vc a).symm.trans c;cases (vc (b▸a)).symm.trans d;rw[Se]at this;exact nf.mp (Bool.not_eq_false _▸this)
 ·have a:=bc.mp a
  exact U (nf.mpr (F.mem i _ _ (vc (b▸a)) (vc a))) ia
theorem SG{b:Nat}{s:Ff}(I:SI X b s)(g:X.length<=3)(c:ub)(k:List W->Option R):Ay c s.wL k=k (X.map λm=>W.l (Lw m)):=by
 have e:Sd s.wL=.ofNat X.length:=by exact U (show s.wL=X.map Dn from I.wL) (U Ln rfl)
 unfold Ay;refine U e ((xg (by lia) _).trans (U (Od _) ?_));refine(Bg (f:=λi=>[W.l (Lw X[i]!)]) (λi a j=>?_) _).trans ?_
 ·have a:=bc.mp a
  have d:=vc a;exact(qp I d _).trans ((Db rfl).trans (LV c _ (I.all _ (Ma d))))
 ·have e:((Ka X.length).flatMap λi=>[W.l (Lw X[i]!)])=X.map λm=>W.l (Lw m):=by
   refine U Bn (et λi=>?_);refine U Ec (U Ec ?_);by_cases h:i<X.length
   ·refine U (bf h) (U (vc h) ?_);rfl
   ·refine U (Rc (by rw[Ab];lia)) (U (Rc (by lia)) ?_);rfl
  refine U e ?_;exact Db (Kc (by refine U (ya _) ?_;lia))
theorem nZ{t:List Nat}{a:ub}(k:W->Option R):ON (Tw t) a k=k (.int (.ofNat t.length)):=by
 show k (.int (jb (len (Cb t))))=_
 exact U (Qe _) (U (wc _) rfl)
theorem DT(l:X.length<=3){a:List (List Nat)}(d:∀t∈a,t.length=X.length)(n:a.length<=27)(e:ub)(k:List W->Option R):RW e (X.map λm=>W.l (Lw m)) (a.map Tw) k=k ((a.filter (jE X)).map Tw):=by
 refine(Db (Kc (by refine U (ya _) ?_;lia))).trans ((Bg (f:=λt=>if jE X t then[Tw t]else[]) (λt c o=>?_) _).trans ?_)
 ·have g:=d t c
  refine(nZ _).trans ((Lb rfl).trans ?_);refine(xg (by lia) _).trans ((Dh (p:=λi=> !Ye t[i]! (Mb X[i]!)) (λi b h=>?_) _).trans ?_)
  ·have b:=bc.mp b
   have j:Kg (X.map λm=>W.l (Lw m)) (.ofNat i)=J (.l (Lw X[i]!)):=yp (f:=λm=>W.l (Lw m)) (vc (g▸b));exact(Lb (Lg (vc b):Kg (Cb t) (.ofNat i)=J (.int (.ofNat t[i]!)))).trans ((Lb j).trans (Lb MG))
  ·refine(Db (Kc (by refine U (wc _) ?_;exact ib (Qb _ _) (by refine U Ab ?_;lia)))).trans ((Lb (zl _)).trans ?_)
   show M (jE X t) _ _=_
   induction jE X t<;>rfl
 ·refine U oy ?_
  exact Db (Kc (by refine U (ya _) ?_;exact ib (Qb _ _) (by lia)))
end
theorem vy:∀is:List Int,Dl (is.map W.int)=J is:=by
 intro is
 induction is with
 |nil=>
  exact rfl
 |cons i is a=>
  exact Gc (λo:Option (List Int)=>(J i).bind λi=>o.map λx=>i::x) (a)
theorem uV:∀m∈Rm,(il.filter λu=>Ye u (Mb m))=Mb m:=by decide+kernel
theorem QL{m:Nat}(c:m∈Rm){is:List Nat}(h:∀u∈il,u∈Mb m↔u∈is):(Ig (is.map jb)).map W.int=Lw m:=by
 have e:Ig (is.map jb)=(Mb m).map jb:=by
  show(il.map jb).filter (λk=>(is.map jb).contains k)=_
  refine U List.filter_map (Ed (uV m c) ?_)
  congr 1
  refine eL λu d=>(Gh.mpr (U (propext nf) (U (propext (h u d)) (U (propext fo) (U (propext Rb) ?_)))));exact⟨λb=>by obtain⟨a,f,e⟩:=b;exact Iu e▸f,λh=>⟨u,h,rfl⟩⟩
 exact U e (U Qd ((Od _).symm))
theorem W0{is:List Nat}(h:∀u∈is,u∈il)(b:ub):qas .set [.l (Cb is)] b=J (.iset (is.map jb)):=by
 have a:((is.map jb).all λi=>decide (0<=i)&&decide (i<=2))=Z:=by
  refine U (propext md) ?_;intro i c;obtain⟨u,d,rfl⟩:=Rb.mp c;exact V3.all (P:=λu=>(decide (0<=jb u)&&decide (jb u<=2))=Z) (by decide) (V3.mem' (h u d))
 show(((Dl (Cb is)).bind oX).map λw=>(w,b)).map oj=_
 refine U (by rw[Od,Qd];rfl:Cb is=(is.map jb).map W.int) (U (vy _) ?_);show(((Ge _).map _).map _).map _=_
 refine U a ?_;rfl
theorem ES{c:List Nat}(y:c.length<=3)(q:∀k,k<c.length->c[k]! ∈Rm){l:List W}(s:l.length=c.length){g:List (List Nat)}(z:g.length<=27)(n:∀t∈g,t.length=c.length/\∀u∈t,u∈il)(v:∀k,k<c.length->∀u∈il,u∈Mb c[k]! ↔∃t,t∈g/\t[k]! =u)(r:ub){R:Type}(k:List W->Option R):gG r l (g.map Tw) k=k (c.map λm=>W.l (Lw m)):=by
 have e:Sd l=.ofNat c.length:=by unfold Sd;exact U (Qe _) (U s rfl)
 unfold gG;refine U e ((xg (by lia) _).trans (U (Od _) ?_));refine(Bg (f:=λi=>[W.l (Lw c[i]!)]) (λi j A=>?_) _).trans ?_
 ·have j:=bc.mp j
  refine(Db (Kc (by refine U (ya _) ?_;lia))).trans ((Bg (f:=λt=>[W.int (.ofNat t[i]!)]) (λt d w=>?_) _).trans ?_)
  ·have a:Kg (Cb t) (.ofNat i)=J (.int (.ofNat t[i]!)):=Lg (vc (by refine U ((n t d).1) ?_;exact j))
   exact Lb a
  ·have x:∀u∈g.map λt=>t[i]!,u∈il:=λu o=>by
    obtain⟨t,d,rfl⟩:=Rb.mp o;exact(n t d).2 _ (zn (by refine U ((n t d).1) ?_;exact j))
   refine U (by rw[Bn,Od,Qd];rfl:(g.flatMap λt=>[W.int (.ofNat t[i]!)])=Cb (g.map λt=>t[i]!)) ?_;refine(Db (Kc (by refine U (wc _) (U (ya _) ?_);lia))).trans ((Lb (W0 x r)).trans ((Lb rfl).trans ((Lb (Gc J (QL (q i j) λu o=>(v i j u o).trans ⟨λp=>by obtain⟨t,a,b⟩:=p;exact Rb.mpr ⟨t,a,b⟩,λh=>(Rb.mp h).imp λt h=>h⟩:(Ig ((g.map λt=>t[i]!).map jb)).map W.int=Lw c[i]!))).trans (Db (Kc ?_)))));unfold Lw;refine U (wc _) ?_;have:=Oj (Mk.mem' (q i j))
   lia
 ·have e:((Ka c.length).flatMap λi=>[W.l (Lw c[i]!)])=c.map λm=>W.l (Lw m):=by
   refine U Bn (et λi=>?_);refine U Ec (U Ec ?_);by_cases h:i<c.length
   ·refine U (bf h) (U (vc h) ?_);rfl
   ·refine U (Rc (by rw[Ab];lia)) (U (Rc (by lia)) ?_);rfl
  refine U e ?_;exact Db (Kc (by refine U (ya _) ?_;lia))
def dL(m:Nat):Vf:=.list ((Mb m).map λu=>.int (.ofNat u))
theorem Y6{m:Nat}:Mk m->Zd 5 (.l (Lw m))=J (dL m)/\Yc (dL m) (dL m)=Z:=Mk.all (P:=λm=>Zd 5 (.l (Lw m))=J (dL m)/\Yc (dL m) (dL m)=Z) (by and_intros<;>kernel_rfl)
theorem vY:{e:List Nat}->(∀m∈e,Mk m)->Oe (Zd 5) (e.map λm=>W.l (Lw m))=J (e.map dL)/\yd (e.map dL) (e.map dL)=Z:=by
 intro e
 induction e with
 |nil=>
  rintro _;exact⟨rfl,by rw[ft,yd]⟩
 |cons m e f=>
  rintro h;refine aa λg=>?_;obtain⟨a,b⟩:=Y6 (h m sa);obtain⟨c,d⟩:=f λx i=>h x (oa _ i);refine g ?_;refine⟨?_,?_⟩
  ·show(Zd 5 (.l (Lw m))).bind _=_
   refine U a ?_;refine U c ?_;rfl
  ·rw[Vb,yd,b,d];rfl
theorem uM{a:List Nat}(h:∀m∈a,Mk m):rk (.l (a.map λm=>W.l (Lw m))) (.l (a.map λm=>W.l (Lw m)))=J Z:=by
 obtain⟨c,d⟩:=vY h;show((Oe (Zd 5) (a.map λm=>W.l (Lw m))).map xD).bind (λx=>((Oe (Zd 5) (a.map λm=>W.l (Lw m))).map xD).map λy=>Yc x y)=_
 refine U c ?_;show J (Yc _ _)=_
 rw[Yc,d]
theorem mM:∀b:List (List Nat),∃c,Oe (Zd 5) (b.map Tw)=J c:=by
 intro b
 induction b with
 |nil=>
  exact⟨[],rfl⟩
 |cons t b f=>
  obtain⟨c,h⟩:=f;have e:∀a:List Nat,Oe (Zd 4) (Cb a)=J (a.map λu=>rg (.ofNat u)):=λa=>by
   refine U (Od _) ?_
   induction a with
   |nil=>rfl|cons x a f=>exact Gc (λo:Option (List Vf)=>(J (rg (.ofNat x))).bind λd=>o.map λx=>d::x) f
  refine⟨.tuple (t.map λu=>rg (.ofNat u))::c,?_⟩;show((Oe (Zd 4) (Cb t)).map zA).bind _=_
  refine U (e _) ?_;refine U h ?_;rfl
theorem Iy(a:List (List Nat)):rk (.l (a.map Tw)) (.l [])=J a.isEmpty:=by
 obtain⟨b,h⟩:=mM a;refine(rz h).trans ?_
 induction a using ma<;>rfl
section
variable {V lo Q:List Nat}
theorem YT(a:V∈ye){m:Nat}(c:m∈Rm){o:Nat}:o∈Mb (re V m)↔∃u,u∈Mb m/\zi V u=o:=by
 refine aa λg=>?_;obtain⟨i,d,k⟩:=Hw V a _ c;refine g ?_;refine⟨λh=>?_,λw=>?_⟩
 ·have:=d o (Vj _ (oa _ i) _ h)
  rw[nf.mpr h]at this;exact Rb.mp (nf.mp this.symm)
 ·obtain⟨u,h,e⟩:=w
  have f:=(uh V a);have j:o∈il:=by
   have:=(f.1 u (Vj _ (oa _ c) _ h)).1;have:o<=2:=by have:=f.2.2.1;lia
   exact jD this
  exact nf.mp ((d o j).trans (nf.mpr (Rb.mpr ⟨u,h,e⟩)))
theorem zG(i:V∈ye):{X xs:List Nat}->(∀m∈X,m∈Rm)->(Wy (X.map (re V)) xs↔∃t,Wy X t/\t.map (zi V)=xs):=by
 intro X
 induction X with
 |nil=>
  intro xs z;exact⟨λF=>⟨[],⟨rfl,λy y y h=>(ja h)⟩,by cases kg.mp F.len;rfl⟩,λc=>by
   refine aa λa=>?_;obtain⟨t,F,e⟩:=c;cases kg.mp F.len;subst e;refine a ?_;clear a;exact⟨rfl,λy y y h=>(ja h)⟩⟩
 |cons m X c=>
  intro xs d;have f:=λxs=>c (xs:=xs) λx h=>d x (oa _ h);have g:=λo=>YT i (d m sa) (o:=o);refine⟨λF=>?_,λw=>?_⟩
  ·induction xs using ma with
   |nil=>exact zc F.len.symm (Zb _)|cons x xs=>
    refine aa λa=>?_;obtain⟨u,j,e⟩:=(g x).mp F.tail.1;obtain⟨t,G,k⟩:=(f xs).mp F.tail.2;refine a ?_;clear a;exact⟨u::t,.cons j G,by exact U Vb (U e (U k rfl))⟩
  ·refine aa λa=>?_
   obtain⟨t,F,e⟩:=w
   induction t using ma with
   |nil=>refine a ?_;clear a;exact zc F.len.symm (Zb _)|cons u t=>
    refine a ?_;clear a;subst e;exact .cons ((g _).mpr ⟨u,F.tail.1,rfl⟩) ((f _).mpr ⟨t,F.tail.2,rfl⟩)
theorem yM(a:V∈ye){X:List Nat}(c:∀m∈X,m∈Rm):Ym lo Q (X.map (re V)) []=Z↔∃t,Wy X t/\BK lo Q (t.map (zi V)):=su.trans ⟨λ⟨d,F,C⟩=>by
 obtain⟨t,G,e⟩:=(zG a c).mp F;exact⟨t,G,e▸C⟩,(by rintro⟨t,F,C⟩;exact⟨_,(zG a c).mpr ⟨t,F,rfl⟩,C⟩)⟩
theorem Wy.v3{X t:List Nat}(c:∀m∈X,m∈Rm)(F:Wy X t):∀u∈t,u∈il:=λu d=>by
 obtain⟨i,Q,rfl⟩:=Gj d;have a:i<X.length:=F.len▸Q;exact Vj _ (oa _ (c _ (lu a))) _ (F.mem i _ _ (Wa a) (Wa Q))
theorem oY:∀u∈il,Ki u∈Rm:=by decide
theorem iZ(o:V∈ye){X:List Nat}(v:∀m∈X,m∈Rm){k:Nat}(d:k<X.length){u:Nat}(j:u∈il):(u∈Mb X[k]! /\SW V lo Q X k u=Z)↔∃t,(Wy X t/\BK lo Q (t.map (zi V)))/\t[k]! =u:=by
 have e:(X.map (re V)).set k (Ki (zi V u))=(X.set k (Ki u)).map (re V):=by exact U R3 (U (((uh V o).1 u j).2) rfl)
 have l:∀{t},(u∈Mb X[k]! /\Wy (X.set k (Ki u)) t)↔Wy X t/\t[k]! =u:=λ{t}=>by
  refine⟨λw=>?_,λw=>?_⟩
  ·obtain⟨a,F⟩:=w
   have p:t.length=X.length:=F.len.trans yb;have g:=vc (p▸d:k<t.length);have h:=F.mem k _ _ (je d) g;rw[lA u j]at h;have q:=Ra.mp h;refine⟨⟨p,λi r x c f=>?_⟩,q⟩;by_cases z:k=i
   ·subst z
    cases g.symm.trans f;cases (vc d).symm.trans c;exact U q a
   ·exact F.mem i r x (by refine U (Xc z) ?_;exact c) f
  ·obtain⟨F,a⟩:=w
   have g:=vc (F.len▸d:k<t.length);have h:=F.mem k _ _ (vc d) g;refine⟨a▸h,⟨F.len.trans yb.symm,λi r x c f=>?_⟩⟩;by_cases z:k=i
   ·subst z
    rw[je d]at c;obtain rfl:=ba c;cases g.symm.trans f;exact U a (U (lA u j) (Nm _))
   ·exact F.mem i r x (by rw[Xc z]at c;exact c) f
 unfold SW;exact U e (U (propext (yM o (λm h=>(bH h).elim (v m) λe=>e▸oY u j:∀m∈X.set k (Ki u),m∈Rm))) (⟨(by rintro⟨a,t,F,C⟩;exact⟨t,⟨(l.mp ⟨a,F⟩).1,C⟩,(l.mp ⟨a,F⟩).2⟩),(by rintro⟨t,⟨F,C⟩,a⟩;exact⟨(l.mpr ⟨F,a⟩).1,t,(l.mpr ⟨F,a⟩).2,C⟩)⟩))
structure Sub(X ns:List Nat):Prop where
 len:ns.length=X.length
 mem:∀k,k<X.length->∀u,u∈Mb ns[k]! ->u∈Mb X[k]!
theorem Sub.fit{X a t:List Nat}(S:Sub X a)(F:Wy a t):Wy X t:=⟨F.len.trans S.len,λi r x c d=>by
 have Q:=(wb.mp c).1;cases (vc Q).symm.trans c;exact S.mem i Q x (F.mem i _ x (vc (S.len▸Q:i<a.length)) d)⟩
variable {n b:Nat} {P X:List Nat} {O:List Go} {N:ur} {s:Ff}
theorem hY(T:Jj V lo Q O)(p:V∈ye)(C:LK n V lo Q N)(B:zR V lo Q)(S:Sub P X)(L:∀m∈P,Mk m)(I:SI X b s)(hn:X.length=n)(D:X≠[])(E:X.length<=3)(hb:b+40<=4000):∃f j,(SB f\/∃g,SI g (b+36) f/\Sub X g)/\∀(R:Type) k,yL (R:=R) 5000 N s ((yn P O).map Tw) k=k (.bool Z) f j:=by
 have q:∀m∈X,m∈Rm:=λm h=>(I.all m h).mem;have v:(yn P O).length<=27:=Za (Qb _ _) (BF L (S.len▸E:P.length<=3));have G:∀t∈yn P O,t.length=X.length:=λt h=>((Xn.mp (Vc.mp h).1).len).trans S.len.symm
 let d:=(yn P O).filter (jE X)
 have mk:∀t,t∈d↔Wy X t/\BK lo Q (t.map (zi V)):=λt=>by
  refine⟨λh=>?_,λw=>?_⟩
  ·obtain⟨D,a⟩:=Vc.mp h
   have F:=(nB (G t D)).mp a;exact⟨F,(dr T p (F.v3 q)).mp (Vc.mp D).2⟩
  ·obtain⟨F,C⟩:=w
   exact Vc.mpr ⟨Vc.mpr ⟨Xn.mpr (S.fit F),(dr T p (F.v3 q)).mpr C⟩,(nB F.len).mpr F⟩
 refine aa λl=>?_;obtain⟨f,j,A,e⟩:=rU C B I hn D hb;refine l ?_;have F:Ym lo Q (X.map (re V)) []= !d.isEmpty:=by
  refine Gh.mpr ((yM p q).trans (U (Se _) (Ed (ku _) (U (propext Be) ?_))));refine⟨λw z=>?_,λh=>?_⟩
  ·obtain⟨t,h⟩:=w
   have:=(mk t).mpr h;rw[z]at this;cases this
  ·refine aa λl=>?_
   induction o:d using ma with
   |nil=>refine l ?_;exact zc o h|cons t a=>refine l ?_;exact⟨t,(mk t).mp (o▸sa)⟩
 have st:∀(R:Type) k,yL (R:=R) 5000 N s ((yn P O).map Tw) k=M d.isEmpty (k (.bool f.bad) f j) (Ay (c2.wR ((),N,j) (f,(),())) f.wL λa=>gG (c2.wR ((),N,j) (f,(),())) (X.map λm=>W.l (Lw m)) (d.map Tw) λc=>H (rk (.l a) (.l c)) λr=>k (.bool r) f j):=λR k=>by
  refine(SG I E _ _).trans ((DT E G v _ _).trans ((e R _).trans ((Lb (Iy d)).trans ?_)));exact(ji (by refine U F ?_;induction d.isEmpty<;>rfl:(Ym lo Q (X.map (re V)) []!= !d.isEmpty)=ua)).trans (Lb (Iy d))
 generalize Ym lo Q (X.map (re V)) []=x at A F;refine aa λl=>?_;cases A with
 |no a=>
  refine l ?_;have w:d.isEmpty=Z:=by revert F;induction d.isEmpty with|true=>exactλy=>rfl|false=>exactλh=>(zc h ia)
  exact⟨f,j,.inl a,λR k=>(st R k).trans ((Db w).trans (by exact U a.bad rfl))⟩
 | @yes g K c=>
  refine l ?_;have w:d.isEmpty=ua:=by revert F;induction d.isEmpty with|true=>exactλh=>(zc h.symm ia)|false=>exactλy=>rfl
  refine⟨f,j,.inr ⟨g,c,(⟨K.len,λk o u i=>((K.mem k o u (Vj _ (oa _ (K.msk k o)) _ i)).mp i).1⟩:Sub X g)⟩,λR k=>(st R k).trans ((ji w).trans ?_)⟩;have z:g.length<=3:=K.len▸E;refine(SG c z _ _).trans ((ES z (λk h=>K.msk k (K.len▸h):∀k,k<g.length->g[k]! ∈Rm) (by exact U (ya _) (U K.len rfl)) (Za (Qb _ _) v:d.length<=27) (λt h=>⟨((mk t).mp h).1.len.trans K.len.symm,((mk t).mp h).1.v3 q⟩) (λk o u i=>?_) _ _).trans (Lb (uM c.all)));have r:k<X.length:=K.len▸o;refine(K.mem k r u i).trans (qdk ⟨(by rintro⟨a,b⟩;exact⟨a,b ((λu i=>Sg ((uh V p).1 u i).1:∀u∈il,zi V u<V.length+1) u i)⟩),(by rintro⟨a,b⟩;exact⟨a,λy=>b⟩)⟩ ((iZ p q r i).trans ?_));exact⟨(by rintro⟨t,h,e⟩;exact⟨t,(mk t).mpr h,e⟩),(by rintro⟨t,h,e⟩;exact⟨t,(mk t).mp h,e⟩)⟩
end
section
variable {R:Type} {s:Ff} {m:Nat}
section
variable {X:List Int}
theorem th(X:List Int)(j:Nat){w:Nat}(a:0<w):∃z,z<w/\∀(R:Type) k,qk (R:=R) (X.map W.int) (.ofNat j) (.ofNat w) k=k (.ofNat z) (.ofNat (j+1)):=by
 have b:Qh (Sd (X.map W.int)) (jb j+1)=decide (X.length<=j):=by
  exact U Ln (U (Pg _ _) (decide_eq_decide.mpr ⟨λh=>Qf (oi.mp h),λh=>oi.mpr (Sg h)⟩))
 by_cases h:X.length<=j
 ·exact⟨0,a,λR k=>Db (b.trans (decide_eq_true h))⟩
 ·have c:=lL.mp h
  have p:(0:Int)<(w:Int):=oi.mpr a;have e:=Int.fmod_lt_of_pos X[j] p;refine⟨(X[j].fmod w).toNat,by omega,λR k=>(ji (b.trans (decide_eq_false h))).trans ?_⟩;have d:jb (X[j].fmod w).toNat=X[j].fmod w:=DK (Int.fmod_nonneg_of_pos X[j] p);refine U d ?_;exact(Lb ((SK _ _:(jb j+1 - 1)=jb j).symm▸yp (Wa c):Kg (X.map W.int) (jb j+1 - 1)=J (.int X[j]))).trans ((Lb rfl).trans (Lb (fe (Int.ne_of_gt p):Lz X[j] (.ofNat w)=J (X[j].fmod w))))
theorem ZN(X:List Int):∀(a:List W)(j:Nat),∃b:List Nat,(∀m∈b,Mk m)/\b.length=a.length/\∀(R:Type) k,nk (ZG (R:=R) (X.map W.int)) a (.ofNat j) k=k (Cb b) (.ofNat (j+a.length)):=by
 intro a
 induction a with
 |nil=>
  rintro j;exact⟨[],λu h=>((Tb h).elim),rfl,λR k=>rfl⟩
 |cons w a c=>
  rintro j;refine aa λd=>?_;obtain⟨z,l,e⟩:=th X j (w:=7) (by decide);obtain⟨b,f,g,i⟩:=c (j+1);refine d (⟨(1+z)::b,λm h=>(fb.mp h).elim (λh=>h▸Mk.of (Nc 1 z) (by lia)) (f m),Gc nc g,λR k=>?_⟩);refine U (by rw[mc];lia:j+(w::a).length=j+1+a.length) ?_;exact(e R _).trans (i R _)
end
theorem QN{a:List Nat}(b:∀m∈a,Mk m)(c:a.length<=3)(k:List W->Option R):PN (Cb a) k=k (a.map λm=>.l (Lw m)):=by
 refine(Db (Kc (by refine U (wc _) ?_;lia))).trans ?_;refine U (Od _) ((Bg (f:=λm=>[W.l (Lw m)]) (λm h d=>VT _ (b m h)) _).trans (U Bn ?_));exact Db (Kc (by refine U (ya _) ?_;lia))
def XC(ds:List Nat):Ff:=(ds.map Dn,ds.map Dn,[],[],([],[]),-1,ua,[],())
theorem rF{a:List Nat}(h:∀m∈a,Mk m):SI a 0 (XC a):=⟨h,rfl,yr h,rfl,rfl,rfl,rfl,Gb _,Gb _,Gb _,rfl⟩
theorem xH(h:Jf (Xg s).fs=Z):oe [Xg s]=Z:=Aa.mpr ⟨h,rfl⟩
theorem Cm{o:OF}(h:Jf (Xg s).fs=Z)(a:Jf o.fs=Z):oe [Xg s,o]=Z:=Aa.mpr ⟨h,Aa.mpr ⟨a,rfl⟩⟩
theorem qq{X:List W}(h:Hd (.t X)=Z):wl m (.t X)=J (.t X):=by
 show(Ge (Hd (.t X))).map _=_
 refine U h ?_;rfl
theorem rM{X:List W}(h:Hd (.l X)=Z):wl m (.l X)=J (.l X):=by
 show(Ge (Hd (.l X))).map _=_
 refine U h ?_;rfl
theorem MZ{a:Nat}{b:List Nat}(c:Mk a)(e:∀d∈b,Mk d)(n:b.length<=3)(k:List W->Ff->Option R):Ap m (.l (Lw a)) (XC b) k=k [.int (.ofNat b.length)] (XC (b++[a])):=by
 have j:rk (Dn a) (.t [])=J ua:=(tM (Mk.all (P:=λa=>a<=7) (by decide) c)).trans (Gc J (Mk.all (P:=λa=>Ub a 0=ua) (by decide) c));have f:XC (b++[a])=((XC b).1++[Dn a],(XC b).2.1++[Dn a],(XC b).2.2):=by unfold XC;refine U HR ?_;rfl
 have l:Sd ((XC b).1++[Dn a]) - 1=.ofNat b.length:=by
  unfold Sd;refine U (Qe _) (U Ha (U (ya _) ?_));exact(SK (jb b.length) 1:jb b.length+1 - 1=_)
 have g:Jd 4096 (XC b).1=Z:=Kc (by show(b.map Dn).length<_;refine U (ya _) ?_;lia);refine(Db rfl).trans ((Lb (GV c)).trans ((Db rfl).trans ((Lb (qq (Hu c))).trans ((Db (xH (rF e).plain)).trans ((Db rfl).trans ((Db g).trans ((Db rfl).trans ((Db g).trans ((Lb j).trans ((ji rfl).trans ?_))))))))));have i:=(rF (λd h=>(Xb.mp h).elim (e d) λh=>Ra.mp h▸c:∀d∈b++[a],Mk d)).plain;rw[f]at i;exact U f (Ed l ((Db rfl).trans ((Db (xH i)).trans (Db rfl))))
theorem fU:{ms ds:List Nat}->(∀x∈ms,Mk x)->(∀x∈ds,Mk x)->ds.length+ms.length<=3->∀{R:Type}(k:List W->Ff->Option R),nk (Ap m) (ms.map λm=>W.l (Lw m)) (XC ds) k=k (Cb (LF ds.length ms.length)) (XC (ds++ms)):=by
 intro ms
 induction ms with
 |nil=>
  rintro ds _ _ _ R k;refine U (Wb _) ?_;rfl
 |cons a ms g=>
  rintro ds c e i R k;have f:=c a sa;rw[mc]at i;have st:nk (Ap m) ((a::ms).map λm=>W.l (Lw m)) (XC ds) k=Ap m (.l (Lw a)) (XC ds) λa h=>nk (Ap m) (ms.map λm=>W.l (Lw m)) h λb h=>k (a++b) h:=rfl;refine U st (U (MZ f e (by lia) _:Ap m (.l (Lw a)) (XC ds) (λa h=>nk (Ap m) (ms.map λm=>W.l (Lw m)) h λb h=>k (a++b) h)=nk (Ap m) (ms.map λm=>W.l (Lw m)) (XC (ds++[a])) λb h=>k ([.int (.ofNat ds.length)]++b) h) (U ((λk=>g (ds:=ds++[a]) (λx h=>c x (oa _ h)) (λd h=>(Xb.mp h).elim (e d) λh=>Ra.mp h▸f) (by rw[Ha,Ii];lia) (R:=R) k) _) (U Ha (U (Dc _ _ _) ?_))))
  rfl
end
theorem V3.all2{P:Nat->Nat->Prop}(b:P 0 0/\P 1 0/\P 2 0)(X:P 0 1/\P 1 1/\P 2 1)(V:P 0 2/\P 1 2/\P 2 2){m u:Nat}(a:V3 m)(c:V3 u):P m u:=
 V3.all (P:=λu=>P m u) ⟨V3.all (P:=λm=>P m 0) b a,V3.all (P:=λm=>P m 1) X a,V3.all (P:=λm=>P m 2) V a⟩ c
noncomputable def qdG(rs:List Go):List W:=[.t (rs.map λr=>.int (.ofNat r.1)),.t (rs.map λr=>.int (.ofNat r.2.1)),.t (rs.map λr=>.int (.ofNat r.2.2))]
def Rk(n:Nat)(rs:List Go)(q:DR):zK:=(Cb (Ka n),rs.map λr=>.int (.ofNat r.1),rs.map λr=>.int (.ofNat r.2.1),rs.map λr=>.int (.ofNat r.2.2),q,ua)
section
variable {R:Type} {m:Nat} {Q:ub} {k:zK->Option R} {n v l h T X S V g:Nat}
theorem HU:V3 n->V3 v->Uo m ([(v,l,h)].map Ie) (Cb (Ka (n+1))) Q k=k (Rk (n+1) [(v,l,h)] ([.int (.ofNat v)],[.int (max (.ofNat l) 0)],[.int (.ofNat h)],())):=
 V3.all2 (P:=λn v=>Uo m ([(v,l,h)].map Ie) (Cb (Ka (n+1))) Q k=k (Rk (n+1) [(v,l,h)] ([.int (.ofNat v)],[.int (max (.ofNat l) 0)],[.int (.ofNat h)],()))) (by and_intros<;>kernel_rfl) (by and_intros<;>kernel_rfl) (by and_intros<;>kernel_rfl)
theorem FU:V3 n->V3 v->Uo m ([(v,T,X),(v,S,V)].map Ie) (Cb (Ka (n+1))) Q k=k (Rk (n+1) [(v,T,X),(v,S,V)] ([.int (.ofNat v)],[.int (max (max (.ofNat T) 0) (max (.ofNat S) 0))],[.int (min (.ofNat X) (.ofNat V))],())):=
 V3.all2 (P:=λn v=>Uo m ([(v,T,X),(v,S,V)].map Ie) (Cb (Ka (n+1))) Q k=k (Rk (n+1) [(v,T,X),(v,S,V)] ([.int (.ofNat v)],[.int (max (max (.ofNat T) 0) (max (.ofNat S) 0))],[.int (min (.ofNat X) (.ofNat V))],()))) (by and_intros<;>kernel_rfl) (by and_intros<;>kernel_rfl) (by and_intros<;>kernel_rfl)
noncomputable def Wv(v:Nat):Nat:=Sa v 1 λv=>Sa v 2 λu=>0
theorem IU:V3 n->V3 v->Uo m ([(v,l,h),(Wv v,0,g)].map Ie) (Cb (Ka (n+1))) Q k=k (Rk (n+1) [(v,l,h),(Wv v,0,g)] ([.int (.ofNat v),.int (.ofNat (Wv v))],[.int (max (.ofNat l) 0),.int (max 0 0)],[.int (.ofNat h),.int (.ofNat g)],())):=
 V3.all2 (P:=λn v=>Uo m ([(v,l,h),(Wv v,0,g)].map Ie) (Cb (Ka (n+1))) Q k=k (Rk (n+1) [(v,l,h),(Wv v,0,g)] ([.int (.ofNat v),.int (.ofNat (Wv v))],[.int (max (.ofNat l) 0),.int (max 0 0)],[.int (.ofNat h),.int (.ofNat g)],()))) (by and_intros<;>kernel_rfl) (by and_intros<;>kernel_rfl) (by and_intros<;>kernel_rfl)
theorem GU:V3 n->V3 v->Uo m ([(v,T,X),(Wv v,0,g),(v,S,V)].map Ie) (Cb (Ka (n+1))) Q k=k (Rk (n+1) [(v,T,X),(Wv v,0,g),(v,S,V)] ([.int (.ofNat v),.int (.ofNat (Wv v))],[.int (max (max (.ofNat T) 0) (max (.ofNat S) 0)),.int (max 0 0)],[.int (min (.ofNat X) (.ofNat V)),.int (.ofNat g)],())):=
 V3.all2 (P:=λn v=>Uo m ([(v,T,X),(Wv v,0,g),(v,S,V)].map Ie) (Cb (Ka (n+1))) Q k=k (Rk (n+1) [(v,T,X),(Wv v,0,g),(v,S,V)] ([.int (.ofNat v),.int (.ofNat (Wv v))],[.int (max (max (.ofNat T) 0) (max (.ofNat S) 0)),.int (max 0 0)],[.int (min (.ofNat X) (.ofNat V)),.int (.ofNat g)],()))) (by and_intros<;>kernel_rfl) (by and_intros<;>kernel_rfl) (by and_intros<;>kernel_rfl)
end
theorem MO{v:Nat}(h:[v]∈ye):V3 v:=by
 rcases(by simpa [ye]using h:v=0\/v=1\/v=2)with rfl|rfl|rfl
 ·exact .v0
 ·exact .v1
 ·exact .v2
theorem GQ{v w:Nat}(h:[v,w]∈ye):V3 v/\w=Wv v:=by
 rcases(by simpa [ye]using h:(v=0/\w=1)\/(v=1/\w=2)\/v=2/\w=0)with⟨rfl,rfl⟩|⟨rfl,rfl⟩|⟨rfl,rfl⟩
 ·exact⟨.v0,rfl⟩
 ·exact⟨.v1,rfl⟩
 ·exact⟨.v2,rfl⟩
theorem HJ(a:Nat):max (jb a) 0=.ofNat a:=Int.max_eq_left (wf a)
theorem yZ(a b:Nat):max (jb a) (.ofNat b)=.ofNat (max a b):=by show max (a:Int) b=((max a b:Nat):Int);omega
theorem DZ(a b:Nat):min (jb a) (.ofNat b)=.ofNat (min a b):=by show min (a:Int) b=((min a b:Nat):Int);omega
section
variable {n:Nat} {V lo S:List Nat} {X:List Go}
theorem EU(T:Jj V lo S X)(a:V∈ye)(b:V3 n):∃q,LK (n+1) V lo S (Px (Rk (n+1) X q))/\∀(R:Type) m c k,Uo (R:=R) m (X.map Ie) (Cb (Ka (n+1))) c k=k (Rk (n+1) X q):=by
 have d:n+1<=3:=V3.all (P:=λn=>n+1<=3) (by decide) b;cases T with
 |r1 v e f i j=>exact⟨_,⟨d,a,rfl,rfl,rfl,rfl,by
  show[W.int (max (max (jb e) 0) (max (jb i) 0))]=_
  refine U (HJ _) (U (HJ _) (U (yZ _ _) ?_));rfl,by
  show[W.int (min (jb f) (jb j))]=_
  refine U (DZ _ _) ?_;rfl⟩,λR m c k=>FU b (MO a)⟩
 |s1 v l h=>exact⟨_,⟨d,a,rfl,rfl,rfl,rfl,by
  show[W.int (max (jb l) 0)]=_
  refine U (HJ _) ?_;rfl,rfl⟩,λR m c k=>HU b (MO a)⟩
 |r2 v w e f i j g=>
  obtain⟨o,rfl⟩:=GQ a;exact⟨_,⟨d,a,rfl,rfl,rfl,rfl,by
   show[W.int (max (max (jb e) 0) (max (jb i) 0)),W.int (max 0 0)]=_
   refine U (HJ _) (U (HJ _) (U (yZ _ _) ?_));rfl,by
   show[W.int (min (jb f) (jb j)),W.int (jb g)]=_
   refine U (DZ _ _) ?_;rfl⟩,λR m c k=>GU b o⟩
 |s2 v w l h g=>
  obtain⟨o,rfl⟩:=GQ a;exact⟨_,⟨d,a,rfl,rfl,rfl,rfl,by
   show[W.int (max (jb l) 0),W.int (max 0 0)]=_
   refine U (HJ _) ?_;rfl,rfl⟩,λR m c k=>IU b o⟩
theorem TT{ms:List Nat}(c:∀m∈ms,Mk m)(b:ms.length=n+1)(T:Jj V lo S X)(d:V∈ye)(f:V3 n):∃q,LK (n+1) V lo S (Px (Rk (n+1) X q))/\∀(R:Type) a m k,xt (R:=R) a m (ms.map λm=>.l (Lw m)) (X.map Ie) k=k (XC ms) (Rk (n+1) X q):=by
 refine aa λg=>?_;obtain⟨q,C,e⟩:=EU T d f;refine g ?_;have i:=C.n3;refine⟨q,C,λR a m k=>(Db (Kc (by refine U (ya _) ?_;lia))).trans ?_⟩;refine((λk=>fU (m:=m) (ms:=ms) (ds:=[]) c (λu h=>((Tb h).elim)) (by refine U b ?_;exact Za (Fd (lh _)) i) (R:=R) k) _).trans ?_;refine U b (U (show LF ([]:List Nat).length (n+1)=Ka (n+1)from MF.symm) ?_);exact(Db (Kc (by refine U (wc _) (U Ab ?_);lia))).trans (e R m _ _)
end
noncomputable def dT(t:List Nat):Vf:=.tuple (t.map λu=>.int (.ofNat u))
theorem ZS(a b:Nat):Yc (.int (.ofNat a)) (.int (.ofNat b))=decide (a=b):=by
 exact U sz (U (vp _ _) (decide_eq_decide.mpr ⟨Iu,Gc _⟩))
theorem kB(t u:List Nat):yd (t.map λu=>.int (.ofNat u)) (u.map λu=>.int (.ofNat u))=decide (t=u):=match t,u with
 |[],[]=>by rw[ft,yd];rfl|[],y::z=>by rw[ft,Vb,yd];rfl|y::z,[]=>by rw[ft,Vb,yd];rfl|a::t,b::u=>by
  rw[Vb,Vb,yd,ZS,kB t u,<-Bool.decide_and];exact decide_eq_decide.mpr (List.cons_eq_cons).symm
theorem rq(t u:List Nat):Yc (dT t) (dT u)=decide (t=u):=by
 unfold dT;rw[Yc,kB]
theorem lG(t:List Nat):Zd 5 (Tw t)=J (dT t):=by
 have e:∀a:List Nat,Oe (Zd 4) (Cb a)=J (a.map λu=>rg (.ofNat u)):=λa=>by
  refine U (Od _) ?_
  induction a with
  |nil=>rfl|cons x a b=>exact Gc (λo:Option (List Vf)=>(J (rg (.ofNat x))).bind λd=>o.map λx=>d::x) b
 show(Oe (Zd 4) (Cb t)).map zA=_
 refine U (e _) ?_;rfl
theorem iy:∀a:List (List Nat),Oe (Zd 5) (a.map Tw)=J (a.map dT):=by
 intro a
 induction a with
 |nil=>
  exact rfl
 |cons t a b=>
  show(Zd 5 (Tw t)).bind (λd=>(Oe (Zd 5) (a.map Tw)).map λx=>d::x)=_
  refine U (lG _) (U b ?_);rfl
theorem WY(t:List Nat)(a:List (List Nat)):AA (Tw t) (.l (a.map Tw))=J (decide (t∈a)):=by
 show(Zd 5 (Tw t)).bind (λe=>(Oe (Zd 5) (a.map Tw)).map λb=>b.any λd=>Yc d e)=_
 refine U (lG _) (U (iy _) ?_);show J ((a.map dT).any λd=>Yc d (dT t))=_
 refine Gc J ?_
 induction a with
 |nil=>rfl|cons u a b=>
  refine U Vb (U bq (U b (U (rq _ _) (Ed (Bool.decide_or _ _) ?_))));exact decide_eq_decide.mpr (by refine U (propext fb) ?_;exact or_congr_left eq_comm)
theorem YS(a b c d:List Nat):rk (.t [.str "cardinality",Tw a,Tw b,Tw c,Tw d]) (.t [.str "cardinality",Tw a,Tw b,Tw c,Tw d])=J Z:=by
 have f:Zd 5 (.str "cardinality")=J (.str "cardinality"):=by kernel_rfl
 have e:Zd 6 (.t [.str "cardinality",Tw a,Tw b,Tw c,Tw d])=J (.tuple [.str "cardinality",dT a,dT b,dT c,dT d]):=by
  show((Zd 5 (.str "cardinality")).bind λx=>(Oe (Zd 5) ([a,b,c,d].map Tw)).map λy=>x::y).map zA=_
  refine U f (U (iy _) ?_);rfl
 show(Zd 6 (.t [.str "cardinality",Tw a,Tw b,Tw c,Tw d])).bind (λx=>(Zd 6 (.t [.str "cardinality",Tw a,Tw b,Tw c,Tw d])).map λy=>Yc x y)=_
 refine U e ?_;show J (Yc _ _)=_
 have z:Yc (.str "cardinality") (.str "cardinality")=Z:=qbd _ (by kernel_rfl);rw[Yc,yd,yd,yd,yd,yd,yd,z,rq,rq,rq,rq,decide_eq_true rfl,decide_eq_true rfl,decide_eq_true rfl,decide_eq_true rfl];rfl
noncomputable def ig(f:Go->Nat)(X:List Go):List W:=X.map λr=>.int (.ofNat (f r))
theorem lp(f:Go->Nat)(X:List Go):ig f X=Cb (X.map f):=by refine U (Od _) (U Qd ?_);rfl
theorem ui{n:Nat}{S lo V:List Nat}{X:List Go}{q:DR}(C:LK n S lo V (Px (Rk n X q))):Jf (Io (Rk n X q)).fs=Z/\Jf (Wh (Rk n X q)).fs=Z:=by
 have w:Ob q.1=Z:=(Gc Ob C.wP).trans (mf _);have l:Ob q.2.1=Z:=(Gc Ob C.wO).trans (mf _);have h:Ob q.2.2.1=Z:=(Gc Ob C.wN).trans (mf _);have t:Ob (Cb (Ka n))=Z:=mf _;have a:∀f:Go->Nat,Ob (ig f X)=Z:=λf=>lp f X▸mf _;have e:((Ob (Cb (Ka n))&&(Z&&(Ob (Cb (Ka n))&&((Ob (ig (λx=>x.1) X)&&(Ob (ig (λx=>x.2.1) X)&&(Ob (ig (λx=>x.2.2) X)&&Z)))&&(Ob q.1&&(Ob q.2.1&&(Ob q.2.2.1&&(Z&&Z)))))))):Bool)=Z:=by
  refine U w (U l (U h (U t (U (a _) (U (a _) (U (a _) ?_))))));rfl
 exact⟨e,e⟩
section
variable {n:Nat} {S lo V:List Nat} {X:List Go} {q:DR}
theorem XJ{R:Type}(T:Jj S lo V X){a:ub}(k:List W->Option R):fG (X.map Ie) a k=k [.t (ig (λx=>x.1) X),.t (ig (λx=>x.2.1) X),.t (ig (λx=>x.2.2) X)]:=by
 cases T with
 |r1 v b c d e=>kernel_rfl|s1 v l h=>kernel_rfl|r2 v w b c d e g=>kernel_rfl|s2 v w l h g=>kernel_rfl
theorem DU{R:Type}(c:V3 n){b:ub}(k:List W->Option R):M (CD 0 (.ofNat (n+1))) (H (du (.rng 0 (.ofNat (n+1))) b) λa=>M (Jd 4096 a) (k a) Y) Y=k (Cb (Ka (n+1))):=
 V3.all (P:=λn=>M (CD 0 (.ofNat (n+1))) (H (du (.rng 0 (.ofNat (n+1))) b) λa=>M (Jd 4096 a) (k a) Y) Y=k (Cb (Ka (n+1)))) (by and_intros<;>kernel_rfl) c
theorem KU(T:Jj S lo V X)(e:V3 n)(C:LK (n+1) S lo V (Px (Rk (n+1) X q)))(a:ub){R:Type}(k:Bool->Option R):zC (Rk (n+1) X q) (X.map Ie) (.ofNat (n+1)) a k=k ua:=by
 have f:oe [Io (Rk (n+1) X q)]=Z:=Aa.mpr ⟨(ui C).1,rfl⟩;have g:Hd (.t ([.str "cardinality",.t (Cb (Ka (n+1)))]++[.t (ig (λx=>x.1) X),.t (ig (λx=>x.2.1) X),.t (ig (λx=>x.2.2) X)]))=Z:=by
  show(Ob (Cb (Ka (n+1)))&&(Ob (ig (λx=>x.1) X)&&(Ob (ig (λx=>x.2.1) X)&&(Ob (ig (λx=>x.2.2) X)&&Z))))=Z
  refine U (lp _ _) (U (lp _ _) (U (lp _ _) (U (mf _) (U (mf _) (U (mf _) (U (mf _) ?_))))));rfl
 have h:rk (.t ([.str "cardinality",.t (Cb (Ka (n+1)))]++[.t (ig (λx=>x.1) X),.t (ig (λx=>x.2.1) X),.t (ig (λx=>x.2.2) X)])) (.t ([.str "cardinality",.t (Cb (Ka (n+1)))]++[.t (ig (λx=>x.1) X),.t (ig (λx=>x.2.1) X),.t (ig (λx=>x.2.2) X)]))=J Z:=by
  exact U (lp _ _) (U (lp _ _) (U (lp _ _) (YS (Ka (n+1)) _ _ _)))
 have st:zC (Rk (n+1) X q) (X.map Ie) (.ofNat (n+1)) a k=M (oe [Io (Rk (n+1) X q)]) (M (Hd (.t ([.str "cardinality",.t (Cb (Ka (n+1)))]++[.t (ig (λx=>x.1) X),.t (ig (λx=>x.2.1) X),.t (ig (λx=>x.2.2) X)]))) (M (CD 0 (.ofNat (n+1))) (H (du (.rng 0 (.ofNat (n+1))) a) λc=>M (Jd 4096 c) (fG (X.map Ie) a λd=>M (Jd 4096 d) (M (Jd 4096 ([.str "cardinality",.t c]++d)) (H (rk (.t ([.str "cardinality",.t (Cb (Ka (n+1)))]++[.t (ig (λx=>x.1) X),.t (ig (λx=>x.2.1) X),.t (ig (λx=>x.2.2) X)])) (.t ([.str "cardinality",.t c]++d))) λb=>k (!b)) Y) Y) Y) Y) Y) Y:=by kernel_rfl
 exact U st ((Db f).trans ((Db g).trans ((DU e _).trans ((XJ T _).trans ((Db rfl).trans ((Db rfl).trans (Lb h)))))))
theorem Xx(u:Nat)(t:List Nat):(t.map jb).count (jb u)=t.count u:=match t with
 |[]=>rfl|a::t=>by
  refine U Vb (U Vw (U Vw (U (Xx u t) ?_)));by_cases z:a=u
  ·exact U (Dd (beq_iff_eq.mpr (Gc jb z))) (U (Dd (beq_iff_eq.mpr z)) rfl)
  ·exact U (fe λh=>z (Iu (beq_iff_eq.mp h))) (U (fe λh=>z (beq_iff_eq.mp h)) rfl)
theorem hM{t:List Nat}{u:Nat}{a:ub}:G4 (.l (Cb t)) "count" [.int (.ofNat u)] a=J (.int (.ofNat (t.count u))):=by
 have e:Dl (Cb t)=J (t.map jb):=by
  exact U (Od _) ((Gc Dl (Qd (f:=jb) (g:=W.int) (l:=t)).symm).trans (vy _))
 show(((Dl (Cb t)).map λis=>W.int (is.count (jb u))).map λw=>(w,a)).map oj=_
 refine U e ?_;show J (W.int ((t.map jb).count (jb u)))=_
 refine U (Xx _ _) ?_;rfl
theorem pD(X:List Go):((ig (λx=>x.1) X).zip ((ig (λx=>x.2.1) X).zip (ig (λx=>x.2.2) X))).map (λp=>W.t [p.1,p.2.1,p.2.2])=X.map Ie:=match X with|[]=>rfl|r::X=>Gc (λx=>Ie r::x) (pD X)
theorem jV{t:List Nat}(b:t.length<=3){r:Go}{a:ub}{m:lW}{h:Unit×Unit}{R:Type}(k:Fw lW (Unit×Unit)->Option R):qt (Tw t) a (Ie r) m h k=M (Xv t r) (k (.go (J (.int (.ofNat r.1)),J (.int (.ofNat r.2.1)),J (.int (.ofNat r.2.2)),()) h)) (k (.ret (.bool ua) h)):=by
 have s:Jd 4096 (Cb t)=Z:=Kc (by refine U (wc _) ?_;omega);refine(pI _).trans ((Lb rfl).trans ((Db s).trans ((Db rfl).trans ((Lb hM).trans ((Lb rfl).trans ((Lb rfl).trans ?_))))));show M (!ac (t.count r.1) r.2.1) (M (!(!ac r.2.2 (t.count r.1))) _ _) _=_
 unfold Xv
 induction ac (t.count r.1) r.2.1<;>induction ac r.2.2 (t.count r.1)<;>rfl
theorem YC{t:List Nat}(a:t.length<=3){σ:ub}{h:Unit×Unit}{R:Type}(k:W->Option R)(X:List Go)(m:lW):lg (qt (Tw t) σ) (X.map Ie) m h (λq=>Fw.rec (λu u=>k (.bool Z)) (λw u=>k w) q)=k (.bool (X.all (Xv t))):=match X,m with
 |[],m=>rfl|r::X,m=>by
  have b:=λm=>YC a (σ:=σ) (h:=h) k X m;have st:lg (qt (R:=R) (Tw t) σ) ((r::X).map Ie) m h (λq=>Fw.rec (λu u=>k (.bool Z)) (λw u=>k w) q)=qt (Tw t) σ (Ie r) m h λq=>Fw.rec (λm h=>lg (qt (Tw t) σ) (X.map Ie) m h λq=>Fw.rec (λu u=>k (.bool Z)) (λw u=>k w) q) (λw h=>k w) q:=rfl;refine U st (U (jV a _) (U wA ?_))
  induction Xv t r with
  |true=>exact b _|false=>rfl
theorem RL{t:List Nat}(a:t.length<=3)(e:X.length<=9){R:Type}(k:W->Option R):lz (Px (Rk n X q),()) (Tw t) k=k (.bool (X.all (Xv t))):=by
 have l:∀f:Go->Nat,(ig f X).length=X.length:=λf=>ya _;have z:sA [ig (λx=>x.1) X,ig (λx=>x.2.1) X,ig (λx=>x.2.2) X]=J (X.map Ie):=by
  show(Ge (decide ((ig (λx=>x.1) X).length=(ig (λx=>x.2.1) X).length/\(ig (λx=>x.2.1) X).length=(ig (λx=>x.2.2) X).length))).map _=_
  exact U (l _) (U (l _) (U (l _) (U (decide_eq_true ⟨rfl,rfl⟩) (Gc J (pD X)))))
 have b:Bl (X.map Ie)=J (X.map Ie):=by
  show(Ge (ac (X.map Ie).length 4900)).map _=_
  refine U (ya _) (U (ud.mpr (by omega)) ?_);rfl
 have st:lz (R:=R) (Px (Rk n X q),()) (Tw t) k=H (sA [ig (λx=>x.1) X,ig (λx=>x.2.1) X,ig (λx=>x.2.2) X]) λc=>H (Bl c) λd=>lg (qt (Tw t) (tW.wR (Px (Rk n X q),()) ((),()))) d (Y,Y,Y,()) ((),()) λq=>Fw.rec (λu u=>k (.bool Z)) (λw u=>k w) q:=by kernel_rfl
 exact U st ((Lb z).trans ((Lb b).trans (YC a k X _)))
end
section
variable {R:Type} {t m x u m0:Nat} {c:OF}
variable {n:Nat} {Q lo L X:List Nat} {O V:List Go} {q:DR}
theorem gU(k:Option R):JE (Rk n O q) k=k:=rfl
theorem Jj.len(T:Jj Q lo L O):O.length<=9:=by
 cases T with
 |r1=>exact gb rfl|s1=>exact gb rfl|r2=>exact gb rfl|s2=>exact gb rfl
theorem GH(d:Jj Q lo L V)(T:Jj Q lo L O)(a:Q∈ye)(e:∀m∈X,Mk m){t:List Nat}(f:t∈Qy X):V.all (Xv t)=O.all (Xv t):=by
 have v:=(Xn.mp f).v3 λm h=>(e m h).mem;exact Gh.mpr ((dr d a v).trans (dr T a v).symm)
theorem uL(a:Jj Q lo L V)(T:Jj Q lo L O)(d:Q∈ye)(e:∀m∈X,Mk m):yn X V=yn X O:=eL λt f=>GH a T d e f
theorem rP(g:Jj Q lo L V)(T:Jj Q lo L O)(i:Q∈ye)(C:LK n Q lo L (Px (Rk n O q)))(a:∀m∈X,Mk m)(d:X.length<=3)(k:Bool->Option R):Xz m (Rk n O q) (X.map λm=>.l (Lw m)) ((yn X V).map Tw) k=k ua:=by
 have j:=BF a d;refine(Db ?_).trans ((Lb (sI a d)).trans ((Xr (by refine U (ya _) ?_;lia) _).trans ((Bg (f:=λu=>[]) (λt e p=>?_) _).trans ?_)))
 ·rfl
 ·have l:t.length<=3:=by refine U ((Xn.mp e).len) ?_;exact d
  have o:O.all (Xv t)=decide (t∈yn X V):=by
   refine Gh.mpr (qdk ?_ decide_eq_true_iff.symm);exact Ed (GH g T i a e) (⟨λh=>Vc.mpr ⟨e,h⟩,λh=>(Vc.mp h).2⟩)
  refine(Db rfl).trans ((Lb (qq Mu)).trans ((Db (Aa.mpr ⟨(ui C).1,rfl⟩:oe [Io (Rk n O q)]=Z)).trans ((gU _).trans ((RL l T.len _).trans ((Db rfl).trans ((Lb (WY t _)).trans (U o ?_)))))))
  induction decide (t∈yn X V)<;>rfl
 ·exact U (show((Qy X).flatMap λu=>([]:List W))=[]from List.flatMap_eq_nil_iff.mpr λu u=>rfl) ((Db rfl).trans (Lb (rz (xs:=[]) rfl)))
theorem Sy(a:List (List Nat)):Ob (a.map Tw)=Z:=match a with|[]=>rfl|t::a=>Aa.mpr ⟨Mu (t:=t),Sy a⟩
variable {N:List Nat} {b:Nat} {s:Ff}
theorem tC(p:Jj Q lo L V)(T:Jj Q lo L O)(h:Q∈ye)(B:zR Q lo L)(C:LK n Q lo L (Px (Rk n O q)))(S:Sub N X)(i:∀m∈N,Mk m)(I:SI X b s)(l:X.length=n)(r:X≠[])(v:X.length<=3)(w:b+40<=4000)(y:Jf c.fs=Z){dec:Option R->Option R}(D:∀z,dec z=z)(k:Bool->Ff->Option R):
 ∃d,(SB d\/∃f,SI f (b+36) d/\Sub N f/\f.length=n)/\On 5000 m s c (Px (Rk n O q)) dec ((yn N V).map Tw) k=k ua d:=by
 refine U (uL p T h i) (aa λz=>?_);obtain⟨d,j,A,e⟩:=hY T h C B S i I l r v w;refine z (⟨d,A.imp_right (by rintro⟨f,a,g⟩;exact⟨f,a,⟨g.len.trans S.len,λk o u E=>S.mem k o u (g.mem k (S.len▸o) u E)⟩,g.len.trans l⟩),?_⟩);refine(Lb (rM (Sy _))).trans ((Db (Cm I.plain y)).trans ((Lb rfl).trans ((D _).trans ((e R _).trans ((Db rfl).trans ((Db (Cm (A.elim SB.pl λ⟨_,a,_⟩=>a.plain:Jf (Xg d).fs=Z) (ui C).2)).trans (Lb rfl)))))))
theorem jI:∀t∈[0,1,2,3],∀m∈Rm,∀u∈il,Yh t m u∈(0::Rm)/\∀w∈il,Ye w (Mb (Yh t m u))=Z->Ye w (Mb m)=Z:=by decide+kernel
theorem S4.mem:S4 t->t∈[0,1,2,3]:=S4.all (P:=λt=>t∈[0,1,2,3]) (by decide)
theorem mU(I:SI X b s)(a:X[x]?=J m)(d:S4 t)(e:V3 u)(f:Jf c.fs=Z)(k:Bool->Option R):WB m0 [.int (.ofNat x),Ft t,.int (.ofNat u)] s c k=k (Rp (Pn m (Yh t m u)) 0):=by
 have g:Hd (.t [.int (.ofNat x),Ft t,.int (.ofNat u)])=Z:=S4.all (P:=λt=>Hd (.t [.int (.ofNat x),Ft t,.int (.ofNat u)])=Z) ⟨rfl,rfl,rfl,rfl⟩ d;refine(Db (by refine U I.bad ?_;rfl)).trans ((Lb (qq g)).trans ((Db (Cm I.plain f)).trans ((Lb rfl).trans ?_)));refine(Lb (rfl:Kg [W.int (.ofNat x),Ft t,.int (.ofNat u)] 0=J (.int (.ofNat x)))).trans ((qp I a _).trans ((Db (rfl:BA [.t [.int (.ofNat x),Ft t,.int (.ofNat u)],Dn m]=Z)).trans ((Lb (DV d (I.all m (Ma a)) e)).trans ((Db rfl).trans ((Db rfl).trans (Lb rfl))))))
theorem xY(d:S4 t)(a:Mk m)(e:V3 u)(h:Rp (Pn m (Yh t m u)) 0=Z):Mk (Yh t m u):=by
 rcases fb.mp (jI t d.mem m a.mem u e.mem).1 with z|z
 ·rw[z]at h
  exact zc h (Mk.all (P:=λm=>¬Rp (Pn m 0) 0=Z) (by and_intros<;>exactλh=>(zc h ia)) a)
 ·exact Mk.mem' z
theorem yY(I:SI X b s)(h:b+1<4000)(i:X[x]?=J m)(e:S4 t)(j:V3 u)(l:Mk (Yh t m u))(a:Jf c.fs=Z):
 ∃f,SI (X.set x (Yh t m u)) (b+2) f/\∀(R:Type) k,lM (R:=R) m0 [.int (.ofNat x),Ft t,.int (.ofNat u)] s c k=k f:=by
 have o:Hd (.t [.int (.ofNat x),Ft t,.int (.ofNat u)])=Z:=S4.all (P:=λt=>Hd (.t [.int (.ofNat x),Ft t,.int (.ofNat u)])=Z) ⟨rfl,rfl,rfl,rfl⟩ e;refine aa λp=>?_;obtain⟨y,d,r⟩:=vU I (by exact vd (by assumption));obtain⟨v,g,w⟩:=dJ d h i e j l λs=>[Xg s,c];exact p (⟨v,g,λR k=>(Db (Cm I.plain a)).trans ((r R _).trans ((Db (Cm d.plain a)).trans ((Lb (qq o)).trans ((Db (Cm d.plain a)).trans ((Lb rfl).trans ((w R _).trans (Db (Cm g.plain a))))))))⟩)
theorem QS(S:Sub N X)(f:X[x]?=J m)(i:S4 t)(j:∀m∈X,Mk m)(l:V3 u):Sub N (X.set x (Yh t m u)):=⟨yb.trans S.len,λk g w a=>by
 have d:x<X.length:=(wb.mp f).1;by_cases z:x=k
 ·subst z
  have e:(X.set x (Yh t m u))[x]! =Yh t m u:=by refine U Cc (U (je d) ?_);rfl
  rw[e]at a;have h:=jI t i.mem m (j m (Ma f)).mem u l.mem;have:=nf.mp (h.2 w (Vj _ h.1 w a) (nf.mpr a));refine S.mem x g w ?_;cases (vc d).symm.trans f;exact this
 ·have e:(X.set x (Yh t m u))[k]! =X[k]! :=by exact U Cc (U (Xc z) (Ed Cc rfl))
  rw[e]at a;exact S.mem k g w a⟩
end
section
variable {n:Nat} {Q lo P V:List Nat} {X S:List Go}
def GB(x t u:Nat):List W:=[.int (.ofNat x),Ft t,.int (.ofNat u)]
theorem wC(v:Jj Q lo P S)(T:Jj Q lo P X)(j:Q∈ye)(B:zR Q lo P)(g:∀m∈V,Mk m)(k:V.length=n+1)(F:V3 n){x t u:Nat}(hx:x<n+1)(l:S4 t)(o:V3 u){R:Type}(m:Nat)(i:ub){w:Option R}{G I L p K J1 A N D:Ff->zK->Option R}
 (e0:w=xt i m (V.map λm=>.l (Lw m)) (X.map Ie) G)
 (e1:∀s c,G s c=zC c (X.map Ie) (.ofNat (n+1)) (i++[Xg s,Io c]) λr=>M r (J1 s c) (I s c))
 (e2:∀s c,I s c=Xz m c (V.map λm=>.l (Lw m)) ((yn V S).map Tw) λr=>M r (A s c) (L s c))
 (e3:∀s c,L s c=On 5000 m s (Io c) (Px c) (JE c) ((yn V S).map Tw) λr s=>M r (N s c) (p s c))
 (e4:∀s c,p s c=WB m (GB x t u) s (Wh c) λr=>M r (lM m (GB x t u) s (Wh c) λs=>On 5000 m s (Wh c) (Px c) (λz=>z) ((yn V S).map Tw) λr s=>M r (D s c) (K s c)) (K s c)):∃s c,w=K s c:=by
 refine aa λe=>?_;obtain⟨q,C,f0⟩:=TT g k T j F;have O:=C.n3;have W:V.length<=3:=k▸O;have ne:{b:List Nat}->b.length=n+1->b≠[]:=λh z=>by rw[z]at h;cases h
 obtain⟨f,W1,g1⟩:=tC v T j B C (⟨rfl,λy y y h=>h⟩:Sub V V) g (rF g) k (ne k) W (by decide) (m:=m) (ui C).1 (dec:=JE (Rk (n+1) X q)) (λy=>rfl) λr s=>M r (N s (Rk (n+1) X q)) (p s (Rk (n+1) X q));refine e (U (e0.trans ((f0 R _ _ _).trans ((e1 _ _).trans ((KU T F C _ _).trans ((ji rfl).trans ((e2 _ _).trans ((rP v T j C g W _).trans ((ji rfl).trans ((e3 _ _).trans (g1.trans (ji rfl)))))))))):w=p f (Rk (n+1) X q)) (U (e4 _ _) (aa λe=>?_)));rcases W1 with sb|⟨b,a,S1,l1⟩
 ·refine e ?_
  exact⟨f,_,(ji (by refine U sb.bad ?_;rfl):WB m (GB x t u) f (Wh (Rk (n+1) X q)) _=_).trans (ji rfl)⟩
 ·refine e ?_
  have d:=vc (l1▸hx:x<b.length);refine((by rintro⟨s,h⟩;exact⟨s,_,(mU a d l o (ui C).2 _).trans h⟩:(∃s,M (Rp (Pn b[x]! (Yh t b[x]! u)) 0) (lM m (GB x t u) f (Wh (Rk (n+1) X q)) λs=>On 5000 m s (Wh (Rk (n+1) X q)) (Px (Rk (n+1) X q)) (λz=>z) ((yn V S).map Tw) λr s=>M r (D s (Rk (n+1) X q)) (K s (Rk (n+1) X q))) (K f (Rk (n+1) X q))=K s (Rk (n+1) X q))->_)) ?_
  induction he:Rp (Pn b[x]! (Yh t b[x]! u)) 0 with
  |false=>exact⟨f,rfl⟩|true=>
   refine aa λe=>?_;obtain⟨s2,A,g2⟩:=yY a (by decide) d l o (xY l (a.all _ (Ma d)) o he) (m0:=m) (ui C).2;have E:(b.set x (Yh t b[x]! u)).length=n+1:=yb.trans l1;obtain⟨s3,_,g3⟩:=tC v T j B C (QS S1 d l a.all o) g A E (ne E) (E▸O) (by decide) (m:=m) (ui C).2 (dec:=λz=>z) (λy=>rfl) λr s=>M r (D s (Rk (n+1) X q)) (K s (Rk (n+1) X q));exact e (⟨s3,(Db rfl).trans ((g2 R _).trans (g3.trans (ji rfl)))⟩)
end
section
variable {R:Type} {n v:Nat} {S lo Q T:List Nat} {X V:List Go} {q:W} {xs:List Int}
theorem bV{t:Nat}:S4 t->Kg aQ (.ofNat t)=J (Ft t):=S4.all (P:=λt=>Kg aQ (.ofNat t)=J (Ft t)) ⟨rfl,rfl,rfl,rfl⟩
theorem oZ(xs:List Int)(n j:Nat):∃x t u,x<n+1/\S4 t/\V3 u/\∀(R:Type) k,a8 (R:=R) (.ofNat (n+1)) (xs.map W.int) (.ofNat j) k=k (GB x t u) (.ofNat (j+3)):=by
 obtain⟨x,b,c⟩:=th xs j (w:=n+1) (kh n);obtain⟨t,a,d⟩:=th xs (j+1) (w:=4) (by decide);obtain⟨u,e,f⟩:=th xs (j+2) (w:=3) (by decide);exact⟨x,t,u,b,S4.of a,V3.of e,λR k=>(c R _).trans ((d R _).trans ((Lb (bV (S4.of a))).trans ((Db (S4.all (P:=λt=>nb (Ft t)=Z) ⟨rfl,rfl,rfl,rfl⟩ (S4.of a))).trans (f R _))))⟩
theorem qbA{K:fc->ub->Option R}{F:W->ub->Option R}{m:fc}{σ:ub}{w:W}(h:ac 13 m.length=Z):Fk.rec (motive:=λu=>Option R) (λa σ=>lk (.x 13) w a λa=>K a σ) F (.go m σ)=K (m.set 13 (J w)) σ:=by
 show M (ac 13 m.length) _ Y=_
 refine U h ?_;rfl
theorem kI(e:Jj S lo Q X)(y:Jj S lo Q V)(i:S∈ye)(B:zR S lo Q)(f:∀m∈T,Mk m)(g:T.length=n+1)(h:V3 n)(d:Int)(a:Option W)(j:Nat)(k:Fk->Option R):∃σ,Tg (Ze 5000) (rest 9) (I4 q (.int (.ofNat (n+1))) (Cb T) (T.map λm=>.l (Lw m)) (.ofNat v) d (X.map Ie) (V.map Ie) a) [wp (xs.map W.int) (.ofNat j)] k=k (.ret (.bool Z) σ):=by
 have z:n+1<=3:=V3.all (P:=λn=>n+1<=3) (by decide) h;obtain⟨x,t,u,l,o,p,A⟩:=oZ xs n j;have C:=(qcS 5000 q (xs.map W.int) (.ofNat j) k (.ofNat (n+1)) (.ofNat v) d (Cb T) (T.map λm=>.l (Lw m)) (X.map Ie) (V.map Ie) a).trans ((dY f (g▸z) e.len _).trans (A R _));refine U C (U (qcT _ _ _ _ _ _ _ _ _ _ _ _ _ _ _) ?_)
 let b:=wp (xs.map W.int) (.ofNat (j+3))
 obtain⟨s,c,D⟩:=wC e e i B f g h l o p (R:=R) 1 [b] (qfd 5000 q b _ (.ofNat (n+1)) (Cb T) _ (X.map Ie) (V.map Ie) _ _ (GB x t u) (.int (.ofNat v)) (.int d) _ a Y Y) (λs c=>qff 5000 q b _ _ _ _ _ _ _ _ _ _ _ _ _ s c) (λs c=>qfh 5000 q b _ _ _ _ _ _ _ _ _ _ _ _ _ s c) (λs c=>qfj 5000 q b _ _ _ _ _ _ _ _ _ _ _ _ _ s c) λs c=>qfl 5000 q b _ _ _ _ _ _ _ _ _ _ _ _ _ s c;refine U D ?_;obtain⟨I,c2,E⟩:=wC e y i B f g h l o p (R:=R) 3 [b,Xg s,Wh c] (qfe 5000 q b (Xg s) (Wh c) _ (.ofNat (n+1)) (Cb T) _ (X.map Ie) (V.map Ie) _ _ (GB x t u) (.int (.ofNat v)) (.int d) _ a (J (.ref 1)) (J (.ref 2))) (λs c=>qfg 5000 q b _ _ _ _ _ _ _ _ _ _ _ _ _ _ _ s c) (λs c=>qfi 5000 q b _ _ _ _ _ _ _ _ _ _ _ _ _ _ _ s c) (λs c=>qfk 5000 q b _ _ _ _ _ _ _ _ _ _ _ _ _ _ _ s c) λs c=>qfm 5000 q b _ _ _ _ _ _ _ _ _ _ _ _ _ _ _ s c;exact⟨_,(qbA (K:=λG σ=>Tg (Ze 5000) (bt 0) G σ λr=>Fk.rec (λu σ=>k (.ret (.bool Z) σ)) (λw σ=>k (.ret w σ)) r) (F:=λw σ=>k (.ret w σ)) (m:=m1 q (.ofNat (n+1)) (Cb T) (T.map λm=>.l (Lw m)) (X.map Ie) (V.map Ie) (X.map Ie) ((yn T X).map Tw) (GB x t u) (.int (.ofNat v)) (.int d) (J (.int (0+1))) a) (σ:=[b,Xg s,Wh c]) (w:=.l (V.map Ie)) rfl).trans E⟩
end
section
variable {R:Type}
theorem H0{v:Nat}:V3 v->[v]∈ye:=V3.all (P:=λv=>[v]∈ye) (by decide)
theorem Y1{v:Nat}:V3 v->[v,Wv v]∈ye:=V3.all (P:=λv=>[v,Wv v]∈ye) (by decide)
theorem QZ{v:Nat}:V3 v->Lz (.ofNat v+1) 3=J (.ofNat (Wv v)):=V3.all (P:=λv=>Lz (.ofNat v+1) 3=J (.ofNat (Wv v))) ⟨rfl,rfl,rfl⟩
theorem LO(z:Nat):(1:Int)+ .ofNat z=.ofNat (z+1):=Int.add_comm _ _
theorem kZ(q:W)(xs:List Int)(k:Fk->Option R):∃i,Tg (Ze 5000) (rest 1) (AZ q) [wp (xs.map W.int) 0] k=k (.ret (.bool Z) i):=by
 refine aa λp=>?_;obtain⟨n,j,z⟩:=th xs 0 (w:=3) (by decide);have j:=V3.of j;have A:n+1<=3:=V3.all (P:=λn=>n+1<=3) (by decide) j;obtain⟨e,r,o,s⟩:=ZN xs (Cb (Ka (n+1))) 1;rw[wc,Ab]at o s;obtain⟨v,l,B⟩:=th xs (n+2) (w:=3) (by decide);have l:=V3.of l;obtain⟨b,C,D⟩:=th xs (n+3) (w:=3) (by decide);obtain⟨c,E,F⟩:=th xs (n+4) (w:=3) (by decide);obtain⟨a,G,I⟩:=th xs (n+5) (w:=3) (by decide);obtain⟨d,K,L⟩:=th xs (n+6) (w:=3) (by decide);obtain⟨f,V,N⟩:=th xs (n+7) (w:=2) (by decide);obtain⟨g,X,O⟩:=th xs (n+8) (w:=3) (by decide);refine p ?_;have Q:Tg (Ze 5000) (rest 1) (AZ q) [wp (xs.map W.int) 0] k=Tg (Ze 5000) (rest 3) (b8 q (.int (.ofNat (n+1))) (Cb e)) [wp (xs.map W.int) (.ofNat (n+2))] k:=by
  refine(qcQ 5000 q (xs.map W.int) 0 k).trans ((z R _).trans (U (LO _) ((qcR 5000 q (xs.map W.int) (.ofNat 1) k (.ofNat (n+1))).trans ((xg (by lia) _).trans (((λk=>by exact U (s _ _) (U (pi 1 _) rfl):∀k,nk (ZG (R:=R) (xs.map W.int)) (Cb (Ka (n+1))) (.ofNat 1) k=k (Cb e) (.ofNat (n+2))) _).trans (Db (Kc (by refine U (wc _) ?_;lia))))))))
 have S:Tg (Ze 5000) (rest 3) (b8 q (.int (.ofNat (n+1))) (Cb e)) [wp (xs.map W.int) (.ofNat (n+2))] k=Tg (Ze 5000) (rest 7) (BZ q (.int (.ofNat (n+1))) (Cb e) (e.map λm=>.l (Lw m)) (J (.int (.ofNat v))) (J (.o (.l [Ie (v,b,b+c),Ie (v,a,a+d)]))) (J (.int (0+1))) (J (.int (.ofNat a))) Y Y) [wp (xs.map W.int) (.ofNat (n+7))] k:=
  (o9 5000 q _ _ k _ _).trans ((QN r (o▸A) _).trans ((p9 5000 q _ _ k _ _ _).trans ((B R _).trans ((q9 5000 q _ _ k _ _ _ _).trans ((D R _).trans ((F R _).trans ((I R _).trans (L R _))))))))
 have t:=r9 5000 q (xs.map W.int) (.ofNat (n+7)) k (.int (.ofNat (n+1))) (Cb e) (e.map λm=>.l (Lw m)) (.ofNat v) (.ofNat b) (.ofNat (b+c)) (.ofNat a) (.ofNat (a+d));rw[yZ,DZ]at t;have u:=(Q.trans (S.trans t)).trans ((s9 5000 q (xs.map W.int) (.ofNat (n+7)) k (.int (.ofNat (n+1))) (Cb e) (e.map λm=>.l (Lw m)) [Ie (v,b,b+c),Ie (v,a,a+d)] [Ie (v,max b a,min (b+c) (a+d))] (.ofNat v) (.ofNat a)).trans (N R _));have x:max b a<=2:=by lia
 have y:min (b+c) (a+d)<=max b a+2:=by lia
 induction m:Rp (.ofNat f) 1 with
 |true=>
  have T:=u.trans ((Db m).trans ((Lb (QZ l)).trans ((O R _).trans ((Lb (rfl:nN 1 (row (.ofNat (Wv v)) 0 (.ofNat g)) [Ie (v,b,b+c),Ie (v,a,a+d)]=J ([(v,b,b+c),(Wv v,0,g),(v,a,a+d)].map Ie))).trans (Db rfl)))));obtain⟨i,h⟩:=kI (R:=R) (q:=q) (v:=v) (xs:=xs) (.r2 v (Wv v) b (b+c) a (a+d) g) (.s2 v (Wv v) (max b a) (min (b+c) (a+d)) g) (Y1 l) (.two v (Wv v) (max b a) (min (b+c) (a+d)) g x y (by exact Qf (by assumption))) r o j (.ofNat a) (J (row (.ofNat (Wv v)) 0 (.ofNat g))) (n+9) k;exact⟨i,T.trans h⟩
 |false=>
  refine aa λp=>?_;obtain⟨i,h⟩:=kI (R:=R) (q:=q) (v:=v) (xs:=xs) (.r1 v b (b+c) a (a+d)) (.s1 v (max b a) (min (b+c) (a+d))) (H0 l) (.one v (max b a) (min (b+c) (a+d)) x y) r o j (.ofNat a) Y (n+8) k;exact p (⟨i,(u.trans (ji m)).trans h⟩)
end
section
variable {l:Nat} {V:List Int} {X:Nat->Option (List Int)} {cf:Yp} {T:Nat->fc->ub->al}
noncomputable abbrev WT(l:Nat):fc:=[J (.k (.ref l)),Y,Y,Y,Y,Y,Y,Y,Y,Y,Y,Y,Y,Y,Y,Y]
theorem NM(e:X l=J V):fS db X cf T (.q (.x 1) (.dict [(.str "cells"),(.str "at")] [(.cut (.x 0) 16),(.int 0)])) (WT l) []=J (.next,AZ (.k (.ref l)),[wp ((V.take 16).map W.int) 0]):=by
 have c:fX db X cf (.cut (.x 0) 16) (WT l) []=J (.l ((V.take 16).map W.int),[]):=by
  show(X l).bind _=_
  refine U e ?_;show(Ge (ac ((V.map W.int).take 16).length 4096)).map _=_
  refine U (show ac ((V.map W.int).take 16).length 4096=Z from ud.mpr (by rw[mu];lia)) (U List.map_take ?_);rfl
 have d:xG db X cf [.cut (.x 0) 16,.int 0] (WT l) []=J ([.l ((V.take 16).map W.int),.int 0],[]):=by
  show(fX db X cf (.cut (.x 0) 16) (WT l) []).bind _=_
  refine U c ?_;rfl
 have a:fX db X cf (.dict [(.str "cells"),(.str "at")] [(.cut (.x 0) 16),(.int 0)]) (WT l) []=J (.ref 0,[wp ((V.take 16).map W.int) 0]):=by
  show(xG db X cf [.cut (.x 0) 16,.int 0] (WT l) []).bind (λq=>pM [.str "cells",.str "at"] q.1 q.2)=_
  refine U d ?_
  kernel_rfl
 show((fX db X cf (.dict [(.str "cells"),(.str "at")] [(.cut (.x 0) 16),(.int 0)]) (WT l) []).bind λp=>(kf p.1).map λw=>(w,p.2)).bind (λp=>(fP db X cf (.x 1) p.1 (WT l) p.2).map RY)=_
 refine U a ?_
 kernel_rfl
theorem Q0(e:X l=J V)(C:zh (Ze 5000) cf (Ee db Ib X cf 4)):∃a,Vo db Ib X cf mJ [.k (.ref l)] []=J (.bool Z,a):=by
 refine aa λb=>?_;obtain⟨a,h⟩:=kZ (R:=W×ub) (.k (.ref l)) (V.take 16) λr=>J (WS r);refine b ?_
 induction Jn C (rest 1) (AZ (.k (.ref l))) [wp ((V.take 16).map W.int) 0] (λr=>J (WS r)) _ h with|mk p f d g c=>
  refine aa λb=>?_;obtain⟨i,j,k⟩:=p;cases g;refine b (⟨a,?_⟩);have t:(Iw (iJ db X cf (Ee db Ib X cf 4) (rest 1))) (.next,AZ (.k (.ref l)),[wp ((V.take 16).map W.int) 0])=iJ db X cf (Ee db Ib X cf 4) (rest 1) (AZ (.k (.ref l))) [wp ((V.take 16).map W.int) 0]:=rfl;refine U (by kernel_rfl:Vo db Ib X cf mJ [.k (.ref l)] []=((fS db X cf (Ee db Ib X cf 4) (.q (.x 1) (.dict [(.str "cells"),(.str "at")] [(.cut (.x 0) 16),(.int 0)])) (WT l) []).bind (Iw (iJ db X cf (Ee db Ib X cf 4) (rest 1)))).map d7) (U (NM e) (U (Option.bind_some _ _) (U t (U d ?_))))
  induction i with
  |next=>cases c|ret w=>cases c;rfl
theorem FT(l:Nat)(V:List Int):∃a,Nb db Ib pc 12 (Sm l V) 481 [.k (.ref l)] []=J (.bool Z,a):=by
 obtain⟨a,h⟩:=Q0 (cf:=Nb db Ib pc 11 (Sm l V)) (Dd rfl) (Z8 (n:=1) (sc:=Sm l V) (cb:=Ee db Ib (Sm l V) (Nb db Ib pc 11 (Sm l V)) 4));exact⟨a,((λn=>rfl:∀n,Nb db Ib pc (n+1) (Sm l V) 481 [.k (.ref l)] []=(pc 481).bind λb=>yt b.mode (Vo db Ib (Sm l V) (Nb db Ib pc n (Sm l V)) b) (Vo db Ib (λu=>Y) (Nb db Ib pc n λu=>Y) b) [.k (.ref l)] []) 11).trans ((Gc (λo:Option Rg=>o.bind _) (rfl:pc 481=J mJ)).trans h)⟩
theorem cO:Zy:=λl V u=>(FT l V).elim λu h=>d5 h
theorem done:Nh.Holds:=DN (QQ cO)
end
end
end Mine.Internal
theorem PySem.Challenge.cw_nz0028_01_holds : PySem.Challenge.rw_nz0028_01.Holds :=
  Mine.Internal.done
