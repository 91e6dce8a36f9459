import PyProof.Rows.All
import Wide.All
import OpenK.AllK
import Wide.FinOn
import PySem.Challenge.RW_nz0028_01
set_option Elab.async false
set_option maxRecDepth 100000
set_option linter.all false
set_option genSizeOf false
set_option genInjectivity false
set_option backward.match.sparseCases false
set_option tactic.hygienic false
set_option genCtorIdx false
set_option bootstrap.genMatcherCode false
open And renaming intro->vR,left->JX,elim->qeC
open Array renaming size_push->cn,getElem?_toList->ln,length_toList->EF,mk->xR,toList->LX
open Bool renaming true->Z,false_ne_true->ia,false->ta,and_eq_true_iff->Aa,and_eq_true->Dd,noConfusion->Ed,not_eq_true'->Te,eq_iff_iff->Fh,false_eq_true->ak,eq_false_iff->Vs,not_eq_true->gu,or_false->sA,true_and->tA,or_eq_true_iff->tI,and_false->ZV,false_or->MX
open Classical renaming byContradiction->aa
open Decidable renaming byContradiction->qeD,rec->qeE
open Eq renaming trans->dn
open Exists renaming elim->jD
open ForInStep renaming yield->wf
open Iff renaming trans->qdu
open Int renaming ofNat->jb,natCast_nonneg->xf,ofNat_lt->li,not_lt->Ui,lt_of_lt_of_le->yr,rec->Jt,negSucc_lt_zero->CK,toNat_of_nonneg->DK,add_sub_cancel->SK,toNat_natCast->dR,add_zero->F5,le_of_lt->G5,ofNat_le->H5,zero_add->I5,not_le->qbk
open Int.ofNat renaming inj->Fu
open List renaming casesOn->ma,mem_cons_of_mem->oa,mem_cons_self->sa,length_map->wa,length_append->Ha,replicate->Ia,prefix_refl->Ja,range->Ka,getElem?_append_right->Ma,mem_of_getElem?->Na,mem_singleton->Ra,getElem?_eq_getElem->Wa,getElem?_append_left->Xa,mem_cons->ab,getElem?_eq_some_iff->ub,length_set->yb,length_range->Ab,size_toArray->Hb,not_mem_nil->Jb,length_filter_le->Ob,mem_map->Qb,map_cons->Tb,append_nil->Ub,mem_append->Vb,forall_mem_cons->Zb,mem_range->ac,rec->ic,getElem?_toArray->lc,length_cons->nc,cons_ne_nil->Ac,getElem!_eq_getElem?_getD->Bc,append_assoc->Cc,getElem?_map->Dc,nodup_cons->Ec,prefix_append->Hc,lookup_cons->Mc,getElem?_eq_none->Qc,mem_filter->Uc,getElem?_set_ne->Xc,all_eq_true->qd,tail_eq_of_cons_eq->xd,mem_append_right->Od,map_map->Rd,head_eq_of_cons_eq->Yd,getElem?_set_self->je,isEmpty_iff->De,mem_append_left->Ke,getElem?_replicate->Ue,getElem?_range->af,map_congr_left->gg,length_eq_zero_iff->lg,eq_nil_of_length_eq_zero->sg,pairwise_cons->Ag,length_replicate->Og,getElem?_eq_none_iff->dh,filter_eq_nil_iff->Yh,nodup_append->Zh,length_singleton->Ei,filter_cons->Oi,length->kj,filterMap_cons->Cj,getElem_of_mem->Dj,replicate_succ->Ej,getElem?_zip_eq_some->Xk,getElem?_set->Zk,reverse_cons->al,cons_append->Jm,length_drop->Km,mem_singleton_self->Mm,find?_cons->tn,forIn_cons->un,contains_iff_mem->bo,pairwise_append->Oo,any_cons->bq,findIdx?_cons->jr,getElem?_take->kr,ext_getElem?->Zs,map_nil->ct,getElem_mem->iu,length_take->ju,mem_flatMap->ku,count_cons->Rw,forIn_nil->xx,findIdx?_eq_none_iff->Vy,all_cons->uA,drop_nil->vA,eq_of_mem_replicate->wA,cons->DA,pairwise_singleton->EA,range_succ_eq_map->lD,take_of_length_le->mD,toArray->nD,findIdx?_toArray->zD,lookup->HF,range'->IF,range_eq_range'->JF,length_reverse->vI,getElem?_drop->FK,zip_cons_cons->GK,filter_congr->gL,flatMap_cons->jL,push_toArray->kL,getElem_inj->eR,map_reverse->fR,mem_reverse->gR,length_nil->DR,map_append->ER,of_mem_zip->FR,nodup_nil->iW,take_nil->UX,map_set->w4
open List.IsPrefix renaming subset->Kh
open List.Pairwise renaming filter->L5
open List.Perm renaming append_left->qeH,cons->qeI,eq_of_pairwise->qeJ,swap->qeK
open List.cons renaming inj->EK,injEq->qeL
open Nat renaming casesOn->Sa,le_trans->Za,le_of_ble_eq_true->gb,lt_of_le_of_lt->ib,lt_of_lt_of_le->rb,le_refl->Gb,beq->Rb,ne_of_lt->Wb,succ_ne_zero->Yb,blt->bc,lt_irrefl->fc,succ->pc,le_add_right->Nc,eq_of_beq_eq_true->Tc,lt_succ_self->Vc,zero_le->Zc,blt_eq->ud,le_of_lt->vd,le_of_eq->Gd,le_succ_of_le->Ld,not_lt->Vd,lt_add_of_pos_right->Zd,lt_succ_of_lt->oe,le_succ->te,le_add_left->We,not_lt_zero->Xe,succ_le_succ->vf,le_of_lt_succ->Sf,le_of_succ_le->Tf,lt_succ_of_le->Uf,le_of_not_lt->og,lt_of_succ_lt_succ->Fg,ne_of_beq_eq_false->Gg,ble->fh,ne_of_gt->gh,sub_self->jh,succ_pos->kh,zero_add->lh,add_comm->mi,add_le_add_left->Wj,lt_or_ge->Zj,add_le_add->Gk,eq_or_lt_of_le->Hk,lt_of_le_of_ne->Ik,rec->vn,add_assoc->mr,add_sub_cancel->zr,sub_add_cancel->Ar,lt_trans->Kt,succ_ne_self->Hu,zero_lt_succ->Iu,le_antisymm->Vw,mul_comm->AD,ble_eq_true_of_le->KF,le_of_sub_eq_zero->LF,lt_of_sub_eq_succ->MF,mul_le_mul_right->xI,not_succ_le_zero->yI,pow_le_pow_right->zI,add_right_comm->mL,not_le->nL,succ_lt_succ->HR,mul_succ->N5,pow_succ->O5,sub_succ->P5,succ_add->Q5,log2_lt->qal,one_mul->qam,one_pos->qan,two_pos->qao,beq_eq->qbl,max_le->qbm,sub->qfB
open Nat.succ renaming inj->Jh
open Ne renaming symm->cq
open Option renaming some->J,none->Y,bind_eq_some_iff->Fa,isSome_iff_exists->Oa,bind_assoc->Va,map_bind->Rc,map_eq_some_iff->bf,map_map->sf,bind_map->xh,isNone_iff_eq_none->dk,map_some->Um,map->Op,rec->Pp,some_ne_none->BD,casesOn->kR
open Option.some renaming inj->ba,injEq->yj
open Prod renaming fst->lj,snd->QF
open Prod.mk renaming inj->Ta,injEq->mR
open PyProof.Rows renaming IntsAre->Vj,subscriptTail_builtin->br,reads_list_at->UJ,add_int->qap,floordiv_int->qaq,getItem_tuple->qar,isub_int->qas,len_tuple->qat,mod_int'->qau,neg_int->qav,sub_int->qaw,subscriptTail->qes
open PyProof.Rows.F renaming plain_set_update_loop->qn,entry_set_update_loop->GF
open PyProof.Rows.IntsAre renaming int_at->TK,length->UK
open PySem renaming wpAny_bind->ga,Value->ua,wpAny_pure->Ba,Addr->Ca,wpAny_mono->Da,Shared->Ea,wpAny->Qa,model->fb,Heap->qb,World->zb,Str->Bb,Around->Xb,wpAny_holding->dc,wpAny_standAt->mc,eval->yc,codeAny_mono->Fc,Comprehension->jd,NameKind->yd,strKind->fe,FuncData->ue,Operator->Je,wpAny_callSpecial?_slot->kf,codeAny_builtin->lf,sizeLine_eq->Af,wpAny_field->Cf,DictEntry->Df,wpAny_call_entry->Mf,PyData->Xf,rawInt->bg,codeAny_of_tree->dg,compareOp->fg,callEnv->ig,intKind->kg,backTo->qg,wpAny_seqItems->Jg,pushCells->Zg,codeAny->ch,wpAny_askSetting->Hh,behindInMarks->Uh,callEnvC->Vh,wpAny_onRaise->Xh,wpAny_ite_split->ii,wpAny_pyIter_tuple->zi,wpAny_setField_rec->Ai,Builtin->Si,Program->Wi,holding->aj,spliced->gj,wpAny_newObj_type->ij,wpAny_setState_of->jj,Env->wj,cellsFrom->Ij,wpAny_rule->Uj,plainId_quiet->Xj,standAt->Yj,Tok->fk,importedModules->Qk,valueAt->Wl,Sem->Yl,intKind_is->wm,wpAny_setField->Im,Pos->Nm,IsRangeIter->gn,wpAny_assignInOrder_more->Yn,wpAny_assignInOrder_none->Zn,binaryOp->Io,builtinsNs->jp,pyNext->Ep,setAddHashed->Fp,letOwnedTupleGo->Sp,pushCells_keeps->Tp,theTreesLotGoes->Up,wpAny_updateSeq->Vp,CmpOp->ur,Result->Br,codeAny_call_builtin->Kr,swapsWith->Dt,treeTable->Ht,pairTrees_cons_walk->Wt,wpAny_setEntries_of->fu,arm_execs_nil->lu,execs->qu,methodCallPos->uu,swappedStores->zu,wpAny_attempt->Cu,pyIter->iw,wpAny_Constant_str->Pw,wpAny_call->Qw,foldedSetIterable->cx,setItem->px,Stmt->Yy,noteFrame->Lz,truthy->kA,wpAny_isInstance->pA,wpAny_noted->AA,wpAny_point->BA,Obj->pD,operate->tD,relabel->uD,IsZip->yD,exec->YD,isSubtype_type->oE,wpAny_runValue->zF,wpAt_of_wpAny->RF,assignInOrder->FI,signature?_of->aK,wpAny_release->tK,Flow->OK,IsRange->VK,Keyword->fL,argsOk->zL,nsFind->pO,wpAny_typeOf->VQ,builtinLookup_eq_fast->rR,weight_type_call_type->uR,GenState->BR,bindName->lS,subscripted->mV,wpAny_letGo->NV,wpAny_loadName_local->OV,wpAny_of_eq->QV,wpAny_loadName_free->DX,wpAny_setItem_pairs->FX,closureFor->qY,denote->MY,methodCall->QZ,setsByText->N1,wpAny_Constant_int->J3,wpAny_load->K3,wpAny_pyIter_range->N3,wpAny_unpack_tuple->O3,Const->i4,Model->B4,forTurn->P4,getItem->Q4,hashInt->R4,hashStr->T4,newList->c5,setNext->l5,wpAny_pyIter_list->v5,wpAny_pyIter_slot->w5,call->S5,arm_assign_Tuple->a6,checkBuiltinCall->S6,check_set_init_1->T6,pickOrder->s9,seqIndex?->J9,storeName->S9,wpAny_getItem_of->qaf,wpAny_setScan_of->qag,typeLookup_type->qaV,wpAny_Dict_walk->qbd,wpAny_operating->qbe,Data->qbh,SetTable->qbo,bindC->qbs,bindL->qbt,compTurn->qbw,constantsAlone->qby,entryFor->qbF,entryFor_alias->qbG,field->qbK,firstArgMember->qbL,isSubtype_stop->qcA,markedBehindIn->qcE,newFunctionEnv->qcJ,newTuple->qcK,recursionLimit->qcW,runOwn->qda,setAddHashedIn->qdf,wpAny_fieldsOf->qdo,wpAny_newTuple->qdp,arm_eval_Call->qdB,codeAny_block->qdP,comprehension->qdR,evalPairs_nil->qdU,foldedForSure->qdY,wpAny_newList->qeB,callType_new->qeS,callerA->qeT,firstIterPos->qeY,name_of_addr->qfg,release->qfk,setAddByScan->qfm,Reads->qfF,interactive->qfH,keywordEach->qfI,wpAny_alloc->qfJ
open PySem.Around renaming under_plainId->He,under_plain->DF
open PySem.BindsTo renaming of_eq->aR
open PySem.Builtin.Frozenset renaming updateFrom->mn,newClass->zR
open PySem.Builtin.List renaming listTooLong->uj,listExtendWith->Wp,listLengthHint->Xp,listSameRef->Ws,listFitsIndex->qah
open PySem.Builtin.Range renaming rangeSize->Wg,small->A5
open PySem.Builtin.SmallTypes renaming nextOf->td,ownedTupleIsFree->zg,ownedTupleHandOut->bk
open PySem.Builtin.Tuple renaming tupleExact->qr
open PySem.Calls renaming loadGlobal_builtin->IZ,loadGlobal_global->W4,evalArgs_plain->qbI
open PySem.Challenge renaming pw_nz0028_01->Lh,rw_nz0028_01->Mh
open PySem.Code renaming quiet_builtin->BK,builtin->d4
open PySem.Env renaming kindOf->nn,blockKind->j4
open PySem.Expr renaming Starred->md,Name->bR
open PySem.F renaming called_set->wd,plain_extend_loop->yf,slot_tuple_iterator_next->Ff,slot_zip_next->ai,slot_list_extend->Kk,args_tuple_iterator_next_1->Zo,entry_tuple_iterator_next->Qp,entry_extend_loop->Uw,args_zip_next_1->zx,plain_list_iadd->Ax,entry_zip_next->Xy,entry_type_call->cW,entry_set_init->RX,typeCall_set_1->TX,plain_set_new->l4,slot_set_iter->o4
open PySem.Heap renaming get?_push_of_some->ya,get?_push_size->La,lt_size->gc,get?_update_self->Pc,size_push->pd,SameBut->gf,get?_update_other->jf,dictOf_iff->Nf,IsTuple->kD,ExtBut->E5,get?->qbj
open PySem.Heap.IsTuple renaming push->ao
open PySem.Heap.SameBut renaming update->Ad,refl->qai
open PySem.Manifest renaming owners->qfz,sig_set_iterator->qfA
open PySem.NameKind renaming free->Ic,cell->Hd
open PySem.Obj renaming data_mapFields->Ee,isFreed_of_fields->Pi,mapSeq->Vi,mapFields->bm,cls_mapFields->Mt,putNameByArray->oL,putName_eq->WX,cls->qfC
open PySem.PyData renaming eqv->Yc,eqvAll->zd,int->rg,depthAll->zh,canLayAll0->Th,weightAll->et,weight->yx,tuple->xA,list->qD,canLay0->nR,keyHash->oR,depth->kW,strOk->lW
open PySem.SeqAt renaming shaped->YX,eqv_refl->qbn
open PySem.SetTable renaming below->Vf
open PySem.Shared renaming heap->sD,TypeIs->KR
open PySem.Stmt renaming casesOn->F4
open PySem.Str renaming ofString->Hg
open PySem.Value renaming ref->Jc,type->Ce,builtin->Qi,isStrOf->Ri,int->cm,none->Xm,isInt->Go,bool->T5,str->qaC
open PySem.Value.type renaming inj->qdz
open PySem.W renaming Frag->Ve,emptyDict->Hf,findIn->Pk,boot_heap->Zl,dictOf->om,through->sx,ks_superIn->pE,SharedT->pL,typeIn->FQ,callWith_of->rS,lookIn->JZ,namesBound->XZ,stepOk->P1,staticsOk->Q9,gensDone->qcs,laidKept->qcC,stepT->qdg,fencedOpening->qdX,instObj->qfb,topFrom->qfx,defOf->qfG
open PySem.W.Fast renaming tw10156331382660048174->Vm,tw11892475500146522536->Wm,tw6613529449190102663->jn,te10156331382660048174->qax,te11892475500146522536->qay,te4187177175401517315->qaz,te6613529449190102663->qaA,tw4187177175401517315->qaB
open PySem.W.Hook renaming says->cR,obs->eW,val->fW
open PySem.W.RowW renaming records->rD
open PySem.W.Upd renaming head->qeO
open PySem PySem.W PySem.Calls PyProof.Rows
namespace Mine.Internal
noncomputable section
@[elab_as_elim] theorem U {α:Sort u} {motive:α->Prop} {a b:α} (h:a=b) (x:motive b):motive a:=h▸x
@[elab_as_elim] theorem Bd {α:Sort u} {motive:α->Prop} {a b:α} (h:b=a) (x:motive b):motive a:=h▸x
theorem Vg{c d:Type}{o:Option c}{f:c->Option d}{b:d}{P:Prop}(e:o.bind f=J b)(k:∀a,o=J a->f a=J b->P):P:=by
 obtain⟨a,g,h⟩:=Fa.mp e;exact k a g h
theorem Ds{c d:Type}{o:Option c}{f:c->d}{b:d}{P:Prop}(e:o.map f=J b)(k:∀a,o=J a->f a=b->P):P:=by
 obtain⟨a,g,h⟩:=bf.mp e;exact k a g h
theorem Gc{c:Sort _}{d:Sort _}{a b:c}(f:c->d)(h:a=b):f a=f b:=congrArg f h
theorem Fd{c:Prop}{h:Decidable c}(a:c){b:Sort _}{t e:b}:ite c t e=t:=if_pos a
theorem ge{c:Prop}{h:Decidable c}(a:¬c){b:Sort _}{t e:b}:ite c t e=e:=if_neg a
theorem zc{a b:Prop}(h:a)(n:¬a):b:=absurd h n
theorem Ml{p:Prop} [Decidable p](h:decide p=Z):p:=of_decide_eq_true h
set_option maxHeartbeats 0
abbrev P0:Wi:=Lh
abbrev ox:OpenRow:=Mh.row
noncomputable def qv:Wi:=view Lh [32]
noncomputable def Zr:List Bb:=["_wall","least","greatest","size","size_domains","next_from","has","has_domains","values","up_to","from_on","without","meet","negation","struck","said_of","Store","Propagator","standing","Placing","Cardinality","_law_draw","_law_domain","_law_tuples","_law_keeps","_law_made","_law_left","_law_is_asked_right"]
noncomputable def Co(c:String->Option Si)(p:Wi)(w:zb)(a:Nat)(b:Option ua)(z:Nat)(j:pL)(q:Thread):Option pL:=match z,j,q with|0,u,y=>Y|n+1,s,t=>match sx t with|true=>J s|false=>match P1 a b t with|false=>Y|true=>match qdg (MY c) p w s t with|some (d,e)=>Co c p w a b n d e|none=>Y
theorem oK{d:String->Option Si}{p:Wi}{w:zb}{a:Nat}{b:Option ua}:∀{n:Nat}{s c:pL}{t:Thread},
 Co d p w a b n s t=J c->topRun d p w a b n s.abs t=J c.abs:=by
 intro n
 induction n with
 |zero=>
  rintro _ _ _ h;cases h
 |succ n k=>
  rintro s c t h;replace h:(match sx t with|true=>J s|false=>match P1 a b t with|false=>Y|true=>match qdg (MY d) p w s t with|some (c,e)=>Co d p w a b n c e|none=>Y)=J c:=h;unfold topRun
  induction f:sx t with
  |true=>rw[f]at h;obtain rfl:=ba h;rfl|false=>
   rw[f]at h
   induction g:P1 a b t with
   |false=>rw[g]at h;cases h|true=>
    rw[g]at h
    induction e:qdg (MY d) p w s t with
    |none=>rw[e]at h;cases h|some r=>obtain⟨i,j⟩:=r;rw[e]at h;rw[stepT_spec e];exact k h
noncomputable def Au(tb:String->Option Si)(p:Wi)(w:zb)(n₀:Nat)(ann:Option ua)(z:Nat)(j:pL)(q:Thread):Option pL:=match z,j,q with|0,u,y=>Y|n+1,s,t=>match sx t with|true=>J s|false=>match jn n₀ ann t with|false=>Y|true=>match Vm (Wm tb) p w s t with|some (s',t')=>Au tb p w n₀ ann n s' t'|none=>Y
theorem rF{tb p w n₀ ann}:∀n s t,Co tb p w n₀ ann n s t=Au tb p w n₀ ann n s t:=by
 intro n
 induction n with
 |zero=>
  rintro _ _;exact rfl
 |succ n c=>
  rintro s t;show(match sx t with|true=>J s|false=>match P1 n₀ ann t with|false=>Y|true=>match qdg (MY tb) p w s t with|some (a,b)=>Co tb p w n₀ ann n a b|none=>Y)=(match sx t with|true=>J s|false=>match jn n₀ ann t with|false=>Y|true=>match Vm (Wm tb) p w s t with|some (a,b)=>Au tb p w n₀ ann n a b|none=>Y)
  rw[<-qaA,<-qax,<-qay]
  induction sx t<;>simp only
  induction P1 n₀ ann t<;>simp only
  induction qdg (MY tb) p w s t<;>simp only
  exact c _ _
noncomputable def qW(P:Params):BT:=(Zl P).objs.toList.zipIdx.foldl (λt x=>t.ins x.2 x.1) .nil
set_option maxHeartbeats 200000
section
theorem ja{a:Type}{P:Prop}{x:a}(h:(Y:Option a)=J x):P:=nomatch h
set_option genCtorIdx true in
inductive V where
 |none|bool (b:Bool)|int (i:Int)|str (s:Bb)|t (xs:List V)|ref (i:Nat)|k (v:ua)|rng (a b:Int)|iset (xs:List Int)
 deriving Inhabited
inductive O where
 |list (xs:List V)|idict (es:List (Int×V))|h (es:List (Bb×V))|inst (c d:Nat)
 deriving Inhabited
noncomputable abbrev St:=List O
noncomputable abbrev Me:=List (Option V)
inductive CT where
 |x (i:Nat)|t (is:List Nat)
mutual
inductive X where
 |x (i:Nat)|k (v:ua)|none|bool (b:Bool)|int (i:Int)|str (s:Bb)|attr (o:X) (n:Bb)|sub (o i:X)|cut (o:X) (k:Int)|bin (op:Je) (a b:X)|neg (a:X)|cmp (op:ur) (a b:X)|cmp2 (op1 op2:ur) (a b c:X)|ite (t:B) (a b:X)|t (xs:List X)|list (xs:List X)|dict (ks vs:List X)|comp (k:Nat) (iter:X) (tgt:CT) (ifs:List B) (rest:List G) (elt:X)|call (f:X) (args:List X)|meth (o:X) (n:Bb) (args:List X)|sup (i:Nat) (f:Nat) (args:List X)
inductive B where
 |and (a b:B)|or (a b:B)|not (a:B)|wK (x:X)
inductive G where
 |mk (iter:X) (tgt:CT) (ifs:List B)
end
inductive T where
 |x (i:Nat)|t (ts:List T)|attr (o:X) (n:Bb)|sub (o i:X)
inductive S where
 |assign (t:T) (e:X)|aug (o i:X) (op:Je) (e:X)|expr (e:X)|ifs (t:B) (a b:List S)|whil (t:B) (b:List S)|fors (t:CT) (e:X) (b:List S)|forz (t:CT) (es:List X) (b:List S)|ret (e:X)
inductive Fl where
 |next|ret (v:V)
structure Fn where
 params:Nat
 slots:Nat
 body:List S
structure Bh where
 meth:Nat->Bb->Option Nat
 init:Nat->Option Nat
 attr:Nat->Bb->Bool
 sup:Nat->Option Nat
 scr:Nat->Option (List Int)
noncomputable abbrev Bh.w(t:Bh)(a:Nat->Option (List Int)):Bh:=⟨t.meth,t.init,t.attr,t.sup,a⟩
inductive It where
 |st (xs:List V)|dyn (i:Nat)
noncomputable def qh(z:V):Option Int:=match z with|.int k=>J k|_=>Y
noncomputable def ip(z:V):Option Bool:=match z with|.bool b=>J b|_=>Y
noncomputable def ux(z:V):Option (List V):=match z with|.t a=>J a|_=>Y
noncomputable def mw(z:V):Option Nat:=match z with|.ref i=>J i|_=>Y
noncomputable def gK(z:V):Option Bb:=match z with|.str s=>J s|_=>Y
noncomputable def q8(z:O):Option (List V):=match z with|.list a=>J a|_=>Y
noncomputable def qfl(z:O):Option (List (Bb×V)):=match z with|.h a=>J a|_=>Y
noncomputable def j8(z:O):Option (Nat×Nat):=match z with|.inst c d=>J (c,d)|_=>Y
def tc(a:St)(i:Nat):Option (List V):=(a[i]?).bind q8
def Uq(a:St)(i:Nat):Option (List (Bb×V)):=(a[i]?).bind qfl
def ri(a:St)(i:Nat):Option (Nat×Nat):=(a[i]?).bind j8
noncomputable def one{b:Type}(z:List b):Option b:=match z with|[a]=>J a|_=>Y
noncomputable def two{c:Type}(z:List c):Option (c×c):=match z with|[a,b]=>J (a,b)|_=>Y
noncomputable def Ie(b:Bool):Option Unit:=if b then J ()else Y
noncomputable def ot(a:Int)(n:Nat):List V:=(Ka n).map λ(i:Nat)=>V.int (a+(i:Int))
def Lo(a b:Int):List V:=ot a (b - a).toNat
noncomputable def Xo(a b:Int):Bool:=decide (-1000<a/\a<1000/\ -1000<b/\b<1000)
def ym(b:It)(i:Nat)(c:St):Option (Option V):=match b with|.st a=>J a[i]?|.dyn l=>(tc c l).map λa=>a[i]?
noncomputable def R9(f:V->St->Option (List V×St))(k:Nat->St->Option (List V×St))(i:Nat)(a:St)(z:Option V):Option (List V×St):=match z with|Y=>J ([],a)|some v=>(f v a).bind λp=>(k (i+1) p.2).map λq=>(p.1++q.1,q.2)
noncomputable def So(q:Nat)(d:It)(g:Nat)(l:(V->St->Option (List V×St)))(m:St):Option (List V×St):=match q,d,g,l,m with|0,u,y,z,j=>Y|n+1,b,i,f,a=>(ym b i a).bind (R9 f (λi a=>So n b i f a) i a)
noncomputable def YC(k:Me->St->Option (Fl×Me×St))(p:Fl×Me×St):Option (Fl×Me×St):=match p.1 with|.next=>k p.2.1 p.2.2|.ret u=>J p
noncomputable def rX(f:V->Me->St->Option (Fl×Me×St))(k:Nat->Me->St->Option (Fl×Me×St))(i:Nat)(a:Me)(b:St)(z:Option V):Option (Fl×Me×St):=match z with|Y=>J (.next,a,b)|some v=>(f v a b).bind (YC (k (i+1)))
noncomputable def Fq(d:Nat)(g:It)(l:Nat)(m:(V->Me->St->Option (Fl×Me×St)))(o:Me)(r:St):Option (Fl×Me×St):=match d,g,l,m,o,r with|0,u,y,z,j,q=>Y|n+1,c,i,f,b,a=>(ym c i a).bind (rX f (λi b a=>Fq n c i f b a) i b a)
noncomputable def GB(q:Nat)(d:(Me->St->Option (Bool×St)))(g:(Me->St->Option (Fl×Me×St)))(l:Me)(m:St):Option (Fl×Me×St):=match q,d,g,l,m with|0,u,y,z,j=>Y|n+1,t,f,a,b=>(t a b).bind λp=>match p.1 with|false=>J (.next,a,p.2)|true=>(f a p.2).bind (YC (GB n t f))
noncomputable def ye(j:List Nat)(q:List V)(d:Me):Option Me:=match j,q,d with|[],[],a=>J a|i::is,v::b,a=>if i<a.length then ye is b (a.set i (J v))else Y|u,y,z=>Y
def jl(z:CT)(y:V)(u:Me):Option Me:=match z,y,u with|.x i,v,a=>if i<a.length then J (a.set i (J v))else Y|.t is,v,a=>(ux v).bind λb=>ye is b a
noncomputable def free(a:Me)(i:Nat):Bool:=match a[i]? with|some Y=>Z|_=>ta
noncomputable def zk(j:List Nat)(q:List V)(d:Me):Option Me:=match j,q,d with|[],[],a=>J a|i::is,v::b,a=>if free a i then zk is b (a.set i (J v))else Y|u,y,z=>Y
def Hj(z:CT)(y:V)(u:Me):Option Me:=match z,y,u with|.x i,v,a=>if free a i then J (a.set i (J v))else Y|.t is,v,a=>(ux v).bind λb=>zk is b a
noncomputable def Ud(n:Nat):Bool:=bc n 4096
noncomputable def Nl(n:Nat)(k:Int):Option Nat:=if 0<=k then J k.toNat else if -(n:Int)<=k then J (k+n).toNat else Y
def U4(a:List V)(k:Int):Option V:=(Nl a.length k).bind λi=>a[i]?
noncomputable def Pm(z:List (Int×V))(y:Int):Option V:=match z,y with|[],u=>Y|(k,v)::r,x=>if k=x then J v else Pm r x
noncomputable def Qf(z:List (Bb×V))(y:Bb):Option V:=match z,y with|[],u=>Y|(k,v)::r,x=>if k=x then J v else Qf r x
noncomputable def cw(z:List (Int×V))(y:Int)(u:V):List (Int×V):=match z,y,u with|[],x,w=>[(x,w)]|(k,v)::r,x,w=>if k=x then(k,w)::r else(k,v)::cw r x w
noncomputable def Gh(z:List (Bb×V))(y:Bb)(u:V):List (Bb×V):=match z,y,u with|[],x,w=>[(x,w)]|(k,v)::r,x,w=>if k=x then(k,w)::r else(k,v)::Gh r x w
def qdi(k:V)(z:O):Option V:=match z with|.list a=>(qh k).bind (U4 a)|.idict a=>(qh k).bind (Pm a)|.h a=>(gK k).bind (Qf a)|.inst u y=>Y
def XC(o k:V)(a:St):Option V:=match o with|.t b=>(qh k).bind (U4 b)|.ref i=>(a[i]?).bind (qdi k)|_=>Y
noncomputable def K9(a:List V)(v:V)(i:Nat):Option (List V):=if i<a.length then J (a.set i v)else Y
def WU(k v:V)(j:O):Option O:=match j with|.list a=>((qh k).bind (Nl a.length)).bind λi=>(K9 a v i).map .list|.idict a=>(qh k).bind λk=>(Ie (Ud a.length)).map λu=>.idict (cw a k v)|.h a=>(gK k).bind λk=>(Ie (Ud a.length)).map λu=>.h (Gh a k v)|.inst y z=>Y
def yi(o k v:V)(a:St):Option St:=(mw o).bind λi=>((a[i]?).bind (WU k v)).map (a.set i)
noncomputable def bH(z:V):Option V:=match z with|.k u=>Y|v=>J v
def Ki(W:Bh)(o:V)(n:Bb)(a:St):Option V:=((mw o).bind (ri a)).bind λp=>(Uq a p.2).bind λb=>(Ie (W.attr p.1 n)).bind λu=>(Qf b n).bind bH
def Pn(W:Bh)(o:V)(n:Bb)(v:V)(a:St):Option St:=((mw o).bind (ri a)).bind λp=>(Uq a p.2).bind λb=>(Ie (W.attr p.1 n&&bc b.length 900)).map λu=>a.set p.2 (.h (Gh b n v))
def cj(a:List V)(b:St):Option (V×St):=(Ie (Ud a.length)).map λu=>(.ref b.length,b++[.list a])
def Cp(a:List V)(b:St):Option (V×St):=(Ie (Ud a.length)).map λu=>(.t a,b)
def qC(a b:Int):Option (List V):=(Ie (Xo a b)).map λu=>Lo a b
def bj(v:V)(c:St):Option It:=match v with|.t a=>J (.st a)|.rng a b=>(qC a b).map .st|.ref i=>(tc c i).map λu=>.dyn i|_=>Y
noncomputable def NS(x y:Int):Option Int:=if 0<=x/\x<1000/\0<y/\y<1000 then J (x.fdiv y)else Y
noncomputable def Hz(x y:Int):Option Int:=if y=0 then Y else J (x.fmod y)
noncomputable def nU(x y:Int):Option Int:=if 0<=y/\y<=20/\0<=x/\x<=2 then J (x^y.toNat)else Y
def f5(f:Int->Int->Option Int)(a b:V)(c:St):Option (V×St):=(qh a).bind λx=>(qh b).bind λy=>(f x y).map λz=>(.int z,c)
def RR(a b:V)(c:St):Option (V×St):=match a with|.int x=>(qh b).map λy=>(.int (x+y),c)|.t d=>(ux b).bind λe=>Cp (d++e) c|.ref i=>(tc c i).bind λd=>((mw b).bind (tc c)).bind λe=>cj (d++e) c|_=>Y
def XT(a b:V)(c:St):Option (V×St):=(((mw a).bind (tc c)).bind one).bind λx=>(qh b).bind λk=>(Ie (decide (0<=k/\k<4096))).bind λu=>cj (Ia k.toNat x) c
def gS(d:Je)(a b:V)(c:St):Option (V×St):=match d with|.Add=>RR a b c|.Sub=>f5 (λx y=>J (x - y)) a b c|.FloorDiv=>f5 NS a b c|.Mod=>f5 Hz a b c|.Pow=>f5 nU a b c|.Mult=>XT a b c|_=>Y
noncomputable def Jp(s:Bb):Bool:=s.cps.toList.all λn=>bc n 0x110000
theorem fK{s:Bb}(h:Jp s=Z):lW s=Z:=by
 unfold Jp at h;unfold lW;rw[qd]at h;refine U (propext Array.all_eq_true') ?_;intro x a;have:=h x (by simpa using a)
 simpa [ud]using this
noncomputable def km(f:V->Option Xf)(z:List V):Option (List Xf):=match z with|[]=>J []|x::a=>(f x).bind λd=>(km f a).map λx=>d::x
def bB(z:V):Option Xf:=match z with|.none=>J .none|.bool b=>J (.bool b)|.int i=>J (.int i)|.str s=>if Jp s then J (.str s)else Y|_=>Y
noncomputable def gv(z:Nat)(y:V)(j:St):Option Xf:=match z,y,j with|0,v,u=>bB v|n+1,v,a=>match v with|.t b=>(km (λx=>gv n x a) b).map .tuple|.ref i=>(tc a i).bind λb=>(km (λx=>gv n x a) b).map .list|v=>bB v
def r7(n:Nat)(a:List V)(b:St):Option (List Xf):=km (λx=>gv n x b) a
def Ev{c:Type}(f:Int->Int->c)(a b:V):Option c:=(qh a).bind λx=>(qh b).map (f x)
def K4(a b:V)(c:St):Option Bool:=(gv 6 a c).bind λd=>(gv 6 b c).map λe=>Yc d e
noncomputable def dH(z:V):Option Bool:=match z with|.none=>J Z|.t u=>J ta|.ref u=>J ta|.bool u=>J ta|.int u=>J ta|_=>Y
def qfc(a b:V):Option Bool:=match b with|.none=>dH a|_=>Y
def qZ(a b:V):Option Bool:=match b with|.none=>(dH a).map (λx=> !x)|.bool y=>(ip a).map (λx=>x !=y)|_=>Y
def qT(e:Xf)(a:List V)(b:St):Option Bool:=(r7 5 a b).map λc=>c.any λd=>Yc d e
def qfa(a:V)(b:St)(z:O):Option Bool:=match z with
 |.idict c=>(qh a).map λk=>(Pm c k).isSome|.list c=>match a with|.int k=>qT (.int k) c b|.t d=>(gv 5 (.t d) b).bind λe=>qT e c b|_=>Y
 |_=>Y
def qaH(a b:V)(c:St):Option Bool:=(mw b).bind λi=>(c[i]?).bind (qfa a c)
def kq(d:ur)(a b:V)(c:St):Option Bool:=match d with|.Lt=>Ev (λx y=>decide (x<y)) a b|.LtE=>Ev (λx y=>decide (x<=y)) a b|.Gt=>Ev (λx y=>decide (y<x)) a b|.GtE=>Ev (λx y=>decide (y<=x)) a b|.Eq=>K4 a b c|.NotEq=>(K4 a b c).map (λx=> !x)|.Is=>qfc a b|.IsNot=>qZ a b|.In=>qaH a b c|.NotIn=>(qh a).bind λk=>(qaH (.int k) b c).map λx=> !x
noncomputable def gi(z:List V):Option (List Int):=match z with|[]=>J []|v::r=>(qh v).bind λi=>(gi r).map λx=>i::x
noncomputable def oo(x:Int)(z:List Int):List Int:=match z with|[]=>[x]|y::r=>if x<=y then x::y::r else y::oo x r
noncomputable def Xq(z:List Int):List Int:=match z with|[]=>[]|x::r=>oo x (Xq r)
noncomputable def Ig(a:List Int):List Int:=([0,1,2]:List Int).filter λk=>a.contains k
def RP(v:V)(c:St):Option (List V):=match v with|.t a=>J a|.rng a b=>qC a b|.ref i=>tc c i|_=>Y
def G2(v:V)(a:St):Option (List V):=match v with|.t b=>J b|.ref i=>tc a i|_=>Y
def AW(v:V)(c:St):Option (List V):=match v with|.rng a b=>qC a b|.ref i=>tc c i|_=>Y
set_option genCtorIdx true in
inductive Bi where
 |len|max|min|sum|sorted|range|tuple|list|set
noncomputable def HD(z:ua):Option Bi:=match z with|.builtin n=>if n="len"then J .len else if n="max"then J .max else if n="min"then J .min else if n="sum"then J .sum else if n="sorted"then J .sorted else Y|.type n=>if n="range"then J .range else if n="tuple"then J .tuple else if n="list"then J .list else if n="set"then J .set else Y|_=>Y
def zZ(b:St)(z:V):Option Int:=match z with|.t a=>J a.length|.iset a=>J (Ig a).length|.ref i=>(tc b i).map λa=>(a.length:Int)|_=>Y
def qcY(b:Int):Option V:=(Ie (Xo 0 b)).map λu=>.rng 0 b
def qcZ(a b:Int):Option V:=(Ie (Xo a b)).map λu=>.rng a b
def v9(z:List V):Option V:=match z with|[b]=>(qh b).bind qcY|[a,b]=>(qh a).bind λa=>(qh b).bind (qcZ a)|_=>Y
def L9(is:List Int):Option V:=(Ie (is.all λi=>decide (0<=i)&&decide (i<=2))).map λu=>.iset is
def aQ(is:List Int):Option (List V):=(Ie (bc is.length 60)).map λu=>(Xq is).map V.int
def O9(z:O):Option (List V):=match z with|.list a=>(gi a).bind aQ|.idict a=>aQ (a.map λx=>x.1)|_=>Y
def pX(a:St)(z:V):Option (List V):=match z with|.iset b=>J ((Ig b).map V.int)|.ref i=>(a[i]?).bind O9|_=>Y
noncomputable def eD(a:St)(v:Option V):Option (V×St):=v.map λv=>(v,a)
def qaK(f:Int->Int->Int)(p:V×V):Option V:=(Ev f p.1 p.2).map .int
def qR(b:Bi)(a:List V)(c:St):Option (V×St):=match b with|.len=>eD c (((one a).bind (zZ c)).map .int)|.max=>eD c ((two a).bind (qaK max))|.min=>eD c ((two a).bind (qaK min))|.sum=>eD c (((((one a).bind mw).bind (tc c)).bind gi).map λis=>.int is.sum)|.sorted=>((one a).bind (pX c)).bind λd=>cj d c|.range=>eD c (v9 a)|.tuple=>((one a).bind λx=>RP x c).bind λd=>Cp d c|.list=>((one a).bind ux).bind λd=>cj d c|.set=>eD c ((((one a).bind λx=>G2 x c).bind gi).bind L9)
def qdC(f:ua)(a:List V)(c:St):Option (V×St):=(HD f).bind λb=>qR b a c
set_option genCtorIdx true in
inductive Lm where
 |append|extend|insert|index|count
noncomputable def Vt(n:Bb):Option Lm:=if n="append"then J .append else if n="extend"then J .extend else if n="insert"then J .insert else if n="index"then J .index else if n="count"then J .count else Y
def d8(is:List Int)(k:Int):Option Int:=(Ie (is.contains k&&is.all (λi=>decide (-1000<i)&&decide (i<1000))&&bc is.length 60)).map λu=>(is.idxOf k:Int)
def qcy(a:List V)(k:Int)(v:V):Option (List V):=(Ie (decide (0<=k/\k<=a.length)&&Ud a.length)).map λu=>a.take k.toNat++v::a.drop k.toNat
def qaN(m:Lm)(a:List V)(d:St)(b:List V):Option (List V):=match m with|.append=>(one a).bind λv=>(Ie (Ud b.length)).map λu=>b++[v]|.extend=>((one a).bind λx=>AW x d).bind λc=>(Ie (Ud (b.length+c.length))).map λu=>b++c|.insert=>(two a).bind λp=>(qh p.1).bind λk=>qcy b k p.2|_=>Y
def qfd(m:Lm)(a:List V)(b:List V):Option V:=match m with|.index=>((one a).bind qh).bind λk=>(gi b).bind λis=>(d8 is k).map .int|.count=>((one a).bind qh).bind λk=>(gi b).map λis=>.int (is.count k)|_=>Y
noncomputable def GZ(z:Lm):Bool:=match z with|.index=>ta|.count=>ta|_=>Z
def JT(m:Lm)(i:Nat)(a:List V)(b:St)(c:List V):Option (V×St):=match GZ m with|true=>(qaN m a b c).map λd=>(.none,b.set i (.list d))|false=>(qfd m a c).map λv=>(v,b)
def MT(i:Nat)(n:Bb)(a:List V)(b:St):Option (V×St):=(Vt n).bind λm=>(tc b i).bind (JT m i a b)
section
variable (W:Bh) (R:Nat->List V->St->Option (V×St))
noncomputable def yE(a:St)(p:V×St):Option (V×St):=match p.1 with|.none=>J (.ref (a.length+1),p.2)|_=>Y
def ZF(f:V)(b:List V)(c:St):Option (V×St):=match f with
 |.k (.ref a)=>match W.init a with|some g=>(R g (.ref (c.length+1)::b) (c++[.h [],.inst a c.length])).bind (yE c)|Y=>R a b c
 |.k v=>qdC v b c|_=>Y
inductive aW where
 |fn (f:Nat) (o:V)|lm (i:Nat)
noncomputable def BE(c:Nat)(n:Bb)(o:V)(z:Option V):Option aW:=match z with|Y=>(W.meth c n).map λf=>.fn f o|some u=>Y
def qcX(n:Bb)(a:St)(i:Nat)(z:O):Option aW:=match z with|.inst c d=>(Uq a d).bind λb=>BE W c n (.ref i) (Qf b n)|.list u=>J (.lm i)|_=>Y
def Zt(o:V)(n:Bb)(a:St):Option aW:=(mw o).bind λi=>(a[i]?).bind (qcX W n a i)
def fy(c:aW)(n:Bb)(a:List V)(b:St):Option (V×St):=match c with|.fn f o=>R f (o::a) b|.lm i=>MT i n a b
def p7(a:List V)(k:Int)(b:St):Option (V×St):=(Ie (decide (0<=k/\k<1000))).bind λu=>cj (a.take k.toNat) b
def HS(v:V)(k:Int)(b:St):Option (V×St):=match v with|.k (.ref a)=>(W.scr a).bind λc=>p7 (c.map V.int) k b|.ref i=>(tc b i).bind λc=>p7 c k b|_=>Y
def X9(f:Nat)(a:St)(j:Nat):Option Nat:=(ri a j).bind λp=>(Uq a p.2).bind λu=>if W.sup p.1=J f then J j else Y
def jG(k x:V)(b:St):Option (V×St):=(qh k).map λa=>(.ref b.length,b++[.idict [(a,x)]])
def kG(k l x y:V)(c:St):Option (V×St):=(gK k).bind λa=>(gK l).bind λb=>if a=b then Y else J (.ref c.length,c++[.h [(a,x),(b,y)]])
def lG(c b:List V)(a:St):Option (V×St):=match c with
 |[]=>(match b with|[]=>J (.ref a.length,a++[.idict []])|_=>Y)
 |[k]=>(one b).bind λx=>jG k x a|[k,l]=>(two b).bind λp=>kG k l p.1 p.2 a|_=>Y
noncomputable def Vk(a:Me)(i:Nat):Option V:=(a[i]?).bind id
noncomputable def kn{a:Type}(b:Bool)(x y:Option a):Option a:=match b with|true=>x|false=>y
mutual
noncomputable def evX(z:X)(d:Me)(g:St):Option (V×St):=match z,d,g with
 |.x i,h,e=>(Vk h i).map λv=>(v,e)|.k v,y,e=>J (.k v,e)|.none,y,e=>J (.none,e)|.bool b,y,e=>J (.bool b,e)|.int i,y,e=>J (.int i,e)|.str s,y,e=>J (.str s,e)|.attr o n,h,e=>(evX o h e).bind λp=>(Ki W p.1 n p.2).map λv=>(v,p.2)|.sub o i,h,e=>(evX o h e).bind λp=>(evX i h p.2).bind λq=>(XC p.1 q.1 q.2).map λv=>(v,q.2)|.cut o k,h,e=>(evX o h e).bind λp=>HS W p.1 k p.2|.bin c a b,h,e=>(evX a h e).bind λp=>(evX b h p.2).bind λq=>gS c p.1 q.1 q.2|.neg a,h,e=>(evX a h e).bind λp=>(qh p.1).map λi=>(.int (-i),p.2)|.cmp c a b,h,e=>(evX a h e).bind λp=>(evX b h p.2).bind λq=>(kq c p.1 q.1 q.2).map λr=>(.bool r,q.2)|.cmp2 f j a b c,h,e=>(evX a h e).bind λp=>(evX b h p.2).bind λq=>(kq f p.1 q.1 q.2).bind λr=>
  kn r ((evX c h q.2).bind λu=>(kq j q.1 u.1 u.2).map λr=>(.bool r,u.2)) (J (.bool ta,q.2))
 |.ite t a b,h,e=>(Tt t h e).bind λp=>kn p.1 (evX a h p.2) (evX b h p.2)|.t a,h,e=>(Ji a h e).bind λp=>Cp p.1 p.2|.list a,h,e=>(Ji a h e).bind λp=>cj p.1 p.2|.dict a b,h,e=>(Ji a h e).bind λp=>(Ji b h p.2).bind λq=>lG p.1 q.1 q.2|.comp k a f j rest l,h,e=>(evX a h e).bind λp=>(bj p.1 p.2).bind λm=>
  (So 5000 m 0 (λv e=>(Hj f v (h++Ia k Y)).bind λb=>(iy j b e).bind λq=>kn q.1 (evRest rest (λh e=>evX l h e) b q.2) (J ([],q.2))) p.2).bind λq=>cj q.1 q.2
 |.call f a,h,e=>(evX f h e).bind λp=>(Ji a h p.2).bind λq=>ZF W R p.1 q.1 q.2|.meth o n a,h,e=>(evX o h e).bind λp=>(Zt W p.1 n p.2).bind λc=>(Ji a h p.2).bind λq=>fy R c n q.1 q.2|.sup i f a,h,e=>(((Vk h i).bind mw).bind (X9 W f e)).bind λj=>(Ji a h e).bind λq=>R f (.ref j::q.1) q.2
noncomputable def Ji(z:List X)(y:Me)(j:St):Option (List V×St):=match z,y,j with|[],u,a=>J ([],a)|x::c,b,a=>(evX x b a).bind λp=>(Ji c b p.2).map λq=>(p.1::q.1,q.2)
noncomputable def Tt(z:B)(y:Me)(u:St):Option (Bool×St):=match z,y,u with|.and a b,c,d=>(Tt a c d).bind λp=>kn p.1 (Tt b c p.2) (J (ta,p.2))|.or a b,c,d=>(Tt a c d).bind λp=>kn p.1 (J (Z,p.2)) (Tt b c p.2)|.not a,c,d=>(Tt a c d).map λp=>(!p.1,p.2)|.wK x,c,d=>(evX x c d).bind λp=>(ip p.1).map λb=>(b,p.2)
noncomputable def iy(z:List B)(y:Me)(j:St):Option (Bool×St):=match z,y,j with|[],u,a=>J (Z,a)|t::c,b,a=>(Tt t b a).bind λp=>kn p.1 (iy c b p.2) (J (ta,p.2))
noncomputable def evRest(z:List G)(y:(Me->St->Option (V×St)))(u:Me)(j:St):Option (List V×St):=match z,y,u,j with
 |[],a,e,b=>(a e b).map λp=>([p.1],p.2)|.mk c f g::h,a,e,b=>(evX c e b).bind λp=>(bj p.1 p.2).bind λi=>
  So 5000 i 0 (λv b=>(Hj f v e).bind λd=>(iy g d b).bind λq=>kn q.1 (evRest h a d q.2) (J ([],q.2))) p.2
end
mutual
noncomputable def IK(z:T)(y:V)(j:Me)(d:St):Option (Me×St):=match z,y,j,d with|.x i,v,a,b=>(Ie (bc i a.length)).map λu=>(a.set i (J v),b)|.t c,v,a,b=>(ux v).bind λe=>cK c e a b|.attr o n,v,a,b=>(evX W R o a b).bind λp=>(Pn W p.1 n v p.2).map λb=>(a,b)|.sub o i,v,a,b=>(evX W R o a b).bind λp=>(evX W R i a p.2).bind λq=>(yi p.1 q.1 v q.2).map λb=>(a,b)
noncomputable def cK(q:List T)(d:List V)(f:Me)(g:St):Option (Me×St):=match q,d,f,g with|[],[],a,b=>J (a,b)|t::c,v::e,a,b=>(IK t v a b).bind λp=>cK c e p.1 p.2|u,y,z,j=>Y
end
def VV(z:List (List V)):Option (List V):=match z with|[b,a,c]=>(Ie (decide (b.length=a.length/\a.length=c.length))).map λu=>(b.zip (a.zip c)).map λp=>V.t [p.1,p.2.1,p.2.2]|_=>Y
noncomputable def Vn(z:List V):Option (List (List V)):=match z with|[]=>J []|v::r=>(ux v).bind λa=>(Vn r).map λx=>a::x
noncomputable def CL(a:Je)(x y:Int):Option Int:=match a with|.Add=>J (x+y)|.Sub=>J (x - y)|_=>Y
noncomputable def oG(z:V):Option Unit:=match z with|.none=>J ()|.bool u=>J ()|_=>Y
noncomputable def mJ(p:Me×St):Fl×Me×St:=(.next,p.1,p.2)
mutual
noncomputable def XD(d:S)(f:Me)(g:St):Option (Fl×Me×St):=match d,f,g with
 |.assign t e,c,h=>(evX W R e c h).bind λp=>(IK W R t p.1 c p.2).map mJ|.aug o i b e,c,h=>(evX W R o c h).bind λp=>(evX W R i c p.2).bind λq=>(XC p.1 q.1 q.2).bind λa=>(evX W R e c q.2).bind λu=>
  (qh a).bind λx=>(qh u.1).bind λy=>(CL b x y).bind λz=>(yi p.1 q.1 (.int z) u.2).map λh=>(.next,c,h)
 |.expr e,c,h=>(evX W R e c h).bind λp=>(oG p.1).map λj=>(.next,c,p.2)|.ifs t a b,c,h=>(Tt W R t c h).bind λp=>kn p.1 (rv a c p.2) (rv b c p.2)|.whil t b,c,h=>GB 5000 (Tt W R t) (λc h=>rv b c h) c h|.fors t e b,c,h=>(evX W R e c h).bind λp=>(bj p.1 p.2).bind λi=>Fq 5000 i 0 (λv c h=>(jl t v c).bind λa=>rv b a h) c p.2|.forz t j b,c,h=>(Ji W R j c h).bind λp=>((Vn p.1).bind VV).bind λi=>Fq 5000 (.st i) 0 (λv c h=>(jl t v c).bind λa=>rv b a h) c p.2|.ret e,c,h=>(evX W R e c h).map λp=>(.ret p.1,c,p.2)
noncomputable def rv(z:List S)(y:Me)(u:St):Option (Fl×Me×St):=match z,y,u with|[],a,b=>J (.next,a,b)|s::c,a,b=>(XD s a b).bind (YC (rv c))
end
noncomputable def RY(p:Fl×Me×St):V×St:=match p.1 with|.ret v=>(v,p.2.2)|.next=>(.none,p.2.2)
def yP(b:Fn)(a:List V)(c:St):Option (V×St):=
 (Ie (Rb a.length b.params)).bind λu=>(rv W R b.body (a.map J++Ia (b.slots - b.params) Y) c).map RY
end
noncomputable def ml(W:Bh)(b:Nat->Option Fn)(j:Nat)(q:Nat)(d:List V)(f:St):Option (V×St):=match j,q,d,f with|0,u,y,z=>Y|n+1,a,c,e=>(b a).bind λg=>yP W (ml W b n) g c e
end
noncomputable def t8:List (Nat×List (String×Nat)):=[(256,[("new_var",127),("size",134),("dom",141),("low",155),("high",162),("has",169),("value",183),("width",190),("holds",197),("enter",204),("strike",211),("decide",218),("fail",225),("push",232)]),(357,[("members_at",328),("place",335),("fill",342),("move_along",349),("reached",354)]),(435,[("want",384),("options_of",389),("propagate",396),("strike_once",401),("confined",408),("lacking",413),("strike_option",418),("check",425),("told",432)])]
noncomputable def c6:List (Nat×List String):=[(256,["domains","firsts","trail","marks","news","speaker","is_failed","clash"]),(357,["able","lows","highs","at","counts"]),(435,["number","scope","strength","taken","rows","wanted","lows","highs","has_twins"])]
noncomputable def rB:List (Nat×Nat):=[(256,120),(357,323),(435,377)]
noncomputable def A2:List (Nat×Nat):=[(435,274)]
def Qv:List (Nat×List (Bb×Nat)):=t8.map λp=>(p.1,p.2.map λq=>(Hg q.1,q.2))
def iq:List (Nat×List Bb):=c6.map λp=>(p.1,p.2.map Hg)
def rx(scr:Nat->Option (List Int)):Bh where
 meth:=λc n=>match Qv.lookup c with|some ms=>ms.lookup n|none=>Y
 init:=λc=>rB.lookup c
 attr:=λc n=>match iq.lookup c with|some ns=>ns.contains n|none=>ta
 sup:=λc=>A2.lookup c
 scr:=scr
def db:Bh:=rx λu=>Y
set_option maxHeartbeats 200000
set_option genCtorIdx true in
inductive W where
 |none|bool (b:Bool)|int (i:Int)|str (s:Bb)|k (v:ua)|rng (a b:Int)|iset (xs:List Int)|t (xs:List W)|l (xs:List W)|dic (ks:List Int) (vs:List W)|ref (i:Nat)|fld (i:Nat) (n:Bb)|o (w:W)
structure OF where
 cls:Option Nat
 fs:List (Bb×W)
noncomputable abbrev wb:=List OF
noncomputable abbrev jc:=List (Option W)
inductive SF where
 |q (t:T) (e:X)|aug (o:X) (n:Bb) (i:X) (op:Je) (e:X)|expr (e:X)|app (o:X) (m:Bb) (e:X)|ins (o k e:X)|ifs (t:B) (a b:List SF)|whil (t:B) (b:List SF)|fors (t:CT) (e:X) (b:List SF)|forz (t:CT) (es:List X) (b:List SF)|ret (e:X)|frz (i:Nat)|blk (i:Nat)
inductive dW where
 |next|ret (w:W)
set_option genCtorIdx true in
inductive Md where
 |all|pure|sub
structure Sg where
 params:Nat
 slots:Nat
 mode:Md
 body:List SF
abbrev fo:=Option (W×wb)
abbrev iR:=Option (List W×wb)
abbrev X3:=Option (Bool×wb)
abbrev C4:=Option (jc×wb)
abbrev Wk:=Option (dW×jc×wb)
abbrev Yp:=Nat->List W->wb->fo
noncomputable def ee(z:List (Bb×W))(y:Bb):Option W:=match z,y with|[],u=>Y|(k,v)::r,x=>if k=x then J v else ee r x
noncomputable def fj(z:List (Bb×W))(y:Bb)(u:W):List (Bb×W):=match z,y,u with|[],x,w=>[(x,w)]|(k,v)::r,x,w=>if k=x then(k,w)::r else(k,v)::fj r x w
noncomputable def wy(j:List Int)(q:List W)(d:Int):Option W:=match j,q,d with|k::a,v::b,x=>if k=x then J v else wy a b x|u,y,z=>Y
noncomputable def OJ(z:List Int)(y:Int):List Int:=match z,y with|[],x=>[x]|k::a,x=>if k=x then k::a else k::OJ a x
noncomputable def MJ(j:List Int)(q:List W)(d:Int)(f:W):List W:=match j,q,d,f with|k::b,v::a,x,w=>if k=x then w::a else v::MJ b a x w|u,y,z,w=>[w]
noncomputable def Ua(z:W):Option Int:=match z with|.int k=>J k|_=>Y
noncomputable def Zq(z:W):Option Bb:=match z with|.str k=>J k|_=>Y
noncomputable def Ii(z:W):Option Bool:=match z with|.bool b=>J b|_=>Y
noncomputable def ng(z:W):Option (List W):=match z with|.t a=>J a|_=>Y
noncomputable def xk(z:W):Option Nat:=match z with|.ref i=>J i|_=>Y
noncomputable def El(z:W):Option (List W):=match z with|.l a=>J a|_=>Y
noncomputable def rK(z:W):Option W:=match z with|.o c=>J c|_=>Y
noncomputable def tT(z:W):Bool:=match z with|.o u=>Z|_=>ta
noncomputable def qaI(z:W):Bool:=match z with|.k u=>Z|_=>ta
noncomputable def nb(z:W):Bool:=match z with|.fld u y=>ta|.o u=>ta|_=>Z
noncomputable def zA(z:List W):Bool:=match z with|[]=>Z|w::a=>nb w&&zA a
def mf(w:W):Option W:=(Ie (nb w)).map λu=>w
def Tr(a:List W):Option (List W):=(Ie (zA a)).map λu=>a
def di(a:wb)(i:Nat)(n:Bb):Option W:=(a[i]?).bind λo=>ee o.fs n
def mj(w:W)(a:wb):Option W:=match w with|.o c=>J c|.fld i n=>(di a i n).bind rK|w=>J w
def Qe(w:W)(a:wb):Option (List W):=(mj w a).bind El
def jE(a:List W)(k:Int):Option W:=(Nl a.length k).bind λi=>a[i]?
noncomputable def kO(o:OF):Option (List (Bb×W)):=match o.cls with|none=>J o.fs|some u=>Y
def UE(a:wb)(i:Nat)(n:Bb):Option W:=((a[i]?).bind kO).bind λb=>(ee b n).bind mf
def qdh(a:W)(c:wb)(z:W):Option W:=match z with|.t b=>(Ua a).bind (jE b)|.l b=>(Ua a).bind (jE b)|.dic b d=>(Ua a).bind (wy b d)|.ref i=>(Zq a).bind (UE c i)|_=>Y
def jV(o b:W)(a:wb):Option W:=(mj o a).bind (qdh b a)
noncomputable def K1(a:List W)(v:W)(i:Nat):Option (List W):=if i<a.length then J (a.set i v)else Y
def kP(k:Int)(v:W)(z:W):Option W:=match z with|.l a=>(Nl a.length k).bind λi=>(K1 a v i).map .l|.dic a b=>(Ie (Ud a.length)).map λu=>.dic (OJ a k) (MJ a b k v)|_=>Y
def Em(a:wb)(i:Nat)(n:Bb)(w:W):wb:=match a[i]? with|some o=>a.set i ⟨o.cls,fj o.fs n w⟩|none=>a
def qbM(i:Nat)(n:Bb)(w:W):Option W:=kn (tT w) (J (.fld i n)) (kn (qaI w) Y (J w))
def Gx(V:Bh)(n:Bb)(a:wb)(i:Nat):Option W:=(a[i]?).bind λo=>o.cls.bind λc=>(Ie (V.attr c n)).bind λu=>(ee o.fs n).bind (qbM i n)
def QJ(a:List (Bb×W))(n:Bb)(w:W):Option (List (Bb×W)):=kn (match ee a n with|some w=>tT w|none=>ta) Y (J (fj a n w))
def Bo(V:Bh)(n:Bb)(w:W)(a:wb)(i:Nat):Option wb:=(a[i]?).bind λo=>o.cls.bind λc=>(Ie (V.attr c n&&bc o.fs.length 900)).bind λu=>(QJ o.fs n w).map λb=>a.set i ⟨J c,b⟩
noncomputable def Bl(z:List W):Option (List Int):=match z with|[]=>J []|w::r=>(Ua w).bind λi=>(Bl r).map λx=>i::x
noncomputable def Pe(f:W->Option Xf)(z:List W):Option (List Xf):=match z with|[]=>J []|x::a=>(f x).bind λd=>(Pe f a).map λx=>d::x
def RD(z:W):Option Xf:=match z with|.none=>J .none|.bool b=>J (.bool b)|.int i=>J (.int i)|.str s=>if Jp s then J (.str s)else Y|_=>Y
noncomputable def ae(z:Nat)(y:W):Option Xf:=match z,y with|0,w=>RD w|n+1,w=>match w with|.t a=>(Pe (ae n) a).map .tuple|.l a=>(Pe (ae n) a).map .list|.o w=>(El w).bind λa=>(Pe (ae n) a).map .list|w=>RD w
noncomputable def Cz(z:W):Option Bool:=match z with|.none=>J Z|.t u=>J ta|.l u=>J ta|.ref u=>J ta|.bool u=>J ta|.int u=>J ta|_=>Y
def qaJ(a b:W):Option Bool:=match b with|.none=>Cz a|_=>Y
def Oh(a b:W):Option Bool:=match b with|.none=>(Cz a).map (λx=> !x)|.bool y=>(Ii a).map (λx=>x !=y)|_=>Y
def qcw(e:Xf)(a:List W):Option Bool:=(Pe (ae 5) a).map λb=>b.any λd=>Yc d e
def MW(a:W)(z:W):Option Bool:=match z with
 |.dic b u=>(Ua a).map λk=>decide (k∈b)|.l b=>match a with|.int k=>qcw (.int k) b|.t c=>(ae 5 (.t c)).bind λe=>qcw e b|_=>Y
 |_=>Y
def qcx(a b:W)(c:wb):Option Bool:=(mj b c).bind (MW a)
def mE{c:Type}(f:Int->Int->c)(a b:W):Option c:=(Ua a).bind λx=>(Ua b).map (f x)
def L4(a b:W):Option Bool:=(ae 6 a).bind λd=>(ae 6 b).map λe=>Yc d e
def cM(d:ur)(a b:W)(c:wb):Option Bool:=match d with|.Lt=>mE (λx y=>decide (x<y)) a b|.LtE=>mE (λx y=>decide (x<=y)) a b|.Gt=>mE (λx y=>decide (y<x)) a b|.GtE=>mE (λx y=>decide (y<=x)) a b|.Eq=>L4 a b|.NotEq=>(L4 a b).map (λx=> !x)|.Is=>qaJ a b|.IsNot=>Oh a b|.In=>qcx a b c|.NotIn=>(Ua a).bind λk=>(qcx (.int k) b c).map λx=> !x
def To(a:List W)(b:wb):fo:=(Ie (Ud a.length)).map λu=>(.l a,b)
def ZG(a:List W)(b:wb):fo:=(Ie (Ud a.length)).map λu=>(.t a,b)
def aY(a b:W)(c:wb):fo:=match a with|.int x=>(Ua b).map λy=>(.int (x+y),c)|.t d=>(ng b).bind λe=>ZG (d++e) c|a=>(Qe a c).bind λd=>(Qe b c).bind λe=>To (d++e) c
def i5(f:Int->Int->Option Int)(a b:W)(c:wb):fo:=(Ua a).bind λx=>(Ua b).bind λy=>(f x y).map λz=>(.int z,c)
def nY(d:Je)(a b:W)(c:wb):fo:=match d with|.Add=>aY a b c|.Sub=>i5 (λx y=>J (x - y)) a b c|.FloorDiv=>i5 NS a b c|.Mod=>i5 Hz a b c|.Pow=>i5 nU a b c|_=>Y
noncomputable def sP(a b:Int):List W:=(Ka (b - a).toNat).map λ(i:Nat)=>W.int (a+(i:Int))
def BH(a b:Int):Option (List W):=(Ie (Xo a b)).map λu=>sP a b
def au(w:W)(c:wb):Option (List W):=match w with|.t a=>J a|.rng a b=>BH a b|w=>Qe w c
def qet(w:W)(a:wb):Option (List W):=match w with|.t b=>J b|w=>Qe w a
def zl(a:List W):Option (List W):=(Ie (bc a.length 4900)).map λu=>a
def yN(z:W):Option (List W):=match z with|.t c=>J c|.rng a b=>BH a b|.l c=>J c|_=>Y
def uy(w:W):Option (List W):=(yN w).bind zl
def AZ(w:W)(b:wb):Option Int:=match w with|.t a=>J a.length|.iset a=>J (Ig a).length|w=>(Qe w b).map λa=>(a.length:Int)
def w9(b:Int):Option W:=(Ie (Xo 0 b)).map λu=>.rng 0 b
def A9(a b:Int):Option W:=(Ie (Xo a b)).map λu=>.rng a b
def B1(z:List W):Option W:=match z with|[b]=>(Ua b).bind w9|[a,b]=>(Ua a).bind λa=>(Ua b).bind (A9 a)|_=>Y
def nX(is:List Int):Option W:=(Ie (is.all λi=>decide (0<=i)&&decide (i<=2))).map λu=>.iset is
def bQ(is:List Int):Option (List W):=(Ie (bc is.length 60)).map λu=>(Xq is).map W.int
def PC(z:W):Option (List W):=match z with|.l a=>(Bl a).bind bQ|.dic b u=>bQ b|.iset a=>J ((Ig a).map W.int)|_=>Y
noncomputable def wx(a:wb)(w:Option W):fo:=w.map λw=>(w,a)
def qaL(f:Int->Int->Int)(p:W×W):Option W:=(mE f p.1 p.2).map .int
def H4(b:Bi)(a:List W)(c:wb):fo:=match b with|.len=>wx c (((one a).bind λx=>AZ x c).map .int)|.max=>wx c ((two a).bind (qaL max))|.min=>wx c ((two a).bind (qaL min))|.sum=>wx c ((((one a).bind λx=>Qe x c).bind Bl).map λis=>.int is.sum)|.sorted=>(((one a).bind λx=>mj x c).bind PC).bind λd=>To d c|.range=>wx c (B1 a)|.tuple=>((one a).bind λx=>au x c).bind λd=>ZG d c|.list=>((one a).bind ng).bind λd=>To d c|.set=>wx c ((((one a).bind λx=>qet x c).bind Bl).bind nX)
def qfe(m:Lm)(a:List W)(b:List W):Option W:=match m with|.index=>((one a).bind Ua).bind λk=>(Bl b).bind λis=>(d8 is k).map .int|.count=>((one a).bind Ua).bind λk=>(Bl b).map λis=>.int (is.count k)|_=>Y
def qaM(o:W)(n:Bb)(a:List W)(b:wb):fo:=(Vt n).bind λm=>(Qe o b).bind λc=>wx b (qfe m a c)
section
variable (V:Bh) (Q:Nat->Option (List Int)) (R:Yp)
def o7(k:Int)(b:wb)(z:W):fo:=match z with|.k (.ref a)=>(Q a).bind λc=>(Ie (decide (0<=k/\k<1000))).bind λu=>To ((c.map W.int).take k.toNat) b|_=>Y
noncomputable def VG(i:Nat)(p:W×wb):fo:=match p.1 with|.none=>J (.ref i,p.2)|_=>Y
def aG(c:List W)(d:wb)(z:W):fo:=match z with
 |.k (.ref a)=>(Tr c).bind λc=>match V.init a with|some g=>(R g (.ref d.length::c) (d++[⟨J a,[]⟩])).bind (VG d.length)|none=>R a c d
 |.k v=>(HD v).bind λb=>H4 b c d|_=>Y
noncomputable def SW(c:Nat)(n:Bb)(z:Option W):Option Nat:=match z with|none=>V.meth c n|some u=>Y
noncomputable def Mx(a:wb)(i:Nat):Option (Nat×List (Bb×W)):=(a[i]?).bind λo=>o.cls.map λc=>(c,o.fs)
inductive xD where
 |fn (f i:Nat)|lm (o:W)
def tU(n:Bb)(w:W)(a:wb):Option xD:=match w with|.ref i=>(Mx a i).bind λp=>(SW V p.1 n (ee p.2 n)).map λf=>.fn f i|o=>(Qe o a).map λu=>.lm o
def qbE(c:xD)(n:Bb)(a:List W)(b:wb):fo:=match c with|.fn f i=>R f (.ref i::a) b|.lm o=>qaM o n a b
noncomputable def B2(f:Nat)(a:wb)(j:Nat):Option Nat:=(Mx a j).bind λp=>if V.sup p.1=J f then J j else Y
def rM(d e:List W)(c:wb):fo:=(two d).bind λk=>(two e).bind λv=>(Zq k.1).bind λa=>(Zq k.2).bind λb=>if a=b then Y else J (.ref c.length,c++[⟨Y,[(a,v.1),(b,v.2)]⟩])
noncomputable def Dm(j:List Nat)(q:List W)(d:jc):Option jc:=match j,q,d with|[],[],a=>J a|i::is,v::b,a=>if i<a.length then Dm is b (a.set i (J v))else Y|u,y,z=>Y
def Hx(z:CT)(y:W)(u:jc):Option jc:=match z,y,u with|.x i,v,a=>if i<a.length then J (a.set i (J v))else Y|.t is,v,a=>(ng v).bind λb=>Dm is b a
noncomputable def wq(a:jc)(i:Nat):Bool:=match a[i]? with|some Y=>Z|_=>ta
noncomputable def Ul(j:List Nat)(q:List W)(d:jc):Option jc:=match j,q,d with|[],[],a=>J a|i::is,v::b,a=>if wq a i then Ul is b (a.set i (J v))else Y|u,y,z=>Y
def Uu(z:CT)(y:W)(u:jc):Option jc:=match z,y,u with|.x i,v,a=>if wq a i then J (a.set i (J v))else Y|.t is,v,a=>(ng v).bind λb=>Ul is b a
noncomputable def Yr(f:W->wb->iR)(z:List W)(y:wb):iR:=match z,y with|[],a=>J ([],a)|x::b,a=>(f x a).bind λp=>(Yr f b p.2).map λq=>(p.1++q.1,q.2)
noncomputable def Dw(k:jc->wb->Wk)(p:dW×jc×wb):Wk:=match p.1 with|.next=>k p.2.1 p.2.2|.ret u=>J p
noncomputable def Kv(f:W->jc->wb->Wk)(z:List W)(y:jc)(u:wb):Wk:=match z,y,u with|[],a,b=>J (.next,a,b)|x::c,a,b=>(f x a b).bind (Dw (Kv f c))
noncomputable def Lv(t:jc->wb->X3)(f:jc->wb->Wk)(z:Nat)(j:jc)(q:wb):Wk:=match z,j,q with|0,u,y=>Y|n+1,a,b=>(t a b).bind λp=>match p.1 with|false=>J (.next,a,p.2)|true=>(f a p.2).bind (Dw (Lv t f n))
noncomputable def Oe(a:jc)(i:Nat):Option W:=(a[i]?).bind id
mutual
noncomputable def fX(z:X)(d:jc)(g:wb):fo:=match z,d,g with
 |.x i,h,e=>(Oe h i).map λw=>(w,e)|.k v,y,e=>J (.k v,e)|.none,y,e=>J (.none,e)|.bool b,y,e=>J (.bool b,e)|.int i,y,e=>J (.int i,e)|.str s,y,e=>J (.str s,e)|.attr o n,h,e=>(fX o h e).bind λp=>((xk p.1).bind (Gx V n p.2)).map λv=>(v,p.2)|.sub o i,h,e=>(fX o h e).bind λp=>(fX i h p.2).bind λq=>(jV p.1 q.1 q.2).map λv=>(v,q.2)|.cut o k,h,e=>(fX o h e).bind λp=>o7 Q k p.2 p.1|.bin c a b,h,e=>(fX a h e).bind λp=>(fX b h p.2).bind λq=>nY c p.1 q.1 q.2|.neg a,h,e=>(fX a h e).bind λp=>(Ua p.1).map λi=>(.int (-i),p.2)|.cmp c a b,h,e=>(fX a h e).bind λp=>(fX b h p.2).bind λq=>(cM c p.1 q.1 q.2).map λr=>(.bool r,q.2)|.cmp2 f j a b c,h,e=>(fX a h e).bind λp=>(fX b h p.2).bind λq=>(cM f p.1 q.1 q.2).bind λr=>
  kn r ((fX c h q.2).bind λu=>(cM j q.1 u.1 u.2).map λr=>(.bool r,u.2)) (J (.bool ta,q.2))
 |.ite t a b,h,e=>(fT t h e).bind λp=>kn p.1 (fX a h p.2) (fX b h p.2)|.t a,h,e=>(uG a h e).bind λp=>ZG p.1 p.2|.list a,h,e=>(uG a h e).bind λp=>To p.1 p.2|.dict b f,h,e=>(uG b h e).bind λp=>(uG f h p.2).bind λq=>rM p.1 q.1 q.2|.comp k b j l rest m,h,e=>(fX b h e).bind λp=>(uy p.1).bind λa=>
  (Yr (λv e=>(Uu j v (h++Ia k Y)).bind λf=>(FM l f e).bind λq=>kn q.1 (sG rest (λh e=>(fX m h e).bind λr=>(mf r.1).map λw=>(w,r.2)) f q.2) (J ([],q.2))) a p.2).bind λq=>To q.1 q.2
 |.call f a,h,e=>(fX f h e).bind λp=>(N7 a h p.2).bind λq=>aG V R q.1 q.2 p.1|.meth o n a,h,e=>(fX o h e).bind λp=>(tU V n p.1 p.2).bind λc=>(uG a h p.2).bind λq=>qbE R c n q.1 q.2|.sup i f a,h,e=>(((Oe h i).bind xk).bind (B2 V f e)).bind λj=>(uG a h e).bind λp=>R f (.ref j::p.1) p.2
noncomputable def uG(z:List X)(y:jc)(j:wb):iR:=match z,y,j with|[],u,a=>J ([],a)|x::c,b,a=>(fX x b a).bind λp=>(mf p.1).bind λw=>(uG c b p.2).map λq=>(w::q.1,q.2)
noncomputable def N7(z:List X)(y:jc)(j:wb):iR:=match z,y,j with|[],u,a=>J ([],a)|x::c,b,a=>(fX x b a).bind λp=>(N7 c b p.2).map λq=>(p.1::q.1,q.2)
noncomputable def fT(z:B)(y:jc)(u:wb):X3:=match z,y,u with|.and a b,c,d=>(fT a c d).bind λp=>kn p.1 (fT b c p.2) (J (ta,p.2))|.or a b,c,d=>(fT a c d).bind λp=>kn p.1 (J (Z,p.2)) (fT b c p.2)|.not a,c,d=>(fT a c d).map λp=>(!p.1,p.2)|.wK x,c,d=>(fX x c d).bind λp=>(Ii p.1).map λb=>(b,p.2)
noncomputable def FM(z:List B)(y:jc)(j:wb):X3:=match z,y,j with|[],u,a=>J (Z,a)|t::c,b,a=>(fT t b a).bind λp=>kn p.1 (FM c b p.2) (J (ta,p.2))
noncomputable def sG(z:List G)(y:(jc->wb->fo))(u:jc)(j:wb):iR:=match z,y,u,j with
 |[],a,e,b=>(a e b).map λp=>([p.1],p.2)|.mk c f g::h,a,e,b=>(fX c e b).bind λp=>(uy p.1).bind λi=>
  Yr (λv b=>(Uu f v e).bind λd=>(FM g d b).bind λq=>kn q.1 (sG h a d q.2) (J ([],q.2))) i p.2
end
def GM(a b:X)(c:jc)(d:wb):fo:=(fX V Q R a c d).bind λp=>(mf p.1).bind λw=>(fX V Q R b c p.2).bind λq=>(Ua q.1).bind λk=>(Ie (decide (0<=k/\k<4096))).map λu=>(.o (.l (Ia k.toNat w)),q.2)
def K7(k v:X)(b:jc)(c:wb):fo:=(fX V Q R k b c).bind λp=>(Ua p.1).bind λa=>(fX V Q R v b p.2).bind λq=>(mf q.1).map λw=>(.o (.dic [a] [w]),q.2)
def JM(e:X)(a:jc)(b:wb):fo:=(fX V Q R e a b).bind λp=>(mf p.1).map λw=>(w,p.2)
noncomputable def wt(b:Je)(z:X):Option X:=match z with
 |.list [a]=>(match b with|.Mult=>J a|_=>Y)
 |_=>Y
def fV(z:X)(y:jc)(j:wb):fo:=match z,y,j with
 |.list a,f,d=>(uG V Q R a f d).bind λp=>(Ie (Ud p.1.length)).map λu=>(.o (.l p.1),p.2)|.dict a b,f,d=>(match a,b with|[],[]=>J (.o (.dic [] []),d)|[k],[v]=>K7 V Q R k v f d|a,b=>JM V Q R (.dict a b) f d)
 |.bin e a b,f,d=>(match wt e a with|some c=>GM V Q R c b f d|none=>JM V Q R (.bin e a b) f d)
 |e,f,d=>JM V Q R e f d
noncomputable def qaF(z:List X)(y:jc)(j:wb):iR:=match z,y,j with|[],u,a=>J ([],a)|x::c,b,a=>(fV V Q R x b a).bind λp=>(qaF c b p.2).map λq=>(p.1::q.1,q.2)
def Tz(j:Nat)(d v:W)(e:jc)(b:wb)(z:W):C4:=match z with|.o c=>(Ua d).bind λk=>(kP k v c).map λc=>(e.set j (J (.o c)),b)|.ref i=>(Zq d).bind λs=>((b[i]?).bind kO).bind λa=>(Ie (Ud a.length)).bind λu=>(QJ a s v).map λa=>(e,b.set i ⟨Y,a⟩)|_=>Y
def aw(n:Bb)(b v:W)(a:wb)(i:Nat):Option wb:=((di a i n).bind rK).bind λc=>(Ua b).bind λk=>(kP k v c).map λc=>Em a i n (.o c)
def Am(V:Bh)(n:Bb)(a:wb)(w:W):Option Nat:=(xk w).bind λi=>(Gx V n a i).bind λu=>((di a i n).bind rK).map λu=>i
def gT(o e:X)(v:W)(a:jc)(b:wb):C4:=match o with|.x j=>(fX V Q R e a b).bind λp=>(Oe a j).bind (Tz j p.1 v a p.2)|.attr o n=>(fX V Q R o a b).bind λp=>(Am V n p.2 p.1).bind λi=>(fX V Q R e a p.2).bind λq=>(aw n q.1 v q.2 i).map λb=>(a,b)|_=>Y
mutual
noncomputable def fP(z:T)(y:W)(j:jc)(q:wb):C4:=match z,y,j,q with|.x i,v,a,b=>(Ie (bc i a.length)).map λu=>(a.set i (J v),b)|.t c,v,a,b=>(ng v).bind λd=>L7 c d a b|.attr o n,v,a,b=>(fX V Q R o a b).bind λp=>((xk p.1).bind (Bo V n v p.2)).map λb=>(a,b)|.sub o e,v,a,b=>(mf v).bind λv=>gT V Q R o e v a b
noncomputable def L7(q:List T)(d:List W)(f:jc)(g:wb):C4:=match q,d,f,g with|[],[],a,b=>J (a,b)|t::c,v::e,a,b=>(fP t v a b).bind λp=>L7 c e p.1 p.2|u,y,z,j=>Y
end
noncomputable def eZ(p:jc×wb):dW×jc×wb:=(.next,p.1,p.2)
def sv(z:W):Option (List W):=match z with|.rng a b=>BH a b|.l a=>J a|_=>Y
def DZ(m:Lm)(v:W)(a:List W):Option (List W):=match m with|.append=>(Ie (Ud a.length)).map λu=>a++[v]|.extend=>(sv v).bind λb=>(Ie (Ud (a.length+b.length))).map λu=>a++b|_=>Y
def nN(k:Int)(v:W)(a:List W):Option (List W):=(Ie (decide (0<=k/\k<=a.length)&&Ud a.length)).map λu=>a.take k.toNat++v::a.drop k.toNat
def cs(w:W):Option (List W):=(rK w).bind El
def gY(m:Bb)(o e:X)(a:jc)(d:wb):Wk:=match o with|.x j=>((Oe a j).bind cs).bind λb=>(fX V Q R e a d).bind λp=>(mf p.1).bind λv=>(Vt m).bind λm=>(DZ m v b).map λc=>(.next,a.set j (J (.o (.l c))),p.2)|.attr o n=>(fX V Q R o a d).bind λq=>(Am V n q.2 q.1).bind λi=>((di q.2 i n).bind cs).bind λu=>(fX V Q R e a q.2).bind λp=>(mf p.1).bind λv=>(Vt m).bind λm=>((di p.2 i n).bind cs).bind λb=>(DZ m v b).map λc=>(.next,a,Em p.2 i n (.o (.l c)))|_=>Y
def kZ(o k e:X)(a:jc)(b:wb):Wk:=match o with|.x j=>((Oe a j).bind cs).bind λc=>(fX V Q R k a b).bind λq=>(Ua q.1).bind λk=>(fX V Q R e a q.2).bind λp=>(mf p.1).bind λv=>(nN k v c).map λd=>(.next,a.set j (J (.o (.l d))),p.2)|_=>Y
noncomputable def sF(e:X):Option (List X):=match e with|.t a=>J a|_=>Y
def hY(t:T)(e:X)(a:jc)(b:wb):Wk:=match t with
 |.t c=>(match sF e with|some d=>(qaF V Q R d a b).bind λp=>(Ie (Ud p.1.length)).bind λu=>(L7 V Q R c p.1 a p.2).map eZ|none=>(JM V Q R e a b).bind λp=>(fP V Q R (.t c) p.1 a p.2).map eZ)
 |t=>(fV V Q R e a b).bind λp=>(fP V Q R t p.1 a p.2).map eZ
def jY(n:Bb)(i e:X)(d:Je)(a:jc)(b:wb)(j:Nat):Wk:=(fX V Q R i a b).bind λq=>(jV (.fld j n) q.1 q.2).bind λc=>(fX V Q R e a q.2).bind λr=>
 (Ua c).bind λx=>(Ua r.1).bind λy=>(CL d x y).bind λz=>(aw n q.1 (.int z) r.2 j).map λb=>(.next,a,b)
noncomputable def pG(z:W):Option Unit:=match z with|.none=>J ()|.bool u=>J ()|_=>Y
noncomputable def j1(z:W):Option W:=match z with|.o c=>J c|.fld u y=>Y|w=>J w
def qbJ(e:X)(a:jc)(b:wb):fo:=match e with|.x i=>((Oe a i).bind j1).map λw=>(w,b)|e=>JM V Q R e a b
noncomputable def fm(z:List W):Option (List (List W)):=match z with|[]=>J []|w::a=>(ng w).bind λb=>(fm a).map λx=>b::x
def qA(z:List (List W)):Option (List W):=match z with|[b,a,c]=>(Ie (decide (b.length=a.length/\a.length=c.length))).map λu=>(b.zip (a.zip c)).map λp=>W.t [p.1,p.2.1,p.2.2]|_=>Y
variable (O:Nat->jc->wb->Wk)
mutual
noncomputable def fS(z:SF)(y:jc)(q:wb):Wk:=match z,y,q with|.q t e,d,f=>hY V Q R t e d f|.aug o n i a e,d,f=>(fX V Q R o d f).bind λp=>(Am V n p.2 p.1).bind λj=>jY V Q R n i e a d p.2 j|.expr e,d,f=>(fX V Q R e d f).bind λp=>(pG p.1).map λu=>(.next,d,p.2)|.app o m e,d,f=>gY V Q R m o e d f|.ins o k e,d,f=>kZ V Q R o k e d f|.ifs t a b,d,f=>(fT V Q R t d f).bind λp=>kn p.1 (hJ a d p.2) (hJ b d p.2)|.whil t b,d,f=>Lv (fT V Q R t) (λd f=>hJ b d f) 5000 d f|.fors t e b,d,f=>(fX V Q R e d f).bind λp=>(uy p.1).bind λc=>Kv (λv d f=>(Hx t v d).bind λa=>hJ b a f) c d p.2|.forz t g b,d,f=>(uG V Q R g d f).bind λp=>(((fm p.1).bind qA).bind zl).bind λc=>Kv (λv d f=>(Hx t v d).bind λa=>hJ b a f) c d p.2|.ret e,d,f=>(qbJ V Q R e d f).map λp=>(.ret p.1,d,p.2)|.frz i,d,f=>((Oe d i).bind rK).map λc=>(.next,d.set i (J c),f)|.blk i,d,f=>O i d f
noncomputable def hJ(z:List SF)(y:jc)(u:wb):Wk:=match z,y,u with|[],a,b=>J (.next,a,b)|s::c,a,b=>(fS s a b).bind (Dw (hJ c))
end
noncomputable def v7(p:dW×jc×wb):W×wb:=match p.1 with|.ret w=>(w,p.2.2)|.next=>(.none,p.2.2)
end
noncomputable def Hv(j:SF):Bool:=match j with|.whil u y=>Z|.fors u y z=>Z|.forz u y z=>Z|_=>ta
section
variable (V:Bh) (P:Nat->Option SF) (Q:Nat->Option (List Int)) (R:Yp)
noncomputable def Ge(q:Nat)(d:Nat)(f:jc)(g:wb):Wk:=match q,d,f,g with|0,y,z,j=>Y|n+1,i,a,b=>(P i).bind λs=>(Ie (Hv s)).bind λu=>fS V Q R (Ge n) s a b
def Wo(b:Sg)(a:List W)(c:wb):fo:=
 (Ie (Rb a.length b.params)).bind λu=>(hJ V Q R (Ge V P Q R 4) b.body (a.map J++Ia (b.slots - b.params) Y) c).map v7
end
mutual
noncomputable def Jd(z:W):Bool:=match z with|.t a=>Nb a|.l a=>Nb a|.dic u a=>Nb a|.ref u=>ta|_=>Z
noncomputable def Nb(z:List W):Bool:=match z with|[]=>Z|x::a=>Jd x&&Nb a
end
noncomputable def t9(a:wb)(p:W×wb):fo:=match p.2 with|[]=>J (p.1,a)|_=>Y
def YO(z:W):Bool:=match z with|.o c=>Jd c|w=>Jd w
noncomputable def Kf(z:List (Bb×W)):Bool:=match z with|[]=>Z|p::a=>YO p.2&&Kf a
noncomputable def qe(z:wb):Bool:=match z with|[]=>Z|o::os=>Kf o.fs&&qe os
def ul(m:Nat)(z:W):Option W:=match z with|.ref i=>if m<=i then J (.ref (i - m))else Y|w=>(Ie (Jd w)).map λu=>w
noncomputable def eB(m:Nat)(z:List W):Option (List W):=match z with|[]=>J []|w::a=>(ul m w).bind λv=>(eB m a).map λx=>v::x
def qfy(m:Nat)(a:wb)(p:W×wb):fo:=(Ie (Jd p.1&&qe (p.2.take (a.length - m)))).map λu=>(p.1,a.take m++p.2.take (a.length - m))
noncomputable def tq(z:List W):Option Nat:=match z with|.ref i::u=>J i|_=>Y
def U9(run:List W->wb->fo)(a:List W)(b:wb):fo:=
 (tq a).bind λm=>(Ie (decide (m<=b.length))).bind λu=>(eB m a).bind λc=>(Ie (qe (b.drop m))).bind λu=>(run c (b.drop m)).bind (qfy m b)
def vt(d:Md)(run b:List W->wb->fo)(a:List W)(c:wb):fo:=match d with|.all=>run a c|.pure=>(Ie (Nb a)).bind λu=>(b a []).bind (t9 c)|.sub=>U9 run a c
noncomputable def Mb(V:Bh)(P:Nat->Option SF)(b:Nat->Option Sg):Nat->(Nat->Option (List Int))->Yp
 |0,y,z,j,q=>Y|n+1,Q,a,c,e=>(b a).bind λd=>vt d.mode (Wo V P Q (Mb V P b n Q) d) (Wo V P (λu=>Y) (Mb V P b n λu=>Y) d) c e
mutual
noncomputable def XS(c:Nat->S)(z:SF):Option S:=match z with|.q t e=>J (.assign t e)|.aug o n i a e=>J (.aug (.attr o n) i a e)|.expr e=>J (.expr e)|.app o m e=>J (.expr (.meth o m [e]))|.ins o k e=>J (.expr (.meth o "insert" [k,e]))|.ifs t a b=>J (.ifs t (nv c a) (nv c b))|.whil t b=>J (.whil t (nv c b))|.fors t e b=>J (.fors t e (nv c b))|.forz t a b=>J (.forz t a (nv c b))|.ret e=>J (.ret e)|.frz u=>Y|.blk i=>J (c i)
noncomputable def nv(a:Nat->S)(z:List SF):List S:=match z with|[]=>[]|s::b=>match XS a s with|some c=>c::nv a b|none=>nv a b
end
noncomputable def N4(P:Nat->Option SF)(z:Nat)(y:Nat):S:=match z,y with|0,u=>.expr .none|n+1,i=>((P i).bind (XS (N4 P n))).getD (.expr .none)
def O4(P:Nat->Option SF)(a:Sg):Fn:=⟨a.params,a.slots,nv (N4 P 4) a.body⟩
noncomputable def f6:SF:=.fors (.x 5) (.sub (.attr (.x 0) "able") (.x 1)) [.q (.sub (.x 2) (.x 5)) (.t [(.x 1),(.neg (.int 1))]),.app (.x 3) "append" (.x 5)]
noncomputable def i6:SF:=.whil (.wK (.cmp .Lt (.x 4) (.call (.k (.builtin "len")) [(.x 3)]))) [.q (.t [(.x 6),(.x 4)]) (.t [(.sub (.x 3) (.x 4)),(.bin .Add (.x 4) (.int 1))]),.ifs (.wK (.cmp .Lt (.sub (.attr (.x 0) "counts") (.x 6)) (.sub (.attr (.x 0) "highs") (.x 6)))) [.aug (.x 0) "counts" (.x 6) .Add (.int 1),.blk 3353,.ret .none] [],.blk 3354]
noncomputable def j6:SF:=.whil (.wK (.cmp .GtE (.x 6) (.int 0))) [.q (.t [(.x 7),(.x 8)]) (.sub (.x 2) (.x 6)),.q (.sub (.attr (.x 0) "at") (.x 7)) (.x 6),.q (.x 6) (.x 8)]
noncomputable def l6:SF:=.fors (.x 7) (.meth (.x 0) "members_at" [(.x 6)]) [.blk 3355]
noncomputable def n6:SF:=.fors (.x 5) (.sub (.attr (.x 0) "able") (.x 7)) [.ifs (.wK (.cmp .NotIn (.x 5) (.x 2))) [.q (.sub (.x 2) (.x 5)) (.t [(.x 7),(.x 6)]),.app (.x 3) "append" (.x 5)] []]
noncomputable def o6:SF:=.whil (.wK (.cmp .Lt (.x 4) (.call (.k (.builtin "len")) [(.x 3)]))) [.q (.t [(.x 5),(.x 4)]) (.t [(.sub (.x 3) (.x 4)),(.bin .Add (.x 4) (.int 1))]),.blk 3422]
noncomputable def u6:SF:=.fors (.x 6) (.call (.k (.type "range")) [(.call (.k (.builtin "len")) [(.attr (.x 0) "at")])]) [.q (.x 7) (.sub (.attr (.x 0) "at") (.x 6)),.ifs (.and (.wK (.cmp .In (.x 5) (.sub (.attr (.x 0) "able") (.x 6)))) (.wK (.cmp .NotIn (.x 7) (.x 2)))) [.q (.sub (.x 2) (.x 7)) (.t [(.x 6),(.x 5)]),.app (.x 3) "append" (.x 7),.ifs (.wK (.cmp .Gt (.sub (.attr (.x 0) "counts") (.x 7)) (.sub (.attr (.x 0) "lows") (.x 7)))) [.frz 2,.expr (.meth (.x 0) "move_along" [(.x 7),(.x 1),(.x 2)]),.ret .none] []] []]
noncomputable def v6:SF:=.whil (.wK (.cmp .NotEq (.x 1) (.x 2))) [.q (.t [(.x 4),(.x 1)]) (.sub (.x 3) (.x 1)),.q (.sub (.attr (.x 0) "at") (.x 4)) (.x 1)]
noncomputable def w6:SF:=.whil (.wK (.cmp .Lt (.x 4) (.call (.k (.builtin "len")) [(.x 3)]))) [.q (.t [(.x 6),(.x 4),(.x 7)]) (.t [(.sub (.x 3) (.x 4)),(.bin .Add (.x 4) (.int 1)),(.list [])]),.ifs (.and (.not (.wK (.x 5))) (.wK (.cmp .Lt (.sub (.attr (.x 0) "counts") (.x 6)) (.sub (.attr (.x 0) "highs") (.x 6))))) [.q (.x 5) (.bool Z),.app (.x 7) "extend" (.comp 2 (.call (.k (.type "range")) [(.call (.k (.builtin "len")) [(.attr (.x 0) "lows")])]) (.x 11) [(.wK (.cmp .Gt (.sub (.attr (.x 0) "counts") (.x 11)) (.sub (.attr (.x 0) "lows") (.x 11))))] [] (.x 11))] [],.blk 3542,.frz 7,.blk 3543]
noncomputable def A6:SF:=.fors (.x 9) (.meth (.x 0) "members_at" [(.x 6)]) [.app (.x 7) "extend" (.sub (.attr (.x 0) "able") (.x 9))]
noncomputable def B6:SF:=.fors (.x 8) (.x 7) [.ifs (.wK (.cmp .NotIn (.x 8) (.x 2))) [.q (.sub (.x 2) (.x 8)) (.bool Z),.app (.x 3) "append" (.x 8)] []]
noncomputable def C6:SF:=.forz (.t [5,6,7]) [(.x 2),(.x 3),(.x 4)] [.expr (.meth (.x 0) "want" [(.x 5),(.call (.k (.builtin "max")) [(.x 6),(.int 0)]),(.x 7)])]
noncomputable def D6:SF:=.fors (.x 5) (.call (.k (.type "range")) [(.call (.k (.builtin "len")) [(.attr (.x 0) "taken")])]) [.q (.x 6) (.meth (.x 4) "place" [(.x 5)]),.ifs (.wK (.cmp .IsNot (.x 6) .none)) [.q (.x 2) (.sub (.attr (.x 0) "taken") (.x 5)),.ret (.meth (.x 1) "fail" [(.bin .Add (.meth (.x 0) "confined" [(.x 1),(.x 4),(.x 6)]) (.call (.k (.ref 309)) [(.x 2),(.meth (.x 1) "dom" [(.x 2)])]))])] []]
noncomputable def F6:SF:=.fors (.x 7) (.call (.k (.type "range")) [(.call (.k (.builtin "len")) [(.attr (.x 0) "wanted")])]) [.blk 4013]
noncomputable def oW:SF:=.whil (.wK (.cmp .Lt (.sub (.attr (.x 4) "counts") (.x 7)) (.sub (.attr (.x 0) "lows") (.x 7)))) [.q (.x 8) (.meth (.x 4) "fill" [(.x 7)]),.ifs (.wK (.cmp .IsNot (.x 8) .none)) [.ret (.meth (.x 1) "fail" [(.meth (.x 0) "lacking" [(.x 4),(.x 8)])])] []]
noncomputable def pW:SF:=.fors (.x 7) (.call (.k (.type "range")) [(.bin .Add (.call (.k (.builtin "len")) [(.attr (.x 0) "wanted")]) (.int 1))]) [.ifs (.not (.wK (.meth (.x 0) "strike_option" [(.x 1),(.x 4),(.x 7)]))) [.ret (.bool ta)] []]
noncomputable def G6:SF:=.fors (.x 5) (.x 3) [.blk 4082]
noncomputable def H6:SF:=.fors (.x 6) (.meth (.x 2) "members_at" [(.x 5)]) [.app (.x 4) "extend" (.call (.k (.ref 309)) [(.sub (.attr (.x 0) "taken") (.x 6)),(.meth (.x 1) "dom" [(.sub (.attr (.x 0) "taken") (.x 6))])])]
noncomputable def I6:SF:=.fors (.x 4) (.call (.k (.type "range")) [(.call (.k (.builtin "len")) [(.attr (.x 0) "taken")])]) [.ifs (.wK (.cmp .NotIn (.sub (.attr (.x 1) "at") (.x 4)) (.x 2))) [.app (.x 3) "extend" (.comp 2 (.x 2) (.x 6) [] [] (.t [(.sub (.attr (.x 0) "taken") (.x 4)),(.str "!="),(.sub (.attr (.x 0) "wanted") (.x 6))]))] []]
noncomputable def J6:SF:=.fors (.x 9) (.x 6) [.q (.x 10) (.sub (.attr (.x 0) "taken") (.x 9)),.q (.x 12) (.comp 2 (.call (.k (.ref 61)) [(.meth (.x 1) "dom" [(.x 10)])]) (.x 14) [(.wK (.cmp .NotIn (.x 14) (.attr (.x 0) "wanted")))] [] (.x 14)),.blk 4182]
noncomputable def K6:SF:=.fors (.x 11) (.ite (.wK (.cmp .Lt (.x 3) (.call (.k (.builtin "len")) [(.attr (.x 0) "wanted")]))) (.list [(.sub (.attr (.x 0) "wanted") (.x 3))]) (.x 12)) [.ifs (.not (.wK (.meth (.x 1) "strike" [(.t [(.x 10),(.str "!="),(.x 11)]),(.x 8)]))) [.ret (.bool ta)] []]
noncomputable def L6:SF:=.forz (.t [2,3,4]) [(.sub (.attr (.x 0) "rows") (.int 0)),(.sub (.attr (.x 0) "rows") (.int 1)),(.sub (.attr (.x 0) "rows") (.int 2))] [.ifs (.not (.wK (.cmp2 .LtE .LtE (.x 3) (.meth (.call (.k (.type "list")) [(.x 1)]) "count" [(.x 2)]) (.x 4)))) [.ret (.bool ta)] []]
noncomputable def N6:SF:=.fors (.x 2) (.x 0) [.q (.x 1) (.comp 3 (.x 1) (.x 4) [] [.mk (.x 2) (.x 5) []] (.bin .Add (.x 4) (.t [(.x 5)])))]
def qeR:List (Nat×SF):=[(3351,f6),(3352,i6),(3353,j6),(3354,l6),(3355,n6),(3421,o6),(3422,u6),(3491,v6),(3541,w6),(3542,A6),(3543,B6),(3771,C6),(4011,D6),(4012,F6),(4013,oW),(4014,pW),(4081,G6),(4082,H6),(4131,I6),(4181,J6),(4182,K6),(4251,L6),(4561,N6)]
def Ib(i:Nat):Option SF:=qeR.lookup i
noncomputable def qdZ:Sg:=⟨1,1,.pure,[.ret (.sub (.sub (.x 0) (.int 0)) (.int 0))]⟩
noncomputable def qea:Sg:=⟨1,1,.pure,[.ret (.sub (.sub (.x 0) (.neg (.int 1))) (.int 1))]⟩
noncomputable def qeb:Sg:=⟨1,1,.pure,[.ret (.call (.k (.builtin "sum")) [(.comp 3 (.x 0) (.t [2,3]) [] [] (.bin .Add (.bin .Sub (.x 3) (.x 2)) (.int 1)))])]⟩
noncomputable def qec:Sg:=⟨2,4,.pure,[.fors (.t [2,3]) (.x 0) [.ifs (.wK (.cmp .LtE (.x 1) (.x 3))) [.ret (.call (.k (.builtin "max")) [(.x 2),(.x 1)])] []],.ret .none]⟩
noncomputable def qed:Sg:=⟨2,2,.pure,[.ret (.cmp .Eq (.call (.k (.ref 47)) [(.x 0),(.x 1)]) (.x 1))]⟩
noncomputable def qee:Sg:=⟨1,4,.pure,[.q (.x 1) (.list []),.fors (.t [2,3]) (.x 0) [.app (.x 1) "extend" (.call (.k (.type "range")) [(.x 2),(.bin .Add (.x 3) (.int 1))])],.ret (.x 1)]⟩
noncomputable def qef:Sg:=⟨2,2,.pure,[.ret (.call (.k (.type "tuple")) [(.comp 3 (.x 0) (.t [3,4]) [(.wK (.cmp .LtE (.x 3) (.x 1)))] [] (.t [(.x 3),(.call (.k (.builtin "min")) [(.x 4),(.x 1)])]))])]⟩
noncomputable def qeg:Sg:=⟨2,2,.pure,[.ret (.call (.k (.type "tuple")) [(.comp 3 (.x 0) (.t [3,4]) [(.wK (.cmp .GtE (.x 4) (.x 1)))] [] (.t [(.call (.k (.builtin "max")) [(.x 3),(.x 1)]),(.x 4)]))])]⟩
noncomputable def qeh:Sg:=⟨2,2,.pure,[.ret (.bin .Add (.call (.k (.ref 66)) [(.x 0),(.bin .Sub (.x 1) (.int 1))]) (.call (.k (.ref 71)) [(.x 0),(.bin .Add (.x 1) (.int 1))]))]⟩
noncomputable def qei:Sg:=⟨2,7,.pure,[.q (.t [(.x 2),(.x 3),(.x 4)]) (.t [(.list []),(.int 0),(.int 0)]),.whil (.and (.wK (.cmp .Lt (.x 3) (.call (.k (.builtin "len")) [(.x 0)]))) (.wK (.cmp .Lt (.x 4) (.call (.k (.builtin "len")) [(.x 1)])))) [.q (.t [(.x 5),(.x 6)]) (.t [(.call (.k (.builtin "max")) [(.sub (.sub (.x 0) (.x 3)) (.int 0)),(.sub (.sub (.x 1) (.x 4)) (.int 0))]),(.call (.k (.builtin "min")) [(.sub (.sub (.x 0) (.x 3)) (.int 1)),(.sub (.sub (.x 1) (.x 4)) (.int 1))])]),.ifs (.wK (.cmp .LtE (.x 5) (.x 6))) [.app (.x 2) "append" (.t [(.x 5),(.x 6)])] [],.ifs (.wK (.cmp .Lt (.sub (.sub (.x 0) (.x 3)) (.int 1)) (.sub (.sub (.x 1) (.x 4)) (.int 1)))) [.q (.x 3) (.bin .Add (.x 3) (.int 1))] [.q (.x 4) (.bin .Add (.x 4) (.int 1))]],.ret (.call (.k (.type "tuple")) [(.x 2)])]⟩
noncomputable def qej:Sg:=⟨1,4,.pure,[.q (.t [(.x 1),(.x 2),(.x 3)]) (.x 0),.ifs (.wK (.cmp .Eq (.x 2) (.str "<="))) [.ret (.t [(.x 1),(.str ">="),(.bin .Add (.x 3) (.int 1))])] [],.ifs (.wK (.cmp .Eq (.x 2) (.str ">="))) [.ret (.t [(.x 1),(.str "<="),(.bin .Sub (.x 3) (.int 1))])] [],.ret (.ite (.wK (.cmp .Eq (.x 2) (.str "="))) (.t [(.x 1),(.str "!="),(.x 3)]) (.t [(.x 1),(.str "="),(.x 3)]))]⟩
noncomputable def qek:Sg:=⟨2,4,.pure,[.q (.t [(.x 2),(.x 3)]) (.t [(.sub (.x 0) (.int 1)),(.sub (.x 0) (.int 2))]),.ifs (.wK (.cmp .Eq (.x 2) (.str "<="))) [.ret (.call (.k (.ref 66)) [(.x 1),(.x 3)])] [],.ifs (.wK (.cmp .Eq (.x 2) (.str ">="))) [.ret (.call (.k (.ref 71)) [(.x 1),(.x 3)])] [],.ret (.ite (.wK (.cmp .Eq (.x 2) (.str "="))) (.call (.k (.ref 85)) [(.x 1),(.t [(.t [(.x 3),(.x 3)])])]) (.call (.k (.ref 78)) [(.x 1),(.x 3)]))]⟩
noncomputable def P7:Sg:=⟨2,3,.pure,[.q (.x 2) (.call (.k (.ref 99)) [(.x 0),(.x 1)]),.ifs (.wK (.cmp .Eq (.x 2) (.x 1))) [.ret (.int 1)] [],.ret (.ite (.wK (.cmp .Eq (.x 2) (.t []))) (.neg (.int 1)) (.int 0))]⟩
noncomputable def qbO:Sg:=⟨1,1,.sub,[.q (.attr (.x 0) "domains") (.list []),.q (.attr (.x 0) "firsts") (.list []),.q (.attr (.x 0) "trail") (.list []),.q (.attr (.x 0) "marks") (.list []),.q (.attr (.x 0) "news") (.dict [] []),.q (.attr (.x 0) "speaker") (.neg (.int 1)),.q (.attr (.x 0) "is_failed") (.bool ta),.q (.attr (.x 0) "clash") (.t [])]⟩
noncomputable def qbP:Sg:=⟨2,2,.sub,[.app (.attr (.x 0) "domains") "append" (.x 1),.app (.attr (.x 0) "firsts") "append" (.x 1),.ifs (.wK (.cmp .Eq (.x 1) (.t []))) [.expr (.meth (.x 0) "fail" [(.t [])])] [],.ret (.bin .Sub (.call (.k (.builtin "len")) [(.attr (.x 0) "domains")]) (.int 1))]⟩
noncomputable def qbQ:Sg:=⟨1,1,.all,[.ret (.call (.k (.builtin "len")) [(.attr (.x 0) "domains")])]⟩
noncomputable def qbR:Sg:=⟨2,2,.all,[.ret (.sub (.attr (.x 0) "domains") (.x 1))]⟩
noncomputable def qbS:Sg:=⟨2,2,.all,[.ret (.call (.k (.ref 28)) [(.sub (.attr (.x 0) "domains") (.x 1))])]⟩
noncomputable def qbT:Sg:=⟨2,2,.all,[.ret (.call (.k (.ref 35)) [(.sub (.attr (.x 0) "domains") (.x 1))])]⟩
noncomputable def qbU:Sg:=⟨3,3,.all,[.ret (.call (.k (.ref 54)) [(.sub (.attr (.x 0) "domains") (.x 1)),(.x 2)])]⟩
noncomputable def qbV:Sg:=⟨2,2,.all,[.ret (.sub (.sub (.sub (.attr (.x 0) "domains") (.x 1)) (.int 0)) (.int 0))]⟩
noncomputable def qbW:Sg:=⟨2,2,.all,[.ret (.call (.k (.ref 40)) [(.sub (.attr (.x 0) "domains") (.x 1))])]⟩
noncomputable def qbX:Sg:=⟨2,2,.sub,[.ret (.call (.k (.ref 106)) [(.x 1),(.sub (.attr (.x 0) "domains") (.sub (.x 1) (.int 0)))])]⟩
noncomputable def qbY:Sg:=⟨4,7,.all,[.q (.x 4) (.sub (.x 1) (.int 0)),.q (.x 5) (.sub (.attr (.x 0) "domains") (.x 4)),.q (.x 6) (.call (.k (.ref 99)) [(.x 1),(.x 5)]),.ifs (.wK (.cmp .Eq (.x 6) (.t []))) [.ret (.meth (.x 0) "fail" [(.bin .Add (.ite (.wK (.cmp .Is (.x 2) .none)) (.t []) (.x 2)) (.t [(.call (.k (.ref 92)) [(.x 1)])]))])] [],.ifs (.wK (.cmp .Eq (.x 6) (.x 5))) [.ret (.bool Z)] [],.app (.attr (.x 0) "trail") "append" (.t [(.x 4),(.x 5),(.x 1),(.x 2),(.x 3)]),.q (.sub (.attr (.x 0) "domains") (.x 4)) (.x 6),.q (.sub (.attr (.x 0) "news") (.x 4)) (.bool Z),.ret (.bool Z)]⟩
noncomputable def qbZ:Sg:=⟨3,3,.all,[.ret (.meth (.x 0) "enter" [(.x 1),(.call (.k (.type "tuple")) [(.x 2)]),(.attr (.x 0) "speaker")])]⟩
noncomputable def qca:Sg:=⟨2,2,.sub,[.ret (.meth (.x 0) "enter" [(.x 1),.none,(.neg (.int 1))])]⟩
noncomputable def qcb:Sg:=⟨2,2,.all,[.q (.attr (.x 0) "is_failed") (.bool Z),.q (.attr (.x 0) "clash") (.call (.k (.type "tuple")) [(.x 1)]),.ret (.bool ta)]⟩
noncomputable def qcc:Sg:=⟨1,1,.sub,[.app (.attr (.x 0) "marks") "append" (.call (.k (.builtin "len")) [(.attr (.x 0) "trail")])]⟩
noncomputable def qcd:Sg:=⟨3,3,.all,[.q (.attr (.x 0) "number") (.neg (.int 1)),.q (.attr (.x 0) "scope") (.call (.k (.type "tuple")) [(.x 1)]),.q (.attr (.x 0) "strength") (.x 2)]⟩
noncomputable def qce:Sg:=⟨2,2,.all,[.ret (.cmp .Eq (.call (.k (.builtin "len")) [(.x 1)]) (.call (.k (.builtin "len")) [(.attr (.x 0) "scope")]))]⟩
noncomputable def qcf:Sg:=⟨1,1,.all,[.ret (.t [])]⟩
noncomputable def Q7:Sg:=⟨2,7,.pure,[.q (.t [(.x 2),(.x 3)]) (.t [(.list [(.t [(.x 0),(.str ">="),(.call (.k (.ref 28)) [(.x 1)])]),(.t [(.x 0),(.str "<="),(.call (.k (.ref 35)) [(.x 1)])])]),(.bin .Sub (.call (.k (.ref 28)) [(.x 1)]) (.int 1))]),.fors (.t [4,5]) (.x 1) [.fors (.x 6) (.call (.k (.type "range")) [(.bin .Add (.x 3) (.int 1)),(.x 4)]) [.app (.x 2) "append" (.t [(.x 0),(.str "!="),(.x 6)])],.q (.x 3) (.x 5)],.ret (.x 2)]⟩
noncomputable def qcg:Sg:=⟨4,4,.all,[.q (.attr (.x 0) "able") (.x 1),.q (.attr (.x 0) "lows") (.x 2),.q (.attr (.x 0) "highs") (.x 3),.q (.attr (.x 0) "at") (.bin .Mult (.list [(.neg (.int 1))]) (.call (.k (.builtin "len")) [(.x 1)])),.q (.attr (.x 0) "counts") (.bin .Mult (.list [(.int 0)]) (.call (.k (.builtin "len")) [(.x 2)]))]⟩
noncomputable def qch:Sg:=⟨2,2,.all,[.ret (.comp 2 (.call (.k (.type "range")) [(.call (.k (.builtin "len")) [(.attr (.x 0) "at")])]) (.x 3) [(.wK (.cmp .Eq (.sub (.attr (.x 0) "at") (.x 3)) (.x 1)))] [] (.x 3))]⟩
noncomputable def qci:Sg:=⟨2,9,.all,[.q (.t [(.x 2),(.x 3),(.x 4)]) (.t [(.dict [] []),(.list []),(.int 0)]),.blk 3351,.blk 3352,.ret (.call (.k (.builtin "sorted")) [(.x 3)])]⟩
noncomputable def R7:Sg:=⟨2,8,.all,[.q (.t [(.x 2),(.x 3),(.x 4)]) (.t [(.dict [(.x 1)] [(.t [(.neg (.int 1)),(.neg (.int 1))])]),(.list [(.x 1)]),(.int 0)]),.blk 3421,.ret (.call (.k (.builtin "sorted")) [(.x 3)])]⟩
noncomputable def S7:Sg:=⟨4,5,.all,[.aug (.x 0) "counts" (.x 1) .Sub (.int 1),.aug (.x 0) "counts" (.x 2) .Add (.int 1),.blk 3491]⟩
noncomputable def T7:Sg:=⟨2,10,.all,[.q (.t [(.x 2),(.x 3),(.x 4),(.x 5)]) (.t [(.dict [(.x 1)] [(.bool Z)]),(.list [(.x 1)]),(.int 0),(.bool ta)]),.blk 3541,.ret (.t [(.call (.k (.builtin "sorted")) [(.x 2)]),(.x 5)])]⟩
noncomputable def qcj:Sg:=⟨5,8,.sub,[.expr (.sup 0 274 [(.x 1),(.str "values")]),.q (.attr (.x 0) "taken") (.call (.k (.type "tuple")) [(.x 1)]),.q (.attr (.x 0) "rows") (.t [(.call (.k (.type "tuple")) [(.x 2)]),(.call (.k (.type "tuple")) [(.x 3)]),(.call (.k (.type "tuple")) [(.x 4)])]),.q (.attr (.x 0) "wanted") (.list []),.q (.attr (.x 0) "lows") (.list []),.q (.attr (.x 0) "highs") (.list []),.blk 3771,.q (.attr (.x 0) "has_twins") (.cmp .Lt (.call (.k (.builtin "len")) [(.call (.k (.type "set")) [(.x 1)])]) (.call (.k (.builtin "len")) [(.attr (.x 0) "taken")]))]⟩
noncomputable def qck:Sg:=⟨4,5,.all,[.ifs (.wK (.cmp .In (.x 1) (.attr (.x 0) "wanted"))) [.q (.x 4) (.meth (.attr (.x 0) "wanted") "index" [(.x 1)]),.q (.t [(.sub (.attr (.x 0) "lows") (.x 4)),(.sub (.attr (.x 0) "highs") (.x 4))]) (.t [(.call (.k (.builtin "max")) [(.sub (.attr (.x 0) "lows") (.x 4)),(.x 2)]),(.call (.k (.builtin "min")) [(.sub (.attr (.x 0) "highs") (.x 4)),(.x 3)])])] [.app (.attr (.x 0) "wanted") "append" (.x 1),.app (.attr (.x 0) "lows") "append" (.x 2),.app (.attr (.x 0) "highs") "append" (.x 3)]]⟩
noncomputable def qcl:Sg:=⟨3,4,.all,[.q (.x 3) (.comp 2 (.call (.k (.type "range")) [(.call (.k (.builtin "len")) [(.attr (.x 0) "wanted")])]) (.x 5) [(.wK (.meth (.x 1) "has" [(.x 2),(.sub (.attr (.x 0) "wanted") (.x 5))]))] [] (.x 5)),.ret (.ite (.wK (.cmp .Gt (.meth (.x 1) "width" [(.x 2)]) (.call (.k (.builtin "len")) [(.x 3)]))) (.bin .Add (.x 3) (.list [(.call (.k (.builtin "len")) [(.attr (.x 0) "wanted")])])) (.x 3))]⟩
noncomputable def U7:Sg:=⟨2,3,.all,[.q (.x 2) (.neg (.int 1)),.whil (.wK (.cmp .Lt (.x 2) (.call (.k (.builtin "len")) [(.attr (.x 1) "trail")]))) [.q (.x 2) (.call (.k (.builtin "len")) [(.attr (.x 1) "trail")]),.ifs (.not (.wK (.meth (.x 0) "strike_once" [(.x 1)]))) [.ret (.bool ta)] [],.ifs (.not (.wK (.attr (.x 0) "has_twins"))) [.ret (.bool Z)] []],.ret (.bool Z)]⟩
noncomputable def V7:Sg:=⟨2,9,.all,[.ifs (.wK (.cmp .NotEq (.comp 2 (.call (.k (.type "range")) [(.call (.k (.builtin "len")) [(.attr (.x 0) "wanted")])]) (.x 10) [(.wK (.cmp .Gt (.sub (.attr (.x 0) "lows") (.x 10)) (.sub (.attr (.x 0) "highs") (.x 10))))] [] (.x 10)) (.list []))) [.ret (.meth (.x 1) "fail" [(.t [])])] [],.q (.x 3) (.comp 2 (.attr (.x 0) "taken") (.x 10) [] [] (.meth (.x 0) "options_of" [(.x 1),(.x 10)])),.q (.x 4) (.call (.k (.ref 357)) [(.x 3),(.bin .Add (.attr (.x 0) "lows") (.list [(.int 0)])),(.bin .Add (.attr (.x 0) "highs") (.list [(.bin .Add (.call (.k (.builtin "len")) [(.attr (.x 0) "taken")]) (.int 1))]))]),.blk 4011,.blk 4012,.blk 4014,.ret (.bool Z)]⟩
noncomputable def qcm:Sg:=⟨4,7,.all,[.q (.x 4) (.list []),.blk 4081,.ret (.x 4)]⟩
noncomputable def qcn:Sg:=⟨3,5,.all,[.q (.x 3) (.list []),.blk 4131,.ret (.x 3)]⟩
noncomputable def W7:Sg:=⟨4,13,.all,[.q (.t [(.x 4),(.x 5)]) (.meth (.x 2) "reached" [(.x 3)]),.q (.x 6) (.comp 2 (.call (.k (.type "range")) [(.call (.k (.builtin "len")) [(.attr (.x 0) "taken")])]) (.x 14) [(.and (.wK (.cmp .In (.x 3) (.sub (.attr (.x 2) "able") (.x 14)))) (.wK (.cmp .NotIn (.sub (.attr (.x 2) "at") (.x 14)) (.x 4))))] [] (.x 14)),.ifs (.wK (.cmp .Eq (.x 6) (.list []))) [.ret (.bool Z)] [],.ifs (.wK (.x 5)) [.q (.x 7) (.comp 2 (.call (.k (.type "range")) [(.call (.k (.builtin "len")) [(.attr (.x 0) "wanted")])]) (.x 14) [(.and (.wK (.cmp .NotIn (.x 14) (.x 4))) (.wK (.cmp .Gt (.sub (.attr (.x 0) "lows") (.x 14)) (.int 0))))] [] (.x 14)),.q (.x 8) (.meth (.x 0) "lacking" [(.x 2),(.x 7)])] [.q (.x 8) (.meth (.x 0) "confined" [(.x 1),(.x 2),(.x 4)])],.blk 4181,.ret (.bool Z)]⟩
noncomputable def qco:Sg:=⟨2,5,.sub,[.blk 4251,.ret (.bool Z)]⟩
noncomputable def qcp:Sg:=⟨1,1,.sub,[.ret (.bin .Add (.t [(.str "cardinality"),(.attr (.x 0) "taken")]) (.attr (.x 0) "rows"))]⟩
noncomputable def qcq:Sg:=⟨2,2,.all,[.q (.sub (.x 0) (.str "at")) (.bin .Add (.sub (.x 0) (.str "at")) (.int 1)),.ifs (.wK (.cmp .Gt (.sub (.x 0) (.str "at")) (.call (.k (.builtin "len")) [(.sub (.x 0) (.str "cells"))]))) [.ret (.int 0)] [],.ret (.bin .Mod (.sub (.sub (.x 0) (.str "cells")) (.bin .Sub (.sub (.x 0) (.str "at")) (.int 1))) (.x 1))]⟩
noncomputable def X7:Sg:=⟨1,3,.pure,[.q (.x 1) (.list []),.fors (.x 2) (.x 0) [.ifs (.and (.wK (.cmp .NotEq (.x 1) (.list []))) (.wK (.cmp .Eq (.sub (.sub (.x 1) (.neg (.int 1))) (.int 1)) (.bin .Sub (.x 2) (.int 1))))) [.q (.sub (.x 1) (.neg (.int 1))) (.t [(.sub (.sub (.x 1) (.neg (.int 1))) (.int 0)),(.x 2)])] [.app (.x 1) "append" (.t [(.x 2),(.x 2)])]],.ret (.call (.k (.type "tuple")) [(.x 1)])]⟩
noncomputable def cZ:Sg:=⟨1,3,.pure,[.q (.x 1) (.list [(.t [])]),.frz 1,.blk 4561,.ret (.x 1)]⟩
noncomputable def dZ:Sg:=⟨2,2,.pure,[.ret (.cmp .Eq (.comp 4 (.x 1) (.t [3,4,5]) [(.not (.wK (.cmp2 .LtE .LtE (.x 4) (.call (.k (.builtin "len")) [(.comp 2 (.x 0) (.x 7) [(.wK (.cmp .Eq (.x 7) (.x 3)))] [] (.x 7))]) (.x 5))))] [] (.x 3)) (.list []))]⟩
noncomputable def kJ:Sg:=⟨2,5,.all,[.q (.x 2) (.call (.k (.ref 256)) []),.q (.x 3) (.call (.k (.type "tuple")) [(.comp 2 (.x 0) (.x 6) [] [] (.meth (.x 2) "new_var" [(.call (.k (.ref 451)) [(.x 6)])]))]),.q (.x 4) (.comp 2 (.call (.k (.type "range")) [(.int 3)]) (.x 6) [] [] (.call (.k (.type "tuple")) [(.comp 2 (.x 1) (.x 8) [] [] (.sub (.x 8) (.x 6)))])),.ret (.t [(.x 2),(.call (.k (.ref 435)) [(.x 3),(.sub (.x 4) (.int 0)),(.sub (.x 4) (.int 1)),(.sub (.x 4) (.int 2))])])]⟩
noncomputable def qcr:Sg:=⟨1,1,.all,[.ret (.comp 2 (.call (.k (.type "range")) [(.meth (.x 0) "size" [])]) (.x 2) [] [] (.comp 4 (.meth (.x 0) "dom" [(.x 2)]) (.t [4,5]) [] [.mk (.call (.k (.type "range")) [(.x 4),(.bin .Add (.x 5) (.int 1))]) (.x 6) []] (.x 6)))]⟩
noncomputable def Y7:Sg:=⟨3,5,.sub,[.q (.x 3) (.call (.k (.ref 471)) [(.x 0)]),.q (.x 4) (.comp 2 (.x 2) (.x 6) [(.wK (.cmp .Eq (.comp 2 (.call (.k (.type "range")) [(.call (.k (.builtin "len")) [(.x 6)])]) (.x 8) [(.wK (.cmp .NotIn (.sub (.x 6) (.x 8)) (.sub (.x 3) (.x 8))))] [] (.x 8)) (.list [])))] [] (.x 6)),.ifs (.wK (.cmp .IsNot (.meth (.x 1) "propagate" [(.x 0)]) (.cmp .NotEq (.x 4) (.list [])))) [.ret (.bool ta)] [],.ifs (.wK (.cmp .Eq (.x 4) (.list []))) [.ret (.attr (.x 0) "is_failed")] [],.ret (.cmp .Eq (.call (.k (.ref 471)) [(.x 0)]) (.comp 2 (.call (.k (.type "range")) [(.call (.k (.builtin "len")) [(.x 3)])]) (.x 6) [] [] (.call (.k (.builtin "sorted")) [(.call (.k (.type "set")) [(.comp 2 (.x 4) (.x 8) [] [] (.sub (.x 8) (.x 6)))])])))]⟩
noncomputable def lJ:Sg:=⟨1,16,.all,[.q (.x 1) (.dict [(.str "cells"),(.str "at")] [(.cut (.x 0) 16),(.int 0)]),.q (.x 2) (.bin .Add (.int 1) (.call (.k (.ref 444)) [(.x 1),(.int 3)])),.q (.x 3) (.comp 2 (.call (.k (.type "range")) [(.x 2)]) (.x 17) [] [] (.bin .Add (.int 1) (.call (.k (.ref 444)) [(.x 1),(.int 7)]))),.q (.x 5) (.comp 2 (.x 3) (.x 17) [] [] (.comp 2 (.call (.k (.type "range")) [(.int 3)]) (.x 19) [(.wK (.cmp .Eq (.bin .Mod (.bin .FloorDiv (.x 17) (.bin .Pow (.int 2) (.x 19))) (.int 2)) (.int 1)))] [] (.x 19))),.q (.x 4) (.call (.k (.ref 444)) [(.x 1),(.int 3)]),.q (.x 6) (.list []),.fors (.x 7) (.call (.k (.type "range")) [(.int 2)]) [.q (.x 8) (.call (.k (.ref 444)) [(.x 1),(.int 3)]),.app (.x 6) "append" (.t [(.x 4),(.x 8),(.bin .Add (.x 8) (.call (.k (.ref 444)) [(.x 1),(.int 3)]))])],.q (.x 9) (.list [(.t [(.x 4),(.call (.k (.builtin "max")) [(.sub (.sub (.x 6) (.int 0)) (.int 1)),(.sub (.sub (.x 6) (.int 1)) (.int 1))]),(.call (.k (.builtin "min")) [(.sub (.sub (.x 6) (.int 0)) (.int 2)),(.sub (.sub (.x 6) (.int 1)) (.int 2))])])]),.ifs (.wK (.cmp .Eq (.call (.k (.ref 444)) [(.x 1),(.int 2)]) (.int 1))) [.q (.x 10) (.t [(.bin .Mod (.bin .Add (.x 4) (.int 1)) (.int 3)),(.int 0),(.call (.k (.ref 444)) [(.x 1),(.int 3)])]),.ins (.x 6) (.int 1) (.x 10),.app (.x 9) "append" (.x 10)] [],.frz 6,.frz 9,.q (.x 11) (.comp 2 (.call (.k (.ref 456)) [(.x 5)]) (.x 17) [(.wK (.call (.k (.ref 461)) [(.x 17),(.x 6)]))] [] (.x 17)),.q (.x 12) (.t [(.call (.k (.ref 444)) [(.x 1),(.x 2)]),(.sub (.list [(.str "<="),(.str ">="),(.str "!="),(.str "=")]) (.call (.k (.ref 444)) [(.x 1),(.int 4)])),(.call (.k (.ref 444)) [(.x 1),(.int 3)])]),.fors (.x 13) (.t [(.x 6),(.x 9)]) [.q (.t [(.x 14),(.x 15)]) (.call (.k (.ref 466)) [(.x 5),(.x 13)]),.ifs (.wK (.cmp .NotEq (.meth (.x 15) "told" []) (.bin .Add (.t [(.str "cardinality"),(.call (.k (.type "tuple")) [(.call (.k (.type "range")) [(.x 2)])])]) (.call (.k (.type "tuple")) [(.comp 2 (.call (.k (.type "range")) [(.int 3)]) (.x 17) [] [] (.call (.k (.type "tuple")) [(.comp 2 (.x 13) (.x 19) [] [] (.sub (.x 19) (.x 17)))]))])))) [.ret (.bool ta)] [],.ifs (.wK (.cmp .NotEq (.comp 2 (.call (.k (.ref 456)) [(.x 5)]) (.x 17) [(.wK (.cmp .IsNot (.meth (.x 15) "check" [(.x 17)]) (.cmp .In (.x 17) (.x 11))))] [] (.x 17)) (.list []))) [.ret (.bool ta)] [],.ifs (.not (.wK (.call (.k (.ref 476)) [(.x 14),(.x 15),(.x 11)]))) [.ret (.bool ta)] [],.ifs (.and (.not (.wK (.attr (.x 14) "is_failed"))) (.wK (.cmp .Eq (.meth (.x 14) "holds" [(.x 12)]) (.int 0)))) [.expr (.meth (.x 14) "push" []),.expr (.meth (.x 14) "decide" [(.x 12)]),.ifs (.not (.wK (.call (.k (.ref 476)) [(.x 14),(.x 15),(.x 11)]))) [.ret (.bool ta)] []] []],.ret (.bool Z)]⟩
def XY:List (Nat×Sg):=[(28,qdZ),(35,qea),(40,qeb),(47,qec),(54,qed),(61,qee),(66,qef),(71,qeg),(78,qeh),(85,qei),(92,qej),(99,qek),(106,P7),(120,qbO),(127,qbP),(134,qbQ),(141,qbR),(155,qbS),(162,qbT),(169,qbU),(183,qbV),(190,qbW),(197,qbX),(204,qbY),(211,qbZ),(218,qca),(225,qcb),(232,qcc),(274,qcd),(288,qce),(295,qcf),(309,Q7),(323,qcg),(328,qch),(335,qci),(342,R7),(349,S7),(354,T7),(377,qcj),(384,qck),(389,qcl),(396,U7),(401,V7),(408,qcm),(413,qcn),(418,W7),(425,qco),(432,qcp),(444,qcq),(451,X7),(456,cZ),(461,dZ),(466,kJ),(471,qcr),(476,Y7),(481,lJ)]
def qc(a:Nat):Option Sg:=XY.lookup a
def SM:List (Nat×Fn):=XY.map λp=>(p.1,O4 Ib p.2)
def nT(a:Nat):Option Fn:=SM.lookup a
section
variable {x:V} {v:ua} {X:List V} {T:List ua} {i:Nat} {a:Ca} {o:O}
noncomputable abbrev pg:Wi:=Lh
noncomputable abbrev cu(T:List ua)(n:Nat):pD:={cls:=.type "tuple",data:=.seq T.toArray n}
def Ih(o:pD):Prop:=match o.data with|.seq u y=>o.cls=.type "tuple"|.fields u=>o.cls=.type "range"|.set .. =>True|_=>False
noncomputable def fB(k:Int)(o:Option fk):List (Int×ua):=match o with|some t=>[(k,.int k t)]|none=>[]
noncomputable def lX(k:Nat)(o:Option fk):List Nat:=match o with|some u=>[k]|none=>[]
def K5(w:zb)(h:qb)(a:Ca)(b c d:Option fk):Prop:=∃e,h.get? a=J {cls:=.type "set",dict:=Y,data:=.set (fB 0 b++(fB 1 c++fB 2 d)).toArray e ⟨7,(lX 0 b++(lX 1 c++lX 2 d)).toArray,#[],0,!w.params.followText "set-order",0,Z⟩,slots:= #[]}
class Av where
 av:Ca->Prop
variable [av:Av]
mutual
inductive VR(w:zb)(ρ:List Ca)(h:qb):V->ua->Prop
 |none:VR w ρ h .none .none|bool (b:Bool):VR w ρ h (.bool b) (.bool b)|int (i:Int) (t:fk):VR w ρ h (.int i) (.int i t)|str (x:Bb) (t:fk):VR w ρ h (.str x) (.str x t)|ref {i:Nat} {a:Ca}:ρ[i]?=J a->VR w ρ h (.ref i) (.ref a)|k (v:ua):VR w ρ h (.k v) v|rng {a:Ca} {lo hi:Int} {t u v:fk}:VK h a lo hi 1 t u v->VR w ρ h (.rng lo hi) (.ref a)|iset {a:Ca} {X:List Int} {o0 o1 o2:Option fk}:o0.isSome=X.contains 0->o1.isSome=X.contains 1->o2.isSome=X.contains 2->K5 w h a o0 o1 o2->VR w ρ h (.iset X) (.ref a)|t {a:Ca} {X:List V} {T:List ua} {n:Nat}:¬Av.av a->h.get? a=J (cu T n)->X.length<=4096->ve w ρ h X T->VR w ρ h (.t X) (.ref a)
inductive ve(w:zb)(ρ:List Ca)(h:qb):List V->List ua->Prop
 |nil:ve w ρ h [] []|cons {x:V} {X:List V} {v:ua} {T:List ua}:VR w ρ h x v->ve w ρ h X T->ve w ρ h (x::X) (v::T)
end
section
variable {w:zb} {ρ W:List Ca} {h S:qb}
theorem VR.mono(d:ρ<+:W)(c:∀a o,h.get? a=J o->Ih o->S.get? a=J o)(q:VR w ρ h x v):VR w W S x v:=
 VR.rec (motive_1:=λx v u=>VR w W S x v) (motive_2:=λX T u=>ve w W S X T) .none (λb=>.bool b) (λi t=>.int i t) (λx t=>.str x t) (λe=>.ref (by
  obtain⟨t,rfl⟩:=d;refine U (Xa (ub.mp e).1) ?_;exact e)) (λv=>.k v) (λe=>.rng (c _ _ e rfl)) (λb f g e=>.iset b f g (jD e λj x=>⟨j,c _ _ x trivial⟩)) (λb e l u r=>.t b (c _ _ e rfl) l r) .nil (λu u a r=>.cons a r) q
def qdx(w:zb)(ρ:List Ca)(h:qb)(z:V)(y:ua):Prop:=match z,y with|.none,v=>v=.none|.bool b,v=>v=.bool b|.int i,v=>∃t,v=.int i t|.str x,v=>∃t,v=.str x t|.ref i,v=>∃a,v=.ref a/\ρ[i]?=J a|.k c,v=>v=c|.rng lo b,v=>∃a t u s,v=.ref a/\VK h a lo b 1 t u s|.iset X,v=>∃a b c d,v=.ref a/\b.isSome=X.contains 0/\c.isSome=X.contains 1/\d.isSome=X.contains 2/\K5 w h a b c d|.t X,v=>∃a T n,v=.ref a/\¬Av.av a/\h.get? a=J (cu T n)/\X.length<=4096/\ve w ρ h X T
theorem VR.wF(r:VR w ρ h x v):qdx w ρ h x v:=
 VR.rec (motive_1:=λx v u=>qdx w ρ h x v) (motive_2:=λu u u=>True) rfl (λu=>rfl) (λu t=>⟨t,rfl⟩) (λu t=>⟨t,rfl⟩) (λe=>⟨_,rfl,e⟩) (λu=>rfl) (λe=>⟨_,_,_,_,rfl,e⟩) (λa b c d=>⟨_,_,_,_,rfl,a,b,c,d⟩) (λa b c d u=>⟨_,_,_,rfl,a,b,c,d⟩) trivial (λu u u u=>trivial) r
theorem ve.ind{P:List V->List ua->Prop}(b:P [] [])(c:∀x X v T,VR w ρ h x v->ve w ρ h X T->P X T->P (x::X) (v::T))(r:ve w ρ h X T):P X T:=
 ve.rec (motive_1:=λu u u=>True) (motive_2:=λx v u=>P x v) trivial (λu=>trivial) (λu u=>trivial) (λu u=>trivial) (λu=>trivial) (λu=>trivial) (λu=>trivial) (λu u u u=>trivial) (λu u u u u=>trivial) b (λa t u d=>c _ _ _ _ a t d) r
theorem ve.mono(b:ρ<+:W)(c:∀a o,h.get? a=J o->Ih o->S.get? a=J o)(q:ve w ρ h X T):ve w W S X T:=
 q.ind (P:=λX T=>ve w W S X T) .nil λu u u u a u d=>.cons (a.mono b c) d
theorem ve.length(r:ve w ρ h X T):X.length=T.length:=by
 induction X generalizing T with
 |nil=>cases r;rfl|cons x X b=>cases r with|cons _ r=>simp[b r]
theorem ve.append{b:List V}{c:List ua}(r:ve w ρ h X T)(q:ve w ρ h b c):ve w ρ h (X++b) (T++c):=by
 induction X generalizing T with
 |nil=>cases r;exact q|cons x X d=>cases r with|cons a r=>exact .cons a (d r)
theorem ve.one(r:VR w ρ h x v):ve w ρ h [x] [v]:=.cons r .nil
theorem ve.get(r:ve w ρ h X T)(e:X[i]?=J x):∃v,T[i]?=J v/\VR w ρ h x v:=by
 induction X generalizing T i with
 |nil=>simp at e|cons y X c=>
  refine aa λb=>?_;cases r with
  |cons a r=>
   refine b ?_;clear b
   induction i using Sa with
   |zero=>simp at e;subst e;exact⟨_,rfl,a⟩|succ i=>simpa using c r (by simpa using e)
theorem ve.none_of(r:ve w ρ h X T)(e:X[i]?=Y):T[i]?=Y:=by
 rw[dh]at e|-;exact Bd r.length e
theorem ve.set(r:ve w ρ h X T)(i:Nat)(q:VR w ρ h x v):ve w ρ h (X.set i x) (T.set i v):=by
 induction X generalizing T i with
 |nil=>cases r;exact .nil|cons y X b=>
  cases r with
  |cons a r=>
   induction i using Sa with
   |zero=>exact .cons q r|succ i=>exact .cons a (b r i)
theorem ve.take(r:ve w ρ h X T)(i:Nat):ve w ρ h (X.take i) (T.take i):=by
 induction X generalizing T i with
 |nil=>cases r;simp;exact .nil|cons y X b=>
  cases r with
  |cons a r=>
   induction i using Sa with
   |zero=>exact .nil|succ i=>exact .cons a (b r i)
theorem ve.drop(r:ve w ρ h X T)(i:Nat):ve w ρ h (X.drop i) (T.drop i):=by
 induction X generalizing T i with
 |nil=>cases r;simp;exact .nil|cons y X b=>
  cases r with
  |cons a r=>
   induction i using Sa with
   |zero=>exact .cons a r|succ i=>exact b r i
end
class inductive SE(w:zb)(ρ:List Ca)(h:qb):List (Bb×V)->List Df->Prop
 |nil:SE w ρ h [] []|cons {k:Bb} {x:V} {t:fk} {v:ua} {es ents}:VR w ρ h x v->SE w ρ h es ents->SE w ρ h ((k,x)::es) (⟨T4 w k,.str k t,v⟩::ents)
def OR(w:zb)(ρ:List Ca)(h:qb)(z:O)(y:Ca):Prop:=match z,y with|.list X,a=>∃T n,h.get? a=J (listOf T.toArray n)/\X.length<=4096/\ve w ρ h X T|.idict c,a=>∃o b,h.get? a=J o/\o.IsDictOf (kg pg w) b/\b.map (λx=>x.1)=c.map (λx=>x.1)/\ve w ρ h (c.map λx=>x.2) (b.map λx=>x.2)/\c.length<=4096|.h c,a=>∃b n,h.get? a=J (om b n)/\SE w ρ h c b/\(c.map λx=>x.1).Nodup/\c.length<=4096|.inst c d,a=>∃b,ρ[d]?=J b/\h.get? a=J (qfb c b)
structure R(w:zb)(Q:qb)(ρ:List Ca)(N:St)(h:qb):Prop where
 len:ρ.length=N.length
 nodup:ρ.Nodup
 fresh:∀a∈ρ,Q.get? a=Y
 avl:∀a,Av.av a->∃o,h.get? a=J o/\Ih o
 wK:∀a o,Q.get? a=J o->h.get? a=J o
 obj:∀(i:Nat)(o:O)(a:Ca),N[i]?=J o->ρ[i]?=J a->OR w ρ h o a
structure Kp(eo:Ca->Prop)(ρ:List Ca)(h S:qb)(W:List Ca):Prop where
 pre:ρ<+:W
 fresh:∀a∈W,a∈ρ\/h.get? a=Y
 keep:∀a o,h.get? a=J o->a∉ρ->¬eo a->S.get? a=J o
 imm:∀a o,h.get? a=J o->Ih o->S.get? a=J o
 live:∀a,(h.get? a).isSome=Z->(S.get? a).isSome=Z
variable {w:zb} {Q h S K:qb} {ρ W L:List Ca} {N I:St} {eo:Ca->Prop}
theorem Kp.refl:Kp eo ρ h h ρ:=⟨Ja _,λu h=>.inl h,λu u e u u=>e,λu u e u=>e,λu e=>e⟩
theorem Kp.trans(x:Kp eo ρ h S W)(y:Kp eo W S K L):Kp eo ρ h K L where
 pre:=x.pre.trans y.pre
 fresh a ha:=by
  rcases y.fresh a ha with q|q
  ·exact x.fresh a q
  ·refine .inr ?_
   induction e:h.get? a with
   |none=>rfl|some o=>have:=x.live a (by refine U e ?_;rfl);rw[q]at this;exact zc this ia
 keep a o e n1 n2:=y.keep a o (x.keep a o e n1 n2) (λq=>by
  rcases x.fresh a q with q|q
  ·exact n1 q
  ·rw[q]at e;exact ja e) n2
 imm a o e i:=y.imm a o (x.imm a o e i) i
 live a e:=y.live a (x.live a e)
theorem Kp.weaken{b:Ca->Prop}(x:Kp eo ρ h S W)(c:∀a,eo a->b a):Kp b ρ h S W:=
 ⟨x.pre,x.fresh,λa o e d f=>x.keep a o e d λq=>f (c a q),x.imm,x.live⟩
theorem Kp.vr(k:Kp eo ρ h S W)(r:VR w ρ h x v):VR w W S x v:=r.mono k.pre k.imm
theorem Kp.vrs{x:List V}{v:List ua}(k:Kp eo ρ h S W)(r:ve w ρ h x v):ve w W S x v:=r.mono k.pre k.imm
theorem SE.mono(d:ρ<+:W)(e:∀a o,h.get? a=J o->Ih o->S.get? a=J o){c:List (Bb×V)}{b:List Df}(r:SE w ρ h c b):SE w W S c b:=by
 induction r with
 |nil=>exact .nil|cons a u f=>exact .cons (a.mono d e) f
theorem Cm(b:ρ<+:W)(e:ρ[i]?=J a):W[i]?=J a:=by
 obtain⟨t,rfl⟩:=b;refine U (Xa (ub.mp e).1) ?_;exact e
theorem OR.mono(f:ρ<+:W)(j:∀a o,h.get? a=J o->Ih o->S.get? a=J o)(g:∀x,h.get? a=J x->S.get? a=J x)(r:OR w ρ h o a):OR w W S o a:=by
 induction o with
 |list X=>obtain⟨T,n,e,l,q⟩:=r;exact⟨T,n,g _ e,l,q.mono f j⟩|idict m=>obtain⟨o,b,e,d,k,q,l⟩:=r;exact⟨o,b,g _ e,d,k,q.mono f j,l⟩|h m=>obtain⟨b,n,e,q,d,l⟩:=r;exact⟨b,n,g _ e,q.mono f j,d,l⟩|inst c d=>obtain⟨b,e,q⟩:=r;exact⟨b,Cm f e,g _ q⟩
theorem OR.get(r:OR w ρ h o a):∃x,h.get? a=J x/\¬Ih x:=by
 induction o with
 |list X=>obtain⟨T,n,e,_⟩:=r;exact⟨_,e,by simp[Ih]⟩|idict c=>
  refine aa λb=>?_;obtain⟨o,f,e,⟨g,j,_,d,_⟩,_⟩:=r;exact b (⟨_,e,by simp[Ih,d]⟩)
 |h c=>obtain⟨b,n,e,_⟩:=r;exact⟨_,e,by simp[Ih]⟩|inst c d=>obtain⟨b,e,q⟩:=r;exact⟨_,q,by simp[Ih]⟩
theorem R.at(r:R w Q ρ N h)(e:N[i]?=J o):∃a,ρ[i]?=J a/\OR w ρ h o a:=by
 have b:i<ρ.length:=by refine U r.len ?_;exact((ub.mp e).1)
 exact⟨ρ[i],Wa b,r.obj i o _ e (Wa b)⟩
theorem R.mem(r:R w Q ρ N h)(d:a∈ρ):∃(i:Nat)(o:O),ρ[i]?=J a/\N[i]?=J o/\OR w ρ h o a:=by
 refine aa λe=>?_;obtain⟨i,b,rfl⟩:=Dj d;refine e ?_;have c:i<N.length:=by refine Bd r.len ?_;exact b
 exact⟨i,N[i],Wa b,Wa c,r.obj i _ _ (Wa c) (Wa b)⟩
theorem R.live(r:R w Q ρ N h)(b:a∈ρ):∃x,h.get? a=J x/\¬Ih x:=by
 refine aa λc=>?_;obtain⟨i,o,_,_,q⟩:=r.mem b;exact c q.get
theorem R.notIn(r:R w Q ρ N h){o:pD}(e:h.get? a=J o)(i:Ih o):a∉ρ:=λc=>by
 obtain⟨x,b,d⟩:=r.live c;rw[e]at b;obtain rfl:=ba b;exact d i
theorem R.notAv(r:R w Q ρ N h)(e:h.get? a=Y):¬Av.av a:=λq=>by obtain⟨o,b,_⟩:=r.avl a q;rw[e]at b;exact ja b
theorem R.wI(r:R w Q ρ N h)(b:∀a o,h.get? a=J o->S.get? a=J o):R w Q ρ N S:=
 ⟨r.len,r.nodup,r.fresh,λa c=>(by obtain⟨o,d,e⟩:=r.avl a c;exact⟨o,b a o d,e⟩),λa o e=>b a o (r.wK a o e),λi o a d f=>(r.obj i o a d f).mono (Ja _) (λa o e u=>b a o e) (b a)⟩
theorem Kp.wI(b:∀a o,h.get? a=J o->S.get? a=J o):Kp eo ρ h S ρ:=
 ⟨Ja _,λu h=>.inl h,λa o e u u=>b a o e,λa o e u=>b a o e,λa e=>by
  obtain⟨o,c⟩:=Oa.mp e;refine U (b a o c) ?_;rfl⟩
theorem R.beside(r:R w Q ρ N h){wr:Ca->Prop}(b:∀a o,¬wr a->h.get? a=J o->S.get? a=J o)(c:∀a,wr a->a∉ρ/\Q.get? a=Y/\∀o,h.get? a=J o->¬Ih o):R w Q ρ N S:=
 ⟨r.len,r.nodup,r.fresh,λa f=>(by obtain⟨o,d,e⟩:=r.avl a f;exact⟨o,b a o (λq=>(c a q).2.2 o d e) d,e⟩),λa o e=>b a o (λq=>by rw[(c a q).2.1]at e;exact ja e) (r.wK a o e),λi o a g d=>
  (r.obj i o a g d).mono (Ja _) (λa o e q=>b a o (λz=>(c a z).2.2 o e q) e) λx e=>b a x (λq=>(c a q).1 (Na d)) e⟩
theorem Kp.beside{wr:Ca->Prop}(b:∀a o,¬wr a->h.get? a=J o->S.get? a=J o)(c:∀a,wr a->(∀o,h.get? a=J o->¬Ih o/\eo a/\(S.get? a).isSome=Z)):Kp eo ρ h S ρ:=
 ⟨Ja _,λu h=>.inl h,λa o e u f=>b a o (λq=>f (c a q o e).2.1) e,λa o e i=>b a o (λq=>(c a q o e).1 i) e,λa e=>by
  obtain⟨o,d⟩:=Oa.mp e;by_cases q:wr a
  ·exact(c a q o d).2.2
  ·refine U (b a o q d) ?_;rfl⟩
theorem R.upd(r:R w Q ρ N h)(m:ρ[i]?=J a)(f:∀b x,b≠a->h.get? b=J x->S.get? b=J x)(k:OR w ρ S o a):R w Q ρ (N.set i o) S/\Kp eo ρ h S ρ:=by
 have n:a∈ρ:=Na m;refine aa λs=>?_;obtain⟨E,g,t⟩:=r.live n;refine s ?_;have c:∀b x,h.get? b=J x->Ih x->S.get? b=J x:=λb x e A=>f b x (λq=>by subst q;rw[e]at g;obtain rfl:=ba g;exact t A) e;refine⟨⟨by refine U yb ?_;exact r.len,r.nodup,r.fresh,λb Q=>(by obtain⟨o,k,d⟩:=r.avl b Q;exact⟨o,c b o k d,d⟩),λb x e=>f b x (λq=>by subst q;rw[r.fresh b n]at e;exact ja e) (r.wK b x e),λj p b d l=>?_⟩,
  Ja _,λu h=>.inl h,λb x e B u=>f b x (λq=>B (q▸n)) e,c,λb e=>?_⟩
 ·by_cases q:i=j
  ·subst q
   rw[m]at l;obtain rfl:=ba l;rw[Zk]at d;simp only[if_true]at d
   split at d<;>(first|exact ja d|obtain rfl:=ba d)
   exact k
  ·rw[Xc q]at d
   have y:b≠a:=λz=>by
    subst z;obtain⟨F,C⟩:=ub.mp m;obtain⟨G,D⟩:=ub.mp l;exact q ((eR r.nodup).mp (C.trans D.symm))
   exact(r.obj j p b d l).mono (Ja _) c λx e=>f b x y e
 ·by_cases q:b=a
  ·refine aa λs=>?_
   subst q;obtain⟨x,d,_⟩:=k.get;refine s ?_;refine U d ?_;rfl
  ·obtain⟨x,d⟩:=Oa.mp e
   refine U (f b x q d) ?_;rfl
theorem R.new(r:R w Q ρ N h)(d:∀b x,h.get? b=J x->S.get? b=J x)(s:h.get? a=Y)(t:OR w (ρ++[a]) S o a):R w Q (ρ++[a]) (N++[o]) S/\Kp eo ρ h S (ρ++[a]):=by
 have z:Q.get? a=Y:=by
  induction e:Q.get? a with
  |none=>rfl|some x=>have:=r.wK a x e;rw[s]at this;exact ja this
 have m:a∉ρ:=λq=>by obtain⟨x,g,_⟩:=r.live q;rw[s]at g;exact ja g
 refine⟨⟨by simp[r.len],?_,?_,λb Q=>(by obtain⟨o,t,c⟩:=r.avl b Q;exact⟨o,d b o t,c⟩),λb x e=>d b x (r.wK b x e),λj p b c l=>?_⟩,Hc _ _,λb f=>?_,λb x e u u=>d b x e,λb x e u=>d b x e,λb e=>?_⟩
 ·exact U (propext Zh) (⟨r.nodup,by simp,λx g y k=>by rw[Ra]at k;subst k;exactλq=>m (q▸g)⟩)
 ·intro b f
  rcases Vb.mp f with q|q
  ·exact r.fresh b q
  ·rw[Ra]at q;subst q;exact z
 ·by_cases q:j<N.length
  ·rw[Xa q]at c
   rw[Xa (by refine U r.len ?_;exact q)]at l;exact(r.obj j p b c l).mono (Hc _ _) (λb x e u=>d b x e) λx e=>d b x e
  ·rw[Ma (og q)]at c
   rw[Ma (by refine U r.len ?_;exact og q),r.len]at l;refine aa λn=>?_
   induction p:j - N.length using Sa with
   |zero=>refine n ?_;clear n;rw[p]at c l;simp at c l;subst c l;exact t|succ k=>refine n ?_;clear n;rw[p]at c;simp at c
 ·rcases Vb.mp f with q|q
  ·exact .inl q
  ·rw[Ra]at q;subst q;exact .inr s
 ·obtain⟨x,g⟩:=Oa.mp e
  refine U (d b x g) ?_;rfl
end
section
variable {i n k:Nat} {c a:Ca} {P:Prop} {b:Bool} {r:Nm}
theorem Al{m:B4}{A:Xb}{F:Type}{t:Yl F}{O:F->Ea->Prop}{R:ua->Ea->Prop}{s:Ea}(h:∀(q:F->Ea->Prop)(G:ua->Ea->Prop),(∀a s',O a s'->q a s')->Qa m A t q G s):Qa m A t O R s:=h O R λq q h=>h
variable [e:Av]
noncomputable def xc(m:List Bb)(q:Bb):Option Nat:=match m,q with|[],G=>Y|y::G,x=>match xc G x with|some i=>J (i+1)|none=>if y=x then J 0 else Y
theorem NC{y x:Bb}{m:List Bb}(h:xc (y::m) x=J i):(∃G,xc m x=J G/\i=G+1)\/(y=x/\i=0):=by
 replace h:(match xc m x with|some i=>J (i+1)|none=>if y=x then J 0 else Y)=J i:=h
 induction O:xc m x with
 |some G=>rw[O]at h;exact .inl ⟨G,rfl,(ba h).symm⟩|none=>
  rw[O]at h;by_cases q:y=x
  ·exact .inr ⟨q,(ba ((Fd q).symm.trans h)).symm⟩
  ·exact ja ((ge q).symm.trans h)
theorem Qj{N:List Bb}{x:Bb}:{i:Nat}->xc N x=J i->N[i]?=J x:=by
 induction N with
 |nil=>exactλh=>ja h|cons y m O=>
  intro i h;rcases NC h with⟨q,G,rfl⟩|⟨rfl,rfl⟩
  ·exact O G
  ·rfl
theorem Ly{N:List Bb}{x:Bb}(h:xc N x=J i):i<N.length:=(ub.mp (Qj h)).1
theorem Sk:∀(N own:List Bb)(x:Bb),xc (N++own) x=match xc own x with|some i=>J (N.length+i)|none=>xc N x:=by
 intro N
 induction N with
 |nil=>
  rintro own x;show xc own x=_;induction xc own x with
  |none=>rfl|some i=>exact Gc J (lh i).symm
 |cons y m ih=>
  rintro own x;have R:∀q:List Bb,xc (y::q) x=match xc q x with|some i=>J (i+1)|none=>if y=x then J 0 else Y:=λG=>rfl
  refine U Jm (U (R _) (U (R _) (U (ih own x) ?_)))
  induction O:xc own x with
  |some i=>simp only[nc,yj];lia|none=>rfl
structure KX(L:Ca)(ρ:List Ca)(h u:qb)(B:List Ca):Prop extends Kp (λa=>a=L) ρ h u B where
 ns:∀m,h.Ns L m->u.Ns L m
structure Lc(w:zb)(W:qb)(X:wj)(E:Ca->Prop)(N:List Bb)(lo:Nat)(D:Me)(ρ:List Ca)(h:qb):Prop where
 kind:X.scope.kind=.function
 globals:X.globals=mainGlobals
 builtins:X.builtins=jp
 len:D.length=N.length
 ns:∃m,h.Ns X.locals m/\∀(x:Bb)(i:Nat)(v:V),xc N x=J i->X.kindOf x=J .local->D[i]?=J (J v)->∃S,m x=J S/\VR w ρ h v S
 cells:∀(x:Bb)(i:Nat)(v:V),xc N x=J i->(X.kindOf x=J .cell\/X.kindOf x=J .free)->D[i]?=J (J v)->∃c S,X.cells.lookup x=J c/\h.IsCell c (J S)/\VR w ρ h v S
 loc:X.locals∉ρ/\W.get? X.locals=Y/\E X.locals
 has:∀x k,(x,k)∈X.scope.names->k=.cell\/k=.free->∃c v,X.cells.lookup x=J c/\h.IsCell c v
 apart:X.cells.Pairwise λx y=>x.2≠y.2
 own:∀(x:Bb)(i:Nat),xc N x=J i->lo<=i->X.kindOf x=J .local\/(X.kindOf x=J .cell/\∃c v,X.cells.lookup x=J c/\h.IsCell c v/\W.get? c=Y/\E c)
 eoh:∀a,E a->W.get? a=Y
 eol:∀a,E a->(h.get? a).isSome=Z
section
variable {w:zb} {W h u h'':qb} {ρ B g:List Ca} {K Q:St} {E:Ca->Prop} {L:Ca} {X:wj} {N:List Bb} {lo:Nat} {D:Me}
theorem KX.refl:KX L ρ h h ρ:=⟨Kp.refl,λm n=>n⟩
theorem KX.trans(x:KX L ρ h u B)(y:KX L B u h'' g):KX L ρ h h'' g:=⟨x.toKp.trans y.toKp,λm n=>y.ns m (x.ns m n)⟩
theorem KX.wI(q:∀a o,h.get? a=J o->u.get? a=J o):KX L ρ h u ρ:=⟨Kp.wI q,λm n=>n.keeps q⟩
theorem YI{v:Option ua}(x:h.IsCell c v):∃o,h.get? c=J o/\¬Ih o:=by
 obtain⟨o,m,q⟩:=x;exact⟨o,m,by simp[Ih,q]⟩
theorem OR.notCell{o:O}(m:OR w ρ h o a){v:Option ua}:¬h.IsCell a v:=λx1=>by
 obtain⟨x,q,G⟩:=x1
 induction o with
 |list xs=>obtain⟨vs,n,R,_⟩:=m;rw[q]at R;obtain rfl:=ba R;cases G|idict es=>obtain⟨o,x3,R,⟨x4,ep,_,d',_⟩,_⟩:=m;rw[q]at R;obtain rfl:=ba R;rw[G]at d';cases d'|h es=>obtain⟨x2,n,R,_⟩:=m;rw[q]at R;obtain rfl:=ba R;cases G|inst c G=>obtain⟨dx,_,R⟩:=m;rw[q]at R;obtain rfl:=ba R;cases G
theorem R.cellNot(m:R w W ρ K h){v:Option ua}(x:h.IsCell c v):c∉ρ:=λq=>by
 obtain⟨i,o,_,_,G⟩:=m.mem q;exact G.notCell x
theorem Ln{m:Bb->Option ua}{v:Option ua}(n:h.Ns L m):¬h.IsCell L v:=λO=>by
 obtain⟨o,q,G⟩:=O;obtain⟨o',es,ep,R,d',_⟩:=n;rw[q]at R;obtain rfl:=ba R;rw[G]at d';cases d'
theorem Lc.kx(G:Lc w W X E N lo D ρ h)(O:R w W ρ K h)(k:KX X.locals ρ h u B):Lc w W X E N lo D B u:=by
 refine aa λnq=>?_;obtain⟨x1,hm,hv⟩:=G.ns;refine nq ?_;have x3:∀c v,h.IsCell c v->u.IsCell c v:=λc v x=>by
  have hn:=O.cellNot x;obtain⟨o,m,q⟩:=x;exact⟨o,k.keep c o m hn λx2=>Ln hm (v:=v) ⟨o,by refine Bd x2 ?_;exact m,q⟩,q⟩
 refine⟨G.kind,G.globals,G.builtins,G.len,⟨x1,k.ns x1 hm,λx i v a b c=>?_⟩,λx i v a b c=>?_,⟨λx2=>?_,G.loc.2⟩,λx k a b=>?_,G.apart,λx i a b=>?_,G.eoh,λa m=>k.live a (G.eol a m)⟩
 ·refine aa λnq=>?_
  obtain⟨S,q,q2⟩:=hv x i v a b c;exact nq (⟨S,q,k.vr q2⟩)
 ·refine aa λnq=>?_
  obtain⟨c,S,q,q2,q3⟩:=G.cells x i v a b c;exact nq (⟨c,S,q,x3 _ _ q2,k.vr q3⟩)
 ·refine aa λnq=>?_
  rcases k.fresh _ x2 with x2|x2
  ·exact nq (G.loc.1 x2)
  ·refine nq ?_
   obtain⟨o,_,_,m,_⟩:=hm;rw[x2]at m;exact ja m
 ·refine aa λnq=>?_
  obtain⟨c,v,q,q2⟩:=G.has x k a b;exact nq (⟨c,v,q,x3 _ _ q2⟩)
 ·refine aa λnq=>?_
  rcases G.own x i a b with x2|⟨x2,c,v,q,q2,q3⟩
  ·exact nq (.inl x2)
  ·exact nq (.inr ⟨x2,c,v,q,x3 _ _ q2,q3⟩)
theorem Lc.wI(m:Lc w W X E N lo D ρ h)(q:R w W ρ K h)(G:∀a o,h.get? a=J o->u.get? a=J o):Lc w W X E N lo D ρ u:=m.kx q (KX.wI G)
theorem R.new'(m:R w W ρ K h){o:O}(G:∀b x,h.get? b=J x->u.get? b=J x)(hn:h.get? a=Y)(ho:OR w (ρ++[a]) u o a):R w W (ρ++[a]) (K++[o]) u/\KX L ρ h u (ρ++[a]):=
 qeC (λx y=>⟨x,y,λq n=>n.keeps G⟩) (m.new (eo:=λa=>a=L) G hn ho)
theorem R.upd'(m:R w W ρ K h){o:O}(ea:ρ[i]?=J a)(hk:gf a h u)(ho:OR w ρ u o a)(hL:L∉ρ):R w W ρ (K.set i o) u/\KX L ρ h u ρ:=
 qeC (λx y=>⟨x,y,λG n=>n.sameBut hk λq=>hL (q▸Na ea)⟩) (m.upd (eo:=λa=>a=L) ea (λb x n G=>(hk.2 b n).trans G) ho)
end
def Ah(s s':Ea):Prop:=s'={s with heap:=s'.heap,toks:=s'.toks}
theorem Ah.trans{s s' m:Ea}(a:Ah s s')(b:Ah s' m):Ah s m:=by
 unfold Ah at a b|-;rw[a]at b;exact b
inductive PR{F I:Type}(Rel:List Ca->qb->F->I->Prop)(w:zb)(W:qb)(L:Ca)(ρ:List Ca)(s:Ea)(Q:St)(v:F)(S:I)(s':Ea):Prop
 |mk (B:List Ca):Ah s s'->KX L ρ s.heap s'.heap B->R w W B Q s'.heap->Rel B s'.heap v S->PR Rel w W L ρ s Q v S s'
noncomputable abbrev RB:List Ca->qb->Bool->Bool->Prop:=λm m b q=>q=b
abbrev PV(w:zb)(W:qb)(L:Ca)(ρ:List Ca)(s:Ea)(Q:St)(v:V)(S:ua)(s':Ea):Prop:=PR (VR w) w W L ρ s Q v S s'
abbrev qfE(w:zb)(W:qb)(L:Ca)(ρ:List Ca)(s:Ea)(Q:St)(q:List V)(m:List ua)(s':Ea):Prop:=PR (ve w) w W L ρ s Q q m s'
abbrev PB(w:zb)(W:qb)(L:Ca)(ρ:List Ca)(s:Ea)(Q:St)(b:Bool)(m:Bool)(s':Ea):Prop:=PR RB w W L ρ s Q b m s'
noncomputable abbrev No:ua->Ea->Prop:=λm m=>False
structure Eg(n:Nat)(A:Xb):Prop where
 hh:A.handled=Y
 depth:A.depth+3*n+10<=900
 units:A.units+20*n+200<=9900
theorem Eg.u64{A:Xb}(a:Eg n A):A.units+100<cLine:=by have:=a.units;have:=cLine_is;lia
theorem Eg.room{A:Xb}(a:Eg n A):A.depth<qcW:=by have:=a.depth;have:qcW=1000:=rfl;lia
theorem bb{F I:Type}{o:Option F}{f:F->Option I}{b:I}(m:o.bind f=J b)(k:∀a,o=J a->f a=J b->P):P:=by
 obtain⟨a,q,G⟩:=Fa.mp m;exact k a q G
theorem re{F I:Type}{o:Option F}{f:F->I}{b:I}(m:o.map f=J b)(k:∀a,o=J a->f a=b->P):P:=by
 obtain⟨a,q,G⟩:=bf.mp m;exact k a q G
theorem Hq{F I l:Type}{o:Option F}{f:F->I×l}{v:I}{G:l}{P:I->l->Prop}(m:o.map f=J (v,G))(h:∀a,o=J a->P (f a).1 (f a).2):P v G:=by
 induction o with
 |none=>exact ja m|some a=>
  have q:f a=(v,G):=ba m;obtain⟨rfl,rfl⟩:(f a).1=v/\(f a).2=G:=⟨Gc lj q,Gc QF q⟩;exact h a rfl
theorem zf{m:Unit}(h:Ie b=J m):b=Z:=by induction b<;>first|rfl|exact ja h
def Ga{F I:Type}(m:List Ca->qb->F->I->Prop)(w:zb)(W:qb)(A:Xb)(L:Ca)(ρ:List Ca)(s:Ea)(t:Yl I)(o:Option (F×St)):Prop:=
 ∀v Q,o=J (v,Q)->Qa (fb pg w) A t (PR m w W L ρ s Q v) No s
def Ys{F I:Type}(q:List Ca->qb->F->I->Prop)(w:zb)(W:qb)(A:Xb)(X:wj)(E:Ca->Prop)(N:List Bb)(lo:Nat)(D:Me)(t:Yl I)(m:St->Option (F×St)):Prop:=
 ∀ρ K s,R w W ρ K s.heap->Lc w W X E N lo D ρ s.heap->Ga q w W A X.locals ρ s t (m K)
abbrev uc(w:zb)(W:qb)(A:Xb)(X:wj)(E:Ca->Prop)(N:List Bb)(lo:Nat)(D:Me)(t:Yl ua)(m:St->Option (V×St)):Prop:=Ys (VR w) w W A X E N lo D t m
abbrev Ti(w:zb)(W:qb)(A:Xb)(X:wj)(E:Ca->Prop)(N:List Bb)(lo:Nat)(D:Me)(t:Yl (List ua))(m:St->Option (List V×St)):Prop:=Ys (ve w) w W A X E N lo D t m
abbrev Xg(w:zb)(W:qb)(A:Xb)(X:wj)(E:Ca->Prop)(N:List Bb)(lo:Nat)(D:Me)(t:Yl Bool)(m:St->Option (Bool×St)):Prop:=Ys RB w W A X E N lo D t m
section
variable {w:zb} {W:qb} {A:Xb} {L:Ca} {ρ C:List Ca} {s s':Ea} {Q:St}
theorem PR.after{F I:Type}{m:List Ca->qb->F->I->Prop}{s1:Ea}(t:Ah s s1)(k:KX L ρ s.heap s1.heap C){v:F}{S:I}(x:PR m w W L C s1 Q v S s'):PR m w W L ρ s Q v S s':=by
 obtain⟨B,q,G,O,R⟩:=x;exact⟨B,t.trans q,k.trans G,O,R⟩
variable {F I l d κ:Type} {R1:List Ca->qb->F->I->Prop} {z:List Ca->qb->l->d->Prop} {f:Yl I} {t:I->Yl d} {T:Yl d} {o:Option (F×St)} {x y:Option (l×St)} {p:Option κ}
abbrev J5(w:zb)(A:Xb)(s:Ea)(f:Yl I)(t:I->Yl d)(T:Yl d):Prop:=∀m,Qa (fb pg w) A f (λb s1=>Qa (fb pg w) A (t b) m No s1) No s->Qa (fb pg w) A T m No s
theorem Ga.bind{k:F×St->Option (l×St)}(O:Ga R1 w W A L ρ s f o)(ht:∀b a C s1 j,KX L ρ s.heap s1.heap C->R w W C j s1.heap->R1 C s1.heap a b->Ga z w W A L C s1 (t b) (k (a,j)))(hT:J5 w A s f t T):Ga z w W A L ρ s T (o.bind k):=
 λv Q m=>bb m λp e1 e2=>hT _ (Da (O p.1 p.2 e1) (λb s1 q=>by
  obtain⟨C,t1,k1,r1,x1⟩:=q;exact Da (ht b p.1 C s1 p.2 k1 r1 x1 v Q e2) (λc G q=>PR.after t1 k1 q) λG G x=>x) λG G x=>x)
theorem Ga.map{m:κ->l×St}(h:∀a,p=J a->Qa (fb pg w) A T (PR z w W L ρ s (m a).2 (m a).1) No s):Ga z w W A L ρ s T (p.map m):=
 λq q G=>Hq (P:=λv O=>Qa (fb pg w) A T (PR z w W L ρ s O v) No s) G h
theorem Ga.opt{k:κ->Option (l×St)}(h:∀a,p=J a->Ga z w W A L ρ s T (k a)):Ga z w W A L ρ s T (p.bind k):=λm m q=>bb q λa G O=>h a G _ _ O
theorem Ga.okb{c:Bool}{k:Unit->Option (l×St)}(h:c=Z->Ga z w W A L ρ s T (k ())):Ga z w W A L ρ s T ((Ie c).bind k):=Ga.opt λm q=>h (zf q)
theorem Ga.ifB{c:Bool}(m:c=Z->Ga z w W A L ρ s T x)(q:c=ta->Ga z w W A L ρ s T y):Ga z w W A L ρ s T (kn c x y):=by
 induction c with
 |true=>exact m rfl|false=>exact q rfl
theorem Ga.ret{v:l}{G:St}(h:Qa (fb pg w) A T (PR z w W L ρ s G v) No s):Ga z w W A L ρ s T (J (v,G)):=λm m q=>by
 obtain⟨rfl,rfl⟩:=Ta (ba q);exact h
theorem Ga.no:Ga z w W A L ρ s T Y:=λm m q=>ja q
theorem Ga.of{q:Yl d}(h:Ga z w W A L ρ s q x)(hT:∀m,Qa (fb pg w) A q m No s->Qa (fb pg w) A T m No s):Ga z w W A L ρ s T x:=λv Q m=>hT _ (h v Q m)
end
variable {w:zb} {W:qb} {L:Ca} {ρ C:List Ca} {K j Q:St} {s s1:Ea} {v:V} {S:ua} {A:Xb} {X:wj} {E:Ca->Prop} {N:List Bb} {lo:Nat} {D:Me}
theorem PV.same{q:Nat}(m:R w W ρ K s.heap)(x:VR w ρ s.heap v S):PV w W L ρ s K v S {s with toks:=q}:=⟨ρ,rfl,.refl,m,x⟩
theorem PV.wU(m:R w W ρ K s.heap)(x:VR w ρ s.heap v S):PV w W L ρ s K v S s:=⟨ρ,rfl,.refl,m,x⟩
theorem PB.wU(m:R w W ρ K s.heap):PB w W L ρ s K b b s:=⟨ρ,rfl,.refl,m,rfl⟩
theorem PR.id{F I:Type}{G:List Ca->qb->F->I->Prop}{x:F}{y:I}(m:R w W ρ K s.heap)(q:G ρ s.heap x y):PR G w W L ρ s K x y s:=⟨ρ,rfl,.refl,m,q⟩
theorem B3{x:Bb}(hs:xc N x=J i)(R:X.kindOf x=J .local\/X.kindOf x=J .cell\/X.kindOf x=J .free)(hd:(x==("__debug__":Bb))=ta)(x1:(x==("__classdict__":Bb))=ta):
 uc w W A X E N lo D (yc (.Name x r) X) (λK=>(Vk D i).map λv=>(v,K)):=λρ K s q G=>Ga.map λv O=>wpAny_Name (by
 refine aa λnq=>?_;obtain⟨_,e1,rfl⟩:=Fa.mp O;refine nq ?_;rcases R with R|R|R
 ·refine aa λnq=>?_
  obtain⟨m,x2,hv⟩:=G.ns;obtain⟨S,q1,q2⟩:=hv x i _ hs R e1;exact nq (OV G.kind R x2 q1 (PV.wU q q2))
 ·obtain⟨c,S,q1,q2,m⟩:=G.cells x i _ hs (.inl R) e1
  exact wpAny_loadName_cell G.kind R q1 q2 (PV.wU q m)
 ·obtain⟨c,S,q1,q2,m⟩:=G.cells x i _ hs (.inr R) e1
  exact DX G.kind R q1 q2 (PV.wU q m) x1) hd
theorem mZ{i:Int}:uc w W A X E N lo D (yc (.Constant (.int i) k r) X) (λK=>J (.int i,K)):=λm m m q m=>Ga.ret (J3 (PV.same q (.int _ _)))
theorem V1{i:Bb}:uc w W A X E N lo D (yc (.Constant (.str i) k r) X) (λK=>J (.str i,K)):=λm m m q m=>Ga.ret (Pw (PV.same q (.str _ _)))
theorem oS{i:Bool}:uc w W A X E N lo D (yc (.Constant (.bool i) k r) X) (λK=>J (.bool i,K)):=λm m m q m=>Ga.ret (wpAny_Constant_bool (PV.wU q (.bool _)))
theorem eU:uc w W A X E N lo D (yc (.Constant .none k r) X) (λK=>J (.none,K)):=λm m m q m=>Ga.ret (wpAny_Constant_none (PV.wU q .none))
theorem Jw{F I:Type}{z:List Ca->qb->F->I->Prop}{f m:Yl ua}{O G:St->Option (V×St)}{q:V×St->V×St->Option (F×St)}{t:ua->ua->Yl I}{T:Yl I}
 (hf:uc w W A X E N lo D f O)(hg:uc w W A X E N lo D m G)
 (ht:∀a b e bv ρ K s τ,R w W ρ K s.heap->Lc w W X E N lo D ρ s.heap->VR w ρ s.heap e a->VR w ρ s.heap bv b->Ga z w W A X.locals ρ s (t a b) (q (e,τ) (bv,K)))
 (hT:∀(x3:I->Ea->Prop) s,Qa (fb pg w) A f (λa s1=>Qa (fb pg w) A m (λb s2=>Qa (fb pg w) A (t a b) x3 No s2) No s1) No s->Qa (fb pg w) A T x3 No s):
 Ys z w W A X E N lo D T (λK=>(O K).bind λp=>(G p.2).bind (q p)):=λρ K s x4 x5 v Q x6=>bb x6 λp e1 e2=>bb e2 λx8 e3 e4=>hT _ _ (Da (hf ρ K s x4 x5 p.1 p.2 e1) (λa s1 p1=>by
 obtain⟨C,t1,k1,r1,x1⟩:=p1;have E1:=x5.kx x4 k1;refine Da (hg C p.2 s1 r1 E1 x8.1 x8.2 e3) (λb s2 p2=>?_) λx7 x7 x=>x;obtain⟨x9,t2,k2,r2,x2⟩:=p2;exact Da (ht a b p.1 x8.1 x9 x8.2 s2 p.2 r2 (E1.kx r1 k2) (k2.vr x1) x2 v Q e4) (λc s3 p3=>PR.after t1 k1 (PR.after t2 k2 p3)) λx7 x7 x=>x) λx7 x7 x=>x)
theorem Hs{F I x1 x2:Type}{R1:List Ca->qb->x1->x2->Prop}{z:List Ca->qb->F->I->Prop}{f:Yl x2}{m:St->Option (x1×St)}{q:x1×St->Option (F×St)}{t:x2->Yl I}{T:Yl I}
 (hf:Ys R1 w W A X E N lo D f m)
 (ht:∀a e ρ K s,R w W ρ K s.heap->Lc w W X E N lo D ρ s.heap->R1 ρ s.heap e a->Ga z w W A X.locals ρ s (t a) (q (e,K)))
 (hT:∀s,J5 w A s f t T):
 Ys z w W A X E N lo D T (λK=>(m K).bind q):=λρ K s G O=>(hf ρ K s G O).bind (λb a C s1 j k r1 x=>ht b a C j s1 r1 (O.kx G k) x) (hT s)
end
section
variable {i m:Nat} {N:List V} {O:List ua} {d:Xf} {K:ur} {b:Bool}
variable [I:Av]
theorem tB{v:V}{i:Int}(h:qh v=J i):v=.int i:=by induction v using V.casesOn<;>first|exact ja h|exact Gc V.int (ba h)
theorem Xu{v:V}{i:Bool}(h:ip v=J i):v=.bool i:=by induction v using V.casesOn<;>first|exact ja h|exact Gc V.bool (ba h)
theorem Sh{v:V}(h:mw v=J i):v=.ref i:=by induction v using V.casesOn<;>first|exact ja h|exact Gc V.ref (ba h)
theorem Vl{v:V}{i:List V}(h:ux v=J i):v=.t i:=by induction v using V.casesOn<;>first|exact ja h|exact Gc V.t (ba h)
theorem WC{v:V}{i:Bb}(h:gK v=J i):v=.str i:=by induction v using V.casesOn<;>first|exact ja h|exact Gc V.str (ba h)
theorem BB{T:St}(h:tc T i=J N):T[i]?=J (.list N):=by
 refine Vg h λo e c=>?_
 induction o with
 |list f=>exact e.trans (Gc _ (Gc _ (ba c)))|_=>exact ja c
variable {w:zb} {S h:qb} {L:Ca} {X:List Ca} {T G:St} {s:Ea} {v u:V} {W a Q:ua} {A:Xb} {n:Nat}
theorem VR.wZ(x:VR w X h v W){i:Int}(e:qh v=J i):∃t,W=.int i t:=(tB e▸x:VR w X h (.int i) W).wF
theorem R.list(r:R w S X T h){W:ua}(e:tc T i=J N)(x:VR w X h (.ref i) W):
 ∃a O m,W=.ref a/\X[i]?=J a/\h.get? a=J (listOf O.toArray m)/\N.length<=4096/\ve w X h N O:=by
 refine aa λf=>?_;obtain⟨a,g,c⟩:=x.wF;obtain⟨O,m,z⟩:=r.obj i _ a (BB e) c;exact f (⟨a,O,m,g,c,z⟩)
theorem we{a:Ca}(e:h.get? a=J (listOf O.toArray m)):h.IsList a O.toArray:=⟨_,e,rfl,_,rfl⟩
theorem cB(x:VR w X h v W)(e:bB v=J d):(∃as,qfF h W d as)/\d.canLay0=Z/\d.depth=0:=by
 have y:=x.wF;refine aa λnq=>?_
 induction v using V.casesOn with
 |none=>refine nq ?_;clear nq;exact ba e▸y▸⟨⟨_,.none⟩,rfl,rfl⟩|bool b=>refine nq ?_;clear nq;exact ba e▸y▸⟨⟨_,.bool b⟩,rfl,rfl⟩|int i=>refine nq ?_;clear nq;obtain⟨t,rfl⟩:=y;exact ba e▸⟨⟨_,.int i t⟩,rfl,rfl⟩|str s=>
  refine nq ?_;clear nq;obtain⟨t,rfl⟩:=y;replace e:(if Jp s=Z then J (Xf.str s)else Y)=J d:=e
  split at e
  ·rename_i c;exact ba e▸⟨⟨_,.str s t⟩,fK c,rfl⟩
  ·exact ja e
 |_=>refine nq ?_;clear nq;exact ja e
def NK(w:zb)(X:List Ca)(h:qb)(n:Nat)(f:V->Option Xf):Prop:=∀v W d,VR w X h v W->f v=J d->(∃as,qfF h W d as)/\d.canLay0=Z/\d.depth<=n
theorem Lr{f:V->Option Xf}(j:NK w X h n f){c:List ua}(x:ve w X h N c):∀{g},km f N=J g->(∃as,ReadsAll h c g as)/\Th g=Z/\zh g<=n:=
 x.ind (P:=λN c=>∀{g},km f N=J g->(∃as,ReadsAll h c g as)/\Th g=Z/\zh g<=n)
  (λe=>ba e▸⟨⟨_,.nil⟩,rfl,Zc _⟩) λu u u u a u t u e=>by
   refine aa λk=>(Vg e λd l o=>?_);refine Ds o λg p z=>?_;subst z;obtain⟨⟨_,q⟩,r,y⟩:=j _ _ _ a l;obtain⟨⟨_,B⟩,C,D⟩:=t p;exact k (⟨⟨_,.cons q B⟩,Aa.mpr ⟨r,C⟩,qbm.mpr ⟨y,D⟩⟩)
theorem ou(r:R w S X T h):∀n:Nat,NK w X h n λv=>gv n v T:=by
 intro n
 induction n with
 |zero=>
  exactλu u u x e=>have z:=cB x e;⟨z.1,z.2.1,Gd z.2.2⟩
 |succ n o=>
  exactλv W d x e=>by
   have p:bB v=J d->(∃as,qfF h W d as)/\d.canLay0=Z/\d.depth<=n+1:=λe=>have z:=cB x e;⟨z.1,z.2.1,Za (Gd z.2.2) (Zc _)⟩;refine aa λc=>?_
   induction v using V.casesOn with
   |t N=>
    refine c ?_;clear c;refine aa λc=>?_;refine Ds e λq f y=>?_;subst y;obtain⟨a,O,m,rfl,_,g,_,z⟩:=x.wF;obtain⟨⟨_,j⟩,k,l⟩:=Lr (o) z f;refine c ?_;clear c;exact⟨⟨_,reads_tuple_at g rfl rfl j⟩,k,vf l⟩
   |ref i=>
    refine c ?_;clear c;refine aa λc=>(Vg e λN t B=>?_);refine Ds B λq f y=>?_;subst y;obtain⟨a,O,m,rfl,_,g,_,z⟩:=r.list t x;obtain⟨⟨_,j⟩,k,l⟩:=Lr (o) z f;refine c ?_;clear c;exact⟨⟨_,UJ g rfl rfl j⟩,k,vf l⟩
   |_=>refine c ?_;clear c;exact p e
theorem ik(c:d.canLay0=Z)(e:d.depth<=6):YX d=Z:=by
 simp only[YX,c,tA,decide_eq_true_eq];lia
def qbp(w:zb)(X:List Ca)(h:qb)(z:List V)(y:List ua):Prop:=match z,y with|[],O=>O=[]|x::N,O=>∃u c,O=u::c/\VR w X h x u/\ve w X h N c
theorem ve.wF(q:ve w X h N O):qbp w X h N O:=q.ind rfl λy y u c a t y=>⟨u,c,rfl,a,t⟩
theorem zy{g:Type} [DecidableEq g]{look:List (g×V)->g->Option V}(o:∀k,look [] k=Y)(t:∀p r k,look (p::r) k=if p.1=k then J p.2 else look r k){j:List (g×V)}{f:List (g×ua)}(l:f.map (λx=>x.1)=j.map λx=>x.1)(r:ve w X h (j.map λx=>x.2) (f.map λx=>x.2))(k:g):
 (look j k=Y/\Wl f k=Y)\/∃x W,look j k=J x/\Wl f k=J W/\VR w X h x W:=by
 induction j generalizing f with
 |nil=>induction f using ma with|nil=>exact .inl ⟨o k,rfl⟩|cons u y=>exact zc l (Ac _ _)
 |cons p j y=>
  induction f using ma with
  |nil=>exact zc l.symm (Ac _ _)|cons q f=>
   refine aa λz=>?_;obtain⟨_,_,e,a,b⟩:=r.wF;cases e;refine z ?_;have B:Wl (q::f) k=if q.1=k then J q.2 else Wl f k:=by
    unfold Wl;refine U tn ?_;by_cases c:q.1=k
    ·refine U (Fd c) (U (decide_eq_true c) ?_);rfl
    ·exact U (ge c) (U (decide_eq_false c) rfl)
   refine U B (U (t _ _ _) (U (Yd l:q.1=p.1) ?_));by_cases c:p.1=k
   ·exact U (Fd c) (U (Fd c) (.inr ⟨_,_,rfl,rfl,a⟩))
   ·exact U (ge c) (U (ge c) (y (xd l) b))
theorem Jv{e:List (Int×V)}{c:List (Int×ua)}(f:c.map (λx=>x.1)=e.map λx=>x.1)(g:ve w X h (e.map λx=>x.2) (c.map λx=>x.2))(k:Int):
 (Pm e k=Y/\Wl c k=Y)\/∃x W,Pm e k=J x/\Wl c k=J W/\VR w X h x W:=zy (look:=Pm) (λu=>rfl) (λu u u=>rfl) f g k
theorem CJ{e:List (Int×V)}{c:List (Int×ua)}(j:c.map (λx=>x.1)=e.map λx=>x.1)(l:ve w X h (e.map λx=>x.2) (c.map λx=>x.2))(k:Int):(Wl c k).isSome=(Pm e k).isSome:=by
 rcases Jv j l k with⟨f,g⟩|⟨x,W,f,g,_⟩<;>refine U f (U g ?_)<;>rfl
theorem R.notMods(r:R w S X T h)(c:S.get? sysModules≠Y){a:Ca}(e:a∈X):(a==sysModules)=ta:=
 beq_eq_false_iff_ne.mpr λq=>c (q▸r.fresh _ e)
theorem Mv{a:Ca}{o:pD}{c:List (Int×ua)}(e:h.get? a=J o)(d:o.IsDictOf (kg pg w) c):h.MapOf (kg pg w) a (Wl c):=
 (Nf.mpr ⟨o,e,d⟩).mapOf
abbrev OX(w:zb)(S:qb)(A:Xb)(L:Ca)(X:List Ca)(T:St)(s:Ea)(K:ur)(a Q:ua)(o:Option Bool):Prop:=∀b,o=J b->Qa (fb pg w) A (fg K a Q) (PV w S L X s T (.bool b)) No s
theorem su{f:Int->Int->Bool}(c:VR w X s.heap v a)(g:VR w X s.heap u Q)(h:∀i j t e,Qa (fb pg w) A (fg K (.int i t) (.int j e)) (PV w S L X s T (.bool (f i j))) No s):OX w S A L X T s K a Q (Ev f v u):=λb e=>by
 refine Vg e λi k l=>?_;refine Ds l λj o z=>?_;subst z;obtain⟨_,rfl⟩:=c.wZ k;obtain⟨_,rfl⟩:=g.wZ o;exact h _ _ _ _
theorem yW(g:Eg n A)(r:R w S X T s.heap)(t:VR w X s.heap v a)(B:VR w X s.heap u Q):OX w S A L X T s .Eq a Q (K4 v u T)/\OX w S A L X T s .NotEq a Q ((K4 v u T).map λx=> !x):=by
 have c:∀b,K4 v u T=J b->Qa (fb pg w) A (fg .Eq a Q) (PV w S L X s T (.bool b)) No s/\Qa (fb pg w) A (fg .NotEq a Q) (PV w S L X s T (.bool !b)) No s:=λb e=>by
  refine Vg e λd f x=>?_;refine Ds x λC y z=>?_;subst z;obtain⟨⟨_,j⟩,k,l⟩:=ou r 6 _ _ _ t f;obtain⟨⟨_,o⟩,p,q⟩:=ou r 6 _ _ _ B y;exact⟨eq_dataH j o (ik k l) (ik p q) (ib (by lia) g.u64) (PV.wU r (.bool _)),ne_dataH j o (ik k l) (ik p q) (ib (by lia) g.u64) (PV.wU r (.bool _))⟩
 exact⟨λb e=>(c b e).1,λb e=>by
  refine Ds e λy f z=>?_;subst z;exact(c _ f).2⟩
theorem jN(p:Eg n A)(r:R w S X T s.heap){c:Ca}(f:s.heap.get? c=J (listOf O.toArray m))(z:ve w X s.heap N O){as:List Ca}(g:qfF s.heap a d as)(j:d.canLay0=Z)(q:d.depth<=5)(e:qT d N T=J b):
 Qa (fb pg w) A (fg .In a (.ref c)) (PV w S L X s T (.bool b)) No s/\Qa (fb pg w) A (fg .NotIn a (.ref c)) (PV w S L X s T (.bool !b)) No s:=by
 refine aa λt=>?_;refine Ds e λx B y=>?_;subst y;obtain⟨⟨_,k⟩,l,C⟩:=Lr (ou r 5) z B;refine t ?_;have o:A.units+1+min (zh x) d.depth<cLine:=ib (Gk (Wj (Gb 1) _) (Za (Nat.min_le_right _ _) q)) (ib (Sf (by lia:A.units+1+5<A.units+100+1)) p.u64);exact⟨SeqAt.in_list_reads (UJ f rfl rfl k) g l j o (PV.wU r (.bool _)),SeqAt.notIn_list_reads (UJ f rfl rfl k) g l j o (PV.wU r (.bool _))⟩
theorem NW(hm:S.get? sysModules≠Y)(B:Eg n A)(r:R w S X T s.heap)(q:VR w X s.heap v a)(C:VR w X s.heap u Q)(e:qaH v u T=J b):
 Qa (fb pg w) A (fg .In a Q) (PV w S L X s T (.bool b)) No s/\(∀k,v=.int k->Qa (fb pg w) A (fg .NotIn a Q) (PV w S L X s T (.bool !b)) No s):=by
 refine aa λf=>(Vg e λi e1 e2=>(Vg e2 λo D g=>?_));rw[Sh e1]at C;obtain⟨c,rfl,x⟩:=C.wF;refine f ?_;clear f;refine aa λf=>?_
 induction o with
 |list N=>
  refine f ?_;clear f;refine aa λf=>?_;obtain⟨O,m,l,_,p⟩:=r.obj i _ c D x;refine f ?_;clear f
  induction v using V.casesOn with
  |int k=>
   obtain⟨t,rfl⟩:=q.wF;exact(jN B r l p (.int k t) rfl (Zc _) g).imp_right λz y y=>z
  |t ys=>
   refine aa λf=>(Vg g λd z j=>?_);obtain⟨⟨_,E⟩,F,P⟩:=ou r 5 _ _ _ q z;refine f ?_;clear f;exact⟨(jN B r l p E F P j).1,λy h=>nomatch h⟩
  |_=>exact ja g
 |idict es=>
  refine f ?_;clear f;refine aa λf=>?_;refine Ds g λk z j=>?_;subst j;obtain⟨t,rfl⟩:=q.wZ z;obtain⟨o,x1,l,E,p,q4,q5⟩:=r.obj i _ c D x;refine f ?_;clear f;have F:Go k (.int k t)=Z:=decide_eq_true rfl;have P:=r.notMods hm (Na x);exact Bd (CJ p q4 _) (⟨wpAny_in_of (knd:=kg pg w) (k:=k) F P (Mv l E) (PV.same r (.bool _)),λy y=>wpAny_notIn_of (knd:=kg pg w) (k:=k) F P (Mv l E) (PV.same r (.bool _))⟩)
 |_=>refine f ?_;clear f;exact ja g
theorem JB(c:VR w X s.heap v a)(e:dH v=J b):b=(a== .none):=by
 have y:=c.wF
 induction v using V.casesOn with
 |none=>rw[(y:a=.none)];exact(ba e).symm|bool=>exact y▸(ba e).symm|int=>obtain⟨_,rfl⟩:=y;exact(ba e).symm|ref=>obtain⟨_,rfl,_⟩:=y;exact(ba e).symm|t=>obtain⟨_,_,_,rfl,_⟩:=y;exact(ba e).symm|_=>exact ja e
theorem OD{I j:V}{a Q:ua}(o:S.get? sysModules≠Y)(l:Eg n A)(r:R w S X T s.heap)(c:VR w X s.heap I a)(f:VR w X s.heap j Q)
 (e:kq K I j T=J b):Qa (fb pg w) A (fg K a Q) (PV w S L X s T (.bool b)) No s:=by
 induction K with
 |Lt=>exact su c f (λu u u u=>lt_int (PV.wU r (.bool _))) b e|LtE=>exact su c f (λu u u u=>le_int (PV.wU r (.bool _))) b e|Gt=>exact su c f (λu u u u=>gt_int (PV.wU r (.bool _))) b e|GtE=>exact su c f (λu u u u=>ge_int (PV.wU r (.bool _))) b e|Eq=>exact(yW l r c f).1 b e|NotEq=>exact(yW l r c f).2 b e|In=>exact(NW o l r c f e).1|NotIn=>
  refine Vg e λk g p=>?_;refine Ds p λb q z=>?_;subst z;exact(NW o l r (tB g▸c) f q).2 k rfl
 |Is=>
  induction j using V.casesOn with
  |none=>rw[JB c e,(f.wF:Q=.none)];exact is_none (PV.wU r (.bool _))|_=>exact ja e
 |IsNot=>
  induction j using V.casesOn with
  |none=>
   refine aa λk=>?_;refine Ds e λb g z=>?_;subst z;refine k ?_;rw[JB c g,(f.wF:Q=.none)];exact isNot_none (PV.wU r (.bool _))
  |bool y=>
   refine Ds e λx g z=>?_;subst z;rw[((Xu g▸c:VR w X s.heap (.bool x) a).wF:a=.bool x),(f.wF:Q=.bool y)];exact wpAny_isNot_plain rfl (by
    have:(!(T5 x==T5 y))=(x !=y):=by induction x<;>induction y<;>rfl
    refine U this ?_;exact PV.wU r (.bool _))
  |_=>exact ja e
end
section
variable {o o':pD} {D:Ca} {i k tk':Nat} {G:Type} {N F:List V} {T:Yl ua} {vs:List ua}
variable [K:Av]
noncomputable abbrev hE:qb:={}
theorem GG(a:Ca):hE.get? a=Y:=by simp[qbj]
noncomputable def wi(h:qb)(L:Ca):List (Ca×pD):=(Ka h.objs.size).filterMap λa=>if a=L then Y else(h.get? a).map λo=>(a,o)
theorem xe{h:qb}{L:Ca}{a:Ca}:(a,o)∈wi h L↔a≠L/\h.get? a=J o:=by
 unfold wi;refine U (propext List.mem_filterMap) ?_
 constructor
 ·rintro⟨b,_,e⟩
  split at e
  ·exact ja e
  ·rename_i n
   induction q:h.get? b with
   |none=>rw[q]at e;exact ja e|some o'=>rw[q]at e;obtain⟨rfl,rfl⟩:=Ta (ba e);exact⟨n,q⟩
 ·rintro⟨n,e⟩
  exact⟨a,ac.mpr (gc e),by refine U (ge n) (U e ?_);rfl⟩
theorem Zi{h:qb}{L:Ca}{m}(n:h.Ns L m):Fr hE L h m:=⟨n,λb o e=>(by rw[GG]at e;exact ja e),Zc _⟩
theorem vg{h:qb}{L:Ca}:News hE L h (wi h L):=λp c=>by
 obtain⟨a,o⟩:=p;obtain⟨n,e⟩:=xe.mp c;exact⟨e,n,GG _⟩
theorem Sq{h:qb}{L:Ca}:(wi h L).Pairwise λp q=>p.1≠q.1:=by
 unfold wi;refine U (propext List.pairwise_filterMap) ((List.nodup_range (n:=h.objs.size)).imp λ{a b} e p c q d=>?_);replace c:(if a=L then Y else(h.get? a).map λo=>(a,o))=J p:=c;replace d:(if b=L then Y else(h.get? b).map λo=>(b,o))=J q:=d
 split at c
 ·exact ja c
 split at d
 ·exact ja d
 induction f:h.get? a with
 |none=>rw[f]at c;exact ja c|some j=>
  induction g:h.get? b with
  |none=>rw[g]at d;exact ja d|some l=>rw[f]at c;rw[g]at d;obtain rfl:=ba c;obtain rfl:=ba d;exact e
theorem X2:{d:List (Ca×pD)}->(d.Pairwise λp q=>p.1≠q.1)->(D,o)∈d->∃f,Upd D o o' d f/\(D,o')∈f/\∀p∈d,p.1≠D->p∈f:=by
 intro d
 induction d with
 |nil=>
  rintro _ m;cases m
 |cons p r x=>
  rintro j m;rw[Ag]at j;rcases ab.mp m with e|e
  ·subst e
   exact⟨(D,o')::r,.head λq g=>(j.1 q g).symm,sa,λq g n=>by
    rcases ab.mp g with e|e
    ·subst e;exact zc rfl n
    ·exact oa _ e⟩
  ·refine aa λl=>?_
   obtain⟨O,c,a,b⟩:=x j.2 e;refine l ?_;clear l;exact⟨p::O,.tail (j.1 _ e) c,oa _ a,λq g n=>by
    rcases ab.mp g with e|e
    ·subst e;exact sa
    ·exact oa _ (b q e n)⟩
theorem Bu{h:qb}{L:Ca}(e:h.get? D=J o)(n:D≠L):∃c,Upd D o o' (wi h L) c/\(D,o')∈c/\∀p∈wi h L,p.1≠D->p∈c:=
 X2 Sq (xe.mpr ⟨n,e⟩)
theorem d0{h:qb}{L:Ca}{m m'}(a:h.Ns L m)(b:h.Ns L m'):m=m':=by
 refine aa λg=>?_;obtain⟨o,r,O,e,d,_,q⟩:=a;obtain⟨o',j,l,c,f,_,p⟩:=b;refine g ?_;rw[e]at c;obtain rfl:=ba c;rw[d]at f;cases f
 funext x;exact Bd (q _) (Bd (p _) rfl)
structure Tm(W:qb)(L:Ca)(ρ:List Ca)(h:qb):Prop where
 ns:∃m,h.Ns L m
 out:L∉ρ
 wK:W.get? L=Y
theorem Cg{h:qb}{L:Ca}{m}(n:h.Ns L m)(e:h.get? L=J o):¬Ih o:=by
 refine aa λf=>?_;obtain⟨o',g,j,c,d,_⟩:=n;refine f ?_;rw[e]at c;obtain rfl:=ba c;simp[Ih,d]
section
variable {w:zb} {W h S:qb} {ρ E:List Ca} {Q X:St} {L:Ca} {C:wj} {z:Ca->Prop} {u:List Bb} {lo:Nat} {y:Me}
theorem Lc.lok(c:Lc w W C z u lo y ρ h):Tm W C.locals ρ h:=⟨c.ns.elim λm a=>⟨m,a.1⟩,c.loc.1,c.loc.2.1⟩
theorem KX.ofNs{m}(e:h.Ns L m)(c:S.Ns L m):∀d,h.Ns L d->S.Ns L d:=λd q=>by refine U (d0 q e) ?_;exact c
theorem Kp.ofBut(d:∀a o,a≠L->h.get? a=J o->S.get? a=J o){m}(g:h.Ns L m)(f:S.Ns L m):Kp (λa=>a=L) ρ h S ρ:=
 ⟨Ja _,λc h=>.inl h,λa o e c n=>d a o n e,λa o e i=>d a o (λq=>by subst q;exact Cg g e i) e,λa e=>by
  obtain⟨o,j⟩:=Oa.mp e;by_cases q:a=L
  ·subst q;obtain⟨o',_,_,l,_⟩:=f;refine U l ?_;rfl
  ·refine U (d a o q j) ?_;rfl⟩
theorem KX.ofBut(e:∀a o,a≠L->h.get? a=J o->S.get? a=J o){m}(d:h.Ns L m)(c:S.Ns L m):KX L ρ h S ρ:=⟨Kp.ofBut e d c,KX.ofNs d c⟩
theorem R.ofBut(r:R w W ρ Q h)(l:Tm W L ρ h)(c:∀a o,a≠L->h.get? a=J o->S.get? a=J o):R w W ρ Q S:=by
 obtain⟨m,d⟩:=l.ns;exact r.beside (wr:=λa=>a=L) (λa o n e=>c a o n e) λa q=>by subst q;exact⟨l.out,l.wK,λo e=>Cg d e⟩
theorem R.newL(r:R w W ρ Q h)(l:Tm W L ρ h){a:Ca}{o:O}{m}(hn:h.Ns L m)(x1:S.Ns L m)(hk:∀b x,b≠L->h.get? b=J x->S.get? b=J x)(ha:h.get? a=Y)(ho:OR w (ρ++[a]) S o a):
 R w W (ρ++[a]) (Q++[o]) S/\KX L ρ h S (ρ++[a]):=by
 have k:KX L ρ h S ρ:=KX.ofBut hk hn x1;have r':R w W ρ Q S:=r.ofBut l hk;have x2:W.get? a=Y:=by
  induction e:W.get? a with
  |none=>rfl|some x=>have:=r.wK a x e;rw[ha]at this;exact ja this
 have P:a∉ρ:=λq=>by obtain⟨x,hx,_⟩:=r.live q;rw[ha]at hx;exact ja hx
 refine⟨⟨by simp[r.len],?_,?_,r'.avl,r'.wK,λj p b d g=>?_⟩,⟨Hc _ _,λb f=>?_,λb x e c n2=>k.keep b x e c n2,k.imm,k.live⟩,k.ns⟩
 ·exact U (propext Zh) (⟨r.nodup,by simp,λx hx c hy=>by rw[Ra]at hy;subst hy;exactλq=>P (q▸hx)⟩)
 ·intro b f
  rcases Vb.mp f with q|q
  ·exact r.fresh b q
  ·rw[Ra]at q;subst q;exact x2
 ·by_cases q:j<Q.length
  ·rw[Xa q]at d
   rw[Xa (by refine U r.len ?_;exact q)]at g;exact(r'.obj j p b d g).mono (Hc _ _) (λb x e c=>e) λx e=>e
  ·rw[Ma (og q)]at d
   rw[Ma (by refine U r.len ?_;exact og q),r.len]at g;refine aa λe=>?_
   induction p:j - Q.length using Sa with
   |zero=>refine e ?_;clear e;rw[p]at d g;simp at d g;subst d g;exact ho|succ c=>refine e ?_;clear e;rw[p]at d;simp at d
 ·rcases Vb.mp f with q|q
  ·exact .inl q
  ·rw[Ra]at q;subst q;exact .inr ha
theorem R.updL(r:R w W ρ Q h)(l:Tm W L ρ h){a:Ca}{o:O}{m}(ea:ρ[i]?=J a)(hn:h.Ns L m)(P:S.Ns L m)(hk:∀b x,b≠L->b≠a->h.get? b=J x->S.get? b=J x)(ho:OR w ρ S o a):
 R w W ρ (Q.set i o) S/\KX L ρ h S ρ:=by
 have ha:a∈ρ:=Na ea;refine aa λnq=>?_;obtain⟨xa,x1,x2⟩:=r.live ha;refine nq ?_;clear nq;have f:∀b x,h.get? b=J x->Ih x->S.get? b=J x:=λb x e im=>
  hk b x (λq=>by subst q;exact Cg hn e im) (λq=>by subst q;rw[e]at x1;obtain rfl:=ba x1;exact x2 im) e
 refine⟨⟨by refine U yb ?_;exact r.len,r.nodup,r.fresh,λb W=>(by obtain⟨o,ho,c⟩:=r.avl b W;exact⟨o,f b o ho c,c⟩),λb x e=>hk b x (λq=>by subst q;rw[l.wK]at e;exact ja e) (λq=>by subst q;rw[r.fresh b ha]at e;exact ja e) (r.wK b x e),λj p b g e2=>?_⟩,
  ⟨Ja _,λc h=>.inl h,λb x e n1 n2=>hk b x n2 (λq=>n1 (q▸ha)) e,f,λb e=>?_⟩,KX.ofNs hn P⟩
 ·by_cases q:i=j
  ·subst q
   rw[ea]at e2;obtain rfl:=ba e2;rw[Zk]at g;simp only[if_true]at g
   split at g<;>(first|exact ja g|obtain rfl:=ba g)
   exact ho
  ·rw[Xc q]at g
   have x3:b≠a:=λd=>by
    subst d;obtain⟨h1,h2⟩:=ub.mp ea;obtain⟨h3,h4⟩:=ub.mp e2;exact q ((eR r.nodup).mp (h2.trans h4.symm))
   exact(r.obj j p b g e2).mono (Ja _) f λx e=>hk b x (λd=>by subst d;exact l.out (Na e2)) x3 e
 ·obtain⟨x,d⟩:=Oa.mp e
  by_cases q:b=a
  ·subst q
   obtain⟨x,d,_⟩:=ho.get;refine U d ?_;rfl
  ·by_cases g:b=L
   ·subst g;obtain⟨o',_,_,j,_⟩:=P;refine U j ?_;rfl
   ·refine U (hk b x g q d) ?_;rfl
theorem Fr.now{m}(c:Fr hE L h m):h.Ns L m:=c.ns
theorem News.keepAll(c:News hE L S (wi h L)):∀b x,b≠L->h.get? b=J x->S.get? b=J x:=λb x n e=>(c (b,x) (xe.mpr ⟨n,e⟩)).1
theorem News.keepAll1{p:Ca×pD}(c:News hE L S (p::wi h L)):∀b x,b≠L->h.get? b=J x->S.get? b=J x:=λb x n e=>(c (b,x) (oa _ (xe.mpr ⟨n,e⟩))).1
theorem News.keepUpd{d:List (Ca×pD)}(c:News hE L S d)(q:∀p∈wi h L,p.1≠D->p∈d):∀b x,b≠L->b≠D->h.get? b=J x->S.get? b=J x:=λb x n f e=>(c (b,x) (q _ (xe.mpr ⟨n,e⟩) f)).1
theorem Fb(h:qb):h.get? h.objs.size=Y:=by
 induction e:h.get? h.objs.size with
 |none=>rfl|some o=>exact zc (gc e) (fc _)
end
inductive PS(w:zb)(W:qb)(L:Ca)(ρ:List Ca)(s:Ea)(X:St)(s':Ea):Prop
 |mk (E:List Ca):Ah s s'->KX L ρ s.heap s'.heap E->R w W E X s'.heap->PS w W L ρ s X s'
variable {w:zb} {W h:qb} {L:Ca} {ρ:List Ca} {Q X:St} {s:Ea} {v:V} {t:ua} {A:Xb} {n:Nat}
theorem Ni{n:Nat}(h:Ud n=Z):n<4096:=gb h
theorem d5{p:Prop} [Decidable p]{c:Unit}(h:Ie (decide p)=J c):p:=Ml (zf h)
theorem Dl{c:Prop} [Decidable c]{x d:G}(e:(if c then J x else Y)=J d):c/\x=d:=by
 by_cases h:c
 ·rw[Fd h]at e;exact⟨h,ba e⟩
 ·rw[ge h]at e;exact ja e
theorem yo{P:V->St->Prop}(e:Cp N Q=J (v,X))(h:N.length<4096->P (.t N) Q):P v X:=Hq e λc d=>h (Ni (zf d))
theorem wo{P:V->St->Prop}(e:cj N Q=J (v,X))(h:N.length<4096->P (.ref Q.length) (Q++[.list N])):P v X:=Hq e λc d=>h (Ni (zf d))
abbrev WV(w:zb)(W:qb)(L:Ca)(ρ:List Ca)(s:Ea)(A:Xb)(T:Yl ua)(v:V)(c:St):Prop:=Qa (fb pg w) A T (PV w W L ρ s c v) No s
theorem XN{o:Option G}{f:G->V×St}(e:o.map f=J (v,X))(h:∀a,o=J a->WV w W L ρ s A T (f a).1 (f a).2):Qa (fb pg w) A T (PV w W L ρ s X v) No s:=Hq (P:=WV w W L ρ s A T) e h
theorem iO(e:Cp N Q=J (v,X))(h:N.length<4096->WV w W L ρ s A T (.t N) Q):Qa (fb pg w) A T (PV w W L ρ s X v) No s:=yo (P:=WV w W L ρ s A T) e h
theorem YZ(e:cj N Q=J (v,X))(h:N.length<4096->WV w W L ρ s A T (.ref Q.length) (Q++[.list N])):Qa (fb pg w) A T (PV w W L ρ s X v) No s:=wo (P:=WV w W L ρ s A T) e h
theorem ve.line(x:ve w ρ h N vs)(c:N.length<4096):vs.length<=PySem.sizeLine:=by refine Bd x.length (U Af ?_);lia
theorem ui(x:ve w ρ h N vs):{is:List Int}->gi N=J is->Vj vs is:=
 x.ind (P:=λN vs=>{is:List Int}->gi N=J is->Vj vs is) (λe=>ba e▸.nil) λc c c c a c g c e=>by
  refine Vg e λi j l=>?_;refine Ds l λis m d=>?_;subst d;obtain⟨f,rfl⟩:=a.wZ j;exact .cons _ f (g m)
theorem gr{is:List Int}(x:Vj vs is):ve w ρ h (is.map V.int) vs:=by
 induction x with
 |nil=>exact .nil|cons i c d e=>exact .cons (.int i c) e
theorem bU(r:R w W ρ Q s.heap)(x:ve w ρ s.heap N vs)(e:Cp N Q=J (v,X)):
 Qa (fb pg w) A (qcK vs) (PV w W L ρ s X v) No s:=
 iO e λf=>qdp (
  have d:∀a o,s.heap.get? a=J o->(s.heap.push (cu vs 0)).get? a=J o:=λa o e=>ya _ e
  ⟨ρ,rfl,KX.wI d,r.wI d,.t (n:=0) (r.notAv (Fb _)) (La _ rfl) (vd f) (x.mono (Ja _) λa o e c=>d a o e)⟩) (x.line f)
theorem Gr{a:Ca}(r:R w W ρ Q h):(ρ++[a])[Q.length]?=J a:=by refine Bd r.len ?_;exact List.getElem?_concat_length
theorem ZT(r:R w W ρ Q s.heap)(x:ve w ρ s.heap N vs)(e:cj N Q=J (v,X)):
 Qa (fb pg w) A (c5 vs) (PV w W L ρ s X v) No s:=
 YZ e λf=>qeB (
  have g:∀a o,s.heap.get? a=J o->(s.heap.push (listOf vs.toArray 0)).get? a=J o:=λa o e=>ya _ e;have c:=r.new' (L:=L) (a:=s.heap.objs.size) (o:=.list N) g (Fb _) ⟨vs,0,La _ rfl,vd f,x.mono (Hc _ _) λa o e d=>g a o e⟩
  ⟨_,rfl,c.2,c.1,.ref (Gr r)⟩) (x.line f)
theorem Iq{a:Ca}{S:qb}{m}(r:R w W ρ Q s.heap)(l:Tm W L ρ s.heap)(f:s.heap.Ns L m)(d:S.Ns L m)(g:∀b x,b≠L->s.heap.get? b=J x->S.get? b=J x)
 (j:s.heap.get? a=Y)(p:S.get? a=J (listOf vs.toArray k))(x:ve w ρ s.heap N vs)(e:cj N Q=J (v,X)):
 PV w W L ρ s X v (.ref a) {s with heap:=S,toks:=tk'}:=
 wo (P:=λv X=>PV w W L ρ s X v (.ref a) {s with heap:=S,toks:=tk'}) e λq=>
  have c:=r.newL l (a:=a) (o:=.list N) f d g j ⟨vs,_,p,vd q,x.mono (Hc _ _) (KX.ofBut (ρ:=ρ) g f d).imm⟩
  ⟨_,rfl,c.2,c.1,.ref (Gr r)⟩
theorem aU{a:Ca}{S:qb}{m}(r:R w W ρ Q s.heap)(l:Tm W L ρ s.heap)(g:s.heap.Ns L m)(c:S.Ns L m)(d:∀b x,b≠L->s.heap.get? b=J x->S.get? b=J x)
 (j:s.heap.get? a=Y)(p:S.get? a=J (cu vs k))(x:ve w ρ s.heap N vs)(e:Cp N Q=J (v,X)):
 PV w W L ρ s X v (.ref a) {s with heap:=S,toks:=tk'}:=
 yo (P:=λv X=>PV w W L ρ s X v (.ref a) {s with heap:=S,toks:=tk'}) e λq=>
  have f:KX L ρ s.heap S ρ:=KX.ofBut d g c
  ⟨ρ,rfl,f,r.ofBut l d,.t (r.notAv j) p (vd q) (x.mono (Ja _) f.imm)⟩
theorem nf{a:Ca}(e:h.get? a=J (cu vs k)):IsTup h a vs.toArray:=⟨_,e,rfl,_,rfl⟩
theorem ve.replicate{x:V}{c:ua}(q:VR w ρ h x c):∀k,ve w ρ h (Ia k x) (Ia k c):=by
 intro k
 induction k with
 |zero=>
  exact .nil
 |succ k d=>
  exact U Ej (U Ej (.cons q (d)))
theorem TM(c:ua):∀(k:Nat)(d:Array ua),List.foldl (λe f=>e++f) d (Ia k #[c])=(d.toList++Ia k c).toArray:=by
 intro k
 induction k with
 |zero=>
  rintro d;simp
 |succ k e=>
  rintro d;refine U Ej (U List.foldl_cons (U (e _) ?_));simp[Ej]
theorem mz{x:Int}(h0:0<=x)(h1:x<1000):(if(x==0)=Z then 0 else x.natAbs.log2/30+1)<=1:=by
 split
 ·exact Zc _
 ·rename_i q
  have:x.natAbs<2^10:=by lia
  have:=(qal (by simp at q;lia)).mpr this
  lia
theorem CE(q:ve w ρ h N []):N=[]:=sg q.length
theorem kH{l:List G}{a:G}(e:one l=J a):l=[a]:=by
 induction l using ma with
 |nil=>exact ja e|cons a l=>
  induction l using ma with
  |nil=>exact ba e▸rfl|cons=>exact ja e
omit [K:Av]in
theorem kI{l:List G}{p:G×G}(e:two l=J p):l=[p.1,p.2]:=by
 induction l using ma with
 |nil=>exact ja e|cons a l=>
  induction l using ma with
  |nil=>exact ja e|cons b l=>
   induction l using ma with
   |nil=>exact ba e▸rfl|cons=>exact ja e
variable {K I:V} {a b:ua} {B:Je}
theorem Qz{f:Int->Int->Option Int}(m:VR w ρ s.heap K a)(p:VR w ρ s.heap I b)(h:∀i j c l d,f i j=J d->Qa (fb pg w) A (Io B (.int i c) (.int j l)) (PV w W L ρ s Q (.int d)) No s)(e:f5 f K I Q=J (v,X)):Qa (fb pg w) A (Io B a b) (PV w W L ρ s X v) No s:=by
 refine aa λj=>(Vg e λx q e=>(Vg e λg r e=>?_));obtain⟨c,rfl⟩:=m.wZ q;obtain⟨l,rfl⟩:=p.wZ r;exact j (XN e λd O=>h _ _ _ _ d O)
theorem FD(r:R w W ρ Q s.heap)(l:Tm W L ρ s.heap)(p:VR w ρ s.heap (.t N) a)(q:VR w ρ s.heap (.t F) b)(e:Cp (N++F) Q=J (v,X)):Qa (fb pg w) A (Io .Add a b) (PV w W L ρ s X v) No s:=by
 refine aa λO=>?_;obtain⟨m,x⟩:=l.ns;obtain⟨_,_,_,rfl,na,ea,la,f⟩:=p.wF;obtain⟨_,_,_,rfl,nb,eb,lb,g⟩:=q.wF;refine O ?_;refine add_tuples (Zi x) vg (nf ea) (nf eb) (λc=>yo (P:=λv j=>PV w W L ρ s j v _ s) e λd=>PV.wU r ?_) (λd c=>yo (P:=λv j=>PV w W L ρ s j v _ s) e λd=>PV.wU r ?_) (λd d S F' j=>aU r l x F'.ns (News.keepAll1 j) (Fb _) (j _ sa).1 (f.append g) e) (yo (P:=λd d=>_) e λj=>(f.append g).line j |> λc=>by rw[Ha]at c;exact c)
 ·exact U (CE (show ve w ρ s.heap N []from c▸f)) q
 ·exact U (CE (show ve w ρ s.heap F []from c▸g)) (U (Ub _) p)
theorem KA(r:R w W ρ Q s.heap)(l:Tm W L ρ s.heap)(p:VR w ρ s.heap (.ref i) a)(q:tc Q i=J N){j:Nat}(x:VR w ρ s.heap (.ref j) b)(O:tc Q j=J F)(e:cj (N++F) Q=J (v,X)):Qa (fb pg w) A (Io .Add a b) (PV w W L ρ s X v) No s:=by
 refine aa λnq=>?_;obtain⟨m,d⟩:=l.ns;obtain⟨_,_,_,rfl,_,q1,_,f⟩:=r.list q p;obtain⟨_,_,_,rfl,_,p1,_,g⟩:=r.list O x;exact nq (add_lists (Zi d) vg (we q1) (we p1) (λS F' c=>Iq r l d F'.ns (News.keepAll1 c) (Fb _) (c _ sa).1 (f.append g) e) (wo (P:=λc c=>_) e λhl=>(f.append g).line hl |> λc=>by rw[Ha]at c;exact c))
theorem bY(r:R w W ρ Q s.heap)(l:Tm W L ρ s.heap)(g:VR w ρ s.heap K a)(m:VR w ρ s.heap I b)(e:RR K I Q=J (v,X)):Qa (fb pg w) A (Io .Add a b) (PV w W L ρ s X v) No s:=by
 refine aa λf=>?_
 induction K using V.casesOn with
 |int x=>
  refine f ?_;clear f;obtain⟨c,rfl⟩:=g.wF;exact XN e λd j=>by
   obtain⟨p,rfl⟩:=m.wZ j;exact qap (PV.same r (.int _ _))
 |t N=>
  refine f ?_;clear f;refine aa λf=>(Vg e λF c e=>(f ?_));clear f;exact FD r l g (Vl c▸m) e
 |ref i=>
  refine f ?_;clear f;refine aa λf=>(Vg e λN c e=>(Vg e λF d e=>(Vg d λj p q=>?_)));refine f ?_;clear f;exact KA r l g c (Sh p▸m) q e
 |_=>refine f ?_;clear f;exact ja e
theorem WZ(r:R w W ρ Q s.heap)(l:Tm W L ρ s.heap)(P:VR w ρ s.heap K a)(xb:VR w ρ s.heap I b)(e:XT K I Q=J (v,X)):Qa (fb pg w) A (Io .Mult a b) (PV w W L ρ s X v) No s:=by
 refine aa λnq=>(Vg e λx e1 e=>(Vg e λk e2 e=>(Vg e λc e3 e=>?_)));refine Vg e1 λN e4 e5=>(Vg e4 λi e6 j=>?_);rw[kH e5]at j;have hk:=d5 e3;obtain⟨a',vs,m1,rfl,_,p,la,q3⟩:=r.list j (Sh e6▸P);obtain⟨d,rfl⟩:=xb.wZ e2;obtain⟨m,q⟩:=l.ns;obtain⟨f,us,rfl,a1,g⟩:=q3.wF;refine nq ?_;rw[(g.wF:us=[])]at p;refine mul_list (Zi q) vg p (by lia) (by lia) (by simp;lia) λS F' O=>(Iq r l q F'.ns (News.keepAll1 O) (Fb _) (vs:=Ia k.toNat _) (k:=0) ?_ (ve.replicate a1 _) e);have:=(O _ sa).1;rw[TM]at this;exact this
theorem oY{K I:V}{a b:ua}(m:Eg n A)(r:R w W ρ Q s.heap)(l:Tm W L ρ s.heap)(g:VR w ρ s.heap K a)(j:VR w ρ s.heap I b)
 (e:gS B K I Q=J (v,X)):Qa (fb pg w) A (Io B a b) (PV w W L ρ s X v) No s:=by
 induction B with
 |Add=>exact bY r l g j e|Sub=>exact Qz g j (λc c c c c h=>by refine Bd (ba h) ?_;exact qaw (PV.same r (.int _ _))) e|FloorDiv=>
  exact Qz g j (λx d c c c h=>by
   obtain⟨q,rfl⟩:=Dl h;refine qaq (by omega) (PV.same r (.int _ _)) (.inl ?_);have f:=mz (G5 q.2.2.1) q.2.2.2;simp only[Si.divisionGoesByPylong];refine U (decide_eq_false (by omega)) ?_;rfl) e
 |Mod=>
  exact Qz g j (λx d c c f h=>by
   replace h:(if d=0 then Y else J (x.fmod d))=J f:=h;by_cases q:d=0
   ·rw[Fd q]at h;exact ja h
   ·rw[ge q]at h;refine Bd (ba h) ?_;exact qau q (PV.same r (.int _ _))) e
 |Pow=>
  exact Qz g j (λx d c c c h=>by
   obtain⟨q,rfl⟩:=Dl h;exact pow_int_small q.1 (by omega) (by omega) (PV.same r (.int _ _))) e
 |Mult=>exact WZ r l g j e|_=>exact ja e
end
section
variable {T:List (Bb×V)} {X:List Df} {m i c d:Nat} {x I:V} {y o:ua} {nm:Bb}
variable [F:Av]
structure Ek(hb:qb)(K:Ve)(Q:Bh):Prop where
 kin:K.In hb
 get:∀c n,Q.attr c n=Z->Pk K (.ref c) "__getattribute__"=J (J (.builtin "object.__getattribute__"))/\hasDictIn K c=Z/\(∃a,Pk K (.ref c) n=J a/\noGet K a=Z)
 set:∀c n,Q.attr c n=Z->Pk K (.ref c) "__setattr__"=J (J (.builtin "object.__setattr__"))/\plainOver K c=Z/\takerIn K c n=J Y
 mods:hb.get? sysModules≠Y
 statics:hb.NoLimit
 scr:∀a xs,Q.scr a=J xs->xs.length<=4096/\∃vs,hb.IsList a vs.toArray/\Vj vs xs
variable {w:zb} {hb h:qb} {L:Ca} {S:List Ca} {O N:St} {s:Ea} {v:V} {P:ua} {A:Xb} {n:Nat} {K:Ve} {Q:Bh}
theorem R.kin(r:R w hb S O h)(B:Ek hb K Q):K.In h:=λa o e=>r.wK a o (B.kin a o e)
theorem zj(a b:Bb)(t:fk):(qaC a t).isStr b=decide (a=b):=by
 show(a==b)=_
 by_cases e:a=b
 ·subst e;simp
 ·simp[e]
theorem SE.find(q:SE w S h T X)(k:Bb):
 (Qf T k=Y/\X.find? (λx=>x.key.isStr k)=Y)\/∃x e,Qf T k=J x/\X.find? (λx=>x.key.isStr k)=J e/\VR w S h x e.val:=by
 induction q with
 |nil=>exact .inl ⟨rfl,rfl⟩| @cons b x t v T X a u l=>
  by_cases e:b=k
  ·subst e
   exact .inr ⟨x,⟨T4 w b,.str b t,v⟩,(Fd rfl:(if b=b then J x else _)=J x),by simp[tn,zj],a⟩
  ·refine aa λj=>?_
   rcases l with⟨f,g⟩|⟨p,r,f,g,z⟩
   ·refine j ?_
    exact .inl ⟨((ge e).trans f:(if b=k then J x else Qf T k)=_),by simp[tn,zj,e,g]⟩
   ·refine j ?_
    exact .inr ⟨p,r,((ge e).trans f:(if b=k then J x else Qf T k)=_),by simp[tn,zj,e,g],z⟩
theorem SE.noRef(q:SE w S h T X):X.any (λx=>x.refKey)=ta:=by
 induction q with
 |nil=>rfl|cons a u b=>simp only[bq,b,sA];rfl
theorem SE.length(q:SE w S h T X):T.length=X.length:=by
 induction q with
 |nil=>rfl|cons a u b=>simp[b]
theorem SE.wJ(q:SE w S h T X)(k:Bb):
 (Qf T k=Y/\JZ k (om X m)=J Y)\/∃x y,Qf T k=J x/\JZ k (om X m)=J (J y)/\VR w S h x y:=by
 refine aa λf=>?_;rcases q.find k with⟨a,b⟩|⟨x,e,a,b,g⟩
 ·exact f (.inl ⟨a,by simp[JZ,b,q.noRef]⟩)
 ·exact f (.inr ⟨x,e.val,a,by simp[JZ,b],g⟩)
theorem SE.put(q:SE w S h T X)(k:Bb)(t:fk)(a:VR w S h x y):
 (∃i,X.findIdx? (λx=>x.key.isStr k)=J i/\SE w S h (Gh T k x) (X.modify i λe=>{e with val:=y}))\/(X.findIdx? (λx=>x.key.isStr k)=Y/\SE w S h (Gh T k x) (X++[⟨T4 w k,.str k t,y⟩])):=by
 induction q with
 |nil=>exact .inr ⟨rfl,.cons a .nil⟩| @cons f l u v T X b p r=>
  by_cases e:f=k
  ·subst e
   exact .inl ⟨0,by simp[jr,zj],by show SE w S h (if f=f then(f,x)::T else _) _;exact U (Fd rfl) (SE.cons a p)⟩
  ·rcases r with⟨i,g,j⟩|⟨g,j⟩
   ·refine .inl ⟨i+1,by simp[jr,zj,e,g],?_⟩
    show SE w S h (if f=k then _ else(f,l)::Gh T k x) _
    exact U (ge e) (.cons b j)
   ·refine .inr ⟨by simp[jr,zj,e,g],?_⟩
    show SE w S h (if f=k then _ else(f,l)::Gh T k x) _
    exact U (ge e) (.cons b j)
theorem Jy(k:Bb)(x:V):∀T:List (Bb×V),(Gh T k x).map (λx=>x.1)=if k∈T.map λx=>x.1 then T.map λx=>x.1 else T.map (λx=>x.1)++[k]:=by
 intro T
 induction T with
 |nil=>
  exact rfl
 |cons b T f=>
  obtain⟨a,g⟩:=b;by_cases e:a=k
  ·subst e
   show(if a=a then(a,x)::T else _).map (λx=>x.1)=_
   exact U (Fd rfl) (Fd sa).symm
  ·show(if a=k then _ else(a,g)::Gh T k x).map (λx=>x.1)=if k∈a::T.map λx=>x.1 then _ else _
   refine U (ge e) ?_;show a::(Gh T k x).map (λx=>x.1)=_
   refine U f ?_;by_cases c:k∈T.map λx=>x.1
   ·exact U (Fd c) (Fd (oa _ c)).symm
   ·exact U (ge c) (ge λz=>(ab.mp z).elim (λz=>e z.symm) c).symm
theorem gw{k:Bb}(d:(T.map λx=>x.1).Nodup):((Gh T k x).map λx=>x.1).Nodup:=by
 refine U (Jy _ _ _) ?_
 split
 ·exact d
 ·rename_i q
  exact U (propext Zh) (⟨d,by simp,λa ha b hb=>by rw[Ra]at hb;subst hb;exactλz=>q (z▸ha)⟩)
theorem kC(k:Bb)(x:V)(T:List (Bb×V)):(Gh T k x).length<=T.length+1:=by
 have:=Gc kj (Jy k x T);rw[wa]at this;refine U this ?_;split<;>simp
theorem qB(q:VR w S h x y)(a:∀v,x≠ .k v):handedIn y=Z:=by
 have z:=q.wF
 induction x using V.casesOn with
 |k c=>exact zc rfl (a c)|none=>rw[(z:y=_)];rfl|bool=>rw[(z:y=_)];rfl|int=>obtain⟨_,rfl⟩:=z;rfl|str=>obtain⟨_,rfl⟩:=z;rfl|ref=>obtain⟨_,rfl,_⟩:=z;rfl|rng=>obtain⟨_,_,_,_,rfl,_⟩:=z;rfl|iset=>obtain⟨_,_,_,_,rfl,_⟩:=z;rfl|t=>obtain⟨_,_,_,rfl,_⟩:=z;rfl
theorem oN(e:ri O i=J (c,d)):O[i]?=J (.inst c d):=by
 refine aa λa=>(Vg e λo f b=>(a ?_));clear a;refine aa λa=>?_
 induction o with
 |inst=>refine a ?_;clear a;obtain⟨rfl,rfl⟩:=Ta (ba b);exact f|_=>refine a ?_;clear a;exact ja b
theorem H1(e:Uq O i=J T):O[i]?=J (.h T):=by
 refine Vg e λo b a=>?_
 induction o with
 |h=>obtain rfl:=ba a;exact b|_=>exact ja a
theorem JJ(e:bH x=J v):x=v/\∀c,x≠ .k c:=by
 induction x using V.casesOn<;>first|exact ja e|exact⟨ba e,λu q=>V.noConfusion q⟩
inductive gW [F:Av](w:zb)(h:qb)(S:List Ca)(i:Nat)(c:Nat)(d:Nat)(T:List (Bb×V))(P:ua):Prop
 |mk:∀a dx X m,P=.ref a->S[i]?=J a->S[d]?=J dx->h.get? a=J (qfb c dx)->h.get? dx=J (om X m)->SE w S h T X->(T.map λx=>x.1).Nodup->T.length<=4096->W.InstAt h a (qfb c dx) c (J (om X m))->gW w h S i c d T P
theorem R.inst(r:R w hb S O h){P:ua}(k:ri O i=J (c,d))(l:Uq O d=J T)(x:VR w S h (.ref i) P):
 gW w h S i c d T P:=by
 refine aa λp=>?_;obtain⟨a,rfl,b⟩:=x.wF;obtain⟨e,f,g⟩:=r.obj _ _ a (oN k) b;obtain⟨X,m,j,q,t,u⟩:=r.obj _ _ e (H1 l) f;exact p (⟨a,e,X,m,rfl,b,f,g,j,q,t,u,⟨g,rfl,rfl,j⟩⟩)
theorem eE{t:Bool}(B:Ek hb K Q)(r:R w hb S O s.heap)(z:VR w S s.heap I o)(e:Ki Q I nm O=J v):
 Qa (fb pg w) A (getAttr o nm t) (PV w hb L S s O v) No s:=by
 refine bb e λp l e=>bb l λi C D=>bb e λT E e=>bb e λu W e=>bb e λx g e6=>?_;clear e l;obtain⟨rfl,hc⟩:=JJ e6;obtain⟨a,dx,X,m,rfl,_,_,_,_,p2,_,_,b⟩:=r.inst D E (Sh C▸z);have G:=B.get _ _ (zf W);refine aa λf=>?_;obtain⟨a',g3,g4⟩:=G.2.2;refine f (aa λf=>?_);rcases p2.wJ (m:=m) nm with⟨j,q⟩|⟨x,y,j,q,k⟩
 ·refine f ?_
  rw[j]at g;exact ja g
 ·refine f ?_
  rw[<-(ba (g.symm.trans j):_=x)]at k;exact get_value (r.kin B) b G.1 (findObj_own G.2.1 g3 g4 q) (qB k hc) (PV.same r k)
theorem gQ{l:List (Ca×pD)}(e:l.Pairwise λp q=>p.1≠q.1){p:Ca×pD}(m:p∈l):∃b a,l=b++p::a/\(∀q∈b,q.1≠p.1)/\(∀q∈a,q.1≠p.1):=by
 refine aa λg=>?_;obtain⟨b,a,rfl⟩:=List.append_of_mem m;refine g ?_;rw[Oo]at e;exact⟨b,a,rfl,λq f=>e.2.2 q f p sa,λq f=>((Ag.mp e.2.1).1 q f).symm⟩
inductive R5(w:zb)(S:List Ca)(h:qb)(nm:Bb)(t:fk)(x:V)(y:ua)(T:List (Bb×V))(X:List Df)(m:Nat):Prop
 |mk (ents':List Df) (m':Nat):pD.putName nm (oR w.params nm) (.str nm t) y (om X m)=om ents' m'->SE w S h (Gh T nm x) ents'->R5 w S h nm t x y T X m
theorem SE.putE{t:fk}(f:SE w S h T X)(g:VR w S h x y):R5 w S h nm t x y T X m:=by
 refine aa λe=>?_;rcases f.put nm t g with⟨i,a,b⟩|⟨a,b⟩
 ·refine e ?_
  exact⟨_,m,by refine U WX ?_;simp only[oL,zD,a];simp,b⟩
 ·refine e ?_
  exact⟨_,m+1,by refine U WX ?_;simp only[oL,zD,a];rfl,by
   refine U (show oR w.params nm=T4 w nm from rfl) ?_
   simpa using b⟩
theorem IN{k:qb}{j:Ca}{o l:pD}{g f:List (Ca×pD)}(p:wi h L=g++(j,o)::f)(a:News hE L k (g++(j,l)::f)):∀b z,b≠L->b≠j->h.get? b=J z->k.get? b=J z:=λb z r t e=>by
 refine(a (b,z) ?_).1;rcases Vb.mp (p▸xe.mpr ⟨r,e⟩:(b,z)∈g++(j,o)::f)with q|q
 ·exact Ke _ q
 ·rcases ab.mp q with q|q
  ·exact zc (Gc lj q) t
  ·exact Od _ (oa _ q)
theorem pP(h:T.length<900):(Gh T nm x).length<=900:=Za (kC nm x T) h
theorem ZE(B:Ek hb K Q)(r:R w hb S O s.heap)(l:Tm hb L S s.heap)(xo:VR w S s.heap I o)(xv:VR w S s.heap x y)(e:Pn Q I nm x O=J N):
 Qa (fb pg w) A (setAttr o nm y) (λu=>PS w hb L S s N) No s:=by
 refine bb e λp C e=>bb C λi e1 e2=>bb e λT e3 e=>re e λu e4 e=>?_;clear C;refine aa λnq=>?_;subst e;have G:=Aa.mp (zf e4);have k:T.length<900:=gb G.2;obtain⟨a,dx,X,m,rfl,_,ed,hx,hd,p2,p3,p4,f⟩:=r.inst e2 e3 (Sh e1▸xo);obtain⟨g1,g2,g3⟩:=B.set _ _ G.1;obtain⟨mm,W⟩:=l.ns;obtain⟨pre,post,C,q1,q2⟩:=gQ Sq (xe.mpr ⟨(λq=>l.out (q▸Na ed):dx≠L),hd⟩);have hl:(JZ nm (om X m)).isSome=Z:=by
  rcases p2.wJ (m:=m) nm with⟨_,b⟩|⟨_,_,_,b,_⟩<;>refine U b ?_ <;>rfl
 obtain⟨g,m',D,E⟩:=p2.putE (m:=m) (nm:=nm) (t:=s.toks+1) xv;refine nq ?_;refine set_plain (r.kin B) f g1 (osa_dict (s:={s with toks:=s.toks+1}) (pre:=pre) (post:=post) (od':=om g m') (Zi W) (C▸vg) (r.kin B) f rfl g2 g3 (B.get _ _ G.1).2.1 hl q1 q2 D rfl (by refine Bd E.length ?_;exact Za (pP k) (by decide)) λh' F' N'=>?_);have j:=IN C N';have z:=r.updL l (o:=.h (Gh T nm x)) ed W F'.ns j ⟨g,m',(N' _ (Od _ sa)).1,E.mono (Ja _) λb z e im=>j b z (λq=>Cg W (q▸e) im) (λq=>nomatch (by rw[q,hd]at e;obtain rfl:=ba e;exact im:Ih (om X m))) e,gw p3,Za (pP k) (by exact We _ _)⟩;exact⟨_,rfl,z.2,z.1⟩
end
section
variable {es:List (Bb×V)} {k:Int} {m:Nat} {P D:Type} {S:List V} {t:fk} {T:qb} {ob:pD}
variable [C:Av]
variable {w:zb} {X h:qb} {L:Ca} {ρ:List Ca} {W E:St} {s:Ea} {v:V} {N:ua} {A:Xb} {n:Nat} {K:Ve} {B:Bh}
inductive hW [C:Av](w:zb)(h:qb)(ρ:List Ca)(es:List (Bb×V))(ents:List Df):Prop
 |mk:∀kvs,Pairs (fe pg w) ents kvs->kvs.map (λx=>x.1)=es.map (λx=>x.1)->ve w ρ h (es.map λx=>x.2) (kvs.map λx=>x.2)->(∀e∈ents,∃k,(fe pg w).is k e.key=Z/\e.hash=(fe pg w).hash k)->hW w h ρ es ents
theorem SE.pairs{b:List Df}(q:SE w ρ h es b):
 hW w h ρ es b:=by
 induction q with
 |nil=>exact⟨[],.nil,rfl,.nil,λe d=>by cases d⟩| @cons k x t v es b a u l=>
  obtain⟨f,p,r,z,O⟩:=l;have g:(fe pg w).is k (.str k t)=Z:=by show Ri k (.str k t)=Z;simp[Ri]
  refine⟨(k,v)::f,.cons g rfl p,by simp[r],.cons a z,λe d=>?_⟩;rcases ab.mp d with q|q
  ·subst q;exact⟨k,g,rfl⟩
  ·exact O e q
theorem vB{k:Bb}{y:ua}(e:Ri k y=Z):∃t,y=.str k t:=by
 induction y<;>simp[Ri]at e
 subst e;exact⟨_,rfl⟩
theorem D9:∀{d:List Df}{f:List (Bb×ua)},Pairs (fe pg w) d f->f.map (λx=>x.1)=es.map (λx=>x.1)->ve w ρ h (es.map λx=>x.2) (f.map λx=>x.2)->
 (∀e∈d,∃k,(fe pg w).is k e.key=Z/\e.hash=(fe pg w).hash k)->SE w ρ h es d:=by
 induction es with
 |nil=>intro d f p g l _;induction f using ma with|nil=>cases p;exact .nil|cons u z=>simp at g
 |cons p es ih=>
  intro d f q g l O;obtain⟨k,x⟩:=p
  induction f using ma with
  |nil=>simp at g|cons kv f=>
   obtain⟨k',y⟩:=kv;simp only[Tb,qeL]at g;obtain⟨rfl,g⟩:=g;cases q with
   | @cons e u x1 z a b c=>
    refine aa λR=>?_;cases l with
    |cons l r=>
    refine R ?_;clear R;obtain⟨x2,x3,N⟩:=e
    dsimp only at a b
    subst b;obtain⟨k2,z1,z2⟩:=O _ sa;have:k2=k':=ua.isStrOf_inj _ _ _ z1 a;subst this;obtain⟨t,rfl⟩:=vB a
    dsimp only at z2
    subst z2;exact .cons l (ih c g r λe he=>O e (oa _ he))
theorem SE.isDict{a:List Df}(q:SE w ρ h es a)(d:(es.map λx=>x.1).Nodup):
 ∃b,(om a m).IsDictOf (fe pg w) b/\b.map (λx=>x.1)=es.map (λx=>x.1)/\ve w ρ h (es.map λx=>x.2) (b.map λx=>x.2):=by
 refine aa λg=>?_;obtain⟨b,l,f,p,r⟩:=q.pairs;refine g ?_;exact⟨b,⟨a.toArray,m,⟨rfl,rfl,rfl⟩,rfl,λe u=>r e (by simpa using u),by simpa using l,by refine U f ?_;exact d⟩,f,p⟩
theorem mG{o:pD}{b:List (Bb×ua)}(q:o.IsDictOf (fe pg w) b)(z:b.map (λx=>x.1)=es.map λx=>x.1)(O:ve w ρ h (es.map λx=>x.2) (b.map λx=>x.2)):
 ∃a m,o=om a m/\SE w ρ h es a:=by
 refine aa λR=>?_;obtain⟨f,m,⟨l,c2,c3⟩,d,k,p,_⟩:=q;obtain⟨x1,r,u,g⟩:=o
 dsimp only at l c2 c3 d
 subst l c2 c3 d;exact R (⟨f.toList,m,by rfl,D9 p z O λe he=>k e (by simpa using he)⟩)
theorem uE{a:List (Bb×ua)}(b:a.map (λx=>x.1)=es.map λx=>x.1)(d:ve w ρ h (es.map λx=>x.2) (a.map λx=>x.2))(k:Bb):
 (Qf es k=Y/\Wl a k=Y)\/∃x N,Qf es k=J x/\Wl a k=J N/\VR w ρ h x N:=zy (look:=Qf) (λu=>rfl) (λu u u=>rfl) b d k
theorem Aw [DecidableEq P](f:List (P×V)->P->V->List (P×V))(h0:∀k x,f [] k x=[(k,x)])(h1:∀p r k x,f (p::r) k x=if p.1=k then(p.1,x)::r else p::f r k x)
 {k:P}{x:V}{y:ua}(a:VR w ρ h x y):∀{es:List (P×V)}{d:List (P×ua)},(d.map λx=>x.1).Nodup->d.map (λx=>x.1)=es.map (λx=>x.1)->ve w ρ h (es.map λx=>x.2) (d.map λx=>x.2)->
 (stored d k y).map (λx=>x.1)=(f es k x).map (λx=>x.1)/\ve w ρ h ((f es k x).map λx=>x.2) ((stored d k y).map λx=>x.2):=by
 intro es
 induction es with
 |nil=>intro d _ l O;induction d using ma with|nil=>refine U (h0 _ _) ?_;exact⟨rfl,.cons a .nil⟩|cons u j=>exact zc l (Ac _ _)
 |cons p es ih=>
  intro d r l O
  induction d using ma with
  |nil=>exact zc l.symm (Ac _ _)|cons g d=>
   have u:g.1=p.1:=Yd l;have R:=xd l;have r:=Ec.mp r;refine aa λnq=>?_;obtain⟨_,_,q,b,c⟩:=O.wF;cases q;obtain⟨i1,i2⟩:=ih r.2 R c;refine nq (U (h1 _ _ _ _) (Bd u ?_));by_cases e:g.1=k
   ·refine U (Fd e) ?_
    have hn:d.map (λg=>if g.1=k then(g.1,y)else g)=d:=
     (gg λz hz=>ge λq=>r.1 (Qb.mpr ⟨z,hz,q.trans e.symm⟩)).trans (List.map_id d)
    have:stored (g::d) k y=(g.1,y)::d:=by
     simp only[stored,bq,e,decide_true,Bool.true_or,if_true,Tb,hn]
    exact U this (⟨Gc (λx=>g.1::x) R,.cons a c⟩)
   ·refine U (ge e) ?_
    have:stored (g::d) k y=g::stored d k y:=by
     simp only[stored,bq,e,decide_false,MX,Tb,if_false,Jm]
     split<;>rfl
    exact U this (⟨by exact U Tb (U Tb (U i1 (U u rfl))),.cons b i2⟩)
theorem NJ(k:Int)(x:V):∀es:List (Int×V),(cw es k x).length<=es.length+1:=by
 intro es
 induction es with
 |nil=>
  exact Gb 1
 |cons p es a=>
  refine U (show cw (p::es) k x=if p.1=k then(p.1,x)::es else p::cw es k x from rfl) ?_
  split
  ·exact te _
  ·exact vf (a)
inductive At(n:Nat)(k:Int)(j:Nat):Prop
 |fwd:0<=k->k.toNat=j->At n k j|back:k<0-> -(n:Int)<=k->(k+n).toNat=j->At n k j
theorem Ks{n:Nat}{j:Nat}(e:Nl n k=J j):At n k j:=by
 unfold Nl at e;by_cases h:0<=k
 ·rw[Fd h]at e;exact .fwd h (ba e)
 ·rw[ge h]at e
  have:=Dl e;exact .back (qbk.mp h) this.1 this.2
theorem At.seq{n:Nat}{j:Nat}(e:At n k j)(h:j<n):J9 k n=J j:=by
 refine aa λa=>?_
 induction e with
 |fwd b q=>refine a ?_;clear a;subst q;simp[J9,Ui.mpr b];lia|back b d q=>refine a ?_;clear a;subst q;simp[J9,b];lia
theorem At.rng{n:Nat}{j:Nat}(e:At n k j)(h:j<n)(b:n<=4096): -(2^63:Int)<=k/\k<2^63:=by
 induction e with
 |fwd a q=>lia|back a d q=>lia
theorem En(k:Int)(t:fk):(kg pg w).is k (.int k t)=Z:=by show Go k (.int k t)=Z;simp[Go]
theorem Ak(k:Bb)(t:fk):(fe pg w).is k (.str k t)=Z:=by show Ri k (.str k t)=Z;simp[Ri]
section
variable {F Q:Expr} {I G:V} {o i:ua}
inductive LR(s:Ea)(o:ua):Prop
 |t:s.TypeIs o "tuple"->LR s o|list:s.TypeIs o "list"->LR s o|dict:s.TypeIs o "dict"->LR s o
abbrev qL(w:zb)(X:qb)(A:Xb)(L:Ca)(ρ:List Ca)(W:St)(s:Ea)(o i:ua)(v:V):Prop:=LR s o/\Qa (fb pg w) A (Q4 o i) (PV w X L ρ s W v) No s
theorem lV(r:R w X ρ W s.heap)(l:VR w ρ s.heap (.t S) o)(e:U4 S k=J v):qL w X A L ρ W s o (.int k t) v:=bb e λj p b=>by
 have a:=Ks p;refine aa λq=>?_;obtain⟨c,O,m,rfl,_,d,lo,f⟩:=l.wF;obtain⟨y,u,z⟩:=f.get b;refine q ?_;have g:=(ub.mp b).1;have X:=a.rng g lo;exact⟨.t ⟨_,d,rfl⟩,qar (nf d) X.1 X.2 (by refine U Hb (Bd f.length ?_);exact a.seq g) (by refine U lc ?_;exact u) (PV.wU r z)⟩
theorem lQ{c:Ca}(r:R w X ρ W s.heap)(q:OR w ρ s.heap (.list S) c)(e:U4 S k=J v):qL w X A L ρ W s (.ref c) (.int k t) v:=bb e λj z l=>by
 have a:=Ks z;refine aa λb=>?_;obtain⟨vs,m,d,O,f⟩:=q;obtain⟨y,p,u⟩:=f.get l;refine b ?_;have X:=a.rng ((ub.mp l).1) O;refine⟨.list ⟨_,d,rfl⟩,?_⟩;refine aa λb=>?_
 induction a with
 |fwd g q=>refine b ?_;exact wpAny_getItem_list (we d) g X.2 (by refine U q (U lc ?_);exact p) (PV.wU r u)|back g h1 q=>refine b ?_;exact wpAny_getItem_list_neg (we d) g (by refine U Hb (Bd f.length ?_);exact h1) X.1 (by refine U Hb (Bd f.length (U q (U lc ?_)));exact p) (PV.wU r u)
theorem jK{es:List (Int×V)}{c:Ca}(r:R w X ρ W s.heap)(q:OR w ρ s.heap (.idict es) c)(e:Pm es k=J v):qL w X A L ρ W s (.ref c) (.int k t) v:=by
 refine aa λa=>?_;obtain⟨O,p,d,f,u,z,q5⟩:=q;refine a (aa λa=>?_);rcases Jv u z k with⟨b,g⟩|⟨x,y,b,g,l⟩
 ·exact a (ja (b.symm.trans e))
 ·refine a ?_
  rw[ba (b.symm.trans e)]at l;exact⟨.dict ⟨_,d,f.choose_spec.choose_spec.1.1⟩,qaf (En k t) (Mv d f) g (PV.same r l)⟩
theorem kK{k:Bb}{c:Ca}(r:R w X ρ W s.heap)(q:OR w ρ s.heap (.h es) c)(e:Qf es k=J v):qL w X A L ρ W s (.ref c) (.str k t) v:=by
 refine aa λa=>?_;obtain⟨d,m,f,p,u,q4⟩:=q;obtain⟨z,O,d2,d3⟩:=p.isDict (m:=m) u;refine a (aa λa=>?_);rcases uE d2 d3 k with⟨b,g⟩|⟨x,y,b,g,l⟩
 ·exact a (ja (b.symm.trans e))
 ·refine a ?_
  rw[ba (b.symm.trans e)]at l;exact⟨.dict ⟨_,f,rfl⟩,qaf (Ak k t) ((Nf.mpr ⟨_,f,O⟩).mapOf) g (PV.same r l)⟩
theorem Bv(r:R w X ρ W s.heap)(p:VR w ρ s.heap I o)(g:VR w ρ s.heap G i)(e:XC I G W=J v):qL w X A L ρ W s o i v:=by
 refine aa λa=>?_
 induction I using V.casesOn with
 |t S=>
  refine a ?_;clear a;refine bb e λk l b=>?_;obtain⟨t,rfl⟩:=g.wZ l;exact lV r p b
 |ref j=>
  refine a ?_;clear a;refine bb e λob l b=>?_;obtain⟨c,rfl,u⟩:=p.wF;have q:=r.obj _ _ c l u;refine aa λa=>?_
  induction ob with
  |list S=>
   refine a ?_;clear a;refine bb b λk d f=>?_;obtain⟨t,rfl⟩:=g.wZ d;exact lQ r q f
  |idict es=>
   refine a ?_;clear a;refine bb b λk d f=>?_;obtain⟨t,rfl⟩:=g.wZ d;exact jK r q f
  |h es=>
   refine a ?_;clear a;refine bb b λk d f=>?_;obtain⟨t,rfl⟩:=(WC d▸g:VR w ρ s.heap (.str k) i).wF;exact kK r q f
  |_=>refine a ?_;clear a;exact ja b
 |_=>refine a ?_;clear a;exact ja e
theorem Y1(r:R w X ρ W s.heap)(b:VR w ρ s.heap I o)(d:VR w ρ s.heap G i)(e:XC I G W=J v)(a:mV Q ta o i=tD [o,i] (Q4 o i)):Qa (fb pg w) A (qes F Q o i) (PV w X L ρ s W v) No s:=by
 refine kba_turn (value':=.Name "x" default) (λu=>rfl) ?_;obtain⟨f,z⟩:=Bv (A:=A) (L:=L) r b d e
 induction f with
 |t hT=>exact br hT (id:="tuple.__getitem__") PySem.F.slot_tuple_getitem.lookup z a|list hT=>exact br hT (id:="list.__getitem__") PySem.F.slot_list_getitem.lookup z a|dict hT=>exact br hT (id:="dict.__getitem__") slot_dict_getitem.lookup z a
end
theorem pI{a:Ca}{b:Array ua}(f:Array ua->Array ua)(e:h.get? a=J (listOf b m)):∃d,(h.update a (Vi f)).get? a=J (listOf (f b) d):=by
 have:=Pc (Vi f) e (by rfl);exact⟨_,this⟩
variable {I G x:V} {o i y:ua} {c:Ca} {j:Nat}
theorem zq(a:gf c h T)(d:h.get? c=J ob)(f:¬Ih ob):∀b z,h.get? b=J z->Ih z->T.get? b=J z:=λb z e g=>(a.2 b λq=>f (ba (d.symm.trans (q▸e))▸g)).trans e
theorem yt{a:Array ua}:¬Ih (listOf a m):=by simp[Ih]
theorem LB{a:List Df}:¬Ih (om a m):=by simp[Ih]
theorem PS.upd{b:Nat}{ob:O}{a:pD}(r:R w X ρ W s.heap)(l:Tm X L ρ s.heap)(d:ρ[j]?=J c)(g:s.heap.get? c=J a)(e:gf c s.heap T)(f:OR w ρ T ob c):PS w X L ρ s (W.set j ob) {s with heap:=T,toks:=b}:=
 have z:=r.upd' (L:=L) d e f l.out
 ⟨ρ,rfl,z.2,z.1⟩
theorem VP(r:R w X ρ W s.heap)(l:Tm X L ρ s.heap)(ec:ρ[j]?=J c)(q:OR w ρ s.heap (.list S) c)(xv:VR w ρ s.heap x y){p:Nat}(e1:Nl S.length k=J p)(hp:p<S.length):
 Qa (fb pg w) A (px (.ref c) (.int k t) y) (λu=>PS w X L ρ s (W.set j (.list (S.set p x)))) No s:=by
 have a:=Ks e1;refine aa λO=>?_;obtain⟨f,m,b,lx,e⟩:=q;refine O ?_;clear O;have d:=a.rng hp lx;have go:∀T,(∃g,T.get? c=J (listOf (f.toArray.setIfInBounds p y) g))->gf c s.heap T->PS w X L ρ s (W.set j (.list (S.set p x))) {s with heap:=T}:=λT ⟨g,e'⟩ sb=>
  PS.upd r l ec b sb ⟨f.set p y,g,by exact U e' (U (List.setIfInBounds_toArray _ _ _) rfl),by refine U yb ?_;exact lx,(e.set p xv).mono (Ja _) (zq sb b yt)⟩
 induction a with
 |fwd u q=>subst q;exact ki_setAt b u d.2 (by refine U Hb (Bd e.length ?_);lia) (go _ (pI _ b) (Ad ..))|back u h1 q=>
  refine ki_setBack b u (by refine U Hb (Bd e.length ?_);exact h1) d.1 (go _ ?_ (Ad ..));have:=pI (λz=>z.setIfInBounds (k+f.toArray.size).toNat y) b;rw[Hb,<-e.length,q]at this|-;exact this
theorem RG{es:List P}{a:List D}(h:a.length=es.length)(b:es.length<4096):a.length<=sizeLine:=by refine U h (U Af ?_);lia
theorem Iv{b:Type}{es:List (P×D)}{a:List (P×b)}(h:a.map (λx=>x.1)=es.map λx=>x.1):a.length=es.length:=by have:=Gc kj h;rwa [wa,wa]at this
theorem yz{a:List (Int×ua)}(q:ob.IsDictOf (kg pg w) a):¬Ih ob:=by
 refine aa λb=>?_;obtain⟨_,_,_,d,_⟩:=q;refine b ?_;simp[Ih,d]
theorem YJ{es:List (Int×V)}(r:R w X ρ W s.heap)(l:Tm X L ρ s.heap)(p:ρ[j]?=J c)(q:OR w ρ s.heap (.idict es) c)(z:VR w ρ s.heap x y)(e:es.length<4096):
 Qa (fb pg w) A (px (.ref c) (.int k t) y) (λu=>PS w X L ρ s (W.set j (.idict (cw es k x)))) No s:=by
 refine aa λa=>?_;obtain⟨O,x1,b,d,f,q4,q5⟩:=q;refine a (FX (En k t) (Nf.mpr ⟨O,b,d⟩) (λT hd g=>?_) (RG (Iv f) e));refine aa λa=>?_;obtain⟨o2,e2,d2⟩:=Nf.mp hd;refine a ?_;have st:=Aw cw (λu u=>rfl) (λu u u u=>rfl) z d.choose_spec.choose_spec.2.2.2.2 f q4 (k:=k);exact PS.upd r l p b g ⟨o2,_,e2,d2,st.1,st.2.mono (Ja _) (zq g b (yz d)),Za (NJ k x es) e⟩
theorem ZJ{k:Bb}(r:R w X ρ W s.heap)(l:Tm X L ρ s.heap)(ec:ρ[j]?=J c)(q:OR w ρ s.heap (.h es) c)(xv:VR w ρ s.heap x y)(g:es.length<4096):
 Qa (fb pg w) A (px (.ref c) (.str k t) y) (λu=>PS w X L ρ s (W.set j (.h (Gh es k x)))) No s:=by
 refine aa λb=>?_;obtain⟨p,m,d,q2,z,q4⟩:=q;obtain⟨x1,O,d2,d3⟩:=q2.isDict (m:=m) z;refine b (FX (Ak k t) (Nf.mpr ⟨_,d,O⟩) (λT hd sb=>?_) (RG (Iv d2) g));refine aa λb=>?_;have st:=Aw Gh (λu u=>rfl) (λu u u u=>rfl) xv O.choose_spec.choose_spec.2.2.2.2 d2 d3 (k:=k);obtain⟨o2,u,e⟩:=Nf.mp hd;obtain⟨a,m',rfl,f⟩:=mG e st.1 (st.2.mono (Ja _) (zq sb d LB));exact b (PS.upd r l ec d sb ⟨a,m',u,f,gw z,Za (kC k x es) g⟩)
theorem Ky(r:R w X ρ W s.heap)(l:Tm X L ρ s.heap)(xo:VR w ρ s.heap I o)(xi:VR w ρ s.heap G i)(xv:VR w ρ s.heap x y)(e:yi I G x W=J E):
 Qa (fb pg w) A (px o i y) (λu=>PS w X L ρ s E) No s:=by
 refine bb e λj e1 e=>re e λob e2 e=>bb e2 λx1 e3 O=>?_;subst e;clear e2;obtain⟨c,rfl,ec⟩:=(Sh e1▸xo:VR w ρ s.heap (.ref j) o).wF;have q:=r.obj _ _ c e3 ec;refine aa λa=>?_
 induction x1 with
 |list S=>
  refine a ?_;clear a;refine bb O λp b d=>bb b λk f g=>re d λys e9 x2=>?_;obtain⟨t,rfl⟩:=xi.wZ f;have z:=Dl e9;exact Bd x2 (Bd z.2 (VP r l ec q xv g z.1))
 |idict es=>
  refine a ?_;clear a;refine bb O λk b d=>re d λu f g=>?_;obtain⟨t,rfl⟩:=xi.wZ b;exact Bd g (YJ r l ec q xv (Ni (zf f)))
 |h es=>
  refine a ?_;clear a;refine bb O λk b d=>re d λu f g=>?_;obtain⟨t,rfl⟩:=(WC b▸xi:VR w ρ s.heap (.str k) i).wF;exact Bd g (ZJ r l ec q xv (Ni (zf f)))
 |_=>refine a ?_;clear a;exact ja O
end
section
variable {Q:qb} {vs:List ua} {O:List V} {a:Ca} {k tk' i:Nat} {is:List Int} {t u:fk} {o:ua} {b:Int}
variable [G:Av]
variable {w:zb} {W h:qb} {L:Ca} {ρ:List Ca} {S X:St} {s:Ea} {v:V} {I:ua} {A:Xb} {n:Nat} {K:Ve} {N:Bh}
theorem PV.wI{d:Nat}{x:V}{y:ua}(r:R w W ρ S s.heap)(c:∀a o,s.heap.get? a=J o->Q.get? a=J o)(q:VR w ρ Q x y):PV w W L ρ s S x y {s with heap:=Q,toks:=d}:=
 ⟨ρ,rfl,KX.wI c,r.wI c,q⟩
theorem Dy(r:R w W ρ S s.heap)(c:∀b x,s.heap.get? b=J x->Q.get? b=J x)
 (d:s.heap.get? a=Y)(f:Q.get? a=J (listOf vs.toArray k))(x:ve w ρ s.heap O vs)(e:cj O S=J (v,X)):
 PV w W L ρ s X v (.ref a) {s with heap:=Q,toks:=tk'}:=
 wo (P:=λv X=>PV w W L ρ s X v (.ref a) {s with heap:=Q,toks:=tk'}) e λg=>
  have z:=r.new' (L:=L) (a:=a) (o:=.list O) c d ⟨vs,_,f,vd g,x.mono (Hc _ _) λa o e u=>c a o e⟩
  ⟨_,rfl,z.2,z.1,.ref (Gr r)⟩
theorem Ey(r:R w W ρ S s.heap)(c:∀b x,s.heap.get? b=J x->Q.get? b=J x)
 (d:s.heap.get? a=Y)(f:Q.get? a=J (cu vs k))(x:ve w ρ s.heap O vs)(e:Cp O S=J (v,X)):
 PV w W L ρ s X v (.ref a) {s with heap:=Q,toks:=tk'}:=
 yo (P:=λv X=>PV w W L ρ s X v (.ref a) {s with heap:=Q,toks:=tk'}) e λg=>
  PV.wI r c (.t (r.notAv d) f (vd g) (x.mono (Ja _) λa o e u=>c a o e))
theorem rk{h:qb}(c:∀b x,h.get? b=J x->Q.get? b=J x)(e:Q.get? a=Y):h.get? a=Y:=by
 induction q:h.get? a with
 |none=>rfl|some o=>rw[c a o q]at e;exact ja e.symm
theorem nt(x:Vj vs is):vs.length=is.length:=by
 induction x with
 |nil=>rfl|cons u y z c=>simp[c]
theorem ve.fit(q:ve w ρ h O vs)(c:O.length<=4096):vs.toArray.size<=sizeLine:=by refine U Hb (Bd q.length (U Af ?_));lia
theorem ve.int(q:ve w ρ h O vs):VR w ρ h (.int O.length) (.int vs.toArray.size t):=by refine U Hb (Bd q.length ?_);exact .int _ _
theorem zB(r:R w W ρ S s.heap)(e:tc S i=J O)(x:VR w ρ s.heap (.ref i) o):
 Qa (fb pg w) A (call (.builtin "len") [o]) (PV w W L ρ s S (.int O.length)) No s:=by
 refine aa λd=>?_;obtain⟨a,vs,m,rfl,_,f,g,c⟩:=r.list e x;refine d ?_;exact call_len_list (we f) (by refine U Hb (Bd c.length ?_);lia) (PV.same r c.int)
theorem rE(r:R w W ρ S s.heap)(x:VR w ρ s.heap (.t O) o):
 Qa (fb pg w) A (call (.builtin "len") [o]) (PV w W L ρ s S (.int O.length)) No s:=by
 refine aa λc=>?_;obtain⟨a,vs,m,rfl,_,e,l,q⟩:=x.wF;refine c ?_;exact qat (nf e) (by refine U Hb (Bd q.length ?_);lia) (PV.same r q.int)
theorem SJ(r:R w W ρ S s.heap):
 Qa (fb pg w) A (call (.type "range") [.int b t]) (PV w W L ρ s S (.rng 0 b)) No s:=
 call_range_1 (PV.wI r (λa o e=>ya _ e) (.rng (La _ rfl)))
theorem TJ{a:Int}(r:R w W ρ S s.heap):
 Qa (fb pg w) A (call (.type "range") [.int a t,.int b u]) (PV w W L ρ s S (.rng a b)) No s:=
 call_range_2 (PV.wI r (λa o e=>ya _ e) (.rng (La _ rfl)))
theorem NZ{a:Int}(c:Eg n A)(r:R w W ρ S s.heap):
 Qa (fb pg w) A (call (.builtin "max") [.int a t,.int b u]) (PV w W L ρ s S (.int (max a b))) No s:=
 max_two_ints c.hh λQ e d=>PV.wI r d (by
  split
  ·exact U (show max a b=b from by lia) (.int _ _)
  ·refine U (show max a b=a from by lia) ?_;exact .int _ _)
theorem SZ{a:Int}(c:Eg n A)(r:R w W ρ S s.heap):
 Qa (fb pg w) A (call (.builtin "min") [.int a t,.int b u]) (PV w W L ρ s S (.int (min a b))) No s:=
 min_two_ints c.hh λQ e d=>PV.wI r d (by
  split
  ·exact U (show min a b=b from by lia) (.int _ _)
  ·refine U (show min a b=a from by lia) ?_;exact .int _ _)
theorem j2(l:Eg n A)(r:R w W ρ S s.heap)(e:tc S i=J O)(p:gi O=J is)(x:VR w ρ s.heap (.ref i) o):
 Qa (fb pg w) A (call (.builtin "sum") [o]) (PV w W L ρ s S (.int is.sum)) No s:=by
 refine aa λq=>?_;obtain⟨a,vs,m,rfl,_,y,D,z⟩:=r.list e x;have c:=ui z p;obtain⟨d,f⟩:=c.allInts.items;refine q ?_;have g:=we y;rw[f]at g;refine sum_intListG l.hh g λQ E F B=>PV.wI r B ?_;have j:=nums_intItems d;rw[<-f]at j;have:preSum (numAt d) d.size=is.sum:=by
  rw[preSum_eq,<-j,show vs.toArray.toList=vs from rfl,c.numsOf,mD];have:=nt c;have C:=Gc Array.size f;simp[intItems]at C
  lia
 exact U this (.int _ _)
theorem lA(r:R w W ρ S s.heap)(x:VR w ρ s.heap (.t O) o)(e:Cp O S=J (v,X)):
 Qa (fb pg w) A (call (.type "tuple") [o]) (PV w W L ρ s X v) No s:=iO e λu=>by
 refine aa λc=>?_;obtain⟨a,vs,m,rfl,d,e,l,q⟩:=x.wF;exact c (call_tuple_tup (nf e) (PV.wU r x))
theorem vx(r:R w W ρ S s.heap)(e:tc S i=J O)(x:VR w ρ s.heap (.ref i) o)(f:Cp O S=J (v,X)):
 Qa (fb pg w) A (call (.type "tuple") [o]) (PV w W L ρ s X v) No s:=by
 refine aa λg=>?_;obtain⟨a,vs,m,rfl,_,j,l,c⟩:=r.list e x;refine g ?_;exact call_tuple_list (we j) (λQ d=>Ey (vs:=vs) (k:=0) (tk':=s.toks) r (λb x e=>ya _ (d b x e)) (rk d (Fb Q)) (La _ rfl) c f) (c.fit l)
theorem DB(r:R w W ρ S s.heap)(x:VR w ρ s.heap (.t O) o)(e:cj O S=J (v,X)):
 Qa (fb pg w) A (call (.type "list") [o]) (PV w W L ρ s X v) No s:=by
 refine aa λc=>?_;obtain⟨a,vs,m,rfl,j,d,l,q⟩:=x.wF;exact c (call_list_seq a (T:="tuple") (.inr rfl) d rfl rfl (λQ p f g=>Dy (tk':=s.toks) r f (Fb _) g q e) (q.fit l))
theorem Aq(x:Int):∀l,(oo x l).Perm (x::l):=by
 intro l
 induction l with
 |nil=>
  exact .refl _
 |cons y r c=>
  show(if x<=y then x::y::r else y::oo x r).Perm _
  by_cases q:x<=y
  ·rw[Fd q]
  ·exact U (ge q) (((c).cons y).trans (.swap x y r))
theorem iF:∀l,(Xq l).Perm l:=by
 intro l
 induction l with
 |nil=>
  exact .refl _
 |cons x r c=>
  exact(Aq x _).trans ((c).cons x)
theorem Dv(x:Int):∀l:List Int,l.Pairwise (λx y=>x<=y)->(oo x l).Pairwise (λx y=>x<=y):=by
 intro l
 induction l with
 |nil=>
  rintro _;exact EA _ _
 |cons y r d=>
  rintro h;have Q:=Ag.mp h;show(if x<=y then x::y::r else y::oo x r).Pairwise _
  by_cases q:x<=y
  ·exact U (Fd q) (Ag.mpr ⟨λz c=>(ab.mp c).elim (λe=>e▸q) λe=>Int.le_trans q (Q.1 z e),h⟩)
  ·exact U (ge q) (Ag.mpr ⟨λz c=>(ab.mp ((Aq x r).mem_iff.mp c)).elim (λe=>e▸G5 (qbk.mp q)) (Q.1 z),d Q.2⟩)
theorem cA:∀l:List Int,(Xq l).Pairwise (λx y=>x<=y):=by
 intro l
 induction l with
 |nil=>
  exact .nil
 |cons x r c=>
  exact Dv x _ (c)
theorem Yq{l c:List Int}(p:c.Perm l)(q:c.Pairwise λx y=>x<=y):c=Xq l:=
 qeJ (le:=λx y=>x<=y) (λa b u u d e=>Int.le_antisymm d e) q (cA l) (p.trans (iF l).symm)
theorem zw(r:R w W ρ S s.heap)(l:Tm W L ρ s.heap)(e:tc S i=J O)(j:gi O=J is)(x:VR w ρ s.heap (.ref i) o)(c:is.length<60)
 (p:cj ((Xq is).map V.int) S=J (v,X)):Qa (fb pg w) A (call (.builtin "sorted") [o]) (PV w W L ρ s X v) No s:=by
 refine aa λy=>?_;obtain⟨a,vs,m,rfl,_,z,q2,B⟩:=r.list e x;have d:=ui B j;obtain⟨mm,f⟩:=l.ns;refine y ?_;refine sorted_N (Zi f) vg (we z) d (by refine U (nt d) ?_;lia) λQ C D e' E g F P T=>?_;have:=Yq P T;subst this;have hg:s.heap.get? (s.heap.objs.size+1)=Y:=by
  induction q:s.heap.get? (s.heap.objs.size+1)with
  |none=>rfl|some u=>exact zc (gc q) (Vd.mpr (te _))
 exact Iq (tk':=s.toks) r l f E.ns (News.keepAll1 g) hg (g _ sa).1 (gr F) p
theorem qJ{k:Int}{v:ua}(h:Go k v=Z):∃t,v=.int k t:=by
 induction v<;>simp[Go]at h
 exact⟨_,by exact U h rfl⟩
theorem Cq{c:List (Int×ua)}:{vs:List ua}->vs.length=c.length->(∀(j:Nat)(v:ua),vs[j]?=J v->∃k x,c[j]?=J (k,x)/\(kg pg w).is k v=Z)->Vj vs (c.map λx=>x.1):=by
 induction c with
 |nil=>intro vs e _;refine U (sg e) ?_;exact .nil|cons f c g=>
  intro vs e d
  induction vs using ma with
  |nil=>exact zc e.symm (Yb _)|cons v vs=>
   obtain⟨k,x,l,m⟩:=d 0 v rfl;obtain⟨t,rfl⟩:=qJ m;have:f=(k,x):=ba l;exact U this (.cons _ _ (g (Jh e) λj v q=>d (j+1) v q))
theorem yw{m:List (Int×V)}(AK:Eg n A)(hm:W.get? sysModules≠Y)(r:R w W ρ S s.heap)(l:Tm W L ρ s.heap)(e:S[i]?=J (.idict m))(x:VR w ρ s.heap (.ref i) o)(C:m.length<60)
 (en:cj ((Xq (m.map λx=>x.1)).map V.int) S=J (v,X)):Qa (fb pg w) A (call (.builtin "sorted") [o]) (PV w W L ρ s X v) No s:=by
 refine aa λnq=>?_;obtain⟨a,rfl,E⟩:=x.wF;obtain⟨o',kvs,q1,q2,F,q4,q5⟩:=r.obj _ _ a e E;obtain⟨mm,P⟩:=l.ns;obtain⟨y,ep,d⟩:=q2;refine nq ?_;have f:=Iv F;refine kdu_sorted (kdl_dict (knd:=kg pg w) (kvs:=kvs) (ep:=ep) (r.notMods hm (Na E))) AK.hh (Zi P) vg ⟨o',y,q1,d⟩ (by refine U f (U Af ?_);lia) λD Q T vs F' N' hD z hv=>?_;refine ksk_lsort (A:=A.in1) (s:={s with heap:=Q,toks:=T}) (news':=λo=>(D,o)::wi s.heap L) (its:=vs.toArray) F' N' (λo=>qeO λp c=>Wb (hD p c)) rfl (Cq z hv:Vj vs (kvs.map λx=>x.1)) (by refine U (wa _) ?_;lia) λx1 x2 c x3 p g i' u p' B u=>?_;have:=Yq p' B;subst this;have hg:s.heap.get? D=Y:=by
  induction q:s.heap.get? D with
  |none=>rfl|some ob=>
   by_cases j:D=L
   ·exact zc j (g _ sa).2.1
   ·exact zc (hD _ (xe.mpr ⟨j,q⟩)) (fc _)
 rw[F]at i';exact Iq (tk':=T) r l P p.ns (News.keepAll1 g) hg (g _ sa).1 (gr i') en
end
section
variable {a:Ca} {k:Int} {x:V} {t:fk}
variable [I:Av]
variable {w:zb} {Q h:qb} {L:Ca} {X:List Ca} {T N:St} {s:Ea} {v:V} {O:ua} {A:Xb} {n:Nat} {K:Ve} {P:Bh}
theorem Pj{i:Nat}{d:List V}{vs:List ua}{k:Nat}{c:qb}{tk':Nat}{m}(r:R w Q X T s.heap)(l:Tm Q L X s.heap)(g:X[i]?=J a)(j:s.heap.Ns L m)(f:c.Ns L m)
 (p:∀b x,b≠L->b≠a->s.heap.get? b=J x->c.get? b=J x)(y:c.get? a=J (listOf vs.toArray k))(B:d.length<=4096)(x:ve w X s.heap d vs):
 PV w Q L X s (T.set i (.list d)) .none .none {s with heap:=c,toks:=tk'}:=
 have z:=r.updL l (o:=.list d) g j f p ⟨vs,k,y,B,x.mono (Ja _) (λb z e u=>p b z (λq=>Cg j (q▸e) u) (λq=>r.notIn e u (q▸Na g)) e:∀b z,s.heap.get? b=J z->Ih z->c.get? b=J z)⟩
 ⟨X,rfl,z.2,z.1,.none⟩
theorem Tm.ne(l:Tm Q L X h){i:Nat}(b:X[i]?=J a):a≠L:=λq=>l.out (q▸Na b)
theorem DI{i:Nat}{c:List V}{o y:ua}(r:R w Q X T s.heap)(l:Tm Q L X s.heap)(e:tc T i=J c)(q:VR w X s.heap (.ref i) o)(u:VR w X s.heap x y)(z:c.length<4096):
 Qa (fb pg w) A (call (.builtin "list.append") [o,y]) (PV w Q L X s (T.set i (.list (c++[x]))) .none) No s:=by
 refine aa λB=>?_;obtain⟨a,vs,m,rfl,f,C,D,g⟩:=r.list e q;obtain⟨mm,j⟩:=l.ns;obtain⟨d,b,E,F⟩:=Bu (o':=listOf (vs.toArray.push y) (m+1)) C (l.ne f);refine B ?_;exact append_K (Zi j) vg b (λS G p=>Pj (tk':=s.toks) r l f j G.ns (News.keepUpd p F) (vs:=vs++[y]) ((p _ E).1.trans (by exact U (kL _ _) rfl)) (by refine U Ha ?_;exact z) (g.append (ve.one u))) (g.fit D)
theorem fH{xs:List V}{b c:Array ua}(h:b.size+c.size<=4096):¬(!b.isEmpty&&uj (b.size+c.size))=Z:=by
 have:uj (b.size+c.size)=ta:=by
  simp only[uj,decide_eq_false_iff_not,Af];lia
 exact U this (U (ZV _) ia)
theorem tv{i j:Nat}{xs g:List V}{o y:ua}(r:R w Q X T s.heap)(l:Tm Q L X s.heap)(e:tc T i=J xs)(e2:tc T j=J g)(xo:VR w X s.heap (.ref i) o)(xy:VR w X s.heap (.ref j) y)(hl:xs.length+g.length<4096):
 Qa (fb pg w) A (call (.builtin "list.extend") [o,y]) (PV w Q L X s (T.set i (.list (xs++g))) .none) No s:=by
 refine aa λnq=>?_;obtain⟨a,vs,m,rfl,B,q1,q2,p⟩:=r.list e xo;obtain⟨b,u,m2,rfl,eb,p1,p2,D⟩:=r.list e2 xy;obtain⟨mm,C⟩:=l.ns;refine nq ?_;have E:vs.toArray.size+u.toArray.size<=4096:=by refine U Hb (U Hb (Bd p.length (Bd D.length ?_)));exact vd hl
 have hz:vs.toArray.size+u.toArray.size<=sizeLine+1:=Za E (by refine U Af ?_;exact We _ _);have d:(xs++g).length<=4096:=by refine U Ha ?_;exact vd hl
 by_cases F:u=[]
 ·obtain⟨f,c,G,S⟩:=Bu (o':=listOf vs.toArray m) q1 (l.ne B)
  exact kxn_extend (Zi C) vg (xe.mpr ⟨l.ne eb,p1⟩) F c (fH (xs:=[]) E) (p.fit q2) hz λh' W z=>Pj (tk':=s.toks) r l B C W.ns (News.keepUpd z S) (vs:=vs) (z _ G).1 d (U (CE (show ve w X s.heap g []from F▸D)) (U (Ub _) p))
 ·obtain⟨f,c,G,S⟩:=Bu (o':=listOf (vs++u).toArray (m+1)) q1 (l.ne B)
  exact kl_extend (Zi C) vg (xe.mpr ⟨l.ne eb,p1⟩) rfl (λq=>F (sg q)) c (fH (xs:=[]) E) (p.fit q2) hz λh' W z=>Pj (tk':=s.toks) r l B C W.ns (News.keepUpd z S) (vs:=vs++u) (z _ G).1 d (p.append D)
theorem oJ{i:Nat}{c:List V}{o y:ua}(r:R w Q X T s.heap)(l:Tm Q L X s.heap)(e:tc T i=J c)(u:VR w X s.heap (.ref i) o)(z:VR w X s.heap x y)
 (B:0<=k)(W:k<=c.length)(hl:c.length<4096):
 Qa (fb pg w) A (call (.builtin "list.insert") [o,.int k t,y]) (PV w Q L X s (T.set i (.list (c.take k.toNat++x::c.drop k.toNat))) .none) No s:=by
 refine aa λC=>?_;obtain⟨a,vs,m,rfl,j,D,E,f⟩:=r.list e u;obtain⟨mm,p⟩:=l.ns;have d:kl_ins vs.toArray.toList k y=vs.take k.toNat++y::vs.drop k.toNat:=by
  unfold kl_ins;simp only[Ui.mpr B,if_false,Nat.min_eq_left (by refine Bd f.length ?_;omega:k.toNat<=vs.length)]
 obtain⟨g,b,F,G⟩:=Bu (o':=listOf (vs.take k.toNat++y::vs.drop k.toNat).toArray (m+1)) D (l.ne j);refine C ?_;exact kl_insert (Zi p) vg (by simp only[qah,Dd,decide_eq_true_eq];omega) d b (f.fit E) λh' S q=>Pj (tk':=s.toks) r l j p S.ns (News.keepUpd q G) (vs:=_) (q _ F).1 (by refine U Ha (U nc (U ju (U Km ?_)));omega) ((f.take _).append (.cons z (f.drop _)))
theorem NN:∀is:List Int,is.all (λi=>decide (-1000<i)&&decide (i<1000))=Z->Th (is.map rg)=Z/\zh (is.map rg)=0/\et (is.map rg)<=is.length*12:=by
 intro is
 induction is with
 |nil=>
  rintro _;simp[Th,zh,et]
 |cons i is ih=>
  rintro h;simp only[uA,Dd,decide_eq_true_eq]at h;refine aa λnq=>?_;obtain⟨a,b,c⟩:=ih h.2;refine nq ?_;have hw:yx (.int i)<=11:=by
   simp only[yx]
   split
   ·exact Zc _
   ·rename_i q
    have:i.natAbs<2^10:=by lia
    have:=(qal (by simp at q;lia)).mpr this;exact oe (by assumption)
  simp only[Tb,Th,zh,et,nR,kW,a,b,nc];refine⟨rfl,rfl,?_⟩
  lia
theorem lN{i:Nat}{b:List V}{is:List Int}{o:ua}(r:R w Q X T s.heap)(e:tc T i=J b)(c:gi b=J is)(d:VR w X s.heap (.ref i) o)
 (f:is.contains k=Z)(g:is.all (λi=>decide (-1000<i)&&decide (i<1000))=Z)(u:is.length<60):
 Qa (fb pg w) A (call (.builtin "list.index") [o,.int k t]) (PV w Q L X s T (.int (is.idxOf k))) No s:=by
 refine aa λj=>?_;obtain⟨a,y,m,rfl,z,l,B,p⟩:=r.list e d;obtain⟨q,c2,c3⟩:=NN is g;refine j (index_list_ints (we l) (ui p c) ?_ (bo.mp f) (PV.same r (.int _ _)));simp only[Xf.layable0,nR,q,kW,c2,yx,tA,Dd,decide_eq_true_eq];exact⟨by decide,decide_eq_true (Za c3 (show is.length*12<=1048576 by lia))⟩
theorem iM{i:Nat}{b:List V}{is:List Int}{o:ua}(r:R w Q X T s.heap)(e:tc T i=J b)(c:gi b=J is)(d:VR w X s.heap (.ref i) o):
 Qa (fb pg w) A (call (.builtin "list.count") [o,.int k t]) (PV w Q L X s T (.int (is.count k))) No s:=by
 refine aa λf=>?_;obtain⟨a,l,m,rfl,p,g,q,j⟩:=r.list e d;exact f (count_list_ints (we g) (ui j c) (PV.same r (.int _ _)))
theorem jB{p:Wi}{f S:Ca}{fp wr:List Ca}{k:Nat}{g:Nat->ua->Prop}{St:Nat->qb->Prop}{Rr:Br->Ea->Prop}(W:Walks p w A.in1 f fp wr k g St)(hS:S∉fp)(C:ua)(c0:List ua)(hz:c0.length+k<=4096):
 ∀(d i:Nat)(s:Ea)(l:List ua)(c:Nat),k - i=d->i<=k->St i s.heap->s.heap.get? S=J (listOf (c0++l).toArray c)->l.length=i->(∀j v,l[j]?=J v->g j v)->
 (∀r tk m c',(∀b o,b≠S->b∉wr->s.heap.get? b=J o->r.get? b=J o)->r.get? S=J (listOf (c0++m).toArray c')->m.length=k->(∀j v,m[j]?=J v->g j v)->Rr (.ok (.ret C)) {s with heap:=r,toks:=tk})->
 ch (fb p w) A (.builtin "list.extend.loop" ⟨[.ref S,.ref f,C],[]⟩) Rr s:=by
 have D:S∉wr:=λh=>hS (W.sub _ h);intro d
 induction d with
 |zero=>
  intro i s l c hd hi y z B hP hR;have:i=k:=Vw hi (LF hd);subst this;exact lf Uw (U (He yf _) (ga (W.done s _ _ y λr tk E=>Ba (hR r tk l c (λb o u q e=>E b o q e) (E S _ D z) B hP))))
 |succ d ih=>
  intro i s l c hd hi y z B hP hR;have u:i<k:=MF hd;have x5:(c0++l).length<=4096:=by refine U Ha (U B ?_);exact Za (Wj hi _) hz
  refine lf Uw (U (He yf _) (ga (W.item i s _ _ u y λv h1 tk hp F E=>?_)));have G:=E S _ D z;refine ga (Vp G rfl (Ba ⟨Xj yf _,ih (i+1) _ (l++[v]) (c+1) (by refine U (P5 _ _) (U hd ?_);rfl) u (W.frame _ _ _ F λb R o e=>(jf _ _ λq:S=b=>hS (q▸R)).trans e) ?_ (by refine U Ha (U B ?_);rfl) (λj x q=>?_) λr x1 m c' x2 R x3 x4=>hR r x1 m c' (λb o n1 n2 e=>x2 b o n1 n2 ((jf _ _ (cq n1)).trans (E b o n2 e))) R x3 x4⟩) ?_ ?_)
  ·refine(Pc (Vi λx=>x.push v) G rfl).trans ?_
   simp[Vi]
  ·rcases Zj j l.length with b|b
   ·rw[Xa b]at q;exact hP j x q
   ·rw[Ma b]at q
    induction e:j - l.length using Sa with
    |zero=>
     rw[e]at q;exact Bd (ba q) (U (show j=i from Vw (B▸LF e) (B▸b)) hp)
    |succ t=>rw[e]at q;exact ja q
  ·refine U Hb (U Af ?_);lia
  ·refine U (cn _) (U Hb (U Af ?_));lia
end
section
variable {a b:Int}
variable [I:Av]
def dq(a b:Int)(c:List ua):Prop:=c.length=(b - a).toNat/\∀(j:Nat)(x:ua),c[j]?=J x->∃t,x=cm (a+(j:Int)*1) t
variable {w:zb} {X h:qb} {L:Ca} {W:List Ca} {Q N:St} {s:Ea} {v:V} {O:ua} {A:Xb} {n:Nat} {K:Ve} {P:Bh}
theorem Uo(a b:Int):Wg a b 1=((b - a).toNat:Int):=by
 simp only[Wg,show(1:Int)>0 from by decide,if_true,Int.ediv_one]
 split<;>lia
theorem wl{prog:Wi}{Rr:Br->Ea->Prop}{r S:Ca}{t u v:fk}{c0:List ua}{c:Nat}{res:ua}(hh:A.handled=Y)(C:VK s.heap r a b 1 t u v)(D:s.heap.get? S=J (listOf c0.toArray c))
 (ha: -1000<a)(x1:a<1000)(x2: -1000<b)(G:b<1000)(hz:c0.length+(b - a).toNat<=4096)
 (hR:∀p z g m,(∀b o,b≠S->s.heap.get? b=J o->p.get? b=J o)->p.get? S=J (listOf (c0++g).toArray m)->g.length=(b - a).toNat->(∀(j:Nat)(x:ua),g[j]?=J x->∃t,x=cm (a+(j:Int)*1) t)->Rr (.ok (.ret res)) {s with heap:=p,toks:=z}):
 Qa (fb prog w) A.in1 (Wp (.ref S) (.ref r) res)
  (λe d=>match e with|.done f=>Rr (.ok f) d|.again m=>m.quiet=Z/\ch (fb prog w) A m Rr d) (λe d=>Rr (.error e) d) s:=by
 have E:S≠r:=λe=>by rw[e,C]at D;simp at D
 have l:S≠s.heap.objs.size:=Wb (gc D:S<s.heap.objs.size);have R:=Uo a b;have B:∀(h:qb)(i z:Nat),gn h s.heap.objs.size (a+((0:Nat):Int)*1) (((b - a).toNat:Int) - ((0:Nat):Int)) 1->(∀b o,b≠S->s.heap.get? b=J o->h.get? b=J o)->
  h.get? S=J (listOf c0.toArray i)->ch (fb prog w) A (.builtin "list.extend.loop" ⟨[.ref S,.ref s.heap.objs.size,res],[]⟩) Rr {s with heap:=h,toks:=z}:=by
  intro h i z f hk d;refine jB (Walks.range (prog:=prog) (w:=w) (A:=A.in1) hh s.heap.objs.size a 1 (b - a).toNat) (λk=>l (Ra.mp k):S∉[s.heap.objs.size]) res c0 hz (b - a).toNat 0 {s with heap:=h,toks:=z} [] i rfl (Zc _) f (by simpa using d) rfl (λj v q=>by simp at q) λp q g m y F hl hP=>(hR p q g m (λb o X e=>y b o X (λk=>?_) (hk b o X e)) F hl hP);exact zc (gc e) (by refine U (Ra.mp k) ?_;exact fc _)
 unfold Wp;refine ga (VQ (T:="range") ⟨_,C,rfl⟩ ?_);have h1:Ws (.ref S) (.ref r)=ta:=by simp[Ws,E]
 simp only[h1,(by decide:(Ce "range"==Ce "list")=ta),(by decide:(Ce "range"==Ce "tuple")=ta),sA,ak,if_false];refine ga (N3 C (small_one (by lia) (by lia) (by lia) (by lia):A5 a b 1=Z) ?_);refine ga (dc (wpAny_hint_range (n:=(b - a).toNat) (ya _ C) R (by lia) ?_));have f:gn (s.heap.push {cls:=.type "range_iterator",data:=.fields #[bg a,bg (Wg a b 1),bg 1]}) s.heap.objs.size (a+((0:Nat):Int)*1) (((b - a).toNat:Int) - ((0:Nat):Int)) 1:=by
  show gn _ _ _ _ _;refine U R ?_;simpa using La _ rfl
 have d:=ya {cls:=.type "range_iterator",data:=.fields #[bg a,bg (Wg a b 1),bg 1]} D;have F:c0.toArray.size<=4096:=by refine U Hb ?_;lia
 have x3:sizeLine=16777216:=Af;have q:c0.toArray.size<=sizeLine:=by lia
 refine ii (λy=>?_) λy=>Ba ⟨Xj yf _,B _ c _ f (λb o y e=>ya _ e) d⟩;refine ga (Uj (ga ?_));refine ga (Vp d rfl ?_ q (by refine U (cn _) ?_;exact Uf (by assumption)));have k:=Pc (Vi λx=>x.push Xm) d rfl;refine Vp k rfl ?_ (by refine U (cn _) ?_;lia) (by refine U Array.size_pop (U (cn _) ?_);exact Ld (by assumption));refine Ba ⟨Xj yf _,B _ _ _ ?_ (λb o X e=>?_) ((Pc (Vi λx=>x.pop) k rfl).trans (by simp[Vi];rfl))⟩
 ·exact(jf _ _ l).trans ((jf _ _ l).trans f)
 ·exact(jf _ _ (cq X)).trans ((jf _ _ (cq X)).trans (ya _ e))
theorem dq.of{c:List ua}(d:c.length=(b - a).toNat)(e:∀(j:Nat)(x:ua),c[j]?=J x->∃t,x=cm (a+(j:Int)*1) t):dq a b c:=⟨d,e⟩
theorem nE(a:Int)(k:Nat):ot a (k+1)=.int a::ot (a+1) k:=by
 unfold ot;exact U lD (U Tb (U Rd (congr (Gc _ (Gc V.int (F5 a))) (gg λi u=>Gc V.int (show a+((i+1:Nat):Int)=a+1+i by lia)))))
theorem sK(k:Nat):∀(c:List ua)(a:Int),c.length=k->(∀(j:Nat)(x:ua),c[j]?=J x->∃t,x=cm (a+(j:Int)*1) t)->ve w W h (ot a k) c:=by
 induction k with
 |zero=>exactλc a d u=>by refine U (sg d) ?_;exact .nil|succ k g=>
  intro c a d f
  induction c using ma with
  |nil=>exact zc d.symm (Yb _)|cons x c=>
   obtain⟨t,rfl⟩:=f 0 x rfl;refine U (nE _ _) (U (show a+((0:Nat):Int)*1=a by lia) ?_);exact .cons (.int _ t) (g c (a+1) (Jh d) λj y q=>by
    obtain⟨t,e⟩:=f (j+1) y q;exact⟨t,by exact U e (U (show a+((j+1:Nat):Int)*1=a+1+(j:Int)*1 by lia) rfl)⟩)
theorem Ry{c:List ua}(q:dq a b c):ve w W h (Lo a b) c:=sK _ c a q.1 q.2
theorem Ut{i:Nat}{g:List V}{o y:ua}(AK:Eg n A)(r:R w X W Q s.heap)(l:Tm X L W s.heap)(e:tc Q i=J g)(xo:VR w W s.heap (.ref i) o)(xy:VR w W s.heap (.rng a b) y)
 (ha: -1000<a)(k:a<1000)(p: -1000<b)(c:b<1000)(hl:g.length+(Lo a b).length<4096):
 Qa (fb pg w) A (call (.builtin "list.extend") [o,y]) (PV w X L W s (Q.set i (.list (g++Lo a b))) .none) No s:=by
 refine aa λB=>?_;obtain⟨ad,vs,m,rfl,F,G,q2,S⟩:=r.list e xo;obtain⟨ra,t,u,v',rfl,hr⟩:=xy.wF;have T:(Lo a b).length=(b - a).toNat:=by unfold Lo ot;exact U (wa _) (U Ab rfl)
 have hv:=S.length;obtain⟨mm,hn⟩:=l.ns;refine B (Qw (Kr Kk.plain PySem.F.entry_list_extend (Kk.check _ _ _ _ _ _ _ _ ⟨_,G,rfl⟩ (PySem.F.args_list_extend_2 _ _) ?_)));refine Da (wl (Rr:=λq C=>∃r,q=.ok (.ret r)/\PV w X L W s (Q.set i (.list (g++Lo a b))) .none r C) AK.hh hr G ha k p c (by lia) λh' tk d c' hk hS D hP=>⟨.none,rfl,?_⟩) (λE C z=>?_) λe C z=>by obtain⟨_,q,_⟩:=z;cases q
 rotate_left
 ·induction E with|done f=>obtain⟨j,q,z⟩:=z;cases q;exact z|again c'=>exact⟨z.1,Fc z.2 λq s2 z2=>by obtain⟨j,f,x⟩:=z2;subst f;exact x⟩
 exact Pj (tk':=tk) r l F hn (by
  refine aa λB=>?_;obtain⟨f,j,q,x,e2⟩:=hn;refine B ?_;exact⟨f,j,q,hk _ _ (cq (l.ne F)) x,e2⟩) (λb x j f e=>hk b x f e) (vs:=vs++d) hS (by refine U Ha ?_;exact vd hl) (S.append (Ry ⟨D,hP⟩))
end
section
variable [N:Av]
variable {w:zb} {T h:qb} {L:Ca} {W:List Ca} {Q X:St} {s:Ea} {v:V} {O:ua} {A:Xb} {n:Nat} {K:Ve} {P:Bh}
inductive eL(s:Ea)(a b:Int)(q:Br)(s':Ea):Prop
 |mk:∀(h':qb)(tk:Nat)(acc':List ua)(c':Nat),q=.ok (.ret (.ref s.heap.objs.size))->s'={s with heap:=h',toks:=tk}->((∀b o,s.heap.get? b=J o->h'.get? b=J o))->h'.get? s.heap.objs.size=J (listOf acc'.toArray c')->dq a b acc'->eL s a b q s'
theorem Yw{prog:Wi}{E:ua->Ea->Prop}{d:List ua->Ea->Prop}{r:Ca}{a b:Int}{t u v:fk}(R:A.handled=Y)(hr:VK s.heap r a b 1 t u v)
 (ha: -1000<a)(z:a<1000)(B: -1000<b)(m:b<1000)
 (G:∀k l e,(∀b o,s.heap.get? b=J o->k.get? b=J o)->dq a b e->d e {s with heap:=k,toks:=l}):
 Qa (fb prog w) A (collect (.ref r)) d E s:=by
 unfold collect;refine ga (zF (lf entry_proto_collect' (U (He PySem.F.plain_proto_collect _) (ga (ij (Ba ⟨Xj Ax _,lf entry_list_iadd' ?_⟩))))));refine U (He Ax _) ?_;have C:=wl (prog:=prog) (w:=w) (A:=A) (s:={s with heap:=s.heap.push {cls:=.type "list",data:=.seq ([]:List ua).toArray}}) (S:=s.heap.objs.size) (c0:=[]) (c:=0) (res:=.ref s.heap.objs.size)
  (Rr:=λ(q:Br)(D:Ea)=>eL s a b q D)
  R (ya _ hr) (La _ rfl:(s.heap.push {cls:=.type "list",data:=.seq ([]:List ua).toArray}).get? s.heap.objs.size=J (listOf ([]:List ua).toArray 0)) ha z B m (by simp;lia)
  (λk l g F p i f j=>⟨k,l,g,F,rfl,rfl,λb o e=>p b o (Wb (gc e)) (ya _ e),by simpa using i,f,j⟩)
 refine Da C (λo D x=>?_) λe D x=>?_
 ·induction o with
  |done f=>
   obtain⟨k,l,g,F,e,rfl,p,i,j⟩:=x;cases e;exact ga (K3 i (Ba (G k l g p j)))
  |again f=>
   refine⟨x.1,Fc x.2 λq I y=>?_⟩;obtain⟨k,l,g,F,rfl,rfl,p,i,j⟩:=y;exact ga (K3 i (Ba (G k l g p j)))
 ·obtain⟨_,_,_,_,f,_⟩:=x
  cases f
open AutoSeq1 (wpAny_loadPart')
theorem Zm(r:Ca)(a b:Int)(t u v:fk)(q: -1000<a)(g:a<1000)(i: -1000<b)(e:b<1000):
 Meets (Si.«tuple.__new__» ⟨[.type "tuple",.ref r],[]⟩)
  (λA R s=>A.handled=Y/\VK s.heap r a b 1 t u v/\∀(f:qb)(j:Nat)(c:List ua),(∀b o,s.heap.get? b=J o->f.get? b=J o)->dq a b c->
   R (.ok (.ret (.ref f.objs.size))) {s with heap:=f.push {cls:=.type "tuple",data:=.seq c.toArray},toks:=j}):=
 .of_wp λm w A R s h=>by
  refine aa λx=>?_;obtain⟨y,o,h⟩:=h;refine x ?_;have p:=sub_tuple_self;have k:=init_tuple_lookup;have z:=madeHere_tuple;have hT:s.TypeIs (.ref r) "range":=⟨_,o,rfl⟩;have l:A.in1.handled=Y:=y
  wp_walk using VQ hT,Yw l o q g i e
  intro f j c B d;show Qa _ _ (qr c.toArray>>=λv=>ret v) _ _ _
  unfold qr;refine ga (ij ?_ (show c.toArray.size<=sizeLine by have:=d.1;refine U Hb (U Af ?_);lia));exact Ba ⟨_,rfl,h f j c B d⟩
theorem Hw{a b:Int}{o:ua}(l:Eg n A)(r:R w T W Q s.heap)(x:VR w W s.heap (.rng a b) o)(m: -1000<a)(f:a<1000)(g: -1000<b)(c:b<1000)(e:Cp (Lo a b) Q=J (v,X)):
 Qa (fb pg w) A (call (.type "tuple") [o]) (PV w T L W s X v) No s:=by
 refine aa λp=>?_;obtain⟨q,t,u,y,rfl,z⟩:=x.wF;refine p ?_;refine qeS PySem.F.called_tuple (by decide) (PySem.F.typeCall_tuple_1 _) (PySem.F.newCall_tuple_1 _) (λd=>PySem.F.args_object_init_2 d _) PySem.F.entry_tuple_new
  (Zm q a b t u y m f g c) ⟨l.hh,z,λC B i j d=>⟨⟨_,La _ rfl,rfl⟩,?_⟩⟩
 exact Ey (vs:=i) (k:=0) (tk':=B) r (λb x e=>ya _ (j b x e)) (rk j (Fb _)) (La _ rfl) (Ry d) e
end
section
variable {e:Expr}
structure Gl where
 glob:Bb->Option ua
 sup:Option Nat
structure Sc where
 kinds:List (Bb×yd)
 sl:List Bb
noncomputable def zm(x:Bb):Bool:= !(x==("__debug__":Bb))&& !(x==("__classdict__":Bb))
noncomputable def sJ:yd->Bool
 |.local|.cell|.free=>Z|_=>ta
def Ss(f:Sc)(x:Bb):Option Nat:=(f.kinds.lookup x).bind λk=>(Ie (sJ k&&zm x)).bind λu=>xc f.sl x
noncomputable def Rv(z:Expr):Option Bb:=match z with|.Name x u=>J x|_=>Y
theorem Jl{x:Bb}(h:Rv e=J x):∃p,e=.Name x p:=by
 induction e using Expr.casesOn<;>first|exact ja h|exact⟨_,by exact U (ba h) rfl⟩
noncomputable def tF(z:Expr):Option (List Expr):=match z with|.Tuple f u y=>J f|_=>Y
theorem Gw{x:List Expr}(h:tF e=J x):∃k p,e=.Tuple x k p:=by
 induction e using Expr.casesOn<;>first|exact ja h|exact⟨_,_,by exact U (ba h) rfl⟩
noncomputable def jz(z:Expr):Option i4:=match z with|.Constant c u y=>J c|_=>Y
theorem dv{c:i4}(h:jz e=J c):∃k p,e=.Constant c k p:=by
 induction e using Expr.casesOn<;>first|exact ja h|exact⟨_,_,by exact U (ba h) rfl⟩
noncomputable def T9(z:i4):Option Bb:=match z with|.str a=>J a|_=>Y
noncomputable def lZ(z:i4):Option Int:=match z with|.int a=>J a|_=>Y
theorem jQ{c:i4}{a:Bb}(h:T9 c=J a):c=.str a:=by
 induction c<;>first|exact ja h|exact Bd (ba h) rfl
theorem qN{c:i4}{a:Int}(h:lZ c=J a):c=.int a:=by
 induction c<;>first|exact ja h|exact Bd (ba h) rfl
noncomputable def dF(z:Expr):Option (Option Expr×Option Expr×Option Expr):=match z with|.Slice a b c u=>J (a,b,c)|_=>Y
theorem fF{a b c:Option Expr}(h:dF e=J (a,b,c)):∃p,e=.Slice a b c p:=by
 induction e using Expr.casesOn<;>first|exact ja h|cases ba h;exact⟨_,rfl⟩
noncomputable def Ol:Expr->Bool
 |.Name .. |.Attribute .. |.Subscript .. =>Z|.Call (.Name ..) (u::y) z j=>Z|_=>ta
def v8(f:Sc)(e:Expr):Option Nat:=(Rv e).bind (Ss f)
noncomputable def Iz(f:Sc)(z:List Expr):Option (List Nat):=match z with|[]=>J []|e::g=>(v8 f e).bind λi=>(Iz f g).map λx=>i::x
def Tk(f:Sc)(e:Expr):Option CT:=match Rv e with|some x=>(Ss f x).map CT.x|none=>(tF e).bind λg=>(Iz f g).map CT.t
noncomputable def Rt(lo:Nat)(z:CT):Bool:=match z with|.x i=>decide (lo<=i)|.t is=>is.all λi=>decide (lo<=i)
noncomputable def Bt(f g:List (Bb×yd)):List (Bb×yd):=
 f.map λ(n,k)=>if(k== .free&&g.lookup n==J .cell)then(n,.cell)else(n,k)
noncomputable def Yg(f:List (Bb×yd)):List Bb:=(f.filter λx=>x.2== .local||x.2== .cell).map λx=>x.1
def gM(g:Sc)(f:Scope):Option Sc:=
 if f.kind== .function&& !f.isGenerator&& !f.isCoroutine&&f.names.all (λx=>(x.2== .local)==(f.names.lookup x.1==J .local))
  &&f.names.all (λx=> !(x.2== .free)||(g.kinds.lookup x.1==J .cell||g.kinds.lookup x.1==J .free))
  &&f.names.all (λx=>f.names.lookup x.1==J x.2)
  &&f.names.all (λx=> !(x.2== .globalExplicit))&&decide (f.names.map λx=>x.1).Nodup
 then J ⟨Bt f.names g.kinds,g.sl++Yg f.names⟩else Y
def U1(k:Option Expr):Option Bb:=(k.bind jz).bind T9
theorem eI{k:Option Expr}{a:Bb}(h:U1 k=J a):∃d p,k=J (.Constant (.str a) d p):=by
 refine aa λf=>(Vg h λc g i=>?_);refine Vg g λe z j=>?_;subst z;obtain⟨d,p,rfl⟩:=dv j;exact f (⟨d,p,by exact U (jQ i) rfl⟩)
def yp(e:Expr):Bool:=(Rv e).isSome
theorem Ur(h:yp e=Z):∃x p,e=.Name x p:=by
 obtain⟨x,h⟩:=Oa.mp h;exact⟨x,Jl h⟩
def xm(e:Expr):Bool:=(dF e).isSome
def qbB(z:Option Expr×Option Expr×Option Expr):Option Int:=match z with|(Y,J e,Y)=>(jz e).bind lZ|_=>Y
def HY(e:Expr):Option Int:=(dF e).bind qbB
theorem GS{k:Int}(h:HY e=J k):∃d p q,e=.Slice Y (J (.Constant (.int k) d p)) Y q:=by
 refine aa λf=>?_;refine Vg h λz i g=>?_;obtain⟨a,b,c⟩:=z;obtain⟨q,rfl⟩:=fF i;refine f ?_;clear f
 induction a with
 |some u=>exact ja g|none=>induction b with
  |none=>exact ja g|some b=>induction c with
   |some u=>exact ja g|none=>
    refine aa λf=>(Vg (show(jz b).bind lZ=J k from g) λc j l=>?_);obtain⟨d,p,rfl⟩:=dv j;refine f ?_;clear f;exact⟨d,p,q,by exact U (qN l) rfl⟩
noncomputable def ft{W V:Type}(a:Option W)(f:W->Option V):Option V:=match a with|some x=>f x|none=>Y
noncomputable def Hr{W V T:Type}(a:Option W)(b:Option V)(f:W->V->Option T):Option T:=match a with
 |some x=>(match b with|some y=>f x y|none=>Y)
 |none=>Y
noncomputable def VF{W V T S:Type}(a:Option W)(b:Option V)(c:Option T)(f:W->V->T->Option S):Option S:=match a with
 |some x=>(match b with
  |some y=>(match c with|some z=>f x y z|none=>Y)
  |none=>Y)
 |none=>Y
def qbr{W V T S R:Type}(a:Option W)(b:Option V)(c:Option T)(d:Option S)(f:W->V->T->S->Option R):Option R:=match a with|some x=>VF b c d (f x)|none=>Y
section
variable {W V T S R:Type} {a:Option W} {b:Option V} {c:Option T} {d:Option S} {P:Prop}
theorem Fe{f:W->Option V}{r:V}(h:ft a f=J r)(k:∀x,a=J x->f x=J r->P):P:=by
 induction a with
 |none=>exact ja h|some x=>exact k x rfl h
theorem rd{f:W->V->Option T}{r:T}(h:Hr a b f=J r)(k:∀x y,a=J x->b=J y->f x y=J r->P):P:=by
 induction a with
 |none=>exact ja h|some x=>induction b with|none=>exact ja h|some y=>exact k x y rfl rfl h
theorem Gi{f:W->V->T->Option S}{r:S}(h:VF a b c f=J r)(k:∀x y z,a=J x->b=J y->c=J z->f x y z=J r->P):P:=by
 induction a with
 |none=>exact ja h|some x=>induction b with|none=>exact ja h|some y=>induction c with|none=>exact ja h|some z=>exact k x y z rfl rfl rfl h
theorem Su{f:W->V->T->S->Option R}{r:R}(h:qbr a b c d f=J r)(k:∀x y z u,a=J x->b=J y->c=J z->d=J u->f x y z u=J r->P):P:=by
 induction a with
 |none=>exact ja h|some x=>exact Gi h λy z u=>k x y z u rfl
theorem de{c:Bool}{a:Option W}{r:W}(h:(if c then a else Y)=J r)(k:c=Z->a=J r->P):P:=by
 induction c with
 |false=>exact ja h|true=>exact k rfl h
theorem Aj{c:Bool}{a:Option W}{r:W}(h:(if c then Y else a)=J r)(k:c=ta->a=J r->P):P:=by
 induction c with
 |false=>exact k rfl h|true=>exact ja h
end
mutual
noncomputable def Eh(g:Gl)(q:Nat)(d:Sc)(m:Expr):Option X:=match q,d,m with
 |0,u,j=>Y|n+1,h,e=>match e with
  |.Name x u=>if h.kinds.lookup x==J .globalImplicit then(if zm x then ft (g.glob x) λf=>J (.k f)else Y)else ft (Ss h x) (λi=>J (.x i))|.Constant c u j=>match c with|.none=>J .none|.bool b=>J (.bool b)|.int i=>J (.int i)|.str s=>J (.str s)|_=>Y
  |.Attribute o a u=>if Ol o then ft (Eh g n h o) λx=>J (.attr x a)else Y|.Subscript o i u=>if xm i then ft (HY i) (λk=>if yp o then ft (Eh g n h o) λx=>J (.cut x k)else Y)
   else Hr (Eh g n h o) (Eh g n h i) (λa b=>J (.sub a b))
  |.BinOp a i b u=>Hr (Eh g n h a) (Eh g n h b) (λx y=>J (.bin i x y))|.UnaryOp i a u=>(match i with|.USub=>ft (Eh g n h a) (λx=>J (.neg x))|_=>Y)|.Compare l p s u=>(match p with
   |[i]=>(match s with|[r]=>if Uh i r then Y else Hr (Eh g n h l) (Eh g n h r) (λx y=>J (.cmp i x y))|_=>Y)
   |_=>Y)
  |.IfExp t a b u=>VF (sV g n h t) (Eh g n h a) (Eh g n h b) (λx y z=>J (.ite x y z))|.Tuple i u j=>ft (tx g n h i) (λl=>J (.t l))|.List i u=>ft (tx g n h i) (λl=>J (.list l))|.Dict r i u=>(match r,i with|[],[]=>J (.dict [] [])|[k],[v]=>ft k (λk=>if yp k then Hr (Eh g n h k) (Eh g n h v) λx y=>J (.dict [x] [y])else Y)|[k,p],[v,s]=>Hr (U1 k) (U1 p) λa b=>Hr (Eh g n h v) (Eh g n h s) λy z=>if a=b then Y else J (.dict [.str a,.str b] [y,z])|u,j=>Y)
  |.ListComp s k i u=>(match k with
   |[]=>Y|p::rest=>if p.is_async==0 then Hr (Eh g n h p.iter) (gM h i) (λv j=>
    qbr (Tk j p.target) (vQ g n j p.ifs) (tV g n h.sl.length j rest) (Eh g n j s) λt w y x=>if Rt h.sl.length t then J (.comp (Yg i.names).length v t w y x)else Y)else Y)
  |.Call f i r j=>(match r with
   |[]=>(match f with|.Name x p=>Hr (Eh g n h (.Name x p)) (tx g n h i) (λf l=>(match f with|.k f=>J (.call (.k f) l)|_=>Y))|.Attribute o a k=>if Ol o&&(k.endLine==j.line)&&decide (i.length<29)then Hr (Eh g n h o) (tx g n h i) λx l=>J (.meth x a l)else Y|_=>Y)
   |_=>Y)
  |_=>Y
noncomputable def tx(g:Gl)(z:Nat)(j:Sc)(q:List Expr):Option (List X):=match z,j,q with|0,u,y=>Y|u+1,y,[]=>J []|n+1,f,e::h=>Hr (Eh g n f e) (tx g n f h) λx i=>J (x::i)
noncomputable def sV(g:Gl)(q:Nat)(d:Sc)(t:Expr):Option B:=match q,d,t with
 |0,u,j=>Y|n+1,h,e=>match e with
  |.UnaryOp f x u=>(match f with|.Not=>ft (sV g n h x) (λb=>J (.not b))|_=>Y)|.BoolOp f i u=>(match i with|[a,b]=>Hr (sV g n h a) (sV g n h b) (λx y=>(match f with|.And=>J (.and x y)|.Or=>J (.or x y)))|_=>Y)
  |.Compare l i k u=>(match i with
   |[f]=>(match k with|[r]=>if Uh f r then Y else Hr (Eh g n h l) (Eh g n h r) (λx y=>J (.wK (.cmp f x y)))|_=>Y)
   |[j,f]=>(match k with|[m,r]=>if Uh f r then Y else VF (Eh g n h l) (Eh g n h m) (Eh g n h r) (λx y z=>J (.wK (.cmp2 j f x y z)))|_=>Y)
   |_=>Y)
  |.Name x p=>ft (Eh g n h (.Name x p)) (λx=>J (.wK x))|.Attribute o a p=>ft (Eh g n h (.Attribute o a p)) (λx=>J (.wK x))|.Subscript o i p=>ft (Eh g n h (.Subscript o i p)) (λx=>J (.wK x))|.Call f as i p=>ft (Eh g n h (.Call f as i p)) (λx=>J (.wK x))|_=>Y
noncomputable def vQ(g:Gl)(z:Nat)(j:Sc)(q:List Expr):Option (List B):=match z,j,q with|0,u,y=>Y|u+1,y,[]=>J []|n+1,f,e::h=>Hr (sV g n f e) (vQ g n f h) λx i=>J (x::i)
noncomputable def tV(g:Gl)(j:Nat)(q:Nat)(d:Sc)(f:List jd):Option (List G):=match j,q,d,f with|0,u,y,z=>Y|u+1,y,z,[]=>J []|n+1,lo,h,i::k=>if i.is_async==0 then qbr (Eh g n h i.iter) (Tk h i.target) (vQ g n h i.ifs) (tV g n lo h k) λl t m r=>if Rt lo t then J (.mk l t m::r)else Y else Y
end
end
section
variable {o a b e:Expr} {W:Nm} {F G:St->Option (V×St)} {E:ur} {D:List Expr} {s:Ea} {I:List Ca} {N:Yl ua} {L:Ca}
variable [z:Av]
variable {w:zb} {S:qb} {A:Xb} {X:wj} {Q:Ca->Prop} {O:List Bb} {lo:Nat} {P:Me} {K:Ve} {C:Bh} {n:Nat}
theorem Ru{a:Bb}(h:Ol o=Z)(N:Yl ua):attributeBase o a X N=N:=by
 induction o using Expr.casesOn with
 |Call f c d W=>
  induction f using Expr.casesOn<;>try (exact zc h ia)
  induction c using ma with
  |nil=>exact zc h ia|cons u y=>rfl
 |_=>first|exact zc h ia|rfl
theorem BL{a:Bb}(B:Ek S K C)(c:Ol o=Z)(d:uc w S A X Q O lo P (yc o X) F):
 uc w S A X Q O lo P (yc (.Attribute o a W) X) (λf=>(F f).bind λp=>(Ki C p.1 a p.2).map λv=>(v,p.2)):=
 Hs (t:=λv=>getAttr v a Z) d (λu u u u u r u x=>Ga.map λu e=>eE B r x e) λu u h=>Attribute_any_ h (by exact U (arm_eval_Attribute _ _ _ _) (U (Ru c _) rfl))
theorem kQ{i:Expr}(c:∀a b,mV i ta a b=tD [a,b] (Q4 a b))(d:uc w S A X Q O lo P (yc o X) F)(f:uc w S A X Q O lo P (yc i X) G):
 uc w S A X Q O lo P (yc (.Subscript o i W) X) (λg=>(F g).bind λp=>(G p.2).bind λq=>(XC p.1 q.1 q.2).map λv=>(v,q.2)):=
 Jw (t:=λa b=>qes o i a b) d f (λu u u u u u u u r u g h=>Ga.map λu e=>Y1 r g h e (c _ _)) λu u h=>Subscript_ h
theorem FL{E:Je}(d:Eg n A)(f:uc w S A X Q O lo P (yc a X) F)(g:uc w S A X Q O lo P (yc b X) G):
 uc w S A X Q O lo P (yc (.BinOp a E b W) X) (λc=>(F c).bind λp=>(G p.2).bind λq=>gS E p.1 q.1 q.2):=
 Jw (t:=λa b=>Io E a b) f g (λu u u u u u u u r c h i u u e=>oY d r c.lok h i e) λu u h=>wpAny_BinOp h
theorem gO(c:uc w S A X Q O lo P (yc a X) F):
 uc w S A X Q O lo P (yc (.UnaryOp .USub a W) X) (λd=>(F d).bind λp=>(qh p.1).map λi=>(.int (-i),p.2)):=
 Hs (t:=λv=>unaryOp .USub v) c (λu u u u u r u x=>Ga.map λu e=>by
  obtain⟨_,rfl⟩:=x.wZ e;exact qav (PV.same r (.int _ _))) λu u h=>UnaryOp_ h
theorem ls{r:Expr}{t:Yl ua}(h:Uh E r=ta):qcE E r t=t:=by
 unfold qcE;exact U h rfl
theorem dM(c:S.get? sysModules≠Y)(d:Eg n A)(f:Uh E b=ta)(g:uc w S A X Q O lo P (yc a X) F)(i:uc w S A X Q O lo P (yc b X) G):
 uc w S A X Q O lo P (yc (.Compare a [E] [b] W) X) (λh=>(F h).bind λp=>(G p.2).bind λq=>(kq E p.1 q.1 q.2).map λv=>(.bool v,q.2)):=
 Jw (t:=λa b=>fg E a b) g i (λu u u u u u u u r u h j=>Ga.map λu e=>OD c d r h j e) λu u h=>by
  exact U (eval_Compare1 _ _ _ _ _) (U (ls f) (ga (Da h (λa l j=>ga (dc (Da j (λb m k=>ga (mc (qbe k))) λu u x=>x))) λu u x=>x)))
theorem gH(h:∀x p,e≠ .Starred x p)(rest:List Expr):starEach (e::rest) X=(ta,yc e X)::starEach rest X:=by
 induction e using Expr.casesOn<;>first|rfl|exact zc rfl (h _ _)
theorem C3:Ti w S A X Q O lo P (gj (qg W (starEach [] X))) (λc=>J ([],c)):=λu u u r u=>Ga.ret (wpAny_items_nil (PR.id r .nil))
theorem LV{G:St->Option (List V×St)}(h:∀x p,e≠ .Starred x p)(i:uc w S A X Q O lo P (yc e X) F)(j:Ti w S A X Q O lo P (gj (qg W (starEach D X))) G):
 Ti w S A X Q O lo P (gj (qg W (starEach (e::D) X))) (λd=>(F d).bind λp=>(G p.2).map λq=>(p.1::q.1,q.2)):=λI d s r c v k l=>bb l λp m t=>re t λq y B=>wpAny_items_cons (Da (i I d s r c _ _ m) (λa s1 R=>by
 obtain⟨f,T,k1,r1,x1⟩:=R;refine Da (j f _ _ r1 (c.kx r k1) _ _ y) (λb s2 p2=>?_) λu u x=>x;obtain⟨g,t2,k2,r2,x2⟩:=p2;obtain⟨rfl,rfl⟩:=Ta B;exact⟨g,T.trans t2,k1.trans k2,r2,.cons (k2.vr x1) x2⟩) λu u x=>x) (gH h D)
theorem AQ{k:Nat}{G:St->Option (List V×St)}(c:Ti w S A X Q O lo P (gj (qg W (starEach D X))) G):
 uc w S A X Q O lo P (yc (.Tuple D k W) X) (λd=>(G d).bind λp=>Cp p.1 p.2):=
 Hs (t:=λd=>qcK d) c (λu u u u u r u x u u e=>bU r x e) λu u h=>by
  exact U (arm_eval_Tuple _ _ _ _) (ga (mc (ga h)))
theorem yJ{G:St->Option (List V×St)}(c:Ti w S A X Q O lo P (gj (qg W (starEach D X))) G):
 uc w S A X Q O lo P (yc (.List D W) X) (λd=>(G d).bind λp=>cj p.1 p.2):=
 Hs (t:=λd=>c5 d) c (λu u u u u r u x u u e=>ZT r x e) λu u h=>by
  exact U (arm_eval_List _ _ _) (ga (mc (ga h)))
theorem Un{b:Bool}{c:B4}{d:Bool->Ea->Prop}{f:ua->Ea->Prop}(h:d b s):Qa c A (kA (.bool b)) d f s:=λu u u=>h
theorem VR.bool_of{h:qb}{v:V}{c:ua}(x:VR w I h v c){i:Bool}(e:ip v=J i):c=.bool i:=(Xu e▸x:VR w I h (.bool i) c).wF
theorem JI(c:isTrue e X (yc e X)=(do let v<-yc e X;Yj e.pos;aj [v] (kA v)))(d:uc w S A X Q O lo P (yc e X) F):
 Xg w S A X Q O lo P (isTrue e X (yc e X)) (λf=>(F f).bind λp=>(ip p.1).map λb=>(b,p.2)):=
 Hs (t:=λv=>Yj e.pos>>=λu=>aj [v] (kA v)) d (λu u u u u r u x=>Ga.map λu e=>by
  refine U (x.bool_of e) ?_;exact ga (mc (dc (Un (PB.wU r))))) λu u h=>by
  exact U c (ga h)
theorem nO{F:St->Option (Bool×St)}(g:Xg w S A X Q O lo P (isTrue e X (yc e X)) F):
 Xg w S A X Q O lo P (isTrue (.UnaryOp .Not e W) X N) (λd=>(F d).map λp=>(!p.1,p.2)):=λI d s r c=>Ga.map λp e=>isTrue_not (Da (g I d s r c p.1 p.2 e) (λa k h=>by
 obtain⟨f,i,k1,j,rfl⟩:=h;exact⟨f,i,k1,j,rfl⟩) λu u x=>x)
theorem PB.be{f:Ea}{d:St}{b c:Bool}(p:PB w S L I s d b c f):c=b:=by obtain⟨_,_,_,_,e⟩:=p;exact e
theorem vL{F G:St->Option (Bool×St)}(l:Xg w S A X Q O lo P (isTrue a X (yc a X)) F)(m:Xg w S A X Q O lo P (isTrue b X (yc b X)) G):
 Xg w S A X Q O lo P (isTrue (.BoolOp .And [a,b] W) X N) (λg=>(F g).bind λp=>kn p.1 (G p.2) (J (ta,p.2))):=λI g s r c v h e=>bb e λp q f=>isTrue_and (Da (l I g s r c p.1 p.2 q) (λa y d=>by
 induction a with
 |false=>
  rw[<-PB.be d]at f d;obtain⟨rfl,rfl⟩:=Ta (ba f);exact d
 |true=>
  rw[<-PB.be d]at f;obtain⟨i,j,k1,t,_⟩:=d;exact isTrue_and (Da (m i p.2 _ t (c.kx r k1) v h f) (λb u k=>by
   induction b with
   |false=>exact PR.after j k1 k|true=>exact isTrue_and_nil (PR.after j k1 k)) λu u x=>x)) λu u x=>x)
theorem mU{F G:St->Option (Bool×St)}(l:Xg w S A X Q O lo P (isTrue a X (yc a X)) F)(m:Xg w S A X Q O lo P (isTrue b X (yc b X)) G):
 Xg w S A X Q O lo P (isTrue (.BoolOp .Or [a,b] W) X N) (λg=>(F g).bind λp=>kn p.1 (J (Z,p.2)) (G p.2)):=λI g s r c v h e=>bb e λp q f=>isTrue_or (Da (l I g s r c p.1 p.2 q) (λa y d=>by
 induction a with
 |true=>
  rw[<-PB.be d]at f d;obtain⟨rfl,rfl⟩:=Ta (ba f);exact d
 |false=>
  rw[<-PB.be d]at f;obtain⟨i,j,k1,t,_⟩:=d;exact isTrue_or (Da (m i p.2 _ t (c.kx r k1) v h f) (λb u k=>by
   induction b with
   |true=>exact PR.after j k1 k|false=>exact isTrue_or_nil (PR.after j k1 k)) λu u x=>x)) λu u x=>x)
theorem vN{t:Expr}{T:St->Option (Bool×St)}(i:Xg w S A X Q O lo P (isTrue t X (yc t X)) T)(j:uc w S A X Q O lo P (yc a X) F)(k:uc w S A X Q O lo P (yc b X) G):
 uc w S A X Q O lo P (yc (.IfExp t a b W) X) (λf=>(T f).bind λp=>kn p.1 (F p.2) (G p.2)):=
 Hs (t:=λc=>if c then yc a X else yc b X) i (λc g I f s r d x=>Ga.ifB (λh=>by refine U (show c=Z from(x:c=g).trans h) ?_;exact j I f s r d) λh=>by refine U (show c=ta from(x:c=g).trans h) ?_;exact k I f s r d) λu u h=>by
  exact U (arm_eval_IfExp _ _ _ _ _) (ga h)
theorem VA{a b:ua}{z g:V}{d:St}(h:S.get? sysModules≠Y)(i:Eg n A)(r:R w S I d s.heap)(j:VR w I s.heap z a)(k:VR w I s.heap g b):
 Ga RB w S A L I s (do Yj W;let c<-tD [a,b] (fg E a b);aj [c] (kA c)) ((kq E z g d).map λr=>(r,d)):=Ga.map λt e=>ga (mc (ga (qbe (Da (OD h i r j k e) (λl v m=>by
 obtain⟨f,p,k5,q,u⟩:=m;rw[(u.wF:l=.bool t)];exact dc (Un ⟨f,p,k5,q,rfl⟩)) λu u x=>x))))
theorem eM(d:S.get? sysModules≠Y)(f:Eg n A)(g:Uh E b=ta)(i:uc w S A X Q O lo P (yc a X) F)(j:uc w S A X Q O lo P (yc b X) G):
 Xg w S A X Q O lo P (isTrue (.Compare a [E] [b] W) X N) (λh=>(F h).bind λp=>(G p.2).bind λq=>(kq E p.1 q.1 q.2).map λr=>(r,q.2)):=
 Jw (t:=λa b=>do Yj W;let c<-tD [a,b] (fg E a b);aj [c] (kA c)) i j (λu u u u u u u u r u h k=>VA d f r h k) λu u h=>by
  exact U (isTrue_Compare1 _ _ _ _ _ _) (U (ls g) (ga (Da h (λa l k=>ga (dc k)) λu u x=>x)))
theorem ZI{c:Expr}{j i:ur}{d:St->Option (V×St)}(R:S.get? sysModules≠Y)(AK:Eg n A)(hk:Uh i c=ta)
 (hf:uc w S A X Q O lo P (yc a X) F)(hg:uc w S A X Q O lo P (yc b X) G)(hh:uc w S A X Q O lo P (yc c X) d):
 Xg w S A X Q O lo P (isTrue (.Compare a [j,i] [b,c] W) X N) (λB=>(F B).bind λp=>(G p.2).bind λq=>(kq j p.1 q.1 q.2).bind λr=>kn r ((d q.2).bind λu=>(kq i q.1 u.1 u.2).map λr=>(r,u.2)) (J (ta,q.2))):=
 Jw (t:=λa b=>do Yj W;let x<-aj [a,b] (fg j a b);qfk [a,b] [x];if<-aj [x,b] (kA x)then testChain W b [i] [yc c X]else pure ta) hf hg (λa b z bv I B s τ r f xa q=>Ga.opt λt1 e1 v p e=>ga (mc (ga (dc (Da (OD (L:=X.locals) R AK r xa q e1) (λc' s3 p3=>by
  refine aa λnq=>?_;obtain⟨l,t3,m,r3,x3⟩:=p3;refine nq ?_;clear nq;rw[(x3.wF:c'=.bool t1)];refine ga (tK (ga (dc (Un ?_))))
  induction t1 with
  |false=>obtain⟨rfl,rfl⟩:=Ta (ba e);exact Ba ⟨l,t3,m,r3,rfl⟩|true=>
   exact Da (((hh l B s3 r3 (f.kx r m)).bind (T:=testChain W b [i] [yc c X]) (k:=λu=>(kq i bv u.1 u.2).map λr=>(r,u.2)) (t:=λc=>do Yj W;let x<-tD [b,c] (fg i b c);aj [x] (kA x)) (λc cv g s4 h u y x4=>VA R AK y (u.vr (m.vr q)) x4) λg h=>ga (dc h)) v p e) (λy y=>PR.after t3 m) λy y x=>x) λy y x=>x))))) λy y h=>by
  exact U (arm_isTrue_Compare _ _ _ _ _ _) (U (show markedEach [j,i] [b,c] (evalEach [b,c] X)=[yc b X,yc c X]from Gc (λx=>[yc b X,x]) (ls hk)) (ga (Da h (λa l g=>ga (dc g)) λy y x=>x)))
end
section
variable {a:Ca} {r:B4} {f:ua} {m:Lm}
variable [B:Av]
section
variable {w:zb} {S h C:qb} {T:List Ca} {Q:St} {L:Ca}
theorem R.add(c:R w S T Q h){o:O}(ha:a∉T)(X:S.get? a=Y)(ho:OR w (T++[a]) h o a):R w S (T++[a]) (Q++[o]) h:=by
 refine⟨by simp[c.len],?_,?_,c.avl,c.wK,λj p b l P=>?_⟩
 ·exact U (propext Zh) (⟨c.nodup,by simp,λx k d e=>by rw[Ra]at e;subst e;exactλq=>ha (q▸k)⟩)
 ·intro b d
  refine aa λk=>?_;rcases Vb.mp d with q|q
  ·refine k ?_
   clear k;exact c.fresh b q
  ·refine k ?_
   clear k;rw[Ra]at q;subst q;exact X
 ·by_cases q:j<Q.length
  ·rw[Xa q]at l
   rw[Xa (by refine U c.len ?_;exact q)]at P;exact(c.obj j p b l P).mono (Hc _ _) (λb x e u=>e) λx e=>e
  ·rw[Ma (og q)]at l
   rw[Ma (by refine U c.len ?_;exact og q),c.len]at P;refine aa λk=>?_
   induction b:j - Q.length using Sa with
   |zero=>refine k ?_;clear k;rw[b]at l P;simp at l P;subst l P;exact ho|succ d=>refine k ?_;clear k;rw[b]at l;simp at l
theorem KX.add{c:List Ca}(k:KX L T h C c)(d:h.get? a=Y):KX L T h C (c++[a]):=
 ⟨⟨k.pre.trans (Hc _ _),λb S=>by
  rcases Vb.mp S with q|q
  ·exact k.fresh b q
  ·rw[Ra]at q;subst q;exact .inr d,k.keep,k.imm,k.live⟩,k.ns⟩
theorem Sd(b:R w S T Q h)(c:h.get? a=Y):S.get? a=Y:=by
 induction e:S.get? a with
 |none=>rfl|some x=>have:=b.wK a x e;rw[c]at this;exact ja this
theorem Jf(b:R w S T Q h)(d:h.get? a=Y):a∉T:=λq=>by obtain⟨x,c,_⟩:=b.live q;rw[d]at c;exact ja c
end
def Ci(w:zb)(S:qb)(D:Nat->List V->St->Option (V×St))(n:Nat):Prop:=
 ∀(A:Xb),Eg n A->∀f N W T Q s v G L,R w S T Q s.heap->L∉T->ve w T s.heap N W->D f N Q=J (v,G)->
  ch (fb pg w) A (.call (.ref f) ⟨W,[]⟩) (λq c=>∃b,q=.ok (.ret b)/\PV w S L T s G v b c) s
noncomputable def yB(K:Ve)(f:ua):Bool:=match f with|.ref u=>keepIn K f|.builtin u=>Z|.type u=>Z|_=>ta
structure Zp(S:qb)(K:Ve)(E:Bh):Prop where
 meth:∀c nm f,E.meth c nm=J f->Pk K (.ref c) "__getattribute__"=J (J (.builtin "object.__getattribute__"))/\Pk K (.ref c) "__getattr__"=J Y/\Pk K (.ref c) nm=J (J (.ref f))/\FQ K (.ref f)=J (.type "function")/\keepIn K (.ref f)=Z
 init:∀c f,E.init c=J f->makesIn K c=Z/\Pk K (.ref c) "__init__"=J (J (.ref f))/\FQ K (.ref f)=J (.type "function")
structure Uy(S:qb)(K:Ve)(g:Gl):Prop where
 glob:∀x v,g.glob x=J v->yB K v=Z/\∃m,S.Ns mainGlobals m/\(m x=J v\/(m x=Y/\∃mb,S.Ns jp mb/\mb x=J v))
variable {w:zb} {S:qb} {A:Xb} {F:wj} {z:Ca->Prop} {t:List Bb} {lo:Nat} {y:Me} {K:Ve} {E:Bh} {n:Nat} {g:Gl} {T:List Ca} {Q G:St} {s:Ea} {v:V} {L:Ca} {D:Nat->List V->St->Option (V×St)}
theorem Fm:{b:List Expr}->(∀e∈b,∀x p,e≠md x p)->starEach b F=b.map λe=>(ta,yc e F):=by
 intro b
 induction b with
 |nil=>
  rintro _;exact rfl
 |cons e b c=>
  rintro h;refine U (gH (h e sa) _) (U (c λe d=>h e (oa _ d)) ?_);rfl
theorem rt(h:yB K f=Z)(d:qb)(X:K.In d):∃k,(k=Keeper.frame\/k=Keeper.machine\/k=Keeper.boundFrame)/\Looks r d (keeperOf f) k:=by
 induction f with
 |ref a=>exact keeps_K (f:=.ref a) h d X|builtin i=>exact⟨.machine,.inr (.inl rfl),λA b c s u q=>Ba q⟩|type i=>exact⟨.machine,.inr (.inl rfl),λA b c s u q=>Ba q⟩|_=>exact zc h ia
theorem jq{b:ua->Ea->Prop}{c:ua->Ea->Prop}{d:Nm}{first:List ua}{j:List Expr}(l:yB K f=Z)(q:∀e∈j,∀x p,e≠md x p)
 (h:Qa r A (gj (qg d (starEach j F))) (λN k=>K.In k.heap/\Qa r A (call f (first++N)) c b k) b s):Qa r A (callWith d f first (qg d (starEach j F)) []) c b s:=by
 have S:∀j:List Expr,qg d (j.map λe=>(ta,yc e F))=j.map λe=>(ta,yc e F):=λj=>by
  unfold qg;refine U Rd ?_;rfl
 rw[Fm q,S]at h|-
 induction j using ma with
 |nil=>
  refine rS (P:=K.In) rfl (rt l) ?_;unfold evalArgs;refine ga (Da h (λN k p=>ga (Ba ?_)) λu u x=>x);exact dc (ga (Ba (ga (Ba (Ba p)))))
 |cons e j=>
  refine rS (P:=K.In) ?_ (rt l) ?_
  ·simp
  ·exact qbI h
structure Fj(w:zb)(S:qb):Prop where
 len:∀{n A L T Q s I o},Eg n A->R w S T Q s.heap->VR w T s.heap (.iset I) o->Qa (fb pg w) A (call (.builtin "len") [o]) (PV w S L T s Q (.int (Ig I).length)) No s
 sorted:∀{n A L T Q s I o v G},Eg n A->R w S T Q s.heap->Tm S L T s.heap->VR w T s.heap (.iset I) o->cj ((Ig I).map V.int) Q=J (v,G)->Qa (fb pg w) A (call (.builtin "sorted") [o]) (PV w S L T s G v) No s
 ofTup:∀{n A L T Q s I is o},Eg n A->R w S T Q s.heap->VR w T s.heap (.t I) o->gi I=J is->is.all (λi=>decide (0<=i)&&decide (i<=2))=Z->Qa (fb pg w) A (call (.type "set") [o]) (PV w S L T s Q (.iset is)) No s
 ofList:∀{n A L T Q s i I is o},Eg n A->R w S T Q s.heap->VR w T s.heap (.ref i) o->tc Q i=J I->gi I=J is->is.all (λi=>decide (0<=i)&&decide (i<=2))=Z->Qa (fb pg w) A (call (.type "set") [o]) (PV w S L T s Q (.iset is)) No s
noncomputable def P6(b:Bi):ua:=match b with|.len=>.builtin "len"|.max=>.builtin "max"|.min=>.builtin "min"|.sum=>.builtin "sum"|.sorted=>.builtin "sorted"|.range=>.type "range"|.tuple=>.type "tuple"|.list=>.type "list"|.set=>.type "set"
theorem xN{d:Type}{c:Prop} [Decidable c]{a b:d}{x:Option d}(h:(if c then J a else x)=J b):(c/\a=b)\/x=J b:=by
 by_cases k:c
 ·rw[Fd k]at h;exact .inl ⟨k,ba h⟩
 ·rw[ge k]at h;exact .inr h
theorem EL{b:Bi}(h:HD f=J b):f=P6 b:=by
 induction f with
 |builtin n=>
  repeat (rcases xN h with⟨rfl,rfl⟩|h;exact rfl)
  exact ja h
 |type n=>
  repeat (rcases xN h with⟨rfl,rfl⟩|h;exact rfl)
  exact ja h
 |_=>exact ja h
theorem ve.one_of{h:qb}{N:List V}{W:List ua}(x:ve w T h N W){u:V}(e:Mine.Internal.one N=J u):∃o,W=[o]/\VR w T h u o:=by
 rw[kH e]at x;obtain⟨o,c,rfl,a,b⟩:=x.wF;exact⟨o,Gc _ b.wF,a⟩
theorem ve.two_of{h:qb}{N:List V}{W:List ua}(x:ve w T h N W){u:V×V}(e:two N=J u):∃o p,W=[o,p]/\VR w T h u.1 o/\VR w T h u.2 p:=by
 rw[kI e]at x;refine aa λj=>?_;obtain⟨o,k,rfl,a,c⟩:=x.wF;obtain⟨p,k,rfl,b,c⟩:=c.wF;exact j (⟨o,p,Gc (λd=>[o,p]++d) c.wF,a,b⟩)
section
variable {u:V} {o:ua} {N:List V} {W:List ua}
abbrev wD(w:zb)(S:qb)(A:Xb)(L:Ca)(T:List Ca)(s:Ea)(f:ua)(W:List ua)(b:Option (V×St)):Prop:=Ga (VR w) w S A L T s (call f W) b
theorem mS(j:Fj w S)(l:Eg n A)(b:R w S T Q s.heap)(x:ve w T s.heap N W):wD w S A L T s (.builtin "len") W (qR .len N Q):=
 Ga.map λv e=>re e λk p O=>bb p λu P c=>by
  obtain⟨o,rfl,a⟩:=x.one_of P;refine Bd O (aa λd=>?_)
  induction u using V.casesOn with
  |t I=>refine d ?_;refine Bd (ba c) ?_;exact rE b a|iset I=>refine d ?_;refine Bd (ba c) ?_;exact j.len l b a|ref i=>refine d ?_;exact re c λI q X=>X▸zB b q a|_=>refine d ?_;exact ja c
theorem IL{g:Int->Int->Int}(k:∀a b c u,Qa (fb pg w) A (call f [.int a c,.int b u]) (PV w S L T s Q (.int (g a b))) No s)(x:ve w T s.heap N W):wD w S A L T s f W (eD Q ((two N).bind (qaK g))):=
 Ga.map λv e=>bb e λp l O=>re O λc P R=>bb P λi X e6=>re e6 λj e7 e8=>by
  refine aa λd=>?_;obtain⟨o,q,rfl,a,b⟩:=x.two_of l;refine d ?_;clear d;obtain⟨_,rfl⟩:=a.wZ X;obtain⟨_,rfl⟩:=b.wZ e7;exact Bd R (Bd e8 (k _ _ _ _))
theorem qS(c:Eg n A)(b:R w S T Q s.heap)(x:ve w T s.heap N W):wD w S A L T s (.builtin "sum") W (qR .sum N Q):=
 Ga.map λv e=>re e λis d j=>bb d λI k l=>bb k λi p q=>bb p λu O P=>by
  obtain⟨o,rfl,a⟩:=x.one_of O;rw[Sh P]at a;exact Bd j (j2 c b q l a)
theorem KD(X:Fj w S)(hm:S.get? sysModules≠Y)(P:Eg n A)(b:R w S T Q s.heap)(l:Tm S L T s.heap)(x:ve w T s.heap N W):wD w S A L T s (.builtin "sorted") W (qR .sorted N Q):=
 Ga.opt λI e1=>bb e1 λu e3 j=>by
  obtain⟨o,rfl,a⟩:=x.one_of e3;intro v G e;refine aa λd=>?_
  induction u using V.casesOn with
  |iset ys=>refine d ?_;rw[<-ba j]at e;exact X.sorted P b l a e|ref i=>
   refine d (bb j λob q k=>(aa λd=>?_))
   induction ob with
   |list ys=>refine d ?_;exact bb k λis e6 e7=>re e7 λc p O=>zw b l (by unfold tc;refine U q ?_;rfl) e6 a (gb (zf p)) (by refine U O ?_;exact e)|idict es=>refine d ?_;exact re k λc p O=>yw P hm b l q a (by have:=gb (zf p);rwa [wa]at this) (by refine U O ?_;exact e)|_=>refine d ?_;exact ja k
  |_=>refine d ?_;exact ja j
theorem TI(d:R w S T Q s.heap)(x:ve w T s.heap N W):wD w S A L T s (.type "range") W (qR .range N Q):=
 Ga.map λv e=>by
  induction N using ma with
  |nil=>exact ja e|cons u N=>
   induction N using ma with
   |nil=>
    refine bb e λb l q=>re q λj j O=>?_;obtain⟨o,rfl,a⟩:=x.one_of rfl;obtain⟨_,rfl⟩:=a.wZ l;exact O▸SJ d
   |cons u' N=>
    induction N using ma with
    |cons j k=>exact ja e|nil=>
     refine bb e λb l q=>bb q λc O k=>re k λj j P=>?_;obtain⟨o,p,rfl,a,X⟩:=x.two_of rfl;obtain⟨_,rfl⟩:=a.wZ l;obtain⟨_,rfl⟩:=X.wZ O;exact P▸TJ d
theorem Ms{a b:Int}{I:List V}(e:qC a b=J I):(-1000<a/\a<1000/\ -1000<b/\b<1000)/\I=Lo a b:=re e λu c d=>⟨d5 c,d.symm⟩
theorem UI(l:Eg n A)(b:R w S T Q s.heap)(x:ve w T s.heap N W):wD w S A L T s (.type "tuple") W (qR .tuple N Q):=
 Ga.opt λI p=>bb p λu q d=>by
  obtain⟨o,rfl,a⟩:=x.one_of q;intro v G e;refine aa λc=>?_
  induction u using V.casesOn with
  |t j=>refine c ?_;exact lA b (ba d▸a) e|ref i=>refine c ?_;exact vx b d a e|rng i j=>
   refine c (aa λc=>?_);obtain⟨k,rfl⟩:=Ms d;exact c (Hw l b a k.1 k.2.1 k.2.2.1 k.2.2.2 e)
  |_=>refine c ?_;exact ja d
theorem HL(b:R w S T Q s.heap)(x:ve w T s.heap N W):wD w S A L T s (.type "list") W (qR .list N Q):=
 Ga.opt λI c=>bb c λu d j=>by
  obtain⟨o,rfl,a⟩:=x.one_of d;intro v G e;exact DB b (Vl j▸a) e
theorem pS(k:Fj w S)(l:Eg n A)(b:R w S T Q s.heap)(x:ve w T s.heap N W):wD w S A L T s (.type "set") W (qR .set N Q):=
 Ga.map λv e=>bb e λis O P=>bb O λI X p=>bb X λu e5 d=>re P λc q e8=>by
  obtain⟨o,rfl,a⟩:=x.one_of e5;refine Bd e8 (aa λj=>?_)
  induction u using V.casesOn with
  |t ys=>refine j ?_;exact k.ofTup l b a (ba d▸p) (zf q)|ref i=>refine j ?_;exact k.ofList l b a d p (zf q)|_=>refine j ?_;exact ja d
theorem Q6(j:Fj w S)(k:S.get? sysModules≠Y)(d:Eg n A)(c:R w S T Q s.heap)(l:Tm S L T s.heap)(x:ve w T s.heap N W):wD w S A L T s f W (qdC f N Q):=
 Ga.opt λb e=>by
  refine U (EL e) ?_
  induction b with
  |len=>exact mS j d c x|max=>exact IL (λu u u u=>NZ d c) x|min=>exact IL (λu u u u=>SZ d c) x|sum=>exact qS d c x|sorted=>exact KD j k d c l x|range=>exact TI c x|tuple=>exact UI d c x|list=>exact HL c x|set=>exact pS j d c x
end
noncomputable def TN(b:Lm):Bb:=match b with|.append=>"append"|.extend=>"extend"|.insert=>"insert"|.index=>"index"|.count=>"count"
theorem RN{b:Bb}(h:Vt b=J m):b=TN m:=by
 simp only[Vt]at h
 repeat' split at h
 all_goals first|exact ja h|exact(by assumption:b=_).trans (Gc TN (ba h))
section
variable {o:ua} {i:Nat} {N:List V} {W:List ua} {I:List V}
theorem zT(b:R w S T Q s.heap)(l:Tm S L T s.heap)(q:tc Q i=J I)(d:VR w T s.heap (.ref i) o)(x:ve w T s.heap N W):wD w S A L T s (.builtin "list.append") (o::W) (JT .append i N Q I):=
 Ga.map λX e=>bb e λu j k=>re k λc O P=>by
  obtain⟨p,rfl,a⟩:=x.one_of j;exact Bd P (DI b l q d a (Ni (zf O)))
theorem GT(X:Eg n A)(b:R w S T Q s.heap)(l:Tm S L T s.heap)(q:tc Q i=J I)(O:VR w T s.heap (.ref i) o)(x:ve w T s.heap N W):wD w S A L T s (.builtin "list.extend") (o::W) (JT .extend i N Q I):=
 Ga.map λys e=>bb e λzs e1 e2=>bb e1 λu e5 k=>re e2 λc P e4=>by
  obtain⟨p,rfl,a⟩:=x.one_of e5;refine Bd e4 (aa λd=>?_)
  induction u using V.casesOn with
  |ref j=>refine d ?_;clear d;exact tv b l q k O a (Ni (zf P))|rng lo hi=>
   refine d ?_;clear d;obtain⟨j,rfl⟩:=Ms k;exact Ut X b l q O a j.1 j.2.1 j.2.2.1 j.2.2.2 (Ni (zf P))
  |_=>refine d ?_;clear d;exact ja k
theorem IT(b:R w S T Q s.heap)(l:Tm S L T s.heap)(q:tc Q i=J I)(j:VR w T s.heap (.ref i) o)(x:ve w T s.heap N W):wD w S A L T s (.builtin "list.insert") (o::W) (JT .insert i N Q I):=
 Ga.map λys e=>bb e λu O P=>bb P λk X e4=>re e4 λc e5 e6=>by
  refine aa λnq=>?_;obtain⟨p,p',rfl,a,a'⟩:=x.two_of O;obtain⟨_,rfl⟩:=a.wZ X;refine nq ?_;have d:=Aa.mp (zf e5);have z1:=Ml d.1;exact Bd e6 (oJ b l q j a' z1.1 z1.2 (Ni d.2))
theorem HT(b:R w S T Q s.heap)(q:tc Q i=J I)(O:VR w T s.heap (.ref i) o)(x:ve w T s.heap N W):wD w S A L T s (.builtin "list.index") (o::W) (JT .index i N Q I):=
 Ga.map λv e=>bb e λk P X=>bb P λu e3 e4=>bb X λis e5 e6=>re e6 λj e7 e8=>re e7 λc e9 l=>by
  obtain⟨p,rfl,a⟩:=x.one_of e3;obtain⟨_,rfl⟩:=a.wZ e4;have d:=Aa.mp (zf e9);have z1:=Aa.mp d.1;exact Bd e8 (Bd l (lN b q e5 O z1.1 z1.2 (gb d.2)))
theorem DT(b:R w S T Q s.heap)(q:tc Q i=J I)(c:VR w T s.heap (.ref i) o)(x:ve w T s.heap N W):wD w S A L T s (.builtin "list.count") (o::W) (JT .count i N Q I):=
 Ga.map λv e=>bb e λk d j=>bb d λu l O=>re j λis P X=>by
  obtain⟨p,rfl,a⟩:=x.one_of l;obtain⟨_,rfl⟩:=a.wZ O;exact Bd X (iM b q P c)
end
noncomputable def KT(b:Lm):String:=match b with|.append=>"list.append"|.extend=>"list.extend"|.insert=>"list.insert"|.index=>"list.index"|.count=>"list.count"
theorem ZU(m:_):Slot "list" (TN m) (KT m):=match m with|.append=>PySem.F.slot_list_append|.extend=>Kk|.insert=>PySem.F.slot_list_insert|.index=>PySem.F.slot_list_index|.count=>PySem.F.slot_list_count
theorem xV(m:_):typeOf (Qi (KT m))=pure (Ce "method_descriptor"):=match m with|.append=>PySem.F.type_list_append|.extend=>PySem.F.type_list_extend|.insert=>PySem.F.type_list_insert|.index=>PySem.F.type_list_index|.count=>PySem.F.type_list_count
theorem FZ{i:Nat}{o:ua}{N:List V}{W:List ua}(d:Eg n A)(b:R w S T Q s.heap)(l:Tm S L T s.heap)(c:VR w T s.heap (.ref i) o)(x:ve w T s.heap N W):wD w S A L T s (.builtin (KT m)) (o::W) ((tc Q i).bind (JT m i N Q)):=
 Ga.opt λI q=>by
  induction m with
  |append=>exact zT b l q c x|extend=>exact GT d b l q c x|insert=>exact IT b l q c x|index=>exact HT b q c x|count=>exact DT b q c x
end
section
variable {f:ua} {W:List ua} {C:List V} {x D:Bb} {N:Nm} {I:List Expr}
variable [q:Av]
theorem Eg.less{n m:Nat}{A:Xb}(a:Eg n A)(h:m<=n):Eg m A:=⟨a.hh,by have:=a.depth;lia,by have:=a.units;lia⟩
theorem nK(a:Ca)(rest:List ua):(d4 "type.__call__" ⟨.ref a::rest,[]⟩).weight=1:=by kernel_rfl
theorem sQ(a:Ca)(rest:List ua):(d4 "type.__call__" ⟨.ref a::rest,[]⟩).cUnits=1:=by kernel_rfl
theorem Eg.under{n:Nat}{A:Xb}(a:Eg (n+1) A)(b:Ca)(rest:List ua):Eg n (A.under (.builtin "type.__call__" ⟨.ref b::rest,[]⟩)):=
 ⟨a.hh,by show A.depth+_+_+_<=_;refine U (nK _ _) ?_;have:=a.depth;lia,by show A.units+_+_+_<=_;refine U (sQ _ _) ?_;have:=a.units;lia⟩
variable {w:zb} {P:qb} {A:Xb} {X:wj} {y:Ca->Prop} {r:List Bb} {lo:Nat} {u:Me} {K:Ve} {S:Bh} {n:Nat} {g:Gl} {F:List Ca} {Q E:St} {s:Ea} {v:V} {L:Ca} {z:Nat->List V->St->Option (V×St)}
theorem jm{a:ua->Ea->Prop}(h:ch (fb pg w) A (.call f ⟨W,[]⟩) (λb e=>∃d,b=.ok (.ret d)/\a d e) s):Qa (fb pg w) A (call f W) a No s:=
 Qw (Fc h λb e c=>by obtain⟨d,rfl,c⟩:=c;exact c)
theorem EE{F:List Ca}{a b c:Ca}(h:c∉F)(e:c≠a)(i:c≠b):c∉F++[a]++[b]:=λd=>by
 rcases Vb.mp d with d|d
 ·exact(Vb.mp d).elim h λd=>e (Ra.mp d)
 ·exact i (Ra.mp d)
theorem WN{Q:St}{p c:V×St}(h:yE Q p=J c):p.1=.none/\(.ref (Q.length+1),p.2)=c:=by
 obtain⟨a,b⟩:=p
 induction a using V.casesOn<;>first|exact ja h|exact⟨rfl,ba h⟩
theorem QT{a G:Nat}(B:Ek P K S)(CO:Zp P K S)(CF:Ci w P z n)(AK:Eg (n+1) A)(c:R w P F Q s.heap)(l:Tm P L F s.heap)(x:ve w F s.heap C W)(hg:S.init a=J G):
 Ga (VR w) w P A L F s (call (.ref a) W) ((z G (.ref (Q.length+1)::C) (Q++[.h [],.inst a Q.length])).bind (yE Q)):=λv E e=>bb e λp hc hm=>by
 refine aa λnq=>?_;obtain⟨c1,c2,c3⟩:=CO.init _ _ hg;obtain⟨m,hn⟩:=l.ns;refine nq ?_;clear nq;refine jm (make_K (Zi hn) vg (c.kin B) c1 c2 c3 λj k T F' N' x1 t=>?_);have Nd:=N' _ (oa _ sa);have Nx:=N' _ sa;have dL:k≠L:=Nd.2.1;have xL:j≠L:=Nx.2.1;have free:∀b,b≠L->k<=b->s.heap.get? b=Y:=λb bL x2=>by
  induction d:s.heap.get? b with
  |none=>rfl|some o=>exact zc (rb (x1 _ (xe.mpr ⟨bL,d⟩)) x2) (fc _)
 have xn:s.heap.get? j=Y:=free j xL (vd t);obtain⟨r1,k1⟩:=c.newL l (o:=.h []) hn F'.ns (λb h nb e=>(N' (b,h) (oa _ (oa _ (xe.mpr ⟨nb,e⟩)))).1:∀b h,b≠L->s.heap.get? b=J h->T.get? b=J h) (free k dL (Gb _)) ⟨[],0,Nd.1,.nil,iW,Zc _⟩;have k2:=k1.add xn;have i:VR w (F++[k]++[j]) T (.ref (Q.length+1)) (.ref j):=.ref (by refine Bd c.len ?_;exact(Ma (by refine U Ha ?_;exact Gb _)).trans (by refine U Ha (U Ei (U (jh _) ?_));rfl));rw[show Q++[O.h [],O.inst a Q.length]=Q++[O.h []]++[O.inst a Q.length]from by refine U (Cc _ _ _) ?_;rfl]at hc;refine Fc (CF _ (AK.under a W) G _ (.ref j::W) _ _ {s with heap:=T} _ _ L (r1.add (o:=.inst a Q.length) (λd=>(Vb.mp d).elim (Jf c xn) λd=>fc _ (Ra.mp d▸t):j∉F++[k]) (Sd c xn) ⟨k,(by refine U (Cc _ _ _) (Bd c.len ?_);exact(Ma (Gb _)).trans (by refine U (jh _) ?_;rfl)),Nx.1⟩) (EE l.out dL.symm xL.symm) (.cons i (k2.vrs x)) hc) λd s' h=>?_;obtain⟨x5,rfl,x4,t3,k3,r3,x3⟩:=h;obtain⟨e0,e4⟩:=WN hm;obtain⟨rfl,rfl⟩:=Ta e4;rw[e0]at x3;exact⟨x3.wF,_,rfl,x4,t3,k2.trans k3,r3,k3.vr i⟩
theorem QL(B:Ek P K S)(d:Zp P K S)(h:Fj w P)(CF:Ci w P z n)(c:Eg (n+1) A)(b:R w P F Q s.heap)(l:Tm P L F s.heap)(x:ve w F s.heap C W):
 Ga (VR w) w P A L F s (call f W) (ZF S z (.k f) C Q):=by
 induction f with
 |ref a=>
  show Ga _ _ _ _ _ _ _ _ (match S.init a with|some g=>(z g (.ref (Q.length+1)::C) (Q++[.h [],.inst a Q.length])).bind (yE Q)|none=>z a C Q)
  induction i:S.init a with
  |some e=>exact QT B d CF c b l x i|none=>exactλv E e=>jm (CF A (c.less (te n)) _ _ _ _ _ s _ _ L b l.out x e)
 |_=>exact Q6 h B.mods c b l x
theorem qs(k:Uy P K g)(l:g.glob x=J f)(p:X.kindOf x=J .globalImplicit)(t:(x==("__debug__":Bb))=ta):
 uc w P A X y r lo u (yc (.Name x N) X) (λQ=>J (.k f,Q)):=λF Q s a c=>Ga.ret (wpAny_Name (by
 refine U (loadName_read c.kind p) (aa λd=>?_);obtain⟨_,m,B,h⟩:=k.glob x f l;refine d ?_;have j:s.heap.Ns X.globals m:=by refine U c.globals ?_;exact B.keeps λb o e=>a.wK b o e
 refine aa λd=>?_;rcases h with h|⟨h,O,i,G⟩
 ·exact d (W4 j h (PV.wU a (.k f)))
 ·refine d ?_
  exact IZ j h (by refine U c.builtins ?_;exact i.keeps λb o e=>a.wK b o e) G (PV.wU a (.k f))) t)
theorem bz{s:Ea}{F:List Ca}{Q:St}{first:List ua}{G:St->Option (List V×St)}{k:List V×St->Option (V×St)}(B:Ek P K S)(j:yB K f=Z)(m:∀e∈I,∀x p,e≠md x p)(o:Ti w P A X y r lo u (gj (qg N (starEach I X))) G)(a:R w P F Q s.heap)(b:Lc w P X y r lo u F s.heap)
 (h:∀W C d i c,KX X.locals F s.heap i.heap d->R w P d c i.heap->Tm P X.locals d i.heap->ve w d i.heap C W->Ga (VR w) w P A X.locals d i (call f (first++W)) (k (C,c))):
 Ga (VR w) w P A X.locals F s (callWith N f first (qg N (starEach I X)) []) ((G Q).bind k):=λv E e=>bb e λp t O=>jq j m (Da (o F Q s a b _ _ t) (λW i T=>by
 obtain⟨d,t2,k2,l,x2⟩:=T;exact⟨l.kin B,Da (h W _ d i _ k2 l (b.kx a k2).lok x2 v E O) (λc c=>PR.after t2 k2) λc c x=>x⟩) λc c x=>x)
theorem WI{p:Nm}{G:St->Option (List V×St)}(B:Ek P K S)(i:Zp P K S)(d:Uy P K g)(j:Fj w P)(CF:Ci w P z n)(k:Eg (n+1) A)
 (h:g.glob x=J f)(l:X.kindOf x=J .globalImplicit)(m:(x==("__debug__":Bb))=ta)(o:∀e∈I,∀x p,e≠md x p)(t:Ti w P A X y r lo u (gj (qg N (starEach I X))) G):
 uc w P A X y r lo u (yc (.Call (.Name x p) I [] N) X) (λQ=>(G Q).bind λp=>ZF S z (.k f) p.1 p.2):=λF Q s a b v E e=>Call_Name rfl (Da (qs (w:=w) d h l m F Q s a b (.k f) Q rfl) (λO R T=>by
 obtain⟨x3,t1,k1,r1,x1⟩:=T;rw[(x1.wF:O=f)];exact Da (bz (s:=R) B (d.glob x f h).1 o t r1 (b.kx a k1) (λW C c s2 x4 k2 r2 l2 x2=>QL B i j CF k r2 l2 x2) v E e) (λc c=>PR.after t1 k1) λc c x=>x) λc c x=>x)
theorem Wv(a:I.length<29)(b:∀e∈I,∀x p,e≠md x p):methodCallForm (I.length+([]:List fL).length) (qg N (starEach I X)) (backToKw N (qfI [] X))=Z:=by
 have P:qg N (starEach I X)=I.map λe=>(ta,yc e X):=by
  refine U (Fm b) ?_;unfold qg;refine U Rd ?_;rfl
 refine U P ?_;have c:(I.map λe=>(ta,yc e X)).all (λp=> !p.1)=Z:=qd.mpr λp d=>by
  obtain⟨e,_,rfl⟩:=Qb.mp d
  rfl
 exact Aa.mpr ⟨Aa.mpr ⟨c,rfl⟩,decide_eq_true (oe a)⟩
inductive IR(w:zb)(S:Bh)(D:Bb)(ov:V)(Q:St):aW->Prop
 |fn (i c d:Nat) (I:List (Bb×V)) (f:Nat):ov=.ref i->ri Q i=J (c,d)->Uq Q d=J I->Qf I D=Y->S.meth c D=J f->IR w S D ov Q (.fn f ov)|lm (i:Nat) (xs:List V):ov=.ref i->tc Q i=J xs->IR w S D ov Q (.lm i)
theorem qP{l:V}{c:aW}(e:Zt S l D Q=J c):IR w S D l Q c:=bb e λi o p=>bb p λt m j=>by
 have a:=Sh o
 induction t with
 |inst B d=>
  refine bb j λI G h=>?_
  induction k:Qf I D with
  |some b=>rw[k]at h;exact ja h|none=>
   rw[k]at h;refine re h λf b O=>(Bd O (Bd a ?_));exact .fn i B d I f a (by unfold ri;refine U m ?_;rfl) G k b
 |list b=>refine Bd (ba j) ?_;exact .lm i b a (by unfold tc;refine U m ?_;rfl)|_=>exact ja j
theorem HJ{o:Expr}{ap:Nm}{j:St->Option (V×St)}{G:St->Option (List V×St)}(B:Ek P K S)(CO:Zp P K S)(CF:Ci w P z n)(AK:Eg (n+1) A)
 (hp:Ol o=Z)(hl:(ap.endLine==N.line)=Z)(x3:I.length<29)(hn:∀e∈I,∀x p,e≠md x p)(hF:uc w P A X y r lo u (yc o X) j)(hG:Ti w P A X y r lo u (gj (qg N (starEach I X))) G):
 uc w P A X y r lo u (yc (.Call (.Attribute o D ap) I [] N) X) (λQ=>(j Q).bind λp=>(Zt S p.1 D p.2).bind λd=>(G p.2).bind λl=>fy z d D l.1 l.2):=λF Q s O R=>by
 refine U (qdB _ _ _ _ _ _ _) (U (Ru hp _) ((hF F Q s O R).bind (t:=λv=>Yj ap.atName>>=λa=>QZ o D ap N X v (I.length+([]:List fL).length) (qg N (starEach I X)) (backToKw N (qfI [] X))) (λo' ov x9 s1 x4 k1 r1 x1=>Ga.opt λd hr=>?_) λb h=>ga h));have E1:=R.kx O k1;intro v E e;refine ga (mc ?_);unfold QZ;refine U (Wv x3 hn) (U (by unfold uu;simp[hl]:uu Z o X ap N=pure N) (ga (dc (aa λp=>?_))));cases (qP hr:IR w S D ov x4 d)with
 |fn i c' h y1 f l e1 e2 hs hm=>
  refine p ?_;clear p;rw[l]at x1;refine aa λp=>?_;obtain⟨k,dx,x8,m,rfl,_,_,_,_,p2,_,_,b⟩:=r1.inst e1 e2 x1;obtain⟨m1,m2,m3,m4,m5⟩:=CO.meth _ _ _ hm;refine p ?_;clear p;refine method_fn (r1.kin B) b m1 m2 m3 m4 ?_ (ga (Ba (bz (f:=.ref f) (first:=[.ref k]) B m5 hn hG r1 E1 (λW C x5 s2 x6 k2 r2 l2 x2 v E e=>jm (CF A (AK.less (te n)) f (ov::C) _ _ _ s2 _ _ X.locals r2 l2.out (.cons (l▸k2.vr x1) x2) e)) v E e)));refine aa λp=>?_;rcases p2.wJ (m:=m) D with⟨h1,h2⟩|⟨x,c,h1,h2,h3⟩
  ·refine p ?_
   clear p;simp[shadowIn,h2]
  ·refine p ?_
   clear p;rw[h1]at hs;exact ja hs.symm
 |lm i xs l e1=>
  refine p ?_;clear p;rw[l]at x1;refine bb e λb z1 z2=>(bb z2 λm m1 a=>(aa λp=>?_));obtain⟨k,y2,c,rfl,ea,q1,q2,q3⟩:=r1.list e1 x1;refine p ?_;clear p;exact getMethod_builtin (T:="list") ⟨_,q1,rfl⟩ PySem.F.plainAttrs_list (RN m1▸ZU m) (xV m) (λh x7=>by cases x7;exact⟨_,q1,rfl⟩) (ga (Ba (bz (f:=.builtin (KT m)) (first:=[.ref k]) B rfl hn hG r1 E1 (λW C x5 s2 x6 k2 r2 l2 x2=>Ga.opt λh m2=>by
   refine Bd (ba (m1.symm.trans m2)) ?_;exact FZ AK r2 l2 (k2.vr x1) x2) v E e)))
end
section
variable {D:Ca} {k:Int} {x:Bb} {p C:Nm} {F:Ea} {N:Expr}
variable [u:Av]
section
variable {w:zb} {Q h h2 I:qb} {T W:List Ca} {S:St} {L:Ca}
theorem KX.but(k:KX L T h h2 W)(f:h.get? D=Y)(c:∀b x,b≠D->h2.get? b=J x->I.get? b=J x):KX L T h I W:=by
 have b:∀a o,h.get? a=J o->a≠D:=λa o e q=>by subst q;rw[f]at e;exact ja e
 refine⟨⟨k.pre,k.fresh,λa o e j l=>c a o (b a o e) (k.keep a o e j l),λa o e i=>c a o (b a o e) (k.imm a o e i),λa e=>?_⟩,λm n=>?_⟩
 ·obtain⟨o,r⟩:=Oa.mp e
  obtain⟨B,d⟩:=Oa.mp (k.live a e);refine U (c a B (b a o r) d) ?_;rfl
 ·refine aa λd=>?_
  obtain⟨R,_,_,r,_⟩:=id n;obtain⟨o,B,G,O,N⟩:=k.ns m n;exact d (⟨o,B,G,c L o (b L _ r) O,N⟩)
end
variable {w:zb} {Q:qb} {A:Xb} {X:wj} {eo:Ca->Prop} {z:List Bb} {lo:Nat} {E:Me} {K:Ve} {y:Bh} {n:Nat} {g:Gl} {T:List Ca} {S P:St} {s:Ea} {v:V} {L:Ca} {t:Nat->List V->St->Option (V×St)}
inductive WK [u:Av](w:zb)(k:Int)(v:V)(P:St)(σ1:St)(o':ua)(ρ1:List Ca)(h1:qb):Prop
 |mk:∀(a:Ca)(vs:List ua)(xs:List V),o'=.ref a->h1.IsList a vs.toArray->xs.length<=4096->ve w ρ1 h1 xs vs->(0<=k/\k<1000)->cj (xs.take k.toNat) σ1=J (v,P)->WK w k v P σ1 o' ρ1 h1
theorem IS{f:V}{o':ua}(B:Ek Q K y)(r:R w Q T S s.heap)(x1:VR w T s.heap f o')(e:HS y f k S=J (v,P)):WK w k v P S o' T s.heap:=by
 induction f using V.casesOn with
 |k c=>
  induction c with
  |ref a=>
   exact bb e λd j e=>bb e λb l N=>by
    refine aa λq=>?_;obtain⟨i,G,O,m⟩:=B.scr a d j;refine q ?_;exact⟨a,G,d.map V.int,x1.wF,(let ⟨o,e,c⟩:=O;⟨o,r.wK _ _ e,c⟩),by refine U (wa _) ?_;exact i,gr m,d5 l,N⟩
  |_=>exact ja e
 |ref i=>
  exact bb e λd j e=>bb e λb l N=>by
   refine aa λq=>?_;obtain⟨a,G,m,rfl,ea,O,c,g3⟩:=r.list j x1;exact q (⟨a,G,d,rfl,we O,c,g3,d5 l,N⟩)
 |_=>exact ja e
theorem KJ(h:qb):h.get? (h.objs.size+1)=Y:=by
 induction q:h.get? (h.objs.size+1)with
 |none=>rfl|some a=>exact zc (gc q) (Vd.mpr (te _))
theorem mM(B:Ek Q K y){l R:Nm}{kd:Nat}{c:St->Option (V×St)}(hf:uc w Q A X eo z lo E (yc (.Name x p) X) c):
 uc w Q A X eo z lo E (yc (.Subscript (.Name x p) (.Slice Y (J (.Constant (.int k) kd l)) Y R) C) X) (λS=>(c S).bind λp=>HS y p.1 k p.2):=λT S s r d v P e=>bb e λp e1 N=>wpAny_Subscript_list_slice (Da (hf T S s r d _ _ e1) (λo' i l=>by
 obtain⟨x2,t1,k1,m,x1⟩:=l;refine U (evalPart_none _) (U (evalPart_some _ _) (Ba (J3 (aa λq=>?_))));obtain⟨a,G,xs,rfl,g1,g2,O,hk,e'⟩:=IS (s:=i) B m x1 N;refine q ?_;clear q;refine⟨a,G.toArray,Y,J k,rfl,g1,O.fit g2,.none,.int k _,?_⟩;obtain⟨j,rfl⟩:=Int.eq_ofNat_of_zero_le hk.1;refine U (slicePick_upto' _ _) ?_;have f:=La (i.heap.push {cls:=.type "slice",data:=.fields #[.none,.int (j:Int) i.toks,.none]}) (o:=listOf ((G.take j).toArray) 0) rfl;rw[pd]at f;exact PR.after t1 k1 (Dy (s:=i) (tk':=i.toks+1) m (λb x e=>ya _ (ya _ e)) (KJ i.heap) f (O.take j) e')) λf f x=>x) λf f=>rfl
theorem qm{b:Type} [DecidableEq b](a:PySem.KeyKind pg w b):Hf.IsDictOf a []:=⟨#[],0,⟨rfl,rfl,rfl⟩,rfl,λe c=>(nomatch c),.nil,.nil⟩
theorem SD:uc w Q A X eo z lo E (yc (.Dict [] [] C) X) (λS=>J (.ref S.length,S++[.idict []])):=λT S s r b=>Ga.ret (wpAny_Dict_empty (
 have c:=r.new' (L:=X.locals) (a:=s.heap.objs.size) (o:=.idict []) (λa o e=>ya _ e:∀a o,s.heap.get? a=J o->(s.heap.push Hf).get? a=J o) (Fb _) ⟨Hf,[],La _ rfl,qm _,rfl,.nil,Zc _⟩
 ⟨_,rfl,c.2,c.1,.ref (Gr r)⟩))
theorem Ah.upd{s:Ea}{I:qb}{k:Nat}(a:Ah s F):Ah s {F with heap:=I,toks:=k}:=Ah.trans a rfl
theorem Ah.past{s:Ea}{I:qb}{k:Nat}(a:Ah {s with heap:=I,toks:=k} F):Ah s F:=Ah.trans (s':={s with heap:=I,toks:=k}) rfl a
theorem dB{o:O}{h2 I:qb}{W:List Ca}{c:St}{tk:Nat}(st:Ah s F)(r:R w Q T S s.heap)(f:s.heap.get? D=Y)(k:KX L T s.heap h2 W)(j:R w Q W c h2)(d:D∉W)(i:∀x,h2.get? D=J x->¬Ih x)
 (l:∀b x,b≠D->h2.get? b=J x->I.get? b=J x)(m:OR w (W++[D]) I o D):PV w Q L T s (c++[o]) (.ref c.length) (.ref D) {F with heap:=I,toks:=tk}:=
 have b:=Sd r f;have B:R w Q W c I:=j.beside (wr:=λa=>a=D) (λa o n e=>l a o n e) λa q=>q▸⟨d,b,i⟩
 ⟨_,st.upd,(k.but f l).add f,B.add d b m,.ref (Gr j)⟩
theorem KX.after_push{o:pD}{h2:qb}{W:List Ca}(k:KX L T (s.heap.push o) h2 W):KX L T s.heap h2 W:=(KX.wI λa a e=>ya _ e).trans k
theorem dy{h2:qb}{W:List Ca}(r:R w Q T S s.heap)(l:Tm Q L T s.heap)(k:KX L T (s.heap.push Hf) h2 W):s.heap.objs.size∉W/\h2.get? s.heap.objs.size=J Hf:=by
 have c:s.heap.get? s.heap.objs.size=Y:=Fb _;have b:(s.heap.push Hf).get? s.heap.objs.size=J Hf:=La _ rfl;refine aa λd=>?_;obtain⟨m,o,_,_,e,_⟩:=l.ns;refine d ?_;have a:s.heap.objs.size∉T:=Jf r c;exact⟨λq=>(k.fresh _ q).elim a λq=>(by rw[b]at q;exact ja q.symm),k.keep _ _ b a λq=>by rw[<-q,c]at e;exact ja e⟩
theorem sj{h2:qb}(e:h2.get? D=J Hf):∀x,h2.get? D=J x->¬Ih x:=λx q=>by
 refine Bd (ba (e.symm.trans q)) ?_;simp[Ih,Hf]
theorem TD{c G:St->Option (V×St)}(hf:uc w Q A X eo z lo E (yc (.Name x p) X) c)(hg:uc w Q A X eo z lo E (yc N X) G):
 uc w Q A X eo z lo E (yc (.Dict [J (.Name x p)] [N] C) X) (λS=>(c S).bind λp=>(G p.2).bind λq=>jG p.1 q.1 q.2):=λT S s r d v P e=>bb e λp e1 N=>bb N λq e3 e4=>XN e4 λa ea=>by
 have m:∀a o,s.heap.get? a=J o->(s.heap.push Hf).get? a=J o:=λa o e=>ya _ e;refine qbd (knd:=kg pg w) rfl rfl (λq=>zc q (Ac _ _)) (gb rfl) (Wt (Da (hf T S {s with heap:=s.heap.push Hf} (r.wI m) (d.wI r m) _ _ e1) (λkv s1 p1=>?_) λf f x=>x));obtain⟨B,t1,k1,r1,x1⟩:=p1;refine Da (hg B _ _ r1 ((d.wI r m).kx (r.wI m) k1) _ _ e3) (λR F p2=>qdU ?_) λf f x=>x;refine aa λO=>?_;obtain⟨W,t2,k2,r2,x2⟩:=p2;have l:=k1.trans k2;have i:=dy r d.lok l;obtain⟨j,rfl⟩:=x1.wZ ea;refine O (⟨[(a,R)],⟨En a j,rfl,trivial⟩,⟨Hf,_,_,i.2,(qm (kg pg w)).choose_spec.choose_spec⟩,λI hd sb=>?_⟩);refine aa λO=>?_;obtain⟨o,f1,d1⟩:=Nf.mp hd;refine O ?_;exact dB (h2:=F.heap) (tk:=F.toks+1) (t1.past.trans t2) r (Fb _) (KX.after_push l) r2 i.1 (sj i.2) (λb x n e=>(sb.2 b n).trans e)
  ⟨o,[(a,R)],f1,d1,rfl,.one (x2.mono (Hc _ _) (zq sb i.2 (sj i.2 _ i.2))),gb rfl⟩
theorem UD{a b:Bb}{ka kb:Nat}{pa pb:Nm}{O:Expr}{c G:St->Option (V×St)}(j:a≠b)(hf:uc w Q A X eo z lo E (yc O X) c)(hg:uc w Q A X eo z lo E (yc N X) G):
 uc w Q A X eo z lo E (yc (.Dict [J (.Constant (.str a) ka pa),J (.Constant (.str b) kb pb)] [O,N] C) X) (λS=>(c S).bind λp=>(G p.2).bind λq=>kG (.str a) (.str b) p.1 q.1 q.2):=λT S s r d v P e=>bb e λp O N=>bb N λq e3 R=>by
 replace R:(if a=b then Y else J (V.ref q.2.length,q.2++[.h [(a,p.1),(b,q.1)]]))=J (v,P):=R;rw[ge j]at R;have hk:∀a o,s.heap.get? a=J o->(s.heap.push Hf).get? a=J o:=λa o e=>ya _ e;refine qbd (knd:=fe pg w) rfl rfl (λq=>zc q (Ac _ _)) (gb rfl) (Wt (Pw ?_));have E1:=d.wI r hk;refine Da (hf T S {s with heap:=s.heap.push Hf,toks:=s.toks+1} (r.wI hk) E1 _ _ O) (λxl s1 p1=>Wt (Pw ?_)) λf f x=>x;obtain⟨x3,t1,k1,r1,x1⟩:=p1;refine Da (hg x3 _ {s1 with toks:=s1.toks+1} r1 (E1.kx (r.wI hk) k1) _ _ e3) (λyl F p2=>qdU ?_) λf f x=>x;obtain⟨W,t2,k2,r2,x2⟩:=p2;have l:=k1.trans k2;have i:=dy r d.lok l;refine⟨[(a,xl),(b,yl)],⟨Ak a _,rfl,Ak b _,rfl,trivial⟩,⟨Hf,_,_,i.2,(qm (fe pg w)).choose_spec.choose_spec⟩,λI hd sb=>?_⟩;refine aa λnq=>?_;obtain⟨o,o1,d1⟩:=Nf.mp hd;have m:=zq sb i.2 (sj i.2 _ i.2);rw[show merged ([]:List (Bb×ua)) [(a,xl),(b,yl)]=[(a,xl),(b,yl)] by simp[merged,stored,j]]at d1;obtain⟨B,m',rfl,x4⟩:=mG (w:=w) (ρ:=W++[s.heap.objs.size]) (h:=I) (es:=[(a,p.1),(b,q.1)]) d1 rfl (.cons ((k2.vr x1).mono (Hc _ _) m) (.one (x2.mono (Hc _ _) m)));obtain⟨rfl,rfl⟩:=Ta (ba R);refine nq ?_;exact dB (h2:=F.heap) (tk:=F.toks+2) (t1.past.trans t2.past) r (Fb _) (KX.after_push l) r2 i.1 (sj i.2) (λb x n e=>(sb.2 b n).trans e)
  ⟨B,m',o1,x4,by simp[j],gb rfl⟩
end
section
variable {x:Bb} {i:Nat} {T:ua}
variable [E:Av]
inductive PA(w:zb)(Q:qb)(X:wj)(N:Ca->Prop)(S:List Bb)(lo:Nat)(W:List Ca)(s:Ea)(I:St)(O:Me)(s':Ea):Prop
 |mk:Ah s s'->Kp N W s.heap s'.heap W->R w Q W I s'.heap->Lc w Q X N S lo O W s'.heap->PA w Q X N S lo W s I O s'
variable {w:zb} {Q:qb} {A:Xb} {X:wj} {N:Ca->Prop} {S:List Bb} {lo:Nat} {O:Me} {K:Ve} {G:Bh} {n:Nat} {g:Gl} {W:List Ca} {I F:St} {s:Ea} {v:V} {L:Ca}
theorem Wq{S:List Bb}{y:Bb}(a:xc S x=J i)(b:xc S y=J i):x=y:=ba ((Qj a).symm.trans (Qj b))
theorem Gz{j:Nat}{v v':V}{P:Prop}(e:(O.set i (J v))[j]?=J (J v'))(h1:i=j->v=v'->P)(h2:i≠j->O[j]?=J (J v')->P):P:=by
 rw[Zk]at e
 split at e
 ·rename_i q
  split at e
  ·exact h1 q (ba (ba e))
  ·exact ja e
 ·rename_i q;exact h2 q e
theorem Lc.put{h:qb}(f:Lc w Q X N S lo O W s.heap)(p:Kp N W s.heap h W)(l:∀c v,s.heap.IsCell c v->∃e,h.IsCell c e)
 (q:∃m,h.Ns X.locals m/\∀(x:Bb)(j:Nat)(u:V),xc S x=J j->X.kindOf x=J .local->(O.set i (J v))[j]?=J (J u)->∃T,m x=J T/\VR w W h u T)
 (r:∀(x:Bb)(j:Nat)(u:V),xc S x=J j->(X.kindOf x=J .cell\/X.kindOf x=J .free)->(O.set i (J v))[j]?=J (J u)->∃c T,X.cells.lookup x=J c/\h.IsCell c (J T)/\VR w W h u T):Lc w Q X N S lo (O.set i (J v)) W h:=
 ⟨f.kind,f.globals,f.builtins,by refine U yb ?_;exact f.len,q,r,f.loc,λy k a b=>(by
  refine aa λd=>?_;obtain⟨c,v,z1,z2⟩:=f.has y k a b;obtain⟨e,o⟩:=l _ _ z2;refine d ?_;exact⟨c,e,z1,o⟩),f.apart,λy j a b=>(f.own y j a b).imp_right λd=>(by
  obtain⟨z,c,v,z1,z2,o⟩:=d;obtain⟨e,z4⟩:=l _ _ z2;exact⟨z,c,e,z1,z4,o⟩),f.eoh,λa e=>p.live a (f.eol a e)⟩
theorem TC(P:xc S x=J i)(hk:X.kindOf x=J .local)(r:R w Q W I s.heap)(f:Lc w Q X N S lo O W s.heap)(xv:VR w W s.heap v T):
 Qa (fb pg w) A (S9 X x T) (λd=>PA w Q X N S lo W s I (O.set i (J v))) No s:=by
 refine aa λk=>?_;obtain⟨m,C,hv⟩:=f.ns;refine k (wpAny_storeName_local hk C (λD hn l=>?_) (by simp[f.kind]));have p:∀a o,¬(a=X.locals)->s.heap.get? a=J o->D.get? a=J o:=λa o q e=>(l.2 a q).trans e;have t:Kp N W s.heap D W:=Kp.beside (wr:=λa=>a=X.locals) p λa q o e=>by
  refine aa λk=>?_;subst q;obtain⟨b,_,_,B,_⟩:=hn;refine k ?_;exact⟨Cg C e,f.loc.2.2,by refine U B ?_;rfl⟩
 have r':R w Q W I D:=r.beside (wr:=λa=>a=X.locals) p λa q=>by subst q;exact⟨f.loc.1,f.loc.2.1,λo e=>Cg C e⟩
 have d:∀c v,s.heap.IsCell c v->D.IsCell c v:=λc v x=>x.sameBut l λq=>by subst q;exact Ln C x
 refine⟨rfl,t,r',f.put t (λc v x=>⟨v,d c v x⟩) ⟨_,hn,λy j u a b e=>Gz e (λq q2=>?_) λq B=>?_⟩ λy j u a b e=>Gz e (λq q2=>?_) λq B=>?_⟩
 ·exact U (Wq a (q▸P)) (Bd q2 (⟨T,by simp,t.vr xv⟩))
 ·have:y≠x:=λz=>q (ba ((z▸P).symm.trans a))
  refine aa λk=>?_;obtain⟨h,z1,z2⟩:=hv y j u a b B;exact k (⟨h,by simp[this,z1],t.vr z2⟩)
 ·rw[Wq a (q▸P),hk]at b;rcases b with b|b<;>cases b
 ·obtain⟨c,h,z1,z2,z⟩:=f.cells y j u a b B
  exact⟨c,h,z1,d _ _ z2,t.vr z⟩
theorem nF{c:Ca}{v0:Option ua}(B:xc S x=J i)(hk:X.kindOf x=J .cell)(C:X.cells.lookup x=J c)(c2:s.heap.IsCell c v0)(c3:Q.get? c=Y)(c4:N c)(r:R w Q W I s.heap)(f:Lc w Q X N S lo O W s.heap)(xv:VR w W s.heap v T):
 Qa (fb pg w) A (S9 X x T) (λd=>PA w Q X N S lo W s I (O.set i (J v))) No s:=by
 refine aa λk=>?_;obtain⟨m,hm,hv⟩:=f.ns;refine k (wpAny_storeName_cell f.kind hk C c2 λD P h=>?_);have l:∀a o,¬(a=c)->s.heap.get? a=J o->D.get? a=J o:=λa o q e=>(h.2 a q).trans e;refine aa λk=>?_;obtain⟨oc,x1,x2⟩:=YI c2;refine k ?_;have cI:∀o,s.heap.get? c=J o->¬Ih o:=λo e=>ba (x1.symm.trans e)▸x2;have p:Kp N W s.heap D W:=Kp.beside (wr:=λa=>a=c) l λa q o e=>by
  subst q;obtain⟨b,t,_⟩:=P;exact⟨cI o e,c4,by refine U t ?_;rfl⟩
 have r':R w Q W I D:=r.beside (wr:=λa=>a=c) l λa q=>by subst q;exact⟨r.cellNot c2,c3,cI⟩
 refine⟨rfl,p,r',f.put p (λc' v x=>?_) ⟨m,hm.sameBut h λq=>Ln (v:=v0) hm (q▸c2),λy j u a b e=>Gz e (λq q2=>?_) λq t=>?_⟩ λy j u a b e=>Gz e (λq q2=>?_) λq t=>?_⟩
 ·by_cases q:c'=c
  ·exact⟨_,q▸P⟩
  ·exact⟨v,x.sameBut h q⟩
 ·rw[Wq a (q▸B),hk]at b;cases b
 ·obtain⟨d,z1,z2⟩:=hv y j u a b t
  exact⟨d,z1,p.vr z2⟩
 ·exact U (Wq a (q▸B)) (Bd q2 (⟨c,T,C,P,p.vr xv⟩))
 ·refine aa λk=>?_
  obtain⟨c',d,z1,z2,z3⟩:=f.cells y j u a b t;refine k ?_;exact⟨c',d,z1,z2.sameBut h (λz=>by
   subst z;have:=qfg f.apart (mem_of_lookup z1) (mem_of_lookup C);exact q (ba ((this▸B).symm.trans a))),p.vr z3⟩
theorem UC(b:xc S x=J i)(h:lo<=i)(r:R w Q W I s.heap)(a:Lc w Q X N S lo O W s.heap)(e:VR w W s.heap v T):
 Qa (fb pg w) A (S9 X x T) (λu=>PA w Q X N S lo W s I (O.set i (J v))) No s:=by
 refine aa λf=>?_;rcases a.own x i b h with d|⟨d,c,l,j,c2,c3,k⟩
 ·exact f (TC b d r a e)
 ·exact f (nF b d j c2 c3 k r a e)
theorem mh{p:Nm}(b:xc S x=J i)(c:lo<=i)(r:R w Q W I s.heap)(a:Lc w Q X N S lo O W s.heap)(d:VR w W s.heap v T):
 Qa (fb pg w) A (assign (.Name x p) X T) (λu=>PA w Q X N S lo W s I (O.set i (J v))) No s:=by
 refine U (arm_assign_Name _ _ _ _) ?_;unfold lS;exact ga (mc (ga (dc (BA (ga (Da (UC b c r a d) (λu u h=>BA h) λu u x=>x))))))
theorem PA.after{s1 a:Ea}(t:Ah s s1)(k:Kp N W s.heap s1.heap W)(x:PA w Q X N S lo W s1 I O a):PA w Q X N S lo W s I O a:=by
 obtain⟨b,c,d,e⟩:=x;exact⟨t.trans b,k.trans c,d,e⟩
theorem Mu:∀{k:List (Bb×Nm)}{is:List Nat}{h:List V}{d:List ua}{O f:Me}{s:Ea},(k.map λp=>xc S p.1)=is.map J->(∀i∈is,lo<=i)->R w Q W I s.heap->Lc w Q X N S lo O W s.heap->ve w W s.heap h d->ye is h O=J f->
 Qa (fb pg w) A (FI (k.map λp=>assign (.Name p.1 p.2) X) d) (λu=>PA w Q X N S lo W s I f) No s:=by
 intro k
 induction k with
 |nil=>
  intro is h d O f s l m r b x e;refine aa λc=>?_
  induction is using ma with
  |cons y z=>refine c ?_;clear c;exact zc l.symm (Ac _ _)|nil=>
   refine c ?_;clear c;refine aa λc=>?_
   induction h using ma with
   |cons y z=>refine c ?_;clear c;exact ja e|nil=>refine c ?_;clear c;rw[<-ba e,(x.wF:d=[])];exact Zn ⟨rfl,Kp.refl,r,b⟩
 |cons p k o=>
  intro is h d O f s l m r b x e;refine aa λc=>?_
  induction is using ma with
  |nil=>refine c ?_;clear c;exact zc l (Ac _ _)|cons i is=>
   refine c ?_;clear c;refine aa λc=>?_
   induction h using ma with
   |nil=>refine c ?_;clear c;exact ja e|cons v q=>
    refine c ?_;clear c;refine aa λc=>?_;obtain⟨a,as,rfl,t,y⟩:=x.wF;refine c ?_;clear c;replace e:(if i<O.length then ye is q (O.set i (J v))else Y)=J f:=e
    split at e
    ·exact Yn (Da (mh (Yd l) (m i sa) r b t) (λu s1 z=>by
      obtain⟨B,k1,C,D⟩:=z;exact Da (o (xd l) (λj P=>m j (oa _ P)) C D (k1.vrs y) e) (λu P j=>PA.after B k1 j) λu u x=>x) λu u x=>x)
    ·exact ja e
end
section
variable {i:Nat} {t:CT} {T:ua} {h h':qb} {I:Ca} {Q:It} {a b:Int}
variable [D:Av]
variable {w:zb} {G:qb} {A:Xb} {P:wj} {E:Ca->Prop} {lo:Nat} {S W:Me} {K:Ve} {C:Bh} {n:Nat} {g:Gl} {X:List Ca} {F B:St} {s:Ea} {v:V} {L:Ca} {N:Sc}
theorem Xl{x:Bb}(h:Ss N x=J i):xc N.sl x=J i:=bb h λu u h=>bb h λu u h=>h
theorem AG(h:free S i=Z):i<S.length:=by
 refine Nat.lt_of_not_le λl=>?_;unfold free at h;rw[Qc l]at h;exact ia h
theorem Li{d:Type}{c:Prop} [Decidable c]{x:Option d}{y:d}(e:(if c then x else Y)=J y):c/\x=J y:=by
 by_cases h:c
 ·rw[Fd h]at e;exact⟨h,e⟩
 ·rw[ge h]at e;exact ja e
theorem XJ:∀{is:List Nat}{c:List V}{S W:Me},zk is c S=J W->ye is c S=J W:=by
 intro is
 induction is with
 |nil=>intro c S W h;induction c using ma<;>exact h|cons i is d=>
  intro c S W h
  induction c using ma with
  |nil=>exact h|cons v e=>
   have q:=Li (x:=zk is e (S.set i (J v))) h;exact(Fd (AG q.1)).trans (d q.2)
theorem jS(h:Hj t v S=J W):jl t v S=J W:=by
 induction t with
 |x i=>
  have q:=Li (x:=J (S.set i (J v))) h;exact(Fd (AG q.1)).trans q.2
 |t is=>exact bb h λc d e=>Fa.mpr ⟨c,d,XJ e⟩
theorem fO:∀{c:List Expr}{is:List Nat},Iz N c=J is->
 ∃d:List (Bb×Nm),c=d.map (λp=>bR p.1 p.2)/\(d.map λp=>xc N.sl p.1)=is.map J:=by
 intro c
 induction c with
 |nil=>intro is h;exact⟨[],rfl,by refine Bd (ba h) ?_;rfl⟩|cons e c j=>
  intro is h;refine bb h λi q f=>re f λy k l=>bb q λx m o=>(aa λr=>?_);obtain⟨d,u,f⟩:=j k;obtain⟨p,rfl⟩:=Jl m;refine r ?_;exact⟨(x,p)::d,by refine U u ?_;rfl,by exact Bd l (U Tb (U Tb (U f (U (Xl o) rfl))))⟩
theorem Dr(c:List (Bb×Nm)):assignEach (c.map λp=>bR p.1 p.2) P=c.map λp=>(ta,assign (.Name p.1 p.2) P):=by
 induction c with
 |nil=>rfl|cons p c d=>refine U Tb (U Tb (Bd d ?_));rfl
theorem Gp:∀{is:List Nat}{c:List V}{S W:Me},ye is c S=J W->is.length=c.length:=by
 intro is
 induction is with
 |nil=>intro c S W h;induction c using ma with|nil=>rfl|cons u y=>exact ja h
 |cons i is d=>
  intro c S W h
  induction c using ma with
  |nil=>exact ja h|cons v e=>exact Gc pc (d (Li (x:=ye is e (S.set i (J v))) h).2)
theorem kM{j:List (Bb×Nm)}{is:List Nat}{q:List V}{k:Nat}{p:Nm}(O:Eg n A)(y:(j.map λp=>xc N.sl p.1)=is.map J)(hg:Rt lo (.t is)=Z)(r:R w G X F s.heap)(c:Lc w G P E N.sl lo S X s.heap)(xv:VR w X s.heap (.t q) T)(e:ye is q S=J W):
 Qa (fb pg w) A (assign (.Tuple (j.map λp=>bR p.1 p.2) k p) P T) (λu=>PA w G P E N.sl lo X s F W) No s:=by
 refine aa λnq=>?_;obtain⟨a,vs,m,rfl,x1,ea,la,z⟩:=xv.wF;refine nq ?_;have l:j.length=is.length:=by have:=Gc kj y;rwa [wa,wa]at this
 refine U (a6 _ _ _ _ _) (U (Dr _) ?_);refine ga (mc (O3 O.hh (items:=vs.toArray) (nf ea) (by exact U (wa _) (U Hb (Bd z.length (U l (U (Gp e) rfl))))) ?_ λh' d=>?_))
 ·refine U (propext Vy) ?_
  intro x f;obtain⟨p,_,rfl⟩:=Qb.mp f
  rfl
 ·have f:∀a o,s.heap.get? a=J o->h'.get? a=J o:=λa o e=>d a o (Wb (gc e)) e
  exact U Rd (Da (Mu (A:=A) (s:={s with heap:=h'}) y (λi hi=>Ml (qd.mp hg i hi)) (r.wI f) (c.wI r f) (z.mono (Ja _) λa o e u=>f a o e) e) (λu s2 p2=>PA.after (s1:={s with heap:=h'}) rfl (Kp.wI f) p2) λu u x=>x)
theorem lM{d:Expr}(z:Eg n A)(f:Tk N d=J t)(j:Rt lo t=Z)(r:R w G X F s.heap)(c:Lc w G P E N.sl lo S X s.heap)(y:VR w X s.heap v T)(e:jl t v S=J W):
 Qa (fb pg w) A (assign d P T) (λu=>PA w G P E N.sl lo X s F W) No s:=by
 unfold Tk at f;refine aa λl=>?_
 induction m:Rv d with
 |some x=>
  refine l ?_;clear l;rw[m]at f;refine re f λi q o=>?_;obtain⟨p,rfl⟩:=Jl m;rw[<-o]at e j;have u:=Dl (x:=S.set i (J v)) e;exact Bd u.2 (mh (Xl q) (Ml j) r c y)
 |none=>
  refine l ?_;clear l;rw[m]at f;refine bb f λes q o=>re o λis u O=>?_;obtain⟨k,p,rfl⟩:=Gw q;rw[<-O]at e j;refine bb e λxs e1 e2=>?_;obtain⟨ns,rfl,h2⟩:=fO u;exact kM z h2 j r c (Vl e1▸y) e2
def pj(w:zb)(X:List Ca)(h:qb)(I:Ca)(i:Nat)(z:It):Prop:=match z with|.st c=>(∃t d m,h.get? t=J (cu d m)/\ve w X h c d/\h.IsTupleIter I t i)\/(∃a b,c=Lo a b/\i<=(b - a).toNat/\gn h I (a+(i:Int)) (((b - a).toNat:Int) - (i:Int)) 1)|.dyn l=>∃a,X[l]?=J a/\h.IsListIter I a i
theorem Dh(x:pj w X h I i Q):∃o,h.get? I=J o/\¬Ih o/\(∃j,o.data=.fields j):=by
 refine aa λf=>?_
 induction Q with
 |st k=>
  refine f (aa λf=>?_);rcases x with⟨t,j,m,_,_,o,e,c,d⟩|⟨a,b,_,_,e⟩
  ·exact f (⟨o,e,by simp[Ih,d,c],_,d⟩)
  ·exact f (⟨_,e,by simp[Ih],_,rfl⟩)
 |dyn l=>
  refine f (aa λf=>?_);obtain⟨a,_,o,e,c,d⟩:=x;exact f (⟨o,e,by simp[Ih,d,c],_,d⟩)
theorem OR.notFields{o:O}{a:Ca}(z:OR w X h o a){j:pD}(e:h.get? a=J j){k:Array ua}(d:j.data=.fields k):False:=by
 induction o with
 |list c=>obtain⟨k,n,f,_⟩:=z;rw[ba (e.symm.trans f)]at d;exact nomatch d|idict m=>obtain⟨o,c,f,⟨p,q,_,l,_⟩,_⟩:=z;rw[ba (e.symm.trans f),l]at d;exact nomatch d|h m=>obtain⟨c,n,f,_⟩:=z;rw[ba (e.symm.trans f)]at d;exact nomatch d|inst c l=>obtain⟨m,_,f⟩:=z;rw[ba (e.symm.trans f)]at d;exact nomatch d
theorem pj.notIn(x:pj w X h I i Q)(r:R w G X F h):I∉X:=λq=>by
 obtain⟨o,e,_,c,d⟩:=Dh x;obtain⟨j,f,_,_,z⟩:=r.mem q;exact z.notFields e d
theorem pj.keep{f:List Ca}(x:pj w X h I i Q)(q:X<+:f)(j:∀a o,h.get? a=J o->Ih o->h'.get? a=J o)(hI:∀o,h.get? I=J o->h'.get? I=J o):pj w f h' I i Q:=by
 induction Q with
 |st u=>
  refine aa λp=>?_;rcases x with⟨t,r,m,k,l,o,e,c,d⟩|⟨a,b,k,l,e⟩
  ·exact p (.inl ⟨t,r,m,j _ _ k rfl,l.mono q j,o,hI _ e,c,d⟩)
  ·exact p (.inr ⟨a,b,k,l,hI _ e⟩)
 |dyn l=>
  refine aa λp=>?_;obtain⟨a,k,o,e,c,d⟩:=x;exact p (⟨a,Cm q k,o,hI _ e,c,d⟩)
def Jk(I:Ca)(h h':qb):Prop:=∀b o,b≠I->h.get? b=J o->h'.get? b=J o
theorem zU(h:i<(b - a).toNat):(Lo a b)[i]?=J (.int (a+(i:Int))):=by
 simp[Lo,ot,h]
inductive NF(w:zb)(X:List Ca)(I:Ca)(i:Nat)(Q:It)(s:Ea)(o:Option V)(q:Option ua)(s':Ea):Prop
 |done:o=Y->q=Y->Ah s s'->Jk I s.heap s'.heap->NF w X I i Q s o q s'|item (v:V) (T:ua):o=J v->q=J T->Ah s s'->Jk I s.heap s'.heap->VR w X s'.heap v T->pj w X s'.heap I (i+1) Q->NF w X I i Q s o q s'
theorem xP(h:¬i<(b - a).toNat):(Lo a b)[i]?=Y:=by
 simp[Lo,ot];lia
theorem PE(j:Eg n A)(f:gn s.heap I (a+(i:Int)) (((b - a).toNat:Int) - (i:Int)) 1):
 Qa (fb pg w) A (Ep (.ref I)) (NF w X I i (.st (Lo a b)) s (Lo a b)[i]?) No s:=by
 by_cases c:i<(b - a).toNat
 ·refine wpAny_pyNext_range_item f (by lia) λh' d k=>.item _ _ (zU c) rfl rfl (λb o n e=>(k.2 b n).trans e) (.int _ _) (.inr ⟨a,b,rfl,c,?_⟩)
  refine U (show a+((i+1:Nat):Int)=a+(i:Int)+1 by lia) (U (show(((b - a).toNat:Int) - ((i+1:Nat):Int))=((b - a).toNat:Int) - (i:Int) - 1 by lia) ?_);exact d
 ·exact wpAny_pyNext_range_end j.hh f (by lia) λh' d=>.done (xP c) rfl rfl λb o n e=>d b o n e
theorem OB{c:pD}(e:h.get? I=J c)(f:¬Ih c)(k:Jk I h h'):∀a o,h.get? a=J o->Ih o->h'.get? a=J o:=λa o d j=>k a o (λq=>f (ba (e.symm.trans (q▸d))▸j)) d
theorem aH(y:Eg n A)(r:R w G X F s.heap)(x:pj w X s.heap I i Q){o:Option V}(e:ym Q i F=J o):
 Qa (fb pg w) A (Ep (.ref I)) (NF w X I i Q s o) No s:=by
 refine aa λc=>?_;obtain⟨oI,z,O,_⟩:=Dh x;refine c ?_;clear c;have d:=λh'=>OB (h':=h') z O
 induction Q with
 |st xs=>
  refine Bd (ba e) (aa λc=>?_);rcases x with⟨t,u,m,p,f,l⟩|⟨a,b,rfl,f,l⟩
  ·refine c ?_
   clear c
   induction q:xs[i]? with
   |none=>exact wpAny_pyNext_tuple_end y.hh l (items:=u.toArray) (nf p) (by refine U lc ?_;exact f.none_of q) λh' j=>.done rfl rfl rfl λb o n e=>j b o n e|some v=>
    refine aa λc=>?_;obtain⟨T,y1,y2⟩:=f.get q;refine c ?_;clear c;refine wpAny_pyNext_tuple_item l (items:=u.toArray) (nf p) (x:=T) (by refine U lc ?_;exact y1) λh' j hs=>?_;have k:Jk I s.heap h':=λb o n e=>(hs.2 b n).trans e;exact .item _ _ rfl rfl rfl k (y2.mono (Ja _) (d h' k)) (.inl ⟨t,u,m,d h' k _ _ p rfl,f.mono (Ja _) (d h' k),j⟩)
  ·refine c ?_
   clear c;exact PE y l
 |dyn l=>
  refine aa λc=>?_;obtain⟨a,p,f⟩:=x;refine c ?_;clear c;refine re e λxs q0 q=>(Bd q (aa λc=>?_));obtain⟨u,m,q,q2,q3⟩:=r.obj l _ a (BB q0) p;refine c ?_;clear c
  induction q':xs[i]? with
  |none=>exact wpAny_pyNext_list_end y.hh f (we q) (by refine U lc ?_;exact q3.none_of q') λh' j=>.done rfl rfl rfl λb o n e=>j b o n e|some v=>
   refine aa λc=>?_;obtain⟨T,y1,y2⟩:=q3.get q';refine c ?_;clear c;refine wpAny_pyNext_list_item f (we q) (x:=T) (by refine U lc ?_;exact y1) λh' j hs=>?_;have k:Jk I s.heap h':=λb o n e=>(hs.2 b n).trans e;exact .item _ _ rfl rfl rfl k (y2.mono (Ja _) (d h' k)) ⟨a,p,j⟩
inductive XK [D:Av](w:zb)(X:List Ca)(s:Ea)(Q:It)(q:ua)(s':Ea):Prop
 |mk:q=.ref s.heap.objs.size->Ah s s'->(∀b o,s.heap.get? b=J o->s'.heap.get? b=J o)->pj w X s'.heap s.heap.objs.size 0 Q->XK w X s Q q s'
theorem Dz{x:ua}(r:R w G X F s.heap)(f:VR w X s.heap v x)(e:bj v F=J Q):
 Qa (fb pg w) A (iw x) (λq c=>XK w X s Q q c) No s:=by
 refine aa λc=>?_
 induction v using V.casesOn with
 |t p=>
  refine c ?_;clear c;refine aa λc=>?_;obtain⟨t,q,m,rfl,j,d,l,k⟩:=f.wF;refine c ?_;clear c;refine Bd (ba e) ?_;exact zi (nf d) ⟨rfl,rfl,λb o e=>ya _ e,.inl ⟨t,q,m,ya _ d,k.mono (Ja _) λa o e y=>ya _ e,_,La _ rfl,rfl,rfl⟩⟩
 |rng a b=>
  refine c ?_;clear c;refine aa λc=>?_;obtain⟨y,t,u,z,rfl,l⟩:=f.wF;refine c ?_;clear c;refine re e λp j k=>(aa λc=>?_);obtain⟨O,rfl⟩:=Ms j;refine c ?_;clear c;refine Bd k ?_;refine N3 l (small_one (by lia) (by lia) (by lia) (by lia)) ⟨rfl,rfl,λb o e=>ya _ e,.inr ⟨a,b,rfl,Zc _,?_⟩⟩;show gn _ _ _ _ _
  refine U (Uo a b) ?_
  simpa using La s.heap (o:={cls:=.type "range_iterator",data:=.fields #[bg a,bg ((b - a).toNat:Int),bg 1]}) rfl
 |ref l=>
  refine c ?_;clear c;refine re e λp j k=>(Bd k (aa λc=>?_));obtain⟨a,q,m,rfl,d,u,y,z⟩:=r.list j f;refine c ?_;clear c;exact v5 (we u) ⟨rfl,rfl,λb o e=>ya _ e,a,d,_,La _ rfl,rfl,rfl⟩
 |_=>refine c ?_;clear c;exact ja e
end
section
variable [X:Av]
noncomputable def An(b:wj)(z:List (Bb×yd))(y:List (Bb×Ca)):List (Bb×Ca):=match z,y with|[],a=>a|(n,k)::r,a=>An b r (if k== .free then(n,(b.cells.lookup n).getD 0)::a else a)
theorem ZL(env:wj):∀(names:List (Bb×yd))(acc:List (Bb×Ca))(x:Bb)(c:Ca),(x,c)∈An env names acc->(x,c)∈acc\/((x,Ic)∈names/\c=(env.cells.lookup x).getD 0):=by
 intro names
 induction names with
 |nil=>
  rintro _ _ _ h;exact .inl h
 |cons pq0 r ih=>
  obtain⟨n,k⟩:=pq0;rintro acc x c h;rcases ih _ x c h with q|q
  ·split at q
   ·rename_i hk
    rcases ab.mp q with e|e
    ·obtain⟨rfl,rfl⟩:=Ta e
     have:k=.free:=by simpa using hk
     subst this;exact .inr ⟨sa,rfl⟩
    ·exact .inl e
   ·exact .inl q
  ·exact .inr ⟨oa _ q.1,q.2⟩
theorem WL(c:wj):∀(a:List (Bb×yd))(b:List (Bb×Ca))(p:Bb×Ca),p∈b->p∈An c a b:=by
 intro a
 induction a with
 |nil=>
  rintro _ _ h;exact h
 |cons d r e=>
  obtain⟨n,k⟩:=d;rintro b p h;exact e _ p (by split;exact oa _ h;exact h)
theorem YL(b:wj):∀(a:List (Bb×yd))(c:List (Bb×Ca))(x:Bb),(x,Ic)∈a->(x,(b.cells.lookup x).getD 0)∈An b a c:=by
 intro a
 induction a with
 |nil=>
  rintro _ _ _
  first|contradiction|exact ja (by assumption)
 |cons d r f=>
  obtain⟨n,k⟩:=d;rintro c x h;rcases ab.mp h with e|e
  ·obtain⟨rfl,rfl⟩:=Ta e
   exact WL b r _ _ (by exact sa)
  ·exact f _ x e
theorem MD(env:wj)(hp:env.cells.Pairwise λx y=>x.2≠y.2):∀(names:List (Bb×yd))(acc:List (Bb×Ca)),(names.map λx=>x.1).Nodup->(∀x k,(x,k)∈names->k=Ic->∃c,env.cells.lookup x=J c)->
 (∀p∈acc,env.cells.lookup p.1=J p.2/\p.1∉names.map λx=>x.1)->acc.Pairwise (λx y=>x.2≠y.2)->(An env names acc).Pairwise λx y=>x.2≠y.2:=by
 intro names
 induction names with
 |nil=>
  rintro _ _ _ _ h;exact h
 |cons pq0 r ih=>
  obtain⟨n,k⟩:=pq0;rintro acc nd hc ha h;rw[Tb,Ec]at nd;show(An env r (if k== .free then(n,(env.cells.lookup n).getD 0)::acc else acc)).Pairwise _
  split
  ·rename_i hk
   obtain⟨c,hcn⟩:=hc n k sa (by simpa using hk:k=.free);refine ih _ nd.2 (λx k hx=>hc x k (oa _ hx)) ?_ ?_
   ·intro p hp'
    rcases ab.mp hp' with e|e
    ·subst e;exact⟨by simp[hcn],nd.1⟩
    ·exact⟨(ha p e).1,λq=>(ha p e).2 (oa _ q)⟩
   ·refine Ag.mpr ⟨λp hp'=>?_,h⟩
    obtain⟨e1,e2⟩:=ha p hp';intro e;have:=qfg hp (mem_of_lookup hcn) ((by refine Bd e ?_;simp[hcn]:p.2=c)▸mem_of_lookup e1);exact e2 (by refine Bd this ?_;exact sa)
  ·exact ih _ nd.2 (λx k hx=>hc x k (oa _ hx)) (λp hp'=>⟨(ha p hp').1,λq=>(ha p hp').2 (oa _ q)⟩) h
theorem ND(a:wj)(d:Scope)(f:∀x k,(x,k)∈d.names->k=Ic->∃c,a.cells.lookup x=J c):qY d a=pure (An a d.names []):=by
 unfold qY;have l:∀(b:List (Bb×yd))(e:List (Bb×Ca)),(∀x k,(x,k)∈b->k=Ic->∃c,a.cells.lookup x=J c)->
  (forIn b e λ(x:Bb×yd) r=>(do
   if x.2== .free then do
    let c<-cellOf a x.1
    pure (wf ((x.1,c)::r))
   else pure (wf r):Yl (ForInStep (List (Bb×Ca)))))=pure (An a b e):=by
  intro b
  induction b with
  |nil=>intro e _;rfl|cons p r i=>
   intro e f;obtain⟨n,k⟩:=p;refine U (un _ _ _ _) ?_;by_cases j:k=.free
   ·subst j
    obtain⟨c,g⟩:=f n _ sa rfl;show _=pure (An a r ((n,(a.cells.lookup n).getD 0)::e))
    simp only[(by unfold cellOf;exact U g rfl:cellOf a n=pure c),beq_self_eq_true,if_true,g,Option.getD_some];exact i _ λx k h=>f x k (oa _ h)
   ·have c:(k==Ic)=ta:=by simpa using j
    show _=pure (An a r (if(k==Ic)=Z then(n,(a.cells.lookup n).getD 0)::e else e))
    simp only[c,ak,if_false];exact i _ λx k h=>f x k (oa _ h)
 exact(Gc (λm=>m>>=λc=>pure c) (l d.names [] f)).trans rfl
theorem Dg(h:qb)(o:pD):(h.push o).objs.size=h.objs.size+1:=pd ..
theorem Mn:∀(names:List (Bb×yd))(h:qb)(a:Ca),h.objs.size<=a->a<(Zg h names).objs.size->((Zg h names).get? a).isSome=Z:=by
 intro names
 induction names with
 |nil=>
  rintro h a h1 h2;exact zc h2 (Vd.mpr h1)
 |cons pq0 r ih=>
  obtain⟨n,k⟩:=pq0;rintro h a h1 h2;unfold Zg at h2|-
  split
  ·rename_i hk
   rw[Fd hk]at h2;by_cases e:a=h.objs.size
   ·subst e
    refine U (Tp r _ _ _ (La h (o:={cls:=.type "cell",data:=.cell Y}) rfl)) ?_;rfl
   ·exact ih _ a (by refine U (Dg _ _) ?_;exact Ik h1 (cq e)) h2
  ·rename_i hk
   rw[ge hk]at h2;exact ih h a h1 h2
theorem rU:∀(a:List (Bb×yd))(h:qb),h.objs.size<=(Zg h a).objs.size:=by
 intro a
 induction a with
 |nil=>
  rintro _;exact Gb _
 |cons b r c=>
  obtain⟨n,k⟩:=b;rintro h;unfold Zg
  split
  ·exact Za (by refine U (Dg _ _) ?_;exact te _) (c _)
  ·exact c h
theorem ix:∀(b:List (Bb×yd))(h:qb)(a:Ca)(o:pD),(Zg h b).get? a=J o->h.get? a=Y->o.data=.cell Y:=by
 intro b
 induction b with
 |nil=>
  rintro h a o e q;rw[show(Zg h []).get? a=h.get? a from rfl,q]at e;exact ja e
 |cons f r g=>
  obtain⟨n,k⟩:=f;rintro h a o e q;unfold Zg at e
  split at e
  ·by_cases z:a=h.objs.size
   ·subst z
    have:=Tp r _ _ _ (La h (o:={cls:=.type "cell",data:=.cell Y}) rfl);rw[this]at e;obtain rfl:=ba e;rfl
   ·refine g _ a o e ?_
    induction z2:(h.push {cls:=.type "cell",data:=.cell Y}).get? a with
    |none=>rfl|some i=>
     have d:=gc z2;rw[Dg]at d;have c:a<h.objs.size:=Ik (Nat.lt_succ_iff.mp d) z;unfold qbj at z2 q;rw[show(h.push {cls:=.type "cell",data:=.cell Y}).objs=h.objs.push {cls:=.type "cell",data:=.cell Y}from rfl,Array.getElem?_push_lt c]at z2;rw[Array.getElem?_eq_getElem c]at q;rw[z2]at q;exact ja q.symm
  ·exact g h a o e q
theorem Ok:∀(names:List (Bb×yd))(n:Nat)(acc:List (Bb×Ca)),∃new:List (Bb×Ca),Ij n names acc=new++acc/\(∀p∈new,n<=p.2/\(p.1,Hd)∈names)/\(∀x,(x,Hd)∈names->∃c,(x,c)∈new)/\new.Pairwise (λx y=>x.2≠y.2)/\
 (∀p∈new,p.2<n+(names.filter λx=>x.2== .cell).length):=by
 intro names
 induction names with
 |nil=>
  rintro n acc;exact⟨[],rfl,λp h=>(by cases h),λx h=>(by cases h),.nil,λp h=>(by cases h)⟩
 |cons pq0 r ih=>
  obtain⟨m,k⟩:=pq0;rintro n acc;unfold Ij
  split
  ·rename_i hk
   have hk':k=.cell:=by simpa using hk
   refine aa λnq=>?_;subst hk';obtain⟨new,e,h1,h2,h3,h4⟩:=ih (n+1) ((m,n)::acc);refine nq ?_;clear nq;refine⟨new++[(m,n)],by refine U e ?_;simp,λp hp=>?_,λx hx=>?_,?_,λp hp=>?_⟩
   ·refine aa λnq=>?_
    rcases Vb.mp hp with q|q
    ·refine nq ?_
     clear nq;have:=h1 p q;exact⟨Tf this.1,oa _ this.2⟩
    ·refine nq ?_
     clear nq;rw[Ra]at q;subst q;exact⟨Gb _,sa⟩
   ·rcases ab.mp hx with q|q
    ·cases q;exact⟨n,Od _ sa⟩
    ·obtain⟨c,hc⟩:=h2 x q;exact⟨c,Ke _ hc⟩
   ·refine Oo.mpr ⟨h3,by simp,λp hp q hq=>?_⟩
    rw[Ra]at hq;subst hq;have:=(h1 p hp).1;exact gh this
   ·have hl:((m,Hd)::r).filter (λx=>x.2== .cell)=(m,Hd)::r.filter (λx=>x.2== .cell):=by rfl
    refine U hl (U nc ?_);rcases Vb.mp hp with q|q
    ·exact rb (h4 p q) (Gd (by refine U (mL _ _ _) ?_;rfl))
    ·rw[Ra]at q;subst q;exact Zd (kh _)
  ·rename_i hk
   refine aa λnq=>?_;obtain⟨new,e,h1,h2,h3,h4⟩:=ih n acc;refine nq ?_;clear nq;refine⟨new,e,λp hp=>⟨(h1 p hp).1,oa _ (h1 p hp).2⟩,λx hx=>?_,h3,λp hp=>?_⟩
   ·rcases ab.mp hx with q|q
    ·obtain⟨rfl,rfl⟩:=Ta q;simp at hk
    ·exact h2 x q
   ·have hl:((m,k)::r).filter (λx=>x.2== .cell)=r.filter (λx=>x.2== .cell):=by simp at hk;simp[hk]
    exact U hl (h4 p hp)
theorem Yv:∀(names:List (Bb×yd))(h:qb),(Zg h names).objs.size=h.objs.size+(names.filter λx=>x.2== .cell).length:=by
 intro names
 induction names with
 |nil=>
  rintro _;exact rfl
 |cons pq0 r ih=>
  obtain⟨n,k⟩:=pq0;rintro h;unfold Zg
  split
  ·rename_i hk
   refine U (ih _) (U (Dg _ _) ?_);have hk':k=.cell:=by simpa using hk
   subst hk';exact U (by rfl:((n,Hd)::r).filter (λx=>x.2== .cell)=(n,Hd)::r.filter λx=>x.2== .cell) (U nc (U (mr _ _ _) (U (mi 1 _) rfl)))
  ·rename_i hk
   exact U (ih _) (U (by simp at hk;simp[hk]:((n,k)::r).filter (λx=>x.2== .cell)=r.filter λx=>x.2== .cell) rfl)
theorem IB{e:Wi}{w:zb}{A:Xb}{E:ua->Ea->Prop}{b:Scope}{c:Ca}{g:List (Bb×Ca)}{d:Bb}{a:wj}{s:Ea}{Q:wj->Ea->Prop}
 (j:Q {scope:=b,locals:=s.heap.objs.size,globals:=c,cells:=Ij (s.heap.objs.size+1) b.names g,qual:=d,func:=Y,code:=a.code,frame:=a.frame,builtins:=a.builtins}
  {s with heap:=Zg (s.heap.push {cls:=.type "dict",data:=.dict #[]}) b.names}):
 Qa (fb e w) A (qcJ b c g [] d Y .none (J a)) Q E s:=by
 unfold qcJ;refine ga (qfJ (ga (wpAny_layCells _ (λh i f=>rfl) _ _ _ _ (U (show({s with heap:=s.heap.push {cls:=.type (if(J a).isSome=Z then "dict"else "frame"),data:=.dict #[]}}:Ea).heap.objs.size=s.heap.objs.size+1 from pd ..) (ga ?_)))));exact U xx (Ba (Ba j))
end
section
variable {x:Bb} {P:Type}
variable [B:Av]
variable {w:zb} {S:qb} {A:Xb} {X:wj} {N:Ca->Prop} {lo:Nat} {Q I:Me} {K:Ve} {G:Bh} {n:Nat} {g:Gl} {O:List Ca} {F D:St} {s:Ea} {v:V} {L:Ca} {T W:Sc} {scope:Scope}
structure Du(T:Sc)(scope:Scope)(W:Sc):Prop where
 kind:scope.kind=.function
 loc:∀x∈scope.names,x.2=.local->scope.names.lookup x.1=J .local
 free:∀x k,(x,k)∈scope.names->k=Ic->T.kinds.lookup x=J .cell\/T.kinds.lookup x=J .free
 wJ:∀x k,(x,k)∈scope.names->scope.names.lookup x=J k
 nd:(scope.names.map λx=>x.1).Nodup
 kinds:W.kinds=Bt scope.names T.kinds
 sl:W.sl=T.sl++Yg scope.names
theorem Px(h:gM T scope=J W):Du T scope W:=by
 refine de h λq e=>?_;obtain rfl:=ba e;simp only[Dd,qd,decide_eq_true_eq,beq_iff_eq]at q;refine aa λc=>?_;obtain⟨⟨⟨⟨⟨⟨⟨d,m⟩,o⟩,p⟩,f⟩,b⟩,r⟩,i⟩:=q;refine c ?_;refine⟨d,λx a j=>?_,λx k a l=>?_,λx k a=>b (x,k) a,i,rfl,rfl⟩
 ·have:=b x a;exact U this (U j rfl)
 ·subst l
  have:=f (x,Ic) a;simp only[beq_self_eq_true,Bool.not_true,MX,Bool.or_eq_true,beq_iff_eq]at this;exact this
theorem Qq{b a:List (Bb×yd)}:(Bt b a).lookup x=(b.lookup x).map λk=>if(k== .free&&a.lookup x==J .cell)then Hd else k:=by
 induction b with
 |nil=>rfl|cons p r d=>
  obtain⟨n,k⟩:=p;unfold Bt at d|-;refine U Tb ?_;by_cases e:(k==Ic&&a.lookup n==J Hd)=Z
  ·by_cases h:x=n
   ·refine aa λc=>?_
    subst h;refine c ?_;simp only[e,if_true,Mc,beq_self_eq_true,Um]
   ·have S:(x==n)=ta:=by simpa using h
    simp only[e,if_true,Mc,S];exact d
  ·have c:(k==Ic&&a.lookup n==J Hd)=ta:=by simpa using e
   by_cases h:x=n
   ·subst h
    simp only[c,ak,if_false,Mc,beq_self_eq_true,Um]
   ·have S:(x==n)=ta:=by simpa using h
    simp only[c,ak,if_false,Mc,S];exact d
theorem mx(a:X.scope.kind=.function)(b:X.scope.names=T.kinds):(uD scope X).names=Bt scope.names T.kinds:=by
 delta uD Bt
 simp only[a,beq_self_eq_true,Bool.and_true];refine gg λp u=>?_;unfold nn;exact U b rfl
theorem Oq{a:List (Bb×yd)}:x∈Yg a↔∃k,(x,k)∈a/\(k=.local\/k=.cell):=by
 unfold Yg;refine U (propext Qb) ?_
 constructor
 ·rintro⟨⟨y,k⟩,h,rfl⟩
  rw[Uc]at h;exact⟨k,h.1,by simpa using h.2⟩
 ·rintro⟨k,h,q⟩
  exact⟨(x,k),Uc.mpr ⟨h,by simpa using q⟩,rfl⟩
theorem OC{a:List Bb}:x∈a->∃i,xc a x=J i:=by
 induction a with
 |nil=>intro h;cases h|cons y r c=>
  intro h;show∃i,(match xc r x with|some i=>J (i+1)|none=>if y=x then J 0 else Y)=J i
  induction e:xc r x with
  |some i=>exact⟨i+1,rfl⟩|none=>
   rcases ab.mp h with q|q
   ·subst q;exact⟨0,by simp⟩
   ·obtain⟨i,b⟩:=c q;rw[e]at b;exact ja b
theorem Ip{a:List Bb}{i:Nat}(h:xc a x=J i):x∈a:=Na (Qj h)
theorem vE{a b:List (Bb×P)}(h:∀p∈a,p.1≠x):(a++b).lookup x=b.lookup x:=by
 induction a with
 |nil=>rfl|cons p r c=>
  have:(x==p.1)=ta:=by simpa usingλq=>(h p sa) q.symm
  exact U Jm (U Mc (U this (c λq d=>h q (oa _ d))))
theorem rh{l:List (Bb×P)}{c:P}(h:(x,c)∈l):∃a,l.lookup x=J a/\(x,a)∈l:=by
 induction l with
 |nil=>cases h|cons p r b=>
  by_cases q:x=p.1
  ·exact⟨p.2,by exact U Mc (U (show(x==p.1)=Z by simpa using q) rfl),by refine U q ?_;exact sa⟩
  ·rcases ab.mp h with e|e
   ·exact zc (by exact Bd e rfl) q
   ·obtain⟨a,d,f⟩:=b e
    exact⟨a,by refine U Mc (U (show(x==p.1)=ta by simpa using q) ?_);exact d,oa _ f⟩
noncomputable abbrev Zf(s:Ea)(scope:Scope):qb:=Zg (s.heap.push {cls:=.type "dict",data:=.dict #[]}) scope.names
abbrev jo(s:Ea)(scope:Scope)(X:wj):wj:={scope:=uD scope X,locals:=s.heap.objs.size,globals:=X.globals,cells:=Ij (s.heap.objs.size+1) scope.names (An X scope.names []),qual:=X.qual,func:=Y,code:=X.code,frame:=X.frame,builtins:=X.builtins}
def QD(s:Ea)(scope:Scope)(a:Ca):Prop:=s.heap.objs.size<=a/\a<(Zf s scope).objs.size
theorem Qo(a:Ca)(o:pD)(e:s.heap.get? a=J o):(Zf s scope).get? a=J o:=Tp _ _ _ _ (ya _ e)
theorem uk{h:qb}{a:Ca}(b:h.objs.size<=a):h.get? a=Y:=by
 induction e:h.get? a with
 |none=>rfl|some o=>exact zc (gc e) (Vd.mpr b)
theorem YA(C:Du T scope W)(hk:X.scope.names=T.kinds)(r:R w S O F s.heap)(E:Lc w S X N T.sl lo Q O s.heap):
 Lc w S (jo s scope X) (QD s scope) W.sl T.sl.length (Q++Ia (Yg scope.names).length Y) O (Zf s scope)/\(jo s scope X).scope.names=W.kinds/\qY scope X=pure (An X scope.names []):=by
 have hfree:∀x k,(x,k)∈scope.names->k=Ic->∃c v,X.cells.lookup x=J c/\s.heap.IsCell c v/\(X.kindOf x=J .cell\/X.kindOf x=J .free):=λx k hx hf=>by
  have hq:=C.free x k hx hf;have hq':X.kindOf x=J .cell\/X.kindOf x=J .free:=by unfold nn;refine U hk ?_;exact hq
  rcases hq with q|q
  ·obtain⟨c,v,h1,h2⟩:=E.has x .cell (by refine U hk ?_;exact mem_of_lookup q) (.inl rfl)
   exact⟨c,v,h1,h2,hq'⟩
  ·obtain⟨c,v,h1,h2⟩:=E.has x .free (by refine U hk ?_;exact mem_of_lookup q) (.inr rfl)
   exact⟨c,v,h1,h2,hq'⟩
 have hclos:=ND X scope λx k hx hf=>(hfree x k hx hf).elim λc z=>z.elim λu z=>⟨c,z.1⟩;have hnames:(uD scope X).names=W.kinds:=by exact U (mx E.kind hk) (U C.kinds rfl)
 refine⟨?_,hnames,hclos⟩;refine aa λnq=>?_;obtain⟨new,e1,n1,n2,n3,n4⟩:=Ok scope.names (s.heap.objs.size+1) (An X scope.names []);refine nq ?_;have hsz:(Zf s scope).objs.size=s.heap.objs.size+1+(scope.names.filter λx=>x.2== .cell).length:=by
  exact U (Yv _ _) (U (Dg _ _) rfl)
 have hkeep:=Qo (s:=s) (scope:=scope);have hCd:(Zf s scope).get? s.heap.objs.size=J {cls:=.type "dict",data:=.dict #[]}:=Tp _ _ _ _ (La _ rfl);have hcl:∀x c,(x,c)∈An X scope.names []->(x,Ic)∈scope.names/\X.cells.lookup x=J c:=λx c h=>by
  rcases ZL X scope.names [] x c h with q|⟨q1,q2⟩
  ·cases q
  ·obtain⟨c',v,h1,_⟩:=hfree x _ q1 rfl
   exact⟨q1,by refine U h1 (U q2 (U h1 ?_));rfl⟩
 have hlook:∀x,(x,Ic)∈scope.names->∃c v,(Ij (s.heap.objs.size+1) scope.names (An X scope.names [])).lookup x=J c/\X.cells.lookup x=J c/\s.heap.IsCell c v/\(X.kindOf x=J .cell\/X.kindOf x=J .free):=λx hx=>by
  refine aa λnq=>?_;obtain⟨c,v,h1,h2,h3⟩:=hfree x _ hx rfl;obtain⟨c',q1,q2⟩:=rh (YL X scope.names [] x hx);refine nq ?_;have:=(hcl x c' q2).2;rw[h1]at this;obtain rfl:=ba this;refine⟨c,v,?_,h1,h2,h3⟩;rw[e1,vE λp hp q=>?_]
  ·exact q1
  ·have:=C.wJ _ _ (n1 p hp).2
   rw[q,C.wJ _ _ hx]at this;cases this
 have hown:∀x,(x,Hd)∈scope.names->∃c,(Ij (s.heap.objs.size+1) scope.names (An X scope.names [])).lookup x=J c/\s.heap.objs.size+1<=c/\c<(Zf s scope).objs.size/\(Zf s scope).IsCell c Y:=λx hx=>by
  refine aa λnq=>?_;obtain⟨c,hc⟩:=n2 x hx;obtain⟨c',q1,q2⟩:=rh (l:=new++An X scope.names []) (Ke _ hc);refine nq ?_;have hc':(x,c')∈new:=by
   rcases Vb.mp q2 with q|q
   ·exact q
   ·have:=C.wJ _ _ (hcl x c' q).1
    rw[C.wJ _ _ hx]at this;cases this
  have hlt:c'<(Zf s scope).objs.size:=by refine U hsz ?_;exact n4 _ hc'
  refine⟨c',by refine U e1 ?_;exact q1,(n1 _ hc').1,hlt,?_⟩;obtain⟨o,ho⟩:=Oa.mp (Mn scope.names (s.heap.push {cls:=.type "dict",data:=.dict #[]}) c' (by refine U (Dg _ _) ?_;exact(n1 _ hc').1) hlt);exact⟨o,ho,ix scope.names _ c' o ho (uk (by refine U (Dg _ _) ?_;exact(n1 _ hc').1))⟩
 have hkind:∀x k,(jo s scope X).kindOf x=J k->∃k0,(x,k0)∈scope.names/\(k=k0\/(k0=.free/\k=.cell)):=λx k hx=>by
  have:(uD scope X).names.lookup x=J k:=hx;rw[hnames,C.kinds,Qq]at this
  induction q:scope.names.lookup x with
  |none=>rw[q]at this;exact ja this|some k0=>
   rw[q]at this;simp only[Um,yj]at this;refine⟨k0,mem_of_lookup q,?_⟩
   split at this
   ·rename_i z;simp at z;exact .inr ⟨z.1,this.symm⟩
   ·exact .inl this.symm
 have hkind2:∀x k0,(x,k0)∈scope.names->k0=.local\/k0=.cell->(jo s scope X).kindOf x=J k0:=λx k0 hx hl=>by
  show(uD scope X).names.lookup x=J k0
  refine U hnames (U C.kinds (U Qq (U (C.wJ _ _ hx) ?_)));rcases hl with q|q<;>subst q<;>rfl
 have hmeown:∀x i v,xc W.sl x=J i->x∈Yg scope.names->(Q++Ia (Yg scope.names).length Y)[i]?≠J (J v):=λx i v hs hx q=>by
  rw[C.sl,Sk]at hs;obtain⟨j,hj⟩:=OC hx;rw[hj]at hs;simp only[yj]at hs;subst hs;have hlen:=E.len;rw[Ma (by lia),Ue]at q
  split at q<;>(first|exact ja q|cases q)
 have hmeout:∀x i v,xc W.sl x=J i->x∉Yg scope.names->(Q++Ia (Yg scope.names).length Y)[i]?=J (J v)->xc T.sl x=J i/\Q[i]?=J (J v):=λx i v hs hx q=>by
  rw[C.sl,Sk]at hs
  induction z:xc (Yg scope.names) x with
  |some j=>exact zc (Ip z) hx|none=>
   rw[z]at hs;have hs':xc T.sl x=J i:=hs;have:=Ly hs';rw[Xa (by refine U E.len ?_;exact this)]at q;exact⟨hs',q⟩
 refine⟨C.kind,E.globals,E.builtins,by refine U C.sl ?_;simp[E.len],⟨λu=>Y,⟨_,#[],0,hCd,rfl,λe he=>by simp at he,λx=>by rfl⟩,λx i v hs hl hm=>?_⟩,λx i v hs hl hm=>?_,⟨Jf r (Fb _),Sd r (Fb _),Gb _,by refine U hsz ?_;exact rb (Vc _) (Nc _ _)⟩,λx k hx hl=>?_,?_,λx i hs hl=>?_,λa ha=>Sd r (uk ha.1),λa ha=>?_⟩
 ·refine aa λnq=>?_
  obtain⟨k0,h1,h2⟩:=hkind x _ hl;have:k0=.local:=by rcases h2 with q|⟨_,q⟩;exact q.symm;cases q
  subst this;exact nq (zc hm (hmeown x i v hs (Oq.mpr ⟨_,h1,.inl rfl⟩)))
 ·have hk0:∃k0,(x,k0)∈scope.names/\(k0=.cell\/k0=.free):=by
   rcases hl with hl|hl
   ·obtain⟨k0,h1,h2⟩:=hkind x _ hl
    rcases h2 with q|⟨q,_⟩
    ·exact⟨k0,h1,.inl q.symm⟩
    ·exact⟨k0,h1,.inr q⟩
   ·obtain⟨k0,h1,h2⟩:=hkind x _ hl
    rcases h2 with q|⟨_,q⟩
    ·exact⟨k0,h1,.inr q.symm⟩
    ·cases q
  refine aa λnq=>?_;obtain⟨k0,h1,h2⟩:=hk0;refine nq ?_;rcases h2 with q|q
  ·subst q;exact zc hm (hmeown x i v hs (Oq.mpr ⟨_,h1,.inr rfl⟩))
  ·refine aa λnq=>?_
   subst q;have hno:x∉Yg scope.names:=λz=>by
    obtain⟨k,z1,z2⟩:=Oq.mp z;have a:=C.wJ _ _ z1;rw[C.wJ _ _ h1]at a;obtain rfl:=ba a;rcases z2 with z2|z2<;>cases z2
   obtain⟨g1,g2⟩:=hmeout x i v hs hno hm;obtain⟨c,v0,c1,c2,c3,c4⟩:=hlook x h1;obtain⟨c',val,d1,d2,d3⟩:=E.cells x i v g1 c4 g2;refine nq ?_;rw[c2]at d1;obtain rfl:=ba d1;exact⟨c,val,c1,d2.keeps hkeep,d3.mono (Ja _) λa o e u=>hkeep a o e⟩
 ·have hx':(x,k)∈Bt scope.names T.kinds:=by refine Bd C.kinds (Bd hnames ?_);exact hx
  unfold Bt at hx';refine aa λnq=>?_;obtain⟨⟨y,k0⟩,h1,h2⟩:=Qb.mp hx';have hy:y=x/\(k0=.cell\/k0=.free):=by
   simp only at h2
   split at h2
   ·rename_i z;simp at z;obtain⟨rfl,rfl⟩:=Ta h2;exact⟨rfl,.inr z.1⟩
   ·obtain⟨rfl,rfl⟩:=Ta h2;exact⟨rfl,hl⟩
  obtain⟨rfl,hy⟩:=hy;refine nq ?_;rcases hy with q|q
  ·refine aa λnq=>?_
   subst q;obtain⟨c,c1,_,_,c2⟩:=hown y h1;exact nq (⟨c,Y,c1,c2⟩)
  ·refine aa λnq=>?_
   subst q;obtain⟨c,v0,c1,c2,c3,_⟩:=hlook y h1;exact nq (⟨c,v0,c1,c3.keeps hkeep⟩)
 ·show(Ij _ _ _).Pairwise _
  refine U e1 (U (propext Oo) (⟨n3,MD X E.apart scope.names [] C.nd (λx k hx hf=>(hfree x k hx hf).elim λc z=>z.elim λu z=>⟨c,z.1⟩) (λp hp=>by cases hp) .nil,λp hp q hq e=>?_⟩));refine aa λnq=>?_;obtain⟨y,c⟩:=q;obtain⟨h1,h2⟩:=hcl y c hq;obtain⟨c',v,h3,h4,_⟩:=hfree y _ h1 rfl;refine nq ?_;rw[h2]at h3;obtain rfl:=ba h3;have:=h4.lt;have h5:=(n1 p hp).1;rw[e]at h5;exact zc this (Vd.mpr (Tf h5))
 ·have hx:x∈Yg scope.names:=by
   rw[C.sl,Sk]at hs
   induction z:xc (Yg scope.names) x with
   |some j=>exact Ip z|none=>rw[z]at hs;exact zc (Ly (show xc T.sl x=J i from hs)) (Vd.mpr hl)
  refine aa λnq=>?_;obtain⟨k,z1,z2⟩:=Oq.mp hx;refine nq ?_;rcases z2 with z2|z2
  ·subst z2;exact .inl (hkind2 x _ z1 (.inl rfl))
  ·refine aa λnq=>?_
   subst z2;obtain⟨c,c1,c2,c3,c4⟩:=hown x z1;exact nq (.inr ⟨hkind2 x _ z1 (.inr rfl),c,Y,c1,c4,Sd r (uk (Tf c2)),Tf c2,c3⟩)
 ·by_cases q:a=s.heap.objs.size
  ·subst q;refine U hCd ?_;rfl
  ·exact Mn scope.names _ a (by refine U (Dg _ _) ?_;exact Ik ha.1 (cq q)) ha.2
end
section
variable {h G:qb}
variable [C:Av]
variable {w:zb} {S:qb} {A:Xb} {X:wj} {T:Ca->Prop} {O:List Bb} {lo:Nat} {W P:Me} {K:Ve} {E:Bh} {n:Nat} {g:Gl} {Q:List Ca} {I N:St} {s:Ea} {v:V} {L D:Ca}
class inductive ki(w:zb)(S:qb)(A:Xb)(X:wj)(T:Ca->Prop)(O:List Bb)(lo:Nat)(W:Me):List Expr->List (St->Option (Bool×St))->Prop
 |nil:ki w S A X T O lo W [] []|cons {e es F Fs}:Xg w S A X T O lo W (isTrue e X (yc e X)) F->ki w S A X T O lo W es Fs->ki w S A X T O lo W (e::es) (F::Fs)
noncomputable def DH(z:List (St->Option (Bool×St)))(y:St):Option (Bool×St):=match z,y with|[],I=>J (Z,I)|F::a,I=>(F I).bind λp=>kn p.1 (DH a p.2) (J (ta,p.2))
theorem tQ{a:Bool->Ea->Prop}{b:ua->Ea->Prop}{d:B4}{s:Ea}:{e:List Expr}->a ta s->Qa d A (forIn e ta λc r=>if r=Z then do let ok<-isTrue c X (yc c X);pure (wf ok)else pure (wf r)) a b s:=by
 intro e
 induction e with
 |nil=>
  rintro h;exact U xx (Ba h)
 |cons c e f=>
  rintro h;exact U (un _ _ _ _) (ga (U (ge ia) (Ba (f h))))
noncomputable def jA(X:wj)(a:List Expr):Yl Bool:=forIn a Z λc r=>if r=Z then do let ok<-isTrue c X (yc c X);pure (wf ok)else pure (wf r)
theorem uQ{i:List Expr}{j:List (St->Option (Bool×St))}(h:ki w S A X T O lo W i j):Xg w S A X T O lo W (jA X i) (DH j):=by
 induction h with
 |nil=>exactλQ I s r d=>Ga.ret (wpAny_tests_nil (PB.wU r))| @cons e i F j h y z=>
  intro Q I s r d;refine(h Q I s r d).bind (t:=λb=>forIn i b λc r=>if r=Z then do let ok<-isTrue c X (yc c X);pure (wf ok)else pure (wf r)) (λb m c o l k p x=>Ga.ifB (λq=>?_) λq=>?_) λf q=>?_
  ·exact U (show b=Z from(x:b=m).trans q) (z c l o p (d.kx r k))
  ·exact U (show b=ta from(x:b=m).trans q) (Ga.ret (tQ (PB.wU p)))
  ·unfold jA
   exact U (un _ _ _ _) (ga (U (Fd rfl) (ga (Da q (λa o u=>Ba u) λu u x=>x))))
inductive PM(w:zb)(S:qb)(X:wj)(T:Ca->Prop)(O:List Bb)(lo:Nat)(W:Me)(D:Ca)(acc:List ua)(Q:List Ca)(s:Ea)(N:St)(vs:List V)(s':Ea):Prop
 |mk (ρ':List Ca) (vals:List ua) (m':Nat):Ah s s'->Kp (λa=>T a\/a=D) Q s.heap s'.heap ρ'->R w S ρ' N s'.heap->Lc w S X T O lo W ρ' s'.heap->s'.heap.get? D=J (listOf (acc++vals).toArray m')->D∉ρ'->ve w ρ' s'.heap vs vals->PM w S X T O lo W D acc Q s N vs s'
theorem PM.after{b:List ua}{s1 i:Ea}{c:List Ca}{j:List V}(t:Ah s s1)(k:Kp T Q s.heap s1.heap c)(p:PM w S X T O lo W D b c s1 N j i):PM w S X T O lo W D b Q s N j i:=by
 obtain⟨f,e,l,m,o,r,a,d,n,x⟩:=p;exact⟨f,e,l,t.trans m,(k.weaken λu q=>.inl q).trans o,r,a,d,n,x⟩
structure QX(S:qb)(T:Ca->Prop)(D:Ca)(acc:List ua)(Q:List Ca)(h:qb):Prop where
 at_:∃m,h.get? D=J (listOf acc.toArray m)
 out:D∉Q
 own:¬T D
 wK:S.get? D=Y
def D5(w:zb)(S:qb)(A:Xb)(X:wj)(T:Ca->Prop)(O:List Bb)(lo:Nat)(W:Me)(D:Ca)(t:Yl Unit)(r:St->Option (List V×St)):Prop:=
 ∀Q I s a b N,R w S Q I s.heap->Lc w S X T O lo W Q s.heap->QX S T D a Q s.heap->a.length+b.length<=4096->r I=J (b,N)->Qa (fb pg w) A t (λu=>PM w S X T O lo W D a Q s N b) No s
theorem QX.kp{a:List ua}{b:List Ca}{c:Ca->Prop}(d:QX S T D a Q h)(k:Kp c Q h G b)(f:¬c D):QX S T D a b G:=by
 obtain⟨m,e⟩:=d.at_;exact⟨⟨m,k.keep _ _ e d.out f⟩,λq=>(by rcases k.fresh _ q with q|q;exact d.out q;rw[e]at q;exact ja q.symm),d.own,d.wK⟩
theorem Lc.kpD(f:Lc w S X T O lo W Q h)(hD:¬T D)(t:∀o,h.get? D=J o->¬Ih o/\(∀v,o.data≠ .cell v))(y:∀b o,b≠D->h.get? b=J o->G.get? b=J o):Lc w S X T O lo W Q G:=by
 refine aa λl=>?_;obtain⟨m,hm,hv⟩:=f.ns;refine l ?_;have u:∀b z,h.get? b=J z->Ih z->G.get? b=J z:=λb z e im=>y b z (λq=>(t z (q▸e)).1 im) e;have j:∀c v,h.IsCell c v->G.IsCell c v:=λc v B=>by obtain⟨o,e,d⟩:=B;exact⟨o,y c o (λq=>(t o (q▸e)).2 v d) e,d⟩
 exact⟨f.kind,f.globals,f.builtins,f.len,⟨m,(by
  refine aa λl=>?_;obtain⟨o,a,d,e,q⟩:=hm;refine l ?_;exact⟨o,a,d,y _ _ (λq=>hD (q▸f.loc.2.2)) e,q⟩),λx i v a b c=>(by
  refine aa λl=>?_;obtain⟨d,p,r⟩:=hv x i v a b c;refine l ?_;exact⟨d,p,r.mono (Ja _) u⟩)⟩,λx i v a b c=>(by
  refine aa λl=>?_;obtain⟨c,d,p,r,F⟩:=f.cells x i v a b c;refine l ?_;exact⟨c,d,p,j _ _ r,F.mono (Ja _) u⟩),f.loc,λx k a b=>(by
  refine aa λl=>?_;obtain⟨c,v,p,r⟩:=f.has x k a b;refine l ?_;exact⟨c,v,p,j _ _ r⟩),f.apart,λx i a b=>(f.own x i a b).imp_right λR=>by obtain⟨q,c,v,p,r,F⟩:=R;exact⟨q,c,v,p,j _ _ r,F⟩,f.eoh,λa e=>by
  obtain⟨o,ho⟩:=Oa.mp (f.eol a e);refine U (y a o (λq=>hD (q▸e)) ho) ?_;rfl⟩
theorem KX.kp{c:List Ca}(b:Lc w S X T O lo W Q h)(k:KX X.locals Q h G c):Kp T Q h G c:=k.toKp.weaken λa q=>by subst q;exact b.loc.2.2
theorem QS{e:Expr}{F:St->Option (V×St)}(z:uc w S A X T O lo W (yc e X) F):
 D5 w S A X T O lo W D (do let _<-call (.builtin "list.append") [.ref D,<-yc e X];pure ()) (λI=>(F I).map λp=>([p.1],p.2)):=λQ I s B vs N r c d R e'=>re e' λp e1 e2=>by
 obtain⟨rfl,rfl⟩:=Ta e2;refine ga (Da (z Q I s r c _ _ e1) (λa k p1=>?_) λu u x=>x);refine aa λu=>?_;obtain⟨f,t1,k1,r1,x1⟩:=p1;have j:=k1.kp c;have l:=d.kp j d.own;obtain⟨m,x⟩:=l.at_;refine u ?_;clear u;refine ga (append_at (s:=k) x (λG hs y=>Ba ?_) (by refine U Hb (U Af ?_);exact Za (Za (Nc _ _) R) (by exact We _ _)));have t:∀b o,b≠D->k.heap.get? b=J o->G.get? b=J o:=λb o n e=>(hs.2 b n).trans e;have i:∀o,k.heap.get? D=J o->¬Ih o/\(∀v,o.data≠ .cell v):=λo e=>ba (x.symm.trans e)▸⟨yt,λv q=>nomatch q⟩;have k2:Kp (λa=>T a\/a=D) f k.heap G f:=Kp.beside (wr:=λa=>a=D) (λa o n e=>t a o n e) λa q o e=>by subst q;exact⟨(i o e).1,.inr rfl,by refine U y ?_;rfl⟩
 exact⟨f,[a],m+1,t1.trans rfl,(j.weaken λa q=>.inl q).trans k2,r1.beside (wr:=λa=>a=D) (λa o n e=>t a o n e) λa q=>by subst q;exact⟨l.out,d.wK,λo e=>(i o e).1⟩,(c.kx r k1).kpD d.own i t,y.trans (by exact U (kL _ _) rfl),l.out,ve.one (k2.vr x1)⟩
theorem Lc.weaken(d:Lc w S X T O lo P Q h)(j:W.length=P.length)(f:∀(i:Nat)(v:V),W[i]?=J (J v)->P[i]?=J (J v)):Lc w S X T O lo W Q h:=by
 refine aa λk=>?_;obtain⟨m,e,l⟩:=d.ns;exact k (⟨d.kind,d.globals,d.builtins,j.trans d.len,⟨m,e,λx i v a b c=>l x i v a b (f i v c)⟩,λx i v a b c=>d.cells x i v a b (f i v c),d.loc,d.has,d.apart,d.own,d.eoh,d.eol⟩)
theorem UP{i:Nat}(h:free W i=Z):W.length=(W.set i (J v)).length/\∀(j:Nat)(x:V),W[j]?=J (J x)->(W.set i (J v))[j]?=J (J x):=
 ⟨(yb ..).symm,λj x q=>by
  have:i≠j:=λz=>by unfold free at h;rw[z,q]at h;exact zc h ia
  refine U (Xc this) ?_;exact q⟩
theorem VE:∀{is:List Nat}{b:List V}{W P:Me},zk is b W=J P->W.length=P.length/\∀(j:Nat)(x:V),W[j]?=J (J x)->P[j]?=J (J x):=by
 intro is
 induction is with
 |nil=>intro b W P h;induction b using ma with|nil=>refine Bd (ba h) ?_;exact⟨rfl,λu u q=>q⟩|cons y z=>exact ja h
 |cons i is d=>
  intro b W P h
  induction b using ma with
  |nil=>exact ja h|cons v e=>
   have q:=Li (x:=zk is e (W.set i (J v))) h;have a:=UP (v:=v) q.1;have c:=d q.2;exact⟨a.1.trans c.1,λj x q=>c.2 j x (a.2 j x q)⟩
theorem GL{t:CT}(h:Hj t v W=J P):W.length=P.length/\∀(j:Nat)(x:V),W[j]?=J (J x)->P[j]?=J (J x):=by
 refine aa λa=>?_
 induction t with
 |x i=>
  refine a ?_;have q:=Li (x:=J (W.set i (J v))) h;exact Bd (ba q.2) (UP q.1)
 |t is=>refine a ?_;exact bb h λc d b=>VE b
noncomputable def u7(a:Expr)(b:ua)(X:wj):Yl Unit:=do let _<-call (.builtin "list.append") [b,<-yc a X]
def innerT(e:Expr)(a:Nat)(d:Expr)(b:ua)(X:wj)(k:Yl Fin)(z:List jd):Yl Fin:=match z with
 |[]=>u7 d b X>>=λu=>k|c::y=>do
  let x<-yc c.iter X
  Yj c.iter.pos
  if c.is_async !=0 then do
   let x<-foldedIterable c.iter x
   let it<-aj [x] (if c.is_async !=0 then asyncIter x else iw x)
   let _<-qda (.compStart e (a+1) it b X) X
   k
  else do
   let x<-cx c.iter X x
   let it<-aj [x] (if c.is_async !=0 then asyncIter x else iw x)
   let _<-qda (.compStart e (a+1) it b X) X
   k
theorem XA{f:Expr}{b rest:List jd}{c a:Expr}{e:List Expr}{d:Scope}{i:Nm}{k j:ua}:
 qbw (.ListComp f (b++⟨c,a,e,0⟩::rest) d i) b.length k j X=(do
  Yj a.pos
  match<-Ep k with
  |none=>pure (.done .next)|some v=>
   Sp c k v
   assign c X v
   let ok<-jA X e
   if ok=Z then innerT (.ListComp f (b++⟨c,a,e,0⟩::rest) d i) b.length f j X (again (.compLoop (.ListComp f (b++⟨c,a,e,0⟩::rest) d i) b.length k j X)) rest
   else again (.compLoop (.ListComp f (b++⟨c,a,e,0⟩::rest) d i) b.length k j X)):=by
 have l:(b++(⟨c,a,e,0⟩:jd)::rest)[b.length+1]?=rest.head?:=by
  refine U (Ma (by exact te _)) ?_
  induction rest using ma<;>simp
 unfold qbw;simp only[(by simp:(b++(⟨c,a,e,0⟩:jd)::rest)[b.length]?=J ⟨c,a,e,0⟩),l]
 induction rest using ma with
 |nil=>rfl|cons m o=>rfl
end
section
variable {h G:qb} {i:Nat} {F:It} {C:Expr}
variable [z:Av]
variable {w:zb} {P:qb} {A:Xb} {W:wj} {eo:Ca->Prop} {lo:Nat} {O u:Me} {K:Ve} {t:Bh} {n:Nat} {g:Gl} {X:List Ca} {N S:St} {s:Ea} {v:V} {L D I:Ca} {sc:Sc}
theorem zN(x:pj w X h I i F):∃o,h.get? I=J o/\(o.cls=.type "list_iterator"\/o.cls=.type "tuple_iterator"\/o.cls=.type "range_iterator"):=by
 induction F with
 |st j=>
  rcases x with⟨f,k,m,_,_,o,e,c,d⟩|⟨a,b,_,_,e⟩
  ·exact⟨o,e,.inr (.inl c)⟩
  ·exact⟨_,e,.inr (.inr rfl)⟩
 |dyn l=>
  obtain⟨a,_,o,e,c,d⟩:=x;exact⟨o,e,.inl c⟩
theorem rY{v:ua}(c:v=.type "list_iterator"\/v=.type "tuple_iterator"\/v=.type "range_iterator"):∃a,v=.type a/\(a="list_iterator"\/a="tuple_iterator"\/a="range_iterator"):=c.elim (λh=>⟨_,h,.inl rfl⟩) λc=>c.elim (λh=>⟨_,h,.inr (.inl rfl)⟩) λh=>⟨_,h,.inr (.inr rfl)⟩
theorem AB{B:B4}{E:ua->Ea->Prop}{val:ua}{Q:Unit->Ea->Prop}(x:pj w X s.heap I i F)(h:Q () s):Qa B A (Sp C (.ref I) val) Q E s:=by
 obtain⟨o,e,c⟩:=zN x;unfold Sp
 induction C using Expr.casesOn<;>first|exact Ba h|skip
 all_goals
  induction val<;>first|exact Ba h|skip
  refine ga (K3 e ?_);obtain⟨oc,od,dt,sl⟩:=o;refine QV ?_ h;obtain⟨nm,hc,hn⟩:=rY c;cases hc
  induction dt<;>first|rfl|(rcases hn with rfl|rfl|rfl<;>rfl)
def GoodK(w:zb)(P:qb)(A:Xb)(W:wj)(eo:Ca->Prop)(d:List Bb)(lo:Nat)(O:Me)(D:Ca)(a:Yl Fin->Yl Fin)(r:St->Option (List V×St)):Prop:=
 ∀(k:Yl Fin) X N s b c S(Q:Fin->Ea->Prop)(E:ua->Ea->Prop),R w P X N s.heap->Lc w P W eo d lo O X s.heap->QX P eo D b X s.heap->b.length+c.length<=4096->r N=J (c,S)->
  (∀e,PM w P W eo d lo O D b X s S c e->Qa (fb pg w) A k Q E e)->Qa (fb pg w) A (a k) Q E s
theorem Nq(r:R w P X N h)(x:pj w X h I i F)(b:P.get? I=Y)(k:Jk I h G):R w P X N G:=by
 obtain⟨o,e,c,_⟩:=Dh x;exact r.beside (wr:=λa=>a=I) (λa o n e=>k a o n e) λa q=>by subst q;exact⟨x.notIn r,b,λf d=>ba (e.symm.trans d)▸c⟩
theorem Mq{a:List Bb}(E:Lc w P W eo a lo O X h)(x:pj w X h I i F)(hI:¬eo I)(k:Jk I h G):Lc w P W eo a lo O X G:=by
 obtain⟨o,e,b,f,d⟩:=Dh x;exact E.kpD hI (λj c=>by cases e.symm.trans c;exact⟨b,λv q=>by rw[d]at q;cases q⟩) k
structure Kl(eo:Ca->Prop)(X:List Ca)(h G:qb)(ρ':List Ca):Prop where
 pre:X<+:ρ'
 fresh:∀a∈ρ',a∈X\/h.get? a=Y
 keep:∀a o,h.get? a=J o->a∉X->¬eo a->G.get? a=J o
 imm:∀a o,h.get? a=J o->Ih o->G.get? a=J o
theorem Kl.before{eo:Ca->Prop}{X ρ1 ρ2:List Ca}{h1 h2:qb}(x:Kp eo X h h1 ρ1)(y:Kl eo ρ1 h1 h2 ρ2):Kl eo X h h2 ρ2 where
 pre:=x.pre.trans y.pre
 fresh a ha:=(y.fresh a ha).elim (x.fresh a) λq=>.inr (by
  induction e:h.get? a with
  |none=>rfl|some o=>have:=x.live a (by refine U e ?_;rfl);rw[q]at this;exact zc this ia)
 keep a o e n1 n2:=y.keep a o (x.keep a o e n1 n2) (λq=>(x.fresh a q).elim n1 λq=>by rw[q]at e;exact ja e) n2
 imm a o e i:=y.imm a o (x.imm a o e i) i
theorem IE(x:pj w X h I i F)(k:Jk I h G):∀b a,h.get? b=J a->Ih a->G.get? b=J a:=by
 obtain⟨o,e,c,_⟩:=Dh x;exact OB e c k
theorem Js(x:pj w X h I i F)(k:Jk I h G):Kl (λa=>(eo a\/a=D)\/a=I) X h G X:=
 ⟨Ja _,λb h=>.inl h,λa o e b n=>k a o (λq=>n (.inr q)) e,IE x k⟩
theorem Hy{j:Nat}(x:pj w X h I i F)(k:Jk I h G)(c:pj w X G I j F):Kp (λa=>(eo a\/a=D)\/a=I) X h G X:=
 have b:=Js (eo:=eo) (D:=D) x k
 ⟨b.pre,b.fresh,b.keep,b.imm,λa e=>by
  obtain⟨o,d⟩:=Oa.mp e;by_cases q:a=I
  ·obtain⟨l,f,_⟩:=Dh c;refine U q (U f ?_);rfl
  ·refine U (k a o q d) ?_;rfl⟩
inductive YK [z:Av](w:zb)(P:qb)(W:wj)(eo:Ca->Prop)(lo:Nat)(O:Me)(D:Ca)(I:Ca)(sc:Sc)(X:List Ca)(s:Ea)(acc:List ua)(vs:List V)(S:St)(q:Br)(s':Ea):Prop
 |mk (ρ':List Ca) (vals:List ua) (m':Nat):q=.ok .next->Ah s s'->Kl (λa=>(eo a\/a=D)\/a=I) X s.heap s'.heap ρ'->R w P ρ' S s'.heap->Lc w P W eo sc.sl lo O ρ' s'.heap->s'.heap.get? D=J (listOf (acc++vals).toArray m')->D∉ρ'->ve w ρ' s'.heap vs vals->YK w P W eo lo O D I sc X s acc vs S q s'
def zX(a:List (St->Option (Bool×St)))(b:St->Option (List V×St))(N:St):Option (List V×St):=(DH a N).bind λq=>kn q.1 (b q.2) (J ([],q.2))
def Ix(a:CT)(O:Me)(c:Me->List (St->Option (Bool×St)))(d:Me->St->Option (List V×St))(v:V)(N:St):Option (List V×St):=(Hj a v O).bind λb=>zX (c b) (d b) N
theorem vV{B:List Bb}{l:List Expr}{Fs:List (St->Option (Bool×St))}{rr:St->Option (List V×St)}{T:Yl Fin->Yl Fin}(R:ki w P A W eo B lo O l Fs)(hK:GoodK w P A W eo B lo O D T rr):
 GoodK w P A W eo B lo O D (λk=>jA W l>>=λa=>if a=Z then T k else k) (zX Fs rr):=λk X N s x2 vs S Q E' r E d o e h=>bb e λp e1 y=>ga (Da (uQ R X N s r E _ _ e1) (λb s1 p1=>by
 obtain⟨x,t1,k1,r1,x1⟩:=p1;have E1:=E.kx r k1;have j:=k1.kp E;have d1:=d.kp j d.own
 induction b with
 |true=>
  rw[<-(x1:Z=p.1)]at y;exact hK k x p.2 s1 x2 vs S Q E' r1 E1 d1 o y λa q=>h a (q.after t1 j)
 |false=>
  rw[<-(x1:ta=p.1)]at y;obtain⟨rfl,rfl⟩:=Ta (ba y);obtain⟨m,hm⟩:=d1.at_;exact h s1 ⟨x,[],m,t1,j.weaken λa q=>.inl q,r1,E1,by refine U (Ub _) ?_;exact hm,d1.out,.nil⟩) λc c f=>f.elim)
theorem UG{T:Expr}{pre rest:List jd}{B:Expr}{x3:List Expr}{l:Scope}{x8:Nm}{b:CT}{Fs:Me->List (St->Option (Bool×St))}{rr:Me->St->Option (List V×St)}
 (AK:Eg n A)(ht:Tk sc C=J b)(hg:Rt lo b=Z)
 (x9:∀v y,Hj b v O=J y->ki w P A W eo sc.sl lo y x3 (Fs y)/\GoodK w P A W eo sc.sl lo y D (λk=>innerT (.ListComp T (pre++⟨C,B,x3,0⟩::rest) l x8) pre.length T (.ref D) W k rest) (rr y))
 (y1:I≠D)(x5:¬eo I)(y4:P.get? I=Y):
 ∀(k i:Nat)(X:List Ca)(N:St)(s:Ea)(j:List ua)(vs:List V)(S:St),R w P X N s.heap->Lc w P W eo sc.sl lo O X s.heap->QX P eo D j X s.heap->pj w X s.heap I i F->j.length+vs.length<=4096->
  So k F i (Ix b O Fs rr) N=J (vs,S)->
  ch (fb pg w) A (.compLoop (.ListComp T (pre++⟨C,B,x3,0⟩::rest) l x8) pre.length (.ref I) (.ref D) W)
   (λq a=>YK w P W eo lo O D I sc X s j vs S q a) s:=by
 intro k
 induction k with
 |zero=>intro i X N s j vs S r E d x x6 e;exact ja e|succ k ih=>
  intro i X N s j vs S r E d x x6 e;refine bb e λo hi e=>dg ?_;show Qa _ A ((qbw (.ListComp T (pre++⟨C,B,x3,0⟩::rest) l x8) pre.length (.ref I) (.ref D) W).onRaise λx=>do Lz x W;Up x) _ _ s
  refine AA (Al λQ E0 hQ=>(U XA (ga (mc (ga (Da (aH AK r x hi) (λq s1 np=>?_) λc c f=>f.elim))))));obtain⟨m,hm⟩:=d.at_
  induction np with
  |done ho hq t1 k1=>
   rw[ho]at e;refine U hq ?_;obtain⟨rfl,rfl⟩:=Ta (ba e);exact Ba (hQ _ _ ⟨X,[],m,rfl,t1,Js x k1,Nq r x y4 k1,Mq E x x5 k1,by refine U (Ub _) ?_;exact k1 _ _ y1.symm hm,d.out,.nil⟩)
  |item v z9 ho hq t1 k1 xv x1=>
   rw[ho]at e;refine U hq (bb e λp e1 e2=>re e2 λp2 hr e3=>bb e1 λy y2 hT=>?_);have r1:=Nq r x y4 k1;have z3:=Hy (eo:=eo) (D:=D) x k1 x1;have d1:QX P eo D j X s1.heap:=⟨⟨m,k1 _ _ y1.symm hm⟩,d.out,d.own,d.wK⟩;have hB:=x9 v y y2;refine ga (AB (s:=s1) x1 (ga (Da (lM AK ht hg r1 (Mq E x x5 k1) xv (jS y2)) (λc s2 p2=>?_) λc c f=>f.elim)));obtain⟨t2,k2,r2,E2⟩:=p2;have x2:pj w X s2.heap I (i+1) F:=x1.keep (Ja _) k2.imm λo e=>k2.keep I o e (x1.notIn r1) x5;have z6:p2.2=S:=Gc QF e3;have y5:vs=p.1++p2.1:=(Gc lj e3).symm;rw[y5,Ha]at x6;refine vV hB.1 hB.2 _ X N s2 j p.1 p.2 _ _ r2 E2 (d1.kp k2 d.own) (by lia) hT λs4 p4=>?_;obtain⟨y6,x7,m4,t4,f,r4,E4,z7,y7,y8⟩:=p4;have y9:=GL y2;have x4:pj w y6 s4.heap I (i+1) F:=x2.keep f.pre f.imm λo e=>f.keep I o e (x2.notIn r2) λq=>q.elim x5 y1;refine Ba (hQ _ _ ⟨rfl,Fc (ih (i+1) y6 p.2 s4 (j++x7) p2.1 p2.2 r4 (E4.weaken y9.1 y9.2) ⟨⟨m4,z7⟩,y7,d.own,d.wK⟩ x4 (by refine U Ha (Bd y8.length ?_);lia) hr) λq s5 p5=>?_⟩);obtain⟨z8,y3,m5,g0,t5,kl,g5,g6,g7,g8,g9⟩:=p5;exact⟨z8,x7++y3,m5,g0,((t1.trans t2).trans t4).trans t5,Kl.before (z3.trans ((k2.weaken λa q=>.inl (.inl q)).trans (f.weaken λa q=>.inl q))) kl,z6▸g5,g6,by refine Bd (Cc _ _ _) ?_;exact g7,g8,y5▸(y8.mono kl.pre kl.imm).append g9⟩
end
section
variable {i:Nat} {B:It} {P Q W e:Expr} {S:List Expr} {T:Scope} {O:Nm} {t:CT}
variable [q:Av]
variable {w:zb} {E:qb} {A:Xb} {X:wj} {N:Ca->Prop} {lo:Nat} {z u:Me} {K:Ve} {r:Bh} {n:Nat} {g:Gl} {G:List Ca} {C F:St} {s:Ea} {v:V} {L D I:Ca} {y:Sc}
theorem vJ{c:ua->Ea->Prop}{d:ua->Ea->Prop}(x:pj w G s.heap I i B)(h:d (.ref I) s):Qa (fb pg w) A (iw (.ref I)) d c s:=by
 refine aa λf=>?_
 induction B with
 |st j=>
  refine f (aa λf=>?_);rcases x with⟨t,k,m,_,_,e⟩|⟨a,b,_,_,e⟩
  ·exact f (wpAny_pyIter_tupleiter e h)
  ·exact f (wpAny_pyIter_rangeiter e h)
 |dyn l=>
  refine f (aa λf=>?_);obtain⟨a,_,e⟩:=x;exact f (wpAny_pyIter_listiter e h)
theorem mq{pre rest:List jd}{a:ua}{b:Br->Ea->Prop}(x:pj w G s.heap I i B)
 (h:ch (fb pg w) A (.compLoop (.ListComp P (pre++⟨Q,W,S,0⟩::rest) T O) pre.length (.ref I) a X) b s):
 ch (fb pg w) A (.compStart (.ListComp P (pre++⟨Q,W,S,0⟩::rest) T O) pre.length (.ref I) a X) b s:=by
 refine dg ?_;show Qa _ A ((compStart (.ListComp P (pre++⟨Q,W,S,0⟩::rest) T O) pre.length (.ref I) a X).onRaise λx=>do Lz x X;Yj theWindowsPlace) _ _ s
 refine wpAny_notedAt ?_;unfold compStart;have c:(clausesOf (.ListComp P (pre++⟨Q,W,S,0⟩::rest) T O))[pre.length]?=J ⟨Q,W,S,0⟩:=by
  show(pre++(⟨Q,W,S,0⟩:jd)::rest)[pre.length]?=_
  simp
 simp only[c];refine ga (Hh (wpAny_ite ?_))
 split
 ·first
   |exact ga (Ba (Ba (vR rfl h)))|exact Ba (vR rfl h)
 ·exact ga (Uj (ga (mc (ga (vJ x (Ba (vR rfl h)))))))
theorem nJ{d:Nat}{m:List Bb}{a:St->Option (V×St)}(o:uc w E A X N m lo z (yc P X) a):
 GoodK w E A X N m lo z D (λk=>innerT e d P (.ref D) X k []) (λC=>(a C).map λp=>([p.1],p.2)):=λk G C s l x F b E' c f R hl e' hq=>
 ga (Da (QS o G C s l x F c f R hl e') (λh j p=>hq j p) λh h j=>j.elim)
theorem Jz(h:∀a b c,e≠ .Set a b c)(X:wj)(x:ua):cx e X x=pure x:=by
 induction e using Expr.casesOn<;>first|rfl|exact zc rfl (h _ _ _)
theorem FJ(h:A.handled=Y):A.mark Y=A:=by obtain⟨b,d,fr,c,a⟩:=A;subst h;rfl
theorem Kl.off{h p l:qb}{j:List Ca}(k2:∀b o,h.get? b=J o->p.get? b=J o)(hI:h.get? I=Y)(c:R w E G C h)(k:Kl (λa=>(N a\/a=D)\/a=I) G p l j)(r3:R w E j F l)(m:∀a,N a\/a=D->(l.get? a).isSome=Z):Kp (λa=>N a\/a=D) G h l j:=
 have b:∀a o,h.get? a=J o->a∉G->¬(N a\/a=D)->l.get? a=J o:=λa o e n1 n2=>k.keep a o (k2 a o e) n1 λd=>d.elim n2 ((λa o e d=>by rw[d,hI]at e;exact ja e:∀a o,h.get? a=J o->a≠I) a o e)
 ⟨k.pre,λa ha=>(k.fresh a ha).imp_right λd=>(by
  induction f:h.get? a with
  |none=>rfl|some o=>rw[k2 a o f]at d;exact ja d.symm),b,λa o e f=>k.imm a o (k2 a o e) f,λa e=>by
  obtain⟨o,ho⟩:=Oa.mp e;by_cases f:a∈G
  ·obtain⟨x,hx,_⟩:=r3.live (Kh k.pre f)
   refine U hx ?_;rfl
  ·by_cases x:N a\/a=D
   ·exact m a x
   ·refine U (b a o ho f x) ?_;rfl⟩
theorem MV{o rest:List jd}{Fs:Me->List (St->Option (Bool×St))}{rr:Me->St->Option (List V×St)}{k:Yl Fin}{b:Fin->Ea->Prop}{E':ua->Ea->Prop}{p:List ua}{vs:List V}{x:ua}
 (AK:Eg n A)(ht:Tk y Q=J t)(hg:Rt lo t=Z)
 (x1:∀v a,Hj t v z=J a->ki w E A X N y.sl lo a S (Fs a)/\GoodK w E A X N y.sl lo a D (λk=>innerT (.ListComp P (o++⟨Q,W,S,0⟩::rest) T O) o.length P (.ref D) X k rest) (rr a))
 (c:R w E G C s.heap)(f:Lc w E X N y.sl lo z G s.heap)(d:QX E N D p G s.heap)(x3:p.length+vs.length<=4096)(xv:VR w G s.heap v x)(x4:bj v C=J B)(e:So 5000 B 0 (Ix t z Fs rr) C=J (vs,F))
 (hq:∀a,PM w E X N y.sl lo z D p G s F vs a->Qa (fb pg w) A k b E' a):
 Qa (fb pg w) A (iw x) (λB s2=>Qa (fb pg w) A (do let _<-qda (.compStart (.ListComp P (o++⟨Q,W,S,0⟩::rest) T O) o.length B (.ref D) X) X;k) b E' s2) E' s:=
 Da (Dz c xv x4) (λh s2 p2=>by
  obtain⟨x5,t2,k2,x2⟩:=p2;refine U x5 ?_;have j:s.heap.get? s.heap.objs.size=Y:=Fb _;refine aa λnq=>?_;obtain⟨m,hm⟩:=d.at_;refine nq ?_;have x6:¬N s.heap.objs.size:=λh=>by have:=f.eol _ h;rw[j]at this;exact zc this ia
  refine ga (wpAny_runOwn (U (FJ AK.hh) (mq x2 (Fc (UG AK ht hg x1 (λh=>by rw[<-h,j]at hm;exact ja hm:s.heap.objs.size≠D) x6 (Sd c j) 5000 0 G C s2 p vs F (c.wI k2) (f.wI c k2) ⟨⟨m,k2 _ _ hm⟩,d.out,d.own,d.wK⟩ x2 x3 e) λh s3 p3=>?_))));obtain⟨x7,l,m3,rfl,t3,kl,g5,g6,g7,g8,g9⟩:=p3;exact hq _ ⟨x7,l,m3,t2.trans t3,kl.off k2 j c g5 (λa h=>h.elim (g6.eol a) λh=>by refine U h (U g7 ?_);rfl),g5,g6,g7,g8,g9⟩) λj j l=>l.elim
theorem lE{o rest:List jd}{R:jd}{Fi:St->Option (V×St)}{Fs:Me->List (St->Option (Bool×St))}{rr:Me->St->Option (List V×St)}
 (AK:Eg n A)(x2:∀a b c,W≠ .Set a b c)(ht:Tk y Q=J t)(hg:Rt lo t=Z)(hF:uc w E A X N y.sl lo z (yc W X) Fi)
 (c:∀v b,Hj t v z=J b->ki w E A X N y.sl lo b S (Fs b)/\GoodK w E A X N y.sl lo b D (λk=>innerT (.ListComp P ((o++[R])++⟨Q,W,S,0⟩::rest) T O) (o++[R]).length P (.ref D) X k rest) (rr b)):
 GoodK w E A X N y.sl lo z D (λk=>innerT (.ListComp P (o++R::⟨Q,W,S,0⟩::rest) T O) o.length P (.ref D) X k (⟨Q,W,S,0⟩::rest))
  (λC=>(Fi C).bind λp=>(bj p.1 p.2).bind λB=>So 5000 B 0 (Ix t z Fs rr) p.2):=λk G C s x4 vs F f E' h j d b e hq=>bb e λp e1 e2=>bb e2 λB e3 e4=>ga (Da (hF G C s h j _ _ e1) (λa s1 p1=>by
 refine aa λnq=>?_;obtain⟨x5,t1,k1,r1,x1⟩:=p1;refine nq ?_;have x3:=k1.kp j;refine ga (mc ?_);show Qa _ _ (do
  let x<-cx W X a
  let B<-aj [x] (iw x)
  let _<-qda (.compStart (.ListComp P (o++R::⟨Q,W,S,0⟩::rest) T O) (o.length+1) B (.ref D) X) X
  k) _ _ _
 refine U (Jz x2 _ _) (U (show o++R::⟨Q,W,S,0⟩::rest=(o++[R])++⟨Q,W,S,0⟩::rest by rw[Cc];rfl) (U (show o.length+1=(o++[R]).length by rw[Ha];rfl) ?_));exact ga (Ba (ga (dc (MV AK ht hg c r1 (j.kx h k1) (d.kp x3 d.own) b x1 e3 e4 λm l=>hq m (l.after t1 x3)))))) λl l m=>m.elim)
end
section
variable {B N W:Expr} {Q:List Expr} {X:Scope} {z:Nm} {t:CT}
variable [o:Av]
variable {w:zb} {S:qb} {A:Xb} {T:wj} {u:Ca->Prop} {lo:Nat} {y r:Me} {K:Ve} {p:Bh} {n:Nat} {g:Gl} {E:List Ca} {x F:St} {s:Ea} {v:V} {L D I:Ca} {G sc':Sc}
inductive bW(w:zb)(S:qb)(D I C:Ca)(E:List Ca)(s:Ea)(vs:List V)(F:St)(q:Br)(s':Ea):Prop
 |mk (ρ':List Ca) (vals:List ua) (m:Nat) (mC:Bb->Option ua):q=.ok .next->Ah s s'->Kl (λa=>a=D\/a=I) E s.heap s'.heap ρ'->R w S ρ' F s'.heap->s'.heap.Ns C mC->C∉ρ'->S.get? C=Y->s'.heap.get? D=J (listOf vals.toArray m)->D∉ρ'->ve w ρ' s'.heap vs vals->bW w S D I C E s vs F q s'
theorem hM{rest:List jd}{Fs:Me->List (St->Option (Bool×St))}{rr:Me->St->Option (List V×St)}{it:It}{O:List V}
 (AK:Eg n A)(C:Du G X sc')(hk:T.scope.names=G.kinds)(ht:Tk sc' N=J t)(hg:Rt G.sl.length t=Z)
 (j:∀a c D,a.scope.names=sc'.kinds->∀v b,Hj t v (y++Ia (Yg X.names).length Y)=J b->
  ki w S A a c sc'.sl G.sl.length b Q (Fs b)/\GoodK w S A a c sc'.sl G.sl.length b D (λk=>innerT (.ListComp B (⟨N,W,Q,0⟩::rest) X z) 0 B (.ref D) a k rest) (rr b))
 (b:R w S E x s.heap)(c:Lc w S T u G.sl lo y E s.heap)(d:pj w E s.heap I 0 it)(hD:s.heap.get? D=J (listOf ([]:List ua).toArray 0))(x1:D∉E)(x2:S.get? D=Y)(x3:S.get? I=Y)(x5:I≠D)(x6:O.length<4096)
 (e:So 5000 it 0 (Ix t (y++Ia (Yg X.names).length Y) Fs rr) x=J (O,F)):
 ch (fb pg w) A (.compStart (.ListComp B (⟨N,W,Q,0⟩::rest) X z) 0 (.ref I) (.ref D) (jo s X T)) (bW w S D I s.heap.objs.size E s O F) {s with heap:=Zf s X}:=by
 refine aa λnq=>?_;obtain⟨E4,i,_⟩:=YA (s:=s) C hk b c;refine nq ?_;have k:=Qo (s:=s) (scope:=X);have l:∀a f,s.heap.get? a=J f->¬QD s X a:=λa f e q=>Vd.mpr q.1 (gc e);have hI:∃f,s.heap.get? I=J f:=by obtain⟨f,e,_⟩:=Dh d;exact⟨f,e⟩
 have x4:pj w E (Zf s X) I 0 it:=d.keep (Ja _) (λa f e h=>k _ _ e) λf e=>k _ _ e;refine mq (pre:=[]) (s:={s with heap:=Zf s X}) x4 (Fc (UG (pre:=[]) (sc:=sc') (s:={s with heap:=Zf s X}) AK ht hg (j (jo s X T) (QD s X) D i) x5 (hI.elim λf e=>l I f e) x3 5000 0 E x [] O F (b.wI k) E4 ⟨⟨0,k _ _ hD⟩,x1,l D _ hD,x2⟩ x4 (by refine U DR (U (lh _) ?_);exact vd x6) e) λq s5 p5=>?_);refine aa λnq=>?_;obtain⟨x7,m,m5,hq,t5,P,g5,g6,g7,g8,g9⟩:=p5;obtain⟨mC,hC,_⟩:=g6.ns;refine nq ?_;exact⟨x7,m,m5,mC,hq,Ah.trans (s':={s with heap:=Zf s X}) rfl t5,⟨P.pre,λa ha=>(P.fresh a ha).imp_right λq=>(by
  induction h:s.heap.get? a with
  |none=>rfl|some f=>exact nomatch (k a f h).symm.trans q),λa f e n1 h=>P.keep a f (k a f e) n1 λq=>q.elim (λq=>q.elim (l a f e) λq=>h (.inl q)) λq=>h (.inr q),λa f e im=>P.imm a f (k a f e) im⟩,g5,hC,g6.loc.1,g6.loc.2.1,g7,g8,g9⟩
theorem CS{h m j:qb}{f:List Ca}(k:∀a b,h.get? a=J b->m.get? a=J b)(O:h.get? D=Y)(hI:h.get? I=Y)(P:L∉E)(i:Kl (λa=>a=D\/a=I) E m j f)(r5:R w S f F j):KX L E h j f:=
 have d:∀a b,h.get? a=J b->a∉E->j.get? a=J b:=λa b e l=>i.keep a b (k a b e) l ((λa b e q=>q.elim (λq=>by rw[q,O]at e;exact ja e) λq=>by rw[q,hI]at e;exact ja e:∀a b,h.get? a=J b->¬(a=D\/a=I)) a b e)
 ⟨⟨i.pre,λa ha=>(i.fresh a ha).imp_right λq=>(by
  induction c:h.get? a with
  |none=>rfl|some b=>exact nomatch (k a b c).symm.trans q),λa b e l c=>d a b e l,λa b e C=>i.imm a b (k a b e) C,λa e=>by
  obtain⟨b,ho⟩:=Oa.mp e;by_cases C:a∈E
  ·obtain⟨c,hx,_⟩:=r5.live (Kh i.pre C)
   refine U hx ?_;rfl
  ·refine U (d a b ho C) ?_;rfl⟩,λm0 c=>by obtain⟨b,es,ep,e1,e2⟩:=c;exact⟨b,es,ep,d _ _ e1 P,e2⟩⟩
def dG(k:Nat)(t:CT)(y:Me)(b:St->Option (V×St))(c:Me->List (St->Option (Bool×St)))(d:Me->St->Option (List V×St))(x:St):Option (V×St):=(b x).bind λa=>(bj a.1 a.2).bind λe=>(So 5000 e 0 (Ix t (y++Ia k Y) c d) a.2).bind λq=>cj q.1 q.2
theorem Qx{rest:List jd}{Fi:St->Option (V×St)}{Fs:Me->List (St->Option (Bool×St))}{rr:Me->St->Option (List V×St)}{use:Option (ua->Yl Unit)}{d:ua->Ea->Prop}
 (AK:Eg n A)(C:Du G X sc')(hk:T.scope.names=G.kinds)(x5:∀b a c,W≠ .Set b a c)(ht:Tk sc' N=J t)(hg:Rt G.sl.length t=Z)(hF:uc w S A T u G.sl lo y (yc W T) Fi)
 (x3:∀a e D,a.scope.names=sc'.kinds->∀v c,Hj t v (y++Ia (Yg X.names).length Y)=J c->
  ki w S A a e sc'.sl G.sl.length c Q (Fs c)/\GoodK w S A a e sc'.sl G.sl.length c D (λk=>innerT (.ListComp B (⟨N,W,Q,0⟩::rest) X z) 0 B (.ref D) a k rest) (rr c))
 (f:R w S E x s.heap)(h:Lc w S T u G.sl lo y E s.heap)
 (e:dG (Yg X.names).length t y Fi Fs rr x=J (v,F))
 (x6:∀a s5 D c m,Ah s s5->KX T.locals E s.heap s5.heap a->R w S a F s5.heap->VR w a s5.heap v (.ref D)->c∉a->s.heap.get? c=Y->S.get? c=Y->s5.heap.Ns c m->compPost (fb pg w) A No use d (.ref D) c (.ok .next) s5):
 Qa (fb pg w) A (qdR (.ListComp B (⟨N,W,Q,0⟩::rest) X z) X T (qeY (⟨N,W,Q,0⟩::rest) z) (c5 []) ta (yc W T) use) d No s:=
 bb e λi e1 e=>bb e λit y2 e=>bb e λq y3 e=>wo (P:=λj j=>_) e λx7=>by
 refine wpAny_comprehension_free (g:=⟨N,W,Q,0⟩) (gs:=rest) rfl (λl=>Jz x5 T l) (YA (s:=s) C hk f h).2.2 C.kind C.loc (Da (hF E x s f h _ _ e1) (λb s1 p1=>?_) λj j l=>l);obtain⟨z3,t1,k1,r1,x1⟩:=p1;have E1:=h.kx f k1;refine Da (Dz r1 x1 y2) (λq2 c p2=>?_) λj j l=>l;obtain⟨y4,t2,k2,x2⟩:=p2;refine U y4 (qeB (IB ?_));have k3:∀b a,c.heap.get? b=J a->(c.heap.push (listOf ([]:List ua).toArray 0)).get? b=J a:=λb a e=>ya _ e;have x4:∀b a,s1.heap.get? b=J a->(c.heap.push (listOf ([]:List ua).toArray 0)).get? b=J a:=λb a e=>k3 b a (k2 b a e);have x8:s1.heap.get? s1.heap.objs.size=Y:=Fb _;have m:c.heap.get? c.heap.objs.size=Y:=Fb _;have k:∀b,c.heap.get? b=Y->s1.heap.get? b=Y:=λb q=>by
  induction l:s1.heap.get? b with
  |none=>rfl|some a=>exact nomatch (k2 b a l).symm.trans q
 have x9:∀b,s1.heap.get? b=Y->s.heap.get? b=Y:=λb q=>by
  induction l:s.heap.get? b with
  |none=>rfl|some a=>have:=k1.live _ (by refine U l ?_;rfl);rw[q]at this;exact zc this ia
 have y5:s1.heap.objs.size≠c.heap.objs.size:=by obtain⟨a,ho,_⟩:=Dh x2;exact Wb (gc ho)
 refine Fc (hM (s:={c with heap:=c.heap.push (listOf ([]:List ua).toArray 0)}) AK C hk ht hg x3 (r1.wI x4) (E1.wI r1 x4) (x2.keep (Ja _) (λb a e j=>k3 b a e) λa e=>k3 _ a e) (La _ rfl) (Jf r1 (k _ m)) (Sd r1 (k _ m)) (Sd r1 x8) y5 x7 y3) λq5 s5 p5=>?_;obtain⟨y6,y1,m5,mC,y7,t5,kl,g5,gC,y8,y9,g7,g8,g9⟩:=p5;refine U y7 ?_;have ev:=wo (P:=λv τ=>V.ref q.2.length=v/\q.2++[O.list q.1]=τ) e λj=>⟨rfl,rfl⟩;exact x6 (y6++[c.heap.objs.size]) s5 _ _ mC ((t1.trans t2).trans t5.past) ((k1.trans (CS x4 (k _ m) x8 E1.loc.1 kl g5)).add (x9 _ (k _ m))) (ev.2▸g5.add g8 (Sd r1 (k _ m)) ⟨y1,m5,g7,vd x7,g9.mono (Hc _ _) λb a e j=>e⟩) (ev.1▸.ref (Gr g5)) (λq=>(Vb.mp q).elim y8 λq=>(by refine U (Dg _ _) ?_;exact Hu _:(c.heap.push (listOf ([]:List ua).toArray 0)).objs.size≠c.heap.objs.size) (Ra.mp q)) (x9 _ (k _ (uk (by refine U (Dg _ _) ?_;exact te _):c.heap.get? (c.heap.push (listOf ([]:List ua).toArray 0)).objs.size=Y))) y9 gC
theorem bJ{rest:List jd}{P:St->Option (V×St)}{Fs:Me->List (St->Option (Bool×St))}{rr:Me->St->Option (List V×St)}
 (AK:Eg n A)(C:Du G X sc')(hk:T.scope.names=G.kinds)(j:∀a b c,W≠ .Set a b c)(ht:Tk sc' N=J t)(hg:Rt G.sl.length t=Z)(hF:uc w S A T u G.sl lo y (yc W T) P)
 (i:∀c e D,c.scope.names=sc'.kinds->∀v d,Hj t v (y++Ia (Yg X.names).length Y)=J d->
  ki w S A c e sc'.sl G.sl.length d Q (Fs d)/\GoodK w S A c e sc'.sl G.sl.length d D (λk=>innerT (.ListComp B (⟨N,W,Q,0⟩::rest) X z) 0 B (.ref D) c k rest) (rr d)):
 uc w S A T u G.sl lo y (yc (.ListComp B (⟨N,W,Q,0⟩::rest) X z) T) (dG (Yg X.names).length t y P Fs rr):=λE x s d f v F e=>by
 refine U (arm_eval_ListComp _ _ _ _ _) (Qx (use:=Y) AK C hk j ht hg hF i d f e λc s5 D R m t5 k5 r5 x5 c1 c2 c3 k=>⟨m,k,λh' l=>?_⟩);have O:∀b h,b≠R->s5.heap.get? b=J h->h'.get? b=J h:=λb h n e=>(l.2 b n).trans e;exact⟨c,t5.trans rfl,k5.but c2 O,r5.beside (wr:=λa=>a=R) (λa h n e=>O a h n e) (λa q=>by subst q;exact⟨c1,c3,λh e=>Cg k e⟩),x5.mono (Ja _) λa h e im=>O a h (λq=>Cg k (q▸e) im) e⟩
end
section
variable [P:Av]
variable {w:zb} {hb:qb} {A:Xb} {env:wj} {eo:Ca->Prop} {Q:List Bb} {lo:Nat} {me:Me} {K:Ve} {tab:Bh} {n N:Nat} {g:Gl} {cf:Nat->List V->St->Option (V×St)} {W:Sc}
theorem Ys.congr{d f:Type}{a:List Ca->qb->d->f->Prop}{t:Yl f}{r i:St->Option (d×St)}(h:Ys a w hb A env eo Q lo me t r)(e:∀b,i b=r b):Ys a w hb A env eo Q lo me t i:=λj b s R E v c q=>h j b s R E v c ((e b).symm.trans q)
theorem GoodK.congr{D:Ca}{t:Yl Fin->Yl Fin}{r i:St->Option (List V×St)}(h:GoodK w hb A env eo Q lo me D t r)(e:∀b,i b=r b):GoodK w hb A env eo Q lo me D t i:=λk j b s c m f a o R E d l q p=>h k j b s c m f a o R E d l ((e b).symm.trans q) p
theorem uc.out{t:Yl ua}{r:St->Option (V×St)}{y x:X}(h:J y=J x)(g:uc w hb A env eo Q lo me t r)(e:∀a,evX tab cf y me a=r a):uc w hb A env eo Q lo me t (λa=>evX tab cf x me a):=ba h▸Ys.congr g e
theorem Xg.out{t:Yl Bool}{r:St->Option (Bool×St)}{y x:B}(h:J y=J x)(g:Xg w hb A env eo Q lo me t r)(e:∀a,Tt tab cf y me a=r a):Xg w hb A env eo Q lo me t (λa=>Tt tab cf x me a):=ba h▸Ys.congr g e
structure Cx(w:zb)(hb:qb)(K:Ve)(tab:Bh)(g:Gl)(cf:Nat->List V->St->Option (V×St))(n:Nat):Prop where
 B:Ek hb K tab
 CO:Zp hb K tab
 GO:Uy hb K g
 SO:Fj w hb
 CF:Ci w hb cf n
structure Di(w:zb)(hb:qb)(A:Xb)(tab:Bh)(g:Gl)(cf:Nat->List V->St->Option (V×St))(N:Nat):Prop where
 E:∀W e x env eo lo me,env.scope.names=W.kinds->Eh g N W e=J x->uc w hb A env eo W.sl lo me (yc e env) (λσ=>evX tab cf x me σ)
 Es:∀W es xs env eo lo me pos,env.scope.names=W.kinds->tx g N W es=J xs->Ti w hb A env eo W.sl lo me (gj (qg pos (starEach es env))) (λσ=>Ji tab cf xs me σ)/\(∀e∈es,∀x p,e≠md x p)
 T:∀W e b env eo lo me,env.scope.names=W.kinds->sV g N W e=J b->Xg w hb A env eo W.sl lo me (isTrue e env (yc e env)) (λσ=>Tt tab cf b me σ)
 Ts:∀W es bs env eo lo me,env.scope.names=W.kinds->vQ g N W es=J bs->ki w hb A env eo W.sl lo me es (bs.map λb σ=>Tt tab cf b me σ)
 Gs:∀W gs xs env eo lo me D elt x pre g0 scope pos,env.scope.names=W.kinds->tV g N lo W gs=J xs->(∀me,uc w hb A env eo W.sl lo me (yc elt env) λσ=>evX tab cf x me σ)->
  GoodK w hb A env eo W.sl lo me D (λk=>innerT (.ListComp elt (pre++g0::gs) scope pos) pre.length elt (.ref D) env k gs) λσ=>evRest tab cf xs (λme σ=>evX tab cf x me σ) me σ
theorem Et{e:Expr}{x:X}(h:Eh g N W e=J x):∀y p,e≠md y p:=by
 rintro y p rfl
 induction N using Sa<;>exact ja h
theorem Gm{e:Expr}{x:X}(h:Eh g N W e=J x):∀a b c,e≠Expr.Set a b c:=by
 rintro a b c rfl
 induction N using Sa<;>exact ja h
theorem tC:∀(c:List B)(me:Me)(a:St),DH (c.map λb a=>Tt tab cf b me a) a=iy tab cf c me a:=by
 intro c
 induction c with
 |nil=>
  rintro me a;exact rfl
 |cons b c d=>
  rintro me a;exact Gc (λx=>(Tt tab cf b me a).bind x) (funext λp=>Gc (λz=>kn p.1 z (J (ta,p.2))) (d me p.2))
theorem Wu(t:CT)(me:Me)(d:List B)(e:Me->St->Option (List V×St)):Ix t me (λa=>d.map λb c=>Tt tab cf b a c) e=λv c=>(Hj t v me).bind λa=>(iy tab cf d a c).bind λq=>kn q.1 (e a q.2) (J ([],q.2)):=
 funext λv=>funext λc=>Gc (λx=>(Hj t v me).bind x) (funext λa=>Gc (λz=>z.bind λq=>kn q.1 (e a q.2) (J ([],q.2))) (tC d a c))
theorem A8{b:Bool}(h:(!b)=Z):b=ta:=by induction b<;>first|rfl|exact zc h ia
theorem Ao{x:Bb}(h:zm x=Z):(x==("__debug__":Bb))=ta/\(x==("__classdict__":Bb))=ta:=by
 have z:=Aa.mp h;exact⟨A8 z.1,A8 z.2⟩
theorem NQ{x:Bb}{p:Nm}{i:Nat}(c:env.scope.names=W.kinds)(h:Ss W x=J i):uc w hb A env eo W.sl lo me (yc (.Name x p) env) (λb=>evX tab cf (.x i) me b):=by
 refine bb h λk d h=>bb h λu q h=>?_;have q:=Aa.mp (zf q);obtain⟨e,f⟩:=Ao q.2;have a:env.kindOf x=J k:=by unfold nn;refine U c ?_;exact d
 refine Ys.congr (B3 h ?_ e f) λb=>rfl
 induction k<;>first|exact zc q.1 ia|exact .inl a|exact .inr (.inl a)|exact .inr (.inr a)
theorem kF:Di w hb A tab g cf 0 where
 E:=λW e x env eo lo me hk h=>by exact ja h
 Es:=λW e x env eo lo me pos hk h=>by exact ja h
 T:=λW e x env eo lo me hk h=>by exact ja h
 Ts:=λW e x env eo lo me hk h=>by exact ja h
 Gs:=λW gs xs env eo lo me D elt x pre g0 scope pos hk h=>by exact ja h
theorem dQ(S:Di w hb A tab g cf N):∀W a c env eo lo me b,env.scope.names=W.kinds->tx g (N+1) W a=J c->Ti w hb A env eo W.sl lo me (gj (qg b (starEach a env))) (λd=>Ji tab cf c me d)/\(∀e∈a,∀x p,e≠md x p):=by
 intro W a c env eo lo me b j h
 induction a using ma with
 |nil=>obtain rfl:=ba h;exact⟨Ys.congr C3 λd=>rfl,λe f=>by cases f⟩|cons e a=>
  refine rd h λx k i l h=>?_;obtain rfl:=ba h;obtain⟨m,o⟩:=S.Es W a k env eo lo me b j l;refine⟨Ys.congr (LV (Et i) (S.E W e x env eo lo me j i) m) λd=>rfl,λp f=>?_⟩;rcases ab.mp f with q|q
  ·subst q;exact Et i
  ·exact o p q
theorem fQ(S:Di w hb A tab g cf N):∀W a c env eo lo me,env.scope.names=W.kinds->vQ g (N+1) W a=J c->ki w hb A env eo W.sl lo me a (c.map λb d=>Tt tab cf b me d):=by
 intro W a c env eo lo me b h
 induction a using ma with
 |nil=>obtain rfl:=ba h;exact .nil|cons e a=>
  refine rd h λx d f i h=>?_;obtain rfl:=ba h;exact .cons (S.T W e x env eo lo me b f) (S.Ts W a d env eo lo me b i)
theorem eQ(y:Eg n A)(S:Di w hb A tab g cf N):∀W i l env eo lo me D e x f m a j,env.scope.names=W.kinds->tV g (N+1) lo W i=J l->(∀me,uc w hb A env eo W.sl lo me (yc e env) λc=>evX tab cf x me c)->
 GoodK w hb A env eo W.sl lo me D (λk=>innerT (.ListComp e (f++m::i) a j) f.length e (.ref D) env k i) (λc=>evRest tab cf l (λme c=>evX tab cf x me c) me c):=by
 intro W i l env eo lo me D e x f m a j o h q
 induction i using ma with
 |nil=>obtain rfl:=ba h;exact GoodK.congr (nJ (q me)) λc=>rfl|cons z i=>
  refine de h λB h=>?_;obtain⟨C,k,p,E⟩:=z;cases eq_of_beq B;refine Su h λF t s r u G I L h=>(de h λO h=>?_);obtain rfl:=ba h;refine GoodK.congr (lE (Fs:=λd=>s.map λb c=>Tt tab cf b d c) (rr:=λd c=>evRest tab cf r (λme c=>evX tab cf x me c) d c) y (Gm u) G O (S.E W k F env eo lo me o u) λv d b=>?_) λc=>?_
  ·exact⟨S.Ts W p s env eo lo d o I,S.Gs W i r env eo lo d D e x (f++[m]) _ a j o L q⟩
  ·refine U (Wu _ _ _ _) ?_;rfl
end
section
variable {x y:X} {I:Type}
variable [F:Av]
variable {w:zb} {L:qb} {A:Xb} {W:wj} {P:Ca->Prop} {E:List Bb} {lo:Nat} {T:Me} {K:Ve} {R:Bh} {n N:Nat} {g:Gl} {O:Nat->List V->St->Option (V×St)} {Q:Sc}
def JL(p:V×St):Option (Bool×St):=(ip p.1).map λb=>(b,p.2)
theorem Jx{c:Option Bool}{a:St}:(c.map λr=>(V.bool r,a)).bind JL=c.map λr=>(r,a):=by induction c<;>rfl
theorem tY{b:ur}(a:St):Tt R O (.wK (.cmp b x y)) T a=(evX R O x T a).bind λp=>(evX R O y T p.2).bind λq=>(kq b p.1 q.1 q.2).map λr=>(r,q.2):=by
 show((evX R O x T a).bind _).bind JL=_
 exact U (Va _ _ _) (Gc _ (funext λp=>(U (Va _ _ _) (Gc _ (funext λq=>Jx)))))
theorem AS{a b:ur}{z:X}(c:St):Tt R O (.wK (.cmp2 a b x y z)) T c=(evX R O x T c).bind λp=>(evX R O y T p.2).bind λq=>(kq a p.1 q.1 q.2).bind λr=>kn r ((evX R O z T q.2).bind λu=>(kq b q.1 u.1 u.2).map λr=>(r,u.2)) (J (ta,q.2)):=by
 show((evX R O x T c).bind _).bind JL=_
 refine U (Va _ _ _) (Gc _ (funext λp=>(U (Va _ _ _) (Gc _ (funext λq=>?_)))));refine U (Va _ _ _) (Gc _ (funext λr=>?_))
 induction r with
 |false=>rfl|true=>
  exact U (Va _ _ _) (Gc _ (funext λu=>Jx))
theorem WQ{k:List V×St->Option I}(a:St):(Ji R O [x] T a).bind k=(evX R O x T a).bind λp=>k ([p.1],p.2):=Va ..
theorem pM(a:St):evX R O (.dict [x] [y]) T a=(evX R O x T a).bind λp=>(evX R O y T p.2).bind λq=>jG p.1 q.1 q.2:=(WQ a).trans (Gc _ (funext λp=>WQ p.2))
theorem qM{a b:Bb}(c:St):evX R O (.dict [.str a,.str b] [x,y]) T c=(evX R O x T c).bind λp=>(evX R O y T p.2).bind λq=>kG (.str a) (.str b) p.1 q.1 q.2:=by
 show((evX R O x T c).bind λp=>((evX R O y T p.2).bind λq=>J ([q.1],q.2)).map λq=>(p.1::q.1,q.2)).bind _=_
 refine U (Va _ _ _) (Gc _ (funext λp=>?_))
 induction evX R O y T p.2<;>rfl
theorem cV(j:Cx w L K R g O n)(s:Eg (n+1) A)(S:Di w L A R g O N):∀Q e b W P lo T,W.scope.names=Q.kinds->sV g (N+1) Q e=J b->Xg w L A W P Q.sl lo T (isTrue e W (yc e W)) (λd=>Tt R O b T d):=by
 intro Q e b W P lo T c h;have k:∀e:Expr,isTrue e W (yc e W)=(do let v<-yc e W;Yj e.pos;aj [v] (kA v))->ft (Eh g N Q e) (λx=>J (B.wK x))=J b->Xg w L A W P Q.sl lo T (isTrue e W (yc e W)) (λd=>Tt R O b T d):=by
  intro e a h;exact Fe h λx q h=>(Xg.out h (JI a (S.E Q e x W P lo T c q)) λd=>rfl)
 induction e using Expr.casesOn with
 |UnaryOp o x p=>
  induction o<;>try (exact ja h)
  exact Fe h λx q h=>(Xg.out h (nO (S.T Q _ x W P lo T c q)) λd=>rfl)
 |BoolOp o l p=>
  rcases l with _|⟨a,_|⟨b,_|_⟩⟩<;>try (exact ja h)
  refine rd h λx y f i h=>?_
  induction o
  ·exact Xg.out h (vL (S.T Q _ _ W P lo T c f) (S.T Q _ _ W P lo T c i)) λd=>rfl
  ·exact Xg.out h (mU (S.T Q _ _ W P lo T c f) (S.T Q _ _ W P lo T c i)) λd=>rfl
 |Compare l d q p=>
  rcases d with _|⟨o,_|⟨t,_|_⟩⟩<;>try (exact ja h)
  ·rcases q with _|⟨r,_|_⟩<;>try (exact ja h)
   refine Aj h λa h=>(rd h λx y f i h=>?_);refine Xg.out h (eM j.B.mods s a (S.E Q _ _ W P lo T c f) (S.E Q _ _ W P lo T c i)) tY
  ·rcases q with _|⟨m,_|⟨r,_|_⟩⟩<;>try (exact ja h)
   refine Aj h λa h=>(Gi h λx y z f i u h=>?_);refine Xg.out h (ZI j.B.mods s a (S.E Q _ _ W P lo T c f) (S.E Q _ _ W P lo T c i) (S.E Q _ _ W P lo T c u)) AS
 |_=>first|exact ja h|exact k _ rfl h
theorem mO{i:Expr}(h:xm i=ta)(o j:ua):mV i ta o j=tD [o,j] (Q4 o j):=by
 induction i using Expr.casesOn<;>first|rfl|exact zc h.symm ia
noncomputable def tZ(x:X):Bool:=match x with|.x u=>Z|_=>ta
theorem eO{x:Bb}{p:Nm}{f:ua}(h:Eh g N Q (.Name x p)=J (.k f)):Q.kinds.lookup x=J .globalImplicit/\zm x=Z/\g.glob x=J f:=by
 refine aa λa=>?_
 induction N using Sa with
 |zero=>refine a ?_;exact ja h|succ N=>
  refine a ?_;replace h:(if Q.kinds.lookup x==J .globalImplicit then(if zm x then ft (g.glob x) λf=>J (.k f)else Y)else ft (Ss Q x) λi=>J (.x i))=J (X.k f):=h;by_cases b:(Q.kinds.lookup x==J .globalImplicit)=Z
  ·rw[Fd b]at h
   refine de h λc h=>(Fe h λd q h=>(aa λa=>?_));cases h;exact a (⟨eq_of_beq b,c,q⟩)
  ·rw[ge b]at h
   exact Fe h λd q h=>(zc (ba (Gc (Op tZ) h)).symm ia)
theorem qbx{v:ua}:∀(T:Me)(a:St),evX R O (.k v) T a=J (.k v,a):=λT a=>rfl
theorem ZM{d:Type}(c:I->d->Prop)(a:I)(b:d)(h:∀G:I->d->Prop,(∀a b,c a b->G a b)->G a b):c a b:=h c λu u h=>h
theorem bV(B:Cx w L K R g O n)(AK:Eg (n+1) A)(S:Di w L A R g O N):∀Q e x W P lo T,W.scope.names=Q.kinds->Eh g (N+1) Q e=J x->uc w L A W P Q.sl lo T (yc e W) (λm=>evX R O x T m):=by
 intro Q e x W P lo T s h;refine ZM (λe x=>uc w L A W P Q.sl lo T (yc e W) λm=>evX R O x T m) e x λG C=>?_;have kindOf:∀y k,Q.kinds.lookup y=J k->W.kindOf y=J k:=λy k q=>by unfold nn;refine U s ?_;exact q
 induction e using Expr.casesOn with
 |BinOp a u b p=>
  exact rd h λx y q1 q2 h=>(C _ _ (uc.out h (FL AK (S.E Q _ _ W P lo T s q1) (S.E Q _ _ W P lo T s q2)) λm=>rfl))
 |UnaryOp u a p=>
  induction u<;>try (exact ja h)
  exact Fe h λx q h=>(C _ _ (uc.out h (gO (S.E Q _ x W P lo T s q)) λm=>rfl))
 |IfExp c a b p=>
  exact Gi h λx y z q1 q2 l h=>(C _ _ (uc.out h (vN (S.T Q _ _ W P lo T s q1) (S.E Q _ _ W P lo T s q2) (S.E Q _ _ W P lo T s l)) λm=>rfl))
 |Dict ks f p=>
  rcases ks with _|⟨k,_|⟨i,_|_⟩⟩<;>rcases f with _|⟨v,_|⟨j,_|_⟩⟩<;>try (exact ja h)
  ·exact C _ _ (uc.out h SD λm=>rfl)
  ·refine Fe h λk d h=>?_
   subst d;refine de h λhn h=>?_;obtain⟨y,p,rfl⟩:=Ur hn;refine rd h λx y q1 q2 h=>?_;refine C _ _ (uc.out h (TD (S.E Q _ _ W P lo T s q1) (S.E Q _ _ W P lo T s q2)) pM)
  ·refine rd h λa b q1 q2 h=>(aa λnq=>?_)
   obtain⟨d1,p1,rfl⟩:=eI q1;obtain⟨o,p2,rfl⟩:=eI q2;refine nq (rd h λy z l r h=>?_);by_cases d:a=b
   ·rw[Fd d]at h;exact ja h
   ·rw[ge d]at h
    refine C _ _ (uc.out h (UD d (S.E Q _ _ W P lo T s l) (S.E Q _ _ W P lo T s r)) qM)
 |ListComp x3 o z p=>
  induction o using ma with
  |nil=>exact ja h|cons g1 rest=>
   refine de h λhz h=>?_;obtain⟨x4,x2,x5,x6⟩:=g1;cases eq_of_beq hz;refine rd h λit sc' q1 q2 h=>(Su h λt fs gs y l r q5 q6 h=>(de h λhg h=>?_));obtain rfl:=ba h;refine C _ _ (Ys.congr (bJ (sc':=sc') (Fs:=λd=>fs.map λb m=>Tt R O b d m) (rr:=λd m=>evRest R O gs (λT m=>evX R O y T m) d m) AK (Px q2) s (Gm q1) l hg (S.E Q _ it W P lo T s q1) λf i D j v d x7=>⟨S.Ts sc' _ fs f i _ d j r,?_⟩) λm=>?_)
   ·exact S.Gs sc' _ gs f i _ d D _ y [] _ _ _ j q5 λx1=>S.E sc' _ y f i _ x1 j q6
   ·unfold dG;refine U (Wu _ _ _ _) ?_;rfl
 |Compare l d i p=>
  rcases d with _|⟨u,_|_⟩<;>try (exact ja h)
  rcases i with _|⟨r,_|_⟩<;>try (exact ja h)
  exact Aj h λf h=>(rd h λx y q1 q2 h=>(C _ _ (uc.out h (dM B.B.mods AK f (S.E Q _ _ W P lo T s q1) (S.E Q _ _ W P lo T s q2)) λm=>rfl)))
 |Call f l ks r=>
  induction ks using ma with
  |cons u j=>exact ja h|nil=>
   induction f using Expr.casesOn with
   |Attribute o a u=>
    refine de h λd h=>(rd h λx j q1 q2 h=>(aa λnq=>?_));obtain rfl:=ba h;simp only[Dd,decide_eq_true_eq]at d;obtain⟨t,i⟩:=S.Es Q _ _ W P lo T (default:Nm) s q2;exact nq (C _ _ (Ys.congr (HJ B.B B.CO B.CF AK d.1.1 d.1.2 d.2 i (S.E Q _ _ W P lo T s q1) (S.Es Q _ _ W P lo T _ s q2).1) λm=>rfl))
   |Name y p=>
    refine rd h λx j q1 q2 h=>?_
    induction x using X.casesOn<;>try (exact ja h)
    obtain rfl:=ba h;obtain⟨d,c2,c3⟩:=eO q1;obtain⟨t,i⟩:=S.Es Q _ _ W P lo T (default:Nm) s q2;exact C _ _ (Ys.congr (WI B.B B.CO B.GO B.SO B.CF AK c3 (kindOf _ _ d) (Ao c2).1 i (S.Es Q _ _ W P lo T _ s q2).1) λm=>rfl)
   |_=>exact ja h
 |Constant c d p=>
  induction c<;>try (exact ja h)
  ·exact C _ _ (uc.out h eU λm=>rfl)
  ·exact C _ _ (uc.out h oS λm=>rfl)
  ·exact C _ _ (uc.out h mZ λm=>rfl)
  ·exact C _ _ (uc.out h V1 λm=>rfl)
 |Attribute o a p=>
  exact de h λc h=>(Fe h λy q h=>(C _ _ (uc.out h (BL B.B c (S.E Q _ y W P lo T s q)) λm=>rfl)))
 |Subscript o i p=>
  replace h:(if xm i then ft (HY i) λk=>if yp o then ft (Eh g N Q o) λx=>J (.cut x k)else Y else Hr (Eh g N Q o) (Eh g N Q i) λa b=>J (.sub a b))=J x:=h;by_cases c:xm i=Z
  ·rw[Fd c]at h
   refine Fe h λk q1 h=>?_;obtain⟨d1,p1,p2,rfl⟩:=GS q1;refine de h λhn h=>?_;obtain⟨y,p,rfl⟩:=Ur hn;exact Fe h λy q h=>(C _ _ (uc.out h (mM B.B (S.E Q _ y W P lo T s q)) λm=>rfl))
  ·rw[ge c]at h
   exact rd h λx y q1 q2 h=>(C _ _ (uc.out h (kQ (λa b=>mO (by simpa using c) a b) (S.E Q _ _ W P lo T s q1) (S.E Q _ _ W P lo T s q2)) λm=>rfl))
 |Name y p=>
  replace h:(if Q.kinds.lookup y==J .globalImplicit then(if zm y then ft (g.glob y) λf=>J (.k f)else Y)else ft (Ss Q y) λi=>J (.x i))=J x:=h;by_cases a:(Q.kinds.lookup y==J .globalImplicit)=Z
  ·rw[Fd a]at h
   exact de h λb h=>(Fe h λc q h=>(C _ _ (uc.out h (qs B.GO q (kindOf _ _ (eq_of_beq a)) (Ao b).1) λm=>rfl)))
  ·rw[ge a]at h
   refine Fe h λi q h=>?_;obtain rfl:=ba h;exact C _ _ (NQ s q)
 |List a p=>
  exact Fe h λy q h=>(C _ _ (uc.out h (yJ (S.Es Q _ y W P lo T _ s q).1) λm=>rfl))
 |Tuple a d p=>
  exact Fe h λy q h=>(C _ _ (uc.out h (AQ (S.Es Q _ y W P lo T _ s q).1) λm=>rfl))
 |_=>exact ja h
theorem Os(b:Cx w L K R g O n)(c:Eg (n+1) A):∀N,Di w L A R g O N:=by
 intro N
 induction N with
 |zero=>
  exact kF
 |succ N i=>
  exact
   have S:=i
   ⟨bV b c S,dQ S,cV b c S,fQ S,λQ j k W P lo T D d x e l a f m h o=>eQ c S Q j k W P lo T D d x e l a f m h o⟩
end
section
variable {F:Ea} {o e:Expr} {E:Nm} {x:T}
variable [D:Av]
mutual
noncomputable def R2(g:Gl)(j:Nat)(q:Sc)(d:Expr):Option T:=match j,q,d with|0,u,z=>Y|n+1,Q,e=>match e with|.Name x u=>(Ss Q x).map T.x|.Tuple a u z=>(yQ g n Q a).map T.t|.Attribute o a u=>(Eh g n Q o).map (λx=>T.attr x a)|.Subscript o i u=>if xm i then Y else Hr (Eh g n Q o) (Eh g n Q i) λx y=>J (.sub x y)|_=>Y
noncomputable def yQ(g:Gl)(z:Nat)(j:Sc)(q:List Expr):Option (List T):=match z,j,q with|0,u,y=>Y|u+1,y,[]=>J []|n+1,Q,e::a=>Hr (R2 g n Q e) (yQ g n Q a) λx b=>J (x::b)
end
inductive PT(w:zb)(hb:qb)(env:wj)(eo:Ca->Prop)(O:List Bb)(lo:Nat)(ρ:List Ca)(s:Ea)(W:St)(X:Me)(F:Ea):Prop
 |mk (ρ':List Ca):Ah s F->Kp eo ρ s.heap F.heap ρ'->R w hb ρ' W F.heap->Lc w hb env eo O lo X ρ' F.heap->PT w hb env eo O lo ρ s W X F
def aq(w:zb)(hb:qb)(A:Xb)(env:wj)(eo:Ca->Prop)(O:List Bb)(t:ua->Yl Unit)(r:V->Me->St->Option (Me×St)):Prop:=
 ∀v a X ρ W s me' σ',R w hb ρ W s.heap->Lc w hb env eo O 0 X ρ s.heap->VR w ρ s.heap v a->r v X W=J (me',σ')->Qa (fb pg w) A (t a) (λu=>PT w hb env eo O 0 ρ s σ' me') No s
variable {w:zb} {hb:qb} {A:Xb} {env:wj} {eo:Ca->Prop} {O:List Bb} {lo:Nat} {X me':Me} {K:Ve} {P:Bh} {n N:Nat} {g:Gl} {I:Nat->List V->St->Option (V×St)} {Q:Sc} {ρ L:List Ca} {W σ':St} {s:Ea}
theorem PT.after{s1:Ea}(t:Ah s s1)(k:Kp eo ρ s.heap s1.heap L)(x:PT w hb env eo O lo L s1 σ' X F):PT w hb env eo O lo ρ s σ' X F:=by
 obtain⟨a,b,c,d,f⟩:=x;exact⟨a,t.trans b,k.trans c,d,f⟩
theorem PA.pt(x:PA w hb env eo O lo ρ s W X F):PT w hb env eo O lo ρ s W X F:=by
 refine aa λa=>?_;obtain⟨t,b,c,d⟩:=x;exact a (⟨ρ,t,b,c,d⟩)
theorem PS.pt(r:R w hb ρ W s.heap)(a:Lc w hb env eo O lo X ρ s.heap)(x:PS w hb env.locals ρ s σ' F):PT w hb env eo O lo ρ s σ' X F:=by
 refine aa λd=>?_;obtain⟨b,t,c,f⟩:=x;exact d (⟨b,t,c.kp a,f,a.kx r c⟩)
theorem Qt{a:Bb}{b:Me->St->Option (V×St)}(B:Ek hb K P)(i:∀X,uc w hb A env eo O 0 X (yc o env) (b X)):
 aq w hb A env eo O (λv=>assign (.Attribute o a E) env v) (λv X W=>(b X W).bind λp=>(Pn P p.1 a v p.2).map λW=>(X,W)):=λv d X ρ W s me' σ' r c x e=>bb e λp j k=>re k λl m q=>by
 obtain⟨rfl,rfl⟩:=Ta q;show Qa _ _ (assign (.Attribute o a E) env d) _ _ _
 refine U (arm_assign_Attribute _ _ _ _ _) (ga (dc (Da (i X ρ W s r c _ _ j) (λR S t=>?_) λu u z=>z)));obtain⟨L,y,k1,f,C⟩:=t;have h:=c.kx r k1;exact ga (mc (ga (dc (Da (ZE B f h.lok C (k1.vr x) m) (λu s2 G=>tK (PT.after y (k1.kp c) (PS.pt f h G))) λu u z=>z))))
theorem Nu{i:Expr}{a G:Me->St->Option (V×St)}(k:∀X,uc w hb A env eo O 0 X (yc o env) (a X))(l:∀X,uc w hb A env eo O 0 X (yc i env) (G X)):
 aq w hb A env eo O (λv=>assign (.Subscript o i E) env v) (λv X W=>(a X W).bind λp=>(G X p.2).bind λq=>(yi p.1 q.1 v q.2).map λW=>(X,W)):=λv c X ρ W s me' σ' r b x e=>bb e λp m e=>bb e λq t e=>re e λy B C=>by
 obtain⟨rfl,rfl⟩:=Ta C;show Qa _ _ (assign (.Subscript o i E) env c) _ _ _
 refine U (arm_assign_Subscript _ _ _ _ _) (ga (dc (Da (k X ρ W s r b _ _ m) (λo' R S=>?_) λu u z=>z)));obtain⟨L,t1,k1,f,x1⟩:=S;have d:=b.kx r k1;refine ga (dc (Da (l X L _ R f d _ _ t) (λi' s2 p2=>?_) λu u z=>z));obtain⟨x3,t2,k2,h,x2⟩:=p2;have j:=d.kx f k2;exact ga (mc (ga (dc (Da (Ky h j.lok (k2.vr x1) x2 (k2.vr (k1.vr x)) B) (λu s3 p3=>tK (PT.after t1 (k1.kp b) (PT.after t2 (k2.kp d) (PS.pt h j p3)))) λu u z=>z))))
structure DD(w:zb)(hb:qb)(A:Xb)(P:Bh)(g:Gl)(I:Nat->List V->St->Option (V×St))(N:Nat):Prop where
 one:∀Q e t env eo,env.scope.names=Q.kinds->R2 g N Q e=J t->aq w hb A env eo Q.sl (λv=>assign e env v) (λv X W=>IK P I t v X W)/\(∀x p,e≠md x p)
 all:∀Q es ts env eo,env.scope.names=Q.kinds->yQ g N Q es=J ts->∀vs vals X ρ W s me' σ',R w hb ρ W s.heap->Lc w hb env eo Q.sl 0 X ρ s.heap->ve w ρ s.heap vs vals->cK P I ts vs X W=J (me',σ')->
  Qa (fb pg w) A (FI ((assignEach es env).map λx=>x.2) vals) (λu=>PT w hb env eo Q.sl 0 ρ s σ' me') No s
theorem Yi{a:List Expr}(h:∀x p,e≠md x p):assignEach (e::a) env=(ta,assign e env)::assignEach a env:=by
 induction e using Expr.casesOn<;>first|rfl|exact zc rfl (h _ _)
theorem Ft(h:R2 g N Q e=J x):∀y p,e≠md y p:=by
 rintro y p rfl
 induction N using Sa<;>exact ja h
theorem zQ:∀{N:Nat}{a:List Expr}{b:List T},yQ g N Q a=J b->a.length=b.length/\∀e∈a,∀x p,e≠md x p:=by
 intro N
 induction N with
 |zero=>intro a b h;exact ja h|succ N d=>
  intro a b h
  induction a using ma with
  |nil=>obtain rfl:=ba h;exact⟨rfl,λe c=>(Jb c).elim⟩|cons e a=>
   refine rd h λt f i j h=>?_;obtain rfl:=ba h;have z:=d j;exact⟨Gc pc z.1,λk c=>(ab.mp c).elim (λq=>q▸Ft i) (z.2 k)⟩
theorem iQ:∀{b:List T}{a:List V}{X me':Me}{W σ':St},cK P I b a X W=J (me',σ')->b.length=a.length:=by
 intro b
 induction b with
 |nil=>intro a X me' W σ' h;induction a using ma with|nil=>rfl|cons y z=>exact ja h
 |cons t b c=>
  intro a X me' W σ' h
  induction a using ma with
  |nil=>exact ja h|cons v a=>exact bb h λp u d=>Gc pc (c d)
theorem Om:{a:List Expr}->(∀e∈a,∀x p,e≠md x p)->assignEach a env=a.map λe=>(ta,assign e env):=by
 intro a
 induction a with
 |nil=>
  rintro _;exact rfl
 |cons e a b=>
  rintro h;refine U (Yi (h e sa)) (U (b λe c=>h e (oa _ c)) ?_);rfl
theorem aq.out{t:ua->Yl Unit}{r:V->Me->St->Option (Me×St)}{y:T}(h:J y=J x)(g:aq w hb A env eo O t r)(e:∀v X W,IK P I y v X W=r v X W):aq w hb A env eo O t (λv X W=>IK P I x v X W):=λv b X ρ W s me' σ' c a d q=>g v b X ρ W s me' σ' c a d ((e v X W).symm.trans (ba h▸q))
theorem cQ{k:List Expr}{h:List T}{d:Nat}{p:Nm}(R:Eg n A)(S:DD w hb A P g I N)(hk:env.scope.names=Q.kinds)(q:yQ g N Q k=J h):aq w hb A env eo Q.sl (λv=>assign (.Tuple k d p) env v) (λv X W=>IK P I (.t h) v X W):=λv i X ρ W s me' σ' r b xv e=>bb e λt e1 B=>by
 refine aa λnq=>?_;obtain⟨a,C,m,rfl,x1,ea,la,G⟩:=(Vl e1▸xv:VR w ρ s.heap (.t t) i).wF;refine nq ?_;have l:=zQ q;show Qa _ _ (assign (.Tuple _ _ _) env _) _ _ _
 refine U (a6 _ _ _ _ _) ?_;refine ga (mc (O3 R.hh (items:=C.toArray) (nf ea) (by exact U Hb (U (Om l.2) (U (wa _) (U l.1 (U (iQ B) (U G.length rfl)))))) (by refine U (Om l.2) (U (propext Vy) ?_);intro y c;obtain⟨p,_,rfl⟩:=Qb.mp c;rfl) λj f=>?_));have c:∀a o,s.heap.get? a=J o->j.get? a=J o:=λa o e=>f a o (Wb (gc e)) e;exact Da (S.all Q _ h env eo hk q t C X ρ W {s with heap:=j} me' σ' (r.wI c) (b.wI r c) (G.mono (Ja _) λa o e u=>c a o e) B) (λu z y=>PT.after (s1:={s with heap:=j}) rfl (Kp.wI c) y) λu u z=>z
theorem aV(f:Cx w hb K P g I n)(j:Eg (n+1) A)(S:DD w hb A P g I N)(SE:Di w hb A P g I N){t:T}(c:env.scope.names=Q.kinds)(h:R2 g (N+1) Q e=J t):aq w hb A env eo Q.sl (λv=>assign e env v) (λv X W=>IK P I t v X W):=by
 induction e using Expr.casesOn with
 |Attribute o a p=>exact re h λy q h=>aq.out (Gc J h) (Qt f.B λX=>SE.E Q _ y env eo 0 X c q) λu u u=>rfl|Subscript o i p=>exact Aj h λu h=>rd h λx y a b h=>aq.out h (Nu (λX=>SE.E Q _ _ env eo 0 X c a) λX=>SE.E Q _ _ env eo 0 X c b) λu u u=>rfl|Name x p=>
  refine re h λi q h=>(Bd h ?_);exactλv a X ρ W s me' σ' r b d e=>re e λu u e=>by
   obtain⟨rfl,rfl⟩:=Ta e;exact Da (mh (Xl q) (Zc _) r b d) (λu u p=>PA.pt p) λu u z=>z
 |Tuple a d p=>exact re h λb q h=>h▸cQ j S c q|_=>exact ja h
theorem O1(k:Cx w hb K P g I n)(B:Eg (n+1) A):∀N,DD w hb A P g I N:=by
 intro N
 induction N with
 |zero=>
  exact⟨λQ e t env eo i h=>ja h,λQ m G env eo i h=>ja h⟩
 |succ N R=>
  have S:=R;refine⟨λQ e t env eo i h=>⟨aV k B S (Os k B N) i h,Ft h⟩,λQ m G env eo i h C l X ρ W s me' σ' r c x e=>?_⟩
  induction m using ma with
  |nil=>
   refine aa λd=>?_;obtain rfl:=ba h;refine d ?_;clear d;refine aa λd=>?_
   induction C using ma with
   |nil=>refine d ?_;clear d;obtain⟨rfl,rfl⟩:=Ta (ba e);rw[(x.wF:l=[])];exact Zn ⟨ρ,rfl,Kp.refl,r,c⟩|cons y j=>refine d ?_;clear d;exact ja e
  |cons e0 m=>
   refine rd h λt q q1 q2 h=>?_;obtain rfl:=ba h;refine aa λd=>?_
   induction C using ma with
   |nil=>refine d ?_;clear d;exact ja e|cons v0 v=>
    refine d ?_;clear d;refine aa λd=>?_;obtain⟨j,f,rfl,a,b⟩:=x.wF;refine d ?_;clear d;refine bb e λp q3 e=>?_;have y:=S.one Q e0 t env eo i q1;refine U (Yi y.2) (Yn (Da (y.1 v0 j X ρ W s p.1 p.2 r c a q3) (λu s1 p1=>?_) λu u z=>z));obtain⟨L,t1,k1,r1,E1⟩:=p1;exact Da (S.all Q m q env eo i q2 v f p.1 L p.2 s1 me' σ' r1 E1 (k1.vrs b) e) (λu s2 p2=>PT.after t1 k1 p2) λu u z=>z
end
section
variable {h:qb} {f:OK} {t x:Expr} {b:List Yy} {z:Nm}
variable [u:Av]
inductive u4(w:zb)(P:List Ca)(h:qb):Fl->OK->Prop
 |next:u4 w P h .next .next|ret {v:V} {val:ua}:VR w P h v val->u4 w P h (.ret v) (.ret val)
def qdt(w:zb)(P:List Ca)(h:qb)(a:Fl)(c:OK):Prop:=match a,c with|.next,f=>f=.next|.ret v,f=>∃d,f=.ret d/\VR w P h v d
theorem u4.wF{w:zb}{P:List Ca}{E:Fl}(x:u4 w P h E f):qdt w P h E f:=
 u4.rec (motive:=λE f a=>qdt w P h E f) rfl (λq=>⟨_,rfl,q⟩) x
inductive PF(w:zb)(F:qb)(X:wj)(L:Ca->Prop)(B:List Bb)(P:List Ca)(s:Ea)(O:St)(W:Me)(E:Fl)(f:OK)(s':Ea):Prop
 |mk (ρ':List Ca):Ah s s'->Kp L P s.heap s'.heap ρ'->R w F ρ' O s'.heap->Lc w F X L B 0 W ρ' s'.heap->u4 w ρ' s'.heap E f->PF w F X L B P s O W E f s'
def Ef(w:zb)(F:qb)(A:Xb)(X:wj)(L:Ca->Prop)(B:List Bb)(t:Yl OK)(a:Me->St->Option (Fl×Me×St)):Prop:=
 ∀W P O s E Q S,R w F P O s.heap->Lc w F X L B 0 W P s.heap->a W O=J (E,Q,S)->Qa (fb pg w) A t (PF w F X L B P s S Q E) No s
variable {w:zb} {F:qb} {A:Xb} {X:wj} {L:Ca->Prop} {B:List Bb} {lo:Nat} {W Q:Me} {K:Ve} {r:Bh} {n N:Nat} {g:Gl} {p:Nat->List V->St->Option (V×St)} {y:Sc} {P C:List Ca} {O S:St} {s:Ea} {E:Fl}
theorem Ef.congr{t:Yl OK}{a d:Me->St->Option (Fl×Me×St)}(h:Ef w F A X L B t a)(e:∀W O,d W O=a W O):Ef w F A X L B t d:=λW P O s E Q S R c q=>h W P O s E Q S R c ((e W O).symm.trans q)
theorem PF.after{s1 c:Ea}(t:Ah s s1)(k:Kp L P s.heap s1.heap C)(x:PF w F X L B C s1 S W E f c):PF w F X L B P s S W E f c:=by
 obtain⟨a,d,e,i,j,q⟩:=x;exact⟨a,t.trans d,k.trans e,i,j,q⟩
theorem qz:Ef w F A X L B (qu [] X) (λW O=>J (.next,W,O)):=λW P O s E Q S a c e=>by
 obtain⟨rfl,d⟩:=Ta (ba e);obtain⟨rfl,rfl⟩:=Ta d;exact U (lu _) (Ba ⟨P,rfl,Kp.refl,a,c,.next⟩)
theorem bx{st:Yy}{rest:List Yy}{a G:Me->St->Option (Fl×Me×St)}(hf:Ef w F A X L B (YD st X) a)(hg:Ef w F A X L B (qu rest X) G):
 Ef w F A X L B (qu (st::rest) X) (λW O=>(a W O).bind (YC G)):=λW P O s E Q S c d e=>bb e λi e1 D=>by
 refine aa λl=>?_;obtain⟨I,m,o⟩:=i;refine l ?_;clear l;refine U (arm_execs_cons _ _ _) (ga (Da (hf W P O s I m o c d e1) (λf s1 p1=>?_) λj j k=>k));obtain⟨C,R,k1,T,E1,q⟩:=p1;refine aa λl=>?_
 induction I with
 |next=>
  refine l ?_;clear l;rw[q.wF];exact Da (hg m C o s1 E Q S T E1 D) (λf s2 v=>PF.after R k1 v) λj j k=>k
 |ret v=>
  refine l ?_;clear l;refine aa λl=>?_;obtain⟨j,rfl,x1⟩:=q.wF;obtain⟨rfl,k⟩:=Ta (ba D);obtain⟨rfl,rfl⟩:=Ta k;refine l ?_;clear l;exact Ba ⟨C,R,k1,T,E1,q⟩
theorem f8{a:List Yy}{T:Me->St->Option (Bool×St)}{c G:Me->St->Option (Fl×Me×St)}(ht:∀W,Xg w F A X L B 0 W (isTrue t X (yc t X)) (T W))(hf:Ef w F A X L B (qu a X) c)(hg:Ef w F A X L B (qu b X) G):
 Ef w F A X L B (YD (.If t a b z) X) (λW O=>(T W O).bind λd=>kn d.1 (c W d.2) (G W d.2)):=λW P O s E Q S i j e=>bb e λd e1 m=>by
 refine U (arm_exec_If _ _ _ _ _) (ga (mc (ga (Da (ht W P O s i j _ _ e1) (λq v p1=>?_) λk k l=>l))));obtain⟨C,D,k1,I,x1⟩:=p1;rw[<-(x1:q=d.1)]at m;have R:=j.kx i k1
 induction q with
 |true=>exact Da (hf W C _ v E Q S I R m) (λf s2 o=>PF.after D (k1.kp j) o) λk k l=>l|false=>exact Da (hg W C _ v E Q S I R m) (λf s2 o=>PF.after D (k1.kp j) o) λk k l=>l
theorem A1{a:Me->St->Option (V×St)}(l:∀W,uc w F A X L B 0 W (yc x X) (a W)):
 Ef w F A X L B (YD (.Return (J x) z) X) (λW O=>(a W O).map λc=>(.ret c.1,W,c.2)):=λW P O s E Q S d i e=>re e λc m o=>by
 obtain⟨rfl,q⟩:=Ta o;obtain⟨rfl,rfl⟩:=Ta q;refine wpAny_Return_some (Da (l W P O s d i _ _ m) (λv I D=>?_) λj j k=>k);obtain⟨C,j,k1,k,G⟩:=D;exact⟨C,j,k1.kp i,k,i.kx d k1,.ret G⟩
noncomputable def Gv:Expr->Bool
 |.ListComp .. |.SetComp .. |.DictComp .. =>Z|_=>ta
theorem Tn{e:Expr}{t:Option Expr}{a:Nat}(h:Gv e=ta):Dt e t a X=pure ta:=by
 induction e using Expr.casesOn<;>first|rfl|exact zc h.symm ia
theorem eJ{v:V}{d:ua}{a:Unit}(x:VR w P h v d)(e:oG v=J a):d=.none\/∃b,d=.bool b:=by
 have c:=x.wF
 induction v using V.casesOn with
 |none=>exact .inl c|bool b=>exact .inr ⟨b,c⟩|_=>exact ja e
theorem cT{a:Me->St->Option (V×St)}(l:Gv x=ta)(m:∀W,uc w F A X L B 0 W (yc x X) (a W)):
 Ef w F A X L B (YD (.Expr x z) X) (λW O=>(a W O).bind λc=>(oG c.1).map λd=>(.next,W,c.2)):=λW P O s E Q S i j e=>bb e λc o q=>re q λd v D=>by
 obtain⟨rfl,G⟩:=Ta D;obtain⟨rfl,rfl⟩:=Ta G;refine wpAny_Expr (Da (m W P O s i j _ _ o) (λI s1 R=>?_) λd d k=>k) (by unfold qfH;refine U j.kind ?_;rfl) (Tn l);obtain⟨C,k,k1,T,x1⟩:=R;rcases eJ x1 v with rfl|⟨b,rfl⟩<;>exact⟨C,k,k1.kp j,T,j.kx i k1,.next⟩
theorem yF{T:Me->St->Option (Bool×St)}{a:Me->St->Option (Fl×Me×St)}(AK:Eg n A)(ht:∀W,Xg w F A X L B 0 W (isTrue t X (yc t X)) (T W))(hf:Ef w F A X L B (qu b X) a):∀(o:Nat) W P O s E Q S,R w F P O s.heap->Lc w F X L B 0 W P s.heap->GB o T a W O=J (E,Q,S)->
 ch (fb pg w) A (.whileLoop t b [] X) (λq c=>∃f,q=.ok f/\PF w F X L B P s S Q E f c) s:=by
 intro o
 induction o with
 |zero=>intro W P O s E Q S c d e;exact ja e|succ o ih=>
  intro W P O s E Q S c d e;refine bb e λi e1 I=>dg ?_;show Qa _ A ((whileTurn t b [] X).onRaise λx=>do Lz x X;Up x) _ _ s
  refine AA (Al λj E0 hQ=>?_);simp only[whileTurn];refine ga (Da (ht W P O s c d _ _ e1) (λc' s1 p1=>?_) λk k l=>l.elim);refine aa λm=>?_;obtain⟨C,t1,k1,r1,x1⟩:=p1;refine m ?_;clear m;have E1:=d.kx c k1
  induction c' with
  |false=>
   rw[<-(x1:ta=i.1)]at I;obtain⟨rfl,zz⟩:=Ta (ba I);obtain⟨rfl,rfl⟩:=Ta zz;exact U (ge ia) (ga (U (lu _) (Ba (Ba (hQ _ _ ⟨.next,rfl,C,t1,k1.kp d,r1,E1,.next⟩)))))
  |true=>
   rw[<-(x1:Z=i.1)]at I;refine U (Fd rfl) (bb I λp2 e3 e4=>(aa λm=>?_));obtain⟨f0,D,G⟩:=p2;refine m ?_;clear m;refine ga (Da (hf W C _ s1 f0 D G r1 E1 e3) (λf s2 p2=>?_) λk k l=>l.elim);refine aa λm=>?_;obtain⟨k,t2,k2,r2,E2,l⟩:=p2;refine m ?_;clear m;refine aa λm=>?_
   induction f0 with
   |next=>
    refine m ?_;clear m;rw[l.wF];refine Ba (hQ _ _ ⟨rfl,Fc (ih D k G s2 E Q S r2 E2 e4) λq s3 v=>?_⟩);obtain⟨f,hq,v⟩:=v;exact⟨f,hq,PF.after t1 (k1.kp d) (PF.after t2 k2 v)⟩
   |ret v=>
    refine m ?_;clear m;refine aa λm=>?_;obtain⟨q,rfl,x2⟩:=l.wF;obtain⟨rfl,zz⟩:=Ta (ba e4);obtain⟨rfl,rfl⟩:=Ta zz;refine m ?_;clear m;exact Ba (hQ _ _ ⟨_,rfl,k,t1.trans t2,(k1.kp d).trans k2,r2,E2,l⟩)
theorem SQ{T:Me->St->Option (Bool×St)}{a:Me->St->Option (Fl×Me×St)}(j:Eg n A)(k:∀W,Xg w F A X L B 0 W (isTrue t X (yc t X)) (T W))(l:Ef w F A X L B (qu b X) a):
 Ef w F A X L B (YD (.While t b [] z) X) (λW O=>GB 5000 T a W O):=λW P O s E Q S c d e=>
 wpAny_While (Fc (yF j k l 5000 W P O s E Q S c d e) λq m i=>by
  obtain⟨f,rfl,i⟩:=i;exact i)
theorem Vx(t:CT):Rt 0 t=Z:=by
 induction t<;>simp[Rt]
inductive ZK [u:Av](w:zb)(F:qb)(X:wj)(L:Ca->Prop)(y:Sc)(I:Ca)(P:List Ca)(s:Ea)(E:Fl)(Q:Me)(S:St)(q:Br)(s':Ea):Prop
 |mk (f:OK) (ρ':List Ca):q=.ok f->Ah s s'->Kl (λa=>(L a\/a=I)\/a=I) P s.heap s'.heap ρ'->R w F ρ' S s'.heap->Lc w F X L y.sl 0 Q ρ' s'.heap->u4 w ρ' s'.heap E f->ZK w F X L y I P s E Q S q s'
theorem Kp.kl{c:qb}{a:List Ca}(k:Kp L P h c a):Kl L P h c a:=⟨k.pre,k.fresh,k.keep,k.imm⟩
theorem cE{x6:Expr}{t:CT}{it:It}{I:Ca}{c:Me->St->Option (Fl×Me×St)}(AK:Eg n A)(ht:Tk y x6=J t)(hf:Ef w F A X L y.sl (qu b X) c)(x8:F.get? I=Y):
 ∀(x4 i:Nat)(W:Me)(P:List Ca)(O:St)(s:Ea)(E:Fl)(Q:Me)(S:St),R w F P O s.heap->Lc w F X L y.sl 0 W P s.heap->pj w P s.heap I i it->¬L I->Fq x4 it i (λv W O=>(jl t v W).bind λx7=>c x7 O) W O=J (E,Q,S)->
  ch (fb pg w) A (.forLoop x6 (.ref I) b [] X) (λq a=>ZK w F X L y I P s E Q S q a) s:=by
 intro x4
 induction x4 with
 |zero=>intro i W P O s E Q S d j x x5 e;exact ja e|succ x4 ih=>
  intro i W P O s E Q S d j x x5 e;refine bb e λo hi e=>dg ?_;show Qa _ A ((P4 x6 (.ref I) b [] X).onRaise λx=>do Lz x X;Up x) _ _ s
  refine AA (Al λk E0 hQ=>?_);simp only[P4];refine ga (mc (ga (Xh (Da (aH AK d x hi) (λq s1 np=>?_) λl l m=>m.elim))));refine aa λnq=>?_
  induction np with
  |done ho hq t1 k1=>
   refine nq ?_;clear nq;rw[ho]at e;refine U hq ?_;obtain⟨rfl,zz⟩:=Ta (ba e);obtain⟨rfl,rfl⟩:=Ta zz;refine Ba (hQ _ _ ⟨rfl,qdP ?_⟩);exact U (lu _) (Ba ⟨.next,P,rfl,t1,Js x k1,Nq d x x8 k1,Mq j x x5 k1,.next⟩)
  |item v y2 ho hq t1 k1 xv x1=>
   refine nq ?_;clear nq;rw[ho]at e;refine U hq (bb e λG e1 e2=>bb e1 λx7 y3 hF=>(aa λnq=>?_));obtain⟨f0,x9,y1⟩:=G;refine nq ?_;clear nq;have r1:=Nq d x x8 k1;refine ga (AB (s:=s1) x1 (ga (Da (lM AK ht (Vx t) r1 (Mq j x x5 k1) xv y3) (λl s2 p2=>?_) λl l m=>m.elim)));refine aa λnq=>?_;obtain⟨t2,k2,r2,E2⟩:=p2;refine nq ?_;clear nq;have x2:pj w P s2.heap I (i+1) it:=x1.keep (Ja _) k2.imm λo e=>k2.keep I o e (x1.notIn r1) x5;refine ga (Da (hf x7 P O s2 f0 x9 y1 r2 E2 hF) (λf s3 p3=>?_) λl l m=>m.elim);refine aa λnq=>?_;obtain⟨m,t3,k3,r3,E3,q3⟩:=p3;refine nq ?_;clear nq;have T:=(t1.trans t2).trans t3;have KP:=(Hy (eo:=L) (D:=I) x k1 x1).trans ((k2.trans k3).weaken λa q=>.inl (.inl q));refine aa λnq=>?_
   induction f0 with
   |next=>
    refine nq ?_;clear nq;rw[q3.wF];refine Ba (hQ _ _ ⟨rfl,Fc (ih (i+1) x9 m y1 s3 E Q S r3 E3 (x2.keep k3.pre k3.imm λo e=>k3.keep I o e (x2.notIn r2) x5) x5 e2) λq s4 p4=>?_⟩);obtain⟨f,a,hq,t4,kl,g5,g6,g7⟩:=p4;exact⟨f,a,hq,T.trans t4,Kl.before KP kl,g5,g6,g7⟩
   |ret v=>
    refine nq ?_;clear nq;refine aa λnq=>?_;obtain⟨y2,rfl,a⟩:=q3.wF;obtain⟨rfl,zz⟩:=Ta (ba e2);obtain⟨rfl,rfl⟩:=Ta zz;refine nq ?_;clear nq;exact Ba (hQ _ _ ⟨_,m,rfl,T,KP.kl,r3,E3,q3⟩)
end
section
variable [z:Av]
variable {w:zb} {Q:qb} {A:Xb} {X:wj} {T:Ca->Prop} {F:List Bb} {lo:Nat} {W E:Me} {K:Ve} {B:Bh} {n N:Nat} {g:Gl} {y:Nat->List V->St->Option (V×St)} {C:Sc} {I P:List Ca} {S O:St} {s:Ea} {D:Fl}
theorem Kl.offE{F:List Bb}{h j i:qb}{f:List Ca}{c:Ca}(k2:∀b o,h.get? b=J o->j.get? b=J o)(hI:h.get? c=Y)(r:R w Q I S h)(k:Kl (λa=>(T a\/a=c)\/a=c) I j i f)(p:R w Q f O i)(t:Lc w Q X T F 0 W f i):Kp T I h i f:=
 have l:∀a o,h.get? a=J o->a≠c:=λa o e q=>by rw[q,hI]at e;exact ja e
 have b:∀a o,h.get? a=J o->a∉I->¬T a->i.get? a=J o:=λa o e u v=>k.keep a o (k2 a o e) u λq=>q.elim (λq=>q.elim v (l a o e)) (l a o e)
 ⟨k.pre,λa G=>(k.fresh a G).imp_right λq=>(by
  induction d:h.get? a with
  |none=>rfl|some o=>rw[k2 a o d]at q;exact ja q.symm),b,λa o e d=>k.imm a o (k2 a o e) d,λa e=>by
  obtain⟨o,L⟩:=Oa.mp e;by_cases d:a∈I
  ·obtain⟨x,m,_⟩:=p.live (Kh k.pre d)
   refine U m ?_;rfl
  ·by_cases m:T a
   ·exact t.eol a m
   ·refine U (b a o L d m) ?_;rfl⟩
theorem bZ{k j:Expr}{b:List Yy}{o:Nm}{t:CT}{L:Me->St->Option (V×St)}{d:Me->St->Option (Fl×Me×St)}(AK:Eg n A)(ht:Tk C k=J t)(l:∀a b c,j≠ .Set a b c)(hi:∀W,uc w Q A X T C.sl 0 W (yc j X) (L W))(hf:Ef w Q A X T C.sl (qu b X) d):
 Ef w Q A X T C.sl (YD (.For k j b [] o) X) (λW S=>(L W S).bind λp=>(bj p.1 p.2).bind λR=>Fq 5000 R 0 (λv W S=>(jl t v W).bind λc=>d c S) W p.2):=λW I S s D E O r h e=>bb e λp e1 e=>bb e λR e2 e=>by
 refine wpAny_For (Da (hi W I S s r h _ _ e1) (λa v p1=>?_) λu u i=>i) λx=>Jz l X x;obtain⟨P,t1,k1,m,x1⟩:=p1;have E1:=h.kx r k1;refine Da (Dz m x1 e2) (λq s2 p2=>?_) λu u i=>i;obtain⟨hq,t2,k2,x2⟩:=p2;refine U hq ?_;have c:v.heap.get? v.heap.objs.size=Y:=Fb _;have x:¬T v.heap.objs.size:=λq=>by have:=E1.eol _ q;rw[c]at this;exact zc this ia
 refine Fc (cE AK ht hf (Sd m c) 5000 0 W P p.2 s2 D E O (m.wI k2) (E1.wI m k2) x2 x e) λq s3 p3=>?_;obtain⟨f,G,rfl,t3,kl,g5,g6,g7⟩:=p3;exact⟨G,(t1.trans t2).trans t3,(k1.kp h).trans (kl.offE k2 c m g5 g6),g5,g6,g7⟩
theorem Er{d x:Expr}{f:Nm}{a:Me->St->Option (V×St)}{G:V->Me->St->Option (Me×St)}(h:∀b p,d≠md b p)(j:Dt x (J d) f.line X=pure ta)(k:zu [d] x X=pure Y)(l:∀W,uc w Q A X T F 0 W (yc x X) (a W))
 (m:aq w Q A X T F (λv=>assign d X v) G):
 Ef w Q A X T F (YD (.Assign [d] x f) X) (λW S=>(a W S).bind λp=>(G p.1 W p.2).map mJ):=λW I S s D E O r b e=>bb e λp o e=>re e λq t v=>by
 obtain⟨rfl,L⟩:=Ta v;obtain⟨rfl,rfl⟩:=Ta L;refine wpAny_Assign_stores (Da (l W I S s r b _ _ o) (λi R p1=>?_) λu u c=>c) j k;obtain⟨P,t1,k1,r1,x1⟩:=p1;refine U (Yi h) (Da (m _ i W P _ R q.1 q.2 r1 (b.kx r k1) x1 t) (λu s2 p2=>?_) λu u c=>c);obtain⟨c,t2,k2,r2,E2⟩:=p2;exact⟨c,t1.trans t2,(k1.kp b).trans k2,r2,E2,.next⟩
theorem kY{o i x:Expr}{tp R:Nm}{op:Je}{c G d:Me->St->Option (V×St)}(hi:∀b e a,augStore i b e a=(do aj [a,b,e] (px b e a);qfk [a,b,e] [];pure .next))(hf:∀W,uc w Q A X T F 0 W (yc o X) (c W))(hg:∀W,uc w Q A X T F 0 W (yc i X) (G W))(hx:∀W,uc w Q A X T F 0 W (yc x X) (d W)):
 Ef w Q A X T F (YD (.AugAssign (.Subscript o i tp) op x R) X) (λW S=>(c W S).bind λp=>(G W p.2).bind λq=>(XC p.1 q.1 q.2).bind λm=>(d W q.2).bind λu=>
  (qh m).bind λx=>(qh u.1).bind λf=>(CL op x f).bind λh=>(yi p.1 q.1 (.int h) u.2).map λS=>(.next,W,S)):=λW I S s D E O r f e=>
 bb e λp e1 e=>bb e λq e2 e=>bb e λm e3 e=>bb e λu e4 e=>bb e λa e5 e=>bb e λb e6 e=>bb e λh e7 e=>re e λx8 e8 e9=>by
 cases e9;refine wpAny_AugAssign_SubscriptAny (Da (hf W I S s r f _ _ e1) (λo' s1 p1=>?_) λj j h=>h) hi;obtain⟨P,t1,k1,r1,x1⟩:=p1;have E1:=f.kx r k1;refine Da (hg W P _ s1 r1 E1 _ _ e2) (λi' s2 p2=>?_) λj j h=>h;obtain⟨x9,t2,k2,r2,x2⟩:=p2;have E2:=E1.kx r1 k2;refine Da (Bv (L:=X.locals) r2 (k2.vr x1) x2 e3).2 (λx7 s3 p3=>?_) λj j h=>h;obtain⟨x5,t3,t,r3,x3⟩:=p3;have E3:=E2.kx r2 t;refine Da (hx W x5 _ s3 r3 E3 _ _ e4) (λv' s4 p4=>?_) λj j h=>h;obtain⟨y1,t4,v,r4,x4⟩:=p4;have E4:=E3.kx r3 v;have l:∀(tk:fk)(k:Nat),Qa (fb pg w) A (px o' i' (.int h tk)) (λj s'=>PF w Q X T F I s O W .next .next s') No {s4 with toks:=k}:=λtk k=>
  Da (Ky (s:={s4 with toks:=k}) r4 E4.lok (v.vr (t.vr (k2.vr x1))) (v.vr (t.vr x2)) (.int h tk) e8) (λj s5 p5=>by
   refine aa λnq=>?_;obtain⟨x6,t5,k5,r5⟩:=p5;refine nq ?_;exact⟨x6,(((t1.trans t2).trans t3).trans t4).trans t5.past,((((k1.kp f).trans (k2.kp E1)).trans (t.kp E2)).trans (v.kp E3)).trans (k5.kp E4),r5,E4.kx r4 k5,.next⟩) λj j h=>h
 obtain⟨_,rfl⟩:=x3.wZ e5;obtain⟨_,rfl⟩:=x4.wZ e6
 induction op with
 |Add=>rw[<-ba e7]at l;exact iadd_int (l _ _)|Sub=>rw[<-ba e7]at l;exact qas (l _ _)|_=>exact ja e7
end
section
variable [y:Av]
variable {w:zb} {G:qb} {A:Xb} {W:wj} {E:Ca->Prop} {x:List Bb} {lo:Nat} {O C:Me} {K:Ve} {T:Bh} {n N:Nat} {g:Gl} {I:Nat->List V->St->Option (V×St)} {L:Sc} {D z:List Ca} {P F:St} {s:Ea} {B:Fl}
theorem ZA{p:Expr}{i:List jd}{j:Scope}{l:Nm}{a:X}{v:V}{use:Option (ua->Yl Unit)}{Q:ua->Ea->Prop}(AK:Eg (n+1) A)(S:Di w G A T g I N)(hk:W.scope.names=L.kinds)(h:Eh g (N+1) L (.ListComp p i j l)=J a)
 (r:R w G D P s.heap)(c:Lc w G W E L.sl lo O D s.heap)(e:evX T I a O P=J (v,F))
 (q:∀b f d k m,Ah s f->KX W.locals D s.heap f.heap b->R w G b F f.heap->VR w b f.heap v (.ref d)->k∉b->s.heap.get? k=Y->G.get? k=Y->f.heap.Ns k m->compPost (fb pg w) A No use Q (.ref d) k (.ok .next) f):
 Qa (fb pg w) A (qdR (.ListComp p i j l) j W (qeY i l) (c5 []) (firstAsync i) (firstIter i W) use) Q No s:=by
 induction i using ma with
 |nil=>exact ja h|cons g0 rest=>
  obtain⟨x2,x1,x3,x4⟩:=g0;refine de h λhz h=>?_;cases eq_of_beq hz;refine rd h λit sc' q1 q2 h=>(Su h λt fs gs f q3 q4 q5 q6 h=>(de h λhg h=>?_));refine Qx (sc':=sc') (Fi:=λP=>evX T I it O P) (Fs:=λk=>fs.map λb P=>Tt T I b k P) (rr:=λk P=>evRest T I gs (λO P=>evX T I f O P) k P) AK (Px q2) hk (Gm q1) q3 hg (S.E L _ it W E lo O hk q1)
   (λb m d o v k x5=>⟨S.Ts sc' _ fs b m _ k o q4,S.Gs sc' _ gs b m _ k d _ f [] _ _ _ o q5 λu=>S.E sc' _ f b m _ u o q6⟩) r c ?_ q
  refine Bd e (Bd (ba h) ?_);unfold dG;refine U (Wu _ _ _ _) ?_;rfl
theorem Ww{x2:Expr}{R:List jd}{t:Scope}{x1 py x4:Nm}{c:Bb}{i:Nat}{f:X}(AK:Eg (n+1) A)(S:Di w G A T g I N)(hk:W.scope.names=L.kinds)(h:Eh g (N+1) L (.ListComp x2 R t x1)=J f)(hy:Ss L c=J i)
 (hs:W.scope.kind=.function->Dt (.ListComp x2 R t x1) (J (.Name c py)) x4.line W=pure Z):
 Ef w G A W E L.sl (YD (.Assign [.Name c py] (.ListComp x2 R t x1) x4) W) (λO P=>(evX T I f O P).bind λp=>((Ie (bc i O.length)).map λu=>(O.set i (J p.1),p.2)).map mJ):=λO D P s B C F r j e=>bb e λp e1 e=>re e λq e2 e3=>re e2 λu u e4=>by
 subst e4;obtain⟨rfl,zz⟩:=Ta e3;obtain⟨rfl,rfl⟩:=Ta zz;refine U (exec_Assign_Name_used _ _ _ _ (hs j.kind)) (ga (mc (ga (ga (Da (ZA (use:=J (assign (.Name c py) W)) (Q:=λu a=>PF w G W E L.sl D s _ (O.set i (J p.1)) .next .next a) AK S hk h r j e1 λx6 s5 k CC m t5 k5 r5 x5 c1 c2 c3 hC=>?_) (λu a b=>Ba (Ba b)) λu u l=>l)))));have x7:¬E CC:=λq=>by have:=j.eol _ q;rw[c2]at this;exact zc this ia
 refine Da (mh (Xl hy) (Zc _) r5 (j.kx r k5) x5) (λu s6 p6=>?_) λu u l=>l;obtain⟨t6,k6,r6,E6⟩:=p6;have x3:s6.heap.Ns CC m:=by
  refine aa λnq=>?_;obtain⟨o,a,ep,e1,e2⟩:=hC;exact nq (⟨o,a,ep,k6.keep _ _ e1 c1 x7,e2⟩)
 refine⟨m,x3,λh' x9=>?_⟩;have kk:∀b o,b≠CC->s6.heap.get? b=J o->h'.get? b=J o:=λb o n e=>(x9.2 b n).trans e;have x8:∀o,s6.heap.get? CC=J o->¬Ih o/\(∀v,o.data≠ .cell v):=λo e=>⟨Cg x3 e,λv q=>by
  obtain⟨o',a,ep,e',d,_⟩:=x3;rw[ba (e'.symm.trans e),q]at d;exact nomatch d⟩
 have d:Kp E D s.heap s6.heap x6:=(k5.kp j).trans k6;have v:∀a o,s.heap.get? a=J o->a≠CC:=λa o e q=>by rw[q,c2]at e;exact ja e
 exact⟨x6,(t5.trans t6).upd,⟨d.pre,d.fresh,λa o e n1 n2=>kk a o (v a o e) (d.keep a o e n1 n2),λa o e im=>kk a o (v a o e) (d.imm a o e im),λa e=>(by
  refine aa λnq=>?_;obtain⟨o,ho⟩:=Oa.mp e;obtain⟨o2,y1⟩:=Oa.mp (d.live a e);refine nq ?_;refine U (kk a o2 (v a o ho) y1) ?_;rfl)⟩,r6.beside (wr:=λa=>a=CC) (λa o n e=>kk a o n e) (λa q=>by subst q;exact⟨c1,c3,λo e=>(x8 o e).1⟩),E6.kpD x7 x8 kk,.next⟩
end
section
variable [C:Av]
noncomputable def uN(z:Expr):Bool:=by
 induction z using Expr.casesOn with
 |Starred=>exact Z|_=>exact ta
noncomputable def swName(k:List (Bb×yd))(t:Option Expr)(z:Expr):Option Bb:=by
 induction z using Expr.casesOn with
 |Name id a=>exact if k.lookup id==J .local&&a.line==(t.map λx=>x.pos.line).getD 0 then J id else Y|_=>exact Y
def yu(Q:Sc)(a:List Expr):List Bb:=a.filterMap (swName Q.kinds (a.head?))
def Bw(Q:Sc)(a b:List Expr):Option (Option (List Bb)):=
 if !(a.length==2||a.length==3)||b.length !=a.length then J Y
 else if b.any uN then J Y
 else if(yu Q a).length !=a.length||(yu Q a).eraseDups.length !=(yu Q a).length then J Y
 else if b.all (qdY 8)then J Y
 else if b.all (qby 8)then Y
 else J (J (yu Q a))
variable {w:zb} {I:qb} {A:Xb} {W:wj} {E:Ca->Prop} {sl:List Bb} {lo:Nat} {X me':Me} {K:Ve} {tab:Bh} {n N:Nat} {g:Gl} {cf:Nat->List V->St->Option (V×St)} {Q:Sc} {O L:List Ca} {S σ':St} {s:Ea} {D:Fl}
theorem gI{ts vs:List Expr}{k k':Nat}{p p':Nm}{r:Option (List Bb)}(hf:W.scope.kind=.function)(hk:W.scope.names=Q.kinds)(h:Bw Q ts vs=J r):zu [.Tuple ts k p] (.Tuple vs k' p') W=pure r:=by
 refine aa λnq=>?_;obtain⟨kinds,sl⟩:=Q
 dsimp only at hk
 subst hk;refine nq ?_;clear nq;have go:∀(F:Expr->Bool)(G:Expr->Option Bb),(∀z,F z=uN z)->(∀z,G z=swName W.scope.names (ts.head?) z)->(if(!(ts.length==2||ts.length==3)||vs.length !=ts.length||W.blockKind != .function)=Z then pure Y
  else if vs.any F=Z then pure Y
  else if((ts.filterMap G).length !=ts.length||(ts.filterMap G).eraseDups.length !=(ts.filterMap G).length)=Z then pure Y
  else if vs.all (qdY 8)=Z then pure Y
  else if vs.all (qby 8)=Z then(do unsupported "assign.tuple-of-constant-expressions:order-of-the-stores";pure (J (ts.filterMap G)))
  else pure (J (ts.filterMap G)):Yl (Option (List Bb)))=pure r:=by
  intro F G eF eG;obtain rfl:=funext eF;obtain rfl:=funext eG;refine U (by rw[(by unfold j4;rw[hf];rfl:W.blockKind=.function)];rfl:(W.blockKind != .function)=ta) (U (sA _) ?_);unfold Bw at h
  split at h
  ·rename_i q;obtain rfl:=ba h;exact U (Fd q) rfl
  ·rename_i q
   refine U (ge q) ?_
   split at h
   ·rename_i q;obtain rfl:=ba h;exact U (Fd q) rfl
   ·rename_i q
    refine U (ge q) ?_
    split at h
    ·rename_i q;obtain rfl:=ba h;exact U (Fd q) rfl
    ·rename_i q
     refine U (ge q) ?_
     split at h
     ·rename_i q;obtain rfl:=ba h;exact U (Fd q) rfl
     ·rename_i q
      refine U (ge q) ?_
      split at h
      ·exact ja h
      ·rename_i q;obtain rfl:=ba h;exact U (ge q) rfl
 refine go _ _ (λz=>?_) λz=>?_
 ·induction z using Expr.casesOn<;>rfl
 ·induction z using Expr.casesOn<;>rfl
theorem GC:∀{is:List Nat}{a:List V}{X me':Me},ye is a X=J me'->me'.length=X.length:=by
 intro is
 induction is with
 |nil=>intro a X me' h;induction a using ma with|nil=>exact Bd (ba h) rfl|cons u y=>exact ja h
 |cons i is b=>
  intro a X me' h
  induction a using ma with
  |nil=>exact ja h|cons v c=>exact(b (Li (x:=ye is c (X.set i (J v))) h).2).trans (yb ..)
theorem XE:∀{is:List Nat}{a:List V}{X:Me}{i:Nat}{o:Option V},i∉is->ye is a (X.set i o)=(ye is a X).map (λx=>x.set i o):=by
 intro is
 induction is with
 |nil=>intro a X i o h;induction a using ma<;>rfl|cons j is c=>
  intro a X i o h
  induction a using ma with
  |nil=>rfl|cons v b=>
   show(if j<(X.set i o).length then ye is b ((X.set i o).set j (J v))else Y)=(if j<X.length then ye is b (X.set j (J v))else Y).map _
   refine U yb (U (List.set_comm _ _ (λq=>h (q▸sa):i≠j)) (U (c λq=>h (oa _ q)) ?_))
   split<;>rfl
theorem HC:∀{is:List Nat}{a:List V}{X:Me}{i:Nat}{v:V},is.length=a.length->ye (is++[i]) (a++[v]) X=(ye is a X).bind λm=>if i<m.length then J (m.set i (J v))else Y:=by
 intro is
 induction is with
 |nil=>intro a X i v h;induction a using ma with|nil=>rfl|cons y z=>exact zc h.symm (Yb _)
 |cons j is c=>
  intro a X i v h
  induction a using ma with
  |nil=>exact zc h (Yb _)|cons u b=>
   show(if j<X.length then ye (is++[i]) (b++[v]) (X.set j (J u))else Y)=(if j<X.length then ye is b (X.set j (J u))else Y).bind _
   refine U (c (Jh h)) ?_
   split<;>rfl
theorem WE:∀{is:List Nat}{a:List V}{X me':Me},is.Nodup->ye is a X=J me'->ye is.reverse a.reverse X=J me':=by
 intro is
 induction is with
 |nil=>intro a X me' b h;induction a using ma with|nil=>exact h|cons u y=>exact ja h
 |cons i is e=>
  intro a X me' b h
  induction a using ma with
  |nil=>exact ja h|cons v f=>
   have b:=Ec.mp b;have q:=Li (x:=ye is f (X.set i (J v))) h;have c:=q.2;rw[XE b.1]at c;refine re c λj d k=>(U al (U al (U (HC (by rw[vI,vI];exact Jh (Gp h))) (U (e b.2 d) ?_))));show(if i<j.length then _ else _)=_
   exact U (Fd (by rw[GC d];exact q.1)) (U k rfl)
theorem dK:∀{is:List Nat}{a:List V}{X me':Me}{S σ':St},cK tab cf (is.map T.x) a X S=J (me',σ')->ye is a X=J me'/\σ'=S:=by
 intro is
 induction is with
 |nil=>intro a X me' S σ' h;induction a using ma with|nil=>obtain⟨rfl,rfl⟩:=Ta (ba h);exact⟨rfl,rfl⟩|cons y j=>exact ja h
 |cons i is c=>
  intro a X me' S σ' h
  induction a using ma with
  |nil=>exact ja h|cons v j=>
   refine bb h λp d b=>re d λu e f=>?_;rw[<-f]at b;have z:=c b;exact⟨(Fd (gb (zf e):i<X.length)).trans z.1,z.2⟩
theorem dz:∀{k:List Bb}{is:List Nat}{f:List V}{c:List ua}{X me':Me}{s:Ea},(k.map λp=>xc sl p)=is.map J->R w I O S s.heap->Lc w I W E sl 0 X O s.heap->ve w O s.heap f c->ye is f X=J me'->
 Qa (fb pg w) A (FI (k.map λp=>lS W p) c) (λu=>PA w I W E sl 0 O s S me') No s:=by
 intro k
 induction k with
 |nil=>
  intro is f c X me' s l r b x e
  induction is using ma with
  |cons z j=>exact zc l.symm (Ac _ _)|nil=>
   induction f using ma with
   |cons z j=>exact ja e|nil=>rw[<-ba e,(x.wF:c=[])];exact Zn ⟨rfl,Kp.refl,r,b⟩
 |cons y k j=>
  intro is f c X me' s l r b x e
  induction is using ma with
  |nil=>exact zc l (Ac _ _)|cons i is=>
   refine aa λd=>?_
   induction f using ma with
   |nil=>refine d ?_;clear d;exact ja e|cons v m=>
    refine d ?_;clear d;refine aa λd=>?_;obtain⟨a,as,rfl,o,p⟩:=x.wF;refine d ?_;clear d;have st:Qa (fb pg w) A (lS W y a) (λu=>PA w I W E sl 0 O s S (X.set i (J v))) No s:=by
     unfold lS;exact ga (dc (BA (ga (Da (UC (Yd l) (Zc _) r b o) (λu u h=>BA h) λu u x=>x))))
    refine Yn (Da st (λu F h=>?_) λu u x=>x);obtain⟨q,k1,t,z⟩:=h;exact Da (j (xd l) t z (k1.vrs p) (Li (x:=ye is m (X.set i (J v))) e).2) (λu G B=>PA.after q k1 B) λu u x=>x
theorem ve.reverse{h:qb}{b:List V}{c:List ua}(x:ve w O h b c):ve w O h b.reverse c.reverse:=
 x.ind (P:=λb c=>ve w O h b.reverse c.reverse) .nil λu u u u a u d=>by
  exact U al (U al (d.append (ve.one a)))
theorem Ou{y j:List Expr}{k l:Nat}{p t h:Nm}{c:List Bb}{is:List Nat}{F:Me->St->Option (V×St)}(AK:Eg n A)(hw:zu [.Tuple y k p] (.Tuple j l t) W=pure (J c))(P:(c.map λx=>xc sl x)=is.map J)(hd:is.Nodup)
 (hf:∀X,uc w I A W E sl 0 X (yc (.Tuple j l t) W) (F X)):
 Ef w I A W E sl (YD (.Assign [.Tuple y k p] (.Tuple j l t) h) W) (λX S=>(F X S).bind λq=>(IK tab cf (.t (is.map T.x)) q.1 X q.2).map mJ):=λX O S s D me' σ' r b e=>bb e λq e1 e=>re e λR e2 e3=>bb e2 λxs e4 e5=>by
 obtain⟨rfl,zz⟩:=Ta e3;obtain⟨rfl,rfl⟩:=Ta zz;obtain⟨hA,x⟩:=dK (me':=R.1) (σ':=R.2) e5;refine U (arm_exec_Assign _ _ _ _) ?_;show Qa _ _ (Yj h>>=λu=>Dt (.Tuple j l t) (J (.Tuple y k p)) h.line W>>=_) _ _ _
 refine U (Tn rfl) (ga (mc (ga (Ba (U (ge ia) (ga (Da (hf X O S s r b _ _ e1) (λB v p1=>?_) λu u z=>z)))))));obtain⟨L,t1,k1,r1,x1⟩:=p1;refine U hw (ga (Ba ?_));unfold assignStores;have G:c.length=is.length:=by have:=Gc kj P;rwa [wa,wa]at this
 refine aa λnq=>?_;obtain⟨a,f,m,rfl,x2,ea,la,qa⟩:=(Vl e4▸x1:VR w L v.heap (.t xs) B).wF;refine nq (ga (Uj (ga (U (show c.length=f.toArray.size by rw[Hb,<-qa.length,G,Gp hA]) (wpAny_unpackItems_tuple AK.hh (s:=v) (items:=f.toArray) (nf ea) λh' i=>?_)))));have d:∀a o,v.heap.get? a=J o->h'.get? a=J o:=λa o e=>i a o (Wb (gc e)) e;refine ga (Da (dz (A:=A) (s:={v with heap:=h'}) (by exact U fR (U P (U fR rfl))) (r1.wI d) ((b.kx r k1).wI r1 d) ((qa.mono (Ja _) λa o e u=>d a o e).reverse) (WE hd hA)) (λu s2 p2=>?_) λu u z=>z);obtain⟨z,k2,r2,E2⟩:=p2;exact Ba ⟨L,t1.trans z.past,((k1.kp b).trans (Kp.wI d)).trans k2,x▸r2,E2,.next⟩
end
section
variable [E:Av]
def qk(e:Expr):Bool:=(tF e).isSome
noncomputable def o9:Je->Bool
 |.Add|.Sub=>Z|_=>ta
noncomputable def uT(z:Expr):Bool:=match z with|.ListComp .. =>Z|_=>ta
theorem vT{e:Expr}(h:uT e=Z):∃a b c d,e=.ListComp a b c d:=by
 induction e using Expr.casesOn<;>first|exact zc h ia|exact⟨_,_,_,_,rfl⟩
theorem Vr{e:Expr}(h:qk e=Z):∃a b c,e=.Tuple a b c:=by
 obtain⟨x,h⟩:=Oa.mp h;exact⟨x,Gw h⟩
noncomputable def YF(z:Expr):Option (Expr×List Expr×List fL×Nm):=match z with|.Call f a b p=>J (f,a,b,p)|_=>Y
theorem Jr{e:Expr}{q:Expr×List Expr×List fL×Nm}(h:YF e=J q):e=.Call q.1 q.2.1 q.2.2.1 q.2.2.2:=by
 induction e using Expr.casesOn<;>first|exact ja h|cases ba h;rfl
def qdr(p:Expr×List Expr×List fL×Nm):Option (Bb×List Expr):=(Ie p.2.2.1.isEmpty).bind λu=>(Rv p.1).map λz=>(z,p.2.1)
def SV(e:Expr):Option (Bb×List Expr):=(YF e).bind qdr
theorem UV{e:Expr}{z:Bb}{a:List Expr}(h:SV e=J (z,a)):∃b d,e=.Call (.Name z b) a [] d:=bb h λq f i=>bb i λu j k=>re k λx l c=>by
 obtain⟨b,m⟩:=Jl l;exact⟨b,q.2.2.2,by exact U (Jr f) (U m (U (De.mp (zf j)) (U (show x=z from Gc lj c) (U (show q.2.1=a from Gc QF c) rfl))))⟩
mutual
noncomputable def qeu(g:Gl)(q:Nat)(d:Sc)(f:Yy):Option S:=match q,d,f with
 |0,u,j=>Y|n+1,W,st=>match st with
  |.Assign h x u=>(match h with
   |[t]=>if yp t&&uT x then(match t,x with
    |.Name y m,.ListComp l c a b=>
     if W.kinds.lookup y==J .local then
      (if m.line==b.line&& !(a.names.any λ(n,k)=>n==y&&(k== .local||k== .cell))then
       Hr (Eh g (n+1) W (.ListComp l c a b)) (Ss W y) (λe i=>J (.assign (.x i) e))
      else Y)
     else Hr (Eh g n W (.ListComp l c a b)) (Ss W y) (λe i=>J (.assign (.x i) e))
    |u,j=>Y)
    else if qk t&&qk x then(match t,x with
     |.Tuple h k p,.Tuple b c l=>ft (Bw W h b) (λw=>match w with|none=>Hr (R2 g n W (.Tuple h k p)) (Eh g n W (.Tuple b c l)) (λt e=>J (.assign t e))|some a=>Hr (Iz W h) (Eh g n W (.Tuple b c l)) λis e=>if decide (a.map (λx=>xc W.sl x)=is.map J/\is.Nodup)then J (.assign (.t (is.map T.x)) e)else Y)
     |u,j=>Y)
    else if Gv x then Y else Hr (R2 g n W t) (Eh g n W x) (λj e=>J (.assign j e))
   |_=>Y)
  |.AugAssign t a x u=>(match t with|.Subscript o i u=>if o9 a&& !xm i then VF (Eh g n W o) (Eh g n W i) (Eh g n W x) λb c e=>J (.aug b c a e)else Y|_=>Y)
  |.Expr x u=>if Gv x then Y else ft (Eh g n W x) (λe=>J (.expr e))|.If t a b u=>VF (sV g n W t) (Mo g n W a) (Mo g n W b) (λj h c=>J (.ifs j h c))|.While t b i u=>(match i with|[]=>Hr (sV g n W t) (Mo g n W b) (λj c=>J (.whil j c))|_=>Y)
  |.For h a b i u=>(match i with
   |[]=>(match SV a with
    |some (z,j)=>if decide (g.glob z=J (.type "zip"))then
     (if(W.kinds.lookup z==J .globalImplicit&&zm z)&&qk h then VF (Tk W h) (tx g n W j) (Mo g n W b) λt k c=>J (.forz t k c)else Y)
     else VF (Tk W h) (Eh g n W a) (Mo g n W b) (λt e c=>J (.fors t e c))
    |none=>VF (Tk W h) (Eh g n W a) (Mo g n W b) λt e c=>J (.fors t e c))
   |_=>Y)
  |.Return v u=>ft v (λx=>ft (Eh g n W x) λe=>J (.ret e))|_=>Y
noncomputable def Mo(g:Gl)(z:Nat)(j:Sc)(q:List Yy):Option (List S):=match z,j,q with|0,u,y=>Y|u+1,y,[]=>J []|n+1,W,st::a=>Hr (qeu g n W st) (Mo g n W a) λx b=>J (x::b)
end
def HA(w:zb)(O:qb)(K:Ve)(g:Gl):Prop:=
 ∀{n:Nat}{A:Xb}{X:wj}{Q:Ca->Prop}{W:Sc}{z:Bb}{j k f:Nm}{h:Expr}{d:List Expr}{b:List Yy}{t:CT}{G:Me->St->Option (List V×St)}{a:Me->St->Option (Fl×Me×St)},
  Eg n A->X.scope.names=W.kinds->g.glob z=J (.type "zip")->X.kindOf z=J .globalImplicit->zm z=Z->qk h=Z->Tk W h=J t->(∀e∈d,∀x p,e≠md x p)->
  (∀R f,Ti w O A X Q W.sl 0 R (gj (qg f (starEach d X))) (G R))->(∀c:Av,@Ef c w O A X Q W.sl (qu b X) a)->
  Ef w O A X Q W.sl (YD (.For h (.Call (.Name z j) d [] k) b [] f) X) λR e=>(G R e).bind λp=>((Vn p.1).bind VV).bind λc=>Fq 5000 (.st c) 0 (λv R e=>(jl t v R).bind λi=>a i e) R p.2
variable {w:zb} {O:qb} {A:Xb} {X:wj} {Q:Ca->Prop} {F:List Bb} {lo:Nat} {R I:Me} {K:Ve} {P:Bh} {n N:Nat} {g:Gl} {L:Nat->List V->St->Option (V×St)} {W:Sc}
theorem a0{tg x:Expr}(h:(qk x&&qk tg)=ta)(hl:∀es p,tg≠ .List es p):zu [tg] x X=pure Y:=by
 induction tg using Expr.casesOn<;>first|rfl|exact zc rfl (hl _ _)|skip
 induction x using Expr.casesOn<;>first|rfl|exact Ed h
theorem qaP{a:Je}(h:o9 a=Z):a=.Add\/a=.Sub:=by
 induction a<;>first|exact .inl rfl|exact .inr rfl|exact zc h ia
theorem Qu{i:Expr}(h:xm i=ta)(b c a:ua):augStore i b c a=(do aj [a,b,c] (px b c a);qfk [a,b,c] [];pure .next):=by
 induction i using Expr.casesOn<;>first|rfl|exact Ed h
theorem Ef.out{st:Yl OK}{r:Me->St->Option (Fl×Me×St)}{y x:S}(h:J y=J x)(q:Ef w O A X Q F st r)(e:∀R a,XD P L y R a=r R a):Ef w O A X Q F st (λR a=>XD P L x R a):=ba h▸Ef.congr q e
structure ZX(w:zb)(O:qb)(A:Xb)(P:Bh)(g:Gl)(L:Nat->List V->St->Option (V×St))(N:Nat):Prop where
 one:∀W st t X Q,X.scope.names=W.kinds->qeu g N W st=J t->Ef w O A X Q W.sl (YD st X) (λR σ=>XD P L t R σ)
 all:∀W ss ts X Q,X.scope.names=W.kinds->Mo g N W ss=J ts->Ef w O A X Q W.sl (qu ss X) λR σ=>rv P L ts R σ
omit [E:Av]in
theorem jF(x1:∀f:Av,@Cx f w O K P g L n)(ZO:∀f:Av,@HA f w O K g)(AK:Eg (n+1) A):∀N(f:Av),@ZX f w O A P g L N:=by
 intro N
 induction N with
 |zero=>
  rintro f;exact⟨λW e t X Q o h=>ja h,λW es ts X Q o h=>ja h⟩
 |succ N ih=>
  rintro f;have SI:=ih;have S:=SI f;have SE:=Os (x1 f) AK N;have SA:=O1 (x1 f) AK N;refine⟨λW st t X Q o h=>?_,λW ss ts X Q o h=>?_⟩
  ·have kindOf:∀y k,W.kinds.lookup y=J k->X.kindOf y=J k:=λy k q=>by unfold nn;refine U o ?_;exact q
   induction st using F4 with
   |Return v p=>
    refine Fe h λx a h=>?_;subst a;exact Fe h λy q h=>(Ef.out h (A1 λR=>SE.E W _ y X Q 0 R o q) λR C=>rfl)
   |Assign ts x p=>
    rcases ts with _|⟨t0,_|_⟩<;>try (exact ja h)
    by_cases h1:(yp t0&&uT x)=Z
    ·refine aa λT=>?_
     obtain⟨y,py,rfl⟩:=Ur (Aa.mp h1).1;obtain⟨d,c,a,b,rfl⟩:=vT (Aa.mp h1).2;refine T ?_;clear T;replace h:(if W.kinds.lookup y==J .local then
      (if py.line==b.line&& !(a.names.any λ(n,k)=>n==y&&(k== .local||k== .cell))then
       Hr (Eh g (N+1) W (.ListComp d c a b)) (Ss W y) (λe i=>J (.assign (.x i) e))
      else Y)
      else Hr (Eh g N W (.ListComp d c a b)) (Ss W y) λe i=>J (.assign (.x i) e))=J t:=h
     have e1:∀l,Dt (.ListComp d c a b) (J (.Name y py)) l X=pure (X.blockKind== .function&&X.kindOf y==J .local&&py.line==b.line&& !(a.names.any λ(n,k)=>n==y&&(k== .local||k== .cell))):=λl=>rfl;by_cases hl:(W.kinds.lookup y==J .local)=Z
     ·rw[Fd hl]at h
      refine de h λG h=>(rd h λe i D B h=>?_);refine Ef.out h (Ww AK SE o D B λj=>?_) λR C=>?_
      ·refine U (e1 _) ?_
       have O:X.blockKind=.function:=by unfold j4;refine U j ?_;rfl
       refine U O (U (kindOf _ _ (by simpa using hl)) ?_);simp only[Dd]at G;simp only[beq_self_eq_true,tA,G.1,G.2]
      ·rfl
     ·rw[ge hl]at h
      refine rd h λe i D B h=>?_;have x2:∀l,Dt (.ListComp d c a b) (J (.Name y py)) l X=pure ta:=λl=>by
       have h2:(X.kindOf y==J yd.local)=ta:=by unfold nn;refine U o ?_;simpa using hl
       refine U (e1 _) (U h2 ?_);simp
      have gA:aq w O A X Q W.sl (λv=>assign (.Name y py) X v) (λv R C=>IK P L (.x i) v R C):=by
       exactλv x4 R ρ C s I j r m xv e=>re e λu u e=>by
        obtain⟨rfl,rfl⟩:=Ta e;exact Da (mh (Xl B) (Zc _) r m xv) (λu u p=>PA.pt p) λu u z=>z
      exact Ef.out h (Er (λu u=>by simp) (x2 _) rfl (λR=>SE.E W _ e X Q 0 R o D) gA) λR C=>rfl
    ·by_cases h2:(qk t0&&qk x)=Z
     ·obtain⟨ts,k,p,rfl⟩:=Vr (Aa.mp h2).1
      obtain⟨i,l,v,rfl⟩:=Vr (Aa.mp h2).2;refine Fe h λw d h=>(aa λT=>?_)
      induction w with
      |none=>
       refine T ?_;clear T;exact rd h λt e D B h=>(Ef.out h (λR ρ C s a I j r m b=>Er (λu u=>by simp) (Tn rfl) (gI m.kind o d) (λR=>SE.E W _ e X Q 0 R o B) (SA.one W _ t X Q o D).1 R ρ C s a I j r m b) λR C=>rfl)
      |some c=>
       refine T ?_;clear T;refine rd h λis e D B h=>(de h λG h=>?_);have G:=Ml G;exact Ef.out h (λR ρ C s a I j r m b=>Ou (tab:=P) (cf:=L) AK (gI m.kind o d) G.1 G.2 (λR=>SE.E W _ e X Q 0 R o B) R ρ C s a I j r m b) λR C=>rfl
     ·replace h:(if yp t0&&uT x then _ else if qk t0&&qk x then _ else if Gv x then Y else Hr (R2 g N W t0) (Eh g N W x) λl e=>J (.assign l e))=J t:=h
      rw[ge h1,ge h2]at h;refine Aj h λG h=>(rd h λl e D B h=>?_);refine Ef.out h (Er ((SA.one W _ l X Q o D).2) (Tn G) (a0 (by refine U (Bool.and_comm _ _) ?_;simpa using h2) λes p z=>?_) (λR=>SE.E W _ e X Q 0 R o B) (SA.one W _ l X Q o D).1) λR C=>rfl;subst z
      induction N using Sa<;>exact ja D
   |AugAssign t0 j x p=>
    induction t0 using Expr.casesOn<;>try (exact ja h)
    refine de h λG h=>(Gi h λb c e D B r h=>?_);simp only[Dd,Te]at G;exact Ef.out h (kY (λd i a=>Qu G.2 d i a) (λR=>SE.E W _ b X Q 0 R o D) (λR=>SE.E W _ c X Q 0 R o B) λR=>SE.E W _ e X Q 0 R o r) λR C=>rfl
   |For c a b s p=>
    induction s using ma with
    |cons j d=>exact ja h|nil=>
     have Jd:VF (Tk W c) (Eh g N W a) (Mo g N W b) (λt e i=>J (Mine.Internal.S.fors t e i))=J t->Ef w O A X Q W.sl (YD (.For c a b [] p) X) (λR C=>XD P L t R C):=λh=>by
      exact Gi h λt e i D B r h=>(Ef.out h (bZ AK D (Gm B) (λR=>SE.E W _ e X Q 0 R o B) (S.all W _ i X Q o r)) λR C=>rfl)
     replace h:(match SV a with
      |some (z,m)=>if decide (g.glob z=J (.type "zip"))then
       (if(W.kinds.lookup z==J .globalImplicit&&zm z)&&qk c then VF (Tk W c) (tx g N W m) (Mo g N W b) λt u i=>J (.forz t u i)else Y)
       else VF (Tk W c) (Eh g N W a) (Mo g N W b) (λt e i=>J (.fors t e i))
      |none=>VF (Tk W c) (Eh g N W a) (Mo g N W b) λt e i=>J (.fors t e i))=J t:=h
     induction e:SV a with
     |none=>rw[e]at h;exact Jd h|some za=>
      refine aa λT=>?_;obtain⟨z,m⟩:=za;refine T ?_;clear T;rw[e]at h
      dsimp only at h
      by_cases v:decide (g.glob z=J (.type "zip"))=Z
      ·rw[Fd v]at h
       obtain⟨zp,cp,rfl⟩:=UV e;refine de h λG h=>(Gi h λt u i D B r h=>?_);simp only[Dd,beq_iff_eq]at G;exact Ef.out h (ZO f AK o (Ml v) (kindOf _ _ G.1.1) G.1.2 G.2 D (SE.Es W _ u X Q 0 [] default o B).2 (λR x3=>(SE.Es W _ u X Q 0 R x3 o B).1) λf=>(SI f).all W _ i X Q o r) λR C=>rfl
      ·rw[ge v]at h;exact Jd h
   |While c b s p=>
    induction s using ma with
    |cons j d=>exact ja h|nil=>
     exact rd h λl i D B h=>(Ef.out h (SQ AK (λR=>SE.T W _ l X Q 0 R o D) (S.all W _ i X Q o B)) λR C=>rfl)
   |If c a b p=>
    exact Gi h λl d i D B r h=>(Ef.out h (f8 (λR=>SE.T W _ l X Q 0 R o D) (S.all W _ d X Q o B) (S.all W _ i X Q o r)) λR C=>rfl)
   |Expr x p=>
    exact Aj h λG h=>(Fe h λy q h=>(Ef.out h (cT G λR=>SE.E W _ y X Q 0 R o q) λR C=>rfl))
   |_=>exact ja h
  ·induction ss using ma with
   |nil=>obtain rfl:=ba h;exact Ef.congr qz λR C=>rfl|cons a ss=>
    refine rd h λx u D B h=>?_;obtain rfl:=ba h;exact Ef.congr (bx (S.one W a x X Q o D) (S.all W ss u X Q o B)) λR C=>rfl
end
section
variable {x:Bb} {v:ua}
theorem TA{c:Bb->Option yd}{a:List (Bb×ua)}:{m:Bb->Option ua}->(∀p∈a,p.1≠x)->qbt c a m x=m x:=by
 induction a with
 |nil=>exactλu=>rfl|cons p r d=>
  intro m h;have b:¬x=p.1:=λq=>h p sa q.symm;unfold qbt;refine U (d λp e=>h p (oa _ e)) ?_
  split<;>simp[b]
theorem MI{c:Bb->Option yd}(d:c x=J .local){a:List (Bb×ua)}:{m:Bb->Option ua}->(a.map λx=>x.1).Nodup->(x,v)∈a->qbt c a m x=J v:=by
 induction a with
 |nil=>exactλu h=>(Jb h).elim|cons p r e=>
  intro m b h;obtain⟨y,u⟩:=p;rw[Tb,Ec]at b;unfold qbt;rcases ab.mp h with q|q
  ·obtain⟨rfl,rfl⟩:=Ta q
   refine U (TA λp f q=>b.1 (Qb.mpr ⟨p,f,q⟩)) ?_;simp[d]
  ·exact e b.2 q
theorem QA{c:Bb->Option yd}{a:List (Bb×ua)}:{m:Bb->Option ua}->(∀p∈a,p.1≠x)->qbs c a m x=m x:=by
 induction a with
 |nil=>exactλu=>rfl|cons p r d=>
  intro m h;have b:¬x=p.1:=λq=>h p sa q.symm;unfold qbs;refine U (d λp e=>h p (oa _ e)) ?_
  split<;>simp[b]
theorem LI{c:Bb->Option yd}(d:c x=J .cell){a:List (Bb×ua)}:{m:Bb->Option ua}->(a.map λx=>x.1).Nodup->(x,v)∈a->qbs c a m x=J v:=by
 induction a with
 |nil=>exactλu h=>(Jb h).elim|cons p r e=>
  intro m b h;obtain⟨y,u⟩:=p;rw[Tb,Ec]at b;unfold qbs;rcases ab.mp h with q|q
  ·obtain⟨rfl,rfl⟩:=Ta q
   refine U (QA λp f q=>b.1 (Qb.mpr ⟨p,f,q⟩)) ?_;simp[d]
  ·exact e b.2 q
theorem xE{b:List Bb}{a:List ua}(h:b.length=a.length)(c:x∈b):((b.zip a).lookup x).isSome=Z:=by
 induction b generalizing a with
 |nil=>cases c|cons y b d=>
  induction a using ma with
  |nil=>simp at h|cons v a=>
   refine U GK (U Mc ?_);by_cases q:x=y
   ·subst q;simp
   ·have e:(x==y)=ta:=by simpa using q
    simp only[e];exact d (by simpa using h) ((ab.mp c).resolve_left q)
theorem uz{b c:Type}{f g:b->Option c}:{l:List b}->(∀x∈l,f x=g x)->l.filterMap f=l.filterMap g:=by
 intro l
 induction l with
 |nil=>
  rintro _;exact rfl
 |cons a l d=>
  rintro h;exact U Cj (U Cj (U (h a sa) (U (d λx e=>h x (oa _ e)) rfl)))
theorem ZQ:∀{b:List Bb}{a:List ua},b.Nodup->b.length=a.length->(b.filterMap λn=>((b.zip a).lookup n).map λx=>(n,x))=b.zip a:=by
 intro b
 induction b with
 |nil=>
  intro a c h
  induction a using ma with
  |nil=>rfl|cons v a=>exact zc h.symm (Yb _)
 |cons x b d=>
  intro a c h
  induction a using ma with
  |nil=>exact zc h (Yb _)|cons v a=>
   rw[Ec]at c;refine U GK (U Cj (U (by simp[Mc]:(HF x ((x,v)::b.zip a)).map (λy=>(x,y))=J (x,v)) ?_));have e:(b.filterMap λn=>(HF n ((x,v)::b.zip a)).map λx=>(n,x))=b.filterMap λn=>((b.zip a).lookup n).map (λx=>(n,x)):=uz λn f=>by
    have g:(n==x)=ta:=by
     have:n≠x:=λq=>c.1 (q▸f)
     simpa using this
    exact U Mc (U g rfl)
   simp only;exact U e (U (d c.2 (Jh h)) rfl)
theorem uW{p:Prop}{a:Type _}{A:p->a}{B:¬p->a}{d:Decidable p}(h:¬p):(qeE (motive:=λu=>a) B A d)=B h:=by
 induction d with
 |isTrue q=>exact zc q h|isFalse q=>rfl
theorem Tu{c:ue}{a:List ua}(f:c.params.posonlyargs=[])(g:c.params.kwonlyargs=[])(h:c.params.vararg=Y)(i:c.params.kwarg=Y)(k:c.defaults=.none)(d:(c.params.args.map λx=>x.arg).Nodup)(e:(c.params.args.map λx=>x.arg).length=a.length):
 bindArgs c ⟨a,[]⟩=pure ((c.params.args.map λx=>x.arg).zip a):=by
 obtain⟨z,A,⟨B,b,C,D,E,F,G⟩,I,l,gl,m,o,p,r,K,s,L,N,O⟩:=c
 dsimp only at f g h i k d e
 subst f g h i k;have t:(((b.map λx:Arg=>x.arg)++[]).filterMap λn=>(((b.map λx:Arg=>x.arg).zip a).lookup n).map λx=>(n,x))=(b.map λx:Arg=>x.arg).zip a:=by refine U (Ub _) ?_;exact ZQ d e
 have u:decide (a.length>(b.map λx=>x.arg).length)=ta:=by refine U e ?_;exact decide_eq_false (fc _)
 have w:∀j,(!(((b.map λx=>x.arg).take j).filter λn=>(((b.map λx=>x.arg).zip a).lookup n).isNone).isEmpty)=ta:=λj=>by
  rw[Yh.mpr λx y q=>?_];rfl;have:=xE e (List.mem_of_mem_take y);rw[dk.mp q]at this;exact zc this ia
 conv=>lhs;whnf
 refine(uW ?_).trans ?_
 ·exactλq=>ia ((show(decide (a.length>(b.map λx=>x.arg).length)&&Z)=ta by refine U u ?_;rfl).symm.trans q)
 conv=>lhs;whnf
 refine(uW ?_).trans ?_
 ·exactλq=>ia ((w _).symm.trans q)
 exact U vA (U List.zip_nil_right (Gc (λx=>(pure x:Yl (List (Bb×ua)))) t))
end
noncomputable def LG(z:ua):Bool:=match z with|.none=>Z|_=>ta
def bh(a:ue):Sc:=⟨a.scope.names,a.params.args.map (λx=>x.arg)++(Yg a.scope.names).filter λx=> !(a.params.args.map λx=>x.arg).contains x⟩
def vq(a:ue):Bool:=
 a.params.posonlyargs.isEmpty&&(a.params.kwonlyargs.isEmpty&&(a.params.vararg.isNone&&(a.params.kwarg.isNone&&(LG a.defaults&&((a.scope.kind== .function)&&(!a.scope.isGenerator&&(!a.scope.isCoroutine
  &&(decide (a.params.args.map λx=>x.arg).Nodup&&((a.globals==mainGlobals)&&((a.builtins==jp)
  &&((a.params.args.map λx=>x.arg).all (λx=>a.scope.names.lookup x==J .local||a.scope.names.lookup x==J .cell)
  &&(a.scope.names.all (λx=>a.scope.names.lookup x.1==J x.2)
  &&(if a.closure.isEmpty=Z then a.scope.names.all λx=> !(x.2== .free)else(a.scope.names.all (λx=> !(x.2== .cell))&&(a.scope.names.all (λx=> !(x.2== .free)||(a.closure.lookup x.1).isSome)&&decide (a.closure.length<=1))))))))))))))))
def xQ(g:Gl)(a:ue):Option Fn:=match a.body with|.expr u=>Y|.stmts c=>if vq a then(Mo g 60 (bh a) c).map λb=>⟨a.params.args.length,(bh a).sl.length,b⟩else Y
structure PK(fd:ue):Prop where
 po:fd.params.posonlyargs=[]
 ko:fd.params.kwonlyargs=[]
 va:fd.params.vararg=Y
 kw:fd.params.kwarg=Y
 df:fd.defaults=.none
 kind:fd.scope.kind=.function
 gen:fd.scope.isGenerator=ta
 co:fd.scope.isCoroutine=ta
 nd:(fd.params.args.map λx=>x.arg).Nodup
 gl:fd.globals=mainGlobals
 bi:fd.builtins=jp
 ps:∀x∈fd.params.args.map λx=>x.arg,fd.scope.names.lookup x=J .local\/fd.scope.names.lookup x=J .cell
 wJ:∀x k,(x,k)∈fd.scope.names->fd.scope.names.lookup x=J k
 clos:(fd.closure=[]/\∀x k,(x,k)∈fd.scope.names->k≠Ic)\/((∀x k,(x,k)∈fd.scope.names->k≠Hd)/\(∀x k,(x,k)∈fd.scope.names->k=Ic->(fd.closure.lookup x).isSome=Z)/\fd.closure.length<=1)
theorem Ye{a b:Bool}(h:(a&&b)=Z):a=Z:=by induction a<;>first|rfl|exact h
theorem gd{a b:Bool}(h:(a&&b)=Z):b=Z:=by induction a<;>first|exact h|cases h
theorem b0{b:Bool}(h:(!b)=Z):b=ta:=by induction b<;>first|rfl|cases h
theorem uB{v:ua}(h:LG v=Z):v=.none:=by induction v<;>first|rfl|exact zc h ia
theorem cH{l:List (Bb×yd)}{n:yd}(h:l.all (λx=> !(x.2==n))=Z):∀x k,(x,k)∈l->k≠n:=λx k a e=>by
 have z:=b0 (qd.mp h (x,k) a);rw[e]at z
 induction n<;>cases z
theorem yG{g:ue}(h:vq g=Z):PK g:=
 have i:=gd h;have j:=gd (gd i);have l:=gd (gd j);have m:=gd (gd l);have a:=gd (gd m);have b:=gd (gd a);have d:=gd b
 ⟨De.mp (Ye h),De.mp (Ye i),dk.mp (Ye (gd i)),dk.mp (Ye j),uB (Ye (gd j)),eq_of_beq (Ye l),b0 (Ye (gd l)),b0 (Ye m),Ml (Ye (gd m)),eq_of_beq (Ye a),eq_of_beq (Ye (gd a)),
  λx f=>(tI.mp (qd.mp (Ye b) x f)).imp eq_of_beq eq_of_beq,λx k f=>eq_of_beq (qd.mp (Ye d) (x,k) f),by
  have z:=gd d;by_cases c:g.closure.isEmpty=Z
  ·exact .inl ⟨De.mp c,cH ((Fd c).symm.trans z)⟩
  ·have z:=(ge c).symm.trans z
   refine .inr ⟨cH (Ye z),λx k f e=>?_,Ml (gd (gd z))⟩;have y:=qd.mp (Ye (gd z)) (x,k) f;rw[e]at y;exact y⟩
theorem Eg.deeper{n:Nat}{A:Xb}(a:Eg (n+1) A)(b:wj):Eg n (A.deeper b):=
 ⟨a.hh,by show A.depth+1+_+_<=_;have:=a.depth;lia,by show A.units+3+_+_<=_;have:=a.units;lia⟩
section
variable {x:Bb} {i:Nat} {a:Ca}
variable [N:Av]
variable {w:zb} {S:qb} {A:Xb} {K:Ve} {P:Bh} {n:Nat} {g:Gl} {T:List Ca} {Q O:St} {s:Ea} {W:List V} {vals:List ua} {X:ue}
theorem gF{b rest:List Bb}(d:∀y∈rest,y∉b)(h:xc (b++rest) x=J i)(c:i<b.length):b[i]?=J x:=by
 have:=Qj h
 rwa [Xa c]at this
theorem QE{y:Bb}:y∈((Yg X.scope.names).filter λx=> !(X.params.args.map λx=>x.arg).contains x)->y∉X.params.args.map (λx=>x.arg):=λh q=>by
 have:=(Uc.mp h).2;simp only[Te,List.contains_eq_mem,decide_eq_false_iff_not]at this;exact this q
theorem Ov{v:V}(f:W.length=X.params.args.length)(c:xc (bh X).sl x=J i)(b:(W.map J++Ia ((bh X).sl.length - X.params.args.length) Y)[i]?=J (J v)):
 i<X.params.args.length/\(X.params.args.map λx=>x.arg)[i]?=J x/\W[i]?=J v:=by
 have d:i<W.length:=by
  by_cases q:i<W.length
  ·exact q
  ·rw[Ma (by simpa using q),Ue]at b
   split at b<;>(first|exact ja b|cases b)
 refine⟨by lia,gF (λy e=>QE e) c (by simp;lia:i<(X.params.args.map λx=>x.arg).length),?_⟩;rw[Xa (by simpa using d),Dc]at b
 induction q:W[i]? with
 |none=>rw[q]at b;exact ja b|some u=>rw[q]at b;simp at b;subst b;rfl
theorem Vu{b:ua}(c:(X.params.args.map λx=>x.arg)[i]?=J x)(d:vals[i]?=J b):(x,b)∈(X.params.args.map λx=>x.arg).zip vals:=by
 have:((X.params.args.map λx=>x.arg).zip vals)[i]?=J (x,b):=by refine U (propext Xk) ?_;exact⟨c,d⟩
 exact Na this
theorem Yo{b:List Bb}{vals:List ua}(h:b.Nodup)(c:b.length=vals.length):((b.zip vals).map λx=>x.1).Nodup:=by
 have:(b.zip vals).map (λx=>x.1)=b:=by
  rw[List.map_fst_zip];lia
 exact U this h
theorem Uv(C:PK X)(h:xc (bh X).sl x=J i):X.scope.names.lookup x=J .local\/X.scope.names.lookup x=J .cell:=by
 rcases Vb.mp (Ip h)with q|q
 ·exact C.ps x q
 ·refine aa λb=>?_
  obtain⟨k,z1,z2⟩:=Oq.mp (Uc.mp q).1;refine b ?_;have:=C.wJ _ _ z1;rcases z2 with z2|z2<;>subst z2
  ·exact .inl this
  ·exact .inr this
def qbN(s:Ea)(b:List (Bb×Ca))(a:Ca):Prop:=a=s.heap.objs.size\/∃n,b.lookup n=J a/\s.heap.objs.size<a
theorem fJ{E:Ea}(C:PK X)(x2:X.closure=[])(p:∀x k,(x,k)∈X.scope.names->k≠Ic)(r:R w S T Q s.heap)(x:ve w T s.heap W vals)(hl:W.length=X.params.args.length)
 (I:InCallC s (Vh X s.heap.objs.size a).locals (qbt (Vh X s.heap.objs.size a).kindOf ((X.params.args.map λx=>x.arg).zip vals) λu=>Y) (Vh X s.heap.objs.size a).cells (qbs (Vh X s.heap.objs.size a).kindOf ((X.params.args.map λx=>x.arg).zip vals) λu=>Y) E):
 Lc w S (Vh X s.heap.objs.size a) (qbN s (Vh X s.heap.objs.size a).cells) (bh X).sl 0 (W.map J++Ia ((bh X).sl.length - X.params.args.length) Y) T E.heap:=by
 have x3:=x.length;have t:=Yo C.nd (vals:=vals) (by simp;lia);have hk:=I.toInCall.keep;have hL:(Vh X s.heap.objs.size a).locals=s.heap.objs.size:=rfl;have x1:∀y,(Vh X s.heap.objs.size a).kindOf y=X.scope.names.lookup y:=λy=>rfl;have d:∀y,(y,Hd)∈X.scope.names->∃c,(Vh X s.heap.objs.size a).cells.lookup y=J c:=λy D=>by
  refine aa λm=>?_;obtain⟨e,h,q,j,v,z⟩:=Ok X.scope.names (s.heap.objs.size+1) [];obtain⟨c,f⟩:=j y D;have b:(y,c)∈(Vh X s.heap.objs.size a).cells:=by
   show(y,c)∈Ij _ _ _
   refine U h ?_;simpa using f
  obtain⟨l,o,_⟩:=rh b;exact m (⟨l,o⟩)
 have F:(bh X).sl.length=(W.map J++Ia ((bh X).sl.length - X.params.args.length) (Y:Option V)).length:=by
  have:X.params.args.length<=(bh X).sl.length:=by unfold bh;simp
  simp;lia
 refine⟨C.kind,C.gl,C.bi,F.symm,⟨_,I.toInCall.ns,λy i v z h G=>?_⟩,λy i v z h G=>?_,⟨Jf r (Fb _),Sd r (Fb _),.inl rfl⟩,λy k D h=>?_,I.apart,λy i z u=>?_,λb j=>?_,λb j=>?_⟩
 ·obtain⟨_,m1,L⟩:=Ov hl z G
  obtain⟨l,v1,v2⟩:=x.get L;exact⟨l,MI h t (Vu m1 v1),v2.mono (Ja _) λa o e u=>hk a o e⟩
 ·obtain⟨_,m1,L⟩:=Ov hl z G
  obtain⟨l,v1,v2⟩:=x.get L;have B:(Vh X s.heap.objs.size a).kindOf y=J .cell:=by
   rcases h with q|q
   ·exact q
   ·exact zc rfl (p y _ (mem_of_lookup (show X.scope.names.lookup y=J .free from q)))
  obtain⟨c,f⟩:=d y (mem_of_lookup (show X.scope.names.lookup y=J .cell from B));have:=I.cell y c f;rw[LI B t (Vu m1 v1)]at this;exact⟨c,l,f,this,v2.mono (Ja _) λa o e u=>hk a o e⟩
 ·rcases h with q|q
  ·refine aa λm=>?_
   subst q;obtain⟨c,f⟩:=d y D;exact m (⟨c,_,f,I.cell y c f⟩)
  ·exact zc q (p y k D)
 ·rcases Uv C z with q|q
  ·exact .inl q
  ·refine aa λm=>?_
   obtain⟨c,f⟩:=d y (mem_of_lookup q);refine m ?_;have l:=I.above y c (mem_of_lookup f);exact .inr ⟨q,c,_,f,I.cell y c f,Sd r (uk (vd l)),.inr ⟨y,f,l⟩⟩
 ·rcases j with q|⟨_,_,q⟩
  ·subst q;exact Sd r (Fb _)
  ·exact Sd r (uk (vd q))
 ·rcases j with q|⟨m,q,_⟩
  ·subst q
   obtain⟨o,f,l,e,_⟩:=I.toInCall.ns;refine U (show E.heap.get? s.heap.objs.size=J o from e) ?_;rfl
  ·obtain⟨o,e,_⟩:=I.cell m b q
   refine U e ?_;rfl
theorem RE:∀{l:List (Bb×ua)}{x:Bb}{v:ua},(l.map λx=>x.1).Nodup->(x,v)∈l->l.reverse.lookup x=J v:=by
 intro l x v c h;have d:(x,v)∈l.reverse:=gR.mpr h;obtain⟨e,f,j⟩:=rh d;have k:(x,e)∈l:=gR.mp j;refine U f ?_;have:e=v:=by
  clear f j d
  induction l with
  |nil=>cases h|cons p r o=>
   rw[Tb,Ec]at c;rcases ab.mp h with a|a
   ·refine aa λm=>?_
    subst a;refine m ?_;clear m;rcases ab.mp k with b|b
    ·cases b;rfl
    ·exact zc (Qb.mpr ⟨_,b,rfl⟩) c.1
   ·rcases ab.mp k with b|b
    ·subst b;exact zc (Qb.mpr ⟨_,a,rfl⟩) c.1
    ·exact o c.2 a b
 exact U this rfl
theorem rG{B:qb}(C:PK X)(m:∀x k,(x,k)∈X.scope.names->k≠Hd)(D:∀x k,(x,k)∈X.scope.names->k=Ic->(X.closure.lookup x).isSome=Z)(E:X.closure.length<=1)(F:∀n c,X.closure.lookup n=J c->∃v,S.IsCell c v)
 (r:R w S T Q s.heap)(x:ve w T s.heap W vals)(hl:W.length=X.params.args.length)(t:B.Ns s.heap.objs.size λx=>((X.params.args.map λx=>x.arg).zip vals).reverse.lookup x)(L:∀b o,s.heap.get? b=J o->B.get? b=J o):
 Lc w S (ig X s.heap.objs.size a) (λa=>a=s.heap.objs.size) (bh X).sl 0 (W.map J++Ia ((bh X).sl.length - X.params.args.length) Y) T B:=by
 have x1:=x.length;have l:∀y,(ig X s.heap.objs.size a).kindOf y≠J .cell:=λy q=>m y _ (mem_of_lookup (show X.scope.names.lookup y=J .cell from q)) rfl;have G:(bh X).sl.length=(W.map J++Ia ((bh X).sl.length - X.params.args.length) (Y:Option V)).length:=by
  have:X.params.args.length<=(bh X).sl.length:=by unfold bh;simp
  simp;lia
 have I:X.closure.Pairwise λx y=>x.2≠y.2:=by
  match e:X.closure,E with
  |[],j=>exact .nil|[p],j=>exact EA _ _|j::d::f,h=>simp at h
 refine⟨C.kind,C.gl,C.bi,G.symm,⟨_,t,λy i v h d p=>?_⟩,λy i v h d p=>?_,⟨Jf r (Fb _),Sd r (Fb _),rfl⟩,λy k hy d=>?_,I,λy i h u=>?_,λb f=>?_,λb f=>?_⟩
 ·refine aa λz=>?_
  obtain⟨_,m1,m2⟩:=Ov hl h p;obtain⟨j,v1,v2⟩:=x.get m2;exact z (⟨j,RE (Yo C.nd (vals:=vals) (by simp;lia)) (Vu m1 v1),v2.mono (Ja _) λa o e u=>L a o e⟩)
 ·rcases Uv C h with q|q
  ·rcases d with z|z<;> · rw[show(ig X s.heap.objs.size a).kindOf y=X.scope.names.lookup y from rfl,q]at z;cases z
  ·exact zc q (l y)
 ·rcases d with q|q
  ·exact zc q (m y k hy)
  ·have:=D y k hy q
   obtain⟨c,j⟩:=Oa.mp this;obtain⟨v,z⟩:=F y c j;exact⟨c,v,j,(z.keeps λb o e=>r.wK b o e).keeps L⟩
 ·rcases Uv C h with q|q
  ·exact .inl q
  ·exact zc q (l y)
 ·subst f;exact Sd r (Fb _)
 ·subst f
  obtain⟨o,c,j,e,_⟩:=t;refine U e ?_;rfl
end
section
structure GA(T:qb)(K:Ve)(O:Bh)(D:Ca):Prop where
 cls:∃o cd,K.lookup D=J o/\o.data=.cls cd
 ty:nsIn K cStatics "thirdparty.any"=J Y
 sup:∀c f,O.sup c=J f->mroIn K c (.ref D)=J Z/\pE K c D "__init__"=J (J (.ref f))/\FQ K (.ref f)=J (.type "function")/\fnIn K f=Z
structure TF(T:qb)(g:Gl)(f:Ca)(W:ue)(D:Ca):Prop where
 glob:g.glob "super"=J (.type "super")
 ks:W.scope.names.lookup ("super":Bb)=J .globalImplicit
 kc:W.scope.names.lookup ("__class__":Bb)=J .free
 par:∃ar,(W.params.posonlyargs++W.params.args).head?=J ar/\W.scope.names.lookup ar.arg=J .local/\xc (bh W).sl ar.arg=J 0
 fn:∃o,T.get? f=J o/\o.data=.func W
 code:∃c o vs file tf,W.code=.ref c/\T.get? c=J o/\o.data=.fields vs/\vs[2]?=J (.str file tf)/\((pg.main.file:Bb)==file)=Z
 top:(pg.main.scope.names.lookup ("super":Bb)).isSome=ta
 cell:∃c,W.closure.lookup ("__class__":Bb)=J c/\T.IsCell c (J (.ref D))
noncomputable def nW(a:Expr):Option (Expr×Bb×Nm):=match a with|.Attribute o n p=>J (o,n,p)|_=>Y
theorem GI{e:Expr}{q:Expr×Bb×Nm}(h:nW e=J q):e=.Attribute q.1 q.2.1 q.2.2:=by
 induction e using Expr.casesOn<;>first|exact ja h|cases ba h;rfl
noncomputable def zW(a:Yy):Option Expr:=match a with|.Expr e b=>J e|_=>Y
theorem gJ{st:Yy}{e:Expr}(h:zW st=J e):∃p,st=.Expr e p:=by
 induction st using F4<;>first|exact ja h|exact⟨_,by exact U (ba h) rfl⟩
def Y9(e:Expr):Option (Bb×Bb×Nm×List Expr×Nm):=(YF e).bind λq=>(Ie q.2.2.1.isEmpty).bind λa=>(nW q.1).bind λb=>(YF b.1).bind λc=>(Ie (c.2.1.isEmpty&&c.2.2.1.isEmpty)).bind λa=>(Rv c.1).map λs=>(s,b.2.1,b.2.2,q.2.1,q.2.2.2)
def W9(W:ue)(q:Bb×Bb×Nm×List Expr×Nm):Bool:=vq W&&(q.1==("super":Bb))&&(q.2.1==("__init__":Bb))&&(q.2.2.1.endLine==q.2.2.2.2.line)&& !q.2.2.2.1.isEmpty&&decide (q.2.2.2.1.length<29)
def P2(g:Gl)(W:ue)(rest:List Yy)(q:Bb×Bb×Nm×List Expr×Nm):Option Fn:=if W9 W q then VF g.sup (tx g 60 (bh W) q.2.2.2.1) (Mo g 60 (bh W) rest) λS x b=>J ⟨W.params.args.length,(bh W).sl.length,.expr (.sup 0 S x)::b⟩else Y
def O2(g:Gl)(W:ue)(a:List Yy):Option Fn:=match a with|[]=>Y|st::rest=>((zW st).bind Y9).bind (P2 g W rest)
def My(g:Gl)(W:ue):Option Fn:=match W.body with|.stmts a=>O2 g W a|_=>Y
def QK(T:qb)(g:Gl)(b:Nat->Option Fn)(D:Ca):Prop:=∀a d,b a=J d->∃o W,T.get? a=J o/\o.data=.func W/\T.CodeRec W.code W.qualname/\(xQ g W=J d\/(My g W=J d/\TF T g a W D))/\∀n c,W.closure.lookup n=J c->∃v,T.IsCell c v
variable [r:Av]
theorem nV{e:Expr}{p:Bb×Bb×Nm×List Expr×Nm}(h:Y9 e=J p):∃E y,e=.Call (.Attribute (.Call (.Name p.1 E) [] [] y) p.2.1 p.2.2.1) p.2.2.2.1 [] p.2.2.2.2:=
 bb h λq j h=>bb h λa k h=>bb h λb l h=>bb h λc m h=>bb h λa o h=>re h λd B h=>by
 have i:=Aa.mp (zf o);exact Bd h ((Jl B).imp λE P=>⟨c.2.2.2,by exact U (Jr j) (U (GI l) (U (Jr m) (U P (U (De.mp (zf k)) (U (De.mp i.1) (U (De.mp i.2) rfl))))))⟩)
variable {w:zb} {T:qb} {A:Xb} {t:Ca->Prop} {F:Me} {K:Ve} {O:Bh} {n:Nat} {g:Gl} {I:List Ca} {C z:St} {s:Ea} {v:V} {cf:Nat->List V->St->Option (V×St)} {W:ue} {L D:Ca} {f S:Nat} {G:List Yy} {E y u Q:Nm} {N:List Expr} {x:List X}
theorem qF(B:Ek T K O)(GO:Uy T K g)(CF:Ci w T cf n)(AK:Eg n A)(SU:GA T K O D)(SF:TF T g f W D)
 (hn:∀j∈N,∀i p,j≠md i p)(hG:Ti w T A (ig W L f) t (bh W).sl 0 F (gj (qg Q (starEach N (ig W L f)))) λC=>Ji O cf x F C)(hl:(u.endLine==Q.line)=Z)(y9:N≠[])(x9:N.length<29)
 (a:R w T I C s.heap)(b:Lc w T (ig W L f) t (bh W).sl 0 F I s.heap)(j:evX O cf (.sup 0 S x) F C=J (v,z)):
 PySem.wpAt (fb pg w) A (.func G (ig W L f)) (yc (.Call (.Attribute (.Call (.Name "super" E) [] [] y) "__init__" u) N [] Q) (ig W L f)) (PV w T L I s z v) No s:=by
 refine bb j λk q0 j=>bb j λq z3 j=>bb q0 λj' q1 q2=>bb q1 λvj z6 q3=>bb q2 λp hj q4=>bb q4 λe5 z7 q5=>(aa λnq=>?_);obtain⟨y1,rfl⟩:=Dl q5;have z8:F[0]?=J (J (.ref j')):=by
  refine aa λnq=>(Vg z6 λl z1 z2=>(nq ?_));clear nq;exact z1.trans (Gc J (dn z2 (Gc J (Sh q3))))
 obtain⟨l,m⟩:=p;obtain⟨m1,m2,m3,m4⟩:=SU.sup l S y1;obtain⟨oD,e6,z9,y2⟩:=SU.cls;obtain⟨ar,hp,y3,k6⟩:=SF.par;obtain⟨of,hf,k7⟩:=SF.fn;obtain⟨cc,oc,e7,e3,tf,x7,k8,k9,h3,x8⟩:=SF.code;obtain⟨ce,h4,h5⟩:=SF.cell;obtain⟨o,hm,hv⟩:=b.ns;obtain⟨h6,h7,xv⟩:=hv ar.arg 0 (.ref j') k6 y3 z8;obtain⟨x1,dx,e4,mm,rfl,ha,_,_,_,_,_,_,c⟩:=a.inst hj z7 xv;have X:K.In s.heap:=a.kin B;have y4:=X _ _ z9;refine nq ?_;clear nq;refine U (qdB _ _ _ _ _ _ _) (PySem.wpAt_bind (ks_wpAt_super_base (env:=ig W L f) SF.ks SF.kc (by decide) rfl (a.wK _ _ hf) k7 hp x7 (a.wK _ _ k8) k9 h3 x8 SF.top (ks_loadName_global b.kind SF.ks ?_)));have y5:{d:ua->Ea->Prop}->d (.type "super") s->Qa (fb pg w) A (loadGlobal (ig W L f) "super") d No s:=λhQ=>by
  refine aa λnq=>?_;obtain⟨_,o,hm,x2⟩:=GO.glob "super" _ SF.glob;refine nq ?_;clear nq;have h1:s.heap.Ns (ig W L f).globals o:=by refine U b.globals ?_;exact hm.keeps λx3 x5 j=>a.wK x3 x5 j
  refine aa λnq=>?_;rcases x2 with x2|⟨x2,mb,e,h⟩
  ·refine nq ?_
   clear nq;exact W4 h1 x2 hQ
  ·refine nq ?_
   clear nq;exact IZ h1 x2 (by refine U b.builtins ?_;exact e.keeps λx3 x5 j=>a.wK x3 x5 j) h hQ
 refine y5 ⟨rfl,?_⟩;refine DX b.kind SF.kc h4 (h5.keeps λx3 x5 j=>a.wK x3 x5 j) (OV b.kind y3 hm h7 (ks_wpAny_isType_cls y4 y2 ⟨rfl,?_⟩));refine ks_wpAny_call_super y4 y2 c.at_ c.cls (λl j=>?_) (looks_mroIn X m1) λh1 e1 k1=>?_
 ·have:=c.no
  unfold notCls at this;rw[j]at this;exact Ed this
 refine RF (ga (mc ?_));unfold QZ;refine U (Wv x9 hn) (U (by unfold uu;simp[hl]:uu Z (.Call (.Name "super" E) [] [] y) (ig W L f) u Q=pure Q) ?_);refine ga (dc ?_);have X1:K.In h1:=λx3 x5 j=>k1 _ _ (X x3 x5 j);refine aa λnq=>?_
 induction x6:clsIn K l with
 |none=>refine nq ?_;clear nq;unfold pE at m2;rw[x6]at m2;exact ja m2|some cd=>
 refine nq ?_;clear nq;unfold pE at m2;rw[x6]at m2;obtain⟨o2,h8,y6⟩:∃o2,h1.get? S=J o2/\o2.cls=.type "function":=by
  have h:(K.lookup S).map (λi=>i.cls)=J (.type "function"):=m3
  induction e:K.lookup S with
  |none=>rw[e]at h;exact ja h|some of=>rw[e]at h;exact⟨of,X1 _ _ e,ba h⟩
 refine ks_wpAny_getMethod_super e1 (looks_opaque X1 SU.ty) (l₀:=cd.mro) ?_ rfl X1 m2 h8 y6 (ks_ne X c x6) (by decide) ?_
 ·exactλA d b s h q=>ga ((looks_clsIn X1 x6) A _ b s h (Ba q))
 refine ga (Ba ?_);obtain⟨e0,er,rfl⟩:∃e0 er,N=e0::er:=by
  refine aa λnq=>?_
  induction N using ma with
  |nil=>refine nq ?_;clear nq;exact zc rfl y9|cons x1 x3=>refine nq ?_;clear nq;exact⟨x1,x3,rfl⟩
 have k2:∀x3 x5,s.heap.get? x3=J x5->(h1.push {cls:=.type "method",data:=.fields #[.ref S,.ref x1]}).get? x3=J x5:=λx3 x5 j=>ya _ (k1 _ _ j);have k3:=KX.wI (L:=L) (ρ:=I) k2;have r3:=a.wI k2;have E3:=b.wI a k2;have hq:(h1.push {cls:=.type "method",data:=.fields #[.ref S,.ref x1]}).get? h1.objs.size=J (methodObj (.ref S) (.ref x1)):=La _ rfl;have h9:h1.objs.size≠L:=λq=>by
  obtain⟨h,_,_,hL,_⟩:=hm;have:=rk k1 (Fb h1);rw[q]at this;rw[show s.heap.get? L=J h from hL]at this;exact ja this.symm
 have e2:qg Q (starEach (e0::er) (ig W L f))=(ta,yc e0 (ig W L f))::er.map λj=>(ta,yc j (ig W L f)):=by
  refine U (Fm hn) ?_;unfold qg;refine U Rd ?_;rfl
 have y7:=hG I C {s with heap:=h1.push {cls:=.type "method",data:=.fields #[.ref S,.ref x1]},toks:=s.toks+1} r3 E3 _ _ z3;rw[e2]at y7|-;refine rS (P:=MethP K h1.objs.size S (.ref x1)) (Bool.or_eq_false_iff.mpr ⟨List.any_eq_false.mpr λi hx=>(ab.mp hx).elim (λj=>j▸ia) λx2=>(Qb.mp x2).elim λh e=>e.2▸ia,rfl⟩) (keeps_M m4) (qbI (Da y7 (λy8 s2 p2=>?_) λh h i=>i));obtain⟨e8,t4,i,r4,x4⟩:=p2;have h:s2.heap.get? h1.objs.size=J (methodObj (.ref S) (.ref x1)):=i.keep _ _ hq (Jf a (rk k1 (Fb h1))) h9;refine⟨⟨h,r4.kin B⟩,Qw (ks_codeAny_call_bound h (Fc (CF A AK S _ (.ref x1::y8) _ _ s2 _ _ L r4 (E3.kx r3 i).loc.1 (.cons (i.vr (k3.vr xv)) x4) j) λq s' e=>?_))⟩;obtain⟨h6,rfl,e⟩:=e;exact PR.after t4.past (k3.trans i) e
end
section
variable {N:List Ca} {O F:St} {s:Ea} {L:Ca} {v:V} {I:Fn} {G:List V} {P:Prop} {h:qb} {W:ue}
variable {w:zb} {T:qb} {A:Xb} {K:Ve} {X:Bh} {n d:Nat} {D:Ca} {g:Gl} {Q:Nat->Option Fn}
noncomputable def xG(z:OK):ua:=match z with|.ret v=>v|_=>.none
theorem aE [av:Av]{s1 l:Ea}{m:wj}{r:Ca->Prop}{sl:List Bb}{t:Fl}{c:Me}{f:St}{C:OK}(hL:L∉N)(E:Ah s s1)(i:∀b o,s.heap.get? b=J o->s1.heap.get? b=J o)(B:∀a,r a->s.heap.get? a=Y)
 (R:RY (t,c,f)=(v,O))(p:PF w T m r sl N s1 f c t C l):PV w T L N s O v (xG C) l:=by
 refine aa λS=>?_;obtain⟨b,t2,k,r',E',q⟩:=p;refine S ?_;clear S;have j:∀a o,s.heap.get? a=J o->¬r a:=λa o e q=>by rw[B a q]at e;exact ja e
 have kx:KX L N s.heap l.heap b:=⟨⟨k.pre,λa ha=>(k.fresh a ha).imp_right λq=>(by
  induction z:s.heap.get? a with
  |none=>rfl|some o=>rw[i a o z]at q;exact ja q.symm),λa o e u y=>k.keep a o (i a o e) u (j a o e),λa o e x=>k.imm a o (i a o e) x,λa e=>by
  obtain⟨o,y⟩:=Oa.mp e;exact k.live a (by refine U (i a o y) ?_;rfl)⟩,λm0 u=>by obtain⟨o,z,ep,x,e2⟩:=u;exact⟨o,z,ep,k.keep _ _ (i _ _ x) hL (j _ _ x),e2⟩⟩
 induction t with
 |next=>rw[q.wF];obtain⟨rfl,rfl⟩:=Ta R;exact⟨b,E.trans t2,kx,r',.none⟩|ret u=>
  obtain⟨y,rfl,x⟩:=q.wF;obtain⟨rfl,rfl⟩:=Ta R;exact⟨b,E.trans t2,kx,r',x⟩
theorem EH{a:Nat->List V->St->Option (V×St)}(e:yP X a I G F=J (v,O))(k:G.length=I.params->∀p,rv X a I.body (G.map J++Ia (I.slots - I.params) Y) F=J p->RY p=(v,O)->P):P:=by
 refine Vg e λz b c=>(Ds c λp f i=>(k (Tc ?_) p f i))
 induction h:Rb G.length I.params with
 |true=>rfl|false=>rw[h]at b;exact ja b
theorem R.noLimit [f:Av](r:R w T N F h)(B:Ek T K X):h.NoLimit:=by
 obtain⟨c,a,b⟩:=B.statics;exact⟨c,a.keeps λb o e=>r.wK b o e,b⟩
theorem R.code [m:Av](r:R w T N F h){c:ua}{q:Bb}(e:T.CodeRec c q):h.CodeRec c q:=by
 refine aa λi=>?_;obtain⟨c,j,f,t,a,b,k,l⟩:=e;exact i (⟨c,j,f,t,a,r.wK _ _ b,k,l⟩)
theorem Dx [c:Av]{a:List ua}(C:PK W)(x:ve w N h G a)(b:G.length=W.params.args.length):bindArgs W ⟨a,[]⟩=pure ((W.params.args.map λx=>x.arg).zip a):=
 Tu C.po C.ko C.va C.kw C.df C.nd (by exact U (wa _) (Bd x.length (U b rfl)))
theorem UA(B:Ek T K X)(CO:Zp T K X)(GO:Uy T K g)(SO:∀i:Av,@Fj i w T)(ZO:∀i:Av,@HA i w T K g)(SU:GA T K X D)(ih:∀i:Av,@Ci i w T (ml X Q d) (2*d))(IA:Av){j:List ua}{o:pD}{f:Nat}
 (AK:Eg (2*(d+1)) A)(r:R w T N F s.heap)(hL:L∉N)(x:ve w N s.heap G j)(ho:T.get? f=J o)(hd:o.data=.func W)(y3:T.CodeRec W.code W.qualname)(y4:∀n c,W.closure.lookup n=J c->∃v,T.IsCell c v)
 (c:My g W=J I)(SF:TF T g f W D)(e:yP X (ml X Q d) I G F=J (v,O)):
 ch (fb pg w) A (.call (.ref f) ⟨j,[]⟩) (λq b=>∃t,q=.ok (.ret t)/\PV w T L N s O v t b) s:=by
 unfold My at c
 induction k:W.body<;>rw[k]at c<;>try (exact ja c)
 rename List Yy=>ss
 induction ss using ma with
 |nil=>exact ja c|cons st rest=>
 refine bb c λq x3 m=>bb x3 λex y5 hq=>de m λl p=>Gi p λf2 xs b k8 y6 E x4=>?_;clear p m c x3;refine aa λnq=>?_;obtain⟨sn,nm,ap,es,y7⟩:=q;obtain⟨ep,rfl⟩:=gJ y5;obtain⟨p0,p1,rfl⟩:=nV hq;refine nq ?_;unfold W9 at l;simp only[Dd,decide_eq_true_eq,Te]at l;refine aa λnq=>?_;obtain⟨⟨⟨⟨⟨l,y8⟩,y9⟩,hl⟩,z3⟩,x5⟩:=l;have z6:sn=("super":Bb):=by simpa using y8
 have z7:nm=("__init__":Bb):=by simpa using y9
 subst z6;subst z7;obtain rfl:=ba x4;refine nq ?_;have C:=yG l;refine EH e λx6 pe x7 he=>(aa λnq=>?_);obtain⟨fl,z8,z9⟩:=pe;refine nq (bb x7 λp3 h1 h2=>bb h1 λp4 x8 h4=>re h4 λu u h5=>?_);rw[<-h5]at h2;have x9:∀i:Av,@Cx i w T K X g (ml X Q d) (2*d):=λi=>⟨B,CO,GO,SO i,ih i⟩;refine aa λnq=>?_;obtain⟨k9,y1,h3⟩:=SF.cell;refine nq ?_;rcases C.clos with⟨k3,_⟩|⟨x2,k4,y2⟩
 ·rw[k3]at y1;exact ja y1
 refine ks_codeAny_call_defAt AK.room (r.wK _ _ ho:s.heap.get? f=J o) hd (r.noLimit B) (r.code y3) k (aR (Dx C x x6)) (λy z=>x2 y.1 y.2 z) (λy z=>(C.ps _ ((λy z=>(FR z).1:∀y∈(W.params.args.map λx=>x.arg).zip j,y.1∈W.params.args.map λx=>x.arg) y z)).elim (λq=>q) λq=>zc rfl (x2 _ _ (mem_of_lookup q))) (λh0 k6 hk=>?_) C.co C.gen C.kind;have E1:=rG (a:=f) C x2 k4 y2 y4 r x x6 k6 hk;have y:Eg (2*d+1) (A.deeper (ig W s.heap.objs.size f)):=Eg.deeper (n:=2*d+1) (AK.less (by exact Gb _)) _;have SE:=(Os (x9 IA) y 60).Es (bh W) es xs (ig W s.heap.objs.size f) (λa=>a=s.heap.objs.size) 0 (G.map J++Ia ((bh W).sl.length - W.params.args.length) Y) y7 rfl y6;have S:=(jF x9 ZO y 60 IA).all (bh W) rest b (ig W s.heap.objs.size f) (λa=>a=s.heap.objs.size) rfl E;refine ks_wpAt_execs_cons (ks_wpAt_Expr_any (PySem.wpAt_mono (qF (s:={s with heap:=h0,toks:=s.toks+((W.params.args.map λx=>x.arg).zip j).length}) (cf:=ml X Q d) (n:=2*d) B GO (ih IA) (y.less (by exact te _)) SU SF SE.2 SE.1 hl (by intro q;subst q;exact zc z3.symm ia) x5 (r.wI hk) E1 x8) (λt s1 p1=>?_) λu u z=>z.elim) ?_ ?_)
 ·obtain⟨k7,t1,k1,r1,x1⟩:=p1
  exact RF (Da (S _ k7 _ s1 fl z8 z9 r1 (E1.kx (r.wI hk) k1) h2) (λfw s2 p2=>⟨xG fw,(by induction fw<;>rfl),aE (s1:={s with heap:=h0,toks:=s.toks+((W.params.args.map λx=>x.arg).zip j).length}) hL rfl hk (λa ha=>by subst ha;exact Fb _) he (PF.after t1 k1.toKp p2)⟩) λu u z=>z.elim)
 ·unfold qfH;refine U E1.kind ?_;rfl
 ·exact Tn rfl
theorem Z9{g:Gl}(h:xQ g W=J I)(k:∀a,W.body=.stmts a->(if vq W then(Mo g 60 (bh W) a).map λb=>(⟨W.params.args.length,(bh W).sl.length,b⟩:Fn)else Y)=J I->P):P:=by
 replace h:(match W.body with|.expr u=>Y|.stmts a=>if vq W then(Mo g 60 (bh W) a).map λb=>⟨W.params.args.length,(bh W).sl.length,b⟩else Y)=J I:=h;revert k h
 induction W.body with
 |expr u=>exactλk h=>ja h|stmts a=>exactλk h=>k a rfl h
theorem fz(B:Ek T K X)(CO:Zp T K X)(GO:Uy T K g)(SO:∀i:Av,@Fj i w T)(ZO:∀i:Av,@HA i w T K g)(FO:QK T g Q D)(SU:GA T K X D)(ih:∀i:Av,@Ci i w T (ml X Q d) (2*d))(IA:Av):Ci w T (ml X Q (d+1)) (2*(d+1)):=by
 intro A AK f G k N F s v O L r hL x e;refine bb e λI hf e=>(aa λnq=>?_);obtain⟨o,W,ho,hd,x1,j,x3⟩:=FO f I hf;refine nq ?_;rcases j with j|⟨j,SF⟩
 rotate_left
 ·exact UA B CO GO SO ZO SU ih IA AK r hL x ho hd x1 x3 j SF e
 refine Z9 j λE m j=>?_;refine de j λy2 j=>re j λb x4 j=>?_;subst j;have C:=yG y2;refine EH e λp pe R he=>(aa λnq=>?_);obtain⟨fl,x5,x6⟩:=pe;refine nq ?_;have x7:s.heap.get? f=J o:=r.wK _ _ ho;have t:=Dx C x p;have x8:∀i:Av,@Cx i w T K X g (ml X Q d) (2*d):=λi=>⟨B,CO,GO,SO i,ih i⟩;have x9:∀y∈(W.params.args.map λx=>x.arg).zip k,y.1∈W.params.args.map (λx=>x.arg):=λy hy=>(FR hy).1;rcases C.clos with⟨y1,y3⟩|⟨x2,y4,y5⟩
 ·refine codeAny_call_cells AK.room x7 hd (r.noLimit B) (r.code x1) m t y1 (λy hy=>?_) (λs1 i=>?_) C.co C.gen C.kind
  ·rcases C.ps _ (x9 y hy)with q|q
   ·exact .inl q
   ·refine .inr ⟨q,?_⟩
    refine aa λnq=>?_;obtain⟨u,z,n1,n2,n3,n4⟩:=Ok W.scope.names (s.heap.objs.size+1) [];obtain⟨c,hc⟩:=n2 y.1 (mem_of_lookup q);obtain⟨c',q1,_⟩:=rh (l:=Ij (s.heap.objs.size+1) W.scope.names []) (x:=y.1) (c:=c) (by refine U z ?_;simpa using hc);refine nq ?_;refine U q1 ?_;rfl
  ·have E1:=fJ (a:=f) C y1 y3 r x p i
   have S:=(jF (n:=2*d) x8 ZO (Eg.deeper (n:=2*d+1) (AK.less (by exact Gb _)) (Vh W s.heap.objs.size f)) 60 IA).all (bh W) E b _ _ rfl x4 _ N F _ fl x5 x6 (r.wI i.toInCall.keep) E1 R;have ts:Ah s s1:=by obtain⟨z,u,rfl⟩:=i.toInCall.same;rfl
   exact Da S (λfw s2 p2=>⟨xG fw,(by induction fw<;>rfl),aE hL ts i.toInCall.keep (λa ha=>ha.elim (λq=>q▸Fb _) λu=>by obtain⟨_,_,q⟩:=u;exact uk (vd q)) he p2⟩) λu u z=>z.elim
 ·refine codeAny_call_def AK.room x7 hd (r.noLimit B) (r.code x1) m (aR t) (λy hy=>x2 y.1 y.2 hy) (λy hy=>(C.ps _ (x9 y hy)).elim (λq=>q) λq=>zc rfl (x2 _ _ (mem_of_lookup q))) (λh0 q hk=>?_) C.co C.gen C.kind
  have E1:=rG (a:=f) C x2 y4 y5 x3 r x p q hk;exact Da ((jF (n:=2*d) x8 ZO (Eg.deeper (n:=2*d+1) (AK.less (by exact Gb _)) (ig W s.heap.objs.size f)) 60 IA).all (bh W) E b _ _ rfl x4 _ N F {s with heap:=h0,toks:=s.toks+((W.params.args.map λx=>x.arg).zip k).length} fl x5 x6 (r.wI hk) E1 R) (λfw s2 p2=>⟨xG fw,(by induction fw<;>rfl),aE (s1:={s with heap:=h0,toks:=s.toks+((W.params.args.map λx=>x.arg).zip k).length}) hL rfl hk (λa ha=>by subst ha;exact Fb _) he p2⟩) λu u z=>z.elim
theorem tS(B:Ek T K X)(c:Zp T K X)(i:Uy T K g)(j:∀a:Av,@Fj a w T)(k:∀a:Av,@HA a w T K g)(l:QK T g Q D)(m:GA T K X D):∀d(a:Av),@Ci a w T (ml X Q d) (2*d):=by
 intro d
 induction d with
 |zero=>
  rintro a;exactλA o f G b N F s v O L r p x e=>ja e
 |succ d b=>
  rintro a;exact fz B c i j k l m (b) a
end
noncomputable def a8:List (String×ua):=[("_wall",Jc 21),("least",Jc 28),("greatest",Jc 35),("size_domains",Jc 40),("next_from",Jc 47),("has_domains",Jc 54),("values",Jc 61),("up_to",Jc 66),("from_on",Jc 71),("without",Jc 78),("meet",Jc 85),("negation",Jc 92),("struck",Jc 99),("said_of",Jc 106),("Store",Jc 256),("Propagator",Jc 298),("standing",Jc 309),("Placing",Jc 357),("Cardinality",Jc 435),("_law_draw",Jc 444),("_law_domain",Jc 451),("_law_tuples",Jc 456),("_law_keeps",Jc 461),("_law_made",Jc 466),("_law_left",Jc 471),("_law_is_asked_right",Jc 476),
 ("len",Qi "len"),("range",Ce "range"),("max",Qi "max"),("min",Qi "min"),("sum",Qi "sum"),("tuple",Ce "tuple"),("list",Ce "list"),("set",Ce "set"),("sorted",Qi "sorted"),("zip",Ce "zip"),("super",Ce "super")]
def FG:List (Bb×ua):=a8.map λp=>(Hg p.1,p.2)
def gl:Gl:=⟨λx=>FG.lookup x,J 274⟩
section
variable {d:qbh} {v:ua} {a c:Nat} {V T:Type} {n:Bb} {b:Bool} {X:ue}
noncomputable def NG(as:List Ca)(h:qb):Ve:=as.filterMap λa=>(h.get? a).map λo=>(a,o)
theorem MN{h:qb}:{as:List Ca}->(NG as h).In h:=by
 intro as
 induction as with
 |nil=>
  rintro a o e;exact ja e
 |cons b as f=>
  rintro a o e;have f:=f a o;unfold NG at e f;rw[Cj]at e
  induction q:h.get? b with
  |none=>rw[q]at e;exact f e|some x=>
   rw[q]at e;replace e:HF a ((b,x)::as.filterMap λa=>(h.get? a).map λo=>(a,o))=J o:=e;rw[Mc]at e
   induction z:a==b with
   |true=>
    rw[z]at e;exact eq_of_beq z▸(ba e▸q)
   |false=>rw[z]at e;exact f e
noncomputable def qer(z:ua):Option Ca:=match z with|.ref a=>J a|_=>Y
noncomputable def qaR(z:ua):Option Bb:=match z with|.str s u=>J s|_=>Y
noncomputable def qdT(z:qbh):Option (Array Df):=match z with|.dict e u=>J e|_=>Y
noncomputable def qdV(z:qbh):Option ue:=match z with|.func X=>J X|_=>Y
noncomputable def qeA(z:qbh):Option (Array ua):=match z with|.fields e=>J e|_=>Y
noncomputable def qdE(z:qbh):Option (Option ua):=match z with|.cell v=>J v|_=>Y
noncomputable def qdF(z:qbh):Option ClassData:=match z with|.cls e=>J e|_=>Y
theorem vS{f:ClassData}(h:qdF d=J f):d=.cls f:=by induction d<;>first|exact ja h|exact Gc _ (ba h)
theorem yU{a:Ca}(h:qer v=J a):v=.ref a:=by induction v<;>first|exact ja h|exact Gc _ (ba h)
theorem bI{a:Bb}(h:qaR v=J a):∃t,v=.str a t:=by induction v<;>first|exact ja h|exact⟨_,Gc (λx=>qaC x _) (ba h)⟩
theorem aT{e:Array Df}(h:qdT d=J e):∃f,d=.dict e f:=by induction d<;>first|exact ja h|exact⟨_,Gc (λx=>qbh.dict x _) (ba h)⟩
theorem lT{f:ue}(h:qdV d=J f):d=.func f:=by induction d<;>first|exact ja h|exact Gc _ (ba h)
theorem KV{f:Array ua}(h:qeA d=J f):d=.fields f:=by induction d<;>first|exact ja h|exact Gc _ (ba h)
theorem uS{f:Option ua}(h:qdE d=J f):d=.cell f:=by induction d<;>first|exact ja h|exact Gc _ (ba h)
theorem Xi{o:Option V}{p:V->Bool}(h:o.any p=Z):∃a,o=J a/\p a=Z:=by
 induction o with
 |none=>exact zc h ia|some a=>exact⟨a,rfl,h⟩
theorem Lk{p:V->Bool}{l:List V}(h:l.all p=Z){a:V}(m:a∈l):p a=Z:=qd.mp h a m
noncomputable def oZ(o:Option (Option ua))(s:String):Bool:=decide (o=J (J (.builtin s)))
noncomputable def rZ(o:Option (Option ua))(a:Nat):Bool:=decide (o=J (J (.ref a)))
noncomputable def pZ(o:Option (Option ua)):Bool:=decide (o=J Y)
noncomputable def sZ(o:Option ua)(s:String):Bool:=decide (o=J (.type s))
def io(K:Ve)(c:Nat)(n:Bb):Bool:=
 (oZ (Pk K (.ref c) "__getattribute__") "object.__getattribute__"&&(hasDictIn K c&&(Pk K (.ref c) n).any (noGet K)))
 &&(oZ (Pk K (.ref c) "__setattr__") "object.__setattr__"&&(plainOver K c&&pZ (takerIn K c n)))
def tu(K:Ve)(c:Nat)(e:Bb)(f:Nat):Bool:=
 oZ (Pk K (.ref c) "__getattribute__") "object.__getattribute__"&&(pZ (Pk K (.ref c) "__getattr__")&&(rZ (Pk K (.ref c) e) f&&(sZ (FQ K (.ref f)) "function"&&keepIn K (.ref f))))
def ru(K:Ve)(c f:Nat):Bool:=makesIn K c&&(rZ (Pk K (.ref c) "__init__") f&&sZ (FQ K (.ref f)) "function")
noncomputable def Wx(K:Ve)(a:Nat):Option qbh:=(K.lookup a).map λx=>x.data
def oO(K:Ve)(a:Nat):Option (Array Df):=((Wx K a).bind qdT).bind λf=>if f.toList.all (λe=>(qaR e.key).isSome)=Z then J f else Y
variable {K:Ve} {W:qb} {scr:Nat->Option (List Int)}
theorem lz(x:K.In W)(e:Wx K a=J d):∃o,W.get? a=J o/\o.data=d:=(bf.mp e).imp λo h=>⟨x _ _ h.1,h.2⟩
theorem wu(x:K.In W){g:Array Df}(e:oO K a=J g):W.Ns a (pO g):=by
 refine Vg e λf i h=>(Vg i λd j l=>?_);obtain⟨o,m,p⟩:=lz x j;obtain⟨q,r⟩:=aT l;by_cases z:f.toList.all (λe=>(qaR e.key).isSome)=Z
 ·obtain rfl:=ba ((Fd z).symm.trans h)
  refine⟨o,f,q,m,p.trans r,λd s=>?_,λu=>rfl⟩;obtain⟨k,t⟩:=Oa.mp (Lk z (Array.mem_toList_iff.mpr s));exact⟨k,bI t⟩
 ·exact ja ((ge z).symm.trans h)
def vz(K:Ve)(x:Bb)(v:ua):Bool:=yB K v&&((oO K mainGlobals).any λe=>(oO K jp).any λf=>decide (pO e x=J v)||(decide (pO e x=Y)&&decide (pO f x=J v)))
def jT(K:Ve)(a:Nat):Option ue:=(Wx K a).bind qdV
def PD(K:Ve)(X:ue)(i:Nat)(p:Bb->Bool):Bool:=(qer X.code).any λc=>((Wx K c).bind qeA).any λe=>((e[i]?:Option ua).bind qaR).any p
def LD(K:Ve)(c:Nat)(p:Option ua->Bool):Bool:=((Wx K c).bind qdE).any p
def RM(K:Ve)(a:Nat):Bool:=(jT K a).any λX=>PD K X 1 (λx=>x==X.qualname)&&X.closure.all λp=>LD K p.2 λu=>Z
def nQ(K:Ve)(D:Nat)(c f:Nat):Bool:=decide (mroIn K c (.ref D)=J Z)&&(rZ (pE K c D "__init__") f&&(sZ (FQ K (.ref f)) "function"&&fnIn K f))
def Sn(K:Ve)(g:Gl)(D:Nat)(X:ue):Bool:=
 decide (g.glob "super"=J (.type "super"))&&(decide (X.scope.names.lookup ("super":Bb)=J .globalImplicit)&&(decide (X.scope.names.lookup ("__class__":Bb)=J .free)
 &&(((X.params.posonlyargs++X.params.args).head?.any λe=>decide (X.scope.names.lookup e.arg=J .local)&&decide (xc (bh X).sl e.arg=J 0))
 &&(PD K X 2 (λx=>pg.main.file==x)&&(!(pg.main.scope.names.lookup ("super":Bb)).isSome
 &&(X.closure.lookup ("__class__":Bb)).any λc=>LD K c λv=>decide (v=J (.ref D)))))))
def N2(K:Ve)(a:Nat):Option Fn:=(jT K a).bind λX=>kR (xQ gl X) (if Sn K gl 435 X=Z then My gl X else Y) J
def HN(K:Ve):Bool:=
 iq.all (λp=>p.2.all λn=>io K p.1 n)&&(Qv.all (λp=>p.2.all λq=>tu K p.1 q.1 q.2)&&(rB.all (λp=>ru K p.1 p.2)
 &&(FG.all (λp=>vz K p.1 p.2)&&(SM.all (λp=>RM K p.1)
 &&((K.lookup sysModules).isSome&&((oO K cStatics).any (λe=>decide (pO e "sys.recursionlimit"=Y))
 &&(A2.all (λp=>nQ K 435 p.1 p.2)&&(((Wx K 435).bind qdF).isSome&&(pZ (nsIn K cStatics "thirdparty.any")
 &&(oO K mainGlobals).any λe=>decide (pO e "law"=J (.ref 481)))))))))))
theorem Pg [BEq V] [LawfulBEq V]:∀{l:List (V×T)}{a:V}{b:T},l.lookup a=J b->(a,b)∈l:=by
 intro l
 induction l with
 |nil=>
  rintro a b h;exact ja h
 |cons e r f=>
  obtain⟨k,v⟩:=e;rintro a b h;rw[Mc]at h
  induction z:a==k with
  |true=>rw[z]at h;refine U (eq_of_beq z) (U (ba h) ?_);exact sa|false=>rw[z]at h;exact oa _ (f h)
structure am(K:Ve):Prop where
 chk:HN K=Z
 fns:(SM.map λp=>N2 K p.1)=SM.map λp=>J p.2
theorem lK(h:(rx scr).attr c n=Z):∃e,(c,e)∈iq/\n∈e:=by
 replace h:(match iq.lookup c with|some e=>e.contains n|none=>ta)=Z:=h
 induction q:iq.lookup c with
 |none=>rw[q]at h;exact zc h ia|some e=>rw[q]at h;exact⟨e,Pg q,bo.mp h⟩
theorem mK{f:Nat}(h:(rx scr).meth c n=J f):∃e,(c,e)∈Qv/\(n,f)∈e:=by
 replace h:(match Qv.lookup c with|some e=>e.lookup n|none=>Y)=J f:=h
 induction q:Qv.lookup c with
 |none=>rw[q]at h;exact ja h|some e=>rw[q]at h;exact⟨e,Pg q,Pg h⟩
section
variable (F:am K)
include F
theorem k0:iq.all (λp=>p.2.all λn=>io K p.1 n)=Z:=Ye F.chk
theorem k1(h:HN K=(iq.all (λp=>p.2.all λn=>io K p.1 n)&&b)):b=Z:=gd (h.symm.trans F.chk)
theorem k2(h:HN K=(iq.all (λp=>p.2.all λn=>io K p.1 n)&&(Qv.all (λp=>p.2.all λq=>tu K p.1 q.1 q.2)&&(rB.all (λp=>ru K p.1 p.2)&&b)))):b=Z:=gd (gd (k1 F h))
theorem k5(h:HN K=(iq.all (λp=>p.2.all λn=>io K p.1 n)&&(Qv.all (λp=>p.2.all λq=>tu K p.1 q.1 q.2)&&(rB.all (λp=>ru K p.1 p.2)&&(FG.all (λp=>vz K p.1 p.2)&&(SM.all (λp=>RM K p.1)&&b)))))):b=Z:=gd (gd (k2 F h))
end
theorem eS(x:K.In W)(F:am K)(i:∀a e,scr a=J e->e.length<=4096/\∃f,W.IsList a f.toArray/\Vj f e):Ek W K (rx scr):=
 have f:∀c n,(rx scr).attr c n=Z->io K c n=Z:=λc n h=>by
  obtain⟨g,m1,e⟩:=lK h;exact Lk (Lk (k0 F) m1) e
 have g:=k5 F rfl
 ⟨x,λc n h=>have q:=Ye (f c n h);⟨Ml (Ye q),Ye (gd q),Xi (gd (gd q))⟩,
  λc n h=>have q:=gd (f c n h);⟨Ml (Ye q),Ye (gd q),Ml (gd (gd q))⟩,
  λz=>by
   obtain⟨o,e⟩:=Oa.mp (Ye g);exact ja (z.symm.trans (x _ _ e)),
  by
   obtain⟨j,e,h⟩:=Xi (Ye (gd g));exact⟨_,wu x e,Ml h⟩,i⟩
theorem sY(F:am K):Zp W K (rx scr):=⟨λc e f h=>by
 obtain⟨i,m1,g⟩:=mK h;have q:tu K c e f=Z:=Lk (Lk (Ye (k1 F rfl)) m1) g;exact⟨Ml (Ye q),Ml (Ye (gd q)),Ml (Ye (gd (gd q))),Ml (Ye (gd (gd (gd q)))),gd (gd (gd (gd q)))⟩,λc f h=>by
 have q:ru K c f=Z:=Lk (Ye (gd (k1 F rfl))) (Pg (h:rB.lookup c=J f));exact⟨Ye q,Ml (Ye (gd q)),Ml (gd (gd q))⟩⟩
theorem Z7(x:K.In W)(F:am K):Uy W K gl:=⟨λn v h=>by
 have q:vz K n v=Z:=Lk (Ye (k2 F rfl)) (Pg (h:FG.lookup n=J v));refine⟨Ye q,?_⟩;obtain⟨g,e,q⟩:=Xi (gd q);obtain⟨i,f,q⟩:=Xi q;exact⟨_,wu x e,(tI.mp q).imp Ml λq=>⟨Ml (Ye q),_,wu x f,Ml (gd q)⟩⟩⟩
theorem C2(F:am K):GA W K (rx scr) 435:=by
 have c:=gd (gd (k5 F rfl));have i:∃o g,K.lookup 435=J o/\o.data=.cls g:=by
  obtain⟨g,e⟩:=Oa.mp (Ye (gd c));exact Vg e λd f h=>(Ds f λo j k=>(⟨o,g,j,k.trans (vS h)⟩))
 refine⟨i,Ml (Ye (gd (gd c))),λe f h=>?_⟩;have q:nQ K 435 e f=Z:=Lk (Ye c) (Pg (h:A2.lookup e=J f));exact⟨Ml (Ye q),Ml (Ye (gd q)),Ml (Ye (gd (gd q))),gd (gd (gd q))⟩
theorem LZ{f g:V->T}:{l:List V}->l.map f=l.map g->∀a∈l,f a=g a:=by
 intro l
 induction l with
 |nil=>
  rintro _ a e;exact(Jb e).elim
 |cons x l i=>
  rintro h a e;exact(ab.mp e).elim (λq=>q▸Yd h) (i (xd h) a)
theorem vG(x:K.In W)(e:jT K a=J X):∃o,W.get? a=J o/\o.data=.func X:=by
 exact Vg e λd f g=>((lz x f).imp λo h=>⟨h.1,h.2.trans (lT g)⟩)
theorem Ox(x:K.In W){i:Nat}{p:Bb->Bool}(h:PD K X i p=Z):∃c o e q t,X.code=.ref c/\W.get? c=J o/\o.data=.fields e/\e[i]?=J (.str q t)/\p q=Z:=by
 obtain⟨c,g,h⟩:=Xi h;obtain⟨e,j,h⟩:=Xi h;obtain⟨q,k,h⟩:=Xi h;refine Vg j λd l m=>(Vg k λv r s=>?_);obtain⟨o,u,w⟩:=lz x l;obtain⟨t,f⟩:=bI s;exact⟨c,o,e,q,t,yU g,u,w.trans (KV m),r.trans (Gc J f),h⟩
theorem Lx(x:K.In W){p:Option ua->Bool}(h:LD K c p=Z):∃v,W.IsCell c v/\p v=Z:=by
 obtain⟨v,e,h⟩:=Xi h;exact Vg e λd f g=>(⟨v,(lz x f).imp λo q=>⟨q.1,q.2.trans (uS g)⟩,h⟩)
theorem oQ(x:K.In W)(e:jT K a=J X)(h:Sn K gl 435 X=Z):TF W gl a X 435:=
 have f:=gd (gd (gd h));have g:=gd f;have i:=gd g
 ⟨Ml (Ye h),Ml (Ye (gd h)),Ml (Ye (gd (gd h))),
  (Xi (Ye f)).imp λj q=>⟨q.1,Ml (Ye q.2),Ml (gd q.2)⟩,vG x e,Ox x (Ye g),Te _▸Ye i,
  (Xi (gd i)).imp λc q=>⟨q.1,by
   obtain⟨v,z,q⟩:=Lx x q.2;exact Ml q▸z⟩⟩
theorem aZ(x:K.In W)(F:am K):QK W gl nT 435:=λa g h=>by
 have i:=Pg (h:SM.lookup a=J g);obtain⟨X,e,j⟩:=Xi (Lk (Ye (gd (k2 F rfl))) i:RM K a=Z);obtain⟨o,k,l⟩:=vG x e;have f:N2 K a=J g:=LZ F.fns _ i;replace f:kR (xQ gl X) (if Sn K gl 435 X=Z then My gl X else Y) J=J g:=(Gc (λo:Option ue=>o.bind _) e).symm.trans f;obtain⟨c,m,p,q,t,r,s,w,A,B⟩:=Ox x (Ye j);refine⟨o,X,k,l,⟨c,m,p,t,r,s,w,eq_of_beq B▸A⟩,?_,λn c y=>(Lx x (Lk (gd j) (Pg y))).imp λu q=>q.1⟩
 induction z:xQ gl X with
 |some u=>rw[z]at f;exact .inl f|none=>
  rw[z]at f;replace f:(if Sn K gl 435 X=Z then My gl X else Y)=J g:=f;by_cases y:Sn K gl 435 X=Z
  ·exact .inr ⟨(Fd y).symm.trans f,oQ x e y⟩
  ·exact ja ((ge y).symm.trans f)
theorem xZ(x:K.In W)(F:am K){f:Bb->Option ua}(g:W.Ns mainGlobals f):f "law"=J (.ref 481):=by
 obtain⟨s,e,h⟩:=Xi (gd (gd (gd (gd (gd (k5 F rfl))))));obtain⟨o,i,t,j,k,u,l⟩:=wu x e;obtain⟨p,w,y,m,q,z,r⟩:=g;cases ba (j.symm.trans m);cases k.symm.trans q;exact(r _).symm.trans ((l _).trans (Ml h))
end
set_option maxHeartbeats 0
theorem qE{p q:Wi}{c:List Bb}{v:Ea->Bool}{x:Type}{y:Ea->x}{z:zb->x}{N:Nat}{A:Bool}{a:Params->qb}{b:Array BR}{f:Drawn}{g j n:Nat}{m:Option ua}{T:Params->BT}{i:Life}
 (l:∀w:zb,(qdX Ht p w N).map (λs=>(s.heap,s.gens,s.drawn,s.toks))=J (a w.params,b,f,g))
 (hT:∀w:zb,absHeap (T w.params) n i=a w.params)
 (o:∀w:zb,((a w.params).isNs mainGlobals&&b.size==0,(a w.params).objs.size,(a w.params).nsMap mainGlobals "__annotations__")=(Z,j,m))
 (chk:∀w:zb,(λos=>(Co Ht p w j m N ⟨T w.params,n,i,b,f,g,os⟩ (topStub p)).map λs=>
  ((Q9 (Qk p.main.body) (a w.params) s.abs.heap&&XZ p s.abs.heap&&qcs s.abs&&qcC (a w.params) s.abs.heap),
   openSeen q c (Qk p.main.body) v A s.abs,y s.abs))=λu=>J (Z,openGood q c,z w)):
 LeftO p q c v y z N A:=λw=>by
 obtain⟨⟨h,u,d,k,os⟩,e,B⟩:=bf.mp (l w);obtain⟨rfl,rfl,rfl,rfl⟩:h=a w.params/\u=b/\d=f/\k=g:=by simpa using B
 obtain⟨z1,z2,C⟩:_/\_/\_:=by simpa only[mR]using o w
 obtain⟨s,D,E⟩:=bf.mp (congrFun (chk w) os);obtain⟨F,G,I⟩:_/\_/\_:=by simpa only[mR]using E
 have r:=oK D;have K:(pL.abs ⟨T w.params,n,i,u,d,k,os⟩)=⟨a w.params,u,d,k,os⟩:=by
  show Ea.mk _ _ _ _ _=_
  rw[hT w]
 rw[K]at r;have t:qfx Ht p w N ⟨a w.params,u,d,k,os⟩=J s.abs:=by
  unfold qfx
  dsimp only
  rw[z1,z2,C,r];show(match Q9 (Qk p.main.body) (a w.params) s.abs.heap&&XZ p s.abs.heap&&qcs s.abs&&qcC (a w.params) s.abs.heap with|true=>_|false=>_)=_
  rw[F]
 unfold openEnds;rw[e];show(qfx Ht p w N _).map _=_
 rw[t];exact Gc J (Prod.ext G I)
def qen:List Ca:=jp::cStatics::mainGlobals::sysModules::365::21::20::([256,298,357,435,255,297,356,434]++SM.flatMap λp=>[p.1,p.1 - 1])
def Kj:Hook where
 α:=Bool×List (Option Fn)
 obs:=λs=>(HN (NG qen s.heap),SM.map λp=>N2 (NG qen s.heap) p.1)
 val:=λu=>(Z,SM.map λp=>J p.2)
 says:=λu h=>∃K:Ve,K.In h/\am K
 of:=λu s e=>⟨_,MN,⟨Gc lj e,Gc QF e⟩⟩
 keeps:=λu u u ⟨K,x,f⟩ k=>⟨K,x.keeps k,f⟩
theorem qfj:∀w:zb,(qdX Ht P0 w 6000).map (λs=>(s.heap,s.gens,s.drawn,s.toks))=J (Zl w.params,xR [],boot_drawn,boot_toks):=
 boot_open (by rfl) (by rfl) λs=>by rfl
theorem LL(w:zb):absHeap (qW w.params) 11 {}=Zl w.params:=by kernel_rfl!
theorem RI(w:zb):((Zl w.params).isNs mainGlobals&&(xR ([]:List BR)).size==0,(Zl w.params).objs.size,(Zl w.params).nsMap mainGlobals "__annotations__")=(Z,11,J (.ref 6)):=by kernel_rfl!
theorem qbv(w:zb):(λos=>(Au Ht P0 w 11 (J (.ref 6)) 6000 ⟨qW w.params,11,{},xR [],boot_drawn,boot_toks,os⟩ (topStub P0)).map λs=>
 ((Q9 (Qk P0.main.body) (Zl w.params) s.abs.heap&&XZ P0 s.abs.heap&&qcs s.abs&&qcC (Zl w.params) s.abs.heap),
  qaB qv Zr (Qk P0.main.body) (λs=>xlAt qv [] s&&recOk (rD ox.toRowW) s) Z s.abs,(eW Kj) s.abs))=λu=>J (Z,openGood qv Zr,(fW Kj) w):=by kernel_rfl!
theorem p8:LeftO P0 qv Zr (λs=>xlAt qv [] s&&recOk (rD ox.toRowW) s) (eW Kj) (fW Kj) 6000:=by
 refine qE qfj LL RI λw=>?_;have:=qbv w;simp only[<-rF,<-qaz]at this;exact this
set_option maxHeartbeats 200000
section
variable {O t:Ca} {i b c n V S R:Nat} {x y zv:ua} {W Q P:Array ua}
variable {X:Wi} {w:zb} {A:Xb} {E:ua->Ea->Prop} {s:Ea}
theorem Qh{items}{a:ua->Ea->Prop}(d:s.heap.IsTupleIter O t i)
 (j:s.heap.IsTuple t items)(k:items[i]?=J x)
 (l:∀e,e.IsTupleIter O t (i+1)->gf O s.heap e->a x {s with heap:=e}):
 Qa (fb X w) A (td (.ref O)) a E s:=by
 obtain⟨o,f,m,e⟩:=id d;obtain⟨p,g,_,q,h⟩:=j;unfold td;refine ga (kf (name:=Hg "__next__") d.typeIs Ff
  (Mf Ff d.typeIs Qp ?_ (Zo _)))
 show Qa _ _ (qbK (.ref O) 0>>=_) _ _ s
 refine ga (Cf f e (x:=.ref t) rfl (U (ge (show¬((Jc t==Xm)=Z)from ia)) (ga (Cf f e (x:=.int i 0) rfl (ga (Jg g h ?_))))));simp only[dR,k];refine ga (Im f e (by simp) (Ba ⟨x,rfl,Ba (l _ ?_ (Ad ..))⟩));exact⟨_,Pc _ f (Pi (Ee e _)),(Mt ..).trans m,by
  refine U (Ee e _) ?_;simp[bg]⟩
theorem dI{g:Type}{d:g->Ea->Prop}(h:A.handled=Y)
 (hE:∀f e,(∀b o,s.heap.get? b=J o->f.get? b=J o)->(∃o,f.get? e=J o/\o.cls=.type "StopIteration")->E (.ref e) {s with heap:=f}):Qa (fb X w) A (newExc (.type "StopIteration") []>>=λe=>raiseNew e) d E s:=by
 refine ga ?_;simp only[newExc,qcK];refine ga (ij ?_ (by size_fits));refine ga (m:=qbL _ _) (QV (a:=Xm) (by first|rfl|(simp only[qbL];rfl)) ?_);refine ij ?_ (by size_fits);refine ga (wpAny_handled (U h (ga (Ba (wpAny_throw ?_)))));exact hE _ _ (λb o e=>ya _ (ya _ e)) ⟨_,La _ rfl,rfl⟩
theorem Bs{items}{a:ua->Ea->Prop}(m:A.handled=Y)
 (d:s.heap.IsTupleIter O t i)(p:s.heap.IsTuple t items)(r:items[i]?=Y)
 (hE:∀f e,E5 O s.heap f->(∃o,f.get? e=J o/\o.cls=.type "StopIteration")->E (.ref e) {s with heap:=f}):
 Qa (fb X w) A (td (.ref O)) a E s:=by
 obtain⟨o,g,v,h⟩:=id d;obtain⟨z,j,_,B,l⟩:=p;unfold td;refine ga (kf (name:=Hg "__next__") d.typeIs Ff
  (Mf Ff d.typeIs Qp ?_ (Zo _)))
 show Qa _ _ (qbK (.ref O) 0>>=_) _ _ s
 refine ga (Cf g h (x:=.ref t) rfl (U (ge (show¬((Jc t==Xm)=Z)from ia)) (ga (Cf g h (x:=.int i 0) rfl (ga (Jg j l ?_))))));simp only[dR,r];exact ga (Uj (ga (Im g h (by simp) (dI m λf e k u=>hE f e (λc o n q=>k c o ((Ad ..).extBut c o n q)) u))))
abbrev pR(h:qb)(T:Ca)(a b c:ua):Prop:=h.get? T=J {cls:=.type "tuple",data:=.seq #[a,b,c]}
theorem Uk{T:Ca}{a b c:ua}{k:Nat}{d:Unit->Ea->Prop}(hT:pR s.heap T a b c)
 (h:∀e,e.get? T=J {cls:=.type "tuple",data:=.seq ((#[a,b,c]:Array ua).setIfInBounds k x)}->gf T s.heap e->d () {s with heap:=e}):
 Qa (fb X w) A (updateSeq T λy=>y.setIfInBounds k x) d E s:=by
 refine Vp hT rfl (h _ ?_ (Ad ..));refine U (Pc _ hT rfl) ?_;simp[Vi]
structure yn(h:qb)(b V S R:Nat)(f0:ua)(W Q P:Array ua)(i1 i2 i3:Nat):Prop where
 z:yD h (b+5) (b+3) (b+4) f0
 ti:pR h (b+3) (.ref b) (.ref (b+1)) (.ref (b+2))
 to_:∃u v x,pR h (b+4) u v x
 a1:h.IsTupleIter b V i1
 a2:h.IsTupleIter (b+1) S i2
 a3:h.IsTupleIter (b+2) R i3
 l1:h.IsTuple V W
 l2:h.IsTuple S Q
 l3:h.IsTuple R P
 d1:V<b
 d2:S<b
 d3:R<b
theorem dj{a:Nat}(h:a≠b):(show Ca from a)≠(show Ca from b):=h
def Sm(b a:Nat):Prop:=a=b\/a=b+1\/a=b+2\/a=b+4\/a=b+5
theorem an{m:Nat}(h:Rb m n=ta):b+m≠b+n:=λe=>Gg h (Nat.add_left_cancel e)
theorem qfi:¬Sm b (b+3):=λh=>by unfold Sm at h;lia
theorem qcL{t:Nat}(d:t<b):¬Sm b t:=λh=>by unfold Sm at h;lia
theorem TW:b≠b+(n+1):=Wb (Zd (kh _))
theorem a5:b+(n+1)≠b:=gh (Zd (kh _))
theorem jO{t:Nat}(h:t<b):t≠b+n:=Wb (rb h (Nc _ _))
theorem z0(n:¬Sm b c):c≠b:=λh=>n (.inl h)
theorem z1(n:¬Sm b c):c≠b+1:=λh=>n (.inr (.inl h))
theorem z2(n:¬Sm b c):c≠b+2:=λh=>n (.inr (.inr (.inl h)))
theorem z4(n:¬Sm b c):c≠b+4:=λh=>n (.inr (.inr (.inr (.inl h))))
theorem z5(n:¬Sm b c):c≠b+5:=λh=>n (.inr (.inr (.inr (.inr h))))
theorem uK{f0:ua}{a:ua->Ea->Prop}(d:yn s.heap b V S R .none W Q P i i i)(hx:W[i]?=J x)(hy:Q[i]?=J y)(hz:P[i]?=J zv)
 (hQ:∀e,yn e b V S R (bg s.heap.objs.size) W Q P (i+1) (i+1) (i+1)->pR e s.heap.objs.size x y zv->(∀(c:Nat) o,¬Sm b c->s.heap.get? c=J o->e.get? c=J o)->a (.ref s.heap.objs.size) {s with heap:=e}):
 Qa (fb X w) A (Si.«zip.__next__» ⟨[.ref (b+5)],[]⟩) (λe f=>∃v,e=.done (.ret v)/\a v f) E s:=by
 obtain⟨u,v,t,x1⟩:=d.to_;show Qa _ _ (qbK (.ref (b+5)) 2>>=_) _ _ _
 refine ga (Cf d.z rfl (x:=.bool ta) rfl ?_);show Qa _ _ (qbK (.ref (b+5)) 3>>=_) _ _ _
 refine ga (Cf d.z rfl (x:=.ref (b+3)) rfl (ga (Jg d.ti rfl ?_)));show Qa _ _ (zg (.ref (b+5))>>=_) _ _ _
 refine ga ?_;unfold zg;refine ga (Cf d.z rfl (x:=.none) rfl (Ba (U (Fd rfl) (ga (Uj (ga (Cf d.z rfl (x:=.ref (b+4)) rfl ?_)))))));refine ga (Ai d.z (by simp) λg1 x2 f=>?_);show Qa _ _ _ _ _ {s with heap:=g1}
 refine ga ?_;simp only[List.zipIdx_cons,List.zipIdx_nil,un,xx];refine ga (ga (Xh ?_));show Qa _ _ (td (.ref b)>>=_) _ _ _
 refine ga (Qh (d.a1.extBut f.extBut (dj TW)) (d.l1.extBut f.extBut (dj (jO d.d1))) hx λg2 q2 g=>have F:pR g2 (b+4) u v t:=g.extBut _ _ (dj a5) (f.extBut _ _ (dj (an rfl)) x1);Ba ?_);show Qa _ _ _ _ _ {s with heap:=g2}
 refine ga (Jg F rfl (ga (Uk F λg3 x3 h=>?_)));show Qa _ _ _ _ _ {s with heap:=g3}
 refine ga (NV (Ba ?_));refine ga (ga (Xh ?_));show Qa _ _ (td (.ref (b+1))>>=_) _ _ _
 refine ga (Qh (((d.a2.extBut f.extBut (dj (an rfl))).extBut g.extBut (dj a5)).extBut h.extBut (dj (an rfl))) (((d.l2.extBut f.extBut (dj (jO d.d2))).extBut g.extBut (dj (Wb d.d2))).extBut h.extBut (dj (jO d.d2))) hy λg4 q4 j=>have G:pR g4 (b+4) x v t:=j.extBut _ _ (dj (an rfl)) x3;Ba ?_);show Qa _ _ _ _ _ {s with heap:=g4}
 refine ga (Jg G rfl (ga (Uk G λg5 x4 k=>?_)));show Qa _ _ _ _ _ {s with heap:=g5}
 refine ga (NV (Ba ?_));refine ga (ga (Xh ?_));show Qa _ _ (td (.ref (b+2))>>=_) _ _ _
 refine ga (Qh (((((d.a3.extBut f.extBut (dj (an rfl))).extBut g.extBut (dj a5)).extBut h.extBut (dj (an rfl))).extBut j.extBut (dj (an rfl))).extBut k.extBut (dj (an rfl))) (((((d.l3.extBut f.extBut (dj (jO d.d3))).extBut g.extBut (dj (Wb d.d3))).extBut h.extBut (dj (jO d.d3))).extBut j.extBut (dj (jO d.d3))).extBut k.extBut (dj (jO d.d3))) hz λg6 q6 m=>have I:pR g6 (b+4) x y t:=m.extBut _ _ (dj (an rfl)) x4;Ba ?_);show Qa _ _ _ _ _ {s with heap:=g6}
 refine ga (Jg I rfl (ga (Uk I λr K p=>?_)));have D:yD r (b+5) (b+3) (b+4) .ellipsis:=p.extBut _ _ (dj (an rfl)) (m.extBut _ _ (dj (an rfl)) (k.extBut _ _ (dj (an rfl)) (j.extBut _ _ (dj (an rfl)) (h.extBut _ _ (dj (an rfl)) (g.extBut _ _ (dj a5) x2)))));show Qa _ _ _ _ _ {s with heap:=r}
 refine ga (NV (Ba (Ba (ga (Jg (show pR r (b+4) x y zv from K) rfl (ga (qdp ?_)))))));show Qa _ _ (bk (.ref (b+5)) (.ref r.objs.size)>>=_) _ _ _
 refine ga ?_;unfold bk;refine ga (Ai (ya _ D:yD (r.push {cls:=.type "tuple",data:=.seq #[x,y,zv]}) (b+5) (b+3) (b+4) .ellipsis) (by simp) λg9 x5 L=>?_);show Qa _ _ _ _ _ {s with heap:=g9}
 refine Ai (x5:yD g9 (b+5) (b+3) (b+4) (bg r.objs.size)) (by simp) λz l C=>Ba ⟨_,rfl,?_⟩;have N:r.objs.size=s.heap.objs.size:=by exact U p.1 (U m.1 (U k.1 (U j.1 (U h.1 (U g.1 (U f.1 rfl))))))
 have B:∀(c:Nat) o,c≠b+5->r.get? c=J o->z.get? c=J o:=λc o c1 e=>C.extBut _ _ c1 (L.extBut _ _ c1 (ya _ e));have T:∀(c:Nat) o,¬Sm b c->s.heap.get? c=J o->r.get? c=J o:=λc o n e=>p.extBut _ _ (z4 n) (m.extBut _ _ (z2 n) (k.extBut _ _ (z4 n) (j.extBut _ _ (z1 n) (h.extBut _ _ (z4 n) (g.extBut _ _ (z0 n) (f.extBut _ _ (z5 n) e))))));have hT:pR z r.objs.size x y zv:=C.extBut _ _ (gh (gc D)) (L.extBut _ _ (gh (gc D)) (La _ rfl));show a (.ref r.objs.size) {s with heap:=z}
 replace l:yD z (b+5) (b+3) (b+4) (bg r.objs.size):=l;rw[N]at l hT;refine U N ?_;refine hQ z ⟨l,B _ _ (dj (an rfl)) (T _ _ qfi d.ti),⟨_,_,_,B _ _ (dj (an rfl)) K⟩,?_,?_,?_,?_,?_,?_,d.d1,d.d2,d.d3⟩ hT λc o n e=>B c o (z5 n) (T c o n e)
 ·exact(((((q2.extBut h.extBut (dj TW)).extBut j.extBut (dj TW)).extBut k.extBut (dj TW)).extBut m.extBut (dj TW)).extBut p.extBut (dj TW)).imp λo q=>⟨B _ _ (dj TW) q.1,q.2⟩
 ·exact(((q4.extBut k.extBut (dj (an rfl))).extBut m.extBut (dj (an rfl))).extBut p.extBut (dj (an rfl))).imp λo q=>⟨B _ _ (dj (an rfl)) q.1,q.2⟩
 ·exact(q6.extBut p.extBut (dj (an rfl))).imp λo q=>⟨B _ _ (dj (an rfl)) q.1,q.2⟩
 ·exact d.l1.imp λo q=>⟨B _ _ (dj (jO d.d1)) (T _ _ (qcL d.d1) q.1),q.2⟩
 ·exact d.l2.imp λo q=>⟨B _ _ (dj (jO d.d2)) (T _ _ (qcL d.d2) q.1),q.2⟩
 ·exact d.l3.imp λo q=>⟨B _ _ (dj (jO d.d3)) (T _ _ (qcL d.d3) q.1),q.2⟩
theorem XQ{a:Fin->Ea->Prop}(p:A.handled=Y)(d:yn s.heap b V S R .none W Q P i i i)(r:W[i]?=Y)
 (hE:∀f e,(∀(c:Nat) o,c≠b->c≠b+5->s.heap.get? c=J o->f.get? c=J o)->(∃o,f.get? e=J o/\o.cls=.type "StopIteration")->E (.ref e) {s with heap:=f}):
 Qa (fb X w) A (Si.«zip.__next__» ⟨[.ref (b+5)],[]⟩) a E s:=by
 show Qa _ _ (qbK (.ref (b+5)) 2>>=_) _ _ _
 refine ga (Cf d.z rfl (x:=.bool ta) rfl (ga (Cf d.z rfl (x:=.ref (b+3)) rfl (ga (Jg d.ti rfl (ga ?_))))));unfold zg;refine ga (Cf d.z rfl (x:=.none) rfl (Ba (U (Fd rfl) (ga (Uj (ga (Cf d.z rfl (x:=.ref (b+4)) rfl ?_)))))));refine ga (Ai d.z (by simp) λC h f=>(ga ?_));show Qa _ _ (_>>=_) _ _ _
 refine ga (ga (Xh (ga (Bs p (d.a1.extBut f.extBut (dj TW)) (d.l1.extBut f.extBut (dj (jO d.d1))) r λv e g z=>(Ai (g _ _ (dj a5) h:yD v (b+5) (b+3) (b+4) .ellipsis) (by simp) λB u j=>hE B e (λc o n m x=>j.extBut _ _ m (g _ _ n (f.extBut _ _ m x))) (z.imp λm q=>⟨j.extBut _ _ (λx=>?_) q.1,q.2⟩))))));have k:=q.1;rw[x,g _ _ (dj a5) h]at k;have l:=q.2;rw[<-ba k]at l;exact zc (qdz l) (by decide)
theorem nC{a:Option ua->Ea->Prop}(d:yn s.heap b V S R .none W Q P i i i)(f:W[i]?=J x)(g:Q[i]?=J y)(h:P[i]?=J zv)
 (j:∀e,yn e b V S R (bg s.heap.objs.size) W Q P (i+1) (i+1) (i+1)->pR e s.heap.objs.size x y zv->(∀(c:Nat) o,¬Sm b c->s.heap.get? c=J o->e.get? c=J o)->a (J (.ref s.heap.objs.size)) {s with heap:=e}):
 Qa (fb X w) A (Ep (.ref (b+5))) a E s:=by
 have hT:s.TypeIs (.ref (b+5)) "zip":=⟨_,d.z,rfl⟩;unfold Ep;exact ga (Cu (kf (name:=Hg "__next__") hT ai
  (Mf ai hT Xy
   (uK (f0:=.none) d f g h λe k l m=>Ba (j e k l m)) (zx _))))
theorem Yt{a:Option ua->Ea->Prop}(g:A.handled=Y)(d:yn s.heap b V S R .none W Q P i i i)(h:W[i]?=Y)
 (j:∀f,(∀(c:Nat) o,c≠b->c≠b+5->s.heap.get? c=J o->f.get? c=J o)->a Y {s with heap:=f}):Qa (fb X w) A (Ep (.ref (b+5))) a E s:=by
 have hT:s.TypeIs (.ref (b+5)) "zip":=⟨_,d.z,rfl⟩;unfold Ep;refine ga (Cu (kf (name:=Hg "__next__") hT ai
  (Mf ai hT Xy (XQ g d h λf e k l=>?_) (zx _))))
 obtain⟨o,m,p⟩:=l;exact ga (pA (T:="StopIteration") (b:=Z) ⟨o,m,p⟩ qcA (Ba (j _ k)))
end
theorem Mw(a b c:ua):checkTypeCall "zip" ⟨[a,b,c],[]⟩=pure ():=by kernel_rfl
theorem fx(a b c:ua):S6 "zip.__new__" ⟨[.type "zip",a,b,c],[]⟩=pure ():=by kernel_rfl
theorem dp(a b c d:ua):zL "object.__init__" ⟨[a,b,c,d],[]⟩:=by
 unfold zL;refine U (aK (id:="object.__init__") (n:=['_','_','t','i','n','i','_','_']) (o:=['t','c','e','j','b','o']) (by kernel_rfl) PySem.F.owner_object) ?_;kernel_rfl
noncomputable abbrev n5(l:Ca):pD:={cls:=.type "tuple_iterator",data:=.fields #[.ref l,.int 0 0]}
abbrev P3(h:qb)(a:Ca):qb:=h.push (n5 a)
abbrev Q3(h:qb)(a b:Ca):qb:=(P3 h a).push (n5 b)
abbrev R3(h:qb)(a b c:Ca):qb:=(Q3 h a b).push (n5 c)
abbrev T3(h:qb)(a b c:Ca):qb:=(R3 h a b c).push {cls:=.type "tuple",data:=.seq #[.ref h.objs.size,.ref (P3 h a).objs.size,.ref (Q3 h a b).objs.size]}
abbrev U3(h:qb)(a b c:Ca):qb:=(T3 h a b c).push {cls:=.type "tuple",data:=.seq #[.none,.none,.none]}
abbrev qbf(h:qb)(a b c:Ca):qb:=(U3 h a b c).push {cls:=.type "zip",data:=.fields #[.none,.bool ta,.bool ta,.ref (R3 h a b c).objs.size,.ref (T3 h a b c).objs.size]}
set_option maxHeartbeats 4000000 in
theorem zE(a b c:Ca)(o p q:Array ua):
 Meets (Si.«zip.__new__» ⟨[.type "zip",.ref a,.ref b,.ref c],[]⟩) (λu R s=>s.heap.IsTuple a o/\s.heap.IsTuple b p/\s.heap.IsTuple c q/\
  R (.ok (.ret (.ref (U3 s.heap a b c).objs.size))) {s with heap:=qbf s.heap a b c}):=
 .of_wp λX w A R s h=>by
  obtain⟨e,g,d,f,os⟩:=s;obtain⟨i,j,k,h⟩:=h;have r:=sub_zip;have l:kD (sD ⟨e,g,d,f,os⟩) a o:=i;have m:kD (sD ⟨e.push {cls:=.type "tuple_iterator",data:=.fields #[.ref a,.int 0 0]},g,d,f,os⟩) b p:=ao j _;have n:kD (sD ⟨(e.push {cls:=.type "tuple_iterator",data:=.fields #[.ref a,.int 0 0]}).push {cls:=.type "tuple_iterator",data:=.fields #[.ref b,.int 0 0]},g,d,f,os⟩) c q:=ao (ao k _) _
  wp_walk using zi l,zi m,zi n
  exact⟨_,rfl,h⟩
section
variable {X:Wi} {w:zb} {A:Xb} {E:ua->Ea->Prop} {s:Ea}
theorem XI{a b d:Ca}{m n p:Array ua}{Q:ua->Ea->Prop}(f:s.heap.IsTuple a m)(g:s.heap.IsTuple b n)(i:s.heap.IsTuple d p)
 (h:∀e,yn e s.heap.objs.size a b d .none m n p 0 0 0->(∀c o,s.heap.get? c=J o->e.get? c=J o)->Q (.ref (s.heap.objs.size+5)) {s with heap:=e}):
 Qa (fb X w) A (call (.type "zip") [.ref a,.ref b,.ref d]) Q E s:=by
 refine qeS PySem.F.called_zip (by decide) (Mw _ _ _) (fx _ _ _) (λe=>dp e _ _ _) PySem.F.entry_zip_new
  (zE a b d m n p) ⟨f,g,i,?_⟩
 have z1:(P3 s.heap a).objs.size=s.heap.objs.size+1:=pd ..;have z2:(Q3 s.heap a b).objs.size=s.heap.objs.size+2:=by exact U (pd _ _) (U z1 rfl)
 have q:(R3 s.heap a b d).objs.size=s.heap.objs.size+3:=by exact U (pd _ _) (U z2 rfl)
 have z4:(T3 s.heap a b d).objs.size=s.heap.objs.size+4:=by exact U (pd _ _) (U q rfl)
 have z5:(U3 s.heap a b d).objs.size=s.heap.objs.size+5:=by exact U (pd _ _) (U z4 rfl)
 have k1:∀c o,s.heap.get? c=J o->(P3 s.heap a).get? c=J o:=λc o e=>ya _ e;have k2:∀c o,(P3 s.heap a).get? c=J o->(Q3 s.heap a b).get? c=J o:=λc o e=>ya _ e;have u:∀c o,(Q3 s.heap a b).get? c=J o->(R3 s.heap a b d).get? c=J o:=λc o e=>ya _ e;have k:∀c o,(R3 s.heap a b d).get? c=J o->(T3 s.heap a b d).get? c=J o:=λc o e=>ya _ e;have k5:∀c o,(T3 s.heap a b d).get? c=J o->(U3 s.heap a b d).get? c=J o:=λc o e=>ya _ e;have j:∀c o,(U3 s.heap a b d).get? c=J o->(qbf s.heap a b d).get? c=J o:=λc o e=>ya _ e;have F:(P3 s.heap a).get? s.heap.objs.size=J (n5 a):=La _ rfl;have G:(Q3 s.heap a b).get? (P3 s.heap a).objs.size=J (n5 b):=La _ rfl;have I:(R3 s.heap a b d).get? (Q3 s.heap a b).objs.size=J (n5 d):=La _ rfl;have K:(T3 s.heap a b d).get? (R3 s.heap a b d).objs.size=J _:=La _ rfl;have L:(U3 s.heap a b d).get? (T3 s.heap a b d).objs.size=J _:=La _ rfl;have v:(qbf s.heap a b d).get? (U3 s.heap a b d).objs.size=J _:=La _ rfl;have N:=j _ _ (k5 _ _ (k _ _ (u _ _ (k2 _ _ F))));have z:=j _ _ (k5 _ _ (k _ _ (u _ _ G)));have B:=j _ _ (k5 _ _ (k _ _ I));have C:=j _ _ (k5 _ _ K);have D:=j _ _ L;rw[z1]at z;rw[z2]at B;rw[q,z1,z2]at C;rw[z4]at D;rw[z5,q,z4]at v;have l:∀c o,s.heap.get? c=J o->(qbf s.heap a b d).get? c=J o:=λc o e=>j _ _ (k5 _ _ (k _ _ (u _ _ (k2 _ _ (k1 _ _ e)))));refine U z5 ?_;have y:∀{t:Ca}{vs},s.heap.IsTuple t vs->t<s.heap.objs.size:=λx=>by obtain⟨o,e,_⟩:=x;exact gc e
 refine⟨⟨_,v,rfl⟩,h _ ⟨v,C,⟨_,_,_,D⟩,⟨_,N,rfl,rfl⟩,⟨_,z,rfl,rfl⟩,⟨_,B,rfl,rfl⟩,?_,?_,?_,y f,y g,y i⟩ l⟩
 ·obtain⟨o,e,r⟩:=f;exact⟨o,l _ _ e,r⟩
 ·obtain⟨o,e,r⟩:=g;exact⟨o,l _ _ e,r⟩
 ·obtain⟨o,e,r⟩:=i;exact⟨o,l _ _ e,r⟩
end
section
variable {w:zb} {N h W:qb} {X Q:List Ca} [I:Av] {P':Ca->Prop} {E:St}
abbrev Zy(P P':Ca->Prop)(h W:qb):Prop:=∀a o,h.get? a=J o->Ih o->(∀c n,o=cu c n->¬P a)->W.get? a=J o/\(∀c n,o=cu c n->¬P' a)
theorem VR.tr(y:X<+:Q)(o:Zy I.av P' h W){x:V}{v:ua}(q:VR w X h x v): @VR ⟨P'⟩ w Q W x v:=
 VR.rec (motive_1:=λx v c=> @VR ⟨P'⟩ w Q W x v) (motive_2:=λe a c=> @ve ⟨P'⟩ w Q W e a) (@VR.none ⟨P'⟩ _ _ _) (λb=> @VR.bool ⟨P'⟩ _ _ _ b) (λi t=> @VR.int ⟨P'⟩ _ _ _ i t) (λx t=> @VR.str ⟨P'⟩ _ _ _ x t) (λe=> @VR.ref ⟨P'⟩ _ _ _ _ _ (Cm y e)) (λv=> @VR.k ⟨P'⟩ _ _ _ v)
  (λe=> @VR.rng ⟨P'⟩ _ _ _ _ _ _ _ _ _ (o _ _ e rfl λa n q=>zc (Gc qfC q) (by simp)).1) (λf i k e=> @VR.iset ⟨P'⟩ _ _ _ _ _ _ _ _ f i k (jD e λt x=>⟨t,(o _ _ x trivial λa n q=>zc (Gc qfC q) (by simp)).1⟩))
  (λa e f c k=> @VR.t ⟨P'⟩ _ _ _ _ _ _ _ ((o _ _ e rfl λc c c=>a).2 _ _ rfl) (o _ _ e rfl λc c c=>a).1 f k) (@ve.nil ⟨P'⟩ _ _ _) (λc c a k=> @ve.cons ⟨P'⟩ _ _ _ _ _ _ _ a k) q
theorem ve.tr(i:X<+:Q)(k:Zy I.av P' h W){e:List V}{f:List ua}(q:ve w X h e f): @ve ⟨P'⟩ w Q W e f:=
 q.ind (P:=λe f=> @ve ⟨P'⟩ w Q W e f) (@ve.nil ⟨P'⟩ _ _ _) λc c c c a c o=> @ve.cons ⟨P'⟩ _ _ _ _ _ _ _ (VR.tr i k a) o
theorem SE.tr(k:X<+:Q)(o:Zy I.av P' h W){i:List (Bb×V)}{f:List Df}(c:SE w X h i f): @SE ⟨P'⟩ w Q W i f:=by
 induction c with
 |nil=>exact @SE.nil ⟨P'⟩ _ _ _|cons a e q=>exact @SE.cons ⟨P'⟩ _ _ _ _ _ _ _ _ _ (a.tr k o) q
theorem OR.tr(v:X<+:Q)(z:Zy I.av P' h W){o:O}{a:Ca}(y:∀x,h.get? a=J x->W.get? a=J x)(f:OR w X h o a): @OR ⟨P'⟩ w Q W o a:=by
 induction o with
 |list k=>obtain⟨c,n,e,i,q⟩:=f;exact⟨c,n,y _ e,i,q.tr v z⟩|idict x=>obtain⟨o,c,e,t,k,q,i⟩:=f;exact⟨o,c,y _ e,t,k,q.tr v z,i⟩|h x=>obtain⟨c,n,e,q,t,i⟩:=f;exact⟨c,n,y _ e,q.tr v z,t,i⟩|inst c t=>obtain⟨i,e,q⟩:=f;exact⟨i,Cm v e,y _ q⟩
theorem R.tr(c:R w N X E h)(q:Zy I.av P' h W)(t:∀a∈X,∀o,h.get? a=J o->W.get? a=J o)(f:∀a o,N.get? a=J o->W.get? a=J o)(v:∀a,P' a->∃o,W.get? a=J o/\Ih o): @R ⟨P'⟩ w N X E W:=
 @R.mk ⟨P'⟩ w N X E W c.len c.nodup c.fresh v f λi o a y k=>(c.obj i o a y k).tr (Ja _) q λx e=>t a (Na k) x e
theorem Lc.tr{S:wj}{eo:Ca->Prop}{sl:List Bb}{lo:Nat}{D:Me}(f:Lc w N S eo sl lo D X h)(K:Zy I.av P' h W)(O:∀o,h.get? S.locals=J o->W.get? S.locals=J o)(B:∀c v,h.IsCell c v->W.IsCell c v)(P:∀a,eo a->(W.get? a).isSome=Z): @Lc ⟨P'⟩ w N S eo sl lo D X W:=by
 refine aa λy=>?_;obtain⟨t,R,T⟩:=f.ns;refine y ?_;refine @Lc.mk ⟨P'⟩ w N S eo sl lo D X W f.kind f.globals f.builtins f.len ⟨t,?_,λx i v a b c=>?_⟩ (λx i v a b c=>?_) f.loc (λx k a b=>?_) f.apart (λx i a b=>?_) f.eoh P
 ·refine aa λy=>?_
  obtain⟨o,z,G,e,q⟩:=R;exact y (⟨o,z,G,O _ e,q⟩)
 ·refine aa λy=>?_
  obtain⟨e,o,z⟩:=T x i v a b c;exact y (⟨e,o,z.tr (Ja _) K⟩)
 ·refine aa λy=>?_
  obtain⟨c,e,o,z,G⟩:=f.cells x i v a b c;exact y (⟨c,e,o,B _ _ z,G.tr (Ja _) K⟩)
 ·obtain⟨c,v,o,z⟩:=f.has x k a b
  exact⟨c,v,o,B _ _ z⟩
 ·rcases f.own x i a b with q|⟨q,c,v,o,z,G⟩
  ·exact .inl q
  ·exact .inr ⟨q,c,v,o,B _ _ z,G⟩
end
section
variable {w:zb} {N:qb} {A:Xb} {S:wj} {eo:Ca->Prop} {sl:List Bb} {D L:Me} {n:Nat} {X ρ1:List Ca} {E F:St} {s:Ea} {u:Fl} {r:Sc} {b p m C:Nat} {l j g:Array ua} {d:ua} {i1 i2 i3:Nat} {h W:qb}
theorem Wr{h:qb}{a t:Ca}{i:Nat}(x:h.IsTupleIter a t i):∃o,h.get? a=J o/\¬Ih o/\(∀v,o.data≠ .cell v):=by
 refine aa λk=>?_;obtain⟨o,e,c,f⟩:=x;exact k (⟨o,e,by simp[Ih,f,c],λv z=>by rw[f]at z;cases z⟩)
theorem yn.data(f:yn h b p m C d l j g i1 i2 i3){a:Nat}(q:Sm b a):∃o,h.get? a=J o/\(a≠b+4->¬Ih o)/\(∀v,o.data≠ .cell v)/\(a=b+4->∃c k,o=cu c k):=by
 rcases q with rfl|rfl|rfl|rfl|rfl
 ·obtain⟨o,e,c,i⟩:=Wr f.a1;exact⟨o,e,λy=>c,i,λz=>zc z (by exact Wb (Zd (kh _)))⟩
 ·obtain⟨o,e,c,i⟩:=Wr f.a2;exact⟨o,e,λy=>c,i,λz=>zc z (by exact an rfl)⟩
 ·obtain⟨o,e,c,i⟩:=Wr f.a3;exact⟨o,e,λy=>c,i,λz=>zc z (by exact an rfl)⟩
 ·obtain⟨i,v,x,e⟩:=f.to_;exact⟨_,e,λz=>zc rfl z,(λv z=>nomatch z),λy=>⟨[i,v,x],0,rfl⟩⟩
 ·exact⟨_,f.z,λy=>by simp[Ih],(λv z=>nomatch z),λz=>zc z (by exact Hu _)⟩
structure Ku(I:Av)(N:qb)(eo:Ca->Prop)(X:List Ca)(b:Nat):Prop where
 wK:∀a,Sm b a->N.get? a=Y
 eo:∀a,Sm b a->¬eo a
 av:I.av (b+4)
 out:∀a,Sm b a->a∉X
variable [I:Av]
theorem ir(f:yn h b p m C d l j g i1 i2 i3)(i:I.av (b+4))(v:∀(c:Nat) o,¬Sm b c->h.get? c=J o->W.get? c=J o):Zy I.av I.av h W:=λa o e x c=>by
 have y:¬Sm b a:=λq=>by
  obtain⟨O,t,B,_,G⟩:=f.data q;rw[e]at t;obtain rfl:=ba t;by_cases z:a=b+4
  ·obtain⟨K,k,rfl⟩:=G z
   exact c K k rfl (z▸i)
  ·exact B z x
 exact⟨v a o y e,c⟩
theorem IX(f:R w N X E h)(i:Ku I N eo X b)(k:yn h b p m C d l j g i1 i2 i3)(t:∀(c:Nat) o,¬Sm b c->h.get? c=J o->W.get? c=J o)(hT:∃o,W.get? (b+4)=J o/\Ih o):R w N X E W:=by
 refine f.tr (P':=I.av) (ir k i.av t) (λa c o e=>t a o (λq=>i.out a q c) e) (λa o e=>t a o (λq=>by rw[i.wK a q]at e;exact ja e) (f.wK a o e)) λa c=>?_;obtain⟨o,e,v⟩:=f.avl a c;by_cases q:Sm b a
 ·refine aa λy=>?_
  obtain⟨G,x,B,_,K⟩:=k.data q;refine y ?_;rw[e]at x;obtain rfl:=ba x;by_cases z:a=b+4
  ·exact U z hT
  ·exact zc v (B z)
 ·exact⟨o,t a o q e,v⟩
theorem HX{sl:List Bb}{lo:Nat}(f:Lc w N S eo sl lo D X h)(i:Ku I N eo X b)(k:yn h b p m C d l j g i1 i2 i3)(y:∀(c:Nat) o,¬Sm b c->h.get? c=J o->W.get? c=J o):Lc w N S eo sl lo D X W:=by
 refine f.tr (P':=I.av) (ir k i.av y) (λo e=>y _ o (λq=>i.eo _ q f.loc.2.2) e) (λc v x=>?_) λa z=>?_
 ·obtain⟨o,e,t⟩:=x
  refine⟨o,y c o (λq=>?_) e,t⟩;obtain⟨G,B,_,n,_⟩:=k.data q;rw[e]at B;obtain rfl:=ba B;exact n v t
 ·obtain⟨o,e⟩:=Oa.mp (f.eol a z)
  refine U (y a o (λq=>i.eo a q z) e) ?_;rfl
theorem yn.tri(a:yn h b p m C d l j g i1 i2 i3):∃o,h.get? (b+4)=J o/\Ih o:=by
 refine aa λf=>?_;obtain⟨c,v,x,e⟩:=a.to_;exact f (⟨_,e,rfl⟩)
theorem yn.keep(f:yn h b p m C d l j g i1 i2 i3)(y:∀(c:Nat) o,Sm b c->h.get? c=J o->W.get? c=J o)(q:∀a o,h.get? a=J o->Ih o->W.get? a=J o):yn W b p m C d l j g i1 i2 i3:=by
 have a:∀{t:Ca}{vs},h.IsTuple t vs->W.IsTuple t vs:=λz=>by obtain⟨o,e,c,k,i⟩:=z;exact⟨o,q _ o e (by simp[Ih,c,i]),c,k,i⟩
 refine⟨y _ _ (by unfold Sm;lia) f.z,q _ _ f.ti rfl,?_,?_,?_,?_,a f.l1,a f.l2,a f.l3,f.d1,f.d2,f.d3⟩
 ·obtain⟨i,v,x,e⟩:=f.to_;exact⟨i,v,x,q _ _ e rfl⟩
 ·obtain⟨o,e,i⟩:=f.a1;exact⟨o,y _ _ (by unfold Sm;lia) e,i⟩
 ·obtain⟨o,e,i⟩:=f.a2;exact⟨o,y _ _ (by unfold Sm;lia) e,i⟩
 ·obtain⟨o,e,i⟩:=f.a3;exact⟨o,y _ _ (by unfold Sm;lia) e,i⟩
noncomputable def rA(c e f:List V):List V:=(c.zip (e.zip f)).map λa=>V.t [a.1,a.2.1,a.2.2]
inductive U5(xs ys zs:List V)(i:Nat)(v:V):Prop
 |mk (x y z:V):xs[i]?=J x->ys[i]?=J y->zs[i]?=J z->v=V.t [x,y,z]->U5 xs ys zs i v
theorem YQ{e f k:List V}{i:Nat}{v:V}(h:(rA e f k)[i]?=J v):U5 e f k i v:=by
 unfold rA at h;rw[Dc]at h;refine re h λc o q=>?_;have a:=Xk.mp o;have b:=Xk.mp a.2;exact⟨c.1,c.2.1,c.2.2,a.1,b.1,b.2,q.symm⟩
theorem xK{a c e:List V}(f:a.length=c.length)(k:c.length=e.length){i:Nat}(h:(rA a c e)[i]?=Y):a[i]?=Y:=by
 rw[dh]at h|-;simp only[rA,wa,List.length_zip]at h
 lia
theorem xJ{f:Expr}{T:Nat}{a:B4}{c:ua->Ea->Prop}{e:Unit->Ea->Prop}(i:qk f=Z)(k:yD s.heap (b+5) (b+3) (b+4) (bg T))(o:a=fb pg w)
 (q:∀W,yD W (b+5) (b+3) (b+4) .none->gf (b+5) s.heap W->e () {s with heap:=W}):Qa a A (Sp f (.ref (b+5)) (.ref T)) e c s:=by
 subst o;refine aa λt=>?_;obtain⟨_,_,_,rfl⟩:=Vr i;exact t (wpAny_letOwnedTupleGo_zip k q)
structure Kz(eo:Ca->Prop)(b:Nat)(X:List Ca)(h W:qb)(Q:List Ca):Prop where
 pre:X<+:Q
 fresh:∀a∈Q,a∈X\/h.get? a=Y
 keep:∀(a:Nat) o,h.get? a=J o->a∉X->¬eo a->¬Sm b a->W.get? a=J o
 imm:∀(a:Nat) o,h.get? a=J o->Ih o->¬Sm b a->W.get? a=J o
theorem Kz.trans{ρ2:List Ca}{h2:qb}(x:Kz eo b X h W ρ1)(live:∀a o,h.get? a=J o->(W.get? a).isSome=Z)(y:Kz eo b ρ1 W h2 ρ2):Kz eo b X h h2 ρ2 where
 pre:=x.pre.trans y.pre
 fresh a ha:=(y.fresh a ha).elim (x.fresh a) λq=>.inr (by
  induction e:h.get? a with
  |none=>rfl|some o=>have:=live a o e;rw[q]at this;exact zc this ia)
 keep a o e n1 n2 n3:=y.keep a o (x.keep a o e n1 n2 n3) (λq=>(x.fresh a q).elim n1 λq=>by rw[q]at e;exact ja e) n2 n3
 imm a o e i n:=y.imm a o (x.imm a o e i n) i n
inductive aL(w:zb)(N:qb)(S:wj)(eo:Ca->Prop)(r:Sc)(b:Nat) [av:Av](X:List Ca)(s:Ea)(u:Fl)(L:Me)(F:St)(q:Br)(s':Ea):Prop
 |mk (f:OK) (Q:List Ca):q=.ok f->Ah s s'->Kz eo b X s.heap s'.heap Q->R w N Q F s'.heap->Lc w N S eo r.sl 0 L Q s'.heap->u4 w Q s'.heap u f->aL w N S eo r b X s u L F q s'
theorem yn.off{T:Nat}(f:yn h b p m C (bg T) l j g i1 i2 i3)(z2:yD W (b+5) (b+3) (b+4) .none)(k2:gf (b+5) h W):yn W b p m C .none l j g i1 i2 i3:=by
 have i:∀(c:Nat) o,c≠b+5->h.get? c=J o->W.get? c=J o:=λc o n e=>k2.extBut _ _ n e;have k:=f.d1;have q:=f.d2;have t:=f.d3;refine⟨z2,i _ _ (by exact an rfl) f.ti,?_,?_,?_,?_,?_,?_,?_,k,q,t⟩
 ·obtain⟨a,v,x,e⟩:=f.to_;exact⟨a,v,x,i _ _ (by exact an rfl) e⟩
 ·obtain⟨o,e,a⟩:=f.a1;exact⟨o,i _ _ (by exact Wb (Zd (kh _))) e,a⟩
 ·obtain⟨o,e,a⟩:=f.a2;exact⟨o,i _ _ (by exact an rfl) e,a⟩
 ·obtain⟨o,e,a⟩:=f.a3;exact⟨o,i _ _ (by exact an rfl) e,a⟩
 ·obtain⟨o,e,a⟩:=f.l1;exact⟨o,i _ _ (by exact Wb (rb (by assumption) (Nc _ _))) e,a⟩
 ·obtain⟨o,e,a⟩:=f.l2;exact⟨o,i _ _ (by exact Wb (rb (by assumption) (Nc _ _))) e,a⟩
 ·obtain⟨o,e,a⟩:=f.l3;exact⟨o,i _ _ (by exact Wb (rb (by assumption) (Nc _ _))) e,a⟩
theorem l8{c:Nat}(n:¬Sm b c):c≠b+5:=λq=>n (by unfold Sm;lia)
theorem qcz{c:Nat}(n:¬Sm b c):c≠b:=λq=>n (.inl q)
theorem AF{y7:Expr}{bd:List Yy}{t:CT}{xs ys zs:List V}{k:Me->St->Option (Fl×Me×St)}(AK:Eg n A)(z6:qk y7=Z)(ht:Tk r y7=J t)(hf:Ef w N A S eo r.sl (qu bd S) k)(z7:xs.length=ys.length)(z8:ys.length=zs.length):
 ∀(x8 i:Nat)(D:Me)(X:List Ca)(E:St)(s:Ea)(u:Fl)(L:Me)(F:St)(y2 y3 y4:List ua),R w N X E s.heap->Lc w N S eo r.sl 0 D X s.heap->yn s.heap b p m C .none (nD y2) (nD y3) (nD y4) i i i->Ku I N eo X b->ve w X s.heap xs y2->ve w X s.heap ys y3->ve w X s.heap zs y4->
  Fq x8 (.st (rA xs ys zs)) i (λv D E=>(jl t v D).bind λx9=>k x9 E) D E=J (u,L,F)->
  ch (fb pg w) A (.forLoop y7 (.ref (b+5)) bd [] S) (λq a=>aL w N S eo r b X s u L F q a) s:=by
 intro x8
 induction x8 with
 |zero=>intro i D X E s u L F y2 y3 y4 B G K O x1 x2 x3 e;exact ja e|succ x8 ih=>
  intro i D X E s u L F y2 y3 y4 B G K O x1 x2 x3 e;replace e:rX (λv D E=>(jl t v D).bind λx9=>k x9 E) (λi D E=>Fq x8 (.st (rA xs ys zs)) i (λv D E=>(jl t v D).bind λx9=>k x9 E) D E) i D E (rA xs ys zs)[i]?=J (u,L,F):=e;refine dg ?_;show Qa _ A ((P4 y7 (.ref (b+5)) bd [] S).onRaise λx=>do Lz x S;Up x) _ _ s
  refine AA (Al λP E0 hQ=>?_);simp only[P4]
  induction hi:(rA xs ys zs)[i]? with
  |none=>
   rw[hi]at e;obtain⟨rfl,zz⟩:=Ta (ba e);obtain⟨rfl,rfl⟩:=Ta zz;refine ga (mc (ga (Xh (Yt AK.hh K (by refine U lc ?_;exact x1.none_of (xK z7 z8 hi)) λh1 k0=>?_))));have hT:∃o,h1.get? (b+4)=J o/\Ih o:=by
    refine aa λnq=>?_;obtain⟨o,e,im⟩:=K.tri;refine nq ?_;clear nq;exact⟨o,k0 _ o (dj (by exact gh (Zd (kh _)))) (dj (by exact an rfl)) e,im⟩
   have k1:∀(f:Nat) o,¬Sm b f->s.heap.get? f=J o->h1.get? f=J o:=λf o n e=>k0 f o (qcz n) (l8 n) e;refine Ba (hQ _ _ ⟨rfl,qdP ?_⟩);exact U (lu _) (Ba ⟨.next,X,rfl,rfl,⟨Ja _,λz h=>.inl h,λz o e a a n=>k1 z o n e,λz o e a n=>k1 z o n e⟩,IX B O K k1 hT,HX G O K k1,.next⟩)
  |some v=>
   rw[hi]at e;refine bb e λc e1 e2=>bb e1 λx9 z9 hF=>(aa λnq=>?_);obtain⟨d,y9,z3⟩:=c;obtain⟨x,y,x5,q1,q2,q3,rfl⟩:=YQ hi;obtain⟨l,p1,u1⟩:=x1.get q1;obtain⟨j,p2,u2⟩:=x2.get q2;obtain⟨g,p3,u3⟩:=x3.get q3;refine nq ?_;clear nq;refine ga (mc (ga (Xh (nC (x:=l) (y:=j) (zv:=g) K (by refine U lc ?_;exact p1) (by refine U lc ?_;exact p2) (by refine U lc ?_;exact p3) λh1 Z1 T1 k1=>ga (xJ z6 Z1.z rfl λh2 z2 k2=>?_)))));have Z2:=Z1.off z2 k2;have y1:∀(f:Nat) o,¬Sm b f->s.heap.get? f=J o->h2.get? f=J o:=λf o n e=>k2.extBut _ _ (l8 n) (k1 f o n e);have tr:∀{x:V}{v:ua},VR w X s.heap x v->VR w X h2 x v:=λq=>q.tr (P':=I.av) (Ja _) (ir K O.av y1);have y8:∀{x:List V}{v:List ua},ve w X s.heap x v->ve w X h2 x v:=λq=>q.tr (P':=I.av) (Ja _) (ir K O.av y1);refine ga (Da (lM (s:={s with heap:=h2}) AK ht (Vx t) (IX B O K y1 Z2.tri) (HX G O K y1) (.t (B.notAv (Fb _)) (k2.extBut _ _ (gh (gc K.z)) T1:h2.get? s.heap.objs.size=J (cu [l,j,g] 0)) (gb rfl) (.cons (tr u1) (.cons (tr u2) (.one (tr u3)))):VR w X h2 (.t [x,y,x5]) (.ref s.heap.objs.size)) z9) (λa s3 p2=>?_) λa a x5=>x5.elim);refine aa λnq=>?_;obtain⟨C,k3,r3,E3⟩:=p2;refine nq ?_;clear nq;refine ga (Da (hf x9 X E s3 d y9 z3 r3 E3 hF) (λx6 s4 p3=>?_) λa a x5=>x5.elim);refine aa λnq=>?_;obtain⟨y5,t4,k4,r4,E4,q4⟩:=p3;refine nq ?_;clear nq;have x7:Kp eo X h2 s4.heap y5:=k3.trans k4;have y6:∀z o,s.heap.get? z=J o->(h2.get? z).isSome=Z:=λz o e=>by
    by_cases q:Sm b z
    ·obtain⟨o,e,_⟩:=Z2.data q;refine U e ?_;rfl
    ·refine U (y1 z o q e) ?_;rfl
   have T:=Ah.trans (C.past) t4;have KZ:Kz eo b X s.heap s4.heap y5:=⟨x7.pre,λz ha=>(x7.fresh z ha).imp_right λq=>(by
    induction x5:s.heap.get? z with
    |none=>rfl|some o=>have:=y6 z o x5;rw[q]at this;exact zc this ia),λz o e n1 n2 n3=>x7.keep z o (y1 z o n3 e) n1 n2,λz o e im n=>x7.imm z o (y1 z o n e) im⟩
   induction d with
   |next=>
    rw[q4.wF];have Z4:=Z2.keep (λf o q e=>x7.keep f o e (O.out f q) (O.eo f q)) x7.imm;have D4:Ku I N eo y5 b:=⟨O.wK,O.eo,O.av,λz ha q=>(x7.fresh z q).elim (O.out z ha) λq=>by
     obtain⟨o,e,_⟩:=Z2.data ha;rw[q]at e;exact ja e⟩
    refine Ba (hQ _ _ ⟨rfl,Fc (ih (i+1) y9 y5 z3 s4 u L F y2 y3 y4 r4 E4 Z4 D4 (x7.vrs (y8 x1)) (x7.vrs (y8 x2)) (x7.vrs (y8 x3)) e2) λq s5 p5=>?_⟩);obtain⟨x6,k6,hq,t5,g1,g5,g6,g7⟩:=p5;exact⟨x6,k6,hq,T.trans t5,KZ.trans (λz o e=>x7.live z (y6 z o e)) g1,g5,g6,g7⟩
   |ret v=>
    refine aa λnq=>?_;obtain⟨k7,rfl,x4⟩:=q4.wF;obtain⟨rfl,zz⟩:=Ta (ba e2);obtain⟨rfl,rfl⟩:=Ta zz;refine nq ?_;clear nq;exact Ba (hQ _ _ ⟨_,y5,rfl,T,KZ,r4,E4,q4⟩)
inductive rL(w:zb)(X:List Ca)(h:qb) [av:Av](x:V)(xs:List V)(v:ua):Prop
 |mk (t:Ca) (vs:List ua) (k:Nat):v=.ref t->h.get? t=J (cu vs k)->ve w X h xs vs->rL w X h x xs v
theorem Iw{x:V}{v:ua}{k:List V}(e:ux x=J k)(q:VR w X h x v):rL w X h x k v:=by
 refine aa λo=>?_;obtain⟨a,t,c,rfl,_,e,f,i⟩:=(Vl e▸q:VR w X h (.t k) v).wF;exact o (⟨a,t,c,rfl,e,i⟩)
inductive cL(w:zb)(X:List Ca)(h:qb) [av:Av](vals:List ua)(xs ys zs:List V):Prop
 |mk (a b c:ua) (x y z:V):vals=[a,b,c]->rL w X h x xs a->rL w X h y ys b->rL w X h z zs c->cL w X h vals xs ys zs
theorem Qs{c:List V}{f:List V}{a:List (List V)}{P:Prop}(h:Vn c=J (f::a))(k:∀v e,c=v::e->ux v=J f->Vn e=J a->P):P:=by
 induction c using ma with
 |nil=>exact nomatch h|cons v c=>
  refine bb h λe i o=>re o λx q t=>?_;cases t;exact k v c rfl i q
theorem CQ{a:List V}(h:Vn a=J []):a=[]:=by
 induction a using ma with
 |nil=>rfl|cons v a=>exact bb h λc i e=>re e λk o f=>zc f (Ac _ _)
theorem qaa{i:List V}{f:List ua}{k o t:List V}(e:Vn i=J [k,o,t])(q:ve w X h i f):cL w X h f k o t:=
 Qs e λx v1 v B G=>Qs G λy v2 K O P=>Qs P λz v3 R T e3=>by
 rw[v,K,R,CQ e3]at q;refine aa λnq=>?_;obtain⟨a,r1,g1,b1,q⟩:=q.wF;obtain⟨b,r2,g2,b2,q⟩:=q.wF;obtain⟨c,r3,g3,b3,q⟩:=q.wF;exact nq (⟨a,b,c,x,y,z,by rw[g1,g2,g3,(q.wF:r3=[])],Iw B b1,Iw O b2,Iw T b3⟩)
inductive V5(vs items:List V):Prop
 |mk (xs ys zs:List V):Vn vs=J [xs,ys,zs]->xs.length=ys.length->ys.length=zs.length->rA xs ys zs=items->V5 vs items
theorem XV{o f:List V}(e:((Vn o).bind VV)=J f):V5 o f:=bb e λk t i=>by
 induction k using ma with
 |nil=>exact ja i|cons v a=>
  induction a using ma with
  |nil=>exact ja i|cons x a=>
   induction a using ma with
   |nil=>exact ja i|cons y a=>
    induction a using ma with
    |nil=>exact re i λc q z=>⟨v,x,y,t,(d5 q).1,(d5 q).2,z⟩|cons=>exact ja i
theorem W3{K:Ve}{x9:Bh}{i:Gl}(B:Ek N K x9)(GO:Uy N K i):HA w N K i:=by
 intro n A S eo r z zp cp z9 y3 z7 bd t G k AK hk hz y4 y5 y6 ht hn hG hF D X E s u L F O P e;refine bb e λT e1 e2=>bb e2 λy7 e3 e4=>wpAny_For (Call_Name rfl (Da (qs (w:=w) GO hz y4 (Ao y5).1 X E s O P (.k (.type "zip")) E rfl) (λfv s1 p1=>?_) λV V x=>x.elim)) λx=>Jz (λV V V q=>Expr.noConfusion q) S x;obtain⟨ρ1,u1,k1,r1,x1⟩:=p1;rw[(x1.wF:fv=_)];have E1:=P.kx O k1;refine jq (GO.glob z _ hz).1 hn (Da (hG D _ ρ1 E s1 r1 E1 _ _ e1) (λz8 s2 p2=>?_) λV V x=>x.elim);obtain⟨x8,u2,k2,r2,x2⟩:=p2;have E2:=E1.kx r1 k2;refine⟨r2.kin B,?_⟩;refine aa λnq=>?_;obtain⟨xs,ys,zs,y8,y9,z3,rfl⟩:=XV e3;refine nq ?_;clear nq;obtain⟨q1,q2,q3,_,_,_,rfl,a1,a2,a3⟩:=qaa y8 x2;obtain⟨p,v1,n1,rfl,o1,b1⟩:=a1;obtain⟨m,v2,n2,rfl,o2,b2⟩:=a2;obtain⟨C,v3,n3,rfl,o3,b3⟩:=a3;have x3:∀c,s2.heap.objs.size<=c->s2.heap.get? c=Y:=λc h=>uk h;refine XI (s:=s2) (nf o1) (nf o2) (nf o3) λh3 Z3 k3=>wpAny_pyIter_zip Z3.z ?_;have x6:∀c,Sm s2.heap.objs.size c->s2.heap.get? c=Y:=λc q=>x3 c (by unfold Sm at q;lia)
 let P':Ca->Prop:=λc=>I.av c\/c=s2.heap.objs.size+4
 have hi:Zy I.av P' s2.heap h3:=λc o e im ht=>⟨k3 c o e,λy n q z=>z.elim (ht y n q) λz=>by
  rw[z,x3 _ (Nc _ _)]at e;exact ja e⟩
 have rJ: @R ⟨P'⟩ w N x8 T.2 h3:=r2.tr hi (λc V o e=>k3 c o e) (λc o e=>k3 c o (r2.wK c o e)) (λc z=>z.elim (λz=>by
  obtain⟨o,ho,a⟩:=r2.avl c z;exact⟨o,k3 c o ho,a⟩) λz=>z▸Z3.tri)
 have EJ: @Lc ⟨P'⟩ w N S eo r.sl 0 D x8 h3:=E2.tr hi (λo e=>k3 _ o e) (λf v z6=>by obtain⟨o,e,a⟩:=z6;exact⟨o,k3 _ o e,a⟩) λc ha=>by
  obtain⟨o,ho⟩:=Oa.mp (E2.eol c ha);refine U (k3 c o ho) ?_;rfl
 have a:Ku ⟨P'⟩ N eo x8 s2.heap.objs.size:=⟨λc q=>Sd r2 (x6 c q),λc q z=>(by
  have:=E2.eol c z;rw[x6 c q]at this;exact zc this ia),.inr rfl,λc q=>Jf r2 (x6 c q)⟩
 refine Fc (@AF w N A S eo n r s2.heap.objs.size p m C ⟨P'⟩ y3 bd t xs ys zs k AK y6 ht (hF ⟨P'⟩) y9 z3 5000 0 D x8 T.2 {s2 with heap:=h3} u L F v1 v2 v3 rJ EJ Z3 a (b1.tr (Ja _) hi) (b2.tr (Ja _) hi) (b3.tr (Ja _) hi) e4) λq s4 p4=>?_;obtain⟨f,x4,rfl,t5,kz,g5,g6,g7⟩:=p4;have x5:∀c o,s2.heap.get? c=J o->¬Sm s2.heap.objs.size c:=λc o e q=>by rw[x6 c q]at e;exact ja e
 have hd:Zy P' I.av s4.heap s4.heap:=λc o e im ht=>⟨e,λy n q z=>ht y n q (.inl z)⟩;have rI:R w N x4 F s4.heap:= @R.tr w N s4.heap s4.heap x4 ⟨P'⟩ I.av F g5 hd (λV V V e=>e) (λc o e=>(@R.wK ⟨P'⟩ _ _ _ _ _ g5) c o e) λc z=>(@R.avl ⟨P'⟩ _ _ _ _ _ g5) c (.inl z);have EI:Lc w N S eo r.sl 0 L x4 s4.heap:= @Lc.tr w N s4.heap s4.heap x4 ⟨P'⟩ I.av S eo r.sl 0 L g6 hd (λV e=>e) (λV V x=>x) λc z=>(@Lc.eol ⟨P'⟩ _ _ _ _ _ _ _ _ _ g6) c z;have kp:Kp eo x8 s2.heap s4.heap x4:=⟨kz.pre,λc ha=>(kz.fresh c ha).imp_right λy=>(by
  induction z:s2.heap.get? c with
  |none=>rfl|some o=>exact nomatch (k3 c o z).symm.trans y),λc o e n1 n2=>kz.keep c o (k3 c o e) n1 n2 (x5 c o e),λc o e im=>kz.imm c o (k3 c o e) im (x5 c o e),λc z=>by
  obtain⟨o,ho⟩:=Oa.mp z;by_cases V:c∈x8
  ·obtain⟨x,hx,_⟩:=rI.live (Kh kz.pre V)
   refine U hx ?_;rfl
  ·by_cases x:eo c
   ·exact EI.eol c x
   ·refine U (kz.keep c o (k3 c o ho) V x (x5 c o ho)) ?_;rfl⟩
 refine⟨x4,(u1.trans u2).trans t5.past,((k1.kp P).trans (k2.kp E1)).trans kp,rI,EI,?_⟩;have x:= @u4.wF _ _ ⟨P'⟩ _ _ _ g7
 induction u with
 |next=>rw[(x:f=_)];exact .next|ret v=>
  obtain⟨V,rfl,x7⟩:=x;exact .ret (@VR.tr w s4.heap s4.heap x4 x4 ⟨P'⟩ I.av (Ja _) hd _ _ x7)
end
section
variable {P:Type} {n R:Nat}
namespace SF
theorem entry_set_iter:qbF table "set.__iter__"=J Si.«frozenset.__iter__» :=
 qbG (id':="frozenset.__iter__") (by kernel_rfl) rfl (by decide+kernel) (by kernel_rfl)
theorem slot_set_iterator_next:Slot "set_iterator" "__next__" "set_iterator.__next__":=
 .of (owner:="set_iterator") (n:="__next__") (by refine U (qaV _ _) (U rR ?_);kernel_rfl) (by decide+kernel) (by decide+kernel) (by decide+kernel)
  (by first|exact .inl (by decide+kernel)|exact .inr (by decide+kernel)) (by refine U (oE _ _) ?_;kernel_rfl)
theorem entry_set_iterator_next:qbF table "set_iterator.__next__"=J Si.«set_iterator.__next__» :=entryFor_of_tree (by kernel_rfl)
theorem owner_set_iterator:qfz.lookup (String.ofList ['r','o','t','a','r','e','t','i','_','t','e','s'].reverse)=J qfA:=by kernel_rfl
theorem args_set_iterator_next_1(a:ua):zL "set_iterator.__next__" ⟨[a],[]⟩:=by
 unfold zL;refine U (aK (id:="set_iterator.__next__") (n:=['_','_','t','x','e','n','_','_']) (o:=['r','o','t','a','r','e','t','i','_','t','e','s']) (by kernel_rfl) owner_set_iterator) ?_;kernel_rfl
theorem slot_set_iterator_iter:Slot "set_iterator" "__iter__" "set_iterator.__iter__":=
 .of (owner:="set_iterator") (n:="__iter__") (by refine U (qaV _ _) (U rR ?_);kernel_rfl) (by decide+kernel) (by decide+kernel) (by decide+kernel)
  (by first|exact .inl (by decide+kernel)|exact .inr (by decide+kernel)) (by refine U (oE _ _) ?_;kernel_rfl)
theorem args_set_iterator_iter_1(a:ua):zL "set_iterator.__iter__" ⟨[a],[]⟩:=by
 unfold zL;refine U (aK (id:="set_iterator.__iter__") (n:=['_','_','r','e','t','i','_','_']) (o:=['r','o','t','a','r','e','t','i','_','t','e','s']) (by kernel_rfl) owner_set_iterator) ?_;kernel_rfl
theorem entry_set_iterator_iter:qbF table "set_iterator.__iter__"=J Si.«dict_keyiterator.__iter__» :=
 qbG (id':="dict_keyiterator.__iter__") (by kernel_rfl) rfl (by decide+kernel) (by kernel_rfl)
end SF
theorem ax(l:List P):∀(i:Nat)(h:i<l.length),(l[i]::l.eraseIdx i).Perm l:=by
 induction l with
 |nil=>exactλi h=>zc h (Xe _)|cons x l b=>
  intro i h
  induction i using Sa with
  |zero=>exact .refl _|succ i=>exact(qeK x _ _).trans (qeI x (b i (Fg h)))
theorem aC(next:Nat->Nat):∀(n k:Nat)(l:List P)(b:Array P),n=l.length->(s9.go next n k l b).toList.Perm (b.toList++l):=by
 intro n
 induction n with
 |zero=>
  rintro k l b e;have:l=[]:=lg.mp e.symm;subst this;show b.toList.Perm (b.toList++[])
  rw[Ub]
 |succ n d=>
  rintro k l b e;have c:next k%l.length<l.length:=Nat.mod_lt _ (by lia);show LX (match l[next k%l.length]? with|some x=>s9.go next n (k+1) (l.eraseIdx (next k%l.length)) (b.push x)|none=>b) |>.Perm _
  refine U (Wa c) ?_;show LX (s9.go next n (k+1) (l.eraseIdx (next k%l.length)) (b.push l[next k%l.length])) |>.Perm _
  refine(d (k+1) _ _ (by refine U List.length_eraseIdx ?_;simp[c];lia)).trans ?_;exact U Array.toList_push (U (Cc _ _ _) (qeH _ (ax l _ c)))
theorem LJ(next:Nat->Nat)(b:Array P):(s9 next b).toList.Perm b.toList:=by
 unfold s9
 simpa using aC next b.size 0 b.toList #[] (by rfl)
def rq(X W V:Option fk):List (Int×ua):=fB 0 X++(fB 1 W++fB 2 V)
def zH(X W V:Option fk):List Nat:=lX 0 X++(lX 1 W++lX 2 V)
theorem ZS(X W V:Option fk):(rq X W V).length=(zH X W V).length:=by induction X<;>induction W<;>induction V<;>rfl
theorem WD(X W V:Option fk):(rq X W V).length<=3:=by induction X<;>induction W<;>induction V<;>exact gb rfl
noncomputable def j5(a b c:Bool):List Nat:=(if a=Z then[0]else[])++((if b=Z then[1]else[])++(if c=Z then[2]else[]))
theorem dP(X W V:Option fk):zH X W V=j5 X.isSome W.isSome V.isSome:=by induction X<;>induction W<;>induction V<;>rfl
theorem qU:∀a b c:Bool,∀i∈[0,1,2],∀j∈[0,1,2],(j5 a b c)[i]?=J j->Vf (j5 a b c).toArray (j+1)=i+1:=by decide+kernel
theorem iP:∀a b c:Bool,Vf (j5 a b c).toArray 0=0:=by decide+kernel
theorem cP(X W V:Option fk):Vf (zH X W V).toArray 0=0:=dP X W V▸iP _ _ _
theorem pU:∀a b c:Bool,(j5 a b c).length<=3/\∀j∈j5 a b c,j∈[0,1,2]:=by decide+kernel
theorem qff{i:Nat}(h:i<3):i∈[0,1,2]:=(ac.mpr h:i∈Ka 3)
theorem bP(X W V:Option fk)(i j:Nat)(e:(zH X W V)[i]?=J j):Vf (zH X W V).toArray (j+1)=i+1:=by
 rw[dP]at e|-;have m:=pU X.isSome W.isSome V.isSome;exact qU _ _ _ i (qff (rb (ub.mp e).1 m.1)) j (m.2 j (Na e)) e
theorem ug(X W V:Option fk)(b:Bool):(⟨7,(zH X W V).toArray,#[],0,b,0,Z⟩:qbo).fits (rq X W V).toArray.size=Z:=by induction X<;>induction W<;>induction V<;>rfl
def Dk(w:zb)(a:Ca)(S:Nat)(X W V:Option fk):List (Int×ua):=
 if w.params.followText "set-order"then(s9 (w.params.setOrder a S) (rq X W V).toArray).toList else rq X W V
theorem Np(w:zb)(a:Ca)(S:Nat)(X W V:Option fk):(Dk w a S X W V).Perm (rq X W V):=by
 unfold Dk;split
 ·exact LJ _ _
 ·exact .refl _
def S3(w:zb)(h:qb)(a:Ca)(S:Nat)(X W V:Option fk):Prop:=
 h.get? a=J {cls:=.type "set",dict:=Y,data:=.set (rq X W V).toArray S ⟨7,(zH X W V).toArray,#[],0,!w.params.followText "set-order",0,Z⟩,slots:= #[]}
def uI(w:zb)(h:qb)(Q a:Ca)(i n S:Nat)(X W V:Option fk):Prop:=
 ∃o R,h.get? Q=J o/\o.cls=.type "set_iterator"/\o.data=.fields #[.int (R:Nat) 0,.int (i:Nat) 0,.ref a,.int (n:Nat) 0,.int (S:Nat) 0]/\(w.params.followText "set-order"=ta->Vf (zH X W V).toArray R=i)
variable {w:zb} {A:Xb} {E:ua->Ea->Prop} {s:Ea} {a Q:Ca} {S i:Nat} {X W V:Option fk}
theorem S3.typeIs(h:S3 w s.heap a S X W V):s.TypeIs (.ref a) "set":=⟨_,h,rfl⟩
theorem uI.typeIs(h:uI w s.heap Q a i n S X W V):s.TypeIs (.ref Q) "set_iterator":=by obtain⟨o,d,b,c,_⟩:=h;exact⟨_,b,c⟩
theorem B9(b:Bool):(!(⟨7,(zH X W V).toArray,#[],0,b,0,Z⟩:qbo).plain&&(rq X W V).toArray.size>1)=ta:=rfl
theorem RJ{b:ua->Ea->Prop}(c:S3 w s.heap a S X W V)
 (d:b (.ref s.heap.objs.size) {s with heap:=s.heap.push {cls:=.type "set_iterator",data:=.fields #[.int 0 0,.int 0 0,.ref a,.int ((rq X W V).length:Nat) 0,.int (S:Nat) 0]}}):
 Qa (fb pg w) A (iw (.ref a)) b E s:=by
 refine w5 c.typeIs o4 (Mf o4 c.typeIs SF.entry_set_iter ?_ (F.args_set_iter_1 _));show Qa _ _ ((setEntries a>>=_)>>=_) _ _ _
 refine ga (ga (fu c rfl (ug _ _ _ _) (Ba ?_)));unfold setDrawn;refine ga (ga (jj c rfl (ug _ _ _ _) ?_))
 dsimp only
 unfold N1;refine ga (ga (Hh (Ba (Ba (U (ZV _) (U (ge ia) ?_))))));refine ga (Ba (ga (wpAny_setEpoch_of c rfl (ug _ _ _ _) ?_)));refine ga (ij (Ba ⟨_,rfl,"set_iterator",_,⟨_,La _ rfl,rfl⟩,SF.slot_set_iterator_next.lookup,?_⟩))
 simpa [bg]using d
theorem vw{b:Option (ua×Nat)->Ea->Prop}(o:S3 w s.heap a S X W V)(j:w.params.followText "set-order"=ta->Vf (zH X W V).toArray R=i)
 (f:∀r:Option (ua×Nat),r.map (λx=>x.1)=(Dk w a S X W V)[i]?.map (λx=>x.2)->(∀p,r=J p->w.params.followText "set-order"=ta->Vf (zH X W V).toArray p.2=i+1)->b r s):
 Qa (fb pg w) A (l5 a R i S) b E s:=by
 unfold l5;refine ga (jj o rfl (ug _ _ _ _) ?_)
 dsimp only
 unfold N1;refine ga (ga (Hh (Ba ?_)))
 dsimp only
 induction c:w.params.followText "set-order"with
 |true=>
  refine U (Fd (show(fb pg w).w.params.followText "set-order"=Z from c)) (U (ge (by simp)) ?_);unfold setWalk;refine ga (ga (jj o rfl (ug _ _ _ _) ?_))
  dsimp only
  unfold N1;refine ga (ga (Hh (Ba ?_)))
  dsimp only
  refine U (Fd (show(fb pg w).w.params.followText "set-order"=Z from c)) (ga (Hh (Ba ?_)));refine Ba (f _ ?_ ?_)
  ·unfold Dk;refine U (Fd c) (U ln (U (sf _ _ _) ?_));rfl
  ·intro p _ d;rw[c]at d;exact zc d.symm ia
 |false=>
  refine U (ge (show¬((fb pg w).w.params.followText "set-order"=Z)from by show¬(w.params.followText "set-order"=Z);rw[c];exact ia)) ?_;have q:Dk w a S X W V=rq X W V:=by unfold Dk;refine U c ?_;rfl
  rw[q]at f;have l:=j c;refine ii (λh=>zc (show ta=Z from h) ia) λu=>(ga (Ba (U l ?_)));have d:=ZS X W V;refine U lc (U lc ?_)
  induction h:(rq X W V)[i]? with
  |none=>
   refine Ba (f _ (by refine U h ?_;rfl) ?_);intro p g;exact ja g
  |some e=>
   have t:i<(zH X W V).length:=by refine Bd d ?_;exact(ub.mp h).1
   have g:=Wa t;refine U g ?_;obtain⟨k,x⟩:=e;refine Ba (f _ (by refine U h ?_;rfl) ?_);intro p m _;obtain rfl:=ba m;exact bP _ _ _ _ _ g
theorem JR{o:pD}{b:Nat}(f:s.heap.get? Q=J o)(g:o.cls=.type "set_iterator")(e:o.data=.fields #[.int (R:Nat) 0,.int (i:Nat) 0,.ref a,.int (n:Nat) 0,.int (S:Nat) 0])
 (d:w.params.followText "set-order"=ta->Vf (zH X W V).toArray b=i+1):
 uI w ((s.heap.update Q (bm λx=>x.setIfInBounds 0 (bg (b:Nat)))).update Q (bm λx=>x.setIfInBounds 1 (bg ((i:Int)+1)))) Q a (i+1) n S X W V:=by
 have h:=Pc (bm λx=>x.setIfInBounds 0 (bg (b:Nat))) f (Pi (Ee e _));have c:=Ee e λx=>x.setIfInBounds 0 (bg (b:Nat));have j:=Pc (bm λx=>x.setIfInBounds 1 (bg ((i:Int)+1))) h (Pi (Ee c _));refine⟨_,b,j,(Mt ..).trans ((Mt ..).trans g),?_,d⟩;refine U (Ee c _) ?_;simp[bg]
theorem jw{e:Int×ua}{b:Option ua->Ea->Prop}(c:uI w s.heap Q a i n S X W V)(m:n=(rq X W V).length)(l:S3 w s.heap a S X W V)(t:(Dk w a S X W V)[i]?=J e)
 (v:∀d,uI w d Q a (i+1) n S X W V->gf Q s.heap d->b (J e.2) {s with heap:=d}):
 Qa (fb pg w) A (Ep (.ref Q)) b E s:=by
 have hT:=c.typeIs;obtain⟨o,R,f,y,d,j⟩:=id c;unfold Ep;refine ga (Cu (kf (name:=Hg "__next__") hT SF.slot_set_iterator_next
  (Mf SF.slot_set_iterator_next hT SF.entry_set_iterator_next ?_ (SF.args_set_iterator_next_1 _))))
 show Qa _ _ (fieldsOf (.ref Q)>>=_) _ _ _
 refine ga (qdo f d (ga (fu l rfl (ug _ _ _ _) ?_)));refine ii (λh=>zc h (by refine U m ?_;simp)) λu=>?_;show Qa _ _ (l5 a R i S>>=_) _ _ _
 refine ga (vw l j λr g k=>?_);rw[t]at g
 induction r with
 |none=>exact ja g|some p=>
  obtain⟨x,z⟩:=p;simp only[Um,yj]at g
  dsimp only
  refine ga (Im f d (by simp) ?_);have B:=Pc (bm λx=>x.setIfInBounds 0 (bg (z:Nat))) f (Pi (Ee d _));refine ga (Im B (Ee d _) (by simp) ?_);subst g;exact Ba ⟨_,rfl,Ba (v _ (JR f y d λq=>k _ rfl q) ((Ad ..).trans (Ad ..)))⟩
theorem jx{d:Option ua->Ea->Prop}(x:A.handled=Y)(f:uI w s.heap Q a i n S X W V)(y:n=(rq X W V).length)(l:S3 w s.heap a S X W V)(z:(Dk w a S X W V)[i]?=Y)
 (B:∀g,E5 Q s.heap g->d Y {s with heap:=g}):Qa (fb pg w) A (Ep (.ref Q)) d E s:=by
 have hT:=f.typeIs;obtain⟨o,R,m,D,t,j⟩:=id f;unfold Ep;refine ga (Cu (kf (name:=Hg "__next__") hT SF.slot_set_iterator_next
  (Mf SF.slot_set_iterator_next hT SF.entry_set_iterator_next ?_ (SF.args_set_iterator_next_1 _))))
 show Qa _ _ (fieldsOf (.ref Q)>>=_) _ _ _
 refine ga (qdo m t (ga (fu l rfl (ug _ _ _ _) ?_)));refine ii (λh=>zc h (by refine U y ?_;simp)) λu=>?_;show Qa _ _ (l5 a R i S>>=_) _ _ _
 refine ga (vw l j λr v C=>?_);rw[z]at v
 induction r with
 |some p=>exact ja v.symm|none=>
  dsimp only
  exact ga (Im m t (by simp) (dI (show A.in1.handled=Y from x) λg e k p=>(ga (pA (T:="StopIteration") (b:=Z) p qcA (Ba (B _ λc o n q=>k c o ((Ad ..).extBut c o n q)))))))
theorem Walks.s3(q:A.handled=Y)(I a:Ca)(k:a≠I)(S:Nat)(X W V:Option fk):
 Walks pg w A I [I,a] [I] (rq X W V).length (λi v=>∃e,(Dk w a S X W V)[i]?=J e/\v=e.2) (λi h=>uI w h I a i (rq X W V).length S X W V/\S3 w h a S X W V)where
 sub:=λb d=>by simp at d;simp[d]
 frame:=λu u u st m=>⟨jD st.1 λo z=>z.elim λc z=>⟨o,c,m I (by exact sa) o z.1,z.2⟩,m a (by simp) _ st.2⟩
 item:=λi s c E r st f=>by
  have t:=(Np w a S X W V).length_eq;obtain⟨e,p⟩:∃e,(Dk w a S X W V)[i]?=J e:=⟨(Dk w a S X W V)[i],by simp[t,r]⟩;exact jw st.1 rfl st.2 p λl g j=>(f _ l s.toks ⟨e,p,rfl⟩ ⟨g,j.extBut a _ k st.2⟩ λb o d e=>j.extBut b o (λh=>d (by simp[h])) e)
 done:=λs c E st f=>jx q st.1 rfl st.2 (by refine U (propext dh) (U ((Np w a S X W V).length_eq) ?_);exact Gb _) λl g=>f l s.toks λb o d e=>g b o (λh=>d (by simp[h])) e
 self:=λi s c E st f=>by
  refine w5 st.1.typeIs SF.slot_set_iterator_iter (Mf SF.slot_set_iterator_iter st.1.typeIs SF.entry_set_iterator_iter ?_ (SF.args_set_iterator_iter_1 _));exact Ba ⟨_,rfl,"set_iterator",_,st.1.typeIs,SF.slot_set_iterator_next.lookup,f⟩
end
section
variable {k:Int} {t:fk}
section
variable {w:zb} {A:Xb} {E:ua->Ea->Prop} {s:Ea} {a:Ca} {Q:Nat} {X V T:Option fk}
theorem mv{o:Option fk}{e:Int×ua}(h:e∈fB k o):∃t,e=(k,.int k t):=by
 induction o with
 |none=>cases h|some t=>exact⟨t,Ra.mp h⟩
theorem mo(X V T:Option fk):ElemsOf (kg pg w) (rq X V T).toArray.toList:=λe b=>by
 rcases Vb.mp b with h|h
 ·obtain⟨t,rfl⟩:=mv h
  exact⟨⟨_,wm _ _ _ _,rfl⟩,rfl⟩
 ·rcases Vb.mp h with h|h
  ·obtain⟨t,rfl⟩:=mv h
   exact⟨⟨_,wm _ _ _ _,rfl⟩,rfl⟩
  ·obtain⟨t,rfl⟩:=mv h
   exact⟨⟨_,wm _ _ _ _,rfl⟩,rfl⟩
abbrev qaU(b:Bool)(X V T:Option fk):qbo:=⟨7,(zH X V T).toArray,#[],0,b,0,Z⟩
theorem pv(X V T:Option fk):(rq X V T).toArray.size<scanBound:=by
 have:=WD X V T;refine U Hb (U (show scanBound=4096 from rfl) ?_);lia
theorem Nj{j:Nat}{b:Bool->Ea->Prop}(c:S3 w s.heap a Q X V T)(d:(rq X V T).toArray.toList.findIdx? (λe=>(kg pg w).is k e.2)=J j)(e:b ta s):
 Qa (fb pg w) A (Fp a (.int k t) (R4 k)) b E s:=by
 unfold Fp qdf;refine dc (ga (jj c rfl (ug _ _ _ _) ?_))
 dsimp only
 refine U (byScan_of (knd:=kg pg w) rfl (pv _ _ _) (mo _ _ _)) ?_;simp only[↓reduceIte];unfold qfm;refine ga (ga (Uj (ga (qag (knd:=kg pg w) (wm _ _ _ _) c rfl (ug _ _ _ _) (mo _ _ _) (U d ?_)))));exact Ba (Ba e)
theorem TE{p0 p1 p2:Option fk}{c:Bool->Ea->Prop}(d:S3 w s.heap a Q X V T)(f:(rq X V T).toArray.toList.findIdx? (λe=>(kg pg w).is k e.2)=Y)
 (e:∀b,layNew (qaU b X V T) (rq X V T).toArray (R4 k) (.int k t)=((rq p0 p1 p2).toArray,qaU b p0 p1 p2,ta,ta))(g:∀b,(qaU b p0 p1 p2).tooFull=ta)
 (h:∀b,gf a s.heap b->S3 w b a (Q+1) p0 p1 p2->c Z {s with heap:=b}):
 Qa (fb pg w) A (Fp a (.int k t) (R4 k)) c E s:=by
 unfold Fp qdf;refine dc (ga (jj d rfl (ug _ _ _ _) ?_))
 dsimp only
 refine U (byScan_of (knd:=kg pg w) rfl (pv _ _ _) (mo _ _ _)) ?_;simp only[↓reduceIte];unfold qfm;refine ga (ga (Uj (ga (qag (knd:=kg pg w) (wm _ _ _ _) d rfl (ug _ _ _ _) (mo _ _ _) (U f ?_)))));refine U (e _) ?_
 dsimp only
 refine ga (Ba (U (Fd rfl) (U (hashByValue_scannable 8 (x:=.int k t) rfl) (ga (Ba ?_)))));refine U (Fd (show plainKind (.int k t)=Z from rfl)) (ga (wpAny_storeSet_of d rfl ?_ (fits_of_scanBound (pv _ _ _))));refine U (g _) (Ba (Ba (h _ (Ad _ _ _) ?_)));have:=Pc (pD.putSet (rq p0 p1 p2).toArray (qaU (!w.params.followText "set-order") p0 p1 p2)) d (by refine U (putSet_of _ _ rfl) ?_;rfl);rw[putSet_of _ _ rfl]at this;exact this
noncomputable def eC(k:Int)(t:fk)(j:Int)(o:Option fk):Option fk:=if k=j then J (o.getD t)else o
theorem D1{c:Bool->Ea->Prop}(i:k=0\/k=1\/k=2)(d:S3 w s.heap a Q X V T)
 (f:∀b g e,gf a s.heap e->S3 w e a g (eC k t 0 X) (eC k t 1 V) (eC k t 2 T)->c b {s with heap:=e}):
 Qa (fb pg w) A (Fp a (.int k t) (R4 k)) c E s:=by
 have same:=λb h=>f b Q s.heap (qai a s.heap) h;rcases i with rfl|rfl|rfl
 ·refine aa λg=>?_
  induction X with
  |some u=>refine g ?_;exact Nj (j:=0) d rfl (same ta d)|none=>
   refine g ?_
   induction V<;>induction T<;>exact TE (p0:=J t) d rfl (λb=>by kernel_rfl) (λb=>by kernel_rfl) λe x y=>f Z _ e x y
 ·induction V with
  |some u=>
   induction X
   ·exact Nj (j:=0) d rfl (same ta d)
   ·exact Nj (j:=1) d rfl (same ta d)
  |none=>
   induction X<;>induction T<;>exact TE (p1:=J t) d rfl (λb=>by kernel_rfl) (λb=>by kernel_rfl) λe x y=>f Z _ e x y
 ·induction T with
  |some u=>
   induction X<;>induction V
   ·exact Nj (j:=0) d rfl (same ta d)
   ·exact Nj (j:=1) d rfl (same ta d)
   ·exact Nj (j:=1) d rfl (same ta d)
   ·exact Nj (j:=2) d rfl (same ta d)
  |none=>
   induction X<;>induction V<;>exact TE (p2:=J t) d rfl (λb=>by kernel_rfl) (λb=>by kernel_rfl) λe x y=>f Z _ e x y
end
def Xs(b:List Int)(X V T:Option fk):Prop:=X.isSome=b.contains 0/\V.isSome=b.contains 1/\T.isSome=b.contains 2
theorem Xs.step{c:List Int}{X V T:Option fk}(h:Xs c X V T)(k:Int)(t:fk):Xs (c++[k]) (eC k t 0 X) (eC k t 1 V) (eC k t 2 T):=by
 have b:∀(j:Int)(o:Option fk),o.isSome=c.contains j->(eC k t j o).isSome=(c++[k]).contains j:=λj o e=>by
  unfold eC;rw[List.contains_eq_any_beq]at e|-;refine U List.any_append (Bd e ?_);by_cases q:k=j
  ·subst q;simp
  ·simp only[q,if_false];simp;exactλh=>zc h.symm q
 exact⟨b _ _ h.1,b _ _ h.2.1,b _ _ h.2.2⟩
variable {w:zb} {A:Xb} {R:Br->Ea->Prop} {I:Ca} {N O:List Ca} {G:Array BR->Array BR->Prop} {n:Nat} {P:Nat->ua->Prop} {St:Nat->Ea->Prop}
theorem KC(W:WalksS pg w A.in1 I N O G n P St)(S:Ca)(q:S∉N)(c:List Int)(hn:c.length=n)(h3:∀k∈c,k=0\/k=1\/k=2)(r:∀i v,P i v->∃t,v=.int (c.getD i 0) t):
 ∀(k i:Nat)(s:Ea)(Q:Nat)(X V T:Option fk),n - i=k->i<=n->St i s->S3 w s.heap S Q X V T->Xs (c.take i) X V T->
  (∀d j p0 p1 p2,Moved (S::O) G s d->S3 w d.heap S j p0 p1 p2->Xs c p0 p1 p2->R (.ok (.ret .none)) d)->
  ch (fb pg w) A (.builtin "set.update.loop" ⟨[.ref S,.ref I],[]⟩) R s:=by
 have u:S∉O:=λh=>q (W.sub _ h);have f:∀b∈O,b∈S::O:=λb x=>oa _ x;intro k
 induction k with
 |zero=>
  intro i s Q X V T hk hi l hS hF hR;have e:i=n:=Vw hi (Nat.sub_eq_zero_iff_le.mp hk);subst e;refine lf GF (U (He qn _) (ga (W.done s _ _ l λd y=>?_)));rw[<-hn,List.take_length]at hF;exact Ba (hR d Q _ _ _ (y.mono f) (y.heap S _ u hS) hF)
 |succ k ih=>
  intro i s Q X V T hk hi l hS hF hR;have m:i<n:=MF hk;refine lf GF (U (He qn _) (ga (W.item i s _ _ m l λv d hP z y=>?_)));obtain⟨t,rfl⟩:=r i v hP;have x1:=y.heap S _ u hS;have p:i<c.length:=hn▸m;have g:c.getD i 0=c[i]:=by refine U List.getD_eq_getElem?_getD (U (Wa p) ?_);rfl
  refine ga (dc ?_);unfold setAdd;refine dc (ga ((kg pg w).pyHash (k:=c.getD i 0) (wm _ _ _ _) ?_));refine D1 (s:={d with toks:=d.toks+1}) (h3 _ (by refine U g ?_;exact iu p)) x1 λb j h' B x2=>?_;refine Ba ⟨Xj qn _,ih (i+1) _ j _ _ _ (by refine U (P5 _ _) (U hk ?_);rfl) m (W.frame _ d _ _ z (te _) λb x o e=>?_) x2 (by refine U (List.take_succ_eq_append_getElem p) (Bd g ?_);exact hF.step _ _) λx3 C p0 p1 p2 D K L=>?_⟩
  ·exact U (B.2 b λh:b=S=>q (by rw[<-h];exact x)) e
  ·refine hR x3 C p0 p1 p2 (Moved.trans W.gtrans ((y.mono f).then_heap (te _) λb o x e=>?_) D) K L
   exact U (B.2 b λh:b=S=>x (by rw[h];exact sa)) e
end
noncomputable abbrev Tl(w:zb):pD:={cls:=.type "set",dict:=Y,data:=.set #[] 0 (.fresh 0 0 (!w.params.followText "set-order"))}
theorem C9{w:zb}{h:qb}:S3 w (h.push (Tl w)) h.objs.size 0 Y Y Y:=La _ rfl
theorem S3.keep{w:zb}{h b:qb}{a:Ca}{c:Nat}{d f g:Option fk}(e:S3 w h a c d f g)(i:∀x,h.get? a=J x->b.get? a=J x):S3 w b a c d f g:=i _ e
section
variable {w:zb} {A:Xb} {E:ua->Ea->Prop} {s:Ea}
theorem LC(a:ua){Q₁:ua->Ea->Prop}
 (h:Q₁ (.ref s.heap.objs.size) {s with heap:=s.heap.push (Tl w)}):
 ch (fb pg w) A (.call (.builtin "set.__new__") ⟨[.type "set",a],[]⟩) (wants Q₁ E) s:=by
 refine dg ?_;show Qa _ A.in1 (do S6 "set.__new__" ⟨[.type "set",a],[]⟩;again (.builtin "set.__new__" ⟨[.type "set",a],[]⟩)) _ _ s
 refine ga (QV (F.newCall_set_1 a) (Ba ⟨Xj l4 _,lf F.entry_set_new ?_⟩));refine U (He l4 _) ?_;unfold Si.«set.__new__» zR;have b:=sub_set_self;obtain⟨c,g,d,e,os⟩:=s
 dsimp only
 wp_walk
 refine Hh (Ba ?_)
 dsimp only
 simp only[newObj];refine ga (qfJ (Ba ?_));exact Ba h
set_option maxRecDepth 100000 in
set_option maxHeartbeats 3200000 in
theorem MC{l:Ca}{items:Array ua}{ns:List Int}{Q:ua->Ea->Prop}
 (hh:A.handled=Y)(hl:s.heap.IsList l items)(hi:Vj items.toList ns)(h3:∀k∈ns,k=0\/k=1\/k=2)
 (h:∀(d:qb)(N:Nat) O p q u,S3 w d s.heap.objs.size O p q u->Xs ns p q u->
  (∀b o,s.heap.get? b=J o->d.get? b=J o)->Q (.ref s.heap.objs.size) {s with heap:=d,toks:=N}):
 Qa (fb pg w) A (call (.type "set") [.ref l]) Q E s:=by
 obtain⟨c,tl,x8⟩:=wd.mro;have S:=wd.made;have x9:=wd.sub;refine Qw (dg ?_);show Qa _ _ (callAny (.type "set") _) _ _ _
 refine Ba ⟨BK _ (by decide+kernel),lf cW ?_⟩;refine U (DF (uR "set" [.ref l] []) rfl) ?_;have h1:=wd.notType;have h2:=wd.canCreate;have y4:=TX (.ref l)
 repeat (any_goals (first|assumption|wp_step))
 refine Fc (LC (.ref l) (E:=E) (Q₁:=λx g=>x=.ref s.heap.objs.size/\g={s with heap:=s.heap.push (Tl w)}) ⟨rfl,rfl⟩) λr g T=>?_
 induction r with
 |error e=>exact T|ok fl=>
  induction fl with
  |ret x=>
   obtain⟨rfl,rfl⟩:=T;have hS:(s.heap.push (Tl w)).get? s.heap.objs.size=J (Tl w):=La _ rfl;have hT:KR {s with heap:=s.heap.push (Tl w)} (.ref s.heap.objs.size) "set":=⟨_,hS,rfl⟩;have y5:=wd.init.lookup;have y6:=wd.init.bind (.ref s.heap.objs.size)
   repeat (any_goals (first|assumption|wp_step))
   refine Fc (Kr (R:=wants (λr j=>r=.none/\∃d N,j={s with heap:=d,toks:=N}/\
    (∃O p q u,S3 w d s.heap.objs.size O p q u/\Xs ns p q u)/\
    (∀b o,s.heap.get? b=J o->d.get? b=J o)) E) wd.init.plain RX (T6 hT ?_)) λy j a=>?_
   ·refine Al λQ1 E1 V=>?_
    obtain⟨ol,z,B,nl,C⟩:=hl;obtain⟨y1,k,W,f⟩:=ol;simp only at B C;subst B;subst C;have D:(s.heap.push (Tl w)).get? l=J {cls:=.type "list",dict:=k,data:=.seq items nl,slots:=f}:=ya _ z;have y2:=F.sub_list_set;have y3:=F.sub_list_frozenset;have y7:(Ce "list"==Ce "dict")=ta:=by decide
    have G:(s.heap.push (Tl w)).IsList l items:=⟨_,D,rfl,nl,rfl⟩;unfold Si.«set.__init__» noKeywords mn;generalize X:iw=PI
    wp_walk
    subst X;refine v5 G ?_;refine ga (zF ?_);have I:l<s.heap.objs.size:=gc z;have x1:A.in1.in1.in1.handled=Y:=by simp[hh]
    have K:l≠(s.heap.push (Tl w)).objs.size:=by
     refine U (pd _ _) ?_;exact Wb (oe I)
    have x2:s.heap.objs.size∉[(s.heap.push (Tl w)).objs.size,l]:=by
     refine U (pd _ _) ?_;simp only[ab,Jb,or_false,not_or];exact⟨Wb (Vc _),gh I⟩
    have L:∀(i:Nat)(v:ua),items[i]?=J v->∃t,v=.int (ns.getD i 0) t:=λi v hv=>
     TK hi i v (by refine U ln ?_;exact hv)
    have x3:ns.length=items.size:=by exact Bd (UK hi) (U EF rfl)
    refine KC ((Walks.list x1 _ l K items).toS) s.heap.objs.size
     x2 ns x3 h3 L (items.size - 0) 0 _ 0 Y Y Y (by omega) (Zc _)
     ⟨⟨_,La _ rfl,rfl,rfl⟩,(G.push _)⟩ (ya _ hS) ⟨rfl,rfl,rfl⟩ ?hR
    case hR=>
     intro s' y8 p0 p1 p2 P m n;obtain⟨d,g',d',x4,x5⟩:=s';have eg:g'=s.gens:=P.gens;have ed:d'=s.drawn:=P.drawn;have eo:x5=s.os:=P.os;subst eg;subst ed;subst eo;show Qa _ _ _ _ _ _
     refine Ba ?_;show Qa _ _ (ret Xm) _ _ _
     refine Ba (V _ _ ⟨rfl,d,x4,rfl,⟨_,_,_,_,m,n⟩,λb o e=>?_⟩);have hb:=gc e;have x6:b≠s.heap.objs.size:=Wb hb;have x7:b≠(s.heap.push (Tl w)).objs.size:=by
      refine U (pd _ _) ?_;exact Wb (oe hb)
     exact P.heap b o (by simp only[ab,Jb,or_false,not_or];exact⟨x6,x7⟩) (ya _ (ya _ e))
   ·induction y with
    |error e=>exact a|ok b=>
     induction b with
     |ret r=>
      obtain⟨rfl,d,N,rfl,⟨O,p,q,u,m,n⟩,e⟩:=a
      repeat (any_goals (first|assumption|wp_step))
      exact h _ _ _ _ _ _ m n e
     |_=>exact a.elim
  |_=>exact T.elim
set_option maxRecDepth 100000 in
set_option maxHeartbeats 3200000 in
theorem aA{l:Ca}{items:Array ua}{ns:List Int}{Q:ua->Ea->Prop}
 (hh:A.handled=Y)(hl:s.heap.IsTuple l items)(hi:Vj items.toList ns)(h3:∀k∈ns,k=0\/k=1\/k=2)
 (h:∀(d:qb)(N:Nat) O p q u,S3 w d s.heap.objs.size O p q u->Xs ns p q u->
  (∀b o,s.heap.get? b=J o->d.get? b=J o)->Q (.ref s.heap.objs.size) {s with heap:=d,toks:=N}):
 Qa (fb pg w) A (call (.type "set") [.ref l]) Q E s:=by
 obtain⟨c,tl,x8⟩:=wd.mro;have S:=wd.made;have x9:=wd.sub;refine Qw (dg ?_);show Qa _ _ (callAny (.type "set") _) _ _ _
 refine Ba ⟨BK _ (by decide+kernel),lf cW ?_⟩;refine U (DF (uR "set" [.ref l] []) rfl) ?_;have h1:=wd.notType;have h2:=wd.canCreate;have y4:=TX (.ref l)
 repeat (any_goals (first|assumption|wp_step))
 refine Fc (LC (.ref l) (E:=E) (Q₁:=λx g=>x=.ref s.heap.objs.size/\g={s with heap:=s.heap.push (Tl w)}) ⟨rfl,rfl⟩) λr g T=>?_
 induction r with
 |error e=>exact T|ok fl=>
  induction fl with
  |ret x=>
   obtain⟨rfl,rfl⟩:=T;have hS:(s.heap.push (Tl w)).get? s.heap.objs.size=J (Tl w):=La _ rfl;have hT:KR {s with heap:=s.heap.push (Tl w)} (.ref s.heap.objs.size) "set":=⟨_,hS,rfl⟩;have y5:=wd.init.lookup;have y6:=wd.init.bind (.ref s.heap.objs.size)
   repeat (any_goals (first|assumption|wp_step))
   refine Fc (Kr (R:=wants (λr j=>r=.none/\∃d N,j={s with heap:=d,toks:=N}/\
    (∃O p q u,S3 w d s.heap.objs.size O p q u/\Xs ns p q u)/\
    (∀b o,s.heap.get? b=J o->d.get? b=J o)) E) wd.init.plain RX (T6 hT ?_)) λy j a=>?_
   ·refine Al λQ1 E1 V=>?_
    obtain⟨ol,z,B,nl,C⟩:=hl;obtain⟨y1,k,W,f⟩:=ol;simp only at B C;subst B;subst C;have D:(s.heap.push (Tl w)).get? l=J {cls:=.type "tuple",dict:=k,data:=.seq items nl,slots:=f}:=ya _ z;have y2:=F.sub_tuple_set;have y3:=F.sub_tuple_frozenset;have y7:(Ce "tuple"==Ce "dict")=ta:=by decide
    have G:(s.heap.push (Tl w)).IsTuple l items:=⟨_,D,rfl,nl,rfl⟩;unfold Si.«set.__init__» noKeywords mn;generalize X:iw=PI
    wp_walk
    subst X;refine zi G ?_;refine ga (zF ?_);have I:l<s.heap.objs.size:=gc z;have x1:A.in1.in1.in1.handled=Y:=by simp[hh]
    have K:l≠(s.heap.push (Tl w)).objs.size:=by
     refine U (pd _ _) ?_;exact Wb (oe I)
    have x2:s.heap.objs.size∉[(s.heap.push (Tl w)).objs.size,l]:=by
     refine U (pd _ _) ?_;simp only[ab,Jb,or_false,not_or];exact⟨Wb (Vc _),gh I⟩
    have L:∀(i:Nat)(v:ua),items[i]?=J v->∃t,v=.int (ns.getD i 0) t:=λi v hv=>
     TK hi i v (by refine U ln ?_;exact hv)
    have x3:ns.length=items.size:=by exact Bd (UK hi) (U EF rfl)
    refine KC ((Walks.tuple x1 _ l K items).toS) s.heap.objs.size
     x2 ns x3 h3 L (items.size - 0) 0 _ 0 Y Y Y (by omega) (Zc _)
     ⟨⟨_,La _ rfl,rfl,rfl⟩,(G.push _)⟩ (ya _ hS) ⟨rfl,rfl,rfl⟩ ?hR
    case hR=>
     intro s' y8 p0 p1 p2 P m n;obtain⟨d,g',d',x4,x5⟩:=s';have eg:g'=s.gens:=P.gens;have ed:d'=s.drawn:=P.drawn;have eo:x5=s.os:=P.os;subst eg;subst ed;subst eo;show Qa _ _ _ _ _ _
     refine Ba ?_;show Qa _ _ (ret Xm) _ _ _
     refine Ba (V _ _ ⟨rfl,d,x4,rfl,⟨_,_,_,_,m,n⟩,λb o e=>?_⟩);have hb:=gc e;have x6:b≠s.heap.objs.size:=Wb hb;have x7:b≠(s.heap.push (Tl w)).objs.size:=by
      refine U (pd _ _) ?_;exact Wb (oe hb)
     exact P.heap b o (by simp only[ab,Jb,or_false,not_or];exact⟨x6,x7⟩) (ya _ (ya _ e))
   ·induction y with
    |error e=>exact a|ok b=>
     induction b with
     |ret r=>
      obtain⟨rfl,d,N,rfl,⟨O,p,q,u,m,n⟩,e⟩:=a
      repeat (any_goals (first|assumption|wp_step))
      exact h _ _ _ _ _ _ m n e
     |_=>exact a.elim
  |_=>exact T.elim
end
section
variable {X is:List Int} {o:ua}
theorem GU{w:zb}{A:Xb}{E:ua->Ea->Prop}{s:Ea}{r:Ca}{a:Bool->Ea->Prop}(hT:s.TypeIs (.ref r) "set")(h:a ta s):Qa (fb pg w) A (Xp (.ref r)) a E s:=by
 unfold Xp;refine ga (wpAny_specialOf hT PySem.F.slot_set_len.lookup ?_);generalize d:("set.__len__":String)=id0
 wp_delta
 refine U (show splitId id0=J ("set","__len__")from by subst d;decide+kernel) ?_;subst d;refine ga (pA (T:="set") (b:=Z) hT (by refine U (oE _ _) ?_;kernel_rfl) ?_);refine ii (λc=>zc c (by decide)) λu=>(ii (λu=>?_) λc=>zc (by decide+kernel) c);exact ga (VQ hT (Ba h))
theorem G1{w:zb}{a:Ca}{ep:Nat}{o0 o1 o2:Option fk}:KdlSrc pg w "set" a a (rq o0 o1 o2).length (λi v=>∃e,(Dk w a ep o0 o1 o2)[i]?=J e/\v=e.2) (λh=>S3 w h a ep o0 o1 o2)where
 type:=λu hm=>S3.typeIs hm
 there:=λu hm=>⟨gc hm,gc hm⟩
 keep:=λu u hm hk=>hk a (.inl rfl) _ hm
 notList:=by decide
 notTuple:=by decide
 hint:=λu u u u hm hq=>GU (S3.typeIs hm) hq
 iter:=λu s hh hm=>⟨_,_,λu u hq=>RJ hm hq,Walks.s3 hh _ a (Wb (gc hm)) ep o0 o1 o2,
  ⟨⟨_,0,La _ rfl,rfl,rfl,λu=>cP _ _ _⟩,ya _ hm⟩⟩
theorem I7(a b c:Option fk):(rq a b c).map (λx=>x.2)=((if a.isSome then[cm 0 (a.getD 0)]else[])++((if b.isSome then[cm 1 (b.getD 0)]else[])++(if c.isSome then[cm 2 (c.getD 0)]else[]))):=by
 induction a<;>induction b<;>induction c<;>rfl
theorem gy{a b c:Option fk}(f:a.isSome=X.contains 0)(g:b.isSome=X.contains 1)(h:c.isSome=X.contains 2):(rq a b c).map (λx=>x.1)=Ig X/\∀e∈rq a b c,∃t,e.2=.int e.1 t:=by
 unfold Ig;simp only[Oi,List.filter_nil,<-f,<-g,<-h]
 induction a<;>induction b<;>induction c<;>refine⟨rfl,?_⟩<;>intro e d<;>simp[rq,fB]at d<;>(try rcases d with rfl|rfl|rfl)<;>(try rcases d with rfl|rfl)<;>(try subst d)<;>exact⟨_,rfl⟩
theorem Xw(X:List Int):(Ig X).Pairwise (λx y=>x<=y):=L5 _ (by decide)
variable [O:Av]
variable {w:zb} {S:qb} {L:Ca} {W:List Ca} {Q P:St} {s:Ea} {A:Xb} {n:Nat}
theorem aF(r:R w S W Q s.heap)(x:VR w W s.heap (.iset X) o):Qa (fb pg w) A (call (.builtin "len") [o]) (PV w S L W s Q (.int (Ig X).length)) No s:=by
 refine aa λe=>?_;obtain⟨a,b,c,d,rfl,f,g,i,j,h⟩:=x.wF;refine e ?_;have k:S3 w s.heap a j b c d:=h;refine call_len_set (es:=(rq b c d).toArray) k ⟨rfl,rfl,rfl⟩ rfl (ug _ _ _ _) ?_ ?_
 ·have:=WD b c d
  refine U Hb ?_;lia
 ·refine U Hb (U (show(rq b c d).length=(Ig X).length from by rw[<-(gy f g i).1,wa]) ?_)
  exact PV.same r (.int _ _)
theorem qx{v:V}(E:Eg n A)(r:R w S W Q s.heap)(l:Tm S L W s.heap)(x:VR w W s.heap (.iset X) o)(F:cj ((Ig X).map V.int) Q=J (v,P)):
 Qa (fb pg w) A (call (.builtin "sorted") [o]) (PV w S L W s P v) No s:=by
 refine aa λg=>?_;obtain⟨a,o0,o1,o2,rfl,G,I,K,ep,h⟩:=x.wF;have i:S3 w s.heap a ep o0 o1 o2:=h;have N:=WD o0 o1 o2;obtain⟨T,hk⟩:=gy G I K;have d:=Np w a ep o0 o1 o2;obtain⟨mm,y⟩:=l.ns;refine g ?_;refine kdu_sorted (G1 (w:=w) (a:=a) (ep:=ep) (o0:=o0) (o1:=o1) (o2:=o2)) E.hh (Zi y) vg i (by refine U Af ?_;lia) λD i z B F' N' C k hv=>?_;have hi:Vj B ((Dk w a ep o0 o1 o2).map λx=>x.1):=by
  refine Cq (w:=w) (by exact U k (U d.length_eq rfl)) λj v q=>?_;refine aa λg=>?_;obtain⟨e,f,b⟩:=hv j v q;obtain⟨t,c⟩:=hk e (d.mem_iff.mp (Na f));refine g (⟨e.1,e.2,f,?_⟩);exact U b (U c (wm _ _ _ _))
 refine ksk_lsort (A:=A.in1) (s:={s with heap:=i,toks:=z}) (news':=λo=>(D,o)::wi s.heap L) (its:=B.toArray) F' N' (λo=>qeO λp d=>Wb (C p d)) rfl hi (by refine U (wa _) (U d.length_eq ?_);lia) λp t c x1 j b i' u p' m u=>?_;have f:=Yq p' m;rw[<-(Yq ((T▸(d.map λx=>x.1).symm:(Ig X).Perm _)) (Xw X):Ig X=Xq ((Dk w a ep o0 o1 o2).map λx=>x.1))]at f;subst f;have hg:s.heap.get? D=Y:=by
  induction q:s.heap.get? D with
  |none=>rfl|some ob=>
   by_cases e:D=L
   ·exact zc e (b _ sa).2.1
   ·exact zc (C _ (xe.mpr ⟨e,q⟩)) (fc _)
 exact Iq (tk':=z) r l y j.ns (News.keepAll1 b) hg (b _ sa).1 (gr i') F
theorem X5(h:is.all (λi=>decide (0<=i)&&decide (i<=2))=Z):∀k∈is,k=0\/k=1\/k=2:=λk a=>by
 have:=qd.mp h k a;simp at this
 lia
theorem bF{X:List V}(c:Eg n A)(r:R w S W Q s.heap)(x:VR w W s.heap (.t X) o)(d:gi X=J is)(e:is.all (λi=>decide (0<=i)&&decide (i<=2))=Z):
 Qa (fb pg w) A (call (.type "set") [o]) (PV w S L W s Q (.iset is)) No s:=by
 refine aa λf=>?_;obtain⟨a,g,m,rfl,h,i,l,q⟩:=x.wF;refine f (aA (items:=g.toArray) (ns:=is) c.hh (nf i) (by simpa using(ui q d)) (X5 e) λt u j v y z k b p=>?_);exact PV.wI r p (.iset b.1 b.2.1 b.2.2 ⟨j,k⟩)
theorem JC{i:Nat}{X:List V}(c:Eg n A)(r:R w S W Q s.heap)(x:VR w W s.heap (.ref i) o)(e:tc Q i=J X)(d:gi X=J is)(f:is.all (λi=>decide (0<=i)&&decide (i<=2))=Z):
 Qa (fb pg w) A (call (.type "set") [o]) (PV w S L W s Q (.iset is)) No s:=by
 refine aa λg=>?_;obtain⟨a,h,m,rfl,_,j,t,k⟩:=r.list e x;refine g (MC (items:=h.toArray) (ns:=is) c.hh (we j) (by simpa using(ui k d)) (X5 f) λu v l y z B p b q=>?_);exact PV.wI r q (.iset b.1 b.2.1 b.2.2 ⟨l,p⟩)
theorem XU:Fj w S where
 len:=λu r x=>aF r x
 sorted:=λAK r l x en=>qx AK r l x en
 ofTup:=λAK r x ei h3=>bF AK r x ei h3
 ofList:=λAK r x e ei h3=>JC AK r x e ei h3
end
set_option maxHeartbeats 4000000
theorem DN(hc:WalkO qv Zr (XL qv []) (cR Kj) ox.toRowW (by exact((qfG qv ox.name).get (by decide+kernel)).1) (by exact((qfG qv ox.name).get (by decide+kernel)).2) λf a=>S5 f a):Mh.Holds:=by
 refine holds_law (by decide+kernel) λa=>?_;refine holds_open (r:=ox) (q:=qv) (loose:=Zr) (Xt:=λs=>xlAt qv [] s&&recOk (rD ox.toRowW) s) (XP:=XL qv []) (Yf:=eW Kj) (Ya:=fW Kj) (YP:=cR Kj) (N:=6000) p8 (Hook.of Kj) (Hook.keeps Kj) (λs e=>xl_of s (Aa.mp e).1) XL.keeps (by rfl) (by rfl) (by rfl) (λs e=>recFacts_of (Aa.mp e).2) (by rfl) (by assumption) (by decide+kernel) ⟨rfl,rfl,rfl,rfl,rfl,by decide+kernel⟩ ?hw ?hc
 case hw=>w_witness2
 case hc=>exact hc
noncomputable def Rm(l:Nat)(b:List Int)(a:Nat):Option (List Int):=if a=l then J b else Y
def Wy:Prop:=∀(l:Nat)(a:List Int),a.length<=63->∃b,ml (rx (Rm l a)) nT 12 481 [.k (.ref l)] []=J (.bool Z,b)
theorem IJ(hh:Wy){w:zb}{K:Ve}{s:Ea}(x:K.In s.heap)(F:am K){l:Ca}{vs:List ua}{xs:List Int}(hL:s.heap.IsList l vs.toArray)(hI:Vj vs xs)(hx:xs.length<=63):
 ch (fb pg w) qeT (.call (.ref 481) ⟨[.ref l],[]⟩) (λq s'=>∃h' tk',q=.ok (.ret (.bool Z))/\s'={s with heap:=h',toks:=tk'}/\∀b o,s.heap.get? b=J o->h'.get? b=J o) s:=by
 obtain⟨σ',e⟩:=hh l xs hx;have B:Ek s.heap K (rx (Rm l xs)):=eS x F λa ys q=>by
  unfold Rm at q
  split at q<;>(first|exact ja q|obtain rfl:=ba q)
  rename_i z;subst z;exact⟨by lia,vs,hL,hI⟩
 have GO:=Z7 x F;have C:=tS (w:=w) B (sY (scr:=Rm l xs) F) GO (λI=>XU) (λI=>W3 B GO) (aZ x F) (C2 F) 12 ⟨λu=>False⟩;have AK: @Eg 24 qeT:=⟨rfl,by decide+kernel,by decide+kernel⟩
 letI:Av:=⟨λu=>False⟩
 have r:R w s.heap [] [] s.heap:=⟨rfl,.nil,λa h=>(Jb h).elim,λa h=>h.elim,λu u e=>e,λi o a e=>by simp at e⟩;refine Fc (C qeT AK 481 [.k (.ref l)] [.ref l] [] [] s (.bool Z) σ' 0 r (by decide) (.cons (.k _) .nil) e) λq s' p=>?_;obtain⟨val,rfl,ρ',t,k,r',xv⟩:=p;rw[(xv.wF:val=.bool Z)];exact⟨s'.heap,s'.toks,rfl,t,λb o e=>r'.wK b o e⟩
set_option tactic.hygienic true in
theorem OQ(hh:Wy):WalkO qv Zr (XL qv []) (cR Kj) ox.toRowW (by exact((qfG qv ox.name).get (by decide+kernel)).1) (by exact((qfG qv ox.name).get (by decide+kernel)).2) λf vs=>S5 f vs:=by
 intro w s₀ s₁ mg mb G yy fa o pm cd doc dV kV ho hd hcd hD hmg hg args vals as hpre hlay hrd hwl hlo;obtain⟨K,x,F⟩:=yy;have T:=G.T;clear ho hd hcd hD
 wrow_args hpre hlay hrd hwl hlo
 refine enter_call ?_;rename_i xs _ _ _ _ _ _ _ l vs _ hL _ _ _ hI _ hlen _;have hx:xs.length<=63:=by lia
 have hfa:fa=481:=by
  have q:=xZ x F T.g;have q2:mg ("law":Bb)=J (.ref fa):=hmg;rw[q]at q2;cases q2;rfl
 subst hfa;refine Fc (IJ hh x F hL hI hx) λq s' p=>?_;obtain⟨h',tk',rfl,rfl,hk⟩:=p;refine GoodW.toG ⟨.inl ⟨_,_,_,rfl,(raisesW_false ?_),.bool Z,?_,unshared_nil⟩,hk,rfl,hg⟩
 ·wrow_none_raised
 ·wrow_post
section
variable {o:O} {vs:List V} {x:W} {y:V}
set_option genCtorIdx true in
inductive lr where
 |a (i:Nat)|d (i:Nat)|f (i:Nat) (n:Bb)
theorem lr.f_inj{i j:Nat}{n m:Bb}(h:lr.f i n=lr.f j m):n=m:=by cases h;rfl
structure Wd where
 L:lr->Nat
 σ:wb
 τ:St
def Tg(a:wb)(z:lr):Prop:=match z with|.a i=>i<a.length|.d i=>∃o c,a[i]?=J o/\o.cls=J c|.f i n=>∃c,di a i n=J (.o c)
def Ex(q:Wd)(E:Nat->Prop)(a:Nat):Prop:=(∃p,Tg q.σ p/\q.L p=a)\/E a
mutual
inductive VS(q:Wd)(E:Nat->Prop):W->V->Prop
 |none:VS q E .none .none|bool (b:Bool):VS q E (.bool b) (.bool b)|int (i:Int):VS q E (.int i) (.int i)|str (s:Bb):VS q E (.str s) (.str s)|k (v:ua):VS q E (.k v) (.k v)|rng (a b:Int):VS q E (.rng a b) (.rng a b)|iset (xs:List Int):VS q E (.iset xs) (.iset xs)|ref {i:Nat}:i<q.σ.length->VS q E (.ref i) (.ref (q.L (.a i)))|t {xs:List W} {ys:List V}:Qd q E xs ys->VS q E (.t xs) (.t ys)|l {xs:List W} {ys:List V} {a:Nat}:¬Ex q E a->q.τ[a]?=J (.list ys)->Qd q E xs ys->VS q E (.l xs) (.ref a)|dic {ks:List Int} {vs:List W} {es:List (Int×V)} {a:Nat}:¬Ex q E a->q.τ[a]?=J (.idict es)->es.map (λx=>x.1)=ks->Qd q E vs (es.map λx=>x.2)->VS q E (.dic ks vs) (.ref a)
inductive Qd(q:Wd)(E:Nat->Prop):List W->List V->Prop
 |nil:Qd q E [] []|cons {x:W} {xs:List W} {v:V} {vs:List V}:VS q E x v->Qd q E xs vs->Qd q E (x::xs) (v::vs)
end
inductive VC(q:Wd)(E:Nat->Prop):W->Nat->Prop
 |l {xs:List W} {ys:List V} {a:Nat}:q.τ[a]?=J (.list ys)->Qd q E xs ys->VC q E (.l xs) a|dic {ks:List Int} {vs:List W} {es:List (Int×V)} {a:Nat}:q.τ[a]?=J (.idict es)->es.map (λx=>x.1)=ks->Qd q E vs (es.map λx=>x.2)->VC q E (.dic ks vs) a
inductive VB(q:Wd)(E:Nat->Prop):W->V->Prop
 |val {w:W} {v:V}:VS q E w v->VB q E w v|o {c:W} {a:Nat}:E a->VC q E c a->VB q E (.o c) (.ref a)|fld {i:Nat} {n:Bb}:Tg q.σ (.f i n)->VB q E (.fld i n) (.ref (q.L (.f i n)))
class inductive ED(q:Wd)(E:Nat->Prop):List W->List V->Prop
 |nil:ED q E [] []|cons {x:W} {xs:List W} {v:V} {vs:List V}:VB q E x v->ED q E xs vs->ED q E (x::xs) (v::vs)
inductive FV(q:Wd)(E:Nat->Prop)(i:Nat)(n:Bb):W->V->Prop
 |val {w:W} {v:V}:VS q E w v->FV q E i n w v|o {c:W}:VC q E c (q.L (.f i n))->FV q E i n (.o c) (.ref (q.L (.f i n)))
structure FS(q:Wd)(E:Nat->Prop)(i:Nat)(fs:List (Bb×W))(es:List (Bb×V)):Prop where
 keys:fs.map (λx=>x.1)=es.map (λx=>x.1)
 at_:∀n w,ee fs n=J w->∃v,Qf es n=J v/\FV q E i n w v
inductive OS(q:Wd)(E:Nat->Prop)(i:Nat):OF->Prop
 |inst {c:Nat} {fs:List (Bb×W)} {es:List (Bb×V)}:q.τ[q.L (.a i)]?=J (.inst c (q.L (.d i)))->q.τ[q.L (.d i)]?=J (.h es)->FS q E i fs es->OS q E i ⟨J c,fs⟩|sd {fs:List (Bb×W)} {es:List (Bb×V)}:q.τ[q.L (.a i)]?=J (.h es)->FS q E i fs es->OS q E i ⟨Y,fs⟩
structure Rl(E:Nat->Prop)(q:Wd):Prop where
 inj:∀p p',Tg q.σ p->Tg q.σ p'->q.L p=q.L p'->p=p'
 lt:∀p,Tg q.σ p->q.L p<q.τ.length
 sep:∀p,Tg q.σ p->¬E (q.L p)
 elt:∀a,E a->a<q.τ.length
 obj:∀i o,q.σ[i]?=J o->OS q E i o
structure Le(q q':Wd):Prop where
 len:q.τ.length<=q'.τ.length
 usd:∀p,Tg q.σ p->Tg q'.σ p/\q'.L p=q.L p
 new:∀p,Tg q'.σ p->Tg q.σ p\/q.τ.length<=q'.L p
 keep:∀a o,q.τ[a]?=J o->(∀p,Tg q.σ p->q.L p≠a)->q'.τ[a]?=J o
variable {q q' X:Wd} {E:Nat->Prop}
theorem oh{a:Type}{l:List a}{i:Nat}{o:a}(h:l[i]?=J o):i<l.length:=(ub.mp h).1
theorem Le.refl:Le q q:=⟨Gb _,λu h=>⟨h,rfl⟩,λu h=>.inl h,λu u h u=>h⟩
theorem Le.trans(x:Le q q')(y:Le q' X):Le q X:=
 ⟨Za x.len y.len,λp h=>⟨(y.usd p (x.usd p h).1).1,((y.usd p (x.usd p h).1).2).trans (x.usd p h).2⟩,
  λp h=>(y.new p h).elim (λb=>(x.new p b).imp_right λz=>by refine U ((y.usd p b).2) ?_;exact z) λz=>.inr (Za x.len z),
  λa o e h=>y.keep a o (x.keep a o e h) λp u z=>(x.new p u).elim (λc=>h p c ((x.usd p c).2.symm.trans z)) λc=>fc _ (rb (oh e) (z▸c))⟩
theorem Le.ex(x:Le q q'){a:Nat}(e:q.τ[a]?=J o)(h:¬Ex q E a):¬Ex q' E a/\q'.τ[a]?=J o:=
 ⟨λz=>z.elim (λb=>by obtain⟨p,u,c⟩:=b;exact(x.new p u).elim (λd=>h (.inl ⟨p,d,(x.usd p d).2.symm.trans c⟩)) λd=>fc _ (rb (oh e) (c▸d))) λz=>h (.inr z),
  x.keep a o e λp u z=>h (.inl ⟨p,u,z⟩)⟩
theorem Le.a(x:Le q q'){i:Nat}(h:i<q.σ.length):i<q'.σ.length/\q'.L (.a i)=q.L (.a i):=x.usd (.a i) h
theorem VS.map{E':Nat->Prop}(c:∀i,i<q.σ.length->i<q'.σ.length/\q'.L (.a i)=q.L (.a i))(b:∀a o,q.τ[a]?=J o->¬Ex q E a->¬Ex q' E' a/\q'.τ[a]?=J o){w:W}{v:V}(h:VS q E w v):VS q' E' w v:=
 VS.rec (motive_1:=λw v u=>VS q' E' w v) (motive_2:=λw v u=>Qd q' E' w v) .none .bool .int .str .k .rng .iset (λh=>(c _ h).2▸.ref (c _ h).1) (λu h=>.t h)
  (λn e u h=>.l (b _ _ e n).1 (b _ _ e n).2 h) (λn e k u h=>.dic (b _ _ e n).1 (b _ _ e n).2 k h) .nil (λu u h t=>.cons h t) h
def qdy(q:Wd)(E:Nat->Prop)(j:W)(d:V):Prop:=match j,d with|.none,v=>v=.none|.bool b,v=>v=.bool b|.int i,v=>v=.int i|.str s,v=>v=.str s|.k c,v=>v=.k c|.rng a b,v=>v=.rng a b|.iset b,v=>v=.iset b|.ref i,v=>i<q.σ.length/\v=.ref (q.L (.a i))|.t b,v=>∃c,v=.t c/\Qd q E b c|.l b,v=>∃a c,v=.ref a/\q.τ[a]?=J (.list c)/\Qd q E b c|.dic c vs,v=>∃a b,v=.ref a/\q.τ[a]?=J (.idict b)/\b.map (λx=>x.1)=c/\Qd q E vs (b.map λx=>x.2)|.fld u y,z=>False|.o u,y=>False
theorem VS.wF{w:W}{v:V}(h:VS q E w v):qdy q E w v:=
 VS.rec (motive_1:=λw v u=>qdy q E w v) (motive_2:=λu u u=>True) rfl (λu=>rfl) (λu=>rfl) (λu=>rfl) (λu=>rfl) (λu u=>rfl) (λu=>rfl) (λh=>⟨h,rfl⟩) (λh u=>⟨_,rfl,h⟩) (λu e h u=>⟨_,_,rfl,e,h⟩) (λu e k h u=>⟨_,_,rfl,e,k,h⟩) trivial (λu u u u=>trivial) h
def qdv(q:Wd)(E:Nat->Prop)(z:W)(y:V):Prop:=match z,y with|.o c,v=>∃a,v=.ref a/\E a/\VC q E c a|.fld i n,v=>Tg q.σ (.f i n)/\v=.ref (q.L (.f i n))|w,v=>VS q E w v
theorem VB.wF{w:W}{v:V}(h:VB q E w v):qdv q E w v:=
 VB.rec (motive:=λw v y=>qdv q E w v) (λ{w v} h=>by induction w using W.casesOn<;>first|exact h|exact h.wF.elim) (λe h=>⟨_,rfl,e,h⟩) (λu=>⟨u,rfl⟩) h
def qdw(q:Wd)(E:Nat->Prop)(z:W)(j:Nat):Prop:=match z,j with|.l c,a=>∃b,q.τ[a]?=J (.list b)/\Qd q E c b|.dic c vs,a=>∃b,q.τ[a]?=J (.idict b)/\b.map (λx=>x.1)=c/\Qd q E vs (b.map λx=>x.2)|u,y=>False
theorem VC.wF{w:W}{a:Nat}(h:VC q E w a):qdw q E w a:=VC.rec (motive:=λw a u=>qdw q E w a) (λe h=>⟨_,e,h⟩) (λe k h=>⟨_,e,k,h⟩) h
theorem Qd.ind{P:List W->List V->Prop}(c:P [] [])(d:∀x a v vs,VS q E x v->Qd q E a vs->P a vs->P (x::a) (v::vs)){b:List W}(h:Qd q E b vs):P b vs:=
 Qd.rec (motive_1:=λu u u=>True) (motive_2:=λw v u=>P w v) trivial (λu=>trivial) (λu=>trivial) (λu=>trivial) (λu=>trivial) (λu u=>trivial) (λu=>trivial) (λu=>trivial) (λu u=>trivial) (λu u u u=>trivial) (λu u u u u=>trivial) c (λa t u e=>d _ _ _ _ a t e) h
theorem Qd.map{E':Nat->Prop}(b:∀i,i<q.σ.length->i<q'.σ.length/\q'.L (.a i)=q.L (.a i))(c:∀a o,q.τ[a]?=J o->¬Ex q E a->¬Ex q' E' a/\q'.τ[a]?=J o){w:List W}{v:List V}(h:Qd q E w v):Qd q' E' w v:=
 h.ind (P:=Qd q' E') .nil λu u u u a u t=>.cons (a.map b c) t
theorem VS.mono(x:Le q q'){w:W}{v:V}(h:VS q E w v):VS q' E w v:=h.map (λu h=>x.a h) λu u e n=>x.ex e n
theorem Qd.mono(x:Le q q'){w:List W}{v:List V}(h:Qd q E w v):Qd q' E w v:=h.map (λu h=>x.a h) λu u e n=>x.ex e n
theorem VC.mono(x:Le q q'){c:W}{a:Nat}(h:VC q E c a)(b:∀o,q.τ[a]?=J o->q'.τ[a]?=J o):VC q' E c a:=
 VC.rec (motive:=λc a u=>(∀o,q.τ[a]?=J o->q'.τ[a]?=J o)->VC q' E c a) (λe h b=>.l (b _ e) (h.mono x)) (λe k h b=>.dic (b _ e) k (h.mono x)) h b
theorem Rl.eget(r:Rl E q)(x:Le q q'){a:Nat}(h:E a)(e:q.τ[a]?=J o):q'.τ[a]?=J o:=x.keep a o e λp u z=>r.sep p u (z▸h)
theorem VB.mono(r:Rl E q)(x:Le q q'){w:W}{v:V}(h:VB q E w v):VB q' E w v:=
 VB.rec (motive:=λw v y=>VB q' E w v) (λh=>.val (h.mono x)) (λe h=>.o e (h.mono x λo=>r.eget x e)) (λu=>(x.usd _ u).2▸.fld (x.usd _ u).1) h
theorem ED.mono(r:Rl E q)(x:Le q q'){w:List W}{v:List V}(h:ED q E w v):ED q' E w v:=by
 induction h with
 |nil=>exact .nil|cons h u t=>exact .cons (h.mono r x) t
theorem Qd.len{w:List W}{v:List V}(h:Qd q E w v):w.length=v.length:=h.ind (P:=λw v=>w.length=v.length) rfl λu u u u u u t=>Gc (λx=>x+1) t
theorem Qd.uncons{c:List W}{v:V}(h:Qd q E (x::c) (v::vs)):VS q E x v/\Qd q E c vs:=
 h.ind (P:=λw v=>match w,v with|x::c,v::vs=>VS q E x v/\Qd q E c vs|_,_=>True) trivial λu u u u a b u=>⟨a,b⟩
theorem Qd.app{w b:List W}{v c:List V}(h:Qd q E w v)(k:Qd q E b c):Qd q E (w++b) (v++c):=h.ind (P:=λw v=>Qd q E (w++b) (v++c)) k λu u u u a u t=>.cons a t
theorem Qd.get{w:List W}{v:List V}(h:Qd q E w v){i:Nat}(e:w[i]?=J x):∃y,v[i]?=J y/\VS q E x y:=
 h.ind (P:=λw v=>∀i,w[i]?=J x->∃y,v[i]?=J y/\VS q E x y) (λu e=>ja e) (λu u v u a u t i=>Sa i (λe=>⟨v,rfl,ba e▸a⟩) λi e=>t i e) i e
theorem Qd.set{w:List W}{v:List V}(h:Qd q E w v)(i:Nat)(k:VS q E x y):Qd q E (w.set i x) (v.set i y):=
 h.ind (P:=λw v=>∀i,Qd q E (w.set i x) (v.set i y)) (λu=>.nil) (λu u u u a b t i=>Sa i (.cons k b) λi=>.cons a (t i)) i
theorem Qd.take{w:List W}{v:List V}(h:Qd q E w v)(i:Nat):Qd q E (w.take i) (v.take i):=
 h.ind (P:=λw v=>∀i,Qd q E (w.take i) (v.take i)) (λi=>by refine U UX (U UX ?_);exact .nil) (λu u u u a u t i=>Sa i .nil λi=>.cons a (t i)) i
theorem Qd.drop{w:List W}{v:List V}(h:Qd q E w v)(i:Nat):Qd q E (w.drop i) (v.drop i):=
 h.ind (P:=λw v=>∀i,Qd q E (w.drop i) (v.drop i)) (λi=>by refine U vA (U vA ?_);exact .nil) (λu u u u a b t i=>Sa i (.cons a b) λi=>t i) i
theorem Qd.rep(h:VS q E x y)(n:Nat):Qd q E (Ia n x) (Ia n y):=vn .nil (λu t=>.cons h t) n
theorem VB.nb{w:W}{v:V}(h:VB q E w v):nb w=Z->VS q E w v:=
 VB.rec (motive:=λw v u=>Mine.Internal.nb w=Z->VS q E w v) (λh u=>h) (λu u h=>zc h ia) (λu h=>zc h ia) h
theorem VS.nb{w:W}{v:V}(h:VS q E w v):nb w=Z:=
 VS.rec (motive_1:=λw u u=>Mine.Internal.nb w=Z) (motive_2:=λu u u=>True) rfl (λu=>rfl) (λu=>rfl) (λu=>rfl) (λu=>rfl) (λu u=>rfl) (λu=>rfl) (λu=>rfl) (λu u=>rfl) (λu u u u=>rfl) (λu u u u u=>rfl) trivial (λu u u u=>trivial) h
theorem ED.nbs{w:List W}{v:List V}(h:ED q E w v)(g:zA w=Z):Qd q E w v:=by
 induction h with
 |nil=>exact .nil|cons a u t=>exact .cons (a.nb (Aa.mp g).1) (t (Aa.mp g).2)
end
section
variable {w:W} {v:V} {o:O} {b:Nat}
theorem Bj(n m:Bb)(w:W)(a:List (Bb×W)):ee (fj a n w) m=if n=m then J w else ee a m:=by
 induction a with
 |nil=>rfl|cons p r c=>
  show ee (if p.1=n then(p.1,w)::r else(p.1,p.2)::fj r n w) m=if n=m then J w else if p.1=m then J p.2 else ee r m
  by_cases h:p.1=n
  ·refine U (Fd h) ?_
   show(if p.1=m then J w else ee r m)=_
   refine U h ?_;by_cases z:n=m
   ·exact U (Fd z) (U (Fd z) rfl)
   ·exact U (ge z) (U (ge z) (U (ge z) rfl))
  ·refine U (ge h) ?_
   show(if p.1=m then J p.2 else ee (fj r n w) m)=_
   refine U c ?_;by_cases z:p.1=m
   ·exact U (Fd z) (U (ge λy=>h (z.trans y.symm)) (U (Fd z) rfl))
   ·exact U (ge z) (U (ge z) rfl)
theorem AJ(n m:Bb)(w:V)(a:List (Bb×V)):Qf (Gh a n w) m=if n=m then J w else Qf a m:=by
 induction a with
 |nil=>rfl|cons p r c=>
  show Qf (if p.1=n then(p.1,w)::r else(p.1,p.2)::Gh r n w) m=if n=m then J w else if p.1=m then J p.2 else Qf r m
  by_cases h:p.1=n
  ·refine U (Fd h) ?_
   show(if p.1=m then J w else Qf r m)=_
   refine U h ?_;by_cases z:n=m
   ·exact U (Fd z) (U (Fd z) rfl)
   ·exact U (ge z) (U (ge z) (U (ge z) rfl))
  ·refine U (ge h) ?_
   show(if p.1=m then J p.2 else Qf (Gh r n w) m)=_
   refine U c ?_;by_cases z:p.1=m
   ·exact U (Fd z) (U (ge λy=>h (z.trans y.symm)) (U (Fd z) rfl))
   ·exact U (ge z) (U (ge z) rfl)
theorem LN(n:Bb)(w:W)(v:V)(c:List (Bb×W)):∀a:List (Bb×V),c.map (λx=>x.1)=a.map (λx=>x.1)->(fj c n w).map (λx=>x.1)=(Gh a n v).map (λx=>x.1):=by
 induction c with
 |nil=>
  intro a h
  induction a using ma with
  |nil=>rfl|cons u y=>exact zc h.symm (Ac _ _)
 |cons p c d=>
  intro a h
  induction a using ma with
  |nil=>exact zc h (Ac _ _)|cons l a=>
   have e:p.1=l.1:=Yd h;show((if p.1=n then(p.1,w)::c else(p.1,p.2)::fj c n w).map λx=>x.1)=(if l.1=n then(l.1,v)::a else(l.1,l.2)::Gh a n v).map λx=>x.1
   refine Bd e ?_;by_cases q:p.1=n
   ·exact U (Fd q) (U (Fd q) (Gc (λx=>p.1::x) (xd h)))
   ·exact U (ge q) (U (ge q) (Gc (λx=>p.1::x) (d a (xd h))))
variable {q X:Wd} {E:Nat->Prop} {i:Nat} {n:Bb}
theorem FV.mono(x:Le q X)(h:FV q E i n w v):(∀c,w=.o c->Tg q.σ (.f i n))->(∀c,w=.o c->∀o,q.τ[q.L (.f i n)]?=J o->X.τ[q.L (.f i n)]?=J o)->FV X E i n w v:=
 FV.rec (motive:=λw v y=>(∀c,w=.o c->Tg q.σ (.f i n))->(∀c,w=.o c->∀o,q.τ[q.L (.f i n)]?=J o->X.τ[q.L (.f i n)]?=J o)->FV X E i n w v) (λh y y=>.val (h.mono x))
  (λh u a=>have e:=(x.usd _ (u _ rfl)).2;e▸.o (e.symm▸h.mono x (a _ rfl))) h
theorem OS.mono(x:Le q X){o:OF}(f:q.σ[i]?=J o)(a:∀p,(p=.a i\/p=.d i\/∃n,p=.f i n)->Tg q.σ p->∀o,q.τ[q.L p]?=J o->X.τ[q.L p]?=J o)(h:OS q E i o):OS X E i o:=by
 have k:∀{fs es},o.fs=fs->FS q E i fs es->FS X E i fs es:=λg F=>⟨F.keys,λn w e=>by
  refine aa λj=>?_;obtain⟨v,l,z⟩:=F.at_ n w e;refine j ?_;have u:∀c,w=.o c->Tg q.σ (.f i n):=λc d=>⟨c,by unfold di;refine U f ?_;exact(g▸e).trans (Gc J d)⟩;exact⟨v,l,z.mono x u λc d=>a _ (.inr (.inr ⟨n,rfl⟩)) (u c d)⟩⟩
 have d:Tg q.σ (.a i):=oh f;cases h with
 |inst j r F=>
  have l:Tg q.σ (.d i):=⟨_,_,f,rfl⟩;have m:=(x.usd _ l).2;exact .inst (by refine U ((x.usd _ d).2) (U m ?_);exact a _ (.inl rfl) d _ j) (by refine U m ?_;exact a _ (.inr (.inl rfl)) l _ r) (k rfl F)
 |sd j F=>exact .sd (by refine U ((x.usd _ d).2) ?_;exact a _ (.inl rfl) d _ j) (k rfl F)
theorem Rl.more(r:Rl E q){τ':St}(c:q.τ.length<=τ'.length)(d:∀(a:Nat)(o:O),q.τ[a]?=J o->τ'[a]?=J o):Rl E ⟨q.L,q.σ,τ'⟩/\Le q ⟨q.L,q.σ,τ'⟩:=by
 have x:Le q ⟨q.L,q.σ,τ'⟩:=⟨c,λp h=>⟨h,rfl⟩,λp h=>.inl h,λa o e y=>d a o e⟩;exact⟨⟨r.inj,λp u=>rb (r.lt p u) c,r.sep,λa h=>rb (r.elt a h) c,λi o h=>(r.obj i o h).mono x h λp y y o=>d _ o⟩,x⟩
theorem Rl.push(r:Rl E q)(o:O):Rl E ⟨q.L,q.σ,q.τ++[o]⟩/\Le q ⟨q.L,q.σ,q.τ++[o]⟩:=
 r.more (by refine U Ha ?_;exact Nc _ _) λa c e=>by refine U (Xa (oh e)) ?_;exact e
theorem Zv{a:St}:(a++[o])[a.length]?=J o:=by refine U (Ma (Gb _)) (U (jh _) ?_);rfl
theorem Rl.top(r:Rl E q):¬Ex q E q.τ.length:=λz=>z.elim (λa=>by obtain⟨p,u,e⟩:=a;exact fc _ (e▸r.lt p u)) λz=>fc _ (r.elt _ z)
theorem Rl.add(r:Rl E q)(c:b<q.τ.length)(d:∀p,Tg q.σ p->q.L p≠b)(e:∀i o,q.σ[i]?=J o->OS q (λa=>E a\/a=b) i o):Rl (λa=>E a\/a=b) q:=
 ⟨r.inj,r.lt,λp u z=>z.elim (r.sep p u) (d p u),λa z=>z.elim (r.elt a) λz=>z▸c,e⟩
theorem VS.sub{c:Nat->Prop}(hEx:∀a,c a->E a)(h:VS q E w v):VS q c w v:=h.map (λu h=>⟨h,rfl⟩) λu u e n=>⟨λz=>n (z.imp_right (hEx _)),e⟩
theorem Qd.sub{c:Nat->Prop}(hEx:∀a,c a->E a){w:List W}{v:List V}(h:Qd q E w v):Qd q c w v:=h.map (λu h=>⟨h,rfl⟩) λu u e n=>⟨λz=>n (z.imp_right (hEx _)),e⟩
theorem BM(c:q.τ.length<=b){a:Nat}(e:q.τ[a]?=J o)(h:¬Ex q E a):¬Ex q (λa=>E a\/a=b) a:=
 λz=>z.elim (λu=>h (.inl u)) λz=>z.elim (λz=>h (.inr z)) λz=>fc _ (rb (oh e) (z▸c))
theorem VS.sup(c:q.τ.length<=b)(h:VS q E w v):VS q (λa=>E a\/a=b) w v:=h.map (λu h=>⟨h,rfl⟩) λu u e n=>⟨BM c e n,e⟩
theorem Qd.sup(c:q.τ.length<=b){w:List W}{v:List V}(h:Qd q E w v):Qd q (λa=>E a\/a=b) w v:=h.map (λu h=>⟨h,rfl⟩) λu u e n=>⟨BM c e n,e⟩
end
section
variable {i a:Nat} {b c:Bool} {O:List W} {N:St}
section
variable {X T R S K:Type}
def Sb(P:X->T->Prop)(x:Option X)(y:Option T):Prop:=∀a,x=J a->∃b,y=J b/\P a b
theorem Sb.rf{x:Option X}:Sb Eq x x:=λa e=>⟨a,e,rfl⟩
theorem Sb.no{P:X->T->Prop}{y:Option T}:Sb P Y y:=λu e=>nosome' e
where nosome' {P:Prop} {a:X} (e:Y=J a):P:=ja e
theorem Sb.ok{P:X->T->Prop}{a:X}{b:T}(h:P a b):Sb P (J a) (J b):=λu e=>⟨b,rfl,ba e▸h⟩
theorem Sb.bind{P:X->T->Prop}{d:R->S->Prop}{x:Option X}{y:Option T}{k:X->Option R}{k2:Option T->Option S}(h:Sb P x y)(f:∀a b,P a b->Sb d (k a) (k2 (J b))):Sb d (x.bind k) (k2 y):=by
 induction x with
 |none=>exact .no|some a=>obtain⟨b,e,p⟩:=h a rfl;refine U e ?_;exact f a b p
theorem Sb.map{P:X->T->Prop}{d:R->S->Prop}{x:Option X}{y:Option T}{k:X->R}{k2:Option T->Option S}(h:Sb P x y)(f:∀a b,P a b->Sb d (J (k a)) (k2 (J b))):Sb d (x.map k) (k2 y):=by
 induction x with
 |none=>exact .no|some a=>obtain⟨b,e,p⟩:=h a rfl;refine U e ?_;exact f a b p
theorem Sb.wY{P:X->T->Prop}{d:R->S->Prop}{x:Option X}{y:Option T}{k:X->Option R}{k2:T->Option S}(h:Sb P x y)(e:∀a b,P a b->Sb d (k a) (k2 b)):Sb d (x.bind k) (y.bind k2):=Sb.bind (k2:=λo=>o.bind k2) h e
theorem Sb.map2{P:X->T->Prop}{d:R->S->Prop}{x:Option X}{y:Option T}{k:X->R}{k2:T->S}(h:Sb P x y)(e:∀a b,P a b->d (k a) (k2 b)):Sb d (x.map k) (y.map k2):=Sb.map (k2:=Op k2) h λa b p=>Sb.ok (e a b p)
theorem Sb.wT{d:R->S->Prop}{x y:Option X}{k:X->Option R}{k2:X->Option S}(h:Sb Eq x y)(f:∀a,Sb d (k a) (k2 a)):Sb d (x.bind k) (y.bind k2):=Sb.wY h λa u e=>e▸f a
theorem Sb.mapE{x y:Option X}{k:X->R}(h:Sb Eq x y):Sb Eq (x.map k) (y.map k):=Sb.map2 h λu u e=>e▸rfl
theorem Sb.mapR{P:X->T->Prop}{d:X->S->Prop}{x:Option X}{y:Option T}{k2:T->S}(h:Sb P x y)(f:∀a b,P a b->d a (k2 b)):Sb d x (y.map k2):=λa e=>by
 obtain⟨b,g,p⟩:=h a e;exact⟨k2 b,by refine U g ?_;rfl,f a b p⟩
theorem Sb.wJ{d:R->S->Prop}{x:Option X}{y:Option S}{k:X->Option R}(e:∀a,x=J a->Sb d (k a) y):Sb d (x.bind k) y:=by
 induction x with
 |none=>exact .no|some a=>exact e a rfl
theorem Sb.lookm{d:R->S->Prop}{x:Option X}{y:Option S}{k:X->R}(e:∀a,x=J a->Sb d (J (k a)) y):Sb d (x.map k) y:=by
 induction x with
 |none=>exact .no|some a=>exact e a rfl
theorem Sb.imp{P d:X->T->Prop}{x:Option X}{y:Option T}(h:Sb P x y)(f:∀a b,P a b->d a b):Sb d x y:=λa e=>(h a e).imp λu z=>⟨z.1,f _ _ z.2⟩
inductive PX(E:Nat->Prop)(q:Wd)(V:Wd->X->T->Prop)(a:X×wb)(b:T×St):Prop
 |mk (L:lr->Nat):Le q ⟨L,a.2,b.2⟩->Rl E ⟨L,a.2,b.2⟩->V ⟨L,a.2,b.2⟩ a.1 b.1->PX E q V a b
abbrev SX(E:Nat->Prop)(q:Wd)(V:Wd->X->T->Prop)(x:Option (X×wb))(y:Option (T×St)):Prop:=Sb (PX E q V) x y
variable {E:Nat->Prop} {q q':Wd} {V:Wd->X->T->Prop} {Q:Wd->R->S->Prop}
theorem SX.at(x:Le q q')(r:Rl E q'){a:X}{b:T}(h:V q' a b):SX E q V (J (a,q'.σ)) (J (b,q'.τ)):=Sb.ok (.mk q'.L x r h)
theorem SX.ret(r:Rl E q){a:X}{b:T}(h:V q a b):SX E q V (J (a,q.σ)) (J (b,q.τ)):=SX.at .refl r h
theorem SX.le(x:Le q q'){d:Option (X×wb)}{e:Option (T×St)}(h:SX E q' V d e):SX E q V d e:=Sb.imp h λu u p=>p.rec λL y r v=>.mk L (x.trans y) r v
theorem SX.bind{x:Option (X×wb)}{y:Option (T×St)}{k:X×wb->Option (R×wb)}{k2:Option (T×St)->Option (S×St)}(h:SX E q V x y)(d:∀q' a b,Le q q'->Rl E q'->V q' a b->SX E q' Q (k (a,q'.σ)) (k2 (J (b,q'.τ)))):SX E q Q (x.bind k) (k2 y):=
 Sb.bind h λa b p=>p.rec λL y r v=>SX.le y (d ⟨L,a.2,b.2⟩ a.1 b.1 y r v)
theorem SX.map{x:Option (X×wb)}{y:Option (T×St)}{k:X×wb->R×wb}{k2:Option (T×St)->Option (S×St)}(h:SX E q V x y)(d:∀q' a b,Le q q'->Rl E q'->V q' a b->SX E q' Q (J (k (a,q'.σ))) (k2 (J (b,q'.τ)))):SX E q Q (x.map k) (k2 y):=
 Sb.map h λa b p=>p.rec λL y r v=>SX.le y (d ⟨L,a.2,b.2⟩ a.1 b.1 y r v)
theorem SX.wY{x:Option (X×wb)}{y:Option (T×St)}{k:X×wb->Option (R×wb)}{k2:T×St->Option (S×St)}(h:SX E q V x y)(d:∀q' a b,Le q q'->Rl E q'->V q' a b->SX E q' Q (k (a,q'.σ)) (k2 (b,q'.τ))):SX E q Q (x.bind k) (y.bind k2):=SX.bind (k2:=λo=>o.bind k2) h d
theorem SX.map2{x:Option (X×wb)}{y:Option (T×St)}{k:X×wb->R×wb}{k2:T×St->S×St}(h:SX E q V x y)(d:∀q' a b,Le q q'->Rl E q'->V q' a b->SX E q' Q (J (k (a,q'.σ))) (J (k2 (b,q'.τ)))):SX E q Q (x.map k) (y.map k2):=SX.map (k2:=λo=>o.map k2) h d
end
theorem VJ{w:W}(h:xk w=J i):w=.ref i:=by induction w using W.casesOn<;>first|exact ja h|exact Gc W.ref (ba h)
theorem pJ{w:W}{i:Int}(h:Ua w=J i):w=.int i:=by induction w using W.casesOn<;>first|exact ja h|exact Gc W.int (ba h)
theorem eK{w:W}{i:Bb}(h:Zq w=J i):w=.str i:=by induction w using W.casesOn<;>first|exact ja h|exact Gc W.str (ba h)
theorem QI{w:W}{i:Bool}(h:Ii w=J i):w=.bool i:=by induction w using W.casesOn<;>first|exact ja h|exact Gc W.bool (ba h)
theorem qK{w:W}{i:List W}(h:ng w=J i):w=.t i:=by induction w using W.casesOn<;>first|exact ja h|exact Gc W.t (ba h)
theorem Eo{w:W}{i:W}(h:rK w=J i):w=.o i:=by induction w using W.casesOn<;>first|exact ja h|exact Gc W.o (ba h)
theorem uo{w:W}{i:List W}(h:El w=J i):w=.l i:=by induction w using W.casesOn<;>first|exact ja h|exact Gc W.l (ba h)
theorem Lq{u:Unit}(h:Ie b=J u):b=Z:=by
 induction b
 ·exact ja h
 ·rfl
theorem qi{w u:W}(h:mf w=J u):u=w/\nb w=Z:=by
 refine Ds h λy e z=>?_;subst z;exact⟨rfl,Lq e⟩
theorem Sb.okb{X T:Type}{P:X->T->Prop}(h:b=c){k:Unit->Option X}{k2:Unit->Option T}(d:b=Z->Sb P (k ()) (k2 ())):Sb P ((Ie b).bind k) ((Ie c).bind k2):=by
 subst h
 induction b
 ·exact .no
 ·exact d rfl
theorem Sb.okm{X T:Type}{P:X->T->Prop}(h:b=c){k:Unit->X}{k2:Unit->T}(d:b=Z->P (k ()) (k2 ())):Sb P ((Ie b).map k) ((Ie c).map k2):=by
 subst h
 induction b
 ·exact .no
 ·exact .ok (d rfl)
theorem Sb.okmb{X T:Type}{P:X->T->Prop}{k:Unit->X}{k2:Unit->Option T}(d:b=Z->Sb P (J (k ())) (k2 ())):Sb P ((Ie b).map k) ((Ie b).bind k2):=by
 induction b
 ·exact .no
 ·exact d rfl
theorem Sb.ifB{X T:Type}{P:X->T->Prop}(h:b=c){x d:Option X}{y e:Option T}(f:Sb P x y)(g:Sb P d e):Sb P (kn b x d) (kn c y e):=by
 subst h
 induction b
 ·exact g
 ·exact f
variable {q q':Wd} {E:Nat->Prop} {w:W} {v:V}
theorem VS.ref_inv(h:VS q E (.ref i) v):i<q.σ.length/\v=.ref (q.L (.a i)):=h.wF
theorem VS.tup_inv(h:VS q E (.t O) v):∃d,v=.t d/\Qd q E O d:=h.wF
theorem VB.ref_of(h:VB q E w v)(e:xk w=J i):i<q.σ.length/\v=.ref (q.L (.a i)):=((VJ e)▸h:VB q E (.ref i) v).nb rfl |>.ref_inv
theorem VB.wZ(h:VB q E w v){i:Int}(e:Ua w=J i):v=.int i:=((pJ e)▸h:VB q E (.int i) v).wF.wF
theorem VB.str_of(h:VB q E w v){i:Bb}(e:Zq w=J i):v=.str i:=((eK e)▸h:VB q E (.str i) v).wF.wF
theorem VB.bool_of(h:VB q E w v){i:Bool}(e:Ii w=J i):v=.bool i:=((QI e)▸h:VB q E (.bool i) v).wF.wF
theorem VB.tup_of(h:VB q E w v){i:List W}(e:ng w=J i):∃d,v=.t d/\Qd q E i d:=((qK e)▸h:VB q E (.t i) v).nb rfl |>.tup_inv
theorem Rl.get(r:Rl E q)(h:i<q.σ.length):∃o,q.σ[i]?=J o/\OS q E i o:=⟨q.σ[i],Wa h,r.obj i _ (Wa h)⟩
inductive b4(q:Wd)(E:Nat->Prop)(c:W)(v:V):Prop
 |at {a:Nat}:v=.ref a->VC q E c a->b4 q E c v|val:VS q E c v->b4 q E c v
theorem uq(r:Rl E q){n:Bb}{c:W}(h:di q.σ i n=J (.o c)):VC q E c (q.L (.f i n)):=by
 refine aa λd=>(Vg h λo f g=>(d ?_));have e:∀{fs es},o.fs=fs->FS q E i fs es->VC q E c (q.L (.f i n)):=λj F=>by
  refine aa λd=>?_;obtain⟨v,_,z⟩:=F.at_ n _ (j▸g);refine d ?_;cases z with
  |val z=>exact zc z.nb ia|o z=>exact z
 cases r.obj i o f with
 |inst u y F=>exact e rfl F|sd u F=>exact e rfl F
theorem VB.cont(r:Rl E q)(h:VB q E w v){c:W}(e:mj w q.σ=J c):b4 q E c v:=by
 have y:=h.wF
 induction w using W.casesOn<;>first|exact ba e▸.val y|skip
 ·exact Vg e λb e1 e2=>(.at y.2 (uq r (Eo e2▸e1)))
 ·obtain⟨a,rfl,_,z⟩:=y
  exact ba e▸.at rfl z
theorem b4.l(h:b4 q E (.l O) v):∃a d,v=.ref a/\q.τ[a]?=J (.list d)/\Qd q E O d:=
 h.rec (λe h=>h.wF.elim λd z=>⟨_,d,e,z⟩) λh=>h.wF
theorem b4.dic{f:List Int}(h:b4 q E (.dic f O) v):∃a d,v=.ref a/\q.τ[a]?=J (.idict d)/\d.map (λx=>x.1)=f/\Qd q E O (d.map λx=>x.2):=
 h.rec (λe h=>h.wF.elim λd z=>⟨_,d,e,z⟩) λh=>h.wF
theorem b4.vs(h:b4 q E w v)(d:∀a,¬VC q E w a):VS q E w v:=by
 induction h with
 | «at» u h=>exact zc h (d _)|val h=>exact h
theorem Mi(r:Rl E q)(h:VB q E w v)(e:Qe w q.σ=J O):∃a d,v=.ref a/\q.τ[a]?=J (.list d)/\Qd q E O d:=by
 exact aa λf=>(Vg e λc g j=>(f ((h.cont r (uo j▸g)).l)))
theorem ie{d:List V}(h:N[a]?=J (.list d)):tc N a=J d:=by unfold tc;refine U h ?_;rfl
theorem Vq{d:List (Bb×V)}(h:N[a]?=J (.h d)):Uq N a=J d:=by unfold Uq;refine U h ?_;rfl
theorem qo{c d:Nat}(h:N[a]?=J (.inst c d)):ri N a=J (c,d):=by unfold ri;refine U h ?_;rfl
end
section
variable {xs:List W} {ys:List V}
variable {q S:Wd} {E:Nat->Prop} {w u:W} {v x:V} {tab:Bh} {T X:Nat->Option (List Int)} {n:Bb}
theorem VS.noC(h:VS q E w v)(a:qaI w=ta):bH v=J v:=by
 have y:=h.wF
 induction w using W.casesOn<;>first|exact y.elim|(rw[y];rfl)|(rw[y.2];rfl)|(obtain⟨_,rfl,_⟩:=y;rfl)|(obtain⟨_,_,rfl,_⟩:=y;rfl)|exact zc a λh=>Ed h
theorem nZ(h:nb w=Z):tT w=ta:=by induction w using W.casesOn<;>first|rfl|exact zc h λh=>Ed h
theorem NA(r:Rl E q)(h:VB q E w v):Sb (VB q E) ((xk w).bind (Gx tab n q.σ)) (Ki (tab.w X) v n q.τ):=Sb.wJ λi e=>by
 obtain⟨g,rfl⟩:=h.ref_of e;obtain⟨o,b,O⟩:=r.get g;unfold Gx;refine U b ?_;cases O with
 |sd=>exact .no| @inst c s t j k F=>
  show Sb _ ((Ie (tab.attr c n)).bind _) ((ri q.τ (q.L (.a i))).bind _)
  refine U (qo j) ?_;show Sb _ _ ((Uq q.τ (q.L (.d i))).bind _)
  refine U (Vq k) (Sb.okb rfl λu=>Sb.wJ λa d=>(aa λf=>?_));obtain⟨l,m,z⟩:=F.at_ n a d;refine f ?_;clear f;refine U m ?_;cases z with
  |val z=>
   show Sb _ (Mine.Internal.kn (tT a) _ (Mine.Internal.kn (qaI a) _ _)) (bH l)
   refine U (nZ z.nb) ?_
   induction p:qaI a with
   |true=>exact .no|false=>refine U (z.noC p) ?_;exact .ok (.val z)
  | @o c z=>exact .ok (.fld ⟨c,by show(q.σ[i]?).bind _=_;refine U b ?_;exact d⟩)
theorem IG(h:Qd q E xs ys)(k:Int):Sb (VS q E) (jE xs k) (U4 ys k):=by
 unfold jE U4;refine Bd h.len ?_
 induction Nl xs.length k with
 |none=>exact .no|some i=>exactλu e=>h.get e
theorem zJ:∀{a:List (Int×V)}{b:List W},Qd q E b (a.map λx=>x.2)->∀k,Sb (VS q E) (wy (a.map λx=>x.1) b k) (Pm a k):=by
 intro a
 induction a with
 |nil=>
  intro b u y
  induction b using ma<;>exact .no
 |cons d a e=>
  intro b h k
  induction b using ma with
  |nil=>exact .no|cons x b=>
   obtain⟨h,t⟩:=h.uncons;show Sb _ (if d.1=k then J x else wy (a.map λx=>x.1) b k) (if d.1=k then J d.2 else Pm a k)
   by_cases c:d.1=k
   ·exact U (Fd c) (U (Fd c) (Sb.ok h))
   ·exact U (ge c) (U (ge c) (e t k))
theorem fI(r:Rl E q)(h:VB q E w v)(k:VB q E u x):Sb (VS q E) (jV w u q.σ) (XC v x q.τ):=Sb.wJ λc e=>by
 have C:=h.cont r e
 induction c using W.casesOn<;>try exact .no
 ·obtain⟨ys,rfl,z⟩:=(C.vs λy z=>z.wF).tup_inv
  exact Sb.wJ λi ei=>(k.wZ ei).symm▸IG z i
 ·refine aa λnq=>?_
  obtain⟨a,ys,rfl,e1,z⟩:=C.l;refine nq ?_;clear nq;show Sb _ _ ((q.τ[a]?).bind _)
  exact U e1 (Sb.wJ λi ei=>(k.wZ ei).symm▸IG z i)
 ·obtain⟨a,es,rfl,e1,rfl,z⟩:=C.dic
  show Sb _ _ ((q.τ[a]?).bind _)
  exact U e1 (Sb.wJ λi ei=>(k.wZ ei).symm▸zJ z i)
 ·skip
  refine aa λnq=>?_;obtain⟨hi,rfl⟩:=(C.vs λy z=>z.wF).ref_inv;obtain⟨o,ho,O⟩:=r.get hi;refine nq ?_;clear nq;refine Sb.wJ λs es=>(U (k.str_of es) ?_);unfold UE;refine U ho ?_;cases O with
  |inst=>exact .no| @sd fs es' e1 F=>
   show Sb _ ((ee fs s).bind mf) ((q.τ[q.L (.a i)]?).bind _)
   refine U e1 (Sb.wJ λw' e'=>(aa λnq=>?_));obtain⟨v',e3,z⟩:=F.at_ s w' e';refine nq ?_;clear nq;show Sb _ _ (Qf es' s)
   refine U e3 ?_;cases z with
   |val z=>exactλu hu=>⟨v',rfl,(qi hu).1▸z⟩|o=>exact .no
theorem Ll(r:Rl E q)(h:Qd q E xs ys):SX E q (λx=>VS x E) (To xs q.σ) (cj ys q.τ):=Sb.okm (Gc Ud h.len) λu=>
 have p:=r.push (.list ys)
 .mk q.L p.2 p.1 (VS.l (q:=⟨q.L,q.σ,q.τ++[.list ys]⟩) r.top Zv (h.mono p.2))
theorem As(r:Rl E q)(h:Qd q E xs ys):SX E q (λx=>VS x E) (ZG xs q.σ) (Cp ys q.τ):=Sb.okm (Gc Ud h.len) λu=>.mk q.L .refl r (VS.t h)
theorem SX.vb{x:fo}{y:Option (V×St)}(h:SX E q (λx=>VS x E) x y):SX E q (λx=>VB x E) x y:=Sb.imp h λu u p=>p.rec λL y r v=>.mk L y r (.val v)
theorem SX.int(r:Rl E q)(i:Int):SX E q (λx=>VS x E) (J (.int i,q.σ)) (J (.int i,q.τ)):=SX.ret (V:=λq=>VS q E) r (.int i)
theorem Qd.ints{i:List Int}:Qd q E (i.map .int) (i.map .int):=by
 induction i with
 |nil=>exact .nil|cons a i b=>exact .cons (.int a) b
theorem JS(b:∀a xs,T a=J xs->X a=J xs)(r:Rl E q)(h:VB q E w v){k:Int}:SX E q (λx=>VS x E) (o7 T k q.σ w) (HS (tab.w X) v k q.τ):=by
 induction w using W.casesOn<;>try exact Sb.no
 rename ua=>c
 induction c<;>try exact Sb.no
 rw[((h.wF).wF:v=.k _)];exact Sb.wJ λxs e=>by
  show SX E q _ _ ((X _).bind _)
  exact U (b _ _ e) (Sb.okb rfl λu=>Ll r (Qd.ints.take _))
theorem W0(r:Rl E q)(h:VB q E w v)(k:VB q E u x){f:Int->Int->Option Int}:SX E q (λx=>VS x E) (i5 f w u q.σ) (f5 f v x q.τ):=
 Sb.wJ λa d=>Sb.wJ λb e=>by
  refine U (h.wZ d) (U (k.wZ e) ?_);exact Sb.lookm λc g=>by
   show SX E q _ _ ((f a b).map _)
   exact U g (SX.int r c)
theorem SR(r:Rl E q)(h:VB q E w v)(k:VB q E u x):SX E q (λx=>VS x E) (aY w u q.σ) (RR v x q.τ):=by
 have L:SX E q (λx=>VS x E) ((Qe w q.σ).bind λxs=>(Qe u q.σ).bind λys=>To (xs++ys) q.σ) (RR v x q.τ):=Sb.wJ λxs ex=>Sb.wJ λys ey=>by
  obtain⟨a,vs,rfl,e1,z1⟩:=Mi r h ex;obtain⟨b,us,rfl,e2,z2⟩:=Mi r k ey;show SX E q _ _ ((tc q.τ a).bind λxs=>(tc q.τ b).bind λys=>cj (xs++ys) q.τ)
  exact U (ie e1) (U (ie e2) (Ll r (z1.app z2)))
 induction w using W.casesOn<;>try exact L
 ·rename Int=>a
  refine U (h.wZ (i:=a) rfl) ?_;exact Sb.lookm λb eb=>by refine U (k.wZ eb) ?_;exact SX.int r _
 ·skip
  refine aa λnq=>?_;obtain⟨vs,rfl,z1⟩:=h.tup_of (i:=xs) rfl;refine nq ?_;clear nq;exact Sb.wJ λys ey=>by
   obtain⟨us,rfl,z2⟩:=k.tup_of ey;exact As r (z1.app z2)
theorem iS(r:Rl E q)(h:VB q E w v)(k:VB q E u x){a:Je}:SX E q (λx=>VS x E) (nY a w u q.σ) (gS a v x q.τ):=by
 induction a<;>first|exact Sb.no|exact SR r h k|exact W0 r h k
end
section
variable {X:List W} {ys:List V}
variable {q S:Wd} {E:Nat->Prop} {w u:W} {v x:V} {T:Bh} {n:Bb}
theorem Xx(h:VS q E w v):Sb Eq (RD w) (bB v):=by
 have y:=h.wF
 induction w using W.casesOn<;>first|exact Sb.no|(rw[y];exact Sb.ok rfl)|skip
 rw[(y:v=.str s)];show Sb Eq (if Jp s=Z then _ else _) (if Jp s=Z then _ else _)
 split
 ·exact Sb.ok rfl
 ·exact Sb.no
theorem ay{f:W->Option Xf}{g:V->Option Xf}(a:∀{w v},VS q E w v->Sb Eq (f w) (g v))(h:Qd q E X ys):Sb Eq (Pe f X) (km g ys):=
 h.ind (P:=λX ys=>Sb Eq (Pe f X) (km g ys)) (Sb.ok rfl) λu u u u h u t=>Sb.wT (a h) λu=>Sb.mapE t
theorem VD{n:Nat}{f:List Xf->Xf}(a:∀{w v},VS q E w v->Sb Eq (ae n w) (gv n v q.τ))(h:Qd q E X ys):Sb Eq ((Pe (ae n) X).map f) ((km (λx=>gv n x q.τ) ys).map f):=
 Sb.mapE (ay a h)
theorem oq:∀(n:Nat){w:W}{v:V},VS q E w v->Sb Eq (ae n w) (gv n v q.τ):=by
 intro n
 induction n with
 |zero=>
  rintro _ _ h;exact Xx h
 |succ n ih=>
  rintro w _ h;have y:=h.wF
  induction w using W.casesOn<;>first|exact Sb.no|(rw[y];exact Sb.ok rfl)|skip
  ·rw[y];exact Xx (q:=q) (E:=E) (.str _)
  ·obtain⟨ys,rfl,z⟩:=y
   exact VD (ih) z
  ·obtain⟨a,ys,rfl,e,z⟩:=y
   show Sb Eq _ ((tc q.τ a).bind _)
   exact U (ie e) (VD (ih) z)
  ·exact y.elim
theorem Yx(n:Nat)(h:VB q E w v):Sb Eq (ae (n+1) w) (gv (n+1) v q.τ):=by
 have y:=h.wF
 induction w using W.casesOn<;>first|exact oq _ y|exact Sb.no|skip
 rename W=>c
 obtain⟨a,rfl,_,c0⟩:=y;have z:=c0.wF
 induction c using W.casesOn<;>try exact Sb.no
 refine aa λnq=>?_;obtain⟨ys,e,z⟩:=z;refine nq ?_;show Sb Eq _ ((tc q.τ a).bind _)
 exact U (ie e) (VD (oq n) z)
theorem sB{c:Type}(h:VB q E w v)(k:VB q E u x){f:Int->Int->c}:Sb Eq (mE f w u) (Ev f v x):=
 Sb.wJ λa d=>Sb.lookm λb e=>by refine U (h.wZ d) (U (k.wZ e) ?_);exact Sb.ok rfl
theorem yM(h:VB q E w v)(k:VB q E u x):Sb Eq (L4 w u) (K4 v x q.τ):=
 Sb.wT (Yx 5 h) λy=>Sb.mapE (Yx 5 k)
theorem Sb.nots{x y:Option Bool}(h:Sb Eq x y):Sb Eq (x.map λx=> !x) (y.map λx=> !x):=Sb.mapE h
theorem VN{k:Int}:∀d:List (Int×V),(Pm d k).isSome=decide (k∈d.map λx=>x.1):=by
 intro d
 induction d with
 |nil=>
  exact rfl
 |cons e d f=>
  obtain⟨a,b⟩:=e;show(if a=k then J b else Pm d k).isSome=_
  by_cases c:a=k
  ·exact U (Fd c) ((decide_eq_true (c▸sa)).symm)
  ·exact U (ge c) (U f (decide_eq_decide.mpr ⟨oa _,λz=>(ab.mp z).resolve_left (cq c)⟩))
theorem KG(h:Qd q E X ys)(e:Xf):Sb Eq (qcw e X) (qT e ys q.τ):=Sb.mapE (ay (oq 5) h)
theorem kN(r:Rl E q)(h:VB q E w v)(k:VB q E u x):Sb Eq (qcx w u q.σ) (qaH v x q.τ):=Sb.wJ λc e=>by
 have C:=k.cont r e
 induction c using W.casesOn<;>try exact Sb.no
 ·refine aa λd=>?_
  obtain⟨a,ys,rfl,b,z⟩:=C.l;refine d ?_;clear d;show Sb Eq _ ((q.τ[a]?).bind _)
  refine U b ?_
  induction w using W.casesOn<;>try exact Sb.no
  ·exact U (h.wZ rfl) (KG z _)
  ·obtain⟨f,rfl,z2⟩:=h.tup_of rfl
   exact Sb.wT (oq 5 (.t z2)) λy=>KG z _
 ·obtain⟨a,d,rfl,b,rfl,z⟩:=C.dic
  show Sb Eq _ ((q.τ[a]?).bind _)
  refine U b ?_;exact Sb.lookm λi f=>by
   exact U (h.wZ f) (Sb.ok (VN d).symm)
theorem KB(h:VB q E w v):Sb Eq (Cz w) (dH v):=by
 have y:=h.wF
 induction w using W.casesOn<;>first|exact Sb.no|skip
 ·rw[y.wF];exact Sb.ok rfl
 ·rw[y.wF];exact Sb.ok rfl
 ·rw[y.wF];exact Sb.ok rfl
 ·obtain⟨_,rfl,_⟩:=y.wF;exact Sb.ok rfl
 ·obtain⟨_,_,rfl,_⟩:=y.wF;exact Sb.ok rfl
 ·obtain⟨_,rfl⟩:=y.wF;exact Sb.ok rfl
theorem iz(r:Rl E q)(h:VB q E w v)(k:VB q E u x){op:ur}:Sb Eq (cM op w u q.σ) (kq op v x q.τ):=by
 induction op<;>first|exact sB h k|exact yM h k|exact(yM h k).nots|exact kN r h k|skip
 ·induction u using W.casesOn<;>try exact Sb.no
  rw[k.wF.wF];exact KB h
 ·induction u using W.casesOn<;>try exact Sb.no
  ·rw[k.wF.wF];exact(KB h).nots
  ·rw[k.wF.wF];exact Sb.lookm λb eb=>by refine U (h.bool_of eb) ?_;exact Sb.ok rfl
 ·induction w using W.casesOn<;>try exact Sb.no
  exact U (h.wZ rfl) ((kN r (h.wZ rfl▸h) k).nots)
end
section
variable {q q':Wd} {E:Nat->Prop} {w u:W} {v x:V} {S:Bh} {n:Bb} {T:List W} {X:List V} {xs:List W} {ys:List V}
theorem Gn(h:Qd q E xs ys):Sb Eq (Bl xs) (gi ys):=
 h.ind (P:=λxs ys=>Sb Eq (Bl xs) (gi ys)) (Sb.ok rfl) λu u u u h u t=>Sb.wT (λi e=>⟨i,by refine U (VB.wZ (.val h) e) ?_;rfl,rfl⟩) λu=>Sb.mapE t
theorem pk(h:VB q E w v):Sb Eq (Ua w) (qh v):=λi e=>⟨i,by refine U (h.wZ e) ?_;rfl,rfl⟩
theorem qaS(h:VB q E w v):Sb Eq (Zq w) (gK v):=λi e=>⟨i,by refine U (h.str_of e) ?_;rfl,rfl⟩
theorem KL(h:VB q E w v):Sb Eq (Ii w) (ip v):=λi e=>⟨i,by refine U (h.bool_of e) ?_;rfl,rfl⟩
theorem Do(h:VB q E w v):Sb (Qd q E) (ng w) (ux v):=λi e=>by
 obtain⟨ys,rfl,z⟩:=h.tup_of e;exact⟨ys,rfl,z⟩
theorem tJ(r:Rl E q)(h:VB q E w v):Sb (Qd q E) (Qe w q.σ) ((mw v).bind (tc q.τ)):=λxs e=>by
 obtain⟨a,ys,rfl,b,z⟩:=Mi r h e;exact⟨ys,ie b,z⟩
theorem Qd.mapint{b:Type}{f:b->Int}:∀l:List b,Qd q E (l.map λi=>.int (f i)) (l.map λi=>.int (f i)):=by
 intro l
 induction l with
 |nil=>
  exact .nil
 |cons a l c=>
  exact .cons (.int _) (c)
theorem xu{a b:Int}:Sb (Qd q E) (BH a b) (qC a b):=Sb.okm rfl λu=>Qd.mapint (f:=λi:Nat=>a+(i:Int)) _
theorem VU(r:Rl E q)(h:VB q E w v):Sb (Qd q E) (au w q.σ) (RP v q.τ):=by
 have L:Sb (Qd q E) (Qe w q.σ) (RP v q.τ):=λxs e=>by
  obtain⟨a,ys,rfl,b,z⟩:=Mi r h e;exact⟨ys,ie b,z⟩
 induction w using W.casesOn<;>try exact L
 ·rw[h.wF.wF];exact xu
 ·obtain⟨ys,rfl,z⟩:=h.wF.wF
  exact Sb.ok z
theorem J2(r:Rl E q)(h:VB q E w v):Sb (Qd q E) (qet w q.σ) (G2 v q.τ):=by
 have L:Sb (Qd q E) (Qe w q.σ) (G2 v q.τ):=λxs e=>by
  obtain⟨a,ys,rfl,b,z⟩:=Mi r h e;exact⟨ys,ie b,z⟩
 induction w using W.casesOn<;>try exact L
 obtain⟨ys,rfl,z⟩:=h.wF.wF;exact Sb.ok z
theorem FT(r:Rl E q)(h:VB q E w v):Sb Eq (AZ w q.σ) (zZ q.τ v):=by
 have L:Sb Eq ((Qe w q.σ).map λxs=>(xs.length:Int)) (zZ q.τ v):=Sb.lookm λxs e=>by
  obtain⟨a,ys,rfl,b,z⟩:=Mi r h e;show Sb Eq _ ((tc q.τ a).map _)
  exact U (ie b) (U z.len (Sb.ok rfl))
 induction w using W.casesOn<;>try exact L
 ·rw[h.wF.wF];exact Sb.ok rfl
 ·obtain⟨ys,rfl,z⟩:=h.wF.wF
  exact Sb.ok (Gc Nat.cast z.len)
theorem vk(h:ED q E T X):Sb (VB q E) (one T) (one X):=by
 cases h with
 |nil=>exact Sb.no|cons a t=>cases t with|nil=>exact Sb.ok a|cons=>exact Sb.no
theorem lI(h:ED q E T X):Sb (λp a=>VB q E p.1 a.1/\VB q E p.2 a.2) (two T) (two X):=by
 cases h with
 |nil=>exact Sb.no|cons a t=>cases t with|nil=>exact Sb.no|cons b t=>cases t with|nil=>exact Sb.ok ⟨a,b⟩|cons=>exact Sb.no
theorem QC{is:List Int}:Sb (Qd q E) (bQ is) (aQ is):=Sb.okm rfl λu=>.ints
theorem eV(r:Rl E q)(h:VB q E w v):Sb (Qd q E) ((mj w q.σ).bind PC) (pX q.τ v):=Sb.wJ λc e=>by
 have C:=h.cont r e
 induction c using W.casesOn<;>try exact .no
 ·rw[(C.vs λu z=>z.wF).wF];exact Sb.ok .ints
 ·obtain⟨a,ys,rfl,b,z⟩:=C.l
  show Sb _ _ ((q.τ[a]?).bind _)
  exact U b (Sb.wT (Gn z) λu=>QC)
 ·obtain⟨a,d,rfl,b,rfl,z⟩:=C.dic
  show Sb _ _ ((q.τ[a]?).bind _)
  exact U b QC
theorem Bk(r:Rl E q){o:Option W}{a:Option V}(h:Sb (VS q E) o a):SX E q (λx=>VS x E) (wx q.σ o) (eD q.τ a):=Sb.map2 h λu u z=>.mk q.L .refl r z
theorem VW(r:Rl E q){o:Option (List W)}{a:Option (List V)}(h:Sb (Qd q E) o a):SX E q (λx=>VS x E) (o.bind λxs=>To xs q.σ) (a.bind λxs=>cj xs q.τ):=Sb.wY h λu u z=>Ll r z
theorem MG{f:Int->Int->Int}(p:W×W)(b:V×V)(h:VB q E p.1 b.1/\VB q E p.2 b.2):Sb (VS q E) (qaL f p) (qaK f b):=Sb.map2 (sB h.1 h.2) λa u e=>e▸.int a
theorem uP(h:ED q E T X):Sb (VS q E) (B1 T) (v9 X):=by
 cases h with
 |nil=>exact Sb.no|cons a t=>cases t with|nil=>exact Sb.wT (pk a) λi=>Sb.okm rfl λu=>.rng 0 i|cons b t=>cases t with|nil=>exact Sb.wT (pk a) λi=>Sb.wT (pk b) λj=>Sb.okm rfl λu=>.rng i j|cons=>exact Sb.no
theorem lY(r:Rl E q)(h:ED q E T X){b:Bi}:SX E q (λx=>VS x E) (H4 b T q.σ) (qR b X q.τ):=by
 induction b with
 |len=>exact Bk r (Sb.map2 (Sb.wY (vk h) λu u z=>FT r z) λa u e=>e▸.int a)|max=>exact Bk r (Sb.wY (lI h) MG)|min=>exact Bk r (Sb.wY (lI h) MG)|sum=>exact Bk r (Sb.map2 (Sb.wY (Sb.wJ λw e=>by
  obtain⟨v,c,z⟩:=vk h w e;refine U c ?_;exact tJ r z) λu u z=>Gn z) λa u e=>e▸.int _)
 |sorted=>exact VW r (Sb.wJ λw e=>by
  refine Vg e λa c d=>?_;obtain⟨v,f,z⟩:=vk h a c;refine U f ?_;exactλy g=>eV r z y (by refine U d ?_;exact g))
 |range=>exact Bk r (uP h)|tuple=>exact Sb.wY (Sb.wY (vk h) λu u z=>VU r z) λu u z=>As r z|list=>exact VW r (Sb.wY (vk h) λu u z=>Do z)|set=>exact Bk r (Sb.wT (Sb.wY (Sb.wY (vk h) λu u z=>J2 r z) λu u z=>Gn z) λis=>Sb.okm rfl λu=>.iset is)
theorem Qd.vbs(h:Qd q E xs ys):ED q E xs ys:=h.ind (P:=ED q E) .nil λu u u u a u t=>.cons (.val a) t
theorem HZ(r:Rl E q)(h:VB q E w v)(k:Qd q E T X){c:Nat}(b:v=.ref c):SX E q (λx=>VS x E) (qaM w n T q.σ) (MT c n X q.τ):=Sb.wJ λm d=>by
 unfold MT;refine U d ?_;refine Sb.wJ λxs e=>?_;obtain⟨a,ys,rfl,f,z⟩:=Mi r h e;cases b;refine U (ie f) ?_
 induction m<;>first|exact Sb.no|exact Bk r (Sb.wT (Sb.wY (vk k.vbs) λu u z=>pk z) λu=>Sb.wT (Gn z) λu=>Sb.map2 Sb.rf λa u e=>e▸.int a)|exact Bk r (Sb.wT (Sb.wY (vk k.vbs) λu u z=>pk z) λu=>Sb.map2 (Gn z) λa u e=>e▸.int _)
def qak(q:Wd)(E:Nat->Prop)(xs:List W)(a:It):Prop:=∀q',Le q q'->∃ys,Qd q' E xs ys/\∀k,ym a k q'.τ=J ys[k]?
theorem qak.st(h:Qd q E xs ys):qak q E xs (.st ys):=λu x=>⟨ys,h.mono x,λu=>rfl⟩
theorem Pr{u:List W}(h:zl xs=J u):u=xs/\xs.length<4900:=by
 refine Ds h λy e z=>?_;subst z;exact⟨rfl,ud.mp (Lq e)⟩
theorem wB(h:VB q E w v):Sb (λxs it=>qak q E xs it/\xs.length<4900) (uy w) (bj v q.τ):=by
 have L:Sb (qak q E) (yN w) (bj v q.τ):=by
  induction w using W.casesOn<;>try exact Sb.no
  ·rw[h.wF.wF];exact Sb.mapR xu λu u z=>.st z
  ·obtain⟨ys,rfl,z⟩:=h.wF.wF
   exact Sb.ok (.st z)
  ·skip
   obtain⟨a,ys,rfl,e1,_⟩:=h.wF.wF;show Sb _ _ ((tc q.τ a).map _)
   refine U (ie e1) ?_;exact Sb.ok λq' x=>by
    obtain⟨b,us,e2,e3,z⟩:=((h.wF:VS q E (.l xs) (.ref a)).mono x).wF;cases e2;exact⟨us,z,λk=>by show(tc q'.τ a).map _=_;refine U (ie e3) ?_;rfl⟩
 exactλxs e=>by
  refine Vg e λys e1 e2=>?_;obtain⟨it,e3,z⟩:=L ys e1;obtain⟨rfl,hl⟩:=Pr e2;exact⟨it,e3,z,hl⟩
theorem Ay{f:W->wb->iR}{g:V->St->Option (List V×St)}{d:It}(k:∀q' w v,Le q q'->Rl E q'->VS q' E w v->SX E q' (λx=>Qd x E) (f w q'.σ) (g v q'.τ)):
 ∀(xs c:List W)(n:Nat)(q':Wd),Le q q'->Rl E q'->qak q E (c++xs) d->xs.length<n->SX E q' (λx=>Qd x E) (Yr f xs q'.σ) (So n d c.length g q'.τ):=by
 intro xs
 induction xs with
 |nil=>
  intro c n q' x r I h
  induction n using Sa with
  |zero=>exact zc h (Xe _)|succ n=>
   obtain⟨ys,z,e⟩:=I q' x;show SX E q' _ _ ((ym d c.length q'.τ).bind _)
   refine U (e _) (U (Qc (by rw[<-z.len,Ub];exact Gb _)) ?_);exact Sb.ok (.mk q'.L .refl r Qd.nil)
 |cons w xs l=>
  intro c n q' x r I h
  induction n using Sa with
  |zero=>exact zc h (Xe _)|succ n=>
   obtain⟨ys,z,e⟩:=I q' x;obtain⟨v,m,p⟩:=z.get (i:=c.length) (x:=w) (by refine U (Ma (Gb _)) (U (jh _) ?_);rfl);show SX E q' _ _ ((ym d c.length q'.τ).bind _)
   refine U (e _) (U m (SX.bind (k2:=λo=>o.bind _) (k q' w v x r p) λj a b o s z1=>SX.map (k2:=Op _) (V:=λq=>Qd q E) (y:=So n d (c.length+1) g j.τ) ?_ λt C D A B z2=>Sb.ok (.mk t.L .refl B ((z1.mono A).app z2))));have:=l (c++[w]) n j (x.trans o) s (by refine U (Cc _ _ _) ?_;exact I) (Fg h);rw[Ha]at this;exact this
end
section
variable {F:Type} {i A:Nat} {p:lr} {c:xD} {D:St} {I:aW}
theorem Cv{l:List F}{a x:F}(h:(l++[a])[i]?=J x):l[i]?=J x\/(i=l.length/\a=x):=by
 rcases Zj i l.length with c|c
 ·rw[Xa c]at h;exact .inl h
 ·rw[Ma c]at h
  have b:i=l.length:=by have:=oh h;rw[Ei]at this;lia
  rw[b,jh]at h;exact .inr ⟨b,ba h⟩
theorem Nh{l m:List F}{x:F}(h:l[i]?=J x):(l++m)[i]?=J x:=by refine U (Xa (oh h)) ?_;exact h
noncomputable def fq(q:Wd)(da dd:Nat)(a:lr):Nat:=match a with|.a i=>if i=q.σ.length then da else q.L (.a i)|.d i=>if i=q.σ.length then dd else q.L (.d i)|.f i n=>q.L (.f i n)
variable {q B:Wd} {E:Nat->Prop} {w u:W} {v x:V} {R:Bh} {z N:Nat->Option (List Int)} {n:Bb} {S:List W} {T:List V} {L:List W} {K:List V} {o:OF} {da dd:Nat} {os:List O}
theorem dm(q:Wd)(da dd:Nat):fq q da dd (.a q.σ.length)=da:=Fd rfl
theorem Cr(q:Wd)(da dd:Nat):fq q da dd (.d q.σ.length)=dd:=Fd rfl
theorem dr(u:Tg q.σ p):Tg (q.σ++[o]) p/\fq q da dd p=q.L p:=by
 induction p with
 |a i=>exact⟨rb u (by refine U Ha ?_;exact Nc _ _),ge (Wb u)⟩|d i=>obtain⟨b,c,e,g⟩:=u;exact⟨⟨b,c,Nh e,g⟩,ge (Wb (oh e))⟩|f i n=>
  refine aa λh=>?_;obtain⟨c,e⟩:=u;exact Vg e λb j g=>(h (⟨⟨c,Fa.mpr ⟨b,Nh j,g⟩⟩,rfl⟩))
theorem mA(h:∀n w,ee o.fs n=J w->nb w=Z)(u:Tg (q.σ++[o]) p):Tg q.σ p\/p=.a q.σ.length\/(p=.d q.σ.length/\o.cls≠Y):=by
 induction p with
 |a i=>
  have b:i<(q.σ++[o]).length:=u;rw[Ha]at b;rcases Nat.lt_or_eq_of_le (Sf b)with c|c
  ·exact .inl c
  ·exact .inr (.inl (Gc _ c))
 |d i=>
  refine aa λb=>?_;obtain⟨j,c,e,g⟩:=u;refine b ?_;clear b;rcases Cv e with e|⟨rfl,rfl⟩
  ·exact .inl ⟨j,c,e,g⟩
  ·exact .inr (.inr ⟨rfl,by refine U g ?_;exact BD _⟩)
 |f i n=>
  refine aa λb=>?_;obtain⟨c,e⟩:=u;refine Vg e λj k g=>(b ?_);clear b;refine aa λb=>?_;rcases Cv k with k|⟨_,rfl⟩
  ·refine b ?_
   clear b;exact .inl ⟨c,Fa.mpr ⟨j,k,g⟩⟩
  ·refine b ?_
   clear b;exact zc (h n _ g) ia
theorem OS.inst'{c a:Nat}{d:List (Bb×W)}{es:List (Bb×V)}(e:q.L (.a i)=A)(f:q.L (.d i)=a)(g:q.τ[A]?=J (.inst c a))(h:q.τ[a]?=J (.h es))(b:FS q E i d es):OS q E i ⟨J c,d⟩:=by
 subst e f;exact .inst g h b
theorem OS.sd'{b:List (Bb×W)}{d:List (Bb×V)}(e:q.L (.a i)=A)(f:q.τ[A]?=J (.h d))(a:FS q E i b d):OS q E i ⟨Y,b⟩:=by
 subst e;exact .sd f a
theorem VS.ref'(a:q.L (.a i)=A)(h:i<q.σ.length):VS q E (.ref i) (.ref A):=a▸.ref h
theorem Rl.add1(r:Rl E q)(f:∀n w,ee o.fs n=J w->nb w=Z)(m:q.τ.length<=da/\da<(q.τ++os).length)(j:o.cls≠Y->(q.τ.length<=dd/\dd<(q.τ++os).length)/\da≠dd):
 Le q ⟨fq q da dd,q.σ++[o],q.τ++os⟩/\(OS ⟨fq q da dd,q.σ++[o],q.τ++os⟩ E q.σ.length o->Rl E ⟨fq q da dd,q.σ++[o],q.τ++os⟩):=by
 have s:q.τ.length<=(q.τ++os).length:=by refine U Ha ?_;exact Nc _ _
 have g:∀p,Tg (q.σ++[o]) p->(Tg q.σ p/\fq q da dd p=q.L p)\/(q.τ.length<=fq q da dd p/\fq q da dd p<(q.τ++os).length):=λp u=>by
  rcases mA f u with u|rfl|⟨rfl,c⟩
  ·exact .inl ⟨u,(dr (o:=o) u).2⟩
  ·exact .inr (by refine U (dm _ _ _) ?_;exact m)
  ·exact .inr (by refine U (Cr _ _ _) ?_;exact(j c).1)
 have X:Le q ⟨fq q da dd,q.σ++[o],q.τ++os⟩:=⟨s,λp u=>dr u,λp u=>(g p u).imp JX JX,λa t e y=>Nh e⟩;refine⟨X,λO=>⟨λp k u C e=>?_,λp u=>(g p u).elim (λb=>ib (Gd b.2) (rb (r.lt p b.1) s)) And.right,λp u b=>(g p u).elim (λc=>r.sep p c.1 (c.2▸b)) λc=>fc _ (rb (r.elt _ b) c.1),λa b=>rb (r.elt a b) s,λi t e=>?_⟩⟩
 ·have d:∀{p k},Tg q.σ p->q.τ.length<=fq q da dd k->fq q da dd p≠fq q da dd k:=λ{p k} u h e=>
   fc _ (rb (r.lt p u) (Za h (Gd (e.symm.trans (dr (o:=o) u).2))))
  rcases mA f u with v|rfl|⟨rfl,c⟩<;>rcases mA f C with l|rfl|⟨rfl,I⟩
  ·exact r.inj p k v l (((dr (o:=o) v).2.symm.trans e).trans (dr (o:=o) l).2)
  ·exact zc e (d v (by refine U (dm _ _ _) ?_;exact m.1))
  ·exact zc e (d v (by refine U (Cr _ _ _) ?_;exact(j I).1.1))
  ·exact zc e.symm (d l (by refine U (dm _ _ _) ?_;exact m.1))
  ·rfl
  ·exact zc ((dm q da dd).symm.trans (e.trans (Cr q da dd))) (j I).2
  ·exact zc e.symm (d l (by refine U (Cr _ _ _) ?_;exact(j c).1.1))
  ·exact zc ((dm q da dd).symm.trans (e.symm.trans (Cr q da dd))) (j c).2
  ·rfl
 ·rcases Cv e with e|⟨rfl,rfl⟩
  ·exact(r.obj i t e).mono X e λp y y o e=>Nh e
  ·exact O
def wn(c:Yp)(I:Nat->List V->St->Option (V×St)):Prop:=∀E q a S T,Rl E q->Qd q E S T->SX E q (λx=>VS x E) (c a S q.σ) (I a T q.τ)
variable {G:Yp} {Q:Nat->List V->St->Option (V×St)}
theorem gE{b d:List W}(h:Tr b=J d):d=b/\zA b=Z:=by
 refine Ds h λy e a=>?_;subst a;exact⟨rfl,Lq e⟩
theorem az{os:List O}:(D++os).length=D.length+os.length:=Ha
theorem fE{os:List O}{k:Nat}:(D++os)[D.length+k]?=os[k]?:=by exact U (Ma (Nc _ _)) (U (Nat.add_sub_cancel_left _ _) rfl)
theorem TZ(r:Rl E q)(C:wn G Q)(k:Qd q E S T){a g:Nat}:SX E q (λx=>VS x E) ((G g (.ref q.σ.length::S) (q.σ++[⟨J a,[]⟩])).bind (VG q.σ.length)) ((Q g (.ref (q.τ.length+1)::T) (q.τ++[.h [],.inst a q.τ.length])).bind (yE q.τ)):=by
 have f:(q.τ++[O.h [],.inst a q.τ.length])[q.τ.length]?=J (.h []):=fE (k:=0);have A:=r.add1 (o:=⟨J a,[]⟩) (da:=q.τ.length+1) (dd:=q.τ.length) (os:=[.h [],.inst a q.τ.length]) (λu u e=>ja e) ⟨te _,by refine U az ?_;exact Vc _⟩ λu=>⟨⟨Gb _,by refine U az ?_;exact oe (Vc _)⟩,Hu _⟩;have d:VS ⟨fq q (q.τ.length+1) q.τ.length,q.σ++[⟨J a,[]⟩],q.τ++[.h [],.inst a q.τ.length]⟩ E (.ref q.σ.length) (.ref (q.τ.length+1)):=.ref' (dm q _ q.τ.length) (by refine U Ha ?_;exact Vc _);refine SX.le A.1 (SX.bind (k2:=λo=>o.bind (yE q.τ)) (C E _ g _ _ (A.2 (.inst' (es:=[]) (dm q _ q.τ.length) (Cr q (q.τ.length+1) _) (fE:(q.τ++[O.h [],.inst a q.τ.length])[q.τ.length+1]?=J (.inst a q.τ.length)) f ⟨rfl,λu u e=>ja e⟩)) (.cons d (k.mono A.1))) λe b h j l z2=>?_)
 delta VG yE
 induction b using W.casesOn<;>try exact Sb.no
 rw[(z2.wF:h=.none)];exact Sb.ok (.mk e.L .refl l (d.mono j))
theorem sS(r:Rl E q)(k:ED q E S T){c:ua}:SX E q (λx=>VS x E) ((HD c).bind λb=>H4 b S q.σ) ((HD c).bind λb=>qR b T q.τ):=Sb.wT Sb.rf λb=>lY r k
theorem RL(r:Rl E q)(C:wn G Q)(h:VB q E w v)(k:ED q E S T):SX E q (λx=>VS x E) (aG R G S q.σ w) (ZF (R.w N) Q v T q.τ):=by
 induction w using W.casesOn<;>try exact Sb.no
 rename ua=>c
 rw[((h.wF).wF:v=.k c)]
 induction c<;>first|exact sS r k|exact Sb.no|skip
 refine Sb.wJ λus e=>?_;obtain⟨rfl,hn⟩:=gE e;have k':=k.nbs hn;show SX E q _ _ (match R.init a with|some g=>_|none=>_)
 induction R.init a with
 |none=>exact C E q a _ _ r k'|some g=>exact TZ r C k'
inductive NX(q:Wd)(E:Nat->Prop):xD->aW->Prop
 |fn {f i:Nat}:i<q.σ.length->NX q E (.fn f i) (.fn f (.ref (q.L (.a i))))|lm {w:W} {a:Nat}:VB q E w (.ref a)->NX q E (.lm w) (.lm a)
theorem NX.mono(r:Rl E q)(x:Le q B)(h:NX q E c I):NX B E c I:=
 h.rec (λh=>(x.a h).2▸.fn (x.a h).1) λh=>.lm (h.mono r x)
theorem xS(r:Rl E q)(d:i<q.σ.length):Sb (λp a=>p.1=a.1/\∃b,Uq q.τ a.2=J b/\FS q E i p.2 b) (Mx q.σ i) (ri q.τ (q.L (.a i))):=by
 refine aa λb=>?_;obtain⟨o,e,O⟩:=r.get d;refine b ?_;unfold Mx;refine U e ?_;cases O with
 |sd=>exact Sb.no|inst f g a=>refine U (qo f) ?_;exact Sb.ok ⟨rfl,_,Vq g,a⟩
theorem BJ{b:List (Bb×W)}:{a:List (Bb×V)}->b.map (λx=>x.1)=a.map (λx=>x.1)->∀n,ee b n=Y->Qf a n=Y:=by
 induction b with
 |nil=>
  intro a h n e
  induction a using ma with
  |nil=>rfl|cons u y=>exact zc h.symm (Ac _ _)
 |cons p b f=>
  intro a h n e
  induction a using ma with
  |nil=>exact zc h (Ac _ _)|cons d a=>
   replace e:(if p.1=n then J p.2 else ee b n)=Y:=e;show(if d.1=n then J d.2 else Qf a n)=Y
   refine Bd (Yd h:p.1=d.1) ?_;by_cases c:p.1=n
   ·rw[Fd c]at e;exact ja e.symm
   ·rw[ge c]at e|-;exact f (xd h) n e
theorem uU(r:Rl E q)(h:VB q E w v):Sb (NX q E) (tU R n w q.σ) (Zt (R.w N) v n q.τ):=by
 have b:Sb (NX q E) ((Qe w q.σ).map λu=>.lm w) (Zt (R.w N) v n q.τ):=Sb.lookm λL e=>by
  obtain⟨a,K,rfl,f,d⟩:=Mi r h e;show Sb _ _ ((q.τ[a]?).bind _)
  exact U f (Sb.ok (.lm h))
 induction w using W.casesOn<;>try exact b
 refine aa λk=>?_;obtain⟨g,rfl⟩:=h.wF.wF;obtain⟨o,l,O⟩:=r.get g;refine k ?_;show Sb _ ((Mx q.σ i).bind _) ((q.τ[q.L (.a i)]?).bind _)
 unfold Mx;refine U l ?_;cases O with
 |sd=>exact Sb.no| @inst c j a f m d=>
  refine U f ?_;show Sb _ ((SW R c n (ee j n)).map _) ((Uq q.τ _).bind λa=>BE (R.w N) c n _ (Qf a n))
  refine U (Vq m) ?_
  induction e:ee j n with
  |some=>exact Sb.no|none=>
   show Sb _ _ (BE (R.w N) c n _ (Qf a n))
   exact U (BJ d.keys n e) (Sb.map2 Sb.rf λu u e=>e▸.fn g)
theorem OY(r:Rl E q)(C:wn G Q)(h:NX q E c I)(k:Qd q E S T):SX E q (λx=>VS x E) (qbE G c n S q.σ) (fy Q I n T q.τ):=
 h.rec (λa=>C E q _ _ _ r (.cons (.ref a) k)) λh=>HZ r h k rfl
theorem oV(r:Rl E q){f:Nat}(b:i<q.σ.length):Sb (λj a=>j<q.σ.length/\a=q.L (.a j)) (B2 R f q.σ i) (X9 (R.w N) f q.τ (q.L (.a i))):=by
 refine Sb.wY (xS r b) λp d a=>?_;obtain⟨e,h,g,_⟩:=a;refine U g (U e ?_);by_cases c:R.sup d.1=J f
 ·exact U (Fd c) (U (Fd c) (Sb.ok ⟨b,rfl⟩))
 ·exact U (ge c) Sb.no
theorem ED.two(h:Qd q E L K):Sb (λp a=>VS q E p.1 a.1/\VS q E p.2 a.2) (two L) (two K):=
 h.ind (P:=λL K=>Sb _ (Mine.Internal.two L) (Mine.Internal.two K)) Sb.no λa u b u x k u=>k.ind (P:=λL K=>Sb _ (Mine.Internal.two (a::L)) (Mine.Internal.two (b::K))) Sb.no λd u e u y k u=>k.ind (P:=λL K=>Sb _ (Mine.Internal.two (a::d::L)) (Mine.Internal.two (b::e::K))) (Sb.ok ⟨x,y⟩) λu u u u u u u=>Sb.no
theorem sM(r:Rl E q)(h:Qd q E L K)(k:Qd q E S T):SX E q (λx=>VS x E) (rM L S q.σ) (lG K T q.τ):=by
 refine Sb.wJ λp ep=>Sb.wJ λp2 ep2=>Sb.wJ λa ea=>Sb.wJ λb eb=>?_;refine aa λnq=>?_;obtain⟨p0,e0,z1,z2⟩:=ED.two h p ep;obtain⟨p3,e3,w1,w2⟩:=ED.two k p2 ep2;refine nq ?_;clear nq;refine U (kI e0) ?_;show SX E q _ _ ((two T).bind λp=>kG p0.1 p0.2 p.1 p.2 q.τ)
 refine U e3 (U (VB.str_of (.val z1) ea) (U (VB.str_of (.val z2) eb) ?_));show SX E q _ _ (if a=b then Y else _)
 by_cases cc:a=b
 ·exact U (Fd cc) Sb.no
 ·refine U (ge cc) (U (ge cc) ?_)
  have A:=r.add1 (o:=⟨Y,[(a,p2.1),(b,p2.2)]⟩) (da:=q.τ.length) (dd:=0) (os:=[.h [(a,p3.1),(b,p3.2)]]) (λn w e=>by
   replace e:(if a=n then J p2.1 else if b=n then J p2.2 else Y)=J w:=e
   split at e
   ·exact ba e▸w1.nb
   ·split at e
    ·exact ba e▸w2.nb
    ·exact ja e) ⟨Gb _,by refine U az ?_;exact Vc _⟩ λh=>zc rfl h
  have r1:=A.2 (.sd' (dm q _ 0) (fE (k:=0)) ⟨rfl,λn w e=>by
   replace e:(if a=n then J p2.1 else if b=n then J p2.2 else Y)=J w:=e
   split at e
   ·rename_i hc;exact⟨_,Fd hc,ba e▸.val (w1.mono A.1)⟩
   ·rename_i hc;split at e
    ·rename_i hc2;exact⟨_,(ge hc).trans (Fd hc2),ba e▸.val (w2.mono A.1)⟩
    ·exact ja e⟩)
  exact Sb.ok (.mk _ A.1 r1 (VS.ref' (dm q _ 0) (by refine U Ha ?_;exact Vc _)))
end
structure Sw(E:Nat->Prop)(q:Wd)(S:jc)(T:Me):Prop where
 len:S.length=T.length
 no:∀i:Nat,S[i]?=J Y->T[i]?=J Y
 at_:∀(i:Nat) w,Oe S i=J w->∃v,Vk T i=J v/\VB q E w v
section
variable {q y:Wd} {E:Nat->Prop} {w u:W} {v x:V} {Q:Bh} {F L:Nat->Option (List Int)} {n:Bb} {O R:List W} {D K:List V} {S:jc} {T:Me} {I:Yp} {N:Nat->List V->St->Option (V×St)}
theorem Sw.mono(m:Sw E q S T)(r:Rl E q)(x:Le q y):Sw E y S T:=⟨m.len,m.no,λi w e=>(m.at_ i w e).imp λu z=>⟨z.1,z.2.mono r x⟩⟩
theorem xq{b:Type}{l:List b}{i j:Nat}{a:b}:(l.set i a)[j]?=if i=j then(if i<l.length then J a else Y)else l[j]?:=by exact U Zk rfl
theorem Sw.set(m:Sw E q S T)(i:Nat)(h:VB q E w v):Sw E q (S.set i (J w)) (T.set i (J v)):=by
 refine⟨by refine U yb (U yb ?_);exact m.len,λj e=>?_,λj u e=>?_⟩
 ·rw[xq]at e|-
  by_cases c:i=j
  ·rw[Fd c]at e;split at e
   ·exact nomatch e
   ·exact ja e
  ·rw[ge c]at e|-;exact m.no j e
 ·unfold Oe at e;unfold Vk
  rw[xq]at e|-;by_cases c:i=j
  ·rw[Fd c]at e|-;refine Bd m.len ?_;split at e
   ·rename_i hl;refine U (Fd hl) ?_;exact⟨v,rfl,ba (e:J w=J u)▸h⟩
   ·exact ja e
  ·rw[ge c]at e|-;exact m.at_ j u e
theorem Sw.more(m:Sw E q S T)(k:Nat):Sw E q (S++Ia k Y) (T++Ia k Y):=by
 refine⟨by exact U Ha (U Ha (U m.len (U Og (U Og rfl)))),λj e=>?_,λj u e=>?_⟩
 ·rcases Zj j S.length with c|c
  ·rw[Xa c]at e
   exact Nh (m.no j e)
  ·rw[Ma c,Ue]at e
   refine U (Ma (m.len▸c)) (U Ue (Bd m.len ?_))
   split at e
   ·rename_i h;exact U (Fd h) rfl
   ·exact ja e
 ·refine aa λnq=>(Vg e λo e1 e2=>(nq ?_))
  rcases Zj j S.length with c|c
  ·rw[Xa c]at e1
   refine aa λnq=>?_;obtain⟨v,e3,z⟩:=m.at_ j u (Fa.mpr ⟨o,e1,e2⟩);exact Vg e3 λo' e4 e5=>(nq (⟨v,Fa.mpr ⟨o',Nh e4,e5⟩,z⟩))
  ·rw[Ma c]at e1
   rw[(λj o e=>wA (Na e):∀{α:Type}(j:Nat)(o:Option α),(Ia k (Y:Option α))[j]?=J o->o=Y) _ _ e1]at e2;exact ja e2
theorem oB(m:Sw E q S T){i:Nat}(h:wq S i=Z):free T i=Z:=by
 have z:S[i]?=J Y->free T i=Z:=λe=>by unfold free;exact U (m.no i e) rfl
 unfold wq at h;revert z h
 induction S[i]? with
 |none=>exactλh=>zc h ia|some o=>induction o with|none=>exactλh z=>z rfl|some u=>exactλh=>zc h ia
theorem qel{d:Type}{b:Bool}{x c:Option d}(h:b=Z):(if b then x else c)=x:=Fd h
theorem FC{is:List Nat}{R:List W}{K:List V}{S:jc}{T:Me}(h:Qd q E R K)(m:Sw E q S T):Sb (Sw E q) (Ul is R S) (zk is K T):=by
 refine h.ind (P:=λR K=>∀is S T,Sw E q S T->Sb (Sw E q) (Ul is R S) (zk is K T)) (λis S T m=>?_) (λa R b K d g f is S T m=>?_) is S T m
 ·induction is using ma with|nil=>exact Sb.ok m|cons i is=>exact Sb.no
 ·induction is using ma with
  |nil=>exact Sb.no|cons i is=>
   intro z e;replace e:(if wq S i then Ul is R (S.set i (J a))else Y)=J z:=e;show∃_,(if free T i then _ else _)=_/\_
   by_cases c:wq S i=Z
   ·rw[Fd c]at e
    exact U (qel (oB m c)) (f is _ _ (m.set i (.val d)) z e)
   ·rw[ge c]at e;exact ja e
theorem NI(m:Sw E q S T)(h:VS q E w v):{t:CT}->Sb (Sw E q) (Uu t w S) (Hj t v T):=by
 intro t
 induction t using CT.casesOn with
 |x i=>
  intro z e;replace e:(if wq S i then J (S.set i (J w))else Y)=J z:=e;show∃_,(if free T i then _ else _)=_/\_
  split at e
  ·rename_i hf;refine U (qel (oB m hf)) ?_;exact⟨_,rfl,ba e▸m.set i (.val h)⟩
  ·exact ja e
 |t is=>
  exact Sb.wY (Do (.val h)) λu u z=>FC z m
theorem YE{is:List Nat}{R:List W}{K:List V}{S:jc}{T:Me}(h:Qd q E R K)(m:Sw E q S T):Sb (Sw E q) (Dm is R S) (ye is K T):=by
 refine h.ind (P:=λR K=>∀is S T,Sw E q S T->Sb (Sw E q) (Dm is R S) (ye is K T)) (λis S T m=>?_) (λa R b K d g f is S T m=>?_) is S T m
 ·induction is using ma with|nil=>exact Sb.ok m|cons i is=>exact Sb.no
 ·induction is using ma with
  |nil=>exact Sb.no|cons i is=>
   intro z e;replace e:(if i<S.length then Dm is R (S.set i (J a))else Y)=J z:=e;show∃_,(if i<T.length then _ else _)=_/\_
   by_cases c:i<S.length
   ·rw[Fd c]at e
    exact U (Fd (m.len▸c)) (f is _ _ (m.set i (.val d)) z e)
   ·rw[ge c]at e;exact ja e
theorem I4(m:Sw E q S T)(h:VS q E w v):{t:CT}->Sb (Sw E q) (Hx t w S) (jl t v T):=by
 intro t
 induction t using CT.casesOn with
 |x i=>
  intro z e;replace e:(if i<S.length then J (S.set i (J w))else Y)=J z:=e;show∃_,(if i<T.length then _ else _)=_/\_
  split at e
  ·rename_i hf;refine U (Fd (m.len▸hf)) ?_;exact⟨_,rfl,ba e▸m.set i (.val h)⟩
  ·exact ja e
 |t is=>
  exact Sb.wY (Do (.val h)) λu u z=>YE z m
abbrev Ot{b c:Type}(E:Nat->Prop)(V:Wd->b->c->Prop)(f:jc->wb->Option (b×wb))(g:Me->St->Option (c×St)):Prop:=∀q S T,Rl E q->Sw E q S T->SX E q V (f S q.σ) (g T q.τ)
theorem VB.grd(h:VB q E w v)(e:mf w=J u):VS q E u v:=(qi e).1▸h.nb (qi e).2
theorem qdn{k:V->Option β}(h:VB q E w v){P:α->β->Prop}{f:W->Option α}(b:∀u,VS q E u v->Sb P (f u) (k v)):Sb P ((mf w).bind f) (k v):=Sb.wJ λu e=>b u ((qi e).1▸h.nb (qi e).2)
theorem aD{t:CT}{c:jc->wb->X3}{d:Me->St->Option (Bool×St)}{G:jc->wb->iR}{f:Me->St->Option (List V×St)}(j:Ot E (λu=>Eq) c d)(k:Ot E (λx=>Qd x E) G f)(r:Rl E q)(m:Sw E q S T)(h:VS q E w v):
 SX E q (λx=>Qd x E) ((Uu t w S).bind λb=>(c b q.σ).bind λp=>kn p.1 (G b p.2) (J ([],p.2))) ((Hj t v T).bind λb=>(d b q.τ).bind λp=>kn p.1 (f b p.2) (J ([],p.2))):=
 Sb.wY (NI m h) λu u m1=>SX.wY (j q _ _ r m1) λg b o l i e=>Sb.ifB e (k g _ _ i (m1.mono r l)) (.ok (PX.mk g.L .refl i Qd.nil))
theorem Sb.mapB{o:Option W}{b:Option V}(r:Rl E q)(h:Sb (VB q E) o b):SX E q (λx=>VB x E) (o.map λv=>(v,q.σ)) (b.map λv=>(v,q.τ)):=Sb.map2 h λu u z=>PX.mk q.L .refl r z
theorem Sb.mapV{b:Type}{o c:Option b}{f:b->W}{g:b->V}(r:Rl E q)(h:Sb Eq o c)(z:∀a,VS q E (f a) (g a)):SX E q (λx=>VB x E) (o.map λv=>(f v,q.σ)) (c.map λv=>(g v,q.τ)):=Sb.map2 h λa u e=>e▸PX.mk q.L .refl r (VB.val (z a))
theorem wz{c:jc->wb->fo}{g:Me->St->Option (V×St)}(h:Ot E (λx=>VB x E) c g):Ot E (λx=>VS x E) (λS b=>(c S b).bind λr=>(mf r.1).map λw=>(w,r.2)) g:=λq S T r m a e=>by
 refine aa λi=>(Vg e λp j k=>?_);obtain⟨b,l,P⟩:=h q S T r m p j;refine Ds k λw o d=>?_;subst d;exact i (⟨b,l,P.rec λf x r z=>.mk f x r (VB.grd z o)⟩)
variable (A:∀a R,F a=J R->L a=J R) (C:wn I N)
include A C
mutual
theorem Oc(e:X):Ot E (λx=>VB x E) (fX Q F I e) (evX (Q.w L) N e):=match e with
 |.x i=>λq S T r m=>Sb.mapB r λw e=>m.at_ i w e|.k v=>λq u u r u=>Sb.ok (PX.mk q.L .refl r (VB.val (.k v)))|.none=>λq u u r u=>Sb.ok (PX.mk q.L .refl r (VB.val .none))|.bool b=>λq u u r u=>Sb.ok (PX.mk q.L .refl r (VB.val (.bool b)))|.int b=>λq u u r u=>Sb.ok (PX.mk q.L .refl r (VB.val (.int b)))|.str b=>λq u u r u=>Sb.ok (PX.mk q.L .refl r (VB.val (.str b)))|.attr o n=>λq u u r m=>SX.wY (Oc o q _ _ r m) λp u u l g z=>Sb.mapB g (NA g z)|.sub o i=>λq u u r m=>SX.wY (Oc o q _ _ r m) λp u u l g z=>SX.wY (Oc i p _ _ g (m.mono r l)) λs u u j h z2=>
  Sb.mapB h ((fI h (z.mono g j) z2).imp λu u z=>.val z)
 |.cut o k=>λq u u r m=>SX.wY (Oc o q _ _ r m) λp u u l g z=>(JS A g z).vb|.bin c a b=>λq u u r m=>SX.wY (Oc a q _ _ r m) λp u u l g z=>SX.wY (Oc b p _ _ g (m.mono r l)) λs u u j h z2=>
  (iS h (z.mono g j) z2).vb
 |.neg a=>λq u u r m=>SX.wY (Oc a q _ _ r m) λp u u l g z=>Sb.mapV g (pk z) λu=>.int _|.cmp c a b=>λq u u r m=>SX.wY (Oc a q _ _ r m) λp u u l g z=>SX.wY (Oc b p _ _ g (m.mono r l)) λs u u j h z2=>
  Sb.mapV h (iz h (z.mono g j) z2) .bool
 |.cmp2 f t a b c=>λq u u r m=>SX.wY (Oc a q _ _ r m) λp u u l g z=>SX.wY (Oc b p _ _ g (m.mono r l)) λs u u j h z2=>
  Sb.wT (iz h (z.mono g j) z2) λa=>Sb.ifB rfl (SX.wY (Oc c s _ _ h ((m.mono r l).mono g j)) λP u u B d G=>
   Sb.mapV d (iz d (z2.mono h B) G) .bool) (Sb.ok (PX.mk s.L .refl h (VB.val (.bool ta))))
 |.ite t a b=>λq u u r m=>SX.wY (sm t q _ _ r m) λp u u l g z=>Sb.ifB z (Oc a p _ _ g (m.mono r l)) (Oc b p _ _ g (m.mono r l))|.t R=>λq u u r m=>SX.wY (qj R q _ _ r m) λp u u l g z=>(As g z).vb|.list R=>λq u u r m=>SX.wY (qj R q _ _ r m) λp u u l g z=>(Ll g z).vb|.dict b d=>λq u u r m=>SX.wY (qj b q _ _ r m) λp u u l g z=>SX.wY (qj d p _ _ g (m.mono r l)) λs u u j h z2=>(sM h (z.mono j) z2).vb|.comp k b B f rest t=>λq u u r m=>SX.wY (Oc b q _ _ r m) λp u u l g z=>Sb.wY (wB z) λR G d=>
  SX.wY (Ay (λs u u j h z2=>aD (uv f) (jy rest (wz (Oc t))) h (((m.mono r l).mono g j).more k) z2) R [] 5000 p .refl g d.1 (Kt d.2 (by decide))) λs u u j h z2=>(Ll h z2).vb
 |.call f O=>λq u u r m=>SX.wY (Oc f q _ _ r m) λp u u l g z=>SX.wY (tG O p _ _ g (m.mono r l)) λs u u j h z2=>(RL h C (z.mono g j) z2).vb|.meth o n O=>λq u u r m=>SX.wY (Oc o q _ _ r m) λp u u l g z=>Sb.wY (uU g z) λu u c=>SX.wY (qj O p _ _ g (m.mono r l)) λs u u j h z2=>(OY h C (c.mono g j) z2).vb|.sup i f O=>λq u u r m=>Sb.wY (Sb.wJ λj b=>by
  refine aa λc=>(Vg b λw d h=>?_);obtain⟨v,k,z⟩:=m.at_ i w d;obtain⟨o,rfl⟩:=z.ref_of h;refine c ?_;refine U k ?_;exact oV r o) λj c h=>SX.wY (qj O q _ _ r m) λp u u l g z=>by
  exact U h.2 (Bd ((l.a h.1).2) (SX.vb (C E p f _ _ g (.cons (.ref (l.a h.1).1) z))))
theorem qj(e:List X):Ot E (λx=>Qd x E) (uG Q F I e) (Ji (Q.w L) N e):=match e with
 |[]=>λq b b r b=>Sb.ok (PX.mk q.L .refl r Qd.nil)|x::R=>λq b b r m=>SX.wY (Oc x q _ _ r m) λc b b d f z=>Sb.wJ λu e=>SX.map2 (qj R c _ _ f (m.mono r d)) λg b b h i z2=>
  Sb.ok (PX.mk g.L .refl i (Qd.cons ((z.grd e).mono h) z2))
theorem tG(e:List X):Ot E (λx=>ED x E) (N7 Q F I e) (Ji (Q.w L) N e):=match e with
 |[]=>λq u u r u=>Sb.ok (PX.mk q.L .refl r ED.nil)|x::R=>λq u u r m=>SX.wY (Oc x q _ _ r m) λc u u d b z=>SX.map2 (tG R c _ _ b (m.mono r d)) λf u u g h z2=>
  Sb.ok (PX.mk f.L .refl h (ED.cons (z.mono b g) z2))
theorem sm(e:B):Ot E (λu=>Eq) (fT Q F I e) (Tt (Q.w L) N e):=match e with|.and a b=>λq u u r m=>SX.wY (sm a q _ _ r m) λc u u f d z=>Sb.ifB z (sm b c _ _ d (m.mono r f)) (Sb.ok (PX.mk c.L .refl d rfl))|.or a b=>λq u u r m=>SX.wY (sm a q _ _ r m) λc u u f d z=>Sb.ifB z (Sb.ok (PX.mk c.L .refl d rfl)) (sm b c _ _ d (m.mono r f))|.not a=>λq u u r m=>SX.map2 (sm a q _ _ r m) λc u u f d z=>Sb.ok (PX.mk c.L .refl d (Gc (λx=> !x) z))|.wK x=>λq u u r m=>SX.wY (Oc x q _ _ r m) λc u u f d z=>Sb.map2 (KL z) λu u e=>PX.mk c.L .refl d e
theorem uv(e:List B):Ot E (λu=>Eq) (FM Q F I e) (iy (Q.w L) N e):=match e with|[]=>λq u u r u=>Sb.ok (PX.mk q.L .refl r rfl)|t::d=>λq u u r m=>SX.wY (sm t q _ _ r m) λb u u f c z=>Sb.ifB z (uv d b _ _ c (m.mono r f)) (Sb.ok (PX.mk b.L .refl c rfl))
theorem jy:∀(e:List G){b:jc->wb->fo}{l:Me->St->Option (V×St)},Ot E (λx=>VS x E) b l->Ot E (λx=>Qd x E) (sG Q F I e b) (evRest (Q.w L) N e l)
 |[],c,j,h=>λq u u r m=>SX.map2 (h q _ _ r m) λi u u o g z=>Sb.ok (PX.mk i.L .refl g (Qd.cons z .nil))|.mk f p k::s,c,j,h=>λq u u r m=>SX.wY (Oc f q _ _ r m) λi u u o g z=>Sb.wY (wB z) λR P d=>
  Ay (λX u u t B z2=>aD (uv k) (jy s h) B ((m.mono r o).mono g t) z2) R [] 5000 i .refl g d.1 (Kt d.2 (by decide))
end
end
section
variable {ob:O} {a j:Nat} {S:Type} {o1:OF} {p:lr}
inductive VO(q:Wd)(E:Nat->Prop):W->O->Prop
 |l {xs:List W} {ys:List V}:Qd q E xs ys->VO q E (.l xs) (.list ys)|dic {ks:List Int} {vs:List W} {es:List (Int×V)}:es.map (λx=>x.1)=ks->Qd q E vs (es.map λx=>x.2)->VO q E (.dic ks vs) (.idict es)
variable {q q' Q:Wd} {E E':Nat->Prop} {w u c:W} {v x:V} {T:Bh} {N R:Nat->Option (List Int)} {n:Bb} {i:Nat} {o:OF}
abbrev ck(q q':Wd)(E E':Nat->Prop):Prop:=∀{w v},VS q E w v->VS q' E' w v
theorem ck.all(e:ck q q' E E'){b:List W}{d:List V}(h:Qd q E b d):Qd q' E' b d:=h.ind (P:=Qd q' E') .nil λu u u u a u t=>.cons (e a) t
theorem VO.map(b:ck q q' E E')(h:VO q E c ob):VO q' E' c ob:=h.rec (λh=>.l (b.all h)) λk h=>.dic k (b.all h)
theorem VC.of(e:q.τ[a]?=J ob)(h:VO q E c ob):VC q E c a:=h.rec (motive:=λc ob u=>q.τ[a]?=J ob->VC q E c a) (λh e=>.l e h) (λk h e=>.dic e k h) e
theorem VC.vo(h:VC q E c a):∃ob,q.τ[a]?=J ob/\VO q E c ob:=h.rec (λe h=>⟨_,e,.l h⟩) λe k h=>⟨_,e,.dic k h⟩
theorem VC.map(b:ck q q' E E')(h:VC q E c a)(d:∀o,q.τ[a]?=J o->q'.τ[a]?=J o):VC q' E' c a:=by
 obtain⟨ob,e,z⟩:=h.vo;exact .of (d _ e) (z.map b)
theorem FV.map(b:ck q q' E E')(h:FV q E i n w v):(∀c,w=.o c->q'.L (.f i n)=q.L (.f i n)/\∀o,q.τ[q.L (.f i n)]?=J o->q'.τ[q.L (.f i n)]?=J o)->FV q' E' i n w v:=
 FV.rec (motive:=λw v y=>(∀c,w=.o c->q'.L (.f i n)=q.L (.f i n)/\∀o,q.τ[q.L (.f i n)]?=J o->q'.τ[q.L (.f i n)]?=J o)->FV q' E' i n w v) (λh y=>.val (b h))
  (λh u=>(u _ rfl).1▸.o ((u _ rfl).1.symm▸h.map b (u _ rfl).2)) h
def Of(i:Nat)(z:lr):Prop:=match z with|.a j=>j=i|.d j=>j=i|.f j u=>j=i
theorem OS.map(r:ck q q' E E')(d:q.σ[i]?=J o)(f:∀p,Of i p->Tg q.σ p->q'.L p=q.L p/\∀o,q.τ[q.L p]?=J o->q'.τ[q.L p]?=J o)(h:OS q E i o):OS q' E' i o:=by
 have l:∀{fs es},o.fs=fs->FS q E i fs es->FS q' E' i fs es:=λg F=>⟨F.keys,λn w e=>by
  obtain⟨v,b,z⟩:=F.at_ n w e;exact⟨v,b,z.map r λc k=>f _ rfl ⟨c,by unfold di;refine U d ?_;exact(g▸e).trans (Gc J k)⟩⟩⟩
 have b:=f (.a i) rfl (oh d);cases h with
 |inst k s F=>
  have m:=f (.d i) rfl ⟨_,_,d,rfl⟩;exact .inst' b.1 m.1 (b.2 _ k) (m.2 _ s) (l rfl F)
 |sd k F=>exact .sd' b.1 (b.2 _ k) (l rfl F)
theorem tj{l:List S}{i:Nat}{a x:S}(h:(l.set i a)[j]?=J x):(i=j/\x=a)\/(i≠j/\l[j]?=J x):=by
 rw[xq]at h;by_cases c:i=j
 ·rw[Fd c]at h;split at h
  ·exact .inl ⟨c,(ba h).symm⟩
  ·exact ja h
 ·rw[ge c]at h;exact .inr ⟨c,h⟩
theorem cg{l:List S}{i:Nat}{a x:S}(h:l[j]?=J x)(b:i≠j):(l.set i a)[j]?=J x:=by refine U (Xc b) ?_;exact h
theorem Hp{l:List S}{i:Nat}{a x:S}(h:l[i]?=J x):(l.set i a)[i]?=J a:=by exact U (je (oh h)) rfl
theorem zV{o:OF}(k:q.σ[i]?=J o)(l:o1.cls=o.cls)(m:∀n c,ee o1.fs n=J (.o c)->∃c,ee o.fs n=J (.o c))(u:Tg (q.σ.set i o1) p):Tg q.σ p:=by
 induction p with
 |a j=>have:j<(q.σ.set i o1).length:=u;rw[yb]at this;exact this|d j=>
  refine aa λr=>?_;obtain⟨g,h,e,b⟩:=u;refine r ?_;rcases tj e with⟨rfl,rfl⟩|⟨_,e⟩
  ·exact⟨o,h,k,l▸b⟩
  ·exact⟨g,h,e,b⟩
 |f j n=>
  obtain⟨c,e⟩:=u;obtain⟨g,h,b⟩:=Fa.mp e;rcases tj h with⟨rfl,rfl⟩|⟨_,h⟩
  ·obtain⟨r,s⟩:=m n c b
   exact⟨r,Fa.mpr ⟨o,k,s⟩⟩
  ·exact⟨c,Fa.mpr ⟨g,h,b⟩⟩
theorem bD{o:OF}(g:q.σ[i]?=J o)(m:o1.cls=o.cls)(r:∀n c,ee o.fs n=J (.o c)->∃c,ee o1.fs n=J (.o c))(u:Tg q.σ p):Tg (q.σ.set i o1) p:=by
 induction p with
 |a j=>show j<(q.σ.set i o1).length;refine U yb ?_;exact u|d j=>
  refine aa λl=>?_;obtain⟨h,k,e,b⟩:=u;refine l ?_;by_cases c:i=j
  ·subst c;rw[g]at e;obtain rfl:=ba e;exact⟨o1,k,Hp g,m.trans b⟩
  ·exact⟨h,k,cg e c,b⟩
 |f j n=>
  obtain⟨c,e⟩:=u;obtain⟨h,k,b⟩:=Fa.mp e;by_cases l:i=j
  ·subst l;rw[g]at k;obtain rfl:=ba k
   obtain⟨s,t⟩:=r n c b;exact⟨s,Fa.mpr ⟨o1,Hp g,t⟩⟩
  ·exact⟨c,Fa.mpr ⟨h,cg k l,b⟩⟩
theorem Rl.turn(r:Rl E q){o:OF}{p0:lr}(f:q.σ[i]?=J o)(s:Of i p0)(g:Tg q.σ p0)(k:o1.cls=o.cls)(l:∀n,(∃c,ee o1.fs n=J (.o c))↔∃c,ee o.fs n=J (.o c))
 (t:Le q ⟨q.L,q.σ.set i o1,q.τ.set (q.L p0) ob⟩->OS ⟨q.L,q.σ.set i o1,q.τ.set (q.L p0) ob⟩ E i o1):Le q ⟨q.L,q.σ.set i o1,q.τ.set (q.L p0) ob⟩/\Rl E ⟨q.L,q.σ.set i o1,q.τ.set (q.L p0) ob⟩:=by
 have b:∀{p},Tg (q.σ.set i o1) p->Tg q.σ p:=zV f k λn c h=>(l n).mp ⟨c,h⟩;have d:(q.τ.set (q.L p0) ob).length=q.τ.length:=yb;have X:Le q ⟨q.L,q.σ.set i o1,q.τ.set (q.L p0) ob⟩:=⟨Gd d.symm,λp u=>⟨bD f k (λn c h=>(l n).mpr ⟨c,h⟩) u,rfl⟩,λp u=>.inl (b u),λa m e h=>cg e (h p0 g)⟩;refine⟨X,λp y u A e=>r.inj p y (b u) (b A) e,λp u=>d.symm▸r.lt p (b u),λp u=>r.sep p (b u),λa h=>d.symm▸r.elt a h,λj m e=>?_⟩;rcases tj e with⟨rfl,rfl⟩|⟨B,e⟩
 ·exact t X
 ·refine(r.obj j m e).map (λh=>h.mono X) e λp C u=>⟨rfl,λD F=>cg F λz=>B ?_⟩
  have:=r.inj _ _ g u z;subst this
  induction p0<;>exact s.symm.trans C
theorem FS.put{b:List (Bb×W)}{d:List (Bb×V)}(F:FS q E i b d)(f:FV q' E' i n w v)(g:∀m,n≠m->∀w v,ee b m=J w->FV q E i m w v->FV q' E' i m w v):FS q' E' i (fj b n w) (Gh d n v):=
 ⟨LN n w v b d F.keys,λm u e=>by
  rw[Bj]at e;refine U (AJ _ _ _ _) ?_;by_cases c:n=m
  ·rw[Fd c]at e|-;subst c;exact⟨v,rfl,ba e▸f⟩
  ·rw[ge c]at e|-
   obtain⟨h,k,z⟩:=F.at_ m u e;exact⟨h,k,g m c _ _ e z⟩⟩
theorem dw{b f:List (Bb×W)}(h:QJ b n w=J f):f=fj b n w/\∀c,ee b n≠J (.o c):=by
 unfold QJ at h
 induction e:ee b n with
 |none=>rw[e]at h;exact⟨(ba h).symm,λy z=>ja z⟩|some u=>
  rw[e]at h
  induction d:tT u with
  |true=>simp only[d]at h;exact ja h|false=>simp only[d]at h;exact⟨(ba h).symm,λc z=>by rw[ba z]at d;exact Ed d⟩
theorem AH{f:List (Bb×W)}(g:nb w=Z)(h:∀c,ee f n≠J (.o c))(m:Bb):(∃c,ee (fj f n w) m=J (.o c))↔∃c,ee f m=J (.o c):=by
 refine U (Bj _ _ _ _) ?_;by_cases c:n=m
 ·exact U (Fd c) (⟨λb=>by obtain⟨d,e⟩:=b;exact zc g (ba e▸ia),λb=>by obtain⟨d,e⟩:=b;exact zc (c▸e) (h d)⟩)
 ·rw[ge c]
theorem fC(r:Rl E q)(h:VB q E w v)(k:VS q E u x):Sb (λb d=>Le q ⟨q.L,b,d⟩/\Rl E ⟨q.L,b,d⟩) ((xk w).bind (Bo T n u q.σ)) (Pn (T.w R) v n x q.τ):=Sb.wJ λi e=>by
 obtain⟨l,rfl⟩:=h.ref_of e;obtain⟨o,b,O⟩:=r.get l;unfold Bo;refine U b ?_;cases O with
 |sd=>exact .no| @inst c s f t A F=>
  show Sb _ ((Ie _).bind _) ((ri q.τ (q.L (.a i))).bind _)
  refine U (qo t) ?_;show Sb _ _ ((Uq q.τ (q.L (.d i))).bind _)
  refine U (Vq A) ?_;have B:s.length=f.length:=by have:=Gc kj F.keys;rw[wa,wa]at this;exact this
  show Sb _ ((Ie (T.attr c n&&bc s.length 900)).bind _) ((Ie (T.attr c n&&bc f.length 900)).map _)
  refine U B ?_
  induction I:(T.attr c n&&bc f.length 900)with
  |false=>exact .no|true=>
   refine Sb.lookm λK C=>?_;obtain⟨rfl,D⟩:=dw C;exact Sb.ok (r.turn (p0:=.d i) b rfl ⟨_,_,b,rfl⟩ rfl (AH k.nb D) λX=>.inst (cg t λz=>nomatch (r.inj (.d i) (.a i) ⟨_,_,b,rfl⟩ l z)) (Hp A) (F.put (.val (k.mono X)) λm y w v e z=>z.mono X (λd g=>⟨d,Fa.mpr ⟨_,b,g▸e⟩⟩) λd g o G=>cg G λz=>nomatch (r.inj (.d i) (.f i m) ⟨_,_,b,rfl⟩ ⟨d,Fa.mpr ⟨_,b,g▸e⟩⟩ z)))
theorem uw(r:Rl E q){b:W}(B:di q.σ i n=J (.o c))(K:VO q E b ob):Le q ⟨q.L,Em q.σ i n (.o b),q.τ.set (q.L (.f i n)) ob⟩/\Rl E ⟨q.L,Em q.σ i n (.o b),q.τ.set (q.L (.f i n)) ob⟩:=by
 have A:Tg q.σ (.f i n):=⟨c,B⟩;refine aa λl=>?_;obtain⟨o,g,e⟩:=Fa.mp B;obtain⟨L,P,_⟩:=(uq r B).vo;refine l ?_;have s:Em q.σ i n (.o b)=q.σ.set i ⟨o.cls,fj o.fs n (.o b)⟩:=by unfold Em;exact U g rfl
 refine U s ?_;refine r.turn g rfl A rfl (λm=>by
  refine U (Bj _ _ _ _) ?_;by_cases k:n=m
  ·exact U (Fd k) (⟨λy=>⟨c,k▸e⟩,λy=>⟨b,rfl⟩⟩)
  ·rw[ge k]) λX=>?_
 have hm:∀m,n≠m->∀w v,ee o.fs m=J w->FV q E i m w v->FV ⟨q.L,q.σ.set i ⟨o.cls,fj o.fs n (.o b)⟩,q.τ.set (q.L (.f i n)) ob⟩ E i m w v:=λm hn w v f z=>
  z.mono X (λd C=>⟨d,Fa.mpr ⟨_,g,C▸f⟩⟩) λd C o' D=>cg D λz=>hn (lr.f_inj (r.inj (.f i n) (.f i m) A ⟨d,Fa.mpr ⟨_,g,C▸f⟩⟩ z))
 have I:∀{s:List (Bb×V)}{y},o.fs=y->FS q E i y s->FS ⟨q.L,q.σ.set i ⟨o.cls,fj o.fs n (.o b)⟩,q.τ.set (q.L (.f i n)) ob⟩ E i (fj y n (.o b)) s:=λG F=>by
  subst G;refine⟨?_,λm u f=>?_⟩
  ·refine aa λl=>?_
   obtain⟨v,t,_⟩:=F.at_ n _ e;exact l (Bd F.keys (keys_in e))
  ·rw[Bj]at f
   by_cases k:n=m
   ·rw[Fd k]at f;subst k
    obtain⟨v,t,z⟩:=F.at_ n _ e;refine aa λl=>?_;cases z with
    |val z=>refine l ?_;exact zc z.nb ia|o z=>refine l ?_;exact⟨_,t,ba f▸.o (.of (Hp P) (K.map λh=>h.mono X))⟩
   ·rw[ge k]at f
    obtain⟨v,t,z⟩:=F.at_ m u f;exact⟨v,t,hm m k _ _ f z⟩
 have O:=r.obj i o g;cases O with
 | @inst k y s h t F=>exact .inst (cg h λz=>nomatch (r.inj (.f i n) (.a i) A (oh g) z)) (cg t λz=>nomatch (r.inj (.f i n) (.d i) A ⟨_,_,g,rfl⟩ z)) (I rfl F)| @sd y s h F=>exact .sd (cg h λz=>nomatch (r.inj (.f i n) (.a i) A (oh g) z)) (I rfl F)
where keys_in {w u:W}:{fs:List (Bb×W)}->ee fs n=J u->(fj fs n w).map (λx=>x.1)=fs.map (λx=>x.1)
 |[],h=>ja h|(k,a)::fs,h=>by
  replace h:(if k=n then J a else ee fs n)=J u:=h;show(if k=n then(k,w)::fs else(k,a)::fj fs n w).map (λx=>x.1)=_
  by_cases c:k=n
  ·refine U (Fd c) ?_;rfl
  ·rw[ge c]at h|-;exact Gc (λx=>k::x) (keys_in h)
end
def Ow(P:List Nat)(T:jc)(ow:Nat->Nat)(a:Nat):Prop:=(∃i c,Oe T i=J (.o c)/\ow i=a)\/a∈P
def EX(X O:Nat->Prop)(a:Nat):Prop:=X a\/O a
structure Gu(O Q:Nat->Prop)(q R:Wd):Prop where
 len:q.τ.length<=R.τ.length
 usd:∀p,Tg q.σ p->Tg R.σ p/\R.L p=q.L p
 new:∀p,Tg R.σ p->Tg q.σ p\/q.τ.length<=R.L p\/O (R.L p)
 keep:∀(a:Nat)(o:Mine.Internal.O),q.τ[a]?=J o->(∀p,Tg q.σ p->q.L p≠a)->¬O a->R.τ[a]?=J o
 own:∀a,Q a->O a\/q.τ.length<=a
structure xj(X:Nat->Prop)(P:List Nat)(T:jc)(S:Me)(ow:Nat->Nat)(q:Wd):Prop where
 rl:Rl (EX X (Ow P T ow)) q
 len:T.length=S.length
 no:∀i:Nat,T[i]?=J Y->S[i]?=J Y
 val:∀i w,Oe T i=J w->tT w=ta->∃v,Vk S i=J v/\VS q (EX X (Ow P T ow)) w v
 own:∀i c,Oe T i=J (.o c)->Vk S i=J (.ref (ow i))/\VC q (EX X (Ow P T ow)) c (ow i)
 inj:∀i j c c',Oe T i=J (.o c)->Oe T j=J (.o c')->ow i=ow j->i=j
 sep:∀a,Ow P T ow a->¬X a
 pn:P.Nodup
 ps:∀i c,Oe T i=J (.o c)->ow i∉P
section
variable {q R L:Wd} {E K X O Q N:Nat->Prop} {w u c:W} {v x:V} {I:Bh} {n:Bb} {i b:Nat} {P:List Nat} {T:jc} {S:Me} {ow:Nat->Nat}
theorem Gu.refl:Gu O O q q:=⟨Gb _,λu h=>⟨h,rfl⟩,λu h=>.inl h,λu u h u u=>h,λu h=>.inl h⟩
theorem Le.s(x:Le q R):Gu O O q R:=⟨x.len,x.usd,λp u=>(x.new p u).imp_right .inl,λa o e h y=>x.keep a o e h,λy h=>.inl h⟩
theorem Gu.trans(x:Gu O Q q R)(y:Gu Q N R L):Gu O N q L:=
 ⟨Za x.len y.len,λp h=>⟨(y.usd p (x.usd p h).1).1,((y.usd p (x.usd p h).1).2).trans (x.usd p h).2⟩,
  λp h=>(y.new p h).elim (λg=>(x.new p g).imp_right λz=>by refine U ((y.usd p g).2) ?_;exact z) λz=>.inr (z.elim (λz=>.inl (Za x.len z)) λz=>(x.own _ z).symm),
  λa o e h f=>y.keep a o (x.keep a o e h f) (λp u z=>(x.new p u).elim (λd=>h p d ((x.usd p d).2.symm.trans z)) λd=>d.elim (λd=>fc _ (rb (oh e) (z▸d))) λd=>f (z▸d)) λz=>(x.own a z).elim f λz=>fc _ (rb (oh e) z),
  λa z=>(y.own a z).elim (x.own a) λz=>.inr (Za x.len z)⟩
theorem Gu.le(x:Gu O Q q R)(h:∀a,¬O a):Le q R:=⟨x.len,x.usd,λp u=>(x.new p u).imp_right λz=>z.resolve_right (h _),λa o e n=>x.keep a o e n (h a)⟩
theorem Gu.carry(x:Gu O Q q R):ck q R (EX X O) (EX X Q):=λ{w v} h=>h.map (λi a=>x.usd (.a i) a) λa o e f=>
 have g:¬O a:=λz=>f (.inr (.inr z))
 ⟨λz=>z.elim (λj=>by obtain⟨p,u,k⟩:=j;exact(x.new p u).elim (λd=>f (.inl ⟨p,d,(x.usd p d).2.symm.trans k⟩)) λd=>d.elim (λd=>fc _ (rb (oh e) (k▸d))) λd=>g (k▸d))
  λz=>z.elim (λz=>f (.inr (.inl z))) λz=>(x.own a z).elim g λz=>fc _ (rb (oh e) z),
  x.keep a o e (λp u z=>f (.inl ⟨p,u,z⟩)) g⟩
theorem Rl.sub(r:Rl E q)(h:∀a,K a->E a):Rl K q:=⟨r.inj,r.lt,λp u z=>r.sep p u (h _ z),λa z=>r.elt a (h a z),λi o e=>(r.obj i o e).map (λz=>z.sub h) e λy y y=>⟨rfl,λy z=>z⟩⟩
theorem xj.wS(F:xj X P T S ow q):Sw (EX X (Ow P T ow)) q T S:=⟨F.len,F.no,λi w e=>by
 induction d:tT w with
 |false=>obtain⟨v,a,z⟩:=F.val i w e d;exact⟨v,a,.val z⟩|true=>
  induction w using W.casesOn<;>try exact Ed d
  obtain⟨a,z⟩:=F.own i _ e;exact⟨_,a,.o (.inr (.inl ⟨i,_,e,rfl⟩)) z⟩⟩
theorem xj.le(F:xj X P T S ow q)(x:Le q R)(r:Rl (EX X (Ow P T ow)) R):xj X P T S ow R:=
 ⟨r,F.len,F.no,λi w e h=>(F.val i w e h).imp λu z=>⟨z.1,z.2.mono x⟩,λi c e=>⟨(F.own i c e).1,(F.own i c e).2.mono x λo=>F.rl.eget x (.inr (.inl ⟨i,c,e,rfl⟩))⟩,F.inj,F.sep,F.pn,F.ps⟩
theorem Pu(a:i<T.length)(w:W)(j:Nat):Oe (T.set i (J w)) j=if i=j then J w else Oe T j:=by
 unfold Oe;refine U xq ?_;by_cases c:i=j
 ·refine U (Fd c) (U (Fd c) (U (Fd a) ?_));rfl
 ·exact U (ge c) (U (ge c) rfl)
theorem gD(a:i<S.length)(w:V)(j:Nat):Vk (S.set i (J w)) j=if i=j then J w else Vk S j:=by
 unfold Vk;refine U xq ?_;by_cases c:i=j
 ·refine U (Fd c) (U (Fd c) (U (Fd a) ?_));rfl
 ·exact U (ge c) (U (ge c) rfl)
theorem lO(h:∀i:Nat,T[i]?=J Y->S[i]?=J Y)(j:Nat):(T.set i (J w))[j]?=J Y->(S.set i (J v))[j]?=J Y:=λe=>by
 refine aa λa=>?_;rcases tj e with⟨_,e⟩|⟨d,e⟩
 ·exact a (ja e)
 ·exact a (cg (h j e) d)
theorem xj.less(F:xj X P T S ow q){k:List Nat}{d:jc}{g:Me}{f:Nat->Nat}(l:∀a,Ow k d f a->Ow P T ow a)(len:d.length=g.length)(p:∀i:Nat,d[i]?=J Y->g[i]?=J Y)
 (m:∀i w,Oe d i=J w->tT w=ta->∃v,Vk g i=J v/\VS q (EX X (Ow k d f)) w v)(own:∀i c,Oe d i=J (.o c)->Vk g i=J (.ref (f i))/\VC q (EX X (Ow P T ow)) c (f i))
 (o:∀i j c e,Oe d i=J (.o c)->Oe d j=J (.o e)->f i=f j->i=j)(j:k.Nodup)(r:∀i c,Oe d i=J (.o c)->f i∉k):xj X k d g f q/\Gu (Ow P T ow) (Ow k d f) q q:=by
 have hEx:∀a,EX X (Ow k d f) a->EX X (Ow P T ow) a:=λa z=>z.imp_right (l a);exact⟨⟨F.rl.sub hEx,len,p,m,λi c e=>⟨(own i c e).1,(own i c e).2.map (λz=>z.sub hEx) λu z=>z⟩,o,λa z=>F.sep a (l a z),j,r⟩,
  Gb _,λu h=>⟨h,rfl⟩,λu h=>.inl h,λu u h u u=>h,λa z=>.inl (l a z)⟩
theorem ni(a:i<T.length){j:Nat}{u:W}(h:Oe (T.set i (J w)) j=J u):(i=j/\u=w)\/(i≠j/\Oe T j=J u):=by
 rw[Pu a]at h;by_cases c:i=j
 ·rw[Fd c]at h;exact .inl ⟨c,(ba h).symm⟩
 ·rw[ge c]at h;exact .inr ⟨c,h⟩
theorem MQ(a:i<S.length):Vk (S.set i (J v)) i=J v:=by exact U (gD a _ _) (U (Fd rfl) rfl)
theorem oA(a:i<S.length){j:Nat}{x:V}(c:i≠j)(h:Vk S j=J x):Vk (S.set i (J v)) j=J x:=by refine U (gD a _ _) (U (ge c) ?_);exact h
theorem xj.setV(F:xj X P T S ow q)(g:i<T.length)(h:VS q (EX X (Ow P T ow)) w v):xj X P (T.set i (J w)) (S.set i (J v)) ow q/\Gu (Ow P T ow) (Ow P (T.set i (J w)) ow) q q:=by
 have f:i<S.length:=F.len▸g;have d:∀{j c},Oe (T.set i (J w)) j=J (.o c)->i≠j/\Oe T j=J (.o c):=λe=>(ni g e).resolve_left λz=>(λc e=>zc h.nb (e▸ia):∀c,w≠ .o c) _ z.2.symm;have l:∀a,Ow P (T.set i (J w)) ow a->Ow P T ow a:=λa z=>z.imp_left λm=>by obtain⟨j,c,e,o⟩:=m;exact⟨j,c,(d e).2,o⟩
 exact F.less l (by refine U yb (U yb ?_);exact F.len) (lO F.no) (λj u e p=>by
  rcases ni g e with⟨rfl,rfl⟩|⟨c,e⟩
  ·exact⟨v,MQ f,h.sub λa z=>z.imp_right (l a)⟩
  ·refine aa λk=>?_
   obtain⟨y,r,z⟩:=F.val j u e p;refine k ?_;exact⟨y,oA f c r,z.sub λa z=>z.imp_right (l a)⟩)
  (λj c e=>⟨oA f (d e).1 (F.own j c (d e).2).1,(F.own j c (d e).2).2⟩) (λj k c r e o=>F.inj j k c r (d e).2 (d o).2) F.pn λj c e=>F.ps j c (d e).2
noncomputable def qaX(ow:Nat->Nat)(i b j:Nat):Nat:=if j=i then b else ow j
theorem Nw:qaX ow i b i=b:=Fd rfl
theorem Mp{j:Nat}(h:i≠j):qaX ow i b j=ow j:=ge (cq h)
theorem xj.setO(F:xj X (b::P) T S ow q)(m:i<T.length)(h:VC q (EX X (Ow (b::P) T ow)) c b):∃p,xj X P (T.set i (J (.o c))) (S.set i (J (.ref b))) p q/\Gu (Ow (b::P) T ow) (Ow P (T.set i (J (.o c))) p) q q:=by
 have o:i<S.length:=F.len▸m;refine⟨qaX ow i b,?_⟩;have r:=Ec.mp F.pn;have t:∀a,Ow P (T.set i (J (.o c))) (qaX ow i b) a->Ow (b::P) T ow a:=λa z=>z.elim (λf=>by
  obtain⟨j,d,e,l⟩:=f;rcases ni m e with⟨rfl,_⟩|⟨g,e⟩
  ·exact .inr (by rw[Nw]at l;exact l▸sa)
  ·exact .inl ⟨j,d,e,by rw[Mp g]at l;exact l⟩) λz=>.inr (oa _ z)
 refine F.less t (by refine U yb (U yb ?_);exact F.len) (lO F.no) (λj u e A=>?_) (λj d e=>?_) (λj k d B e l=>?_) r.2 λj d e=>?_
 ·rcases ni m e with⟨rfl,rfl⟩|⟨g,e⟩
  ·exact Ed A
  ·obtain⟨y,f,z⟩:=F.val j u e A
   exact⟨y,oA o g f,z.sub λa z=>z.imp_right (t a)⟩
 ·rcases ni m e with⟨rfl,f⟩|⟨g,e⟩
  ·cases f;refine U Nw ?_;exact⟨MQ o,h⟩
  ·exact U (Mp g) (⟨oA o g (F.own j d e).1,(F.own j d e).2⟩)
 ·rcases ni m e with⟨rfl,_⟩|⟨g,e⟩<;>rcases ni m l with⟨rfl,_⟩|⟨s,l⟩
  ·exactλf=>rfl
  ·exact U Nw (U (Mp s) λz=>zc (z▸sa) (F.ps k B l))
  ·exact U Nw (U (Mp g) λz=>zc (z.symm▸sa) (F.ps j d e))
  ·exact U (Mp g) (U (Mp s) (F.inj j k d B e l))
 ·rcases ni m e with⟨rfl,_⟩|⟨g,e⟩
  ·exact U Nw r.1
  ·exact U (Mp g) λz=>F.ps j d e (oa _ z)
theorem xj.frz(F:xj X P T S ow q)(h:Oe T i=J (.o c)):xj X P (T.set i (J c)) S ow q/\Gu (Ow P T ow) (Ow P (T.set i (J c)) ow) q q:=by
 have s:i<T.length:=by
  exact Vg h λo e g=>(oh e)
 obtain⟨r,z1⟩:=F.own i c h;have t:∀d,c≠ .o d:=λd e=>(by have:=(e▸z1).wF;exact this);have g:∀{j d},Oe (T.set i (J c)) j=J (.o d)->i≠j/\Oe T j=J (.o d):=λe=>(ni s e).resolve_left λz=>t _ z.2.symm;have m:∀a,Ow P (T.set i (J c)) ow a->Ow P T ow a:=λa z=>z.imp_left λl=>by obtain⟨j,d,e,f⟩:=l;exact⟨j,d,(g e).2,f⟩
 refine F.less m (by refine U yb ?_;exact F.len) (λj e=>?_) (λj u e A=>?_) (λj d e=>F.own j d (g e).2) (λj k d o e f=>F.inj j k d o (g e).2 (g f).2) F.pn λj d e=>F.ps j d (g e).2
 ·refine aa λo=>?_
  rcases tj e with⟨_,e⟩|⟨_,e⟩
  ·exact o (ja e)
  ·exact o (F.no j e)
 ·rcases ni s e with⟨rfl,rfl⟩|⟨B,e⟩
  ·refine⟨_,r,?_⟩
   have y:¬Ex q (EX X (Ow P (T.set i (J u)) ow)) (ow i):=λz=>z.elim (λl=>by obtain⟨p,v,f⟩:=l;exact F.rl.sep p v (f▸.inr (.inl ⟨i,u,h,rfl⟩))) λz=>z.elim (F.sep _ (.inl ⟨i,u,h,rfl⟩)) λz=>z.elim (λl=>by obtain⟨j,d,e,f⟩:=l;exact(g e).1 (F.inj i j u d h (g e).2 f.symm)) λz=>F.ps i u h z;exact z1.rec (motive:=λu a f=>¬Ex q _ a->VS q _ u (.ref a)) (λe h n=>.l n e (h.sub λa z=>z.imp_right (m a))) (λe k h n=>.dic n e k (h.sub λa z=>z.imp_right (m a))) y
  ·refine aa λo=>?_
   obtain⟨y,r,z⟩:=F.val j u e A;exact o (⟨y,r,z.sub λa z=>z.imp_right (m a)⟩)
theorem Rl.wr(r:Rl E q)(h:E b)(d:Mine.Internal.O):Rl E ⟨q.L,q.σ,q.τ.set b d⟩/\ck q ⟨q.L,q.σ,q.τ.set b d⟩ E E:=by
 have C:ck q ⟨q.L,q.σ,q.τ.set b d⟩ E E:=λz=>VS.map (q:=q) (q':=⟨q.L,q.σ,q.τ.set b d⟩) (λy h=>⟨h,rfl⟩) (λa o e n=>⟨n,cg (l:=q.τ) e λz=>n (.inr (z▸h))⟩) z;have f:(q.τ.set b d).length=q.τ.length:=yb;exact⟨⟨r.inj,λp u=>f.symm▸r.lt p u,r.sep,λa h=>f.symm▸r.elt a h,λi o e=>(r.obj i o e).map C e λp y u=>⟨rfl,λo e=>cg e λz=>r.sep p u (z▸h)⟩⟩,C⟩
theorem xj.upd(F:xj X P T S ow q)(h:Oe T i=J (.o c)){c':W}{ob:Mine.Internal.O}(k:VO q (EX X (Ow P T ow)) c' ob):xj X P (T.set i (J (.o c'))) S ow ⟨q.L,q.σ,q.τ.set (ow i) ob⟩/\Gu (Ow P T ow) (Ow P (T.set i (J (.o c'))) ow) q ⟨q.L,q.σ,q.τ.set (ow i) ob⟩:=by
 have m:i<T.length:=by
  exact Vg h λo e f=>(oh e)
 have A:Ow P T ow (ow i):=.inl ⟨i,c,h,rfl⟩;refine aa λr=>?_;obtain⟨G,z1⟩:=F.own i c h;obtain⟨x1,e0,_⟩:=z1.vo;have g:∀{j d},Oe (T.set i (J (.o c'))) j=J (.o d)->∃d,Oe T j=J (.o d):=λe=>(ni m e).elim (λz=>z.1▸⟨c,h⟩) λz=>⟨_,z.2⟩;have s:∀a,Ow P (T.set i (J (.o c'))) ow a↔Ow P T ow a:=λa=>⟨λz=>z.imp_left λl=>by obtain⟨j,d,e,f⟩:=l;exact(g e).elim λB z=>⟨j,B,z,f⟩,λz=>z.imp_left λl=>by
  obtain⟨j,d,e,f⟩:=l;by_cases p:i=j
  ·exact⟨j,c',by exact U (Pu m _ _) (U (Fd p) rfl),f⟩
  ·exact⟨j,d,by refine U (Pu m _ _) (U (ge p) ?_);exact e,f⟩⟩
 obtain⟨r1,C⟩:=F.rl.wr (.inr A) ob;refine r ?_;have hEx:∀a,EX X (Ow P (T.set i (J (.o c'))) ow) a->EX X (Ow P T ow) a:=λa z=>z.imp_right (s a).mp;have t:ck q ⟨q.L,q.σ,q.τ.set (ow i) ob⟩ (EX X (Ow P T ow)) (EX X (Ow P (T.set i (J (.o c'))) ow)):=λz=>(C z).sub hEx;refine⟨⟨r1.sub hEx,by refine U yb ?_;exact F.len,λj e=>?_,λj u e D=>?_,λj d e=>?_,λj k d B e f=>(g e).elim λy e=>(g f).elim λy f=>F.inj j k _ _ e f,λa z=>F.sep a ((s a).mp z),F.pn,λj d e=>(g e).elim λy e=>F.ps j _ e⟩,
  Gd yb.symm,λy h=>⟨h,rfl⟩,λy h=>.inl h,λa o e y n=>cg e λz=>n (z▸A),λa z=>.inl ((s a).mp z)⟩
 ·refine aa λr=>?_
  rcases tj e with⟨_,e⟩|⟨_,e⟩
  ·exact r (ja e)
  ·exact r (F.no j e)
 ·rcases ni m e with⟨rfl,rfl⟩|⟨p,e⟩
  ·exact Ed D
  ·exact(F.val j u e D).imp λy z=>⟨z.1,t z.2⟩
 ·rcases ni m e with⟨rfl,y⟩|⟨p,e⟩
  ·cases y;exact⟨G,.of (Hp e0) (k.map t)⟩
  ·obtain⟨B,z2⟩:=F.own j d e
   exact⟨B,z2.map t λo f=>cg f λz=>p (F.inj i j c d h e z)⟩
end
inductive TV(q:Wd)(E:Nat->Prop):List Nat->W->V->Prop
 |val {w:W} {v:V}:VS q E w v->TV q E [] w v|own {c:W} {b:Nat}:VC q E c b->TV q E [b] (.o c) (.ref b)
class inductive TS(q:Wd)(E:Nat->Prop):List Nat->List W->List V->Prop
 |nil:TS q E [] [] []|cons {P P':List Nat} {w:W} {v:V} {ws:List W} {vs:List V}:TV q E P w v->TS q E P' ws vs->TS q E (P++P') (w::ws) (v::vs)
inductive AI(X:Nat->Prop)(P:List Nat)(T:jc)(S:Me)(ow:Nat->Nat)(q:Wd){D B:Type}(V:Wd->(Nat->Prop)->List Nat->D->B->Prop)(a:D×wb)(b:B×St):Prop
 |mk (L:lr->Nat) (Q:List Nat):Le q ⟨L,a.2,b.2⟩->(∀b∈Q,q.τ.length<=b)->xj X (P++Q) T S ow ⟨L,a.2,b.2⟩->V ⟨L,a.2,b.2⟩ (EX X (Ow (P++Q) T ow)) Q a.1 b.1->AI X P T S ow q V a b
section
variable {q q' t:Wd} {E E' X O s:Nat->Prop} {w u c:W} {v x:V} {R:Bh} {G N:Nat->Option (List Int)} {n:Bb} {i b:Nat} {P Q:List Nat} {T:jc} {S:Me} {ow:Nat->Nat} {ws:List W} {vs:List V}
theorem JE{a:Nat}:Ow (P++Q) T ow a↔Ow P T ow a\/a∈Q:=⟨λz=>z.elim (λz=>.inl (.inl z)) λz=>(Vb.mp z).elim (λz=>.inl (.inr z)) .inr,λz=>z.elim (λz=>z.imp_right λz=>Ke _ z) λz=>.inr (Od _ z)⟩
theorem Le.fresh(x:Le q q')(h:∀b∈Q,q.τ.length<=b):Gu (Ow P T ow) (Ow (P++Q) T ow) q q':=⟨x.len,x.usd,λp u=>(x.new p u).imp_right .inl,λa o e h y=>x.keep a o e h,λa z=>(JE.mp z).imp_right (h a)⟩
theorem TV.map(d:ck q q' E E')(e:∀b∈P,∀o,q.τ[b]?=J o->q'.τ[b]?=J o)(h:TV q E P w v):TV q' E' P w v:=
 h.rec (motive:=λP w v u=>(∀b∈P,∀o,q.τ[b]?=J o->q'.τ[b]?=J o)->TV q' E' P w v) (λh u=>.val (d h)) (λh k=>.own (h.map d (k _ sa))) e
theorem TS.map(f:ck q q' E E')(h:TS q E P ws vs):(∀b∈P,∀o,q.τ[b]?=J o->q'.τ[b]?=J o)->TS q' E' P ws vs:=
 h.rec (motive:=λP w v u=>(∀b∈P,∀o,q.τ[b]?=J o->q'.τ[b]?=J o)->TS q' E' P w v) (λu=>.nil) λa u d k=>.cons (a.map f λb e=>k b (Ke _ e)) (d λb e=>k b (Od _ e))
theorem Qd.ts{ws:List W}{vs:List V}(h:Qd q E ws vs):TS q E [] ws vs:=h.ind (P:=TS q E []) .nil λu u u u a u d=>.cons (.val a) d
theorem xj.push(F:xj X P T S ow q)(d:Mine.Internal.O):Le q ⟨q.L,q.σ,q.τ++[d]⟩/\xj X (P++[q.τ.length]) T S ow ⟨q.L,q.σ,q.τ++[d]⟩/\ck q ⟨q.L,q.σ,q.τ++[d]⟩ (EX X (Ow P T ow)) (EX X (Ow (P++[q.τ.length]) T ow)):=by
 refine aa λg=>?_;obtain⟨r,x⟩:=F.rl.push d;refine g ?_;have C:ck q ⟨q.L,q.σ,q.τ++[d]⟩ (EX X (Ow P T ow)) (EX X (Ow (P++[q.τ.length]) T ow)):=λz=>(x.fresh (λb h=>Gd (Ra.mp h).symm:∀b∈[q.τ.length],q.τ.length<=b)).carry z;have hEx:∀a,EX X (Ow (P++[q.τ.length]) T ow) a->EX X (Ow P T ow) a\/a=q.τ.length:=λa z=>z.elim (λz=>.inl (.inl z)) λz=>(JE.mp z).imp .inr λz=>Ra.mp z;have f:∀{a},Ow P T ow a->a<q.τ.length:=λz=>F.rl.elt _ (.inr z);refine⟨x,⟨⟨r.inj,r.lt,λp u z=>(hEx _ z).elim (r.sep p u) λe=>fc _ (e▸F.rl.lt p u),λa z=>(hEx a z).elim (r.elt a) λe=>e▸(by show _<(q.τ++[d]).length;refine U Ha ?_;exact Vc _),λi o e=>(F.rl.obj i o e).map C e λp j u=>⟨rfl,λo e=>Nh e⟩⟩,
  F.len,F.no,λi w e h=>(F.val i w e h).imp λj z=>⟨z.1,C z.2⟩,λi c e=>⟨(F.own i c e).1,(F.own i c e).2.map C λo e=>Nh e⟩,F.inj,λa z=>(JE.mp z).elim (F.sep a) λz y=>fc _ ((Ra.mp z)▸F.rl.elt a (.inl y)),
  ?_,λi c e z=>(Vb.mp z).elim (F.ps i c e) λz=>fc _ ((Ra.mp z)▸f (.inl ⟨i,c,e,rfl⟩))⟩,C⟩
 exact Zh.mpr ⟨F.pn,Ec.mpr ⟨Jb,.nil⟩,λa k b l e=>fc _ ((e.trans (Ra.mp l))▸f (.inr k))⟩
variable {K:Yp} {I:Nat->List V->St->Option (V×St)} {D B:Type} {A:Wd->(Nat->Prop)->List Nat->D->B->Prop}
theorem AI.le(F:xj X P T S ow q){x:Option (D×wb)}{y:Option (B×St)}{d:Wd->D->B->Prop}(h:SX (EX X (Ow P T ow)) q d x y)(e:∀q' a b,d q' a b->A q' (EX X (Ow P T ow)) [] a b):Sb (AI X P T S ow q A) x y:=
 Sb.imp h λa b p=>p.rec λL x r z=>.mk L [] x (λu h=>(Jb h).elim) (by refine U (Ub _) ?_;exact F.le x r) (by refine U (Ub _) ?_;exact e _ _ _ z)
theorem vu(F:xj X P T S ow q){d:Mine.Internal.O}(h:VO q (EX X (Ow P T ow)) c d):AI X P T S ow q TV (.o c,q.σ) (.ref q.τ.length,q.τ++[d]):=
 (F.push d).elim λx z=>z.elim λe C=>.mk q.L [q.τ.length] x (λb h=>Gd (Ra.mp h).symm) e (.own (.of Zv (h.map C)))
theorem AI.up{x:Option (D×wb)}{y:Option (B×St)}(h:Le q q')(d:Sb (AI X P T S ow q' A) x y):Sb (AI X P T S ow q A) x y:=Sb.imp d λu u p=>p.rec λe Q f g j k=>.mk e Q (h.trans f) (λb l=>Za h.len (g b l)) j k
theorem AI.bind(F:xj X P T S ow q){d e:Type}{f:Wd->d->e->Prop}{x:Option (d×wb)}{y:Option (e×St)}{k:d×wb->Option (D×wb)}{k2:e×St->Option (B×St)}(h:SX (EX X (Ow P T ow)) q f x y)
 (g:∀q' a b,Le q q'->xj X P T S ow q'->f q' a b->Sb (AI X P T S ow q' A) (k (a,q'.σ)) (k2 (b,q'.τ))):Sb (AI X P T S ow q A) (x.bind k) (y.bind k2):=
 Sb.wY h λa b p=>p.rec λL x r z=>AI.up x (g ⟨L,a.2,b.2⟩ a.1 b.1 x (F.le x r) z)
theorem Mr{K:Nat->List V->St->Option (V×St)}{x:Mine.Internal.X}{T:Me}{d:St}:Ji (R.w N) K [x] T d=(evX (R.w N) K x T d).map λp=>([p.1],p.2):=by
 show(evX (R.w N) K x T d).bind _=_
 induction evX (R.w N) K x T d<;>rfl
theorem zM{K:Nat->List V->St->Option (V×St)}{k e:Mine.Internal.X}{T:Me}{d:St}:evX (R.w N) K (.dict [k] [e]) T d=(evX (R.w N) K k T d).bind λp=>(evX (R.w N) K e T p.2).bind λq=>jG p.1 q.1 q.2:=by
 show(Ji (R.w N) K [k] T d).bind (λp=>(Ji (R.w N) K [e] T p.2).bind λq=>lG p.1 q.1 q.2)=_
 refine U Mr ?_
 induction evX (R.w N) K k T d with
 |none=>rfl|some p=>
  show(Ji (R.w N) K [e] T p.2).bind (λq=>lG [p.1] q.1 q.2)=(evX (R.w N) K e T p.2).bind _
  refine U Mr ?_
  induction evX (R.w N) K e T p.2<;>rfl
theorem WY{K:Nat->List V->St->Option (V×St)}{a b:Mine.Internal.X}{T:Me}{d:St}:evX (R.w N) K (.bin .Mult (.list [a]) b) T d=(evX (R.w N) K a T d).bind λp=>(evX (R.w N) K b T (p.2++[.list [p.1]])).bind λq=>XT (.ref p.2.length) q.1 q.2:=by
 show((Ji (R.w N) K [a] T d).bind λp=>cj p.1 p.2).bind (λp=>(evX (R.w N) K b T p.2).bind λq=>XT p.1 q.1 q.2)=_
 refine U Mr ?_
 induction evX (R.w N) K a T d<;>rfl
variable (hs:∀a xs,G a=J xs->N a=J xs) (C:wn K I)
include hs C
theorem rm(F:xj X P T S ow q)(e:Mine.Internal.X):Sb (AI X P T S ow q TV) (JM R G K e T q.σ) (evX (R.w N) I e S q.τ):=
 AI.le F (wz (Oc hs C e) q T S F.rl F.wS) λu u u z=>.val z
theorem HM(F:xj X P T S ow q)(a b:Mine.Internal.X):Sb (AI X P T S ow q TV) (GM R G K a b T q.σ) (evX (R.w N) I (.bin .Mult (.list [a]) b) S q.τ):=by
 refine U WY (AI.bind F (Oc hs C a q T S F.rl F.wS) λe w v x1 f z1=>Sb.wJ λl m=>?_);obtain⟨r,x⟩:=f.rl.push (.list [v]);have z:VS ⟨e.L,e.σ,e.τ++[.list [v]]⟩ (EX X (Ow P T ow)) (.l [l]) (.ref e.τ.length):=VS.l (q:=⟨e.L,e.σ,e.τ++[.list [v]]⟩) f.rl.top Zv (.cons ((z1.grd m).mono x) .nil);refine AI.up x (AI.bind (q:=⟨e.L,e.σ,e.τ++[.list [v]]⟩) (f.le x r) (Oc hs C b _ T S r (f.le x r).wS) λo k k' p L z2=>Sb.wJ λi ei=>(aa λnq=>?_));obtain⟨d,g,e1,e2,h⟩:=(z.mono p).wF;cases e1;refine nq ?_
 induction g using ma with
 |nil=>exact zc h.len (Yb _)|cons y g=>
  induction g using ma with
  |cons v g=>exact zc (Jh h.len).symm (Yb _)|nil=>
   refine U (z2.wZ ei) ?_;show Sb _ _ (((tc o.τ e.τ.length).bind one).bind _)
   refine U (ie e2) (Sb.okmb λj=>?_);have j:=Ml j;show Sb _ _ ((Ie (Ud (Ia i.toNat y).length)).map _)
   have ho:Ud i.toNat=Z:=ud.mpr (by lia);exact U Og (U ho (Sb.ok (vu L (.l (Qd.rep h.uncons.1 _)))))
theorem EM(F:xj X P T S ow q)(k e:Mine.Internal.X):Sb (AI X P T S ow q TV) (K7 R G K k e T q.σ) (evX (R.w N) I (.dict [k] [e]) S q.τ):=by
 refine U zM (AI.bind F (Oc hs C k q T S F.rl F.wS) λf w v l d z1=>Sb.wJ λa g=>(U (z1.wZ g) (AI.bind d (Oc hs C e f T S d.rl d.wS) λm u y o h z2=>Sb.lookm λp j=>?_)));exact Sb.ok (vu h (.dic rfl (.cons (z2.grd j) .nil)))
theorem MM(F:xj X P T S ow q)(e:Mine.Internal.X):Sb (AI X P T S ow q TV) (fV R G K e T q.σ) (evX (R.w N) I e S q.τ):=by
 induction e using Mine.Internal.X.casesOn<;>try exact rm hs C F _
 ·skip
  show Sb _ (match wt op a with|some c=>GM R G K c b T q.σ|none=>JM R G K (.bin op a b) T q.σ) _
  induction e:wt op a with
  |none=>exact rm hs C F _|some c=>
   obtain⟨rfl,rfl⟩:op=.Mult/\a=.list [c]:=by
    induction a using Mine.Internal.X.casesOn<;>try exact ja e
    match xs,e with
    |[d],e=>induction op<;>first|exact ja e|exact⟨rfl,by obtain rfl:=ba e;rfl⟩
   exact HM hs C F c b
 ·skip
  exact AI.bind F (qj hs C xs q T S F.rl F.wS) λq1 ws vs x1 F1 z1=>Sb.okm (Gc Ud z1.len) λu=>vu F1 (.l z1)
 ·skip
  match ks,vs with
  |[],[]=>exact Sb.ok (vu F (.dic rfl .nil))|[k],[v]=>exact EM hs C F k v|[],y::z=>exact rm hs C F _|[y],[]=>exact rm hs C F _|[y],z::j::f=>exact rm hs C F _|y::z::j,f=>exact rm hs C F _
theorem iT:∀(d:List Mine.Internal.X){P:List Nat}{q:Wd},xj X P T S ow q->Sb (AI X P T S ow q TS) (qaF R G K d T q.σ) (Ji (R.w N) I d S q.τ):=by
 intro d
 induction d with
 |nil=>
  rintro P q F;exact Sb.ok (.mk q.L [] .refl (λy h=>(Jb h).elim) (by refine U (Ub _) ?_;exact F) .nil)
 |cons e d l=>
  rintro P q F;exact Sb.wY (MM hs C F e) λa b p=>p.rec λL Q x m j z=>Sb.map2 (l j) λa2 b2 r=>r.rec λy Q2 g f k z2=>by
   rw[Cc]at k z2;exact .mk y (Q++Q2) (x.trans g) (λb h=>(Vb.mp h).elim (m b) λh=>Za x.len (f b h)) k
    (.cons (z.map (by refine Bd (Cc _ _ _) ?_;exact(g.fresh f).carry) λb h o e=>g.keep b o e λp u z=>j.rl.sep p u (.inr (.inr (Od _ (z▸h))))) z2)
end
section
variable {k:Int} {z:Mine.Internal.O} {a:Nat} {A:W} {D:V}
inductive lR(X:Nat->Prop)(P:List Nat)(O:Nat->Prop)(q:Wd)(a:jc×wb)(b:Me×St):Prop
 |mk (L:lr->Nat) (ow:Nat->Nat):Gu O (Ow P a.1 ow) q ⟨L,a.2,b.2⟩->(∀b'∈P,∀o,q.τ[b']?=J o->b.2[b']?=J o)->xj X P a.1 b.1 ow ⟨L,a.2,b.2⟩->lR X P O q a b
noncomputable def vF(L:lr->Nat)(i:Nat)(n:Bb)(b:Nat)(d:lr):Nat:=match d with|.a e=>L (.a e)|.d e=>L (.d e)|.f e f=>if e=i/\f=n then b else L (.f e f)
variable {q F l:Wd} {E m X O j:Nat->Prop} {w u c:W} {v x:V} {K:Bh} {s I:Nat->Option (List Int)} {n:Bb} {i b:Nat} {P Q:List Nat} {N:jc} {R:Me} {ow:Nat->Nat} {r:List W} {B:List V}
theorem iC(h:VS q E u x){B:List W}:{f:List (Int×V)}->Qd q E B (f.map λx=>x.2)->(cw f k x).map (λx=>x.1)=OJ (f.map λx=>x.1) k/\Qd q E (MJ (f.map λx=>x.1) B k u) ((cw f k x).map λx=>x.2):=by
 induction B with
 |nil=>
  intro f d
  induction f using ma with
  |nil=>exact⟨rfl,.cons h .nil⟩|cons u e=>exact zc d.len.symm (Yb _)
 |cons w B g=>
  intro f d
  induction f using ma with
  |nil=>exact zc d.len (Yb _)|cons p f=>
   obtain⟨a,e⟩:=p;have g:=g d.uncons.2;show(if a=k then(a,x)::f else(a,e)::cw f k x).map (λx=>x.1)=(if a=k then a::f.map λx=>x.1 else a::OJ (f.map λx=>x.1) k)/\Qd q E (if a=k then u::B else w::MJ (f.map λx=>x.1) B k u) ((if a=k then(a,x)::f else(a,e)::cw f k x).map λx=>x.2)
   by_cases c:a=k
   ·exact U (Fd c) (U (Fd c) (U (Fd c) (⟨rfl,.cons h d.uncons.2⟩)))
   ·exact U (ge c) (U (ge c) (U (ge c) (⟨Gc (λx=>a::x) g.1,.cons d.uncons.1 g.2⟩)))
theorem dC(d:VO q E c z)(h:VS q E u x):Sb (VO q E) (kP k u c) (WU (.int k) x z):=
 d.rec (λ{xs ys} d=>by
  show Sb _ ((Nl xs.length k).bind λi=>(K1 xs u i).map W.l) ((Nl ys.length k).bind λi=>(K9 ys x i).map Mine.Internal.O.list)
  refine U d.len (Sb.wT Sb.rf λi=>?_);show Sb _ ((if i<xs.length then J (xs.set i u)else Y).map W.l) ((if i<ys.length then J (ys.set i x)else Y).map Mine.Internal.O.list)
  refine U d.len ?_;by_cases c:i<ys.length
  ·exact U (Fd c) (U (Fd c) (Sb.ok (.l (d.set i h))))
  ·refine U (ge c) ?_;exact Sb.no) λ{ks B es} e d=>by
  subst e;exact Sb.okm (by exact U (wa _) rfl) λf=>.dic (iC h d).1 (iC h d).2
theorem qeZ(e:q.L (.f i n)=a)(h:VC q E c a):FV q E i n (.o c) (.ref a):=by subst e;exact .o h
theorem aN(L:xj X (b::P) N R ow q)(x1:VB q (EX X (Ow (b::P) N ow)) w v)(k:VC q (EX X (Ow (b::P) N ow)) c b):Sb (λe g=>lR X P (Ow (b::P) N ow) q (N,e) (R,g)) ((xk w).bind (Bo K n (.o c) q.σ)) (Pn (K.w I) v n (.ref b) q.τ):=Sb.wJ λi x2=>by
 obtain⟨hi,rfl⟩:=x1.ref_of x2;obtain⟨x3,ho,OO⟩:=L.rl.get hi;unfold Bo;refine U ho ?_;cases OO with
 |sd=>exact .no| @inst cl fs es e1 e2 FF=>
  show Sb _ ((Ie _).bind _) ((ri q.τ (q.L (.a i))).bind _)
  refine U (qo e1) ?_;show Sb _ _ ((Uq q.τ (q.L (.d i))).bind _)
  have hl:fs.length=es.length:=by have:=Gc kj FF.keys;rw[wa,wa]at this;exact this
  refine U (Vq e2) ?_;show Sb _ ((Ie (K.attr cl n&&bc fs.length 900)).bind _) ((Ie (K.attr cl n&&bc es.length 900)).map _)
  refine U hl ?_
  induction hb:(K.attr cl n&&bc es.length 900)with
  |false=>exact .no|true=>
   refine Sb.lookm λgs eg=>Sb.ok ?_;have T:=L.rl;obtain⟨rfl,hn⟩:=dw eg;have hd:Tg q.σ (.d i):=⟨_,_,ho,rfl⟩;have hO:Ow (b::P) N ow b:=.inr sa;have Eb:EX X (Ow (b::P) N ow) b:=.inr hO;have x6:∀a,Ow P N ow a->Ow (b::P) N ow a:=λa e=>e.imp_right (oa _);have x5:∀p,Tg q.σ p->Tg (q.σ.set i ⟨J cl,fj fs n (.o c)⟩) p/\vF q.L i n b p=q.L p:=λp u=>⟨bD (o1:=⟨J cl,fj fs n (.o c)⟩) ho rfl (λg d x2=>by
    refine U (Bj _ _ _ _) ?_;by_cases cc:n=g
    ·exact⟨c,Fd cc⟩
    ·exact⟨d,(ge cc).trans x2⟩) u,by
    induction p with
    |f h g=>
     refine ge λe=>?_;obtain⟨rfl,rfl⟩:=e;obtain⟨d,x2⟩:=u;obtain⟨o',o,e4⟩:=Fa.mp x2;rw[ho]at o;obtain rfl:=ba o;exact hn d e4
    |_=>rfl⟩
   have x7:∀p,Tg (q.σ.set i ⟨J cl,fj fs n (.o c)⟩) p->Tg q.σ p\/p=.f i n:=λp u=>by
    induction p with
    |a h=>exact .inl (by have:h<(q.σ.set i _).length:=u;rw[yb]at this;exact this)|d h=>
     refine aa λnq=>?_;obtain⟨o',c',x2,o⟩:=u;refine nq ?_;clear nq;rcases tj x2 with⟨rfl,rfl⟩|⟨_,x2⟩
     ·exact .inl hd
     ·exact .inl ⟨o',c',x2,o⟩
    |f h g=>
     obtain⟨d,x2⟩:=u;obtain⟨o',o,e4⟩:=Fa.mp x2;rcases tj o with⟨rfl,rfl⟩|⟨_,o⟩
     ·replace e4:ee (fj fs n (.o c)) g=J (.o d):=e4
      rw[Bj]at e4;by_cases cc:n=g
      ·exact .inr (cc▸rfl)
      ·rw[ge cc]at e4;exact .inl ⟨d,Fa.mpr ⟨_,ho,e4⟩⟩
     ·exact .inl ⟨d,Fa.mpr ⟨o',o,e4⟩⟩
   have Lf:vF q.L i n b (.f i n)=b:=Fd ⟨rfl,rfl⟩;have S:Gu (Ow (b::P) N ow) (Ow P N ow) q ⟨vF q.L i n b,q.σ.set i ⟨J cl,fj fs n (.o c)⟩,q.τ.set (q.L (.d i)) (.h (Gh es n (.ref b)))⟩:=
    ⟨Gd yb.symm,x5,λp u=>(x7 p u).imp_right λe=>.inr (by refine U e ?_;show Ow _ _ _ (vF q.L i n b (.f i n));refine U Lf ?_;exact hO),λa x3 x2 x1 x4=>cg x2 (x1 _ hd),λa e=>.inl (x6 a e)⟩
   have Cy:ck q ⟨vF q.L i n b,q.σ.set i ⟨J cl,fj fs n (.o c)⟩,q.τ.set (q.L (.d i)) (.h (Gh es n (.ref b)))⟩ (EX X (Ow (b::P) N ow)) (EX X (Ow P N ow)):=λe=>S.carry e;have ke:∀{a},EX X (Ow (b::P) N ow) a->∀x3,q.τ[a]?=J x3->(q.τ.set (q.L (.d i)) (.h (Gh es n (.ref b))))[a]?=J x3:=λe x3 x2=>cg x2 λo=>T.sep _ hd (o▸e);have x8:∀{a},a<q.τ.length->a<(q.τ.set (q.L (.d i)) (.h (Gh es n (.ref b)))).length:=λe=>by refine U yb ?_;exact e
   have kp:∀{p},Tg q.σ p->p≠ .d i->∀x3,q.τ[q.L p]?=J x3->(q.τ.set (q.L (.d i)) (.h (Gh es n (.ref b))))[q.L p]?=J x3:=λu hn x3 x2=>cg x2 λe=>hn (T.inj _ _ hd u e).symm;refine .mk (vF q.L i n b) ow S (λb' x9 x3 x2=>ke (.inr (.inr (oa _ x9))) x3 x2) ⟨⟨λp p' u u' x2=>?_,λp u=>x8 ((x7 p u).elim (λe=>ib (Gd (x5 p e).2) (T.lt p e)) λe=>by refine U e ?_;exact ib (Gd Lf) (T.elt b Eb)),λp u e=>(x7 p u).elim (λo=>T.sep p o (by refine Bd ((x5 p o).2) ?_;exact e.imp_right (x6 _))) λo=>(λe=>e.elim (L.sep b hO) λe=>e.elim ((by rintro⟨h,d,x2,e'⟩;exact L.ps h d x2 (e'▸sa))) (Ec.mp L.pn).1:¬EX X (Ow P N ow) b) (by rw[o]at e;refine Bd Lf ?_;exact e),λa e=>x8 (T.elt a (e.imp_right (x6 a))),λh o' x2=>?_⟩,
    L.len,L.no,λh u x2 x1=>(L.val h u x2 x1).imp λx4 e=>⟨e.1,Cy e.2⟩,λh d x2=>⟨(L.own h d x2).1,(L.own h d x2).2.map (λe=>Cy e) (ke (.inr (.inl ⟨h,d,x2,rfl⟩)))⟩,L.inj,λa e=>L.sep a (x6 a e),(Ec.mp L.pn).2,λh d x2 e=>L.ps h d x2 (oa _ e)⟩
   ·rcases x7 p u with o|rfl<;>rcases x7 p' u' with y'|rfl
    ·exact T.inj p p' o y' (((x5 p o).2.symm.trans x2).trans (x5 p' y').2)
    ·exact zc (((x5 p o).2.symm.trans x2).trans Lf) λe=>T.sep p o (by refine U e ?_;exact Eb)
    ·exact zc ((Lf.symm.trans x2).trans (x5 p' y').2) λe=>T.sep p' y' (by refine Bd e ?_;exact Eb)
    ·rfl
   ·rcases tj x2 with⟨rfl,rfl⟩|⟨y1,x2⟩
    ·exact .inst (kp (p:=.a i) hi (λe=>nomatch e) _ e1) (Hp e2) (FF.put (qeZ Lf (k.map (λe=>Cy e) (ke Eb))) λg hm w v x2 e=>FV.map (q':=⟨vF q.L i n b,q.σ.set i ⟨J cl,fj fs n (.o c)⟩,q.τ.set (q.L (.d i)) (.h (Gh es n (.ref b)))⟩) (λe=>Cy e) e λd y2=>by
      have um:Tg q.σ (.f i g):=⟨d,Fa.mpr ⟨_,ho,y2▸x2⟩⟩;exact⟨(x5 _ um).2,kp (p:=.f i g) um λe=>nomatch e⟩)
    ·exact(T.obj h o' x2).map (λe=>Cy e) x2 λp hp u=>⟨(x5 p u).2,kp u λe=>by rw[e]at hp;exact y1 hp⟩
theorem lR.of{f:jc}{e:Me}{g:Nat->Nat}{Q:List Nat}(d:xj X P f e g F)(S:Gu O (Ow P f g) q F)(k:∀b∈P,∀o,q.τ[b]?=J o->F.τ[b]?=J o):lR X P O q (f,F.σ) (e,F.τ):=.mk F.L g S k d
theorem lR.bind(d:xj X Q N R ow q)(hQ:∀b∈P,b∈Q){α β:Type}{V':Wd->α->β->Prop}{x:Option (α×wb)}{f:Option (β×St)}{k:α×wb->C4}{k2:β×St->Option (Me×St)}(h:SX (EX X (Ow Q N ow)) q V' x f)
 (hk:∀F a b,Le q F->xj X Q N R ow F->V' F a b->Sb (lR X P (Ow Q N ow) F) (k (a,F.σ)) (k2 (b,F.τ))):Sb (lR X P (Ow Q N ow) q) (x.bind k) (f.bind k2):=
 Sb.wY h λa b p=>p.rec λL x g T=>Sb.imp (hk ⟨L,a.2,b.2⟩ a.1 b.1 x (d.le x g) T) λu u p=>p.rec λL2 x1 S kp F2=>.mk L2 x1 (x.s.trans S) (λb hb o e=>kp b hb o (d.rl.eget x (.inr (.inr (hQ b hb))) e)) F2
variable {y:Yp} {G:Nat->List V->St->Option (V×St)}
theorem ww{d:St}(e:d[a]?=J z):yi (.ref a) (.int k) x d=(WU (.int k) x z).map (d.set a):=by
 show((d[a]?).bind _).map _=_;refine U e ?_;rfl
theorem OE(f:xj X P N R ow q)(hw:Oe N i=J w)(hv:Vk R i=J v)(k:VB q (EX X (Ow P N ow)) A D)(h:VS q (EX X (Ow P N ow)) u x):Sb (lR X P (Ow P N ow) q) (Tz i A u N q.σ w) ((yi v D x q.τ).map λσ=>(R,σ)):=by
 induction w using W.casesOn<;>try exact Sb.no
 ·rename Nat=>g
  refine aa λnq=>?_;obtain⟨v2,e1,p⟩:=f.val i _ hw rfl;obtain⟨hj,rfl⟩:=p.wF;refine nq ?_;clear nq;rw[hv]at e1;obtain rfl:=ba e1;refine Sb.wJ λL es=>(aa λnq=>?_);obtain⟨o,ho,OO⟩:=f.rl.get hj;refine nq ?_;clear nq;refine U ho (U (k.str_of es) ?_);cases OO with
  |inst=>exact Sb.no| @sd fs es e1 FF=>
   have hl:fs.length=es.length:=by have:=Gc kj FF.keys;rw[wa,wa]at this;exact this
   show Sb _ ((Ie (Ud fs.length)).bind λS=>(QJ fs L u).map _) ((((q.τ[q.L (.a g)]?).bind (WU (.str L) x)).map (q.τ.set (q.L (.a g)))).map _)
   refine U e1 ?_;show Sb _ _ ((((Ie (Ud es.length)).map _).map _).map _)
   refine U hl ?_
   induction Ud es.length with
   |false=>exact Sb.no|true=>
    refine Sb.lookm λgs eg=>Sb.ok ?_;obtain⟨rfl,hn⟩:=dw eg;have T:=f.rl.turn (o1:=⟨Y,fj fs L u⟩) (p0:=.a g) (ob:=.h (Gh es L x)) ho rfl hj rfl (AH h.nb hn) λX=>.sd (Hp e1) (FF.put (.val (h.mono X)) λd S w v e p=>p.mono X (λx1 hd=>⟨x1,Fa.mpr ⟨_,ho,hd▸e⟩⟩) λx1 hd o e'=>cg e' λp=>nomatch (f.rl.inj (.a g) (.f g d) hj ⟨x1,Fa.mpr ⟨_,ho,hd▸e⟩⟩ p));exact .mk q.L ow T.1.s (λb d o e=>f.rl.eget T.1 (.inr (.inr d)) e) (f.le T.1 T.2)
 ·rename W=>c
  refine aa λnq=>?_;obtain⟨e1,p⟩:=f.own i c hw;rw[hv]at e1;obtain rfl:=ba e1;obtain⟨z,S,zo⟩:=p.vo;refine nq ?_;clear nq;refine Sb.wJ λk' ek=>(U (k.wZ ek) (U (ww S) (Sb.map (k2:=λo=>(o.map (q.τ.set (ow i))).map λσ=>(R,σ)) (dC zo h) λc' x2 L=>Sb.ok ?_)));have g:=f.upd hw L;exact .mk q.L ow g.2 (λb d o e=>cg e λp=>f.ps i c hw (p▸d)) g.1
theorem Dp(f:Rl E q)(h:VB q E w v){i:Nat}(e:Am K n q.σ w=J i):Ki (K.w I) v n q.τ=J (.ref (q.L (.f i n)))/\Tg q.σ (.f i n):=by
 refine aa λL=>?_;obtain⟨g,e1,e2⟩:=Fa.mp e;refine L ?_;clear L;refine aa λL=>?_;obtain⟨u,S,e4⟩:=Fa.mp e2;refine L ?_;clear L;obtain⟨c,e5,rfl⟩:=bf.mp e4;obtain⟨d,T,e7⟩:=Fa.mp e5;cases Eo e7;obtain⟨v',e8,p⟩:=NA (tab:=K) (n:=n) f h u (Fa.mpr ⟨g,e1,S⟩);refine aa λL=>?_;obtain⟨o,ho,e9⟩:=Fa.mp T;refine L ?_;clear L;have hu:u=.fld g n:=by
  unfold Gx at S;rw[ho]at S;refine aa λL=>?_;obtain⟨cl,f1,f2⟩:=Fa.mp (show(o.cls.bind _)=J u from S);obtain⟨_,f3,f4⟩:=Fa.mp f2;refine L ?_;clear L;rw[e9]at f4;exact(ba f4).symm
 rw[hu]at p;rw[p.wF.2]at e8;exact⟨e8,c,T⟩
theorem bw(d:Rl E q)(g:Tg q.σ (.f i n))(k:VB q E A D)(h:VS q E u x):Sb (λe f=>Le q ⟨q.L,e,f⟩/\Rl E ⟨q.L,e,f⟩) (aw n A u q.σ i) (yi (.ref (q.L (.f i n))) D x q.τ):=by
 refine aa λo=>?_;obtain⟨c,e⟩:=g;obtain⟨z,p,L⟩:=(uq d e).vo;refine o ?_;unfold aw;refine U e ?_;exact Sb.wJ (x:=Ua A) λk' S=>(U (k.wZ S) (U (ww p) (Sb.map2 (dC L h) λc' T f=>uw d e f)))
variable (t:∀a xs,s a=J xs->I a=J xs) (C:wn y G)
include t C
theorem LM(d:xj X P N R ow q)(h:VS q (EX X (Ow P N ow)) u x)(o e:Mine.Internal.X):Sb (lR X P (Ow P N ow) q) (gT K s y o e u N q.σ) (IK (K.w I) G (.sub o e) x R q.τ):=by
 induction o using Mine.Internal.X.casesOn<;>try exact Sb.no
 ·rename Nat=>f
  show Sb _ ((fX K s y e N q.σ).bind λp=>(Oe N f).bind (Tz f p.1 u N p.2)) (((Vk R f).map λv=>(v,q.τ)).bind λp=>(evX (K.w I) G e R p.2).bind λq=>(yi p.1 q.1 x q.2).map λL=>(R,L))
  induction hw:Oe N f with
  |none=>exact Sb.wJ λg g=>Sb.no|some w=>
   refine aa λnq=>?_;obtain⟨v,hv,_⟩:=d.wS.at_ f w hw;refine nq (U hv ?_);show Sb _ _ ((evX (K.w I) G e R q.τ).bind λq=>(yi v q.1 x q.2).map λL=>(R,L))
   exact lR.bind d (λg h=>h) (Oc t C e q N R d.rl d.wS) λq1 A D x1 S z1=>OE S hw hv z1 (h.mono x1)
 ·rename Mine.Internal.X=>o
  show Sb _ ((fX K s y o N q.σ).bind _) (((evX (K.w I) G o R q.τ).bind λp=>(Ki (K.w I) p.1 n p.2).map λv=>(v,p.2)).bind λp=>(evX (K.w I) G e R p.2).bind λq=>(yi p.1 q.1 x q.2).map λL=>(R,L))
  refine U (Va _ _ _) (lR.bind d (λg h=>h) (Oc t C o q N R d.rl d.wS) λq1 w v x1 S z1=>Sb.wJ λi ei=>?_);obtain⟨eg,hu⟩:=Dp S.rl z1 ei;refine U eg ?_;show Sb _ _ ((evX (K.w I) G e R q1.τ).bind λq=>(yi (.ref (q1.L (.f i n))) q.1 x q.2).map λL=>(R,L))
  exact lR.bind S (λg h=>h) (Oc t C e q1 N R S.rl S.wS) λq2 A D p g z2=>by
   have f:=p.usd _ hu;exact Bd f.2 (Sb.map2 (bw g.rl f.1 z2 ((h.mono x1).mono p)) λL τ T=>.mk q2.L ow T.1.s (λb hb o e=>g.rl.eget T.1 (.inr (.inr hb)) e) (g.le T.1 T.2))
mutual
theorem IM:∀(d:Mine.Internal.T){Q P:List Nat}{w:W}{v:V}{N:jc}{R:Me}{ow:Nat->Nat}{q:Wd},xj X (Q++P) N R ow q->TV q (EX X (Ow (Q++P) N ow)) Q w v->Sb (lR X P (Ow (Q++P) N ow) q) (fP K s y d w N q.σ) (IK (K.w I) G d v R q.τ)
 |.x i,Q,P,w,v,N,R,ow,q,f,h=>Sb.okm (by exact U f.len rfl) λe=>by
  have e:=ud.mp e;cases h with
  |val h=>have S:=f.setV e h;exact .mk q.L ow S.2 (λg g g o=>o) S.1|own h=>obtain⟨p,S⟩:=f.setO e h;exact .mk q.L p S.2 (λg g g o=>o) S.1
 |.t e,Q,P,w,v,N,R,ow,q,f,h=>by
  cases h with
  |val h=>exact Sb.wY (Do (.val h)) λg g L=>sz e (Q:=[]) f L.ts|own h=>exact Sb.no
 |.attr p n,Q,P,w,v,N,R,ow,q,f,h=>lR.bind f (λg h=>Od _ h) (Oc t C p q N R f.rl f.wS) λq1 u e x1 F1 z1=>by
  have h1:=h.map (q':=q1) (E':=EX X (Ow (Q++P) N ow)) (λL=>L.mono x1) λb hb p o=>f.rl.eget x1 (.inr (.inr (Ke _ hb))) o;cases h1 with
  |val k=>exact Sb.map2 (fC F1.rl z1 k) λL τ T=>.mk q1.L ow T.1.s (λb hb p o=>F1.rl.eget T.1 (.inr (.inr hb)) o) (F1.le T.1 T.2)|own k=>exact Sb.map2 (aN F1 z1 k) λg g L=>L
 |.sub p o,Q,P,w,v,N,R,ow,q,f,h=>by
  cases h with
  |val h=>exact Sb.wJ λu e=>LM t C f ((qi e).1▸h) p o|own h=>exact Sb.no
theorem sz:∀(ts:List Mine.Internal.T){Q P:List Nat}{r:List W}{B:List V}{N:jc}{R:Me}{ow:Nat->Nat}{q:Wd},xj X (Q++P) N R ow q->TS q (EX X (Ow (Q++P) N ow)) Q r B->Sb (lR X P (Ow (Q++P) N ow) q) (L7 K s y ts r N q.σ) (cK (K.w I) G ts B R q.τ)
 |[],f,P,g,h,N,R,ow,q,T,o=>by
  cases o with
  |nil=>exact Sb.ok (.mk q.L ow .refl (λu u u p=>p) T)|cons=>exact Sb.no
 |d::ts,f,P,g,h,N,R,ow,q,T,o=>by
  cases o with
  |nil=>exact Sb.no| @cons Pa Pb w v r B a b=>
   rw[Cc]at T a b|-;refine Sb.wY (IM d T a) λL p' o=>o.rec λx1 x4 S kp F2=>?_;refine Sb.imp (sz ts (q:=⟨x1,L.2,p'.2⟩) F2 (b.map (λe=>S.carry e) λb hb e p=>kp b (Ke _ hb) e p)) λu u o=>o.rec λL3 x2 S3 x3 F3=>.mk L3 x2 (S.trans S3) (λb hb e p=>x3 b hb e (kp b (Od _ hb) e p)) F3
end
end
inductive qbi(q:Wd)(X:Nat->Prop):dW->Fl->Prop
 |next:qbi q X .next .next|ret {w:W} {v:V}:VS q X w v->qbi q X (.ret w) (.ret v)
inductive FA(X O:Nat->Prop)(q:Wd)(a:dW×jc×wb)(b:Fl×Me×St):Prop
 |mk (L:lr->Nat) (ow:Nat->Nat):Gu O (Ow [] a.2.1 ow) q ⟨L,a.2.2,b.2.2⟩->xj X [] a.2.1 b.2.1 ow ⟨L,a.2.2,b.2.2⟩->qbi ⟨L,a.2.2,b.2.2⟩ X a.1 b.1->FA X O q a b
def qaj(X O:Nat->Prop)(q:Wd)(xs:List W)(a:It):Prop:=∀O' q',Gu O O' q q'->∃ys,Qd q' (EX X O') xs ys/\∀k,ym a k q'.τ=J ys[k]?
section
variable {q q' G:Wd} {E C X O O':Nat->Prop} {w u c:W} {v x:V} {D:Bh} {B F:Nat->Option (List Int)} {n:Bb} {i b:Nat} {P Q:List Nat} {N:jc} {T:Me} {ow:Nat->Nat} {I xs:List W} {K ys:List V}
theorem FA.le{O':Nat->Prop}{a:dW×jc×wb}{b:Fl×Me×St}(S:Gu O O' q q')(p:FA X O' q' a b):FA X O q a b:=p.rec λL ow e d f=>.mk L ow (S.trans e) d f
theorem FA.go{p:jc×wb}{d:Me×St}(h:lR X [] O q p d):FA X O q (eZ p) (mJ d):=h.rec λL ow S u a=>.mk L ow S a .next
theorem FA.bind(d:xj X [] N T ow q){e f:Type}{g:Wd->e->f->Prop}{x:Option (e×wb)}{y:Option (f×St)}{k:e×wb->Wk}{k2:f×St->Option (Fl×Me×St)}(h:SX (EX X (Ow [] N ow)) q g x y)
 (j:∀q' a b,Le q q'->xj X [] N T ow q'->g q' a b->Sb (FA X (Ow [] N ow) q') (k (a,q'.σ)) (k2 (b,q'.τ))):Sb (FA X (Ow [] N ow) q) (x.bind k) (y.bind k2):=
 Sb.wY h λa b p=>p.rec λL x r z=>Sb.imp (j ⟨L,a.2,b.2⟩ a.1 b.1 x (d.le x r) z) λu u p=>p.le x.s
theorem FA.stay(a:xj X [] N T ow q):FA X (Ow [] N ow) q (.next,N,q.σ) (.next,T,q.τ):=.mk q.L ow .refl a .next
theorem FA.at(a:xj X [] N T ow q')(x:Le q q'):FA X (Ow [] N ow) q (.next,N,q'.σ) (.next,T,q'.τ):=(FA.stay a).le x.s
theorem Ew{k:jc->wb->Wk}{k2:Me->St->Option (Fl×Me×St)}{x:Wk}{y:Option (Fl×Me×St)}(h:Sb (FA X O q) x y)(e:∀q' N T ow,Gu O (Ow [] N ow) q q'->xj X [] N T ow q'->Sb (FA X (Ow [] N ow) q') (k N q'.σ) (k2 T q'.τ)):Sb (FA X O q) (x.bind (Dw k)) (y.bind (YC k2)):=
 Sb.wY h λa b p=>by
  obtain⟨f,N,g⟩:=a;obtain⟨l,T,j⟩:=b;obtain⟨L,ow,S,d,R⟩:=p;cases R with
  |next=>exact Sb.imp (e ⟨L,g,j⟩ N T ow S d) λu u p=>p.le S|ret z=>exact Sb.ok (.mk L ow S d (.ret z))
theorem qaj.st(h:Qd q (EX X O) xs ys):qaj X O q xs (.st ys):=λu u S=>⟨ys,ck.all (λz=>S.carry z) h,λu=>rfl⟩
theorem uJ(h:VB q (EX X O) w v):Sb (λxs it=>qaj X O q xs it/\xs.length<4900) (uy w) (bj v q.τ):=by
 have L:Sb (qaj X O q) (yN w) (bj v q.τ):=by
  induction w using W.casesOn<;>try exact Sb.no
  ·rw[h.wF.wF];exact Sb.mapR xu λu u z=>.st z
  ·obtain⟨ys,rfl,z⟩:=h.wF.wF
   exact Sb.ok (.st z)
  ·skip
   obtain⟨a,ys,rfl,e1,_⟩:=h.wF.wF;show Sb _ _ ((tc q.τ a).map _)
   refine U (ie e1) ?_;exact Sb.ok λO' q' S=>by
    refine aa λnq=>?_;obtain⟨b,us,e2,e3,z⟩:=(S.carry (h.wF:VS q (EX X O) (.l xs) (.ref a))).wF;cases e2;refine nq ?_;exact⟨us,z,λk=>by show(tc q'.τ a).map _=_;refine U (ie e3) ?_;rfl⟩
 exactλxs e=>by
  refine aa λnq=>(Vg e λys e1 e2=>?_);obtain⟨it,e3,z⟩:=L ys e1;obtain⟨rfl,hl⟩:=Pr e2;exact nq (⟨it,e3,z,hl⟩)
abbrev Pt(X:Nat->Prop)(f:jc->wb->Wk)(g:Me->St->Option (Fl×Me×St)):Prop:=∀q N T ow,xj X [] N T ow q->Sb (FA X (Ow [] N ow) q) (f N q.σ) (g T q.τ)
theorem By{r:Wd}{s:Nat->Prop}{f:W->jc->wb->Wk}{g:V->Me->St->Option (Fl×Me×St)}{k:It}(t:∀q N T ow w v,xj X [] N T ow q->VS q (EX X (Ow [] N ow)) w v->Sb (FA X (Ow [] N ow) q) (f w N q.σ) (g v T q.τ)):
 ∀(xs h:List W)(n:Nat)(q:Wd)(N:jc)(T:Me)(ow:Nat->Nat),Gu s (Ow [] N ow) r q->xj X [] N T ow q->qaj X s r (h++xs) k->xs.length<n->Sb (FA X (Ow [] N ow) q) (Kv f xs N q.σ) (Fq n k h.length g T q.τ):=by
 intro xs
 induction xs with
 |nil=>
  intro h n q N T ow S a d l
  induction n using Sa with
  |zero=>exact zc l (Xe _)|succ n=>
   refine aa λm=>?_;obtain⟨ys,z,e⟩:=d _ _ S;refine m ?_;show Sb _ _ ((ym k h.length q.τ).bind _)
   refine U (e _) (U (Qc (by rw[<-z.len,Ub];exact Gb _)) ?_);exact Sb.ok (.stay a)
 |cons w xs y=>
  intro h n q N T ow S a d l
  induction n using Sa with
  |zero=>exact zc l (Xe _)|succ n=>
   refine aa λm=>?_;obtain⟨ys,z,e⟩:=d _ _ S;obtain⟨v,A,L⟩:=z.get (i:=h.length) (x:=w) (by refine U (Ma (Gb _)) (U (jh _) ?_);rfl);refine m ?_;show Sb _ _ ((ym k h.length q.τ).bind _)
   refine U (e _) (U A (Ew (t q N T ow w v a L) λR o j p S1 F1=>?_));have:=y (h++[w]) n R o j p (S.trans S1) F1 (by refine U (Cc _ _ _) ?_;exact d) (Fg l);rw[Ha]at this;exact this
theorem DJ{t:jc->wb->X3}{k:Me->St->Option (Bool×St)}{f:jc->wb->Wk}{g:Me->St->Option (Fl×Me×St)}(m:∀E,Ot E (λu=>Eq) t k)(o:Pt X f g):(n:Nat)->Pt X (Lv t f n) (GB n k g):=by
 intro n
 induction n with
 |zero=>
  exactλu u u u u=>Sb.no
 |succ n p=>
  exactλq N T ow a=>FA.bind a (m _ q N T a.rl a.wS) λr b z A l e=>by
   subst e
   induction b with
   |false=>exact Sb.ok (.stay l)|true=>exact Ew (o r N T ow l) λs h d j S y=>p s h d j y
theorem Oy{t:CT}{f:jc->wb->Wk}{g:Me->St->Option (Fl×Me×St)}(k:Pt X f g)(d:xj X [] N T ow q)(h:VS q (EX X (Ow [] N ow)) w v):Sb (FA X (Ow [] N ow) q) ((Hx t w N).bind λa=>f a q.σ) ((jl t v T).bind λa=>g a q.τ):=by
 have e:∀(is:List Nat)(xs:List W)(ys:List V)(N:jc)(T:Me),xj X [] N T ow q->Qd q (EX X (Ow [] N ow)) xs ys->Sb (λm j=>xj X [] m j ow q/\Gu (Ow [] N ow) (Ow [] m ow) q q) (Dm is xs N) (ye is ys T):=by
  intro is
  induction is with
  |nil=>intro xs ys N T d h;induction xs using ma with
   |nil=>induction ys using ma with|nil=>exact Sb.ok ⟨d,.refl⟩|cons=>exact zc h.len.symm (Yb _)
   |cons=>exact Sb.no
  |cons i is l=>intro xs ys N T d h;induction xs using ma with
   |nil=>exact Sb.no|cons a xs=>induction ys using ma with
    |nil=>exact zc h.len (Yb _)|cons b ys=>
     show Sb _ (if i<N.length then _ else Y) (if i<T.length then _ else Y)
     refine Bd d.len ?_;by_cases c:i<N.length
     ·refine U (Fd c) (U (Fd c) ?_)
      have S:=d.setV c h.uncons.1;exact Sb.imp (l xs ys _ _ S.1 (ck.all (λz=>S.2.carry z) h.uncons.2)) λu u z=>⟨z.1,S.2.trans z.2⟩
     ·exact U (ge c) Sb.no
 have one:Sb (λm j=>xj X [] m j ow q/\Gu (Ow [] N ow) (Ow [] m ow) q q) (Hx t w N) (jl t v T):=by
  induction t with
  |x i=>
   show Sb _ (if i<N.length then _ else Y) (if i<T.length then _ else Y)
   refine Bd d.len ?_;by_cases c:i<N.length
   ·exact U (Fd c) (U (Fd c) (Sb.ok (d.setV c h)))
   ·exact U (ge c) Sb.no
  |t is=>exact Sb.wY (Do (.val h)) λu u z=>e is _ _ N T d z
 exact Sb.wY one λm j z=>Sb.imp (k q m j ow z.1) λu u p=>p.le z.2
class inductive G4(q:Wd)(E:Nat->Prop):List (List W)->List (List V)->Prop
 |nil:G4 q E [] []|cons {a:List W} {b:List V} {as:List (List W)} {bs:List (List V)}:Qd q E a b->G4 q E as bs->G4 q E (a::as) (b::bs)
theorem GD(h:Qd q E I K):Sb (G4 q E) (fm I) (Vn K):=
 h.ind (P:=λI K=>Sb (G4 q E) (fm I) (Vn K)) (Sb.ok .nil) λu u u u a u t=>Sb.wY (Do (.val a)) λu u z=>Sb.map2 t λu u t=>.cons z t
theorem qdq{as g j:List W}{f d e:List V}(h:Qd q E as f)(k:Qd q E g d)(l:Qd q E j e):Qd q E ((as.zip (g.zip j)).map λp=>W.t [p.1,p.2.1,p.2.2]) ((f.zip (d.zip e)).map λp=>V.t [p.1,p.2.1,p.2.2]):=
 h.ind (P:=λas f=>∀g j d e,Qd q E g d->Qd q E j e->Qd q E ((as.zip (g.zip j)).map λp=>W.t [p.1,p.2.1,p.2.2]) ((f.zip (d.zip e)).map λp=>V.t [p.1,p.2.1,p.2.2]))
  (λu u u u u u=>.nil)
  (λa as m f x u o g j d e k l=>k.ind (P:=λg d=>Qd q E (((a::as).zip (g.zip j)).map λp=>W.t [p.1,p.2.1,p.2.2]) (((m::f).zip (d.zip e)).map λp=>V.t [p.1,p.2.1,p.2.2])) .nil
   λb g r d y s u=>l.ind (P:=λj e=>Qd q E (((a::as).zip ((b::g).zip j)).map λp=>W.t [p.1,p.2.1,p.2.2]) (((m::f).zip ((r::d).zip e)).map λp=>V.t [p.1,p.2.1,p.2.2])) .nil
    λc j t e z p u=>.cons (.t (.cons x (.cons y (.cons z .nil)))) (o _ _ _ _ s p))
  _ _ _ _ k l
theorem YV{a:List (List W)}{b:List (List V)}(h:G4 q E a b):Sb (Qd q E) (qA a) (VV b):=by
 cases h with
 |nil=>exact Sb.no|cons d t=>cases t with|nil=>exact Sb.no|cons e t=>cases t with|nil=>exact Sb.no|cons f t=>cases t with|nil=>exact Sb.okm (by exact U d.len (U e.len (U f.len rfl))) λu=>qdq d e f|cons=>exact Sb.no
end
section
variable {l:Lm} {a:Nat} {A:St}
variable {q p t:Wd} {E s X O r:Nat->Prop} {w u c:W} {v x:V} {S:Bh} {B N:Nat->Option (List Int)} {n m:Bb} {i b:Nat} {P Q:List Nat} {K:jc} {R:Me} {ow:Nat->Nat} {y G:List W} {z F:List V}
theorem eT(h:VS q E u x):Sb (Qd q E) (sv u) (AW x q.τ):=by
 induction u using W.casesOn<;>try exact Sb.no
 ·rw[h.wF];exact xu
 ·obtain⟨a,F,rfl,e,d⟩:=h.wF
  show Sb _ _ (tc q.τ a)
  exact U (ie e) (Sb.ok d)
theorem TG(h:VS q E u x)(d:Qd q E G F)(l:Lm):Sb (Qd q E) (DZ l u G) (qaN l [x] q.τ F):=by
 induction l<;>try exact Sb.no
 ·exact Sb.okm (Gc Ud d.len) λe=>d.app (.cons h .nil)
 ·exact Sb.wY (eT h) λe e z2=>Sb.okm (by exact U d.len (U z2.len rfl)) λe=>d.app z2
theorem UN{d:List W}(e:DZ l u G=J d):GZ l=Z:=by induction l<;>first|rfl|exact ja e
theorem nw(e:A[a]?=J (.list F)):Zt (S.w N) (.ref a) m A=J (.lm a):=by
 show(A[a]?).bind _=_;refine U e ?_;rfl
variable {D:Yp} {L:Nat->List V->St->Option (V×St)}
theorem tE(e:A[a]?=J (.list F))(f:Vt m=J l)(g:GZ l=Z){d:List V}:MT a m d A=(qaN l d A F).map λh=>(.none,A.set a (.list h)):=by
 unfold MT;refine U f ?_;refine U (ie e) ?_;show JT l a d A F=_
 unfold JT;exact U g rfl
theorem S2(h:TS q E P y z):y.length=z.length:=by
 induction h with
 |nil=>rfl|cons u d e=>exact Gc (λx=>x+1) e
variable (I:∀a G,B a=J G->N a=J G) (C:wn D L)
include I C
theorem ZR(o:Mine.Internal.X)(e:Mine.Internal.X):Pt X (gY S B D m o e) (XD (S.w N) L (.expr (.meth o m [e]))):=λq K R ow d=>by
 induction o using Mine.Internal.X.casesOn<;>try exact Sb.no
 ·rename Nat=>j
  refine Sb.wJ λG x3=>(aa λk=>(Vg x3 λw hw ew=>(Vg ew λc ec el=>?_)));cases Eo ec;cases uo el;obtain⟨ev,f⟩:=d.own j _ hw;obtain⟨F,e1,_⟩:=f.wF;refine k ?_;show Sb _ _ ((((Vk R j).map λv=>(v,q.τ)).bind λg=>(Zt (S.w N) g.1 m g.2).bind λc=>(Ji (S.w N) L [e] R g.2).bind λq=>fy L c m q.1 q.2).bind _)
  refine U ev ?_;show Sb _ _ (((Zt (S.w N) (.ref (ow j)) m q.τ).bind _).bind _)
  refine U (nw e1) (U Mr (U xh (U (Va _ _ _) (FA.bind d (Oc I C e q K R d.rl d.wS) λq1 u x x1 F1 z1=>Sb.wJ λu' eu=>Sb.wJ λl hl=>(aa λk=>?_)))));obtain⟨e2,z2⟩:=F1.own j _ hw;obtain⟨us,e3,z3⟩:=z2.wF;refine k (Sb.lookm λzs ez=>(aa λk=>?_));obtain⟨x4,e4,z4⟩:=TG (z1.grd eu) z3 l zs ez;refine k ?_;show Sb _ _ ((MT (ow j) m [x] q1.τ).bind _)
  refine U (tE e3 hl (UN ez)) (U e4 ?_);have h:=F1.upd hw (c':=.l zs) (ob:=.list x4) (.l z4);exact Sb.ok (.mk q1.L ow h.2 h.1 .next)
 ·rename Mine.Internal.X=>o
  show Sb _ _ ((((evX (S.w N) L o R q.τ).bind λg=>(Ki (S.w N) g.1 n g.2).map λv=>(v,g.2)).bind λg=>(Zt (S.w N) g.1 m g.2).bind λc=>(Ji (S.w N) L [e] R g.2).bind λq=>fy L c m q.1 q.2).bind _)
  refine U (Va _ _ _) (U (Va _ _ _) (FA.bind d (Oc I C o q K R d.rl d.wS) λq1 w v x1 F1 z1=>Sb.wJ λi ei=>?_));obtain⟨eg,hu⟩:=Dp F1.rl z1 ei;refine U eg (Sb.wJ λx5 h=>?_);have g:∀{q G},Rl (EX X (Ow [] K ow)) q->(di q.σ i n).bind cs=J G->di q.σ i n=J (.o (.l G))/\∃F,q.τ[q.L (.f i n)]?=J (.list F)/\Qd q (EX X (Ow [] K ow)) G F:=λf e=>by
   refine aa λk=>(Vg e λw hw ew=>(Vg ew λc ec el=>?_));cases Eo ec;cases uo el;exact k (⟨hw,(uq f hw).wF⟩)
  refine aa λk=>?_;obtain⟨_,x6,e0,_⟩:=g F1.rl h;refine k ?_;show Sb _ _ (((Zt (S.w N) (.ref (q1.L (.f i n))) m q1.τ).bind _).bind _)
  refine U (nw e0) (U Mr (U xh (U (Va _ _ _) (FA.bind F1 (Oc I C e q1 K R F1.rl F1.wS) λq2 u x x2 j z2=>Sb.wJ λu' eu=>Sb.wJ λl hl=>Sb.wJ λG x3=>Sb.lookm λzs ez=>(aa λk=>?_)))));obtain⟨hw,F,e3,z3⟩:=g j.rl x3;rw[(x2.usd _ hu).2]at e3;obtain⟨x4,e4,z4⟩:=TG (z2.grd eu) z3 l zs ez;refine k ?_;show Sb _ _ ((MT (q1.L (.f i n)) m [x] q2.τ).bind _)
  refine U (tE e3 hl (UN ez)) (U e4 ?_);have T:=uw j.rl hw (VO.l z4);rw[(x2.usd _ hu).2]at T;exact Sb.ok (.at (j.le T.1 T.2) T.1)
theorem sT(o k e:Mine.Internal.X):Pt X (kZ S B D o k e) (XD (S.w N) L (.expr (.meth o "insert" [k,e]))):=λq K R ow g=>by
 induction o using Mine.Internal.X.casesOn<;>try exact Sb.no
 rename Nat=>j
 refine Sb.wJ λG x3=>(aa λnq=>(Vg x3 λw hw ew=>(Vg ew λc ec el=>?_)));cases Eo ec;cases uo el;obtain⟨ev,h⟩:=g.own j _ hw;obtain⟨F,e1,_⟩:=h.wF;refine nq ?_;show Sb _ _ ((((Vk R j).map λv=>(v,q.τ)).bind λT=>(Zt (S.w N) T.1 "insert" T.2).bind λc=>(Ji (S.w N) L [k,e] R T.2).bind λq=>fy L c "insert" q.1 q.2).bind _)
 refine U ev ?_;show Sb _ _ (((Zt (S.w N) (.ref (ow j)) "insert" q.τ).bind _).bind _)
 refine U (nw e1) ?_;show Sb _ _ ((((evX (S.w N) L k R q.τ).bind λT=>(Ji (S.w N) L [e] R T.2).map λq=>(T.1::q.1,q.2)).bind λq=>MT (ow j) "insert" q.1 q.2).bind _)
 refine U (Va _ _ _) (U (Va _ _ _) (FA.bind g (Oc I C k q K R g.rl g.wS) λq0 T y' x0 F0 z0=>Sb.wJ λk' ek=>(U (z0.wZ ek) (U Mr (U (sf _ _ _) (U xh ?_))))));refine FA.bind F0 (Oc I C e q0 K R F0.rl F0.wS) λq1 u x x1 F1 z1=>Sb.wJ λu' eu=>(aa λnq=>?_);obtain⟨e2,z2⟩:=F1.own j _ hw;obtain⟨us,e3,z3⟩:=z2.wF;refine nq (Sb.lookm λzs ez=>?_);show Sb _ _ ((MT (ow j) "insert" [.int k',x] q1.τ).bind _)
 refine U (tE e3 (by rfl:Vt "insert"=J .insert) rfl) ?_;refine Ds ez λf e5 x2=>?_;subst x2;have e6:qaN .insert [V.int k',x] q1.τ us=J (us.take k'.toNat++x::us.drop k'.toNat):=by
  show(Ie _).map _=_
  refine Bd z3.len (U e5 ?_);rfl
 refine U e6 ?_;have d:=F1.upd hw (c':=.l _) (ob:=.list _) (.l ((z3.take k'.toNat).app (.cons (z1.grd eu) (z3.drop k'.toNat))));exact Sb.ok (.mk q1.L ow d.2 d.1 .next)
theorem dS(o:Mine.Internal.X)(n:Bb)(i:Mine.Internal.X)(op:Je)(e:Mine.Internal.X):Pt X (λK σ=>(fX S B D o K σ).bind λf=>(Am S n f.2 f.1).bind λj=>jY S B D n i e op K f.2 j) (XD (S.w N) L (.aug (.attr o n) i op e)):=λq K R ow g=>by
 show Sb _ _ (((evX (S.w N) L o R q.τ).bind λf=>(Ki (S.w N) f.1 n f.2).map λv=>(v,f.2)).bind _)
 refine U (Va _ _ _) (FA.bind g (Oc I C o q K R g.rl g.wS) λq1 w v x1 F1 z1=>Sb.wJ λj ej=>?_);obtain⟨eg,hu⟩:=Dp F1.rl z1 ej;refine U eg ?_;show Sb _ _ ((evX (S.w N) L i R q1.τ).bind λq=>(XC (.ref (q1.L (.f j n))) q.1 q.2).bind λk=>(evX (S.w N) L e R q.2).bind λu=>(qh k).bind λx=>(qh u.1).bind λf=>(CL op x f).bind λh=>(yi (.ref (q1.L (.f j n))) q.1 (.int h) u.2).map λσ=>(Mine.Internal.Fl.next,R,σ))
 refine FA.bind F1 (Oc I C i q1 K R F1.rl F1.wS) λq2 iv x6 x2 F2 z2=>?_;have h:=x2.usd _ hu;refine Bd h.2 (Sb.wY (fI F2.rl (.fld h.1) z2) λk x5 zo=>FA.bind F2 (Oc I C e q2 K R F2.rl F2.wS) λq3 u f x3 F3 z3=>Sb.wT (pk (.val (zo.mono x3))) λa=>Sb.wT (pk z3) λb=>Sb.wT Sb.rf λd=>?_);have x4:=x3.usd _ h.1;exact Bd x4.2 (Sb.map2 (bw F3.rl x4.1 (z2.mono F2.rl x3) (.int d)) λσ A T=>.at (F3.le T.1 T.2) T.1)
theorem bS(d:Mine.Internal.T)(e:Mine.Internal.X):Pt X (hY S B D d e) (XD (S.w N) L (.assign d e)):=λq K R ow f=>by
 have one:{F':jc->wb->fo}->Sb (AI X [] K R ow q TV) (F' K q.σ) (evX (S.w N) L e R q.τ)->Sb (FA X (Ow [] K ow) q) ((F' K q.σ).bind λg=>(fP S B D d g.1 K g.2).map eZ) ((evX (S.w N) L e R q.τ).bind λg=>(IK (S.w N) L d g.1 R g.2).map mJ):=λh=>
  Sb.wY h λa b g=>g.rec λj Q x hq F1 k=>Sb.map2 (IM I C d (Q:=Q) (P:=[]) (q:=⟨j,a.2,b.2⟩) (by refine U (Ub _) ?_;exact F1) (by refine U (Ub _) ?_;exact k)) λg p' h=>(FA.go h).le (by refine U (Ub _) ?_;exact x.fresh hq)
 induction d using T.casesOn<;>try exact one (MM I C f e)
 show Sb _ (match sF e with|some o=>_|none=>_) _
 induction he:sF e with
 |none=>exact one (F':=JM S B D e) (rm I C f e)|some o=>
  have:e=.t o:=by induction e using Mine.Internal.X.casesOn<;>first|exact ja he|exact Gc Mine.Internal.X.t (ba he)
  subst this;show Sb _ _ (((Ji (S.w N) L o R q.τ).bind λg=>Cp g.1 g.2).bind _)
  rw[Va];refine Sb.wY (iT I C o f) λa b g=>g.rec λj Q x hq F1 k=>(U xh ?_);refine Sb.okb (Gc Ud (S2 k)) λu=>Sb.map2 (sz I C ts (Q:=Q) (P:=[]) (q:=⟨j,a.2,b.2⟩) (by refine U (Ub _) ?_;exact F1) (by refine U (Ub _) ?_;exact k)) λg p' h=>(FA.go h).le (by refine U (Ub _) ?_;exact x.fresh hq)
theorem xU(e:Mine.Internal.X):Pt X (λK f=>(qbJ S B D e K f).map λd=>(.ret d.1,K,d.2)) (XD (S.w N) L (.ret e)):=λq K R ow f=>by
 have g:Sb (FA X (Ow [] K ow) q) ((JM S B D e K q.σ).map λd=>(.ret d.1,K,d.2)) ((evX (S.w N) L e R q.τ).map λd=>(.ret d.1,R,d.2)):=Sb.map2 (wz (Oc I C e) q K R f.rl f.wS) λa b d=>d.rec λg x j o=>.mk g ow x.s (f.le x j) (.ret (o.sub λT o=>.inl o))
 induction e using Mine.Internal.X.casesOn<;>try exact g
 show Sb _ ((((Oe K i).bind j1).map _).map _) (((Vk R i).map _).map _)
 refine U (sf _ _ _) (U (sf _ _ _) (Sb.lookm λw ew=>(aa λnq=>(Vg ew λu hu er=>?_))));refine nq ?_;clear nq
 induction hb:tT u with
 |false=>
  refine aa λnq=>?_;obtain⟨v,e1,o⟩:=f.val i u hu hb;refine nq ?_;clear nq;have:w=u:=by induction u using W.casesOn<;>first|exact(ba er).symm|exact ja er|exact Ed hb
  exact U e1 (U this (Sb.ok (.mk q.L ow .refl f (.ret (o.sub λT o=>.inl o)))))
 |true=>
  induction u using W.casesOn<;>try exact Ed hb
  rename W=>c
  refine aa λnq=>?_;obtain rfl:=ba er;obtain⟨e1,o⟩:=f.own i _ hu;refine nq ?_;clear nq;have hO:Ow [] K ow (ow i):=.inl ⟨i,_,hu,rfl⟩;have nx:¬Ex q X (ow i):=λo=>o.elim (λh=>by obtain⟨d,v,k⟩:=h;exact f.rl.sep d v (k▸.inr hO)) (f.sep _ hO);exact U e1 (Sb.ok (.mk q.L ow .refl f (.ret (o.rec (motive:=λu a T=>¬Ex q X a->VS q X u (.ref a)) (λe h n=>.l n e (h.sub λT o=>.inl o)) (λe k h n=>.dic n e k (h.sub λT o=>.inl o)) nx))))
end
section
variable {q q' B:Wd} {E E' X O A:Nat->Prop} {w u c:W} {v x:V} {tab:Bh} {sc scr:Nat->Option (List Int)} {K:jc} {Q:Me} {ow:Nat->Nat} {T:List W} {args':List V}
variable {G:Yp} {I:Nat->List V->St->Option (V×St)}
theorem uM(h:VB q E w v):Sb Eq (pG w) (oG v):=by
 induction w using W.casesOn<;>first|exact Sb.no|(rw[(h.wF).wF];exact Sb.ok rfl)
theorem YS{eb:Nat->S}{s:SF}(h:XS eb s=Y):∃i,s=.frz i:=by induction s using SF.casesOn<;>first|exact⟨_,rfl⟩|exact ja h.symm
section
variable {F:Nat->jc->wb->Wk} {eb:Nat->S} (N:∀a xs,sc a=J xs->scr a=J xs) (C:wn G I) (D:∀i,Pt X (F i) (XD (tab.w scr) I (eb i)))
include N C D
mutual
theorem KM:∀(s:SF){p:S},XS eb s=J p->Pt X (fS tab sc G F s) (XD (tab.w scr) I p)
 |.q t e,y,h=>by obtain rfl:=ba h;exact bS N C t e|.aug o n i b e,y,h=>by obtain rfl:=ba h;exact dS N C o n i b e|.expr e,y,h=>by obtain rfl:=ba h;exactλq K Q ow d=>FA.bind d (Oc N C e q K Q d.rl d.wS) λj u u l g z=>Sb.map2 (uM z) λu u u=>FA.stay g|.app o m e,y,h=>by obtain rfl:=ba h;exact ZR N C o e|.ins o k e,y,h=>by obtain rfl:=ba h;exact sT N C o k e|.ifs t a b,y,h=>by obtain rfl:=ba h;exactλq K Q ow d=>FA.bind d (sm N C t q K Q d.rl d.wS) λj u u l g z=>Sb.ifB z (nk a j K Q ow g) (nk b j K Q ow g)|.whil t b,y,h=>by obtain rfl:=ba h;exact DJ (λu=>sm N C t) (nk b) 5000|.fors t e b,y,h=>by
  refine aa λk=>?_;obtain rfl:=ba h;refine k ?_;exactλq K Q ow d=>FA.bind d (Oc N C e q K Q d.rl d.wS) λj u u l g z=>Sb.wY (uJ z) λxs m f=>
   By (λq K Q ow w v d h=>Oy (nk b) d h) xs [] 5000 j K Q ow .refl g f.1 (Kt f.2 (by decide))
 |.forz t f b,y,h=>by
  refine aa λk=>?_;obtain rfl:=ba h;refine k ?_;exactλq K Q ow d=>FA.bind d (qj N C f q K Q d.rl d.wS) λj u u l g z=>by
   refine U (Va _ _ _) (Sb.wY (Sb.wY (GD z) λu u z=>YV z) λxs r z=>Sb.wJ λm e=>(aa λk=>?_));obtain⟨rfl,o⟩:=Pr e;exact k (By (λq K Q ow w v d h=>Oy (nk b) d h) m [] 5000 j K Q ow .refl g (.st z) (Kt o (by decide)))
 |.ret e,y,h=>by obtain rfl:=ba h;exact xU N C e|.frz y,j,h=>ja h|.blk i,y,h=>by obtain rfl:=ba h;exact D i
theorem nk(d:List SF):Pt X (hJ tab sc G F d) (rv (tab.w scr) I (nv eb d)):=match d with
 |[]=>λq K Q ow b=>Sb.ok (FA.stay b)|s::d=>λq K Q ow b=>by
  show Sb _ _ (rv (tab.w scr) I (match XS eb s with|some j=>j::nv eb d|none=>nv eb d) Q q.τ)
  induction h:XS eb s with
  |some j=>exact Ew (KM s h q K Q ow b) λk f e g S l=>nk d k f e g l|none=>
   obtain⟨i,rfl⟩:=YS h;show Sb _ ((((Oe K i).bind rK).map _).bind _) _
   refine U xh (Sb.wJ λc e=>(aa λf=>(Vg e λw g j=>?_)));cases Eo j;refine f ?_;have S:=b.frz g;exact Sb.imp (nk d q _ Q ow S.1) λu u p=>p.le S.2
end
end
theorem NT{eb:Nat->S}{s:SF}(h:Hv s=Z):∃b,XS eb s=J b:=by induction s using SF.casesOn<;>first|exact⟨_,rfl⟩|exact zc h ia
theorem sC{f:Nat->Option SF}(N:∀a xs,sc a=J xs->scr a=J xs)(C:wn G I)(d i:_):Pt X (Ge tab f sc G d i) (XD (tab.w scr) I (N4 f d i)):=match d,i with
 |0,i=>λu u u u u=>Sb.no|d+1,i=>λq K Q ow b=>by
  show Sb _ ((f i).bind _) (XD _ _ (((f i).bind (XS (N4 f d))).getD _) _ _)
  induction f i with
  |none=>exact Sb.no|some s=>
   show Sb _ ((Ie (Hv s)).bind _) _
   refine Sb.wJ λu e=>?_;obtain⟨h,g⟩:=NT (eb:=N4 f d) (Lq e);show Sb _ _ (XD _ _ ((XS (N4 f d) s).getD _) _ _)
   exact U g (KM N C (sC N C d) s g q K Q ow b)
theorem Fx{i:Nat}{k:Nat}(h:Oe (T.map J++Ia k Y) i=J w):T[i]?=J w:=by
 refine aa λd=>(Vg h λo b e=>?_);subst e;refine d ?_;rcases Zj i T.length with c|c
 ·rw[Xa (by refine U (wa _) ?_;exact c),Dc]at b
  refine Ds b λa f g=>?_;cases g;exact f
 ·rw[Ma (by refine U (wa _) ?_;exact c)]at b
  exact nomatch wA (Na b)
theorem xj.start(r:Rl E q)(h:Qd q E T args')(k:Nat):xj E [] (T.map J++Ia k Y) (args'.map J++Ia k Y) (λu=>0) q/\∀a,¬Ow [] (T.map J++Ia k Y) (λu=>0) a:=by
 have nob:∀i c,Oe (T.map J++Ia k Y) i≠J (.o c):=λi c e=>by
  obtain⟨v,_,z⟩:=h.get (Fx e);exact z.wF
 have no:∀a,¬Ow [] (T.map J++Ia k Y) (λu=>0) a:=λa z=>z.elim ((by rintro⟨i,c,e,_⟩;exact nob i c e)) λz=>(Jb z).elim;have hEx:∀a,EX E (Ow [] (T.map J++Ia k Y) λu=>0) a->E a:=λa z=>z.resolve_right (no a);refine⟨⟨r.sub hEx,by exact U Ha (U Ha (U (wa _) (U (wa _) (U h.len (U Og (U Og rfl)))))),λi e=>?_,λi w e u=>?_,λi c e=>(nob i c e).elim,λi j c c' e=>(nob i c e).elim,λa z=>(no a z).elim,.nil,λi c e=>(nob i c e).elim⟩,no⟩
 ·rcases Zj i T.length with c|c
  ·rw[Xa (by refine U (wa _) ?_;exact c),Dc,Wa c]at e
   cases e
  ·rw[Ma (by refine U (wa _) ?_;exact c),wa,Ue]at e
   refine U (Ma (by rw[wa,<-h.len];exact c)) (U (wa _) (U Ue (Bd h.len ?_)))
   split at e
   ·rename_i hh;exact U (Fd hh) rfl
   ·exact ja e
 ·obtain⟨v,e1,z⟩:=h.get (Fx e)
  refine⟨v,?_,z.sub hEx⟩;unfold Vk;refine U (Nh (by rw[Dc,e1];rfl:(args'.map J)[i]?=J (J v))) ?_;rfl
theorem Wz{e:Nat->Option SF}(N:∀a xs,sc a=J xs->scr a=J xs)(C:wn G I){fn:Sg}(r:Rl E q)(h:Qd q E T args'):SX E q (λx=>VS x E) (Wo tab e sc G fn T q.σ) (yP (tab.w scr) I (O4 e fn) args' q.τ):=by
 show SX E q _ ((Ie (Rb T.length fn.params)).bind _) ((Ie (Rb args'.length fn.params)).bind _)
 refine U h.len (Sb.okb rfl λu=>?_);obtain⟨d,j⟩:=xj.start r h (fn.slots - fn.params);refine Sb.map2 (nk N C (sC N C 4) fn.body q _ _ _ d) λa b p=>?_;obtain⟨f,K,l⟩:=a;obtain⟨m,Q,n⟩:=b;obtain⟨L,ow,S,k,R⟩:=p;have x:=S.le j;have g:=k.rl.sub λa z=>.inl z;cases R with
 |next=>exact .mk L x g VS.none|ret z=>exact .mk L x g z
theorem xt(p:lr)(u:Tg [] p):False:=by
 induction p with
 |a i=>exact Xe _ u|d i=>obtain⟨_,_,e,_⟩:=u;exact ja e|f i n=>obtain⟨_,e⟩:=u;exact ja e
theorem Pq(j:q'.τ=q.τ)(l:∀a,Ex q' E' a->Ex q E a){w:W}{v:V}(m:Jd w=Z)(o:VS q E w v):VS q' E' w v:=
 W.rec (motive_1:=λw=>∀v:V,Jd w=Z->VS q E w v->VS q' E' w v) (motive_2:=λf=>∀d:List V,Nb f=Z->Qd q E f d->Qd q' E' f d)
  (λv u h=>by rw[(h.wF:_=V.none)];exact .none) (λb v u h=>by rw[(h.wF:_=V.bool b)];exact .bool b) (λb v u h=>by rw[(h.wF:_=V.int b)];exact .int b)
  (λb v u h=>by rw[(h.wF:_=V.str b)];exact .str b) (λb v u h=>by rw[(h.wF:_=V.k b)];exact .k b) (λa b v u h=>by rw[(h.wF:_=V.rng a b)];exact .rng a b)
  (λb v u h=>by rw[(h.wF:_=V.iset b)];exact .iset b) (λxs b v e h=>by obtain⟨g,rfl,z⟩:=h.wF;exact .t (b _ e z))
  (λxs b v e h=>by cases h with|l n g z=>exact .l (λy=>n (l _ y)) (j▸g) (b _ e z))
  (λp xs b v e h=>by cases h with|dic n g k z=>exact .dic (λy=>n (l _ y)) (j▸g) k (b _ e z))
  (λi v e h=>zc e ia) (λi n v e h=>h.wF.elim) (λw b v e h=>h.wF.elim)
  (λd e h=>by induction d using ma with|nil=>exact .nil|cons=>exact zc h.len.symm (Yb _))
  (λw f b g d e h=>by induction d using ma with|nil=>exact zc h.len (Yb _)|cons=>exact .cons (b _ (Aa.mp e).1 h.uncons.1) (g _ (Aa.mp e).2 h.uncons.2)) w v m o
theorem Ls(f:q'.τ=q.τ)(g:∀a,Ex q' E' a->Ex q E a){b:List W}{d:List V}(e:Nb b=Z)(h:Qd q E b d):Qd q' E' b d:=by
 obtain⟨k,j,z2⟩:=(Pq f g (w:=.t b) e (.t h)).wF;cases j;exact z2
theorem aP(b:q'.τ=q.τ)(f:∀a,Ex q' E' a->Ex q E a){w:W}{a:Nat}(e:Jd w=Z)(h:VC q E w a):VC q' E' w a:=by
 cases h with
 |l d z=>exact .l (b▸d) (Ls b f e z)|dic d k z=>exact .dic (b▸d) k (Ls b f e z)
theorem NE:∀{b:List (Bb×W)}{n:Bb}{w:W},Kf b=Z->ee b n=J w->YO w=Z:=by
 intro b
 induction b with
 |nil=>exactλz e=>ja e|cons d r f=>
  intro n w h e;replace e:(if d.1=n then J d.2 else ee r n)=J w:=e
  split at e
  ·obtain rfl:=ba e;exact(Aa.mp h).1
  ·exact f (Aa.mp h).2 e
theorem Iy{b:wb}:∀{i:Nat}{o:OF},qe b=Z->b[i]?=J o->Kf o.fs=Z:=by
 induction b with
 |nil=>exactλu e=>ja e|cons x b d=>
  intro i o h e
  induction i using Sa with
  |zero=>obtain rfl:=ba e;exact(Aa.mp h).1|succ i=>exact d (Aa.mp h).2 e
theorem OS.shift{i j:Nat}{o:OF}(f:q'.τ=q.τ)(l:∀a,Ex q' E' a->Ex q E a)(m:q'.L (.a j)=q.L (.a i))(r:o.cls≠Y->q'.L (.d j)=q.L (.d i))(p:∀n c,ee o.fs n=J (.o c)->q'.L (.f j n)=q.L (.f i n))(s:Kf o.fs=Z)(h:OS q E i o):OS q' E' j o:=by
 have d:∀{d es},o.fs=d->FS q E i d es->FS q' E' j d es:=λg b=>⟨b.keys,λn w e=>by
  have k:=NE s (g▸e);obtain⟨v,t,z⟩:=b.at_ n w e;refine⟨v,t,?_⟩;cases z with
  |val z=>exact .val (Pq f l (by induction w using W.casesOn<;>first|exact k|exact zc z.nb ia) z)|o z=>exact(p n _ (g▸e))▸.o ((p n _ (g▸e)).symm▸aP f l k z)⟩
 cases h with
 |inst k t b=>exact .inst' m (r (BD _)) (f▸k) (f▸t) (d rfl b)|sd k b=>exact .sd' m (f▸k) (d rfl b)
noncomputable def own(z:lr):Nat:=match z with|.a i=>i|.d i=>i|.f i u=>i
noncomputable def tR(m:Nat)(z:lr):lr:=match z with|.a i=>.a (i+m)|.d i=>.d (i+m)|.f i n=>.f (i+m) n
noncomputable def sR(m:Nat)(z:lr):lr:=match z with|.a i=>.a (i - m)|.d i=>.d (i - m)|.f i n=>.f (i - m) n
theorem X0(m:Nat)(p:lr):¬own (tR m p)<m:=by induction p<;>exact Vd.mpr (We m _)
theorem Qy{m:Nat}{p:lr}(h:¬own p<m):tR m (sR m p)=p:=by
 have k:=Vd.mp h
 induction p with
 |a i=>exact Gc lr.a (Ar k)|d i=>exact Gc lr.d (Ar k)|f i n=>exact Gc (λx=>lr.f x n) (Ar k)
theorem vW{m:Nat}(p:lr):sR m (tR m p)=p:=by
 induction p with
 |a i=>exact Gc lr.a (zr i m)|d i=>exact Gc lr.d (zr i m)|f i n=>exact Gc (λx=>lr.f x n) (zr i m)
theorem uf{d b:wb}{p f:lr}(h:(∃i j,p=.a i/\f=.a j/\d[i]?=b[j]?)\/(∃i j,p=.d i/\f=.d j/\d[i]?=b[j]?)\/(∃i j n,p=.f i n/\f=.f j n/\d[i]?=b[j]?)):Tg d p->Tg b f:=by
 rcases h with⟨i,j,rfl,rfl,e⟩|⟨i,j,rfl,rfl,e⟩|⟨i,j,n,rfl,rfl,e⟩
 ·exactλu=>oh (e▸Wa u:b[j]?=J _)
 ·exact(by rintro⟨o,c,g,k⟩;exact⟨o,c,e▸g,k⟩)
 ·exact(by rintro⟨c,g⟩;exact⟨c,by unfold di at g|-;refine Bd e ?_;exact g⟩)
theorem Hm{b:wb}{m:Nat}{p:lr}:Tg (b.drop m) p↔Tg b (tR m p):=by
 have g:∀i:Nat,(b.drop m)[i]?=b[i+m]?:=λi=>by exact U FK (U (mi _ _) rfl)
 induction p with
 |a i=>exact⟨uf (.inl ⟨i,i+m,rfl,rfl,g i⟩),uf (.inl ⟨i+m,i,rfl,rfl,(g i).symm⟩)⟩|d i=>exact⟨uf (.inr (.inl ⟨i,i+m,rfl,rfl,g i⟩)),uf (.inr (.inl ⟨i+m,i,rfl,rfl,(g i).symm⟩))⟩|f i n=>exact⟨uf (.inr (.inr ⟨i,i+m,n,rfl,rfl,g i⟩)),uf (.inr (.inr ⟨i+m,i,n,rfl,rfl,(g i).symm⟩))⟩
theorem Rl.down(r:Rl E q)(m:Nat)(g:qe (q.σ.drop m)=Z):Rl (λa=>E a\/∃p,Tg q.σ p/\own p<m/\q.L p=a) ⟨λp=>q.L (tR m p),q.σ.drop m,q.τ⟩/\∀a,Ex ⟨λp=>q.L (tR m p),q.σ.drop m,q.τ⟩ (λa=>E a\/∃p,Tg q.σ p/\own p<m/\q.L p=a) a->Ex q E a:=by
 have f:∀a,Ex ⟨λp=>q.L (tR m p),q.σ.drop m,q.τ⟩ (λa=>E a\/∃p,Tg q.σ p/\own p<m/\q.L p=a) a->Ex q E a:=λa z=>z.elim ((by rintro⟨p,u,e⟩;exact .inl ⟨_,Hm.mp u,e⟩)) λz=>z.elim .inr (by rintro⟨p,u,_,e⟩;exact .inl ⟨p,u,e⟩);refine⟨⟨λp b u d e=>?_,λp u=>r.lt _ (Hm.mp u),λp u z=>?_,λa z=>z.elim (r.elt a) (by rintro⟨p,u,_,e⟩;exact e▸r.lt p u),λi o e=>?_⟩,f⟩
 ·have:=r.inj _ _ (Hm.mp u) (Hm.mp d) e
  exact Bd (vW (m:=m) p) (Bd (vW (m:=m) b) (U this rfl))
 ·exact z.elim (r.sep _ (Hm.mp u)) (by rintro⟨b,d,l,e⟩;exact X0 m p (r.inj b _ d (Hm.mp u) e▸l))
 ·have h:q.σ[i+m]?=J o:=by exact Bd e (U FK (U (mi _ _) rfl))
  exact(r.obj _ o h).shift (q:=q) (q':=⟨λp=>q.L (tR m p),q.σ.drop m,q.τ⟩) rfl f rfl (λy=>rfl) (λy y y=>rfl) (Iy g e)
theorem dJ{m:Nat}(hx:∀a,Ex q' E' a->Ex q E a)(ht:q'.τ=q.τ)(hl:∀i,m<=i->i<q.σ.length->i - m<q'.σ.length/\q'.L (.a (i - m))=q.L (.a i)):∀{ws us:List W}{vs:List V},eB m ws=J us->Qd q E ws vs->Qd q' E' us vs:=by
 intro ws
 induction ws with
 |nil=>
  intro us vs e h
  induction vs using ma with
  |nil=>obtain rfl:=ba e;exact .nil|cons=>exact zc h.len.symm (Yb _)
 |cons w ws ih=>
  intro us vs e h
  induction vs using ma with
  |nil=>exact zc h.len (Yb _)|cons v vs=>
   refine Vg e λu e1 e2=>?_;refine Ds e2 λus' e3 g=>?_;subst g;refine .cons ?_ (ih e3 h.uncons.2);have pl:(Ie (Jd w)).map (λy=>w)=J u->VS q' E' u v:=λe=>by
    refine Ds e λl e4 g=>?_;subst g;exact Pq ht hx (Lq e4) h.uncons.1
   induction w using W.casesOn<;>first|exact pl e1|skip
   replace e1:(if m<=i then J (W.ref (i - m))else Y)=J u:=e1
   split at e1
   ·rename_i c
    obtain rfl:=ba e1;obtain⟨hi,rfl⟩:=h.uncons.1.wF;exact(hl i c hi).2▸.ref (hl i c hi).1
   ·exact ja e1
theorem mQ{run:List W->wb->fo}{run':List V->St->Option (V×St)}(hr:∀E q T args',Rl E q->Qd q E T args'->SX E q (λx=>VS x E) (run T q.σ) (run' args' q.τ))(r:Rl E q)(h:Qd q E T args'):SX E q (λx=>VS x E) (U9 run T q.σ) (run' args' q.τ):=by
 refine Sb.wJ λm y=>Sb.wJ λy em=>Sb.wJ λws ew=>Sb.wJ λy ep=>Sb.wJ λp er=>?_;have hm:m<=q.σ.length:=Ml (Lq em);refine aa λnq=>?_;obtain⟨r1,hx⟩:=r.down m (Lq ep);have up:∀i,m<=i->i<q.σ.length->i - m<(q.σ.drop m).length/\q.L (tR m (.a (i - m)))=q.L (.a i):=λi c hi=>⟨by refine U Km ?_;lia,Gc q.L (Qy (p:=.a i) (Vd.mpr c))⟩;obtain⟨b,e1,P⟩:=hr _ ⟨λp=>q.L (tR m p),q.σ.drop m,q.τ⟩ ws args' r1 (dJ hx rfl up ew h) p er;refine nq ?_;clear nq;refine U e1 ?_;obtain⟨w,σ'⟩:=p;obtain⟨L,x,r2,z⟩:=P;refine Sb.lookm λy eq=>?_;obtain⟨pw,ph⟩:=Aa.mp (Lq eq);replace ph:qe (σ'.take (q.σ.length - m))=Z:=ph;have len:∀i,i<q.σ.length - m->i<σ'.length:=λi hi=>(x.usd (.a i) (show i<(q.σ.drop m).length by refine U Km ?_;exact hi)).1;have tl:(q.σ.take m).length=m:=by refine U ju ?_;lia
 have at_:∀i:Nat,(q.σ.take m++σ'.take (q.σ.length - m))[i]?=if i<m then q.σ[i]? else if i - m<q.σ.length - m then σ'[i - m]? else Y:=λi=>by
  by_cases c:i<m
  ·exact U (Fd c) (U (Xa (by rw[tl];exact c)) (U kr (U (Fd c) rfl)))
  ·exact U (ge c) (U (Ma (by rw[tl];exact Vd.mp c)) (U tl (U kr rfl)))
 have lo:{p:lr}->own p<m->(Tg (q.σ.take m++σ'.take (q.σ.length - m)) p↔Tg q.σ p):=λ{p} c=>by
  have g:=λi(c:i<m)=>(at_ i).trans (Fd c)
  induction p with
  |a i=>exact⟨uf (.inl ⟨i,i,rfl,rfl,g i c⟩),uf (.inl ⟨i,i,rfl,rfl,(g i c).symm⟩)⟩|d i=>exact⟨uf (.inr (.inl ⟨i,i,rfl,rfl,g i c⟩)),uf (.inr (.inl ⟨i,i,rfl,rfl,(g i c).symm⟩))⟩|f i n=>exact⟨uf (.inr (.inr ⟨i,i,n,rfl,rfl,g i c⟩)),uf (.inr (.inr ⟨i,i,n,rfl,rfl,(g i c).symm⟩))⟩
 have hi:{p:lr}->¬own p<m->Tg (q.σ.take m++σ'.take (q.σ.length - m)) p->Tg σ' (sR m p)/\own p - m<q.σ.length - m:=λ{p} c u=>by
  have g:=λi(c:¬i<m)=>(at_ i).trans (ge c);have k:own p - m<q.σ.length - m:=by
   have hne:(q.σ.take m++σ'.take (q.σ.length - m))[own p]?≠Y:=by
    induction p with
    |a i=>exactλz=>zc u (Vd.mpr (dh.mp z))|d i=>obtain⟨o,_,e,_⟩:=u;exactλz=>ja (z.symm.trans e)|f i n=>obtain⟨_,e⟩:=u;refine Vg e λo e j=>?_;exactλz=>ja (z.symm.trans e)
   rw[g _ c]at hne;exact qeD λc2=>hne (ge c2)
  refine⟨?_,k⟩
  induction p with
  |a i=>exact uf (.inl ⟨i,i - m,rfl,rfl,(g i c).trans (Fd k)⟩) u|d i=>exact uf (.inr (.inl ⟨i,i - m,rfl,rfl,(g i c).trans (Fd k)⟩)) u|f i n=>exact uf (.inr (.inr ⟨i,i - m,n,rfl,rfl,(g i c).trans (Fd k)⟩)) u
 have hi2:{p:lr}->¬own p<m->Tg q.σ p->Tg (q.σ.take m++σ'.take (q.σ.length - m)) p/\L (sR m p)=q.L p:=λ{p} c u=>by
  have u1:Tg (q.σ.drop m) (sR m p):=Hm.mpr ((Qy c).symm▸u);refine aa λnq=>?_;obtain⟨u2,e2⟩:=x.usd _ u1;refine nq ?_;clear nq;have g:=λi(c:¬i<m)(k:i - m<q.σ.length - m)=>((at_ i).trans (ge c)).trans (Fd k);refine⟨?_,e2.trans (Gc q.L (Qy c))⟩;have k:own p - m<q.σ.length - m:=by
   have:own p<q.σ.length:=by
    refine aa λnq=>?_
    induction p with
    |a i=>refine nq ?_;clear nq;exact u|d i=>refine nq ?_;clear nq;obtain⟨o,_,e,_⟩:=u;exact oh e|f i n=>refine nq ?_;clear nq;obtain⟨_,e⟩:=u;refine Vg e λo e j=>?_;exact oh e
   have:=Vd.mp c
   lia
  induction p with
  |a i=>exact uf (.inl ⟨i - m,i,rfl,rfl,(g i c k).symm⟩) u2|d i=>exact uf (.inr (.inl ⟨i - m,i,rfl,rfl,(g i c k).symm⟩)) u2|f i n=>exact uf (.inr (.inr ⟨i - m,i,n,rfl,rfl,(g i c k).symm⟩)) u2
 let L2:lr->Nat:=λp=>if own p<m then q.L p else L (sR m p)
 have l1:∀{p},own p<m->L2 p=q.L p:=λc=>Fd c;have l2:∀{p},¬own p<m->L2 p=L (sR m p):=λc=>ge c;have hEx:∀{p},own p<m->Tg q.σ p->(E (q.L p)\/∃p',Tg q.σ p'/\own p'<m/\q.L p'=q.L p):=λ{p} c u=>.inr ⟨p,u,c,rfl⟩;have x2:Le q ⟨L2,q.σ.take m++σ'.take (q.σ.length - m),b.2⟩:=⟨x.len,λp u=>by
  by_cases c:own p<m
  ·exact⟨(lo c).mpr u,l1 c⟩
  ·exact⟨(hi2 c u).1,(l2 c).trans (hi2 c u).2⟩,λp u=>by
  by_cases c:own p<m
  ·exact .inl ((lo c).mp u)
  ·refine(x.new _ (hi c u).1).imp (λu1=>(Qy c)▸Hm.mp u1) λz=>?_
   refine U (show(Wd.mk L2 (q.σ.take m++σ'.take (q.σ.length - m)) b.2).L p=L (sR m p)from l2 c) ?_;exact z,λa o e n=>x.keep a o e λp u z=>n _ (Hm.mp u) z⟩
 have hx2:∀a,Ex ⟨L2,q.σ.take m++σ'.take (q.σ.length - m),b.2⟩ E a->Ex ⟨L,σ',b.2⟩ (λa=>E a\/∃p,Tg q.σ p/\own p<m/\q.L p=a) a:=λa z=>z.elim (λ⟨p,u,e⟩=>by
  by_cases c:own p<m
  ·exact .inr (.inr ⟨p,(lo c).mp u,c,(l1 c).symm.trans e⟩)
  ·exact .inl ⟨_,(hi c u).1,(l2 c).symm.trans e⟩) λz=>.inr (.inl z)
 refine Sb.ok (.mk L2 x2 ⟨λp p' u u' e=>?_,λp u=>?_,λp u z=>?_,λa z=>rb (r.elt a z) x.len,λi o e=>?_⟩ (Pq (q:=⟨L,σ',b.2⟩) (q':=⟨L2,q.σ.take m++σ'.take (q.σ.length - m),b.2⟩) rfl hx2 pw z))
 ·have mix:∀{p p'},own p<m->Tg q.σ p->¬own p'<m->Tg σ' (sR m p')->q.L p=L (sR m p')->False:=λc u c' u' e=>r2.sep _ u' (.inr ⟨_,u,c,e⟩)
  replace e:L2 p=L2 p':=e;by_cases c:own p<m<;>by_cases c':own p'<m
  ·exact r.inj p p' ((lo c).mp u) ((lo c').mp u') ((l1 c).symm.trans (e.trans (l1 c')))
  ·exact(mix c ((lo c).mp u) c' (hi c' u').1 ((l1 c).symm.trans (e.trans (l2 c')))).elim
  ·exact(mix c' ((lo c').mp u') c (hi c u).1 ((l1 c').symm.trans (e.symm.trans (l2 c)))).elim
  ·have:=r2.inj _ _ (hi c u).1 (hi c' u').1 ((l2 c).symm.trans (e.trans (l2 c')))
   exact Bd (Qy c) (U this (U (Qy c') rfl))
 ·by_cases c:own p<m
  ·exact ib (Gd (l1 c)) (rb (r.lt p ((lo c).mp u)) x.len)
  ·exact ib (Gd (l2 c)) (r2.lt _ (hi c u).1)
 ·replace z:E (L2 p):=z
  by_cases c:own p<m
  ·rw[l1 c]at z;exact r.sep p ((lo c).mp u) z
  ·rw[l2 c]at z;exact r2.sep _ (hi c u).1 (.inl z)
 ·replace e:(q.σ.take m++σ'.take (q.σ.length - m))[i]?=J o:=e
  rw[at_]at e;by_cases c:i<m
  ·rw[Fd c]at e
   refine(r.obj i o e).mono x2 e λp hp u o' e'=>r1.eget x (hEx ?_ u) e';rcases hp with rfl|rfl|⟨n,rfl⟩<;>exact c
  ·rw[ge c]at e
   split at e
   ·rename_i k
    have e4:(σ'.take (q.σ.length - m))[i - m]?=J o:=by refine U kr (U (Fd k) ?_);exact e
    exact(r2.obj _ o e).shift (q:=⟨L,σ',b.2⟩) (q':=⟨L2,q.σ.take m++σ'.take (q.σ.length - m),b.2⟩) rfl hx2 (l2 (p:=.a i) c) (λy=>l2 (p:=.d i) c) (λn y y=>l2 (p:=.f i n) c) (Iy ph e4)
   ·exact ja e
theorem VI{g:Nat->Option SF}{qc:Nat->Option Sg}{f:Nat->Option Fn}(hT:∀a fn,qc a=J fn->f a=J (O4 g fn)):∀n(sc:Nat->Option (List Int)),(∀a xs,sc a=J xs->scr a=J xs)->wn (Mb tab g qc n sc) (ml (tab.w scr) f n):=by
 intro n
 induction n with
 |zero=>exactλj j j j j j j j j=>Sb.no|succ n k=>
  exactλsc N E q a T args' r h=>Sb.wJ λfn l=>by
   show SX E q _ _ ((f a).bind _)
   refine U (hT a fn l) ?_;show SX E q _ (vt fn.mode _ _ T q.σ) _
   induction fn.mode with
   |all=>exact Wz N (k sc N) r h|sub=>exact mQ (λE q T args' r h=>Wz N (k sc N) r h) r h|pure=>
    refine Sb.wJ λj m=>(Sb.wJ λp s=>?_);obtain⟨b,t,P⟩:=Wz (sc:=λj=>Y) (λj j e=>ja e) (k _ λj j e=>ja e) (fn:=fn) (⟨λp j u=>(xt p u).elim,λp u=>(xt p u).elim,λp u=>(xt p u).elim,λa z=>z.elim ((by rintro⟨p,u,e⟩;exact e▸r.lt p u)) (r.elt a),λi o e=>ja e⟩:Rl (Ex q E) ⟨q.L,[],q.τ⟩) (Ls (q:=q) (q':=⟨q.L,[],q.τ⟩) (E:=E) (E':=Ex q E) rfl (λa z=>z.elim ((by rintro⟨p,u,_⟩;exact(xt p u).elim)) λz=>z) (Lq m) h) p s;obtain⟨w,R⟩:=p
    induction R using ma with
    |cons=>exact Sb.no|nil=>
     refine U (show(J (O4 g fn)).bind (λfn=>yP (tab.w scr) (ml (tab.w scr) f n) fn args' q.τ)=J b from t) ?_;obtain⟨L,x,_,z⟩:=P;have d:=r.more (τ':=b.2) x.len λa o e=>x.keep a o e λp u=>(xt p u).elim;exact Sb.ok (.mk q.L d.2 d.1 (VS.map (q:=⟨L,[],b.2⟩) (q':=⟨q.L,q.σ,b.2⟩) (λi h=>zc h (Xe _)) (λa o e n=>⟨λy=>n (.inr y),e⟩) z))
end
theorem YY:SM=XY.map λp=>(p.1,O4 Ib p.2):=rfl
theorem wE{d i:Type}{f:d->i}{a:Nat}{b:d}:{l:List (Nat×d)}->l.lookup a=J b->(l.map λp=>(p.1,f p.2)).lookup a=J (f b):=by
 intro l
 induction l with
 |nil=>
  rintro _
  first|contradiction|exact ja (by assumption)
 |cons g l j=>
  obtain⟨k,c⟩:=g;rintro h;rw[Mc]at h;refine U Tb (U Mc ?_)
  induction e:a==k with
  |true=>rw[e]at h;exact Gc J (Gc f (ba h))|false=>rw[e]at h;exact j h
theorem ZY(a:Nat)(b:Sg)(h:qc a=J b):nT a=J (O4 Ib b):=by
 show SM.lookup a=_
 exact U YY (wE h)
theorem C5{scr:Nat->Option (List Int)}{n a:Nat}{c:ua}{b:Bool}{f:wb}(h:Mb db Ib qc n scr a [.k c] []=J (.bool b,f)):∃d,ml (rx scr) nT n a [.k c] []=J (.bool b,d):=by
 refine aa λg=>?_;obtain⟨⟨v,d⟩,e,P⟩:=VI (tab:=db) (scr:=scr) ZY n scr (λy y e=>e) (λy=>False) ⟨λy=>0,[],[]⟩ a [.k c] [.k c] (⟨λp y u=>(xt p u).elim,λp u=>(xt p u).elim,λp u=>(xt p u).elim,λy h=>h.elim,λy y e=>ja e⟩:Rl (λy=>False) ⟨λy=>0,[],[]⟩) (.cons (.k c) .nil) _ h;obtain⟨L,_,_,z⟩:=P;exact g (⟨d,(z.wF:v=.bool b)▸e⟩)
noncomputable section
noncomputable def H{a b:Type}(o:Option a)(f:a->Option b):Option b:=Pp Y f o
noncomputable def M{a:Type}(b:Bool)(x y:a):a:=Bool.rec y x b
noncomputable def qep(a:List W):Nat->Option W:=ic (motive:=λu=>Nat->Option W) (λu=>Y) (λx u b n=>vn (J x) (λn u=>b n) n) a
def qab(a:List W)(w:W):Nat->Option (List W):=ic (motive:=λu=>Nat->Option (List W)) (λu=>Y) (λx t b n=>vn (J (w::t)) (λn u=>H (b n) λr=>J (x::r)) n) a
noncomputable def len{a:Type}(b:List a):Nat:=ic 0 (λu u n=>pc n) b
def Z0(a:List W)(k:Int):Option Nat:=Jt (λn=>J n) (λn=>M (bc n (len a)) (J (qfB (len a) (pc n))) Y) k
def Lg(a:List W)(k:Int):Option W:=H (Z0 a k) (qep a)
def du(a:List W)(k:Int)(w:W):Option (List W):=H (Z0 a k) (qab a w)
noncomputable def Ph(a b:Int):Bool:=Jt (λa=>Jt (λb=>bc a b) (λu=>ta) b) (λa=>Jt (λu=>Z) (λb=>bc b a) b) a
noncomputable def Rp(a b:Int):Bool:=Jt (λa=>Jt (λb=>Rb a b) (λu=>ta) b) (λa=>Jt (λu=>ta) (λb=>Rb a b) b) a
def Rk(x:Int)(a:List Int):Bool:=ic ta (λk u b=>M (Rp k x) Z b) a
def EB(b:List Int)(x:Int):List W->Option W:=ic (motive:=λu=>List W->Option W) (λu=>Y) (λk u c a=>ic Y (λv a u=>M (Rp k x) (J v) (c a)) a) b
def Pl(a:List Int)(x:Int):List Int:=ic [x] (λk t b=>M (Rp k x) (k::t) (k::b)) a
def Ql(b:List Int)(x:Int)(w:W):List W->List W:=ic (motive:=λu=>List W->List W) (λu=>[w]) (λk u c a=>ic [w] (λv a u=>M (Rp k x) (w::a) (v::c a)) a) b
noncomputable def qw(n:Nat):Int->List W:=vn (motive:=λu=>Int->List W) (λu=>[]) (λu b a=>.int a::b (a+1)) n
def vD(a b:Int):Bool:=M (Ph (-1000) a) (M (Ph a 1000) (M (Ph (-1000) b) (Ph b 1000) ta) ta) ta
def Kd{a:Type}(n:Nat)(b:List a):Bool:=bc (len b) n
def Pf{R:Type}(w:W)(k:List W->Option R):Option R:=W.casesOn w Y (λu=>Y) (λu=>Y) (λu=>Y) (λu=>Y) (λa b=>M (vD a b) (k (qw (b - a).toNat a)) Y) (λu=>Y) (λa=>M (Kd 4900 a) (k a) Y) (λa=>M (Kd 4900 a) (k a) Y) (λu u=>Y) (λu=>Y) (λu u=>Y) λu=>Y
def Fv(a:List W):Option (List Int):=ic (J []) (λx u b=>H (Ua x) λi=>H b λr=>J (i::r)) a
def lk(a b:W):Option Bool:=match a,b with|.int x,.int y=>J (Rp x y)|a,b=>L4 a b
def yA(a c:W):Option Bool:=match c with
 |.dic b u=>H (Ua a) λx=>J (Rk x b)|.l b=>(match a with
  |.int x=>(match Fv b with|some is=>J (Rk x is)|none=>MW a c)
  |a=>MW a c)
 |_=>Y
noncomputable def Tj(a:List W):Option (W×List W):=ma a Y λx t=>J (x,t)
noncomputable def sy(a:List W):Bool:=ma a Z λu u=>ta
inductive Fk where
 |go (me:jc) (σ:wb)|ret (w:W) (σ:wb)
noncomputable def w8(p:dW×jc×wb):Fk:=match p.1 with|.next=>.go p.2.1 p.2.2|.ret w=>.ret w p.2.2
structure Or where
 ro:{R:Type}->Nat->List W->wb->(W->Option R)->Option R
 cf:{R:Type}->Nat->List W->wb->(W×wb->Option R)->Option R
 cb:{R:Type}->Nat->jc->wb->(Fk->Option R)->Option R
section
variable {R:Type}
def pF(u v:W)(b:wb)(k:W->Option R):Option R:=H (mj u b) λc=>match c with|.t a=>H (Ua v) λi=>H (Lg a i) k|.l a=>H (Ua v) λi=>H (Lg a i) k|.dic a d=>H (Ua v) λi=>H (EB a i d) k|.ref i=>H (Zq v) λs=>H (UE b i s) k|_=>Y
def ON(w:W)(b:wb)(k:W->Option R):Option R:=match w with|.t a=>k (.int (jb (len a)))|.iset a=>k (.int (Ig a).length)|w=>H (mj w b) λc=>H (El c) λa=>k (.int (jb (len a)))
def tL(a b:W)(e:wb)(k:W->Option R):Option R:=match a with|.int x=>H (Ua b) λy=>k (.int (x+y))|.t c=>H (ng b) λd=>M (Kd 4096 (c++d)) (k (.t (c++d))) Y|a=>H (Qe a e) λc=>H (Qe b e) λd=>M (Kd 4096 (c++d)) (k (.l (c++d))) Y
def mY(c:Je)(a b:W)(d:wb)(k:W->Option R):Option R:=match c with|.Add=>tL a b d k|.Sub=>H (Ua a) λx=>H (Ua b) λy=>k (.int (x - y))|.FloorDiv=>H (Ua a) λx=>H (Ua b) λy=>H (NS x y) λz=>k (.int z)|.Mod=>H (Ua a) λx=>H (Ua b) λy=>H (Hz x y) λz=>k (.int z)|.Pow=>H (Ua a) λx=>H (Ua b) λy=>H (nU x y) λz=>k (.int z)|_=>Y
def aM(a b:W)(k:Int->Int->Option R):Option R:=H (Ua a) λx=>H (Ua b) λy=>k x y
def bM(e:ur)(a b:W)(d:wb)(k:Bool->Option R):Option R:=match e with|.Lt=>aM a b λx y=>k (Ph x y)|.LtE=>aM a b λx y=>k (!Ph y x)|.Gt=>aM a b λx y=>k (Ph y x)|.GtE=>aM a b λx y=>k (!Ph x y)|.Eq=>H (lk a b) k|.NotEq=>H (lk a b) λb=>k (!b)|.Is=>H (qaJ a b) k|.IsNot=>H (Oh a b) k|.In=>H (mj b d) λc=>H (yA a c) k|.NotIn=>H (Ua a) λx=>H (mj b d) λc=>H (yA (.int x) c) λb=>k (!b)
def qaE(b:Bi)(a:List W)(c:wb):Option W:=(H4 b a c).map lj
def qaD(b:Bi)(d:List W)(e:wb)(k:W->Option R):Option R:=match b with
 |.len=>H (one d) λw=>ON w e k|.range=>(match d with|[b]=>H (Ua b) λy=>M (vD 0 y) (k (.rng 0 y)) Y|[a,b]=>H (Ua a) λx=>H (Ua b) λy=>M (vD x y) (k (.rng x y)) Y|_=>Y)
 |.max=>H (two d) λp=>H (Ua p.1) λx=>H (Ua p.2) λy=>k (.int (max x y))|.min=>H (two d) λp=>H (Ua p.1) λx=>H (Ua p.2) λy=>k (.int (min x y))|.sorted=>H (one d) λw=>H (mj w e) λc=>H (PC c) λa=>M (Kd 4096 a) (k (.l a)) Y|.tuple=>H (one d) λw=>H (au w e) λa=>M (Kd 4096 a) (k (.t a)) Y|.list=>H (one d) λw=>H (ng w) λa=>M (Kd 4096 a) (k (.l a)) Y|b=>H (qaE b d e) k
def V4(o:W)(n:Bb)(a:List W)(b:wb):Option W:=(qaM o n a b).map lj
noncomputable def SP(z:List Nat)(y:List W)(u:jc)(j:(jc->Option R)):Option R:=match z,y,u,j with|[],b,a,k=>M (sy b) (k a) Y|i::is,b,a,k=>H (Tj b) λp=>M (wq a i) (SP is p.2 (a.set i (J p.1)) k) Y
def gm(t:CT)(v:W)(a:jc)(k:jc->Option R):Option R:=match t with|.x i=>M (wq a i) (k (a.set i (J v))) Y|.t is=>H (ng v) λb=>SP is b a k
noncomputable def Ae(g:W->(List W->Option R)->Option R)(c:List W):(List W->Option R)->Option R:=ic (motive:=λu=>(List W->Option R)->Option R) (λk=>k []) (λx u d k=>g x λa=>d λb=>k (a++b)) c
variable (O:Or)
def sW(g:W)(c:List W)(d:wb)(k:W->Option R):Option R:=match g with
 |.k (.ref a)=>M (zA c) (match db.init a with|some u=>Y|none=>O.ro a c d k) Y
 |.k v=>H (HD v) λb=>qaD b c d k|_=>Y
def qdS(c:xD)(n:Bb)(a:List W)(b:wb)(k:W->Option R):Option R:=match c with|.fn f i=>O.ro f (.ref i::a) b k|.lm o=>H (V4 o n a b) k
mutual
noncomputable def kX(m:X)(p:jc)(e:wb)(h:(W->Option R)):Option R:=match m,p,e,h with
 |.x i,A,y,k=>H (Oe A i) k|.k v,y,z,k=>k (.k v)|.none,y,z,k=>k .none|.bool b,y,z,k=>k (.bool b)|.int i,y,z,k=>k (.int i)|.str s,y,z,k=>k (.str s)|.attr o n,A,l,k=>kX o A l λw=>H (xk w) λi=>H (Gx db n l i) k|.sub o i,A,l,k=>kX o A l λu=>kX i A l λv=>pF u v l k|.cut y z,j,q,d=>Y|.bin c a b,A,l,k=>kX a A l λu=>kX b A l λv=>mY c u v l k|.neg a,A,l,k=>kX a A l λw=>H (Ua w) λi=>k (.int (-i))|.cmp c a b,A,l,k=>kX a A l λu=>kX b A l λv=>bM c u v l λr=>k (.bool r)|.cmp2 f g a b c,A,l,k=>kX a A l λu=>kX b A l λv=>bM f u v l λr=>M r (kX c A l λx=>bM g v x l λr=>k (.bool r)) (k (.bool ta))|.ite t a b,A,l,k=>kT t A l λr=>M r (kX a A l k) (kX b A l k)|.t a,A,l,k=>GN a A l λb=>M (Kd 4096 b) (k (.t b)) Y|.list a,A,l,k=>GN a A l λb=>M (Kd 4096 b) (k (.l b)) Y|.dict y z,j,q,d=>Y|.comp n f s t rest u,A,l,k=>kX f A l λw=>Pf w λa=>
  Ae (λv i=>gm s v (A++Ia n Y) λg=>xT t g l λr=>M r (EN rest (λA i=>kX u A l λw=>M (nb w) (i w) Y) g l i) (i [])) a λg=>M (Kd 4096 g) (k (.l g)) Y
 |.call f a,A,l,k=>kX f A l λg=>qcB a A l λb=>sW O g b l k|.meth o n a,A,l,k=>kX o A l λw=>H (tU db n w l) λc=>GN a A l λb=>qdS O c n b l k|.sup y z j,q,d,l=>Y
noncomputable def GN(z:List X)(j:jc)(q:wb)(d:(List W->Option R)):Option R:=match z,j,q,d with|[],u,y,k=>k []|x::c,a,b,k=>kX x a b λw=>M (nb w) (GN c a b λe=>k (w::e)) Y
noncomputable def qcB(z:List X)(j:jc)(q:wb)(d:(List W->Option R)):Option R:=match z,j,q,d with|[],u,y,k=>k []|x::c,a,b,k=>kX x a b λw=>qcB c a b λe=>k (w::e)
noncomputable def kT(z:B)(y:jc)(u:wb)(j:(Bool->Option R)):Option R:=match z,y,u,j with|.and a b,c,d,k=>kT a c d λr=>M r (kT b c d k) (k ta)|.or a b,c,d,k=>kT a c d λr=>M r (k Z) (kT b c d k)|.not a,c,d,k=>kT a c d λr=>k (!r)|.wK x,c,d,k=>kX x c d λw=>H (Ii w) k
noncomputable def xT(z:List B)(j:jc)(q:wb)(d:(Bool->Option R)):Option R:=match z,j,q,d with|[],u,y,k=>k Z|t::c,a,b,k=>kT t a b λr=>M r (xT c a b k) (k ta)
noncomputable def EN(z:List G)(y:(jc->(W->Option R)->Option R))(j:jc)(q:wb)(d:(List W->Option R)):Option R:=match z,y,j,q,d with
 |[],a,e,u,k=>a e λw=>k [w]|.mk b f g::l,a,e,h,k=>kX b e h λw=>Pf w λm=>
  Ae (λv i=>gm f v e λc=>xT g c h λr=>M r (EN l a c h i) (i [])) m k
end
end
end
noncomputable section
def UU{R:Type}(f:(Fk->Option R)->Option R)(g:jc->wb->(Fk->Option R)->Option R)(k:Fk->Option R):Option R:=f λr=>Fk.rec (λb a=>g b a k) (λw a=>k (.ret w a)) r
def nB{R:Type}(g:W->jc->wb->(Fk->Option R)->Option R)(c:List W):jc->wb->(Fk->Option R)->Option R:=ic (motive:=λu=>jc->wb->(Fk->Option R)->Option R) (λa b k=>k (.go a b)) (λx u d a b k=>UU (g x a b) d k) c
def G3{R:Type}(t:jc->wb->(Bool×wb->Option R)->Option R)(g:jc->wb->(Fk->Option R)->Option R)(n:Nat):jc->wb->(Fk->Option R)->Option R:=vn (motive:=λu=>jc->wb->(Fk->Option R)->Option R) (λu u u=>Y) (λu b a c k=>t a c λq=>M q.1 (UU (g a q.2) b k) (k (.go a q.2))) n
section
variable {R:Type} (O:Or)
def NL(g:W)(d:List W)(c:wb)(k:W×wb->Option R):Option R:=match g with
 |.k (.ref a)=>M (zA d) (match db.init a with|some g=>O.cf g (.ref c.length::d) (c++[⟨J a,[]⟩]) λp=>H (VG c.length p) k|none=>O.cf a d c k) Y
 |.k v=>H (HD v) λb=>qaD b d c λw=>k (w,c)|_=>Y
def qeX(c:xD)(n:Bb)(b:List W)(a:wb)(k:W×wb->Option R):Option R:=match c with|.fn f i=>O.cf f (.ref i::b) a k|.lm o=>H (V4 o n b a) λw=>k (w,a)
noncomputable def YT(q:X):Bool:=match q with|.meth u n y=>decide (n=("new_var":Bb))|.bin u (.int y) (.call z j)=>Z|_=>ta
def gt(g:W->wb->(List W×wb->Option R)->Option R)(b:List W):wb->(List W×wb->Option R)->Option R:=ic (motive:=λu=>wb->(List W×wb->Option R)->Option R) (λa k=>k ([],a)) (λx u c a k=>g x a λp=>c p.2 λq=>k (p.1++q.1,q.2)) b
mutual
noncomputable def hK(z:X)(y:jc)(u:wb)(d:(W×wb->Option R)):Option R:=match z,y,u,d with|.bin c a b,l,h,k=>hK a l h λp=>hK b l p.2 λq=>mY c p.1 q.1 q.2 λw=>k (w,q.2)|.t m,l,h,k=>qcv m l h λq=>M (Kd 4096 q.1) (k (.t q.1,q.2)) Y|.sub o i,l,h,k=>hK o l h λp=>hK i l p.2 λq=>pF p.1 q.1 q.2 λw=>k (w,q.2)|.cmp c a b,l,h,k=>hK a l h λp=>hK b l p.2 λq=>bM c p.1 q.1 q.2 λr=>k (.bool r,q.2)|.call f a,l,h,k=>kX O f l h λg=>qcu a l h λq=>NL O g q.1 q.2 k|.meth o n a,l,h,k=>kX O o l h λw=>H (tU db n w h) λc=>GN O a l h λb=>qeX O c n b h k|.sup i f a,l,h,k=>H (Oe l i) λw=>H (xk w) λi=>H (B2 db f h i) λj=>GN O a l h λb=>O.cf f (.ref j::b) h k|.comp n a c e rest b,l,h,k=>M (YT b&&e.isEmpty&&rest.isEmpty) (kX O a l h λw=>Pf w λm=>gt (λv h g=>gm c v (l++Ia n Y) λf=>hK b f h λp=>M (nb p.1) (g ([p.1],p.2)) Y) m h λq=>M (Kd 4096 q.1) (k (.l q.1,q.2)) Y) (kX O (.comp n a c e rest b) l h λw=>k (w,h))|e,l,h,k=>kX O e l h λw=>k (w,h)
noncomputable def qcv(z:List X)(y:jc)(j:wb)(d:(List W×wb->Option R)):Option R:=match z,y,j,d with|[],u,a,k=>k ([],a)|x::c,b,a,k=>hK x b a λp=>M (nb p.1) (qcv c b p.2 λq=>k (p.1::q.1,q.2)) Y
noncomputable def qcu(z:List X)(y:jc)(j:wb)(d:(List W×wb->Option R)):Option R:=match z,y,j,d with|[],u,a,k=>k ([],a)|x::c,b,a,k=>hK x b a λp=>qcu c b p.2 λq=>k (p.1::q.1,q.2)
end
def Y0(e:X)(a:jc)(b:wb)(k:W×wb->Option R):Option R:=hK O e a b λp=>M (nb p.1) (k p) Y
def qbD(e f:List X)(d:jc)(c:wb)(k:W×wb->Option R):Option R:=match e,f with|[],[]=>k (.o (.dic [] []),c)|[a],[b]=>kX O a d c λu=>H (Ua u) λi=>kX O b d c λw=>M (nb w) (k (.o (.dic [i] [w]),c)) Y|y,z=>Y
def UZ(a b:X)(d:jc)(c:wb)(k:W×wb->Option R):Option R:=kX O a d c λw=>M (nb w) (kX O b d c λv=>H (Ua v) λi=>M (!Ph i 0) (M (Ph i 4096) (k (.o (.l (Ia i.toNat w)),c)) Y) Y) Y
def vK(e:X)(f:jc)(d:wb)(k:W×wb->Option R):Option R:=match e with
 |.list b=>GN O b f d λa=>M (Kd 4096 a) (k (.o (.l a),d)) Y|.dict a b=>qbD O a b f d k|.bin g a b=>(match wt g a with|some c=>UZ O c b f d k|none=>Y0 O (.bin g a b) f d k)
 |e=>Y0 O e f d k
noncomputable def qbb(z:List X)(y:jc)(j:wb)(d:(List W×wb->Option R)):Option R:=match z,y,j,d with|[],u,a,k=>k ([],a)|x::c,b,a,k=>vK O x b a λp=>qbb c b p.2 λq=>k (p.1::q.1,q.2)
def lP(i:Int)(v c:W)(k:W->Option R):Option R:=match c with|.l a=>H (du a i v) λb=>k (.l b)|.dic a b=>M (Kd 4096 a) (k (.dic (Pl a i) (Ql a i v b))) Y|_=>Y
def mX(j:Nat)(d v:W)(e:jc)(b:wb)(c:W)(k:jc×wb->Option R):Option R:=match c with|.o c=>H (Ua d) λi=>lP i v c λc=>k (e.set j (J (.o c)),b)|.ref i=>H (Zq d) λs=>H ((b[i]?).bind kO) λa=>M (Kd 4096 a) (H (QJ a s v) λa=>k (e,b.set i ⟨Y,a⟩)) Y|_=>Y
def mP(n:Bb)(d v:W)(a:wb)(i:Nat)(k:wb->Option R):Option R:=H (di a i n) λb=>H (rK b) λc=>H (Ua d) λx=>lP x v c λc=>k (Em a i n (.o c))
def V9(o e:X)(v:W)(b:jc)(a:wb)(k:jc×wb->Option R):Option R:=match o with|.x j=>kX O e b a λd=>H (Oe b j) λc=>mX j d v b a c k|.attr o n=>kX O o b a λw=>H (Am db n a w) λi=>kX O e b a λd=>mP n d v a i λa=>k (b,a)|_=>Y
mutual
noncomputable def pK(z:T)(y:W)(u:jc)(j:wb)(q:(jc×wb->Option R)):Option R:=match z,y,u,j,q with|.x i,v,b,a,k=>M (bc i b.length) (k (b.set i (J v),a)) Y|.t c,v,b,a,k=>H (ng v) λd=>r9 c d b a k|.attr o n,v,b,a,k=>kX O o b a λw=>H (xk w) λi=>H (Bo db n v a i) λa=>k (b,a)|.sub o e,v,b,a,k=>M (nb v) (V9 O o e v b a k) Y
noncomputable def r9(z:List T)(y:List W)(u:jc)(j:wb)(d:(jc×wb->Option R)):Option R:=match z,y,u,j,d with|[],a,b,c,k=>M (sy a) (k (b,c)) Y|t::e,a,b,c,k=>H (Tj a) λp=>pK t p.1 b c λq=>r9 e p.2 q.1 q.2 k
end
def EZ(l:Lm)(v:W)(a:List W)(k:List W->Option R):Option R:=match l with|.append=>M (Kd 4096 a) (k (a++[v])) Y|.extend=>H (sv v) λb=>M (bc (len a+len b) 4096) (k (a++b)) Y|_=>Y
noncomputable def I1(z:List Nat)(y:List W)(u:jc)(j:(jc->Option R)):Option R:=match z,y,u,j with|[],b,a,k=>M (sy b) (k a) Y|i::is,b,a,k=>H (Tj b) λp=>M (bc i a.length) (I1 is p.2 (a.set i (J p.1)) k) Y
def il(t:CT)(v:W)(a:jc)(k:jc->Option R):Option R:=match t with|.x i=>M (bc i a.length) (k (a.set i (J v))) Y|.t is=>H (ng v) λb=>I1 is b a k
def Z5(m:Bb)(o e:X)(a:jc)(c:wb)(k:Fk->Option R):Option R:=match o with|.x j=>H (Oe a j) λb=>H (cs b) λd=>hK O e a c λp=>M (nb p.1) (H (Vt m) λl=>EZ l p.1 d λf=>k (.go (a.set j (J (.o (.l f)))) p.2)) Y|.attr o n=>kX O o a c λw=>H (Am db n c w) λi=>H (di c i n) λb=>H (cs b) λd=>kX O e a c λv=>M (nb v) (H (Vt m) λl=>EZ l v d λf=>k (.go a (Em c i n (.o (.l f))))) Y|_=>Y
def i8(o i e:X)(a:jc)(c:wb)(k:Fk->Option R):Option R:=match o with|.x j=>H (Oe a j) λb=>H (cs b) λd=>kX O i a c λq=>H (Ua q) λi=>kX O e a c λv=>M (nb v) (H (nN i v d) λf=>k (.go (a.set j (J (.o (.l f)))) c)) Y|_=>Y
def b6(t:T)(e:X)(a:jc)(b:wb)(k:Fk->Option R):Option R:=match t with
 |.t c=>(match sF e with|some d=>qbb O d a b λq=>M (Kd 4096 q.1) (r9 O c q.1 a q.2 λp=>k (.go p.1 p.2)) Y|none=>Y0 O e a b λq=>pK O (.t c) q.1 a q.2 λp=>k (.go p.1 p.2))
 |t=>vK O e a b λq=>pK O t q.1 a q.2 λp=>k (.go p.1 p.2)
def d6(o:X)(n:Bb)(i:X)(f:Je)(e:X)(b:jc)(a:wb)(k:Fk->Option R):Option R:=kX O o b a λw=>H (Am db n a w) λj=>kX O i b a λd=>pF (.fld j n) d a λc=>kX O e b a λr=>H (Ua c) λx=>H (Ua r) λy=>H (CL f x y) λz=>mP n d (.int z) a j λa=>k (.go b a)
def hN(e:X)(a:jc)(c:wb)(k:Bool×wb->Option R):Option R:=hK O e a c λp=>H (Ii p.1) λb=>k (!b,p.2)
def hI(a b:X)(c:jc)(d:wb)(k:Bool×wb->Option R):Option R:=hK O a c d λp=>kX O b c p.2 λv=>H (Oh p.1 v) λr=>k (r,p.2)
def hEx(e:X)(a:jc)(c:wb)(k:Bool×wb->Option R):Option R:=hK O e a c λp=>H (Ii p.1) λb=>k (b,p.2)
def hT(t:B)(d:jc)(c:wb)(k:Bool×wb->Option R):Option R:=match t with|.not (.wK e)=>hN O e d c k|.wK (.cmp .IsNot a b)=>hI O a b d c k|.wK (.cmp .Eq (.call f a) b)=>hEx O (.cmp .Eq (.call f a) b) d c k|t=>kT O t d c λb=>k (b,c)
def u9(e:X)(a:jc)(b:wb)(k:Fk->Option R):Option R:=match e with|.x i=>H (Oe a i) λu=>H (j1 u) λw=>k (.ret w b)|e=>Y0 O e a b λp=>k (.ret p.1 p.2)
mutual
noncomputable def kS(z:SF)(y:jc)(j:wb)(d:(Fk->Option R)):Option R:=match z,y,j,d with|.q t e,f,g,k=>b6 O t e f g k|.aug o n i a e,f,g,k=>d6 O o n i a e f g k|.expr e,f,g,k=>hK O e f g λp=>H (pG p.1) λu=>k (.go f p.2)|.app o m e,f,g,k=>Z5 O m o e f g k|.ins o i e,f,g,k=>i8 O o i e f g k|.ifs t a b,f,g,k=>hT O t f g λq=>M q.1 (Ug a f q.2 k) (Ug b f q.2 k)|.whil t b,f,g,k=>G3 (hT O t) (λf g k=>Ug b f g k) 5000 f g k|.fors t e b,f,g,k=>kX O e f g λw=>Pf w λc=>nB (λv f g k=>il t v f λa=>Ug b a g k) c f g k|.forz t h b,f,g,k=>GN O h f g λl=>H (fm l) λm=>H (qA m) λo=>H (zl o) λc=>nB (λv f g k=>il t v f λa=>Ug b a g k) c f g k|.ret e,f,g,k=>u9 O e f g k|.frz i,f,g,k=>H (Oe f i) λb=>H (rK b) λc=>k (.go (f.set i (J c)) g)|.blk i,f,g,k=>O.cb i f g k
noncomputable def Ug(z:List SF)(y:jc)(u:wb)(j:(Fk->Option R)):Option R:=match z,y,u,j with|[],a,b,k=>k (.go a b)|s::c,a,b,k=>UU (kS s a b) (λa b k=>Ug c a b k) k
end
end
end
section
variable {b:Bool} {xs:List W} {k a:Int} {w:W}
inductive RK{R X V:Type}(P:V->X->Prop)(x:Option V)(k:X->Option R)(r:R):Prop
 |mk (b:V) (a:X):x=J b->P b a->k a=J r->RK P x k r
def Rq{R X V:Type}(P:V->X->Prop)(f:(X->Option R)->Option R)(x:Option V):Prop:=∀k r,f k=J r->RK P x k r
section
variable {R X V T O:Type} {P:V->X->Prop} {Q:O->T->Prop} {f:(X->Option R)->Option R} {x:Option V} {N L:(T->Option R)->Option R} {S z2:Option O}
theorem Rq.bind{g:X->(T->Option R)->Option R}{y:V->Option O}(h:Rq P f x)(c:∀b a,P b a->Rq Q (g a) (y b)):Rq Q (λk=>f λa=>g a k) (x.bind y):=λk r e=>by
 induction h _ r e with|mk b a d p i=>subst d;exact c b a p k r i
theorem Rq.map{g:X->T}{y:V->O}(h:Rq P f x)(c:∀b a,P b a->Q (y b) (g a)):Rq Q (λk=>f λa=>k (g a)) (x.map y):=λk r e=>by
 induction h _ r e with|mk b a d p i=>subst d;exact .mk _ _ rfl (c b a p) i
theorem Rq.imp{Q:V->X->Prop}(h:Rq P f x)(c:∀b a,P b a->Q b a):Rq Q f x:=λk r e=>by
 induction h _ r e with|mk b a d p g=>exact .mk b a d (c b a p) g
theorem Rq.op{o:Option X}{g:X->(T->Option R)->Option R}(h:∀a,o=J a->Rq Q (g a) S):Rq Q (λk=>H o λa=>g a k) S:=λk r e=>by
 induction o with
 |none=>exact ja e|some a=>exact h a rfl k r e
theorem Rq.wW{o:Option X}{g:X->(T->Option R)->Option R}{y:X->Option O}(h:∀a,Rq Q (g a) (y a)):Rq Q (λk=>H o λa=>g a k) (o.bind y):=λk r e=>by
 induction o with
 |none=>exact ja e|some a=>exact h a k r e
theorem Rq.opm{o:Option X}{g:X->T}{y:X->O}(h:∀a,Q (y a) (g a)):Rq (R:=R) Q (λk=>H o λa=>k (g a)) (o.map y):=λk r e=>by
 induction o with
 |none=>exact ja e|some a=>exact .mk _ _ rfl (h a) e
theorem Rq.ret{d:O}{c:T}(h:Q d c):Rq (R:=R) Q (λk=>k c) (J d):=λu u e=>.mk _ _ rfl h e
theorem Rq.no:Rq (R:=R) Q (λu=>Y) S:=λu u e=>ja e
theorem Rq.ifB(h:Rq Q N S)(c:Rq Q L z2):Rq Q (λk=>M b (N k) (L k)) (kn b S z2):=by induction b<;>assumption
theorem Rq.grd(h:b=Z->Rq Q N S):Rq Q (λk=>M b (N k) Y) S:=by
 induction b with
 |true=>exact h rfl|false=>exact Rq.no
end
theorem wg(h:b=Z):Ie b=J ():=by refine U h ?_;rfl
theorem ID{X V:Type}{o:Option X}{f:X->Option V}:H o f=o.bind f:=by induction o<;>rfl
theorem Se{X:Type}:∀xs:List X,len xs=xs.length:=by
 intro xs
 induction xs with
 |nil=>
  exact rfl
 |cons d xs c=>
  exact Gc pc (c)
theorem Pz(xs:List W)(n:Nat):qep xs n=xs[n]?:=match xs,n with|[],u=>rfl|u::y,0=>rfl|u::xs,n+1=>Pz xs n
theorem vm{X:Type}{x y:X}:M b x y=if b then x else y:=by induction b<;>rfl
theorem xH:∀{k:Int}{n:Nat},Z0 xs k=J n->Nl xs.length k=J n:=by
 intro k n h
 induction k using Int.casesOn with
 |ofNat m=>
  obtain rfl:=ba h;exact Fd (xf m)
 |negSucc m=>
  replace h:M (bc m (len xs)) (J (qfB (len xs) (pc m))) Y=J n:=h;rw[vm,Se]at h
  split at h
  ·rename_i c
   have c:=ud.mp c;unfold Nl;exact U (ge λz=>nomatch z) (U (Fd (show -(xs.length:Int)<=Int.negSucc m from Int.neg_le_neg (H5.mpr c))) (Gc J ((Gc Int.toNat (Int.subNatNat_of_le c)).trans (ba h))))
  ·exact ja h
theorem uZ(h:Lg xs k=J w):jE xs k=J w:=by
 unfold Lg at h;rw[ID]at h;refine Vg h λn c d=>?_;unfold jE;refine U (xH c) (Bd d (U (Pz _ _) ?_));rfl
theorem W2:∀{xs:List W}{n:Nat}{w:W}{c:List W},qab xs w n=J c->n<xs.length/\c=xs.set n w:=by
 intro xs
 induction xs with
 |nil=>exactλh=>ja h|cons x xs d=>
  intro n w c h
  induction n using Sa with
  |zero=>exact⟨Iu _,(ba h).symm⟩|succ n=>
   replace h:H (qab xs w n) (λr=>J (x::r))=J c:=h;rw[ID]at h;refine aa λe=>(Vg h λr g i=>?_);obtain⟨l,rfl⟩:=d g;exact e (⟨HR l,(ba i).symm⟩)
theorem yV{c:List W}(h:du xs k w=J c):((Nl xs.length k).bind λi=>(K1 xs w i).map W.l)=J (.l c):=by
 unfold du at h;rw[ID]at h;refine aa λd=>(Vg h λn e g=>?_);obtain⟨l,rfl⟩:=W2 g;refine d (U (xH e) ?_);show((if n<xs.length then J (xs.set n w)else Y).map W.l)=_
 refine U (Fd l) ?_;rfl
theorem Qg(a b:Int):Ph a b=decide (a<b):=by
 refine U (propext Fh) (U (propext decide_eq_true_iff) ?_)
 induction a with
 |ofNat a=>induction b with|ofNat b=>exact(iff_of_eq ud).trans li.symm|negSucc b=>exact⟨λh=>zc h ia,λh=>zc (Int.lt_trans h (CK b)) (Ui.mpr (xf a))⟩
 |negSucc a=>induction b with|ofNat b=>exact⟨λu=>yr (CK a) (xf b),λu=>rfl⟩|negSucc b=>exact(iff_of_eq ud).trans ⟨λh=>Int.neg_lt_neg (li.mpr (HR h)),λh=>Fg (li.mp (Int.lt_of_neg_lt_neg h))⟩
theorem wp(a b:Int):Rp a b=decide (a=b):=by
 refine U (propext Fh) (U (propext decide_eq_true_iff) ?_)
 induction a with
 |ofNat a=>induction b with|ofNat b=>exact(iff_of_eq qbl).trans Int.ofNat_inj.symm|negSucc b=>exact⟨λh=>zc h ia,λh=>nomatch h⟩
 |negSucc a=>induction b with|ofNat b=>exact⟨λh=>zc h ia,λh=>nomatch h⟩|negSucc b=>exact(iff_of_eq qbl).trans Int.negSucc_inj.symm
theorem UT(x:Int):∀c:List Int,Rk x c=decide (x∈c):=by
 intro c
 induction c with
 |nil=>
  exact rfl
 |cons k c d=>
  show M (Rp k x) Z (Rk x c)=_
  refine U vm (U (wp _ _) (U d ?_));by_cases h:k=x
  ·exact U h (U (decide_eq_true rfl) ((decide_eq_true sa).symm))
  ·exact U (decide_eq_false h) (decide_eq_decide.mpr ⟨oa _,λz=>(ab.mp z).resolve_left λe=>h e.symm⟩)
theorem FB(c:List Int)(x:Int)(d:List W):EB c x d=wy c d x:=match c,x,d with
 |[],u,y=>rfl|u::y,z,[]=>rfl|k::c,x,v::d=>by
  show M (Rp k x) (J v) (EB c x d)=if k=x then J v else wy c d x
  refine U vm (U (wp _ _) (U (FB c x d) ?_));simp only[decide_eq_true_eq]
theorem nP:∀(c:List Int)(x:Int),Pl c x=OJ c x:=by
 intro c
 induction c with
 |nil=>
  rintro _;exact rfl
 |cons k c d=>
  rintro x;show M (Rp k x) (k::c) (k::Pl c x)=if k=x then k::c else k::OJ c x
  refine U vm (U (wp _ _) (U (d x) ?_));simp only[decide_eq_true_eq]
theorem lC(d:List Int)(x:Int)(w:W)(c:List W):Ql d x w c=MJ d c x w:=match d,x,w,c with
 |[],u,y,z=>rfl|u::y,z,j,[]=>rfl|k::d,x,w,v::c=>by
  show M (Rp k x) (w::c) (v::Ql d x w c)=if k=x then w::c else v::MJ d c x w
  refine U vm (U (wp _ _) (U (lC d x w c) ?_));simp only[decide_eq_true_eq]
theorem Vz:∀(n:Nat)(a:Int),qw n a=(Ka n).map λ(i:Nat)=>W.int (a+(i:Int)):=by
 intro n
 induction n with
 |zero=>
  rintro _;exact rfl
 |succ n c=>
  rintro a;show W.int a::qw n (a+1)=_
  exact U (c (a+1)) (U lD (U Tb (U Rd (congr (Gc _ (Gc W.int (F5 a).symm)) (gg λ(i:Nat) u=>Gc W.int (show a+1+(i:Int)=a+((i+1:Nat):Int) by lia))))))
theorem hZ{c:Bool}(h:M b c ta=Z):b=Z/\c=Z:=by
 induction b with
 |true=>exact⟨rfl,h⟩|false=>exact zc h ia
theorem Fz{b:Int}(h:Ph a b=Z):a<b:=Ml ((Qg a b).symm.trans h)
theorem bA{b:Int}(h:vD a b=Z):Xo a b=Z:=
 have c:=hZ h;have d:=hZ c.2;have e:=hZ d.2
 decide_eq_true ⟨Fz c.1,Fz d.1,Fz e.1,Fz e.2⟩
theorem Qn{X:Type}{n:Nat}{xs:List X}(h:Kd n xs=Z):bc xs.length n=Z:=by unfold Kd at h;rw[Se]at h;exact h
theorem Dq{R:Type}:Rq (R:=R) Eq (Pf w) (uy w):=λk r e=>by
 induction w using W.casesOn<;>first|exact ja e|skip
 ·skip
  replace e:M (vD a b) (k (qw (b - a).toNat a)) Y=J r:=e
  induction h:vD a b with
  |false=>rw[h]at e;exact ja e|true=>
   rw[h]at e;refine .mk _ _ ?_ rfl e;have hs:=Ml (bA h);show(((Ie (Xo a b)).map λu=>sP a b).bind zl)=_
   refine U (wg (bA h)) ?_;show((Ie (bc (sP a b).length 4900)).map λu=>sP a b)=_
   refine U (show qw (b - a).toNat a=sP a b from Vz _ _) (U (wg (ud.mpr (by
    show((Ka (b - a).toNat).map _).length<4900
    rw[wa,Ab];lia))) ?_);rfl
 all_goals
  replace e:M (Kd 4900 xs) (k xs) Y=J r:=e;refine aa λnq=>?_
  induction h:Kd 4900 xs with
  |false=>refine nq ?_;rw[h]at e;exact ja e|true=>
   refine nq ?_;rw[h]at e;refine .mk _ _ ?_ rfl e;show zl xs=_
   unfold zl;refine U (wg (Qn h)) ?_;rfl
theorem sN{x:W}{i:Int}(h:Ua x=J i):W.int i=x:=by induction x using W.casesOn<;>first|exact ja h|exact Gc W.int (ba h).symm
theorem XF{X V:Type}{o:Option X}{f:X->Option V}{b:V}(h:H o f=J b):∃a,o=J a/\f a=J b:=by
 induction o with
 |none=>exact ja h|some a=>exact⟨a,rfl,h⟩
theorem Bz:{is:List Int}->Fv xs=J is->xs=is.map W.int:=by
 induction xs with
 |nil=>exactλh=>ba h▸rfl|cons x xs e=>
  intro is h;refine(XF (show H (Ua x) (λi=>H (Fv xs) λr=>J (i::r))=J is from h)).elim λi c=>(XF c.2).elim λr d=>?_;refine Bd (ba d.2) (Bd (sN c.1) (U (e d.1) ?_));rfl
theorem pz{x y:Int}:Yc (.int x) (.int y)=Rp x y:=by
 refine U (wp _ _) ?_
 rfl
end
section
variable {T:Type} {r:Bool} {S:Bi}
variable {R:Type} {u v w a b:W} {X:wb} {V:List W}
abbrev Rx(X:wb)(f:(T->Option R)->Option R)(x:Option (T×wb)):Prop:=Rq (λp w=>p=(w,X)) f x
theorem n8{c:List W}:Rq (R:=R) Eq (λk=>H (Ua v) λi=>H (Lg c i) k) ((Ua v).bind (jE c)):=Rq.wW λi=>Rq.op λu e u u d=>.mk _ _ (uZ e) rfl d
theorem eA:Rq (R:=R) Eq (pF u v X) (jV u v X):=Rq.wW λc=>by
 induction c using W.casesOn<;>first|exact Rq.no|exact n8|skip
 ·exact Rq.wW λi=>Rq.op λy e y y e2=>.mk _ _ ((FB _ _ _).symm.trans e) rfl e2
 ·exact Rq.wW λs=>Rq.op λy e y y e2=>.mk _ _ e rfl e2
theorem lH{o:Option T}{f:T->W}:Rx (R:=R) X (λk=>H o λz=>k (f z)) (o.map λz=>(f z,X)):=Rq.opm λu=>rfl
theorem QG(c:List T):jb (len c)=(c.length:Int):=Gc jb (Se c)
theorem ET:Rq (R:=R) (λi w=>w=W.int i) (ON w X) (AZ w X):=by
 have h:Rq (R:=R) (λi w=>w=W.int i) (λk=>H (mj w X) λc=>H (El c) λd=>k (.int (jb (len d)))) ((Qe w X).map λd=>(d.length:Int)):=by
  exact U Rc (Rq.wW λc=>Rq.opm λd=>Gc W.int (QG d))
 induction w using W.casesOn<;>first|exact h|exact Rq.ret (Gc W.int (QG _))|exact Rq.ret rfl
theorem Rn{c:List T}{x:W}{f:List T->W}:Rx (R:=R) X (λk=>M (Kd 4096 c) (k (f c)) Y) ((Ie (Ud c.length)).map λu=>(f c,X)):=Rq.grd λh=>by
 unfold Ud;refine U (wg (Qn h)) ?_;exact Rq.ret rfl
theorem NR:Rx (R:=R) X (tL a b X) (aY a b X):=by
 have h:Rx (R:=R) X (λk=>H (Qe a X) λd=>H (Qe b X) λc=>M (Kd 4096 (d++c)) (k (.l (d++c))) Y) ((Qe a X).bind λd=>(Qe b X).bind λc=>To (d++c) X):=Rq.wW λd=>Rq.wW λc=>Rn (x:=.none)
 induction a using W.casesOn<;>first|exact h|exact lH|exact Rq.wW λc=>Rn (x:=.none)
theorem WF{c:Je}:Rx (R:=R) X (mY c a b X) (nY c a b X):=by
 induction c<;>first|exact Rq.no|exact NR|exact(λf=>Rq.wW λx=>Rq.wW λy=>lH:∀f:Int->Int->Option Int,Rx (R:=R) X (λk=>H (Ua a) λx=>H (Ua b) λy=>H (f x y) λz=>k (.int z)) (i5 f a b X)) _|exact Rq.wW λx=>Rq.wW λy=>Rq.ret rfl
theorem VY(h:lk a b=J r):L4 a b=J r:=by
 induction a using W.casesOn<;>first|exact h|skip
 induction b using W.casesOn<;>first|exact h|exact(Gc J pz).trans h
theorem Zx:∀is:List Int,Pe (ae 5) (is.map W.int)=J (is.map rg):=by
 intro is
 induction is with
 |nil=>
  exact rfl
 |cons i is c=>
  show(Pe (ae 5) (is.map W.int)).map _=_
  refine U c ?_;rfl
theorem WR(x:Int):∀is:List Int,((is.map rg).any λd=>Yc d (.int x))=Rk x is:=by
 intro is
 induction is with
 |nil=>
  exact rfl
 |cons i is c=>
  show(Yc (.int i) (.int x)||(is.map rg).any _)=M (Rp i x) Z (Rk x is)
  refine U pz (U c ?_)
  induction Rp i x<;>rfl
theorem iN{c:W}(h:yA a c=J r):MW a c=J r:=by
 induction c using W.casesOn<;>first|exact h|skip
 ·skip
  induction a using W.casesOn<;>first|exact h|skip
  rename Int=>x
  induction e:Fv xs with
  |none=>exact(by rw[show yA (.int x) (.l xs)=match Fv xs with|some is=>J (Rk x is)|none=>MW (.int x) (.l xs)from rfl,e]at h;exact h)|some is=>
   rw[show yA (.int x) (.l xs)=match Fv xs with|some is=>J (Rk x is)|none=>MW (.int x) (.l xs)from rfl,e]at h;show(Pe (ae 5) xs).map _=_
   exact U (Bz e) (U (Zx _) ((Gc J (WR x is)).trans h))
 ·skip
  induction a using W.casesOn<;>first|exact ja h|skip
  rename Int=>x
  exact(Gc J (UT x ks).symm).trans h
theorem mu{f:Int->Int->Bool}{g:Int->Int->Bool}(h:∀x y,f x y=g x y):Rq (R:=R) Eq (λk=>aM a b λx y=>k (g x y)) (mE f a b):=Rq.wW λx=>Rq.opm λy=>h x y
theorem nu{d:ur}:Rq (R:=R) Eq (bM d a b X) (cM d a b X):=by
 have g:∀(Q:Bool->Bool->Prop)(f:Bool->Bool),(∀b,Q (f b) (f b))->Rq (R:=R) Q (λk=>H (lk a b) λb=>k (f b)) ((L4 a b).map f):=λQ f h=>Rq.op λr e=>by refine U (VY e) ?_;exact Rq.ret (h r)
 induction d
 ·have:=g Eq id λu=>rfl
  rw[Option.map_id]at this;exact this
 ·exact g Eq (λx=> !x) λu=>rfl
 ·exact mu λx y=>(Qg x y).symm
 ·exact mu λx y=>by refine U (Qg _ _) (Bd decide_not ?_);exact decide_eq_decide.mpr Ui.symm
 ·exact mu λx y=>(Qg y x).symm
 ·exact mu λx y=>by refine U (Qg _ _) (Bd decide_not ?_);exact decide_eq_decide.mpr Ui.symm
 ·exact Rq.op λr e=>by show Rq _ _ (qaJ a b);refine U e ?_;exact Rq.ret rfl
 ·exact Rq.op λr e=>by show Rq _ _ (Oh a b);refine U e ?_;exact Rq.ret rfl
 ·exact Rq.wW λc=>Rq.op λr e=>by refine U (iN e) ?_;exact Rq.ret rfl
 ·refine Rq.wW λx=>(U Rc (Rq.wW λc=>Rq.op λr e=>?_))
  show Rq _ _ ((MW (.int x) c).map _)
  exact U (iN e) (Rq.ret rfl)
theorem OA{p:W×wb}(h:H4 S V X=J p):p.2=X:=by
 induction S<;>first
  |(refine Ds (show Op _ _=J p from h) λy y z=>?_;subst z;rfl)|(refine Vg (show Option.bind _ _=J p from h) λz z h=>?_;refine Ds (show Op _ _=J p from h) λy y z=>?_;subst z;rfl)
theorem dE{o:Option (W×wb)}(h:∀p,o=J p->p.2=X):Rx (R:=R) X (λk=>H (o.map lj) k) o:=Rq.op λw e=>by
 refine Ds e λp z y=>?_;subst z;subst y;exact Rq.ret (Gc (Prod.mk p.1) (h p rfl))
theorem SN{n:Bb}:Rx (R:=R) X (λk=>H (V4 u n V X) k) (qaM u n V X):=dE λp h=>by
 refine Vg h λz z h=>(Vg h λz z h=>?_);refine Ds h λy y z=>?_;subst z
 rfl
theorem qbc{o:Option W}:Rx (R:=R) X (λk=>H o k) (wx X o):=Rq.opm (g:=λa=>a) λu=>rfl
theorem AN{f:Int->Int->Int}:Rx (R:=R) X (λk=>H (two V) λp=>H (Ua p.1) λx=>H (Ua p.2) λy=>k (.int (f x y))) (wx X ((two V).bind (qaL f))):=by
 show Rq _ _ (((two V).bind _).map _)
 refine U Rc (Rq.wW λp=>?_);show Rq _ _ ((((Ua p.1).bind _).map _).map _)
 refine U (sf _ _ _) (U Rc (Rq.wW λx=>?_));show Rq _ _ (((Ua p.2).map _).map _)
 exact U (sf _ _ _) lH
theorem DL:Rx (R:=R) X (qaD S V X) (H4 S V X):=by
 induction S
 ·show Rq _ _ ((((one V).bind _).map _).map _)
  refine U (sf _ _ _) (U Rc ?_);exact Rq.wW λw=>ET.map λi w h=>by refine U h ?_;rfl
 ·exact AN
 ·exact AN
 ·exact dE λp h=>OA h
 ·show Rq _ _ ((((one V).bind _).bind PC).bind _)
  exact U (Va _ _ _) (U (Va _ _ _) (Rq.wW λw=>(Rq.wW λc=>Rq.wW λd=>Rn (x:=.none))))
 ·show Rq _ (qaD .range V X) ((B1 V).map _)
  match V with
  |[]=>exact Rq.no|[b]=>
   refine U Rc (Rq.wW λy=>Rq.grd λh=>?_);show Rq _ _ ((((Ie (Xo 0 y)).map _).map _))
   exact U (wg (bA h)) (Rq.ret rfl)
  |[a,b]=>
   refine U Rc (Rq.wW λx=>?_);show Rq _ _ (((Ua b).bind _).map _)
   refine U Rc (Rq.wW λy=>Rq.grd λh=>?_);show Rq _ _ ((((Ie (Xo x y)).map _).map _))
   exact U (wg (bA h)) (Rq.ret rfl)
  |u::z::j::q=>exact Rq.no
 ·show Rq _ _ (((one V).bind λw=>au w X).bind _)
  exact U (Va _ _ _) (Rq.wW λw=>Rq.wW λd=>Rn (x:=.none))
 ·show Rq _ _ (((one V).bind ng).bind _)
  exact U (Va _ _ _) (Rq.wW λw=>Rq.wW λd=>Rn (x:=.none))
 ·exact dE λp h=>OA h
end
section
variable {w:W} {Q:List W}
structure yh(O:Or)(cf:Yp)(cb:Nat->jc->wb->Wk):Prop where
 ro:∀{R:Type} a Q T,Rq (R:=R) (λp w=>p=(w,T)) (O.ro a Q T) (cf a Q T)
 cf:∀{R:Type} a Q T,Rq (R:=R) Eq (O.cf a Q T) (cf a Q T)
 cb:∀{R:Type} i V T,Rq (R:=R) (λp f=>w8 p=f) (O.cb i V T) (cb i V T)
variable {R:Type} {O:Or} {L:Nat->Option (List Int)} {cf:Yp} {cb:Nat->jc->wb->Wk} {T:wb} {V:jc} {S P N:Type}
theorem Rx.bind{c:P->N->Prop}{f:(S->Option R)->Option R}{x:Option (S×wb)}{g:S->(N->Option R)->Option R}{y:S×wb->Option P}(h:Rx T f x)(d:∀a,Rq c (g a) (y (a,T))):Rq c (λk=>f λa=>g a k) (x.bind y):=Rq.bind h λb a e=>by refine U e ?_;exact d a
theorem Rx.map{c:P->N->Prop}{f:(S->Option R)->Option R}{x:Option (S×wb)}{g:S->N}{y:S×wb->P}(h:Rx T f x)(d:∀a,c (y (a,T)) (g a)):Rq c (λk=>f λa=>k (g a)) (x.map y):=Rq.map h λb a e=>by refine U e ?_;exact d a
theorem Rx.opv{o:Option S}:Rx (R:=R) T (λk=>H o k) (o.map λv=>(v,T)):=Rq.opm (g:=λa=>a) λu=>rfl
abbrev Re{S:Type}(f:(S->Option R)->Option R)(x:Option S):Prop:=Rq Eq f x
theorem Re.bind{c:P->N->Prop}{f:(S->Option R)->Option R}{x:Option S}{g:S->(N->Option R)->Option R}{y:S->Option P}(h:Re f x)(d:∀a,Rq c (g a) (y a)):Rq c (λk=>f λa=>g a k) (x.bind y):=Rq.bind h λb a e=>by refine U e ?_;exact d a
theorem bN{S:Type}{b:Bool}{f:(S->Option R)->Option R}{x y:Option S}(h:Re f x):Re (λk=>M b (f k) Y) (if b=Z then x else y):=Rq.grd λe=>by refine U (Fd e) ?_;exact h
theorem IC(is:List Nat)(a:List W)(V:jc):Re (R:=R) (SP is a V) (Ul is a V):=match is,a,V with|[],[],u=>Rq.ret rfl|[],u::y,z=>Rq.no|u::y,[],z=>Rq.no|i::is,x::a,V=>bN (IC is a (V.set i (J x)))
theorem Ir:∀{t:CT}{v:W}{V:jc},Re (R:=R) (gm t v V) (Uu t v V)
 |.x i,v,V=>bN (Rq.ret rfl)|.t is,v,V=>Rq.wW λa=>IC is a V
theorem Yu{g:W->(List W->Option R)->Option R}{f:W->wb->iR}(h:∀v,Rx T (g v) (f v T))(c:_):Rx T (Ae g c) (Yr f c T):=match c with|[]=>Rq.ret rfl|x::c=>(h x).bind λa=>(Yu h c).map λb=>rfl
theorem Cn(h:nb w=Z):mf w=J w:=by unfold mf;refine U (wg h) ?_;rfl
theorem b5{a:P->N->Prop}{f:(N->Option R)->Option R}{y:W->Option P}(h:Rq a f (y w)):Rq a (λk=>M (nb w) (f k) Y) ((mf w).bind y):=Rq.grd λe=>by refine U (Cn e) ?_;exact h
theorem qeo{c:N}{a:P->N->Prop}{y:W->P}(h:a (y w) c):Rq (R:=R) a (λk=>M (nb w) (k c) Y) ((mf w).map y):=Rq.grd λe=>by refine U (Cn e) ?_;exact Rq.ret h
theorem qfh{a:P->W->Prop}{y:W->P}(h:a (y w) w):Rq (R:=R) a (λk=>M (nb w) (k w) Y) ((mf w).map y):=qeo h
theorem ML(C:yh O cf cb){g:W}:Rx (R:=R) T (sW O g Q T) (aG db cf Q T g):=by
 induction g using W.casesOn<;>first|exact Rq.no|skip
 rename ua=>c
 induction c<;>first|exact Rq.no|exact Rq.wW λb=>DL|skip
 refine Rq.grd λh=>?_;show Rq _ _ ((Tr Q).bind _)
 unfold Tr;refine U (wg h) ?_
 induction db.init a with
 |some g=>exact Rq.no|none=>exact C.ro _ _ _
theorem NY(C:yh O cf cb){c:xD}{n:Bb}:Rx (R:=R) T (qdS O c n Q T) (qbE cf c n Q T):=by
 induction c with
 |fn f i=>exact C.ro _ _ _|lm o=>exact SN
variable (C:yh O cf cb)
include C
mutual
theorem Wc(e:X)(V:jc):Rx (R:=R) T (kX O e V T) (fX db L cf e V T):=match e,V with
 |.x i,V=>Rx.opv|.k v,V=>Rq.ret rfl|.none,V=>Rq.ret rfl|.bool b,V=>Rq.ret rfl|.int i,V=>Rq.ret rfl|.str s,V=>Rq.ret rfl|.attr o n,V=>(Wc o V).bind λw=>by
  exact U Rc (Rq.wW λi=>Rx.opv)
 |.sub o i,V=>(Wc o V).bind λu=>(Wc i V).bind λv=>eA.map λy y e=>by exact U e rfl|.cut o k,V=>Rq.no|.bin c a b,V=>(Wc a V).bind λu=>(Wc b V).bind λv=>WF|.neg a,V=>(Wc a V).bind λw=>lH|.cmp c a b,V=>(Wc a V).bind λu=>(Wc b V).bind λv=>nu.map λy y e=>by exact U e rfl|.cmp2 d f a b c,V=>(Wc a V).bind λu=>(Wc b V).bind λv=>nu.bind λr y e=>by
  subst e;exact Rq.ifB ((Wc c V).bind λx=>nu.map λy y e=>by exact U e rfl) (Rq.ret rfl)
 |.ite t a b,V=>(qt t V).bind λr=>Rq.ifB (Wc a V) (Wc b V)|.t a,V=>(Jn a V).bind λQ=>Rn (x:=.none)|.list a,V=>(Jn a V).bind λQ=>Rn (x:=.none)|.dict z j,V=>Rq.no|.comp n b h f rest g,V=>(Wc b V).bind λw=>Dq.bind λa y e=>by
  subst e;exact(Yu (λv=>Ir.bind λd=>(Ez f d).bind λr=>Rq.ifB (xB rest (λV=>(Wc g V).bind λw=>qfh rfl) d) (Rq.ret rfl)) a).bind λd=>Rn (x:=.none)
 |.call f a,V=>(Wc f V).bind λg=>(FN a V).bind λQ=>ML C|.meth o n a,V=>(Wc o V).bind λw=>Rq.wW λc=>(Jn a V).bind λQ=>NY C|.sup z j q,V=>Rq.no
theorem Jn(e:List X)(V:jc):Rx (R:=R) T (GN O e V T) (uG db L cf e V T):=match e,V with|[],V=>Rq.ret rfl|x::a,V=>(Wc x V).bind λw=>b5 ((Jn a V).map λQ=>rfl)
theorem FN(e:List X)(V:jc):Rx (R:=R) T (qcB O e V T) (N7 db L cf e V T):=match e,V with|[],V=>Rq.ret rfl|x::a,V=>(Wc x V).bind λw=>(FN a V).map λQ=>rfl
theorem qt(e:B)(V:jc):Rx (R:=R) T (kT O e V T) (fT db L cf e V T):=match e,V with|.and a b,V=>(qt a V).bind λr=>Rq.ifB (qt b V) (Rq.ret rfl)|.or a b,V=>(qt a V).bind λr=>Rq.ifB (Rq.ret rfl) (qt b V)|.not a,V=>(qt a V).map λr=>rfl|.wK x,V=>(Wc x V).bind λw=>Rx.opv
theorem Ez(e:List B)(V:jc):Rx (R:=R) T (xT O e V T) (FM db L cf e V T):=match e,V with|[],V=>Rq.ret rfl|t::a,V=>(qt t V).bind λr=>Rq.ifB (Ez a V) (Rq.ret rfl)
theorem xB:∀(e:List G){E:jc->(W->Option R)->Option R}{d:jc->wb->fo},(∀V,Rx T (E V) (d V T))->∀V:jc,Rx (R:=R) T (EN O e E V T) (sG db L cf e d V T)
 |[],y,z,hEx=>λV=>(hEx V).map λw=>rfl|.mk a f c::g,y,z,hEx=>λV=>(Wc a V).bind λw=>Dq.bind λh u e=>by
  subst e;exact Yu (λv=>Ir.bind λb=>(Ez c b).bind λr=>Rq.ifB (xB g hEx b) (Rq.ret rfl)) h
end
end
section
variable {R:Type} {O:Or} {sc:Nat->Option (List Int)} {Q:Yp} {N:Nat->jc->wb->Wk} {S:wb} {V:jc} {P L K:Type} {w v c:W} {n:Bb} {i j:Nat}
abbrev Rs(f:(Fk->Option R)->Option R)(x:Wk):Prop:=Rq (λp f=>w8 p=f) f x
theorem Re.map{d:L->K->Prop}{f:(P->Option R)->Option R}{x:Option P}{g:P->K}{y:P->L}(h:Re f x)(l:∀a,d (y a) (g a)):Rq d (λk=>f λa=>k (g a)) (x.map y):=Rq.map h λb a e=>by refine U e ?_;exact l a
theorem cC{x:Int}:Re (R:=R) (lP x v c) (kP x v c):=by
 induction c using W.casesOn<;>first|exact Rq.no|skip
 ·exact Rq.op λys e=>by refine U (show kP x v (.l _)=_ from yV e) ?_;exact Rq.ret rfl
 ·refine Rq.grd λh=>?_
  show Rq _ _ ((Ie (Ud _)).map _)
  unfold Ud;refine U (wg (Qn h)) (U (nP _ _) (U (lC _ _ _ _) ?_));exact Rq.ret rfl
theorem oP{iv:W}:Re (R:=R) (mX j iv v V S c) (Tz j iv v V S c):=by
 induction c using W.casesOn<;>first|exact Rq.no|skip
 ·exact Rq.wW λs=>Rq.wW λfs=>Rq.grd λh=>by
   show Rq _ _ ((Ie (Ud _)).bind _)
   unfold Ud;refine U (wg (Qn h)) ?_;exact Rq.opm λu=>rfl
 ·exact Rq.wW λx=>cC.map λu=>rfl
theorem jC{a:W}:Re (R:=R) (mP n a v S i) (aw n a v S i):=by
 show Rq _ _ (((di S i n).bind rK).bind _)
 exact U (Va _ _ _) (Rq.wW λb=>Rq.wW λc=>Rq.wW λx=>cC.map λu=>rfl)
theorem SG{l:Lm}{xs:List W}:Re (R:=R) (EZ l v xs) (DZ l v xs):=by
 induction l<;>first|exact Rq.no|skip
 ·refine Rq.grd λh=>?_
  show Rq _ _ ((Ie (Ud _)).map _)
  unfold Ud;refine U (wg (Qn h)) ?_;exact Rq.ret rfl
 ·refine Rq.wW λys=>Rq.grd λh=>?_
  rw[Se,Se]at h;show Rq _ _ ((Ie (Ud _)).map _)
  unfold Ud;refine U (wg h) ?_;exact Rq.ret rfl
theorem qaW{a b:List W}{x:W}(h:Tj a=J (x,b)):a=x::b:=by
 induction a using ma with
 |nil=>exact ja h|cons=>obtain⟨rfl,rfl⟩:=Ta (ba h);rfl
theorem cN{P:Type}{n m:Nat}{f:(P->Option R)->Option R}{x y:Option P}(h:Re f x):Re (λk=>M (bc n m) (f k) Y) (if n<m then x else y):=Rq.grd λe=>by refine U (Fd (ud.mp e)) ?_;exact h
theorem aI(is:List Nat)(a:List W)(V:jc):Re (R:=R) (I1 is a V) (Dm is a V):=match is,a,V with|[],[],u=>Rq.ret rfl|[],u::y,z=>Rq.no|u::y,[],z=>Rq.no|i::is,x::a,V=>cN (aI is a (V.set i (J x)))
theorem RA:∀{t:CT}{v:W}{V:jc},Re (R:=R) (il t v V) (Hx t v V)
 |.x i,v,V=>cN (Rq.ret rfl)|.t is,v,V=>Rq.wW λa=>aI is a V
theorem Zz{f:(Fk->Option R)->Option R}{x:Wk}{g:jc->wb->(Fk->Option R)->Option R}{y:jc->wb->Wk}(h:Rs f x)(m:∀V S,Rs (g V S) (y V S)):Rs (UU f g) (x.bind (Dw y)):=λk r e=>by
 induction h _ r e with|mk p a o q l=>
  subst o;subst q;obtain⟨s,b,d⟩:=p
  induction s with
  |next=>exact m b d k r l|ret w=>exact .mk (.ret w,b,d) _ rfl rfl l
theorem vv{g:W->jc->wb->(Fk->Option R)->Option R}{f:W->jc->wb->Wk}(h:∀v V S,Rs (g v V S) (f v V S))(a V S:_):Rs (nB g a V S) (Kv f a V S):=match a,V,S with|[],u,y=>Rq.ret rfl|x::a,V,S=>Zz (h x V S) (vv h a)
theorem QQ{t:jc->wb->(Bool×wb->Option R)->Option R}{d:jc->wb->X3}{g:jc->wb->(Fk->Option R)->Option R}{f:jc->wb->Wk}(m:∀V S,Re (t V S) (d V S))(h:∀V S,Rs (g V S) (f V S))(n V S:_):Rs (G3 t g n V S) (Lv d f n V S):=match n,V,S with
 |0,u,y=>Rq.no|n+1,V,S=>λk r e=>by
  induction m V S _ r e with|mk p a s q o=>
   refine aa λu=>?_;subst q;obtain⟨b,l⟩:=p;refine u ?_;show RK _ ((d V S).bind _) k r
   refine U s ?_
   induction b with
   |false=>exact .mk _ _ rfl rfl o|true=>exact Zz (h V l) (QQ m h n) k r o
theorem Rx.e{f:(P->Option R)->Option R}{x:Option (P×wb)}(h:Rx S f x):Re (λk=>f λw=>k (w,S)) x:=λk r e=>by
 induction h _ r e with|mk b a d q g=>exact .mk _ _ d q g
theorem qaO{op:Je}{a c:X}(h:wt op a=J c):op=.Mult/\a=.list [c]:=by
 induction a using X.casesOn<;>first|exact ja h|skip
 match xs,h with
 |[x],h=>induction op<;>first|exact ja h|exact⟨rfl,by obtain rfl:=ba h;rfl⟩
 |[],h=>exact ja h|u::y::z,h=>exact ja h
theorem WA{g:W->wb->(List W×wb->Option R)->Option R}{f:W->wb->iR}(h:∀v S,Re (g v S) (f v S))(a S:_):Re (gt g a S) (Yr f a S):=match a,S with|[],S=>Rq.ret rfl|x::a,S=>(h x S).bind λp=>(WA h a p.2).map λq=>rfl
theorem oX{a:List W}{c:W×wb}:Re (R:=R) (λk=>M (Kd 4096 a) (k c) Y) ((Ie (Ud a.length)).map λu=>c):=Rq.grd λh=>by unfold Ud;refine U (wg (Qn h)) ?_;exact Rq.ret rfl
variable (C:yh O Q N)
include C
theorem OL{g:W}{ws:List W}:Re (R:=R) (NL O g ws S) (aG db Q ws S g):=by
 induction g using W.casesOn<;>first|exact Rq.no|skip
 rename ua=>c
 induction c<;>first|exact Rq.no|exact Rq.wW λb=>Rx.e DL|skip
 refine Rq.grd λh=>?_;show Rq _ _ ((Tr ws).bind _)
 unfold Tr;refine U (wg h) ?_
 induction db.init a with
 |some g=>exact Re.bind (C.cf _ _ _) λp=>Rq.op λq e=>e.symm▸Rq.ret rfl|none=>exact C.cf _ _ _
mutual
theorem Jj(e:X)(V:jc)(S:wb):Re (R:=R) (hK O e V S) (fX db sc Q e V S):=match e,V,S with
 |.x i,V,S=>(Wc C (.x i) V).e|.k v,V,S=>(Wc C (.k v) V).e|.none,V,S=>(Wc C .none V).e|.bool b,V,S=>(Wc C (.bool b) V).e|.int b,V,S=>(Wc C (.int b) V).e|.str b,V,S=>(Wc C (.str b) V).e|.attr o n,V,S=>(Wc C (.attr o n) V).e|.sub o i,V,S=>(Jj o V S).bind λp=>(Jj i V p.2).bind λq=>Re.map eA λw=>rfl|.cut o n,V,S=>Rq.no|.bin d a b,V,S=>(Jj a V S).bind λp=>(Jj b V p.2).bind λq=>Rx.e WF|.neg a,V,S=>(Wc C (.neg a) V).e|.cmp d a b,V,S=>(Jj a V S).bind λp=>(Jj b V p.2).bind λq=>Re.map nu λw=>rfl|.cmp2 d f a b c,V,S=>(Wc C (.cmp2 d f a b c) V).e|.ite t a b,V,S=>(Wc C (.ite t a b) V).e|.t h,V,S=>(eN h V S).bind λq=>oX|.list h,V,S=>(Wc C (.list h) V).e|.dict u y,V,S=>Rq.no|.comp n d l f rest a,V,S=>λk r e=>by
  induction m:YT a&&f.isEmpty&&rest.isEmpty with
  |false=>
   exact Rx.e (Wc C (.comp n d l f rest a) V) k r (by refine Bd e ?_;show _=M (YT a&&f.isEmpty&&rest.isEmpty) _ _;refine U m ?_;rfl)
  |true=>
   replace e:M (YT a&&f.isEmpty&&rest.isEmpty) (kX O d V S λw=>Pf w λh=>gt (λv S s=>gm l v (V++Ia n Y) λb=>hK O a b S λp=>M (nb p.1) (s ([p.1],p.2)) Y) h S λq=>M (Kd 4096 q.1) (k (.l q.1,q.2)) Y) _=J r:=e;rw[m]at e
   induction f using ma with
   |cons=>rw[Aa,Aa]at m;exact zc m.1.2 ia|nil=>induction rest using ma with
    |cons=>rw[Aa]at m;exact zc m.2 ia|nil=>
     exact((Wc C d V).bind (g:=λw(k:W×wb->Option R)=>Pf w λh=>gt (λv S s=>gm l v (V++Ia n Y) λb=>hK O a b S λp=>M (nb p.1) (s ([p.1],p.2)) Y) h S λq=>M (Kd 4096 q.1) (k (.l q.1,q.2)) Y) λw=>Re.bind Dq λh=>(WA (λv S=>Ir.bind λb=>by
      show Re _ (((fX db sc Q a b S).bind _).map _)
      refine U Rc ((Jj a b S).bind λp=>Rq.grd λs=>?_);show Re _ (((mf p.1).map _).map _)
      refine U (Cn s) ?_;exact Rq.ret rfl) h S).bind λq=>oX) k r e
 |.call f a,V,S=>(Wc C f V).bind λg=>(dN a V S).bind λq=>OL C|.meth o n a,V,S=>(Wc C o V).bind λw=>Rq.wW λc=>(Jn C a V).bind λb=>by
  induction c with
  |fn f i=>exact C.cf _ _ _|lm o=>exact Rx.e SN
 |.sup i f a,V,S=>by
  show Rq _ _ ((((Oe V i).bind xk).bind _).bind _)
  exact U (Va _ _ _) (U (Va _ _ _) (Rq.wW λw=>Rq.wW λi=>Rq.wW λj=>(Jn C a V).bind λb=>C.cf _ _ _))
theorem eN(a:List X)(V:jc)(S:wb):Re (R:=R) (qcv O a V S) (uG db sc Q a V S):=match a,V,S with|[],V,S=>Rq.ret rfl|x::b,V,S=>(Jj x V S).bind λp=>Rq.grd λh=>by refine U (Cn h) ?_;exact(eN b V p.2).map λq=>rfl
theorem dN(a:List X)(V:jc)(S:wb):Re (R:=R) (qcu O a V S) (N7 db sc Q a V S):=match a,V,S with|[],V,S=>Rq.ret rfl|x::b,V,S=>(Jj x V S).bind λp=>(dN b V p.2).map λq=>rfl
end
theorem Sz(e:X):Re (R:=R) (Y0 O e V S) (JM db sc Q e V S):=(Jj C e V _).bind λp=>nbM' p
where nbM' (p:W×wb):Re (R:=R) (λk=>M (nb p.1) (k p) Y) ((mf p.1).map λw=>(w,p.2)):=Rq.grd λe=>by refine U (Cn e) ?_;exact Rq.ret rfl
theorem WT(a b:X):Re (R:=R) (UZ O a b V S) (GM db sc Q a b V S):=(Wc C a V).bind λw=>b5 (y:=λw=>(fX db sc Q b V S).bind λq=>(Ua q.1).bind λk=>(Ie (decide (0<=k/\k<4096))).map λu=>(W.o (.l (Ia k.toNat w)),q.2)) ((Wc C b V).bind λv=>Rq.wW λi=>Rq.grd λd=>Rq.grd λe=>by
 rw[Qg]at d e;refine U (wg (decide_eq_true ⟨Ui.mp (λz=>zc d (by rw[decide_eq_true z];exact ia):¬i<0),Ml e⟩)) ?_;exact Rq.ret rfl)
theorem AX(e:X):Re (R:=R) (vK O e V S) (fV db sc Q e V S):=by
 induction e using X.casesOn<;>first|exact Sz C _|skip
 ·skip
  show Re (λk=>match wt op a with|some c=>UZ O c b V S k|none=>Y0 O (.bin op a b) V S k) (match wt op a with|some c=>GM db sc Q c b V S|none=>JM db sc Q (.bin op a b) V S)
  induction wt op a with
  |none=>exact Sz C _|some c=>exact WT C c b
 ·exact(Jn C _ V).bind λws=>Rq.grd λh=>by unfold Ud;refine U (wg (Qn h)) ?_;exact Rq.ret rfl
 ·skip
  match ks,vs with
  |[],[]=>exact Rq.ret rfl|[a],[b]=>exact(Wc C a V).bind λu=>Rq.wW λi=>(Wc C b V).bind λw=>qeo (y:=λw=>(W.o (.dic [i] [w]),S)) rfl|[],z::j=>exact Rq.no|[z],[]=>exact Rq.no|[z],j::q::d=>exact Rq.no|z::j::q,d=>exact Rq.no
theorem JQ(a:List X)(S:wb):Re (R:=R) (qbb O a V S) (qaF db sc Q a V S):=match a,S with|[],S=>Rq.ret rfl|x::b,S=>(AX C x).bind λp=>(JQ b p.2).map λq=>rfl
theorem hV(o e:X):Re (R:=R) (V9 O o e v V S) (gT db sc Q o e v V S):=by
 induction o using X.casesOn<;>first|exact Rq.no|skip
 ·exact(Wc C e V).bind λiv=>Rq.wW λc=>oP
 ·exact(Wc C _ V).bind λw=>Rq.wW λi=>(Wc C e V).bind λiv=>jC.map λu=>rfl
mutual
theorem TO(t:T)(v:W)(V:jc)(S:wb):Re (R:=R) (pK O t v V S) (fP db sc Q t v V S):=match t,v,V,S with
 |.x i,v,V,S=>Rq.grd λh=>by
  show Rq _ _ ((Ie (bc i V.length)).map _)
  exact U (wg h) (Rq.ret rfl)
 |.t a,v,V,S=>Rq.wW λb=>KE a b V S|.attr o n,v,V,S=>(Wc C o V).bind λw=>by
  exact U Rc (Rq.wW λi=>Rq.opm λu=>rfl)
 |.sub o e,v,V,S=>b5 (y:=λv=>gT db sc Q o e v V S) (hV C o e)
theorem KE(a:List T)(b:List W)(V:jc)(S:wb):Re (R:=R) (r9 O a b V S) (L7 db sc Q a b V S):=match a,b,V,S with|[],[],V,S=>Rq.ret rfl|[],u::y,V,S=>Rq.no|t::a,[],V,S=>Rq.no|t::a,v::b,V,S=>(TO t v V S).bind λq=>KE a b q.1 q.2
end
theorem qct{f:(jc×wb->Option R)->Option R}{x:C4}(h:Re f x):Rs (λk=>f λp=>k (.go p.1 p.2)) (x.map eZ):=h.map λu=>rfl
theorem aS(t:T)(e:X):Rs (R:=R) (b6 O t e V S) (hY db sc Q t e V S):=by
 induction t using T.casesOn<;>first|exact(AX C e).bind λq=>qct C (TO C _ q.1 V q.2)|skip
 show Rs (λk=>match sF e with|some es=>qbb O es V S λq=>M (Kd 4096 q.1) (r9 O ts q.1 V q.2 λp=>k (.go p.1 p.2)) Y|none=>Y0 O e V S λq=>pK O (.t ts) q.1 V q.2 λp=>k (.go p.1 p.2)) (match sF e with|some es=>_|none=>_)
 induction sF e with
 |none=>exact(Sz C e).bind λq=>qct C (TO C _ q.1 V q.2)|some es=>exact(JQ C es S).bind λq=>Rq.grd λh=>by unfold Ud;refine U (wg (Qn h)) ?_;exact qct C (KE C ts q.1 V q.2)
theorem cS(o:X)(n:Bb)(i:X)(a:Je)(e:X):Rs (R:=R) (d6 O o n i a e V S) ((fX db sc Q o V S).bind λp=>(Am db n p.2 p.1).bind λj=>jY db sc Q n i e a V p.2 j):=
 (Wc C o V).bind λw=>Rq.wW λj=>(Wc C i V).bind λd=>Re.bind eA λb=>(Wc C e V).bind λr=>Rq.wW λx=>Rq.wW λy=>Rq.wW λz=>jC.map λu=>rfl
theorem YR(m:Bb)(o e:X):Rs (R:=R) (Z5 O m o e V S) (gY db sc Q m o e V S):=by
 induction o using X.casesOn<;>first|exact Rq.no|skip
 ·rename Nat=>j
  show Rq _ _ (((Oe V j).bind cs).bind _)
  exact U (Va _ _ _) (Rq.wW λb=>Rq.wW λxs=>(Jj C e V S).bind λp=>b5 (y:=λv=>(Vt m).bind λm=>(DZ m v xs).map λys=>(dW.next,V.set j (J (.o (.l ys))),p.2)) (Rq.wW λl=>SG.map λu=>rfl))
 ·rename X=>o
  refine(Wc C o V).bind λw=>Rq.wW λi=>(U (Va _ _ _) (Rq.op λb eb=>Rq.op λxs ex=>(U eb ?_)));show Rq _ _ ((cs b).bind _)
  refine U ex ((Wc C e V).bind λv=>b5 (y:=λv=>(Vt m).bind λm=>((di S i n).bind cs).bind λxs=>(DZ m v xs).map λys=>(dW.next,V,Em S i n (.o (.l ys)))) (Rq.wW λl=>(U (by rw[eb];exact ex:(di S i n).bind cs=J xs) ?_)));exact SG.map λu=>rfl
theorem rT(o i e:X):Rs (R:=R) (i8 O o i e V S) (kZ db sc Q o i e V S):=by
 induction o using X.casesOn<;>first|exact Rq.no|skip
 rename Nat=>j
 show Rq _ _ (((Oe V j).bind cs).bind _)
 exact U (Va _ _ _) (Rq.wW λb=>Rq.wW λxs=>(Wc C i V).bind λq=>Rq.wW λi=>(Wc C e V).bind λv=>b5 (y:=λv=>(nN i v xs).map λys=>(dW.next,V.set j (J (.o (.l ys))),S)) (Rq.opm λu=>rfl))
theorem LW(t:B):Re (R:=R) (hT O t V S) (fT db sc Q t V S):=by
 have d:∀t,Re (R:=R) (λk=>kT O t V S λb=>k (b,S)) (fT db sc Q t V S):=λt=>(qt C t V).e
 induction t using B.casesOn<;>first|exact d _|skip
 ·rename B=>t
  induction t using B.casesOn<;>first|exact d _|skip
  rename X=>e
  show Rq _ _ (((fX db sc Q e V S).bind _).map _)
  refine U Rc ((Jj C e V _).bind λp=>?_);show Rq _ _ (((Ii p.1).map _).map _)
  exact U (sf _ _ _) (Rq.opm λu=>rfl)
 ·skip
  induction x using X.casesOn<;>first|exact d _|skip
  induction op<;>first|exact d _|skip
  ·induction a using X.casesOn<;>first|exact d _|skip
   exact(Jj C _ V _).bind λp=>Rq.opm λu=>rfl
  ·show Rq _ _ (((fX db sc Q a V S).bind _).bind _)
   refine U (Va _ _ _) ((Jj C a V _).bind λp=>?_);show Rq _ _ (((fX db sc Q b V p.2).bind _).bind _)
   exact U (Va _ _ _) ((Wc C b V).bind λv=>(U xh (Rq.wW λr=>Rq.ret rfl)))
theorem vU(e:X):Rs (R:=R) (u9 O e V S) ((qbJ db sc Q e V S).map λp=>(.ret p.1,V,p.2)):=by
 induction e using X.casesOn<;>first|exact(Sz C _).map λy=>rfl|skip
 exact U (sf _ _ _) (U Rc (Rq.wW λu=>Rq.opm λy=>rfl))
mutual
theorem PW(s:SF)(V:jc)(S:wb):Rs (R:=R) (kS O s V S) (fS db sc Q N s V S):=match s,V,S with
 |.q t e,V,S=>aS C t e|.aug o n i a e,V,S=>cS C o n i a e|.expr e,V,S=>(Jj C e V _).bind λp=>Rq.opm λu=>rfl|.app o m e,V,S=>YR C m o e|.ins o i e,V,S=>rT C o i e|.ifs t a b,V,S=>(LW C t).bind λq=>Rq.ifB (Hn a V q.2) (Hn b V q.2)|.whil t b,V,S=>by
  show Rs (G3 (hT O t) (λV S k=>Ug O b V S k) 5000 V S) (Lv (fT db sc Q t) (λV S=>hJ db sc Q N b V S) 5000 V S)
  generalize 5000=n;exact QQ (λV S=>LW C t) (λV S=>Hn b V S) n V S
 |.fors t e b,V,S=>(Wc C e V).bind λw=>Re.bind Dq λd=>vv (λv V S=>RA.bind λa=>Hn b a S) d V S|.forz t f b,V,S=>(Jn C f V).bind λg=>by
  exact U (Va _ _ _) (U (Va _ _ _) (Rq.wW λh=>Rq.wW λk=>Rq.wW λd=>vv (λv V S=>RA.bind λa=>Hn b a S) d V S))
 |.ret e,V,S=>vU C e|.frz i,V,S=>by
  show Rq _ _ (((Oe V i).bind rK).map _)
  exact U Rc (Rq.wW λb=>Rq.opm λu=>rfl)
 |.blk i,V,S=>C.cb i V S
theorem Hn(a:List SF)(V:jc)(S:wb):Rs (R:=R) (Ug O a V S) (hJ db sc Q N a V S):=match a,V,S with|[],V,S=>Rq.ret rfl|s::a,V,S=>Zz (PW s V S) (Hn a)
end
end
section
variable {w:W} {R:Type} {e:Mine.Internal.X} {fn:Sg} {n:Nat}
noncomputable section
abbrev CF:=(R:Type)->List W->wb->(W×wb->Option R)->Option R
abbrev CB:=(R:Type)->jc->wb->(Fk->Option R)->Option R
def ji(V:Yp)(a:Nat)(f:CF):Prop:=∀R b c,Re (f R b c) (V a b c)
def vh(L:Nat->jc->wb->Wk)(i:Nat)(f:CB):Prop:=∀R a b,Rs (f R a b) (L i a b)
abbrev CR:=(R:Type)->List W->wb->(W->Option R)->Option R
def Ng(V:Yp)(a:Nat)(f:CR):Prop:=∀R c b,Rx b (f R c b) (V a c b)
noncomputable def Or.nil:Or:=⟨λu u u u=>Y,λu u u u=>Y,λu u u u=>Y⟩
noncomputable def Or.c(O:Or)(a:Nat)(f:CF):Or:=⟨O.ro,λb c g k=>M (Rb a b) (f _ c g k) (O.cf b c g k),O.cb⟩
noncomputable def Or.b(O:Or)(a:Nat)(f:CB):Or:=⟨O.ro,O.cf,λb c g k=>M (Rb a b) (f _ c g k) (O.cb b c g k)⟩
def Or.r(O:Or)(a:Nat)(f:CR):Or:=⟨λb c g k=>M (Rb a b) (f _ c g k) (O.ro b c g k),O.cf,O.cb⟩
section
variable {O:Or} {V:Yp} {L:Nat->jc->wb->Wk}
theorem yh.nil:yh Or.nil V L:=⟨λu u u=>Rq.no,λu u u=>Rq.no,λu u u=>Rq.no⟩
theorem KI{a b:Nat}{c:Type}{x y:c}{P:c->Prop}(f:a=b->P x)(g:P y):P (M (Rb a b) x y):=by
 induction h:Rb a b with
 |true=>exact f (Tc h)|false=>exact g
theorem yh.c(C:yh O V L){a:Nat}{f:CF}(h:ji V a f):yh (O.c a f) V L:=⟨C.ro,λ{R} b g j k r=>KI (P:=λx=>x=J r->RK Eq (V b g j) k r) (λc=>c▸h R g j k r) (C.cf b g j k r),C.cb⟩
theorem yh.b(C:yh O V L){a:Nat}{f:CB}(h:vh L a f):yh (O.b a f) V L:=⟨C.ro,C.cf,λ{R} b g j k r=>KI (P:=λx=>x=J r->RK _ (L b g j) k r) (λc=>c▸h R g j k r) (C.cb b g j k r)⟩
theorem yh.r(C:yh O V L){a:Nat}{f:CR}(h:Ng V a f):yh (O.r a f) V L:=⟨λ{R} b g j k r=>KI (P:=λx=>x=J r->RK _ (V b g j) k r) (λc=>c▸h R g j k r) (C.ro b g j k r),C.cf,C.cb⟩
end
theorem nS{c g:Type}{o:Option c}{f:c->Option g}{b:g}(h:H o f=J b):∃a,o=J a/\f a=J b:=by
 induction o with
 |none=>exact ja h|some a=>exact⟨a,rfl,h⟩
theorem gp{c g:Type}{o:Option c}{f:c->Option g}{b:g}{P:Prop}(h:H o f=J b)(k:∀a,o=J a->f a=J b->P):P:=by
 obtain⟨a,j,l⟩:=nS h;exact k a j l
structure Cd(A S:Type)where
 dec:(R:Type)->A->(S->Option R)->Option R
 wR:S->A
 ok:∀R a k r,dec R a k=J r->∃s,wR s=a/\k s=J r
structure Rg(A X S:Type)where
 dec:(R:Type)->A->(X->S->Option R)->Option R
 wR:X->S->A
 ok:∀R a k r,dec R a k=J r->∃x s,wR x s=a/\k x s=J r
section
variable {A S T X G:Type}
noncomputable def Cd.id:Cd A A:=⟨λu a k=>k a,λa=>a,λu a u u e=>⟨a,rfl,e⟩⟩
def Cd.op(f:A->Option S)(g:S->A)(h:∀a s,f a=J s->g s=a):Cd A S:=⟨λu a k=>H (f a) k,g,λu a u u e=>by
 refine gp e λs b c=>?_;exact⟨s,h a s b,c⟩⟩
noncomputable def t7(w:W):Option (List Int×List W):=match w with|.dic a b=>J (a,b)|_=>Y
def OW(i:Nat)(w:W):Option Unit:=H (xk w) λj=>M (Rb j i) (J ()) Y
theorem tN{i:Nat}{u:Unit}(e:OW i w=J u):W.ref i=w:=by
 induction w using W.casesOn<;>first|exact ja e|skip
 rename Nat=>j
 exact KI (a:=j) (b:=i) (x:=J ()) (y:=(Y:Option Unit)) (P:=λx=>x=J u->W.ref i=.ref j) (λc z=>c▸rfl) (λe=>ja e) e
noncomputable def Cd.int:Cd W Int:=.op Ua .int λa s e=>by induction a using W.casesOn<;>first|exact ja e|exact Gc W.int (ba e).symm
noncomputable def Cd.l:Cd W (List W):=.op El .l λa s e=>by induction a using W.casesOn<;>first|exact ja e|exact Gc W.l (ba e).symm
noncomputable def Cd.t:Cd W (List W):=.op ng .t λa s e=>by induction a using W.casesOn<;>first|exact ja e|exact Gc W.t (ba e).symm
noncomputable def Cd.bool:Cd W Bool:=.op Ii .bool λa s e=>by induction a using W.casesOn<;>first|exact ja e|exact Gc W.bool (ba e).symm
noncomputable def Cd.dic:Cd W (List Int×List W):=.op t7 (λs=>.dic s.1 s.2) λa s e=>by induction a using W.casesOn<;>first|exact ja e|(obtain rfl:=ba e;rfl)
noncomputable def Cd.ref(i:Nat):Cd W Unit:=.op (OW i) (λu=>.ref i) λu u e=>tN e
theorem U2{b:W}(h:rK w=J b):W.o b=w:=by induction w using W.casesOn<;>first|exact ja h|exact Gc W.o (ba h).symm
noncomputable def Cd.o(c:Cd W S):Cd W S:=⟨λR w k=>H (rK w) λb=>c.dec R b k,λs=>.o (c.wR s),λR a k r e=>by
 exact(nS e).elim λb h=>(c.ok R b k r h.2).elim λs g=>⟨s,(Gc W.o g.1).trans (U2 h.1),g.2⟩⟩
def Cd.some'(c:Cd W S):Cd (Option W) S:=⟨λR o k=>H o λb=>c.dec R b k,λs=>J (c.wR s),λR a k r e=>by
 exact(nS e).elim λb h=>(c.ok R b k r h.2).elim λs g=>⟨s,(Gc J g.1).trans h.1.symm,g.2⟩⟩
def Cd.fld(n:Bb)(c:Cd W S):Cd (Bb×W) S:=⟨λR x k=>M (decide (x.1=n)) (c.dec R x.2 k) Y,λs=>(n,c.wR s),λR a k r e=>by
 have h:a.1=n/\c.dec R a.2 k=J r:=by
  induction h:decide (a.1=n)with
  |true=>exact⟨Ml h,(Gc (λb=>M b (c.dec R a.2 k) Y) h).symm.trans e⟩|false=>exact ja ((Gc (λb=>M b (c.dec R a.2 k) Y) h).symm.trans e)
 exact(c.ok R _ _ _ h.2).elim λs g=>⟨s,by exact U g.1 (Bd h.1 rfl),g.2⟩⟩
noncomputable def Rg.nil:Rg (List A) Unit Unit:=⟨λu l k=>ma l (k () ()) λu u=>Y,λu u=>[],λR a k r e=>by
 induction a using ma with
 |nil=>exact⟨(),(),rfl,e⟩|cons=>exact ja e⟩
noncomputable def Rg.rest:Rg (List A) (List A) Unit:=⟨λu l k=>k l (),λx u=>x,λu a u u e=>⟨a,(),rfl,e⟩⟩
noncomputable def Rg.cons(c:Rg A X S)(d:Rg (List A) G T):Rg (List A) (X×G) (S×T):=⟨λR l k=>ma l Y λx t=>c.dec R x λx s=>d.dec R t λy r=>k (x,y) (s,r),λx s=>c.wR x.1 s.1::d.wR x.2 s.2,λR a k r e=>by
 induction a using ma with
 |nil=>exact ja e|cons x t=>
  exact(c.ok R _ _ _ e).elim λx h=>h.elim λs h=>(d.ok R _ _ _ h.2).elim λy g=>g.elim λq g=>⟨(x,y),(s,q),congr (Gc DA h.1) g.1,g.2⟩⟩
noncomputable def Rg.p(c:Cd A S)(d:Rg (List A) X T):Rg (List A) (S×X) T:=⟨λR l k=>ma l Y λx t=>c.dec R x λs=>d.dec R t λy r=>k (s,y) r,λx s=>c.wR x.1::d.wR x.2 s,λR a k r e=>by
 induction a using ma with
 |nil=>exact ja e|cons x t=>
  exact(c.ok R _ _ _ e).elim λs h=>(d.ok R _ _ _ h.2).elim λy g=>g.elim λq g=>⟨(s,y),q,congr (Gc DA h.1) g.1,g.2⟩⟩
noncomputable def Rg.a(c:Cd A S)(d:Rg (List A) X T):Rg (List A) X (S×T):=⟨λR l k=>ma l Y λx t=>c.dec R x λs=>d.dec R t λy r=>k y (s,r),λx s=>c.wR s.1::d.wR x s.2,λR a k r e=>by
 induction a using ma with
 |nil=>exact ja e|cons x t=>
  exact(c.ok R _ _ _ e).elim λs h=>(d.ok R _ _ _ h.2).elim λy g=>g.elim λq g=>⟨y,(s,q),congr (Gc DA h.1) g.1,g.2⟩⟩
noncomputable def Rg.sk(c:Cd A Unit)(d:Rg (List A) X T):Rg (List A) X T:=⟨λR l k=>ma l Y λx t=>c.dec R x λu=>d.dec R t k,λx s=>c.wR ()::d.wR x s,λR a k r e=>by
 induction a using ma with
 |nil=>exact ja e|cons x t=>
  exact(c.ok R _ _ _ e).elim λs h=>(d.ok R _ _ _ h.2).elim λy g=>g.elim λq g=>⟨y,q,congr (Gc DA h.1) g.1,g.2⟩⟩
def Rg.obj(c:Nat)(d:Rg (List (Bb×W)) X S):Rg OF X S:=⟨λR o k=>H o.cls λj=>M (Rb j c) (d.dec R o.fs k) Y,λx s=>⟨J c,d.wR x s⟩,λR a k r e=>by
 exact(nS e).elim λj h=>KI (a:=j) (b:=c) (x:=d.dec R a.fs k) (y:=Y) (P:=λx=>x=J r->∃x s,OF.mk (J c) (d.wR x s)=a/\k x s=J r) (λq f=>(d.ok R _ _ _ f).elim λx g=>g.elim λs g=>⟨x,s,congr (Gc OF.mk ((Gc J q.symm).trans h.1.symm)) g.1,g.2⟩) (λe=>ja e) h.2⟩
noncomputable def Rg.pas(c:Rg A X S):Rg A (X×S) Unit:=⟨λR a k=>c.dec R a λx s=>k (x,s) (),λy u=>c.wR y.1 y.2,λR a k r e=>by
 obtain⟨x,s,b,f⟩:=c.ok R a _ r e;exact⟨(x,s),(),b,f⟩⟩
end
inductive Fw(I K:Type)where
 |go (m:I) (h:K)|ret (w:W) (h:K)
section
variable {I K:Type}
def u5(t:I->K->(Bool->Option R)->Option R)(g:I->K->(Fw I K->Option R)->Option R)(n:Nat):I->K->(Fw I K->Option R)->Option R:=vn (motive:=λu=>I->K->(Fw I K->Option R)->Option R) (λu u u=>Y) (λu a m h k=>t m h λb=>M b (g m h λr=>Fw.rec (λm h=>a m h k) (λw h=>k (.ret w h)) r) (k (.go m h))) n
noncomputable def Kg(g:W->I->K->(Fw I K->Option R)->Option R)(a:List W):I->K->(Fw I K->Option R)->Option R:=ic (motive:=λu=>I->K->(Fw I K->Option R)->Option R) (λm h k=>k (.go m h)) (λx u b m h k=>g x m h λr=>Fw.rec (λm h=>b m h k) (λw h=>k (.ret w h)) r) a
def o5(t:I->K->(Bool->Option R)->Option R)(g:I->K->(I->K->Option R)->Option R)(n:Nat):I->K->(I->K->Option R)->Option R:=vn (motive:=λu=>I->K->(I->K->Option R)->Option R) (λu u u=>Y) (λu a m h k=>t m h λb=>M b (g m h λm h=>a m h k) (k m h)) n
noncomputable def nh(g:W->I->K->(I->K->Option R)->Option R)(a:List W):I->K->(I->K->Option R)->Option R:=ic (motive:=λu=>I->K->(I->K->Option R)->Option R) (λm h k=>k m h) (λx u b m h k=>g x m h λm h=>b m h k) a
def lv(N:I->jc)(eH:K->wb)(k:Fk->Option R)(r:Fw I K):Option R:=Fw.rec (λm h=>k (.go (N m) (eH h))) (λw h=>k (.ret w (eH h))) r
variable {X G:Type} {CM:Rg jc X I} {CH:Rg wb G K} {O:Or} {N:I->jc} {eH:K->wb}
theorem qae{t:jc->wb->(Bool×wb->Option R)->Option R}{b:jc->wb->(Fk->Option R)->Option R}{a:I->K->(Bool->Option R)->Option R}{f:I->K->(Fw I K->Option R)->Option R}
 (j:∀m h k,t (N m) (eH h) k=a m h λb=>k (b,eH h))(l:∀m h k,b (N m) (eH h) k=f m h (lv N eH k))(k:Fk->Option R):∀n m h,G3 t b n (N m) (eH h) k=u5 a f n m h (lv N eH k):=by
 intro n
 induction n with
 |zero=>
  rintro m h;exact rfl
 |succ n o=>
  rintro m h;exact(j m h _).trans (Gc (a m h) (funext λc=>by
   induction c with
   |false=>rfl|true=>exact(l m h _).trans (Gc (f m h) (funext λr=>by
    induction r with
    |go p g=>exact o p g|ret w g=>rfl))))
theorem zG{b:W->jc->wb->(Fk->Option R)->Option R}{c:W->I->K->(Fw I K->Option R)->Option R}(g:∀v m h k,b v (N m) (eH h) k=c v m h (lv N eH k))(k:Fk->Option R):∀a m h,nB b a (N m) (eH h) k=Kg c a m h (lv N eH k):=by
 intro a
 induction a with
 |nil=>
  rintro m h;exact rfl
 |cons x a j=>
  rintro m h;exact(g x m h _).trans (Gc (c x m h) (funext λr=>by
   induction r with
   |go l f=>exact j l f|ret w f=>rfl))
theorem D3{t:jc->wb->(Bool×wb->Option R)->Option R}{b:jc->wb->(Fk->Option R)->Option R}{a:I->K->(Bool->Option R)->Option R}{f:I->K->(I->K->Option R)->Option R}
 (g:∀m h k,t (N m) (eH h) k=a m h λb=>k (b,eH h))(j:∀m h k,b (N m) (eH h) k=f m h λm h=>k (.go (N m) (eH h)))(k:Fk->Option R):∀n m h,G3 t b n (N m) (eH h) k=o5 a f n m h λm h=>k (.go (N m) (eH h)):=by
 intro n
 induction n with
 |zero=>
  rintro m h;exact rfl
 |succ n l=>
  rintro m h;exact(g m h _).trans (Gc (a m h) (funext λc=>by
   induction c with
   |false=>rfl|true=>exact(j m h _).trans (Gc (f m h) (funext λo=>funext λp=>l o p))))
theorem mB{b:W->jc->wb->(Fk->Option R)->Option R}{c:W->I->K->(I->K->Option R)->Option R}(f:∀v m h k,b v (N m) (eH h) k=c v m h λm h=>k (.go (N m) (eH h)))(k:Fk->Option R):∀a m h,nB b a (N m) (eH h) k=nh c a m h λm h=>k (.go (N m) (eH h)):=by
 intro a
 induction a with
 |nil=>
  rintro m h;exact rfl
 |cons x a g=>
  rintro m h;exact(f x m h _).trans (Gc (c x m h) (funext λj=>funext λl=>g j l))
noncomputable abbrev BP(X G I K:Type):=(R:Type)->X->G->I->K->(Fw I K->Option R)->Option R
def Oj(CM:Rg jc X I)(CH:Rg wb G K)(f:BP X G I K):CB:=λR a b k=>CM.dec R a λx m=>CH.dec R b λy h=>f R x y m h (lv (CM.wR x) (CH.wR y) k)
variable {Q:Nat->Option (List Int)} {V:Yp} {d i:Nat}
theorem HI{s:SF}(C:yh O V (Ge db Ib Q V d))(a:Ib i=J s)(b:Hv s=Z){f:BP X G I K}(E:∀R x y m h k,kS O s (CM.wR x m) (CH.wR y h) k=f R x y m h (lv (CM.wR x) (CH.wR y) k)):vh (Ge db Ib Q V (d+1)) i (Oj CM CH f):=λR l o k r e=>by
 refine aa λc=>?_;obtain⟨x,m,rfl,g⟩:=CM.ok _ _ _ _ e;obtain⟨y,h,rfl,j⟩:=CH.ok _ _ _ _ g;refine c ?_;have:=PW (sc:=Q) (R:=R) C s _ _ k r ((E R _ _ _ _ k).trans j);show RK _ ((Ib i).bind _) k r
 refine U a ?_;show RK _ ((Ie (Hv s)).bind _) k r
 exact U b this
theorem RQ{t:B}{b:List SF}(C:yh O V (Ge db Ib Q V d))(a:Ib i=J (.whil t b)){tP:(R:Type)->X->G->I->K->(Bool->Option R)->Option R}{gP:BP X G I K}
 (c:∀R x y m h k,hT O t (CM.wR x m) (CH.wR y h) k=tP R x y m h λb=>k (b,CH.wR y h))(f:∀R x y m h k,Ug O b (CM.wR x m) (CH.wR y h) k=gP R x y m h (lv (CM.wR x) (CH.wR y) k)):vh (Ge db Ib Q V (d+1)) i (Oj CM CH λR x y m h k=>u5 (tP R x y) (gP R x y) 5000 m h k):=
 HI C a rfl λR x y m h k=>by
  show G3 (hT O t) (λg j k=>Ug O b g j k) 5000 _ _ k=_
  generalize 5000=n;exact qae (c R x y) (f R x y) k n m h
theorem Sr{t:CT}{b:List SF}(C:yh O V (Ge db Ib Q V d))(f:Ib i=J (.fors t e b)){eP:(R:Type)->X->G->I->K->(List W->Option R)->Option R}{gP:W->BP X G I K}
 (g:∀R x y m h k,(kX O e (CM.wR x m) (CH.wR y h) λw=>Pf w k)=eP R x y m h k)(j:∀v R x y m h k,(il t v (CM.wR x m) λa=>Ug O b a (CH.wR y h) k)=gP v R x y m h (lv (CM.wR x) (CH.wR y) k)):vh (Ge db Ib Q V (d+1)) i (Oj CM CH λR x y m h k=>eP R x y m h λc=>Kg (λv=>gP v R x y) c m h k):=
 HI C f rfl λR x y m h k=>(g R x y m h _).trans (Gc (eP R x y m h) (funext λc=>zG (b:=λv l o k=>il t v l λa=>Ug O b a o k) (λv m h k=>j v R x y m h k) k c m h))
noncomputable abbrev BN(X G I K:Type):=(R:Type)->X->G->I->K->(I->K->Option R)->Option R
def oj(CM:Rg jc X I)(CH:Rg wb G K)(f:BN X G I K):CB:=Oj CM CH λR x y m h k=>f R x y m h λm h=>k (.go m h)
theorem xF{t:B}{b:List SF}(C:yh O V (Ge db Ib Q V d))(a:Ib i=J (.whil t b)){tP:(R:Type)->X->G->I->K->(Bool->Option R)->Option R}{gP:BN X G I K}
 (c:∀R x y m h k,hT O t (CM.wR x m) (CH.wR y h) k=tP R x y m h λb=>k (b,CH.wR y h))(f:∀R x y m h k,Ug O b (CM.wR x m) (CH.wR y h) k=gP R x y m h λm h=>k (.go (CM.wR x m) (CH.wR y h))):vh (Ge db Ib Q V (d+1)) i (oj CM CH λR x y m h k=>o5 (tP R x y) (gP R x y) 5000 m h k):=
 HI C a rfl λR x y m h k=>by
  show G3 (hT O t) (λg j k=>Ug O b g j k) 5000 _ _ k=_
  generalize 5000=n;exact D3 (c R x y) (f R x y) k n m h
theorem rj{t:CT}{b:List SF}(C:yh O V (Ge db Ib Q V d))(f:Ib i=J (.fors t e b)){eP:(R:Type)->X->G->I->K->(List W->Option R)->Option R}{gP:W->BN X G I K}
 (g:∀R x y m h k,(kX O e (CM.wR x m) (CH.wR y h) λw=>Pf w k)=eP R x y m h k)(j:∀v R x y m h k,(il t v (CM.wR x m) λa=>Ug O b a (CH.wR y h) k)=gP v R x y m h λm h=>k (.go (CM.wR x m) (CH.wR y h))):vh (Ge db Ib Q V (d+1)) i (oj CM CH λR x y m h k=>eP R x y m h λc=>nh (λv=>gP v R x y) c m h k):=
 HI C f rfl λR x y m h k=>(g R x y m h _).trans (Gc (eP R x y m h) (funext λc=>mB (b:=λv l o k=>il t v l λa=>Ug O b a o k) (λv m h k=>j v R x y m h k) k c m h))
theorem oT{t:CT}{f:List Mine.Internal.X}{b:List SF}(C:yh O V (Ge db Ib Q V d))(g:Ib i=J (.forz t f b)){eP:(R:Type)->X->G->I->K->(List W->Option R)->Option R}{gP:W->BP X G I K}
 (j:∀R x y m h k,(GN O f (CM.wR x m) (CH.wR y h) λa=>H (fm a) λc=>H (qA c) λl=>H (zl l) k)=eP R x y m h k)(l:∀v R x y m h k,(il t v (CM.wR x m) λa=>Ug O b a (CH.wR y h) k)=gP v R x y m h (lv (CM.wR x) (CH.wR y) k)):vh (Ge db Ib Q V (d+1)) i (Oj CM CH λR x y m h k=>eP R x y m h λc=>Kg (λv=>gP v R x y) c m h k):=
 HI C g rfl λR x y m h k=>(j R x y m h _).trans (Gc (eP R x y m h) (funext λc=>zG (b:=λv o p k=>il t v o λa=>Ug O b a p k) (λv m h k=>l v R x y m h k) k c m h))
theorem UM{t:CT}{f:List Mine.Internal.X}{b:List SF}(C:yh O V (Ge db Ib Q V d))(g:Ib i=J (.forz t f b)){eP:(R:Type)->X->G->I->K->(List W->Option R)->Option R}{gP:W->BN X G I K}
 (j:∀R x y m h k,(GN O f (CM.wR x m) (CH.wR y h) λa=>H (fm a) λc=>H (qA c) λl=>H (zl l) k)=eP R x y m h k)(l:∀v R x y m h k,(il t v (CM.wR x m) λa=>Ug O b a (CH.wR y h) k)=gP v R x y m h λm h=>k (.go (CM.wR x m) (CH.wR y h))):vh (Ge db Ib Q V (d+1)) i (oj CM CH λR x y m h k=>eP R x y m h λc=>nh (λv=>gP v R x y) c m h k):=
 HI C g rfl λR x y m h k=>(j R x y m h _).trans (Gc (eP R x y m h) (funext λc=>mB (b:=λv o p k=>il t v o λa=>Ug O b a p k) (λv m h k=>l v R x y m h k) k c m h))
noncomputable def gk(g:W->K->(List W->K->Option R)->Option R)(c:List W):K->(List W->K->Option R)->Option R:=ic (motive:=λu=>K->(List W->K->Option R)->Option R) (λh k=>k [] h) (λx u f h k=>g x h λa h=>f h λb h=>k (a++b) h) c
theorem Zu{g:W->wb->(List W×wb->Option R)->Option R}{gP:W->K->(List W->K->Option R)->Option R}(E:∀v h k,g v (eH h) k=gP v h λc h=>k (c,eH h)):∀(b:List W)(h:K)(k:List W×wb->Option R),gt g b (eH h) k=gk gP b h λc h=>k (c,eH h):=by
 intro b
 induction b with
 |nil=>
  rintro h k;exact rfl
 |cons x b f=>
  rintro h k;exact(E x h _).trans (Gc (gP x h) (funext λa=>funext λj=>f j _))
def RS(r:Fk):W×wb:=Fk.rec (λu a=>(.none,a)) (λw a=>(w,a)) r
def bn(O:Or)(fn:Sg)(a:List W)(b:wb)(k:W×wb->Option R):Option R:=M (Rb a.length fn.params) (Ug O fn.body (a.map J++Ia (fn.slots - fn.params) Y) b λr=>k (RS r)) Y
theorem sw{b:List W}{a:wb}(C:yh O V (Ge db Ib Q V 4)):Re (R:=R) (bn O fn b a) (Wo db Ib Q V fn b a):=Rq.grd λh=>by
 show Rq _ _ ((Ie (Rb b.length fn.params)).bind _)
 refine U (wg h) ?_;exact Rq.map (Hn C fn.body _ a) λp f e=>by
  subst e;obtain⟨c,g,a⟩:=p
  induction c<;>rfl
noncomputable def yg{A T:Type}(b:Rg (List W) A Unit)(CH:Rg wb G K)(f:(R:Type)->A->G->K->(T->Option R)->Option R)(g:A->G->K->T->W×wb):CF:=λR c j k=>b.dec R c λa u=>CH.dec R j λy h=>f R a y h λt=>k (g a y h t)
theorem nj{A T:Type}{b:Rg (List W) A Unit}{a:Nat}(C:yh O (Mb db Ib qc n Q) (Ge db Ib Q (Mb db Ib qc n Q) 4))(c:qc a=J fn)(j:fn.mode=.all){f:(R:Type)->A->G->K->(T->Option R)->Option R}{g:A->G->K->T->W×wb}
 (E:∀R a y h k,bn O fn (b.wR a ()) (CH.wR y h) k=f R a y h λt=>k (g a y h t)):ji (Mb db Ib qc (n+1) Q) a (yg b CH f g):=λR p q k r e=>by
 refine aa λl=>?_;obtain⟨a,_,rfl,m⟩:=b.ok _ _ _ _ e;obtain⟨y,h,rfl,o⟩:=CH.ok _ _ _ _ m;refine l ?_;have:=sw (fn:=fn) C k r ((E R _ _ _ k).trans o);show RK _ ((qc _).bind _) k r
 refine U c ?_;show RK _ (vt fn.mode _ _ _ _) k r
 exact U j this
noncomputable def yk{A:Type}(b:Rg (List W) A Unit)(CH:Rg wb G K)(f:(R:Type)->A->G->K->(W->Option R)->Option R):CR:=λR c g k=>b.dec R c λa u=>CH.dec R g λy h=>f R a y h k
open Classical in
theorem Tq{A:Type}{CA:Rg (List W) A Unit}{a:Nat}(C:yh O (Mb db Ib qc n Q) (Ge db Ib Q (Mb db Ib qc n Q) 4))(hf:qc a=J fn)(hm:fn.mode=.all){f:(R:Type)->A->G->K->(W->Option R)->Option R}
 (E:∀R a y h k,bn O fn (CA.wR a ()) (CH.wR y h) k=f R a y h λt=>k (t,CH.wR y h)):Ng (Mb db Ib qc (n+1) Q) a (yk CA CH f):=λR ws σ k r e=>by
 refine aa λnq=>?_;obtain⟨a,_,rfl,e2⟩:=CA.ok _ _ _ _ e;obtain⟨y,h,rfl,e3⟩:=CH.ok _ _ _ _ e2;refine nq ?_;have:=sw (fn:=fn) C (λp=>if p.2=CH.wR y h then k p.1 else Y) r ((E R a y h _).trans ((Gc (f R a y h) (funext λw=>Fd rfl)).trans e3))
 induction this with|mk p q e5 e6 e7=>
 refine aa λnq=>?_;subst e6;refine nq ?_;replace e7:(if p.2=CH.wR y h then k p.1 else Y)=J r:=e7
 split at e7
 ·rename_i c
  refine .mk p p.1 ?_ (c▸rfl) e7;show(qc _).bind _=_
  refine U hf ?_;show vt fn.mode _ _ _ _=_
  exact U hm e5
 ·exact ja e7
end
end
end
noncomputable section
abbrev fr{S:Type}(c:Cd W S):Cd (Option W) S:=Cd.some' c
abbrev ow:Cd (Option W) (Option W):=Cd.id
abbrev XX:=OF×OF×(List W×List W×List W×Unit)×wb
noncomputable abbrev Be:=(List W×List W×Unit)×Unit
noncomputable def qcV:Rg (List (Bb×W)) (List W×List W×List W×Unit) (List W×List W×Unit):=.p (.fld "able" .l)<| .p (.fld "lows" .l)<| .p (.fld "highs" .l)<| .a (.fld "at" (.o .l))<| .a (.fld "counts" (.o .l)) .nil
def wk:Rg wb XX Be:=.p .id<| .p .id<| .cons (.obj 357 qcV) .rest
section
variable {R:Type}
noncomputable abbrev XX.wM(y:XX):List W:=y.2.2.1.1
noncomputable abbrev XX.wO(y:XX):List W:=y.2.2.1.2.1
noncomputable abbrev XX.wN(y:XX):List W:=y.2.2.1.2.2.1
noncomputable abbrev Be.at(h:Be):List W:=h.1.1
noncomputable abbrev Be.co(h:Be):List W:=h.1.2.1
noncomputable abbrev Be.mk(a c:List W):Be:=((a,c,()),())
def Xd(n:Int)(k:List W->Option R):Option R:=M (vD 0 n) (M (vD 0 n) (k (qw (n - 0).toNat 0)) Y) Y
def Td(a:List W):Int:=jb (len a)
def Il(c:List W)(o:Int)(k:W->Option R):Option R:=Xd (Td c) λf=>Ae (λv e=>H (Ua v) λi=>H (Lg c i) λa=>H (lk a (.int o)) λb=>M b (M (nb v) (e [v]) Y) (e [])) f λa=>M (Kd 4096 a) (k (.l a)) Y
end
section
variable {X:Nat->Option (List Int)} {n d:Nat} {V:Yp}
def PU:CR:=yk (.sk (.ref 2)<| .p .int .nil) wk λR a y h k=>Il h.at a.1 k
theorem KO:Ng (Mb db Ib qc (n+1) X) 328 PU:=Tq .nil rfl rfl λR a y h k=>by kernel_rfl!
noncomputable abbrev M1:=(List Int×List W)×List W×Option W×Unit
def qdG:Rg jc (Int×Option W×Option W×Option W×Option W×Unit) M1:=.sk (fr (.ref 2))<| .p (fr .int)<| .a (fr (.o .dic))<| .a (fr (.o .l))<| .p ow<| .a ow<| .p ow<| .p ow<| .p ow .nil
def BW{R:Type}(b:Int)(v:W)(m:M1)(h:Be)(k:M1->Be->Option R):Option R:=H (Ua v) λi=>M (Kd 4096 m.1.1) (M (nb v) (M (Kd 4096 m.2.1) (k ((Pl m.1.1 i,Ql m.1.1 i (.t [.int b,.int (-1)]) m.1.2),m.2.1++[v],J v,()) h) Y) Y) Y
def nH{R:Type}(a:List W)(b:Int)(m:M1)(h:Be)(k:M1->Be->Option R):Option R:=H (Lg a b) λr=>Pf r λc=>nh (BW b) c m h k
def zP:CB:=oj qdG wk λR x y m h k=>nH y.wM x.1 m h k
theorem j0:vh (Ge db Ib X V (d+1)) 3351 zP:=rj (CM:=qdG) (CH:=wk) .nil rfl (eP:=λR x y m h k=>H (Lg y.wM x.1) λr=>Pf r k) (gP:=λv R x y m h k=>BW x.1 v m h k) (λR x y m h k=>by kernel_rfl!) λv R x y m h k=>by kernel_rfl!
noncomputable abbrev M3:=W×Option W×Option W×Unit
def qdI:Rg jc (Option W×(List Int×List W)×Option W×Option W×Option W×Unit) M3:=.sk (fr (.ref 2))<| .p ow<| .p (fr (.o .dic))<| .p ow<| .p ow<| .p ow<| .a (fr .id)<| .a ow<| .a ow .nil
def UO{R:Type}(w:W)(k:W->W->Option R):Option R:=M (nb w) (H (ng w) λa=>H (Tj a) λp=>H (Tj p.2) λq=>M (sy q.2) (k p.1 q.1) Y) Y
def EW{R:Type}(c:List Int×List W)(m:M3)(h:Be)(k:M3->Be->Option R):Option R:=H (Ua m.1) λi=>H (EB c.1 i c.2) λw=>UO w λa b=>M (nb m.1) (M (nb m.1) (H (Ua a) λx=>H (du h.at x m.1) λe=>M (nb b) (k (b,J a,J b,()) (.mk e h.co)) Y) Y) Y
def tX{R:Type}(m:M3)(k:Bool->Option R):Option R:=H (Ua m.1) λx=>k (!Ph x 0)
def pH{R:Type}(c:List Int×List W)(m:M3)(h:Be)(k:M3->Be->Option R):Option R:=o5 (λm u=>tX m) (EW c) 5000 m h k
def CP:CB:=oj qdI wk λR x y m h k=>pH x.2.1 m h k
theorem n0:vh (Ge db Ib X V (d+1)) 3353 CP:=xF (CM:=qdI) (CH:=wk) .nil rfl (tP:=λR x y m h k=>tX m k) (gP:=λR x y m h k=>EW x.2.1 m h k) (λR x y m h k=>by kernel_rfl!) λR x y m h k=>by kernel_rfl!
def qdK:Rg jc (Option W×Option W×W×W×Option W×Unit) M1:=.sk (fr (.ref 2))<| .p ow<| .a (fr (.o .dic))<| .a (fr (.o .l))<| .p ow<| .a ow<| .p (fr .id)<| .p (fr .id)<| .p ow .nil
def FW{R:Type}(a b v:W)(m:M1)(h:Be)(k:M1->Be->Option R):Option R:=H (Ua v) λx=>M (!Rk x m.1.1) (M (nb b) (M (nb a) (H (Ua v) λi=>M (Kd 4096 m.1.1) (M (nb v) (M (Kd 4096 m.2.1) (k ((Pl m.1.1 i,Ql m.1.1 i (.t [b,a]) m.1.2),m.2.1++[v],J v,()) h) Y) Y) Y) Y) Y) (k (m.1,m.2.1,J v,()) h)
def rH{R:Type}(a:List W)(b c:W)(m:M1)(h:Be)(k:M1->Be->Option R):Option R:=H (Ua c) λi=>H (Lg a i) λr=>Pf r λe=>nh (FW b c) e m h k
def EP:CB:=oj qdK wk λR x y m h k=>rH y.wM x.2.2.1 x.2.2.2.1 m h k
theorem u0:vh (Ge db Ib X V (d+1)) 3355 EP:=rj (CM:=qdK) (CH:=wk) .nil rfl (eP:=λR x y m h k=>H (Ua x.2.2.2.1) λi=>H (Lg y.wM i) λr=>Pf r k) (gP:=λv R x y m h k=>FW x.2.2.1 x.2.2.2.1 v m h k) (λR x y m h k=>by kernel_rfl!) λv R x y m h k=>by kernel_rfl!
noncomputable abbrev M4:=(List Int×List W)×List W×Option W×Option W×Unit
def qdJ:Rg jc (Option W×Option W×W×Option W×Unit) M4:=.sk (fr (.ref 2))<| .p ow<| .a (fr (.o .dic))<| .a (fr (.o .l))<| .p ow<| .a ow<| .p (fr .id)<| .a ow<| .p ow .nil
def CG{R:Type}(a:List W)(b v:W)(m:M4)(h:Be)(k:M4->Be->Option R):Option R:=rH a b v (m.1,m.2.1,m.2.2.1,()) h λm h=>k (m.1,m.2.1,m.2.2.1,J v,()) h
def jt{R:Type}(a:W)(h:Be)(k:List W->Option R):Option R:=M (nb a) (H (Ua a) λo=>Il h.at o λw=>Pf w k) Y
def qH{R:Type}(b:List W)(a:W)(m:M4)(h:Be)(k:M4->Be->Option R):Option R:=jt a h λc=>nh (CG b a) c m h k
def DP:CB:=oj qdJ wk λR x y m h k=>qH y.wM x.2.2.1 m h k
theorem r0:vh (Ge db Ib X (Mb db Ib qc (n+1) X) (d+2)) 3354 DP:=rj (CM:=qdJ) (CH:=wk) ((yh.nil.r KO).b u0) rfl (eP:=λR x y m h k=>jt x.2.2.1 h k) (gP:=λv R x y m h k=>CG y.wM x.2.2.1 v m h k) (λR x y m h k=>by kernel_rfl!) λv R x y m h k=>by kernel_rfl!
noncomputable abbrev M2:=(List Int×List W)×List W×Int×Option W×Option W×Option W×Option W×Unit
def qdH:Rg jc (Option W×Unit) M2:=.sk (fr (.ref 2))<| .p ow<| .a (fr (.o .dic))<| .a (fr (.o .l))<| .a (fr .int)<| .a ow<| .a ow<| .a ow<| .a ow .nil
def Lp{R:Type}(e f:List W)(i:W)(k:Int->Int->Option R):Option R:=H (Ua i) λa=>H (Lg e a) λc=>H (Ua i) λb=>H (Lg f b) λh=>H (Ua c) λx=>H (Ua h) λy=>k x y
def QR{R:Type}(e:List W)(i:W)(z:Int->Int)(k:List W->Option R):Option R:=H (Ua i) λa=>H (Lg e a) λc=>H (Ua c) λx=>H (Ua i) λb=>H (du e b (.int (z x))) k
def CW{R:Type}(c a:List W)(m:M2)(h:Be)(k:Fw M2 Be->Option R):Option R:=H (Lg m.2.1 m.2.2.1) λb=>M (nb b) (Lp h.co a b λx y=>M (Ph x y)
 (QR h.co b (λx=>x+1) λe=>pH m.1 (b,m.2.2.2.2.2.1,m.2.2.2.2.2.2.1,()) (.mk h.at e) λm h=>k (.ret .none h))
 (qH c b (m.1,m.2.1,m.2.2.2.1,m.2.2.2.2.2.1,()) h λe h=>k (.go (e.1,e.2.1,m.2.2.1+1,e.2.2.1,J b,e.2.2.2.1,m.2.2.2.2.2.2.1,()) h))) Y
def sX{R:Type}(m:M2)(k:Bool->Option R):Option R:=k (Ph m.2.2.1 (Td m.2.1))
def oH{R:Type}(b a:List W)(m:M2)(h:Be)(k:Fw M2 Be->Option R):Option R:=u5 (λm u=>sX m) (CW b a) 5000 m h k
def AP:CB:=Oj qdH wk λR x y m h k=>oH y.wM y.wN m h k
theorem l0:vh (Ge db Ib X (Mb db Ib qc (n+1) X) (d+3)) 3352 AP:=RQ (CM:=qdH) (CH:=wk) ((yh.nil.b n0).b r0) rfl (tP:=λR x y m h k=>sX m k) (gP:=λR x y m h k=>CW y.wM y.wN m h k) (λR x y m h k=>by kernel_rfl!) λR x y m h k=>by kernel_rfl!
def Vv{R:Type}(a c:List W)(b:Int)(h:Be)(k:W->Be->Option R):Option R:=nH a b (([],[]),[],Y,()) h λm h=>oH a c (m.1,m.2.1,0,m.2.2.1,Y,Y,Y,()) h λr=>Fw.rec (λm h=>H (PC (.l m.2.1)) λe=>M (Kd 4096 e) (k (.l e) h) Y) (λw h=>k w h) r
def QU:CF:=yg (.sk (.ref 2)<| .p .int .nil) wk (λR a y h k=>Vv y.wM y.wN a.1 h λw h=>k (w,h)) λu y u t=>(t.1,wk.wR y t.2)
theorem O8:ji (Mb db Ib qc (n+2) X) 335 QU:=nj ((yh.nil.b j0).b l0) rfl rfl λR a y h k=>by kernel_rfl!
end
end
section
variable {R:Type}
noncomputable section
section
variable {X:Nat->Option (List Int)} {n d:Nat} {V:Yp}
noncomputable abbrev DW:=List Int×List W
noncomputable abbrev M6:=W×Option W×Unit
def qdL:Rg jc (W×DW×Unit) M6:=.sk (fr (.ref 2))<| .a (fr .id)<| .p (fr .id)<| .p (fr .dic)<| .a ow .nil
def vX(w:W)(m:M6)(k:Bool->Option R):Option R:=H (lk m.1 w) λb=>k (!b)
def GW(c:DW)(m:M6)(h:Be)(k:M6->Be->Option R):Option R:=H (Ua m.1) λi=>H (EB c.1 i c.2) λw=>UO w λa b=>M (nb b) (M (nb b) (H (Ua a) λx=>H (du h.at x b) λe=>k (b,J a,()) (.mk e h.co)) Y) Y
def sH(N:Nat)(w:W)(c:DW)(m:M6)(h:Be)(k:M6->Be->Option R):Option R:=o5 (λm u=>vX w m) (GW c) N m h k
def wC(N:Nat):CB:=oj qdL wk λR x y m h k=>sH N x.1 x.2.1 m h k
theorem A0:vh (Ge db Ib X V (d+1)) 3491 (wC 5000):=xF (CM:=qdL) (CH:=wk) .nil rfl (tP:=λR x y m h k=>vX x.1 m k) (gP:=λR x y m h k=>GW x.2.1 m h k) (λR x y m h k=>by kernel_rfl!) λR x y m h k=>by kernel_rfl!
def HB(N:Nat)(o w:W)(c:DW)(h:Be)(k:W->Be->Option R):Option R:=QR h.co o (λx=>x - 1) λa=>QR a w (λx=>x+1) λa=>sH N w c (o,Y,()) (.mk h.at a) λu h=>k .none h
def RU(N:Nat):CF:=yg (.sk (.ref 2)<| .p .id<| .p .id<| .p .dic .nil) wk (λR a y h k=>HB N a.1 a.2.1 a.2.2.1 h λw h=>k (w,h)) λu y u t=>(t.1,wk.wR y t.2)
theorem A7(N:Nat)(R:Type)(a:W×W×DW×Unit)(y:XX)(h:Be)(k:W×wb->Option R):bn (Or.nil.b 3491 (wC N)) S7 [.ref 2,a.1,a.2.1,.dic a.2.2.1.1 a.2.2.1.2] (wk.wR y h) k=HB N a.1 a.2.1 a.2.2.1 h λw h=>k (w,wk.wR y h):=by kernel_rfl!
theorem Q8:ji (Mb db Ib qc (n+1) X) 349 (RU 5000):=nj (yh.nil.b A0) rfl rfl (A7 5000)
abbrev M7:=DW×List W×Option W×Option W×Unit
def qdM:Rg jc (W×Option W×W×Unit) M7:=.sk (fr (.ref 2))<| .p (fr .id)<| .a (fr (.o .dic))<| .a (fr (.o .l))<| .p ow<| .p (fr .id)<| .a ow<| .a ow .nil
def ly(f g:List W)(a e:W)(j:Be->wb)(v:W)(m:M7)(h:Be)(k:Fw M7 Be->Option R):Option R:=H (Ua v) λi=>H (Lg h.at i) λo=>M (nb o) (H (Ua v) λi=>H (Lg f i) λr=>H (mj r (j h)) λc=>H (yA e c) λb=>
 M b (H (Ua o) λx=>M (!Rk x m.1.1)
  (M (nb v) (M (nb e) (H (Ua o) λi=>M (Kd 4096 m.1.1) (M (nb o) (M (Kd 4096 m.2.1)
   (Lp h.co g o λx y=>M (Ph y x) (M (nb o) (M (nb a) (HB 5000 o a (Pl m.1.1 i,Ql m.1.1 i (.t [v,e]) m.1.2) h λw h=>H (pG w) λu=>k (.ret .none h)) Y) Y)
    (k (.go ((Pl m.1.1 i,Ql m.1.1 i (.t [v,e]) m.1.2),m.2.1++[o],J v,J o,()) h))) Y) Y) Y) Y) Y)
  (k (.go (m.1,m.2.1,J v,J o,()) h))) (k (.go (m.1,m.2.1,J v,J o,()) h))) Y
def WB(b c:List W)(a e:W)(f:Be->wb)(m:M7)(h:Be)(k:Fw M7 Be->Option R):Option R:=Xd (Td h.at) λg=>Kg (ly b c a e f) g m h k
def FP:CB:=Oj qdM wk λR x y m h k=>WB y.wM y.wO x.1 x.2.2.1 (wk.wR y) m h k
theorem y0:vh (Ge db Ib X (Mb db Ib qc (n+1) X) (d+1)) 3422 FP:=Sr (CM:=qdM) (CH:=wk) (yh.nil.c Q8) rfl (eP:=λR x y m h k=>Xd (Td h.at) k) (gP:=λv R x y m h k=>ly y.wM y.wO x.1 x.2.2.1 (wk.wR y) v m h k) (λR x y m h k=>by kernel_rfl!) λv R x y m h k=>by kernel_rfl!
abbrev M8:=DW×List W×Int×Option W×Option W×Option W×Unit
def qdN:Rg jc (W×Unit) M8:=.sk (fr (.ref 2))<| .p (fr .id)<| .a (fr (.o .dic))<| .a (fr (.o .l))<| .a (fr .int)<| .a ow<| .a ow<| .a ow .nil
def VM(b c:List W)(a:W)(g:Be->wb)(m:M8)(h:Be)(k:Fw M8 Be->Option R):Option R:=H (Lg m.2.1 m.2.2.1) λf=>M (nb f) (WB b c a f g (m.1,m.2.1,m.2.2.2.2.1,m.2.2.2.2.2.1,()) h λr=>Fw.rec (λe h=>k (.go (e.1,e.2.1,m.2.2.1+1,J f,e.2.2.1,e.2.2.2.1,()) h)) (λw h=>k (.ret w h)) r) Y
def uX(m:M8)(k:Bool->Option R):Option R:=k (Ph m.2.2.1 (Td m.2.1))
def UB(N:Nat)(b c:List W)(a:W)(e:Be->wb)(m:M8)(h:Be)(k:Fw M8 Be->Option R):Option R:=u5 (λm u=>uX m) (VM b c a e) N m h k
def vC(N:Nat):CB:=Oj qdN wk λR x y m h k=>UB N y.wM y.wO x.1 (wk.wR y) m h k
theorem w0:vh (Ge db Ib X (Mb db Ib qc (n+1) X) (d+2)) 3421 (vC 5000):=RQ (CM:=qdN) (CH:=wk) (yh.nil.b y0) rfl (tP:=λR x y m h k=>uX m k) (gP:=λR x y m h k=>VM y.wM y.wO x.1 (wk.wR y) m h k) (λR x y m h k=>by kernel_rfl!) λR x y m h k=>by kernel_rfl!
def sq(N:Nat)(a b:List W)(w:Int)(e:Be->wb)(h:Be)(k:W->Be->Option R):Option R:=UB N a b (.int w) e (([w],[.t [.int (-1),.int (-1)]]),[.int w],0,Y,Y,Y,()) h λr=>Fw.rec (λm h=>H (PC (.l m.2.1)) λc=>M (Kd 4096 c) (k (.l c) h) Y) (λw h=>k w h) r
def MH(N:Nat):CF:=yg (.sk (.ref 2)<| .p .int .nil) wk (λR a y h k=>sq N y.wM y.wO a.1 (wk.wR y) h λw h=>k (w,h)) λu y u t=>(t.1,wk.wR y t.2)
theorem w7(N:Nat)(R:Type)(a:Int×Unit)(y:XX)(h:Be)(k:W×wb->Option R):bn (Or.nil.b 3421 (vC N)) R7 [.ref 2,.int a.1] (wk.wR y h) k=sq N y.wM y.wO a.1 (wk.wR y) h λw h=>k (w,wk.wR y h):=by kernel_rfl!
theorem P8:ji (Mb db Ib qc (n+2) X) 342 (MH 5000):=nj (yh.nil.b w0) rfl rfl (w7 5000)
noncomputable abbrev M9:=List W×Option W×Unit
def qdO:Rg jc (Option W×Option W×Option W×Option W×Option W×W×Option W×Unit) M9:=.sk (fr (.ref 2))<| .p ow<| .p ow<| .p ow<| .p ow<| .p ow<| .p (fr .id)<| .a (fr (.o .l))<| .p ow<| .a ow .nil
def IW(a:List W)(v:W)(m:M9)(h:Be)(k:M9->Be->Option R):Option R:=H (Ua v) λi=>H (Lg a i) λr=>M (nb r) (H (sv r) λb=>M (bc (len m.1+len b) 4096) (k (m.1++b,J v,()) h) Y) Y
def uH(a:List W)(b:W)(m:M9)(h:Be)(k:M9->Be->Option R):Option R:=jt b h λc=>nh (IW a) c m h k
def GP:CB:=oj qdO wk λR x y m h k=>uH y.wM x.2.2.2.2.2.1 m h k
theorem C0:vh (Ge db Ib X (Mb db Ib qc (n+1) X) (d+1)) 3542 GP:=rj (CM:=qdO) (CH:=wk) (yh.nil.r KO) rfl (eP:=λR x y m h k=>jt x.2.2.2.2.2.1 h k) (gP:=λv R x y m h k=>IW y.wM v m h k) (λR x y m h k=>by kernel_rfl!) λv R x y m h k=>by kernel_rfl!
def U6:Rg jc (Option W×Option W×Option W×Option W×List W×Option W×Unit) M1:=.sk (fr (.ref 2))<| .p ow<| .a (fr (.o .dic))<| .a (fr (.o .l))<| .p ow<| .p ow<| .p ow<| .p (fr .l)<| .a ow<| .p ow .nil
def JW(v:W)(m:M1)(h:Be)(k:M1->Be->Option R):Option R:=H (Ua v) λx=>M (!Rk x m.1.1) (H (Ua v) λi=>M (Kd 4096 m.1.1) (M (nb v) (M (Kd 4096 m.2.1) (k ((Pl m.1.1 i,Ql m.1.1 i (.bool Z) m.1.2),m.2.1++[v],J v,()) h) Y) Y) Y) (k (m.1,m.2.1,J v,()) h)
def vH(fresh:List W)(m:M1)(h:Be)(k:M1->Be->Option R):Option R:=M (Kd 4900 fresh) (nh JW fresh m h k) Y
def HP:CB:=oj U6 wk λR x y m h k=>vH x.2.2.2.2.1 m h k
theorem D0:vh (Ge db Ib X V (d+1)) 3543 HP:=rj (CM:=U6) (CH:=wk) .nil rfl (eP:=λR x y m h k=>M (Kd 4900 x.2.2.2.2.1) (k x.2.2.2.2.1) Y) (gP:=λv R x y m h k=>JW v m h k) (λR x y m h k=>by kernel_rfl!) λv R x y m h k=>by kernel_rfl!
abbrev jR:=DW×List W×Int×Bool×Option W×Option W×Option W×Option W×Unit
def V6:Rg jc (Option W×Unit) jR:=.sk (fr (.ref 2))<| .p ow<| .a (fr (.o .dic))<| .a (fr (.o .l))<| .a (fr .int)<| .a (fr .bool)<| .a ow<| .a ow<| .a ow<| .a ow .nil
def cF(a:List W)(h:Be)(k:List W->Option R):Option R:=Xd (Td a) λc=>Ae (λv b=>Lp h.co a v λx y=>M (Ph y x) (M (nb v) (b [v]) Y) (b [])) c λb=>M (Kd 4096 b) (k b) Y
def pC(a:List W)(c:W)(m:jR)(r:Bool)(fresh:List W)(h:Be)(k:jR->Be->Option R):Option R:=uH a c (fresh,m.2.2.2.2.2.2.2.1,()) h λm1 h=>vH m1.1 (m.1,m.2.1,m.2.2.2.2.2.2.1,()) h λb h=>k (b.1,b.2.1,m.2.2.1+1,r,J c,J (.l m1.1),b.2.2.1,m1.2.1,()) h
def HW(a c b:List W)(m:jR)(h:Be)(k:jR->Be->Option R):Option R:=H (Lg m.2.1 m.2.2.1) λe=>M (nb e) (M (!m.2.2.2.1) (Lp h.co b e λx y=>M (Ph x y) (cF c h λf=>M (bc (len ([]:List W)+len f) 4096) (pC a e m Z ([]++f) h k) Y) (pC a e m m.2.2.2.1 [] h k)) (pC a e m m.2.2.2.1 [] h k)) Y
def xX(m:jR)(k:Bool->Option R):Option R:=k (Ph m.2.2.1 (Td m.2.1))
def tH(N:Nat)(b c a:List W)(m:jR)(h:Be)(k:jR->Be->Option R):Option R:=o5 (λm u=>xX m) (HW b c a) N m h k
def xC(N:Nat):CB:=oj V6 wk λR x y m h k=>tH N y.wM y.wO y.wN m h k
theorem B0:vh (Ge db Ib X (Mb db Ib qc (n+1) X) (d+2)) 3541 (xC 5000):=xF (CM:=V6) (CH:=wk) ((yh.nil.b C0).b D0) rfl (tP:=λR x y m h k=>xX m k) (gP:=λR x y m h k=>HW y.wM y.wO y.wN m h k) (λR x y m h k=>by kernel_rfl!) λR x y m h k=>by kernel_rfl!
def Sl(N:Nat)(b c a:List W)(o:Int)(h:Be)(k:List W->Bool->Be->Option R):Option R:=tH N b c a (([o],[.bool Z]),[.int o],0,ta,Y,Y,Y,Y,()) h λm h=>H (PC (.dic m.1.1 m.1.2)) λe=>M (Kd 4096 e) (k e m.2.2.2.1 h) Y
def NH(N:Nat):CF:=yg (.sk (.ref 2)<| .p .int .nil) wk (λR a y h k=>Sl N y.wM y.wO y.wN a.1 h λb r h=>k (b,r,h)) λu y u t=>(.t [.l t.1,.bool t.2.1],wk.wR y t.2.2)
theorem B7(N:Nat)(R:Type)(a:Int×Unit)(y:XX)(h:Be)(k:W×wb->Option R):bn (Or.nil.b 3541 (xC N)) T7 [.ref 2,.int a.1] (wk.wR y h) k=Sl N y.wM y.wO y.wN a.1 h λb r h=>k (.t [.l b,.bool r],wk.wR y h):=by kernel_rfl!
theorem R8:ji (Mb db Ib qc (n+2) X) 354 (NH 5000):=nj (yh.nil.b B0) rfl rfl (B7 5000)
end
end
end
section
variable {R:Type}
noncomputable section
def Rh(O:Or)(V:Sg)(b:List W):Option W:=M (Nb b) (bn O V b [] λp=>ma p.2 (J p.1) λu u=>Y) Y
def sh(v:List W->Option W):CR:=λu b u k=>H (v b) k
def QP(v:List W->Option W):CF:=λu b c k=>H (v b) λw=>k (w,c)
section
variable {X:Nat->Option (List Int)} {n d a:Nat} {T:Yp} {Q:Nat->jc->wb->Wk} {O:Or} {V:Sg} {S:List W->Option W}
theorem Xn(C:yh O (Mb db Ib qc n λy=>Y) (Ge db Ib (λy=>Y) (Mb db Ib qc n λy=>Y) 4))(h:qc a=J V)(i:V.mode=.pure):Ng (Mb db Ib qc (n+1) X) a (sh (Rh O V)):=λR c j k r e=>by
 refine gp e λw b l=>?_;unfold Rh at b
 induction f:Nb c with
 |false=>rw[f]at b;exact ja b|true=>
  rw[f]at b;replace b:bn O V c [] (λp=>ma p.2 (J p.1) λy y=>Y)=J w:=b
  induction sw (fn:=V) C _ w b with|mk p q m o g=>
  subst o;obtain⟨u,s⟩:=p
  induction s using ma with
  |cons=>exact ja g|nil=>
   obtain rfl:=ba g;refine .mk (u,j) u ?_ rfl l;show(qc a).bind _=_
   refine U h ?_;show vt V.mode _ _ _ _=_
   refine U i ?_;show(Ie (Nb c)).bind _=_
   refine U (wg f) ?_;show(Wo _ _ _ _ _ _ _).bind _=_
   refine U m ?_;rfl
theorem qad(h:Ng T a (sh S)):ji T a (QP S):=λR b c=>Rx.e (h R b c)
noncomputable def Or.v(O:Or)(a:Nat)(v:List W->Option W):Or:=(O.r a (sh v)).c a (QP v)
theorem yh.v(C:yh O T Q)(h:Ng T a (sh S)):yh (O.v a S) T Q:=(C.r h).c (qad h)
def qev:=Rh .nil qdZ
def qew:=Rh .nil qea
def qaY:=Rh .nil qeb
def qex:=Rh .nil qec
def qaZ:=Rh (Or.nil.v 47 qex) qed
def qba:=Rh .nil qee
def qdk:=Rh .nil qef
def qdl:=Rh .nil qeg
def qey:=Rh ((Or.nil.v 66 qdk).v 71 qdl) qeh
def qez:=Rh .nil qei
def qdm:=Rh .nil qej
def JK:=Rh ((((Or.nil.v 66 qdk).v 71 qdl).v 78 qey).v 85 qez) qek
def cD:=Rh (Or.nil.v 99 JK) P7
def GQ:=Rh ((Or.nil.v 28 qev).v 35 qew) Q7
def HQ:=Rh .nil X7
theorem qcM:Ng (Mb db Ib qc (n+1) X) 28 (sh qev):=Xn .nil rfl rfl
theorem qcN:Ng (Mb db Ib qc (n+1) X) 35 (sh qew):=Xn .nil rfl rfl
theorem qcO:Ng (Mb db Ib qc (n+1) X) 40 (sh qaY):=Xn .nil rfl rfl
theorem qcP:Ng (Mb db Ib qc (n+1) X) 47 (sh qex):=Xn .nil rfl rfl
theorem qcQ:Ng (Mb db Ib qc (n+2) X) 54 (sh qaZ):=Xn (yh.nil.v qcP) rfl rfl
theorem qcR:Ng (Mb db Ib qc (n+1) X) 61 (sh qba):=Xn .nil rfl rfl
theorem l9:Ng (Mb db Ib qc (n+1) X) 66 (sh qdk):=Xn .nil rfl rfl
theorem m9:Ng (Mb db Ib qc (n+1) X) 71 (sh qdl):=Xn .nil rfl rfl
theorem qcS:Ng (Mb db Ib qc (n+2) X) 78 (sh qey):=Xn ((yh.nil.v l9).v m9) rfl rfl
theorem qcT:Ng (Mb db Ib qc (n+1) X) 85 (sh qez):=Xn .nil rfl rfl
theorem qcU:Ng (Mb db Ib qc (n+1) X) 92 (sh qdm):=Xn .nil rfl rfl
theorem n9:Ng (Mb db Ib qc (n+3) X) 99 (sh JK):=Xn ((((yh.nil.v l9).v m9).v qcS).v qcT) rfl rfl
theorem B8:Ng (Mb db Ib qc (n+4) X) 106 (sh cD):=Xn (yh.nil.v n9) rfl rfl
theorem XW:Ng (Mb db Ib qc (n+2) X) 309 (sh GQ):=Xn ((yh.nil.v qcM).v qcN) rfl rfl
theorem b9:Ng (Mb db Ib qc (n+1) X) 451 (sh HQ):=Xn .nil rfl rfl
abbrev Gf:=List W×List W×List W×List W×DW×Int×Bool×List W×Unit
def P9:Rg (List (Bb×W)) Unit Gf:=.a (.fld "domains" (.o .l))<| .a (.fld "firsts" (.o .l))<| .a (.fld "trail" (.o .l))<| .a (.fld "marks" (.o .l))<| .a (.fld "news" (.o .dic))<| .a (.fld "speaker" .int)<| .a (.fld "is_failed" .bool)<| .a (.fld "clash" .t) .nil
abbrev qeN:=Unit×wb
abbrev qeM:=Gf×Unit
def bu:Rg wb qeN qeM:=.cons (.obj 256 P9) .rest
noncomputable abbrev Gf.wL(s:Gf):List W:=s.1
noncomputable abbrev Gf.trail(s:Gf):List W:=s.2.2.1
noncomputable abbrev Gf.news(s:Gf):DW:=s.2.2.2.2.1
noncomputable abbrev Gf.spk(s:Gf):Int:=s.2.2.2.2.2.1
noncomputable abbrev Gf.bad(s:Gf):Bool:=s.2.2.2.2.2.2.1
noncomputable abbrev Gf.put(s:Gf)(b c:List W)(e:DW):Gf:=(b,s.2.1,c,s.2.2.2.1,e,s.2.2.2.2.2)
noncomputable abbrev Gf.fails(s:Gf)(c:List W):Gf:=(s.1,s.2.1,s.2.2.1,s.2.2.2.1,s.2.2.2.2.1,s.2.2.2.2.2.1,Z,c,())
def Zw(b:List W)(x:W)(k:W->Option R):Option R:=H (Ua x) λi=>H (Lg b i) k
def JU:CR:=yk (.sk (.ref 0)<| .p .id .nil) bu λR a y h k=>Zw h.1.wL a.1 λd=>M (nb d) (k d) Y
theorem jH:Ng (Mb db Ib qc (n+1) X) 141 JU:=Tq .nil rfl rfl λR a y h k=>by kernel_rfl!
def b8(b:List W)(x v:W)(k:W->Option R):Option R:=Zw b x λd=>M (zA [d,v]) (H (qaZ [d,v]) λw=>M (nb w) (k w) Y) Y
def KU:CR:=yk (.sk (.ref 0)<| .p .id<| .p .id .nil) bu λR a y h k=>b8 h.1.wL a.1 a.2.1 k
theorem F8:Ng (Mb db Ib qc (n+3) X) 169 KU:=Tq (yh.nil.v qcQ) rfl rfl λR a y h k=>by kernel_rfl!
def UQ(b:List W)(x:W)(k:W->Option R):Option R:=Zw b x λd=>M (zA [d]) (H (qaY [d]) λw=>M (nb w) (k w) Y) Y
def LU:CR:=yk (.sk (.ref 0)<| .p .id .nil) bu λR a y h k=>UQ h.1.wL a.1 k
theorem G8:Ng (Mb db Ib qc (n+2) X) 190 LU:=Tq (yh.nil.v qcO) rfl rfl λR a y h k=>by kernel_rfl!
def Ro(r:W)(c:Gf->wb)(h:Gf)(k:Gf->Option R):Option R:=H (au r (c (h.fails h.2.2.2.2.2.2.2.1))) λb=>M (Kd 4096 b) (k (h.fails b)) Y
def Xz:CF:=yg (.sk (.ref 0)<| .p .id .nil) bu (λR a y h k=>Ro a.1 (λs=>bu.wR y (s,())) h.1 k) λu y u s=>(.bool ta,bu.wR y (s,()))
theorem NB:ji (Mb db Ib qc (n+1) X) 225 Xz:=nj .nil rfl rfl λR a y h k=>by kernel_rfl!
def qbq(e:List W)(f:W)(c:Gf->wb)(h:Gf)(k:Bool×Gf->Option R):Option R:=H (qaJ f .none) λb=>M b
 (H (qdm [.t e]) λw=>M (nb w) (Ro (.t ([]++[w])) c h λs=>k (ta,s)) Y)
 (H (qdm [.t e]) λw=>M (nb w) (tL f (.t [w]) (c h) λr=>M (nb r) (Ro r c h λs=>k (ta,s)) Y) Y)
def vp(e:List W)(f g:W)(j:Gf->wb)(h:Gf)(k:Bool×Gf->Option R):Option R:=H (Lg e 0) λx=>M (nb x) (Zw h.wL x λc=>M (nb c) (M (zA [.t e,c]) (H (JK [.t e,c]) λfresh=>M (nb fresh) (H (lk fresh (.t [])) λb=>M b (qbq e f j h k) (H (lk fresh c) λb=>M b (k (Z,h))
 (M (nb x) (M (nb c) (M (nb f) (M (nb g) (M (Kd 4096 h.trail) (M (nb fresh) (M (nb fresh) (H (Ua x) λi=>H (du h.wL i fresh) λl=>H (Ua x) λi=>M (Kd 4096 h.news.1) (k (Z,h.put l (h.trail++[.t [x,c,.t e,f,g]]) (Pl h.news.1 i,Ql h.news.1 i (.bool Z) h.news.2))) Y) Y) Y) Y) Y) Y) Y) Y))) Y) Y) Y) Y
def MU:CF:=yg (.sk (.ref 0)<| .p .t<| .p .id<| .p .id .nil) bu (λR a y h k=>vp a.1 a.2.1 a.2.2.1 (λs=>bu.wR y (s,())) h.1 k) λu y u t=>(.bool t.1,bu.wR y (t.2,()))
theorem WW:ji (Mb db Ib qc (n+4) X) 204 MU:=nj (((yh.nil.v qcU).v n9).c NB) rfl rfl λR a y h k=>by kernel_rfl!
end
end
end
section
variable {R:Type}
noncomputable section
noncomputable def nG(m:Nat):List W->(List W->Option R)->Option R
 |[],k=>k []|w::b,k=>H (ul m w) λv=>nG m b λc=>k (v::c)
def oF(f:CF):CF:=λR b c k=>H (tq b) λm=>M (fh m (len c)) (nG m b λe=>M (qe (c.drop m)) (f R e (c.drop m) λp=>M (Jd p.1) (M (qe (p.2.take (c.length - m))) (k (p.1,c.take m++p.2.take (c.length - m))) Y) Y) Y) Y
section
variable {V:Nat->Option (List Int)} {n d a:Nat} {P:Yp} {Q:Nat->jc->wb->Wk} {O:Or} {S:Sg} {X L N T A:Type}
theorem jv{m:Nat}:{b:List W}->Re (R:=R) (nG m b) (eB m b)
 |[]=>Rq.ret rfl|w::b=>Rq.wW λv=>jv.map λc=>rfl
theorem Ps{b:Rg (List W) A Unit}{c:Rg wb L N}(C:yh O (Mb db Ib qc n V) (Ge db Ib V (Mb db Ib qc n V) 4))(l:qc a=J S)(o:S.mode=.sub){f:(R:Type)->A->L->N->(T->Option R)->Option R}{g:A->L->N->T->W×wb}
 (E:∀R a y h k,bn O S (b.wR a ()) (c.wR y h) k=f R a y h λt=>k (g a y h t)):ji (Mb db Ib qc (n+1) V) a (oF (yg b c f g)):=λR i q=>by
 show Re _ ((qc a).bind _)
 refine U l ?_;show Re _ (vt S.mode _ _ _ _)
 refine U o (Rq.wW λm=>Rq.grd λj=>?_);rw[Se]at j;refine U (wg (decide_eq_true (gb j))) (jv.bind λi=>Rq.grd λs=>(U (wg s) ?_));refine Re.bind (f:=yg b c f g R i (q.drop m)) (λk r e=>?_) λp=>Rq.grd λt=>Rq.grd λu=>?_
 ·refine aa λv=>?_
  obtain⟨a,_,rfl,w⟩:=b.ok _ _ _ _ e;obtain⟨y,h,x,z⟩:=c.ok _ _ _ _ w;exact v (Bd x (sw (fn:=S) C k r ((E R _ _ _ k).trans z)))
 ·show Re _ ((Ie _).map _)
  exact U (wg (Aa.mpr ⟨t,u⟩)) (Rq.ret rfl)
def iV(f:CR):CR:=λR b c k=>H (tq b) λm=>M (fh m (len c)) (nG m b λe=>M (qe (c.drop m)) (f R e (c.drop m) λw=>M (Jd w) (k w) Y) Y) Y
theorem fZ{c:Type}{b:Bool}{x:Option c}{r:c}(h:M b x Y=J r):b=Z/\x=J r:=by
 induction b with
 |true=>exact⟨rfl,h⟩|false=>exact ja h
open Classical in
theorem fA{CA:Rg (List W) A Unit}{CH:Rg wb L N}(C:yh O (Mb db Ib qc n V) (Ge db Ib V (Mb db Ib qc n V) 4))(hf:qc a=J S)(hm:S.mode=.sub){f:(R:Type)->A->L->N->(W->Option R)->Option R}
 (E:∀R a y h k,bn O S (CA.wR a ()) (CH.wR y h) k=f R a y h λw=>k (w,CH.wR y h)):Ng (Mb db Ib qc (n+1) V) a (iV (yk CA CH f)):=λR ws σ k r e=>by
 refine aa λnq=>(gp e λm e1 e=>?_);obtain⟨hl,e⟩:=fZ e;refine nq ?_;rw[Se]at hl
 induction jv _ _ e with|mk vs vs' e2 q e=>
 refine aa λnq=>?_;subst q;obtain⟨hp,e⟩:=fZ e;obtain⟨a,_,e3,e⟩:=CA.ok _ _ _ _ e;obtain⟨y,h,e4,e⟩:=CH.ok _ _ _ _ e;refine nq ?_
 induction sw (fn:=S) C (λp=>if p.2=CH.wR y h then M (Jd p.1) (k p.1) Y else Y) r ((E R a y h _).trans ((Gc (f R a y h) (funext λw=>Fd rfl)).trans e))with|mk p q e5 e6 e7=>
 refine aa λnq=>?_;subst e6;refine nq ?_;replace e7:(if p.2=CH.wR y h then M (Jd p.1) (k p.1) Y else Y)=J r:=e7
 split at e7
 ·rename_i c
  obtain⟨hq,e7⟩:=fZ e7;refine .mk (p.1,σ) p.1 ?_ rfl e7;show(qc _).bind _=_
  refine U hf ?_;show vt S.mode _ _ _ _=_
  refine U hm ?_;show(tq ws).bind _=_
  refine U e1 ?_;show(Ie (decide (m<=σ.length))).bind _=_
  refine U (wg (decide_eq_true (gb hl))) ?_;show(eB m ws).bind _=_
  refine U e2 ?_;show(Ie (qe (σ.drop m))).bind _=_
  refine U (wg hp) (Bd e3 (Bd e4 ?_));show(Wo _ _ _ _ _ _ _).bind _=_
  refine U e5 ?_;show(Ie (Jd p.1&&qe (p.2.take (σ.length - m)))).map (λu=>(p.1,σ.take m++p.2.take (σ.length - m)))=_
  refine U c (U e4 (U (mD (by rw[Km];exact Gb _):(σ.drop m).take (σ.length - m)=σ.drop m) (U hq (U hp ?_))));show J (p.1,σ.take m++σ.drop m)=_
  exact U (List.take_append_drop _ _) rfl
 ·exact ja e7
def dA(e:List W)(r:W)(b:Gf->wb)(h:Gf)(k:Bool×Gf->Option R):Option R:=H (au r (b h)) λc=>M (Kd 4096 c) (vp e (.t c) (.int h.spk) b h k) Y
def NU:CF:=yg (.sk (.ref 0)<| .p .t<| .p .id .nil) bu (λR a y h k=>dA a.1 a.2.1 (λs=>bu.wR y (s,())) h.1 k) λu y u t=>(.bool t.1,bu.wR y (t.2,()))
theorem I8:ji (Mb db Ib qc (n+5) V) 211 NU:=nj (yh.nil.c WW) rfl rfl λR a y h k=>by kernel_rfl!
def JH:CF:=oF (yg (.sk (.ref 0)<| .p .t .nil) bu (λR a y h k=>vp a.1 .none (.int (-1)) (λs=>bu.wR y (s,())) h.1 k) λu y u t=>(.bool t.1,bu.wR y (t.2,())))
theorem J8:ji (Mb db Ib qc (n+5) V) 218 JH:=Ps (yh.nil.c WW) rfl rfl λR a y h k=>by kernel_rfl!
def gN(b:List W)(h:Gf)(k:W->Option R):Option R:=H (Lg b 0) λx=>Zw h.wL x λd=>M (zA [.t b,d]) (H (cD [.t b,d]) λw=>M (nb w) (k w) Y) Y
def IH:CR:=iV (yk (.sk (.ref 0)<| .p .t .nil) bu λR a y h k=>gN a.1 h.1 k)
theorem H8:Ng (Mb db Ib qc (n+5) V) 197 IH:=fA (yh.nil.v B8) rfl rfl λR a y h k=>by kernel_rfl!
def jP(h:Gf)(k:Gf->Option R):Option R:=M (Kd 4096 h.2.2.2.1) (k (h.1,h.2.1,h.2.2.1,h.2.2.2.1++[.int (Td h.trail)],h.2.2.2.2)) Y
def KH:CF:=oF (yg (.sk (.ref 0) .nil) bu (λR a y h k=>jP h.1 k) λu y h s=>(.none,bu.wR y (s,())))
theorem K8:ji (Mb db Ib qc (n+1) V) 232 KH:=Ps .nil rfl rfl λR a y h k=>by kernel_rfl!
def qac(c:W)(e:Gf->wb)(h:Gf)(k:W×Gf->Option R):Option R:=M (nb c) (M (Kd 4096 h.1) (M (nb c) (M (Kd 4096 h.2.1) (H (lk c (.t [])) λb=>M b
 (Ro (.t []) e (h.1++[c],h.2.1++[c],h.2.2) λs=>k (.int (Td s.1 - 1),s))
 (k (.int (Td (h.1++[c]) - 1),(h.1++[c],h.2.1++[c],h.2.2)))) Y) Y) Y) Y
def HH:CF:=oF (yg (.sk (.ref 0)<| .p .id .nil) bu (λR a y h k=>qac a.1 (λs=>bu.wR y (s,())) h.1 k) λu y u t=>(t.1,bu.wR y (t.2,())))
theorem D8:ji (Mb db Ib qc (n+2) V) 127 HH:=Ps (yh.nil.c NB) rfl rfl λR a y h k=>by kernel_rfl!
noncomputable def qX:Gf:=([],[],[],[],([],[]),-1,ta,[],())
def GH:CF:=oF (yg (.sk (.ref 0) .nil) (.cons (.obj 256 .nil) .nil) (λR u u u k=>k ()) λu y u u=>(.none,bu.wR ((),[]) (qX,())))
theorem C8:ji (Mb db Ib qc (n+1) V) 120 GH:=Ps .nil rfl rfl λR a y h k=>by kernel_rfl!
def IU:CR:=yk (.sk (.ref 0) .nil) bu λR a y h k=>k (.int (Td h.1.wL))
theorem E8:Ng (Mb db Ib qc (n+1) V) 134 IU:=Tq .nil rfl rfl λR a y h k=>by kernel_rfl!
end
end
end
section
variable {R:Type}
noncomputable section
noncomputable abbrev sr:=W×W×W×List W×List W×List W×List W×List W×Unit
def O7(w:W):Option Unit:=H (Ii w) λb=>M b Y (J ())
def Cd.fls:Cd W Unit:=.op O7 (λu=>.bool ta) λa s e=>by
 induction a using W.casesOn<;>first|exact ja e|skip
 induction b<;>first|rfl|exact ja e
def J4:Rg (List (Bb×W)) sr Unit:=.p (.fld "number" .id)<| .p (.fld "scope" .id)<| .p (.fld "strength" .id)<| .p (.fld "taken" .t)<| .p (.fld "rows" .t)<| .p (.fld "wanted" (.o .l))<| .p (.fld "lows" (.o .l))<| .p (.fld "highs" (.o .l))<| .sk (.fld "has_twins" .fls) .nil
noncomputable abbrev sr.wQ(x:sr):List W:=x.2.2.2.1
noncomputable abbrev sr.rows(x:sr):List W:=x.2.2.2.2.1
noncomputable abbrev sr.wP(x:sr):List W:=x.2.2.2.2.2.1
noncomputable abbrev sr.wO(x:sr):List W:=x.2.2.2.2.2.2.1
noncomputable abbrev sr.wN(x:sr):List W:=x.2.2.2.2.2.2.2.1
abbrev Y2:=Unit×sr×wb
abbrev H2:=Gf×Unit×Unit
def c2:Rg wb Y2 H2:=.cons (.obj 256 P9)<| .cons (.obj 435 J4) .rest
abbrev Y3:=Unit×sr×(List W×List W×List W×Unit)×Unit
abbrev H3:=Gf×Unit×(List W×List W×Unit)×Unit
def c3:Rg wb Y3 H3:=.cons (.obj 256 P9)<| .cons (.obj 435 J4)<| .cons (.obj 357 qcV) .nil
noncomputable abbrev Y3.ca(y:Y3):sr:=y.2.1
noncomputable abbrev Y3.wM(y:Y3):List W:=y.2.2.1.1
noncomputable abbrev Y3.wO(y:Y3):List W:=y.2.2.1.2.1
noncomputable abbrev Y3.wN(y:Y3):List W:=y.2.2.1.2.2.1
noncomputable abbrev H3.st(h:H3):Gf:=h.1
noncomputable abbrev H3.pl(h:H3):Be:=(h.2.2.1,())
noncomputable abbrev H3.wX(h:H3)(p:Be):H3:=(h.1,(),p.1,())
noncomputable abbrev H3.putS(h:H3)(s:Gf):H3:=(s,(),h.2.2.1,())
def Or.rc(O:Or)(a:Nat)(f:CR):Or:=(O.r a f).c a λR c b k=>f R c b λw=>k (w,b)
section
variable {X:Nat->Option (List Int)} {n d a:Nat} {V:Yp} {T:Nat->jc->wb->Wk} {O:Or}
theorem yh.rc(C:yh O V T){f:CR}(h:Ng V a f):yh (O.rc a f) V T:=(C.r h).c λR b c=>Rx.e (h R b c)
def gZ(f c:List W)(x:W)(k:List W->Option R):Option R:=Xd (Td c) λg=>Ae (λv e=>M (nb x) (H (Ua v) λi=>H (Lg c i) λw=>M (nb w) (b8 f x w λr=>H (Ii r) λb=>M b (M (nb v) (e [v]) Y) (e [])) Y) Y) g λb=>M (Kd 4096 b) (k b) Y
def QO(e b:List W)(x:W)(k:List W->Option R):Option R:=gZ e b x λc=>M (nb x) (UQ e x λw=>H (Ua w) λp=>M (Ph (Td c) p) (M (Kd 4096 (c++[.int (Td b)])) (k (c++[.int (Td b)])) Y) (k c)) Y
def PH:CR:=yk (.sk (.ref 1)<| .sk (.ref 0)<| .p .id .nil) c2 λR a y h k=>QO h.1.wL y.2.1.wP a.1 λb=>k (.l b)
theorem U8:Ng (Mb db Ib qc (n+4) X) 389 PH:=Tq ((yh.nil.r F8).r G8) rfl rfl λR a y h k=>by kernel_rfl!
noncomputable abbrev GR:=List W×Option W×Option W×Unit
def qeU:Rg jc (Option W×Unit) GR:=.sk (fr (.ref 1))<| .sk (fr (.ref 0))<| .sk (fr (.ref 2))<| .p ow<| .a (fr (.o .l))<| .a ow<| .a ow .nil
def W6:Rg jc (Option W×W×Unit) (List W×Option W×Unit):=.sk (fr (.ref 1))<| .sk (fr (.ref 0))<| .sk (fr (.ref 2))<| .p ow<| .a (fr (.o .l))<| .p (fr .id)<| .a ow .nil
def mF(x d:W)(k:W->Option R):Option R:=M (zA [x,d]) (H (GQ [x,d]) k) Y
def J7(fr:List W)(s:W)(k:List W->Option R):Option R:=M (nb s) (H (sv s) λb=>M (bc (len fr+len b) 4096) (k (fr++b)) Y) Y
def oy(b:List W)(h:H3)(v:W)(m:List W×Option W×Unit)(u:Unit)(k:List W×Option W×Unit->Unit->Option R):Option R:=H (Ua v) λi=>H (Lg b i) λx=>H (Ua v) λi=>H (Lg b i) λc=>M (nb c) (Zw h.st.wL c λd=>M (nb d) (mF x d λs=>J7 m.1 s λr=>k (r,J v,()) u) Y) Y
def eX(b:List W)(h:H3)(o:W)(m:List W×Option W×Unit)(u:Unit)(k:List W×Option W×Unit->Unit->Option R):Option R:=jt o h.pl λc=>nh (oy b h) c m u k
def MP:CB:=oj W6 c3.pas λR x y m u k=>eX y.1.ca.wQ y.2 x.2.1 m u k
theorem M0:vh (Ge db Ib X (Mb db Ib qc (n+2) X) (d+1)) 4082 MP:=rj (CM:=W6) (CH:=c3.pas) (((yh.nil.r KO).rc jH).v XW) rfl (eP:=λR x y m h k=>jt x.2.1 y.2.pl k) (gP:=λv R x y m h k=>oy y.1.ca.wQ y.2 v m h k) (λR x y m h k=>by kernel_rfl!) λv R x y m h k=>by kernel_rfl!
def X6:Rg jc (W×Unit) GR:=.sk (fr (.ref 1))<| .sk (fr (.ref 0))<| .sk (fr (.ref 2))<| .p (fr .id)<| .a (fr (.o .l))<| .a ow<| .a ow .nil
def DG(b:List W)(h:H3)(v:W)(m:GR)(u:Unit)(k:GR->Unit->Option R):Option R:=eX b h v (m.1,m.2.2.1,()) u λm u=>k (m.1,J v,m.2.1,()) u
def dX(b:List W)(h:H3)(os:W)(m:GR)(u:Unit)(k:GR->Unit->Option R):Option R:=Pf os λc=>nh (DG b h) c m u k
def LP:CB:=oj X6 c3.pas λR x y m u k=>dX y.1.ca.wQ y.2 x.1 m u k
theorem L0:vh (Ge db Ib X (Mb db Ib qc (n+2) X) (d+2)) 4081 LP:=rj (CM:=X6) (CH:=c3.pas) (yh.nil.b M0) rfl (eP:=λR x y m h k=>Pf x.1 k) (gP:=λv R x y m h k=>DG y.1.ca.wQ y.2 v m h k) (λR x y m h k=>by kernel_rfl!) λv R x y m h k=>by kernel_rfl!
def Sx(b:List W)(h:H3)(os:W)(k:List W->Option R):Option R:=dX b h os ([],Y,Y,()) () λm u=>k m.1
def SH:CR:=yk (.sk (.ref 1)<| .sk (.ref 0)<| .sk (.ref 2)<| .p .id .nil) c3 λR a y h k=>Sx y.ca.wQ h a.1 λr=>k (.l r)
theorem YW:Ng (Mb db Ib qc (n+3) X) 408 SH:=Tq (yh.nil.b L0) rfl rfl λR a y h k=>by kernel_rfl!
noncomputable abbrev VX:=List W×Option W×Unit
def Y6:Rg jc (List W×Unit) VX:=.sk (fr (.ref 1))<| .sk (fr (.ref 2))<| .p (fr .l)<| .a (fr (.o .l))<| .a ow .nil
def O6(c b os:List W)(v:W)(k:List W->Option R):Option R:=M (Kd 4900 os) (Ae (λo e=>H (Ua v) λi=>H (Lg c i) λx=>M (nb x) (H (Ua o) λj=>H (Lg b j) λw=>M (nb w) (e [.t [x,.str "!=",w]]) Y) Y) os λe=>M (Kd 4096 e) (k e) Y) Y
def EG(e c os:List W)(h:H3)(v:W)(m:VX)(u:Unit)(k:VX->Unit->Option R):Option R:=H (Ua v) λi=>H (Lg h.pl.at i) λa=>H (Ua a) λx=>H (yA (.int x) (.l os)) λb=>M (!b) (O6 e c os v λf=>M (bc (len m.1+len f) 4096) (k (m.1++f,J v,()) u) Y) (k (m.1,J v,()) u)
def gX(b c os:List W)(h:H3)(m:VX)(u:Unit)(k:VX->Unit->Option R):Option R:=Xd (Td b) λe=>nh (EG b c os h) e m u k
def NP:CB:=oj Y6 c3.pas λR x y m u k=>gX y.1.ca.wQ y.1.ca.wP x.1 y.2 m u k
theorem N0:vh (Ge db Ib X V (d+1)) 4131 NP:=rj (CM:=Y6) (CH:=c3.pas) .nil rfl (eP:=λR x y m h k=>Xd (Td y.1.ca.wQ) k) (gP:=λv R x y m h k=>EG y.1.ca.wQ y.1.ca.wP x.1 y.2 v m h k) (λR x y m h k=>by kernel_rfl!) λv R x y m h k=>by kernel_rfl!
def tt(c b os:List W)(h:H3)(k:List W->Option R):Option R:=gX c b os h ([],Y,()) () λm u=>k m.1
def Yz:CR:=yk (.sk (.ref 1)<| .sk (.ref 2)<| .p .l .nil) c3 λR a y h k=>tt y.ca.wQ y.ca.wP a.1 h λr=>k (.l r)
theorem ZW:Ng (Mb db Ib qc (n+1) X) 413 Yz:=Tq (yh.nil.b N0) rfl rfl λR a y h k=>by kernel_rfl!
end
end
end
section
variable {R:Type}
noncomputable section
section
variable {X:Nat->Option (List Int)} {n d a:Nat} {T:Yp} {V:Nat->jc->wb->Wk} {O:Or}
noncomputable abbrev qeP:=Int×Option W×Option W×Option W×Option W×List W×Option W×W×List W×Unit
def a7:Rg jc qeP (Option W×Unit):=.sk (fr (.ref 1))<| .sk (fr (.ref 0))<| .sk (fr (.ref 2))<| .p (fr .int)<| .p ow<| .p ow<| .p ow<| .p ow<| .p (fr .l)<| .p ow<| .p (fr .id)<| .a ow<| .p (fr .l) .nil
abbrev Kw(R:Type):=W->H3->Option R
def XM(x:W)(b:List W)(y:Y3)(v:W)(m:Option W×Unit)(h:H3)(k:Fw (Option W×Unit) H3->Option R):Option R:=M (nb x) (M (nb v) (dA [x,.str "!=",v] (.l b) (λs=>c3.wR y (h.putS s)) h.st λt=>M (!t.1) (k (.ret (.bool ta) (h.putS t.2))) (k (.go (J v,()) (h.putS t.2)))) Y) Y
def qG(o:Int)(b c:List W)(k:List W->Option R):Option R:=M (Ph o (Td b)) (H (Lg b o) λw=>M (nb w) (k [w]) Y) (M (Kd 4900 c) (k c) Y)
def iX(o:Int)(x:W)(b c:List W)(y:Y3)(m:Option W×Unit)(h:H3)(k:Fw (Option W×Unit) H3->Option R):Option R:=qG o y.ca.wP c λe=>Kg (XM x b y) e m h k
def OP:CB:=Oj a7 c3 λR x y m h k=>iX x.1 x.2.2.2.2.2.2.2.1 x.2.2.2.2.2.1 x.2.2.2.2.2.2.2.2.1 y m h k
theorem Q0:vh (Ge db Ib X (Mb db Ib qc (n+5) X) (d+1)) 4182 OP:=Sr (CM:=a7) (CH:=c3) (yh.nil.c I8) rfl (eP:=λR x y m h k=>qG x.1 y.ca.wP x.2.2.2.2.2.2.2.2.1 k) (gP:=λv R x y m h k=>XM x.2.2.2.2.2.2.2.1 x.2.2.2.2.2.1 y v m h k) (λR x y m h k=>by kernel_rfl!) λv R x y m h k=>by kernel_rfl!
noncomputable abbrev A4:=Option W×Option W×Option W×Option W×Unit
noncomputable abbrev qeQ:=Int×Option W×Option W×List W×Option W×List W×Unit
def b7:Rg jc qeQ A4:=.sk (fr (.ref 1))<| .sk (fr (.ref 0))<| .sk (fr (.ref 2))<| .p (fr .int)<| .p ow<| .p ow<| .p (fr .l)<| .p ow<| .p (fr .l)<| .a ow<| .a ow<| .a ow<| .a ow .nil
def cz(f c:List W)(x:W)(k:List W->Option R):Option R:=M (nb x) (Zw f x λd=>M (nb d) (M (zA [d]) (H (qba [d]) λw=>Pf w λg=>Ae (λu e=>H (Ua u) λy=>H (yA (.int y) (.l c)) λb=>M (!b) (M (nb u) (e [u]) Y) (e [])) g λb=>M (Kd 4096 b) (k b) Y) Y) Y) Y
def WM(o:Int)(c:List W)(y:Y3)(v:W)(m:A4)(h:H3)(k:Fw A4 H3->Option R):Option R:=H (Ua v) λi=>H (Lg y.ca.wQ i) λx=>M (nb x) (cz h.st.wL y.ca.wP x λb=>iX o x c b y (m.2.2.1,()) h λr=>Fw.rec (λe h=>k (.go (J v,J x,e.1,J (.l b),()) h)) (λw h=>k (.ret w h)) r) Y
def hX(o:Int)(b c:List W)(y:Y3)(m:A4)(h:H3)(k:Fw A4 H3->Option R):Option R:=M (Kd 4900 b) (Kg (WM o c y) b m h k) Y
def BC:CB:=Oj b7 c3 λR x y m h k=>hX x.1 x.2.2.2.1 x.2.2.2.2.2.1 y m h k
theorem O0:vh (Ge db Ib X (Mb db Ib qc (n+5) X) (d+2)) 4181 BC:=Sr (CM:=b7) (CH:=c3) (((yh.nil.r jH).v qcR).b Q0) rfl (eP:=λR x y m h k=>M (Kd 4900 x.2.2.2.1) (k x.2.2.2.1) Y) (gP:=λv R x y m h k=>WM x.1 x.2.2.2.2.2.1 y v m h k) (λR x y m h k=>by kernel_rfl!) λv R x y m h k=>by kernel_rfl!
def bp(e g h f:List W)(o:Int)(l:wb)(k:List W->Option R):Option R:=Xd (Td e) λm=>Ae (λv j=>H (Ua v) λi=>H (Lg g i) λr=>H (mj r l) λc=>H (yA (.int o) c) λb=>M b (H (Ua v) λi=>H (Lg h i) λa=>H (Ua a) λx=>H (yA (.int x) (.l f)) λb=>M (!b) (M (nb v) (j [v]) Y) (j [])) (j [])) m λb=>M (Kd 4096 b) (k b) Y
def xw(c f e:List W)(k:List W->Option R):Option R:=Xd (Td c) λh=>Ae (λv g=>H (Ua v) λx=>H (yA (.int x) (.l e)) λb=>M (!b) (H (Ua v) λi=>H (Lg f i) λl=>H (Ua l) λy=>M (Ph 0 y) (M (nb v) (g [v]) Y) (g [])) (g [])) h λb=>M (Kd 4096 b) (k b) Y
def Rj(o:Int)(b c:List W)(y:Y3)(h:H3)(k:Kw R):Option R:=hX o b c y (Y,Y,Y,Y,()) h λq=>Fw.rec (λu h=>k (.bool Z) h) (λw h=>k w h) q
def NO(N:Nat)(o:Int)(y:Y3)(h:H3)(k:Kw R):Option R:=Sl N y.wM y.wO y.wN o h.pl λf r c=>bp y.ca.wQ y.wM c.at f o (c3.wR y (h.wX c)) λe=>H (lk (.l e) (.l [])) λb=>M b (k (.bool Z) (h.wX c))
 (M r (xw y.ca.wP y.ca.wO f λi=>tt y.ca.wQ y.ca.wP i (h.wX c) λg=>Rj o e g y (h.wX c) k) (Sx y.ca.wQ (h.wX c) (.l f) λg=>Rj o e g y (h.wX c) k))
def TH(N:Nat):CF:=yg (.sk (.ref 1)<| .sk (.ref 0)<| .sk (.ref 2)<| .p .int .nil) c3 (λR a y h k=>NO N a.1 y h λw h=>k (w,h)) λu y u t=>(t.1,c3.wR y t.2)
theorem E7(N:Nat)(R:Type)(a:Int×Unit)(y:Y3)(h:H3)(k:W×wb->Option R):bn ((((Or.nil.c 354 (NH N)).rc 408 SH).rc 413 Yz).b 4181 BC) W7 [.ref 1,.ref 0,.ref 2,.int a.1] (c3.wR y h) k=NO N a.1 y h λw h=>k (w,c3.wR y h):=by kernel_rfl!
theorem X8:ji (Mb db Ib qc (n+6) X) 418 (TH 5000):=nj ((((yh.nil.c R8).rc YW).rc ZW).b O0) rfl rfl (E7 5000)
def VZ(n:Int)(v:W)(k:List W->Option R):Option R:=M (!Ph n 0) (M (Ph n 4096) (k (Ia n.toNat v)) Y) Y
def mN(b c:List W)(k:List W->List W->Option R):Option R:=VZ (Td b) (.int (-1)) λe=>VZ (Td c) (.int 0) λf=>k e f
def LH:CF:=yg (.sk (.ref 2)<| .p .l<| .p .l<| .p .l .nil) (.p .id<| .p .id<| .cons (.obj 357 .nil) .nil) (λR a y h k=>mN a.1 a.2.1 λu v=>k (u,v)) λa y z t=>(.none,wk.wR (y.1,y.2.1,(a.1,a.2.1,a.2.2.1,()),[]) ((t.1,t.2,()),()))
theorem N8:ji (Mb db Ib qc (n+1) X) 323 LH:=nj .nil rfl rfl λR a y h k=>by kernel_rfl!
end
end
end
section
variable {R:Type}
noncomputable section
section
variable {X:Nat->Option (List Int)} {n d a:Nat} {T:Yp} {V:Nat->jc->wb->Wk} {O:Or}
noncomputable def JD:SF->List SF
 |.whil u b=>b|.fors u y b=>b|.forz u y b=>b|_=>[]
noncomputable abbrev X4:=Option W×Option W×Option W×Option W×Unit
noncomputable abbrev HK:=Option W×Option W×Unit
def Z6:Rg jc X4 HK:=.sk (fr (.ref 1))<| .sk (fr (.ref 0))<| .p ow<| .p ow<| .sk (fr (.ref 2))<| .a ow<| .a ow<| .p ow<| .p ow .nil
def BG(v w:W)(y:Y3)(h:H3)(k:Gf->Option R):Option R:=H (Ua v) λi=>H (Lg y.ca.wQ i) λx=>M (nb x) (M (nb w) (Sx y.ca.wQ h w λb=>M (nb x) (Zw h.st.wL x λd=>M (nb d) (mF x d λs=>H (Qe s (c3.wR y h)) λc=>M (Kd 4096 (b++c)) (Ro (.l (b++c)) (λs=>c3.wR y (h.putS s)) h.st k) Y) Y) Y) Y) Y
def my(y:Y3)(v:W)(m:HK)(h:H3)(k:Fw HK H3->Option R):Option R:=M (nb v) (H (Ua v) λi=>Vv y.wM y.wN i h.pl λw p=>M (nb w) (H (Oh w .none) λr=>M r (BG v w y (h.wX p) λs=>k (.ret (.bool ta) ((h.wX p).putS s))) (k (.go (J v,J w,()) (h.wX p)))) Y) Y
def XB(y:Y3)(m:HK)(h:H3)(k:Fw HK H3->Option R):Option R:=Xd (Td y.ca.wQ) λb=>Kg (my y) b m h k
def yC:CB:=Oj Z6 c3 λR x y m h k=>XB y m h k
theorem H0:vh (Ge db Ib X (Mb db Ib qc (n+4) X) (d+1)) 4011 yC:=Sr (CM:=Z6) (CH:=c3) (((((yh.nil.c O8).c NB).r YW).r jH).v XW) rfl (eP:=λR x y m h k=>Xd (Td y.ca.wQ) k) (gP:=λv R x y m h k=>my y v m h k) (λR x y m h k=>by kernel_rfl!) λv R x y m h k=>by kernel_rfl!
def yS:Rg jc (Option W×Option W×Option W×Option W×W×Unit) (Option W×Unit):=.sk (fr (.ref 1))<| .sk (fr (.ref 0))<| .p ow<| .p ow<| .sk (fr (.ref 2))<| .p ow<| .p ow<| .p (fr .id)<| .a ow .nil
def wv(N:Nat)(v:W)(y:Y3)(m:Option W×Unit)(h:H3)(k:Fw (Option W×Unit) H3->Option R):Option R:=M (nb v) (H (Ua v) λi=>sq N y.wM y.wO i (λp=>c3.wR y (h.wX p)) h.pl λw p=>M (nb w) (H (Oh w .none) λr=>M r (M (nb w) (H (El w) λos=>tt y.ca.wQ y.ca.wP os (h.wX p) λb=>Ro (.l b) (λs=>c3.wR y ((h.wX p).putS s)) h.st λs=>k (.ret (.bool ta) ((h.wX p).putS s))) Y) (k (.go (J w,()) (h.wX p)))) Y) Y
def pQ(v:W)(y:Y3)(h:H3)(k:Bool->Option R):Option R:=Lp h.pl.co y.ca.wO v λx z=>k (Ph x z)
def cX(N:Nat)(v:W)(y:Y3)(m:Option W×Unit)(h:H3)(k:Fw (Option W×Unit) H3->Option R):Option R:=u5 (λu h=>pQ v y h) (wv N v y) N m h k
def JP(N:Nat):CB:=Oj yS c3 λR x y m h k=>cX N x.2.2.2.2.1 y m h k
theorem PY(N:Nat)(R:Type)(x:Option W×Option W×Option W×Option W×W×Unit)(y:Y3)(m:Option W×Unit)(h:H3)(k:Fk->Option R):Ug (((Or.nil.c 342 (MH N)).c 225 Xz).r 413 Yz) (JD oW) (yS.wR x m) (c3.wR y h) k=wv N x.2.2.2.2.1 y m h (lv (yS.wR x) (c3.wR y) k):=by kernel_rfl!
theorem J0:vh (Ge db Ib X (Mb db Ib qc (n+2) X) (d+1)) 4013 (JP 5000):=RQ (CM:=yS) (CH:=c3) (((yh.nil.c P8).c NB).r ZW) rfl (tP:=λR x y m h k=>pQ x.2.2.2.2.1 y h k) (gP:=λR x y m h k=>wv 5000 x.2.2.2.2.1 y m h k) (λR x y m h k=>by kernel_rfl!) (PY 5000)
def c7:Rg jc X4 HK:=.sk (fr (.ref 1))<| .sk (fr (.ref 0))<| .p ow<| .p ow<| .sk (fr (.ref 2))<| .p ow<| .p ow<| .a ow<| .a ow .nil
def pB(N:Nat)(y:Y3)(v:W)(m:HK)(h:H3)(k:Fw HK H3->Option R):Option R:=cX N v y (m.2.1,()) h λr=>Fw.rec (λm h=>k (.go (J v,m.1,()) h)) (λw h=>k (.ret w h)) r
def YB(N:Nat)(y:Y3)(m:HK)(h:H3)(k:Fw HK H3->Option R):Option R:=Xd (Td y.ca.wP) λb=>Kg (pB N y) b m h k
def zC(N:Nat):CB:=Oj c7 c3 λR x y m h k=>YB N y m h k
theorem I0:vh (Ge db Ib X (Mb db Ib qc (n+2) X) (d+2)) 4012 (zC 5000):=Sr (CM:=c7) (CH:=c3) (yh.nil.b J0) rfl (eP:=λR x y m h k=>Xd (Td y.ca.wP) k) (gP:=λv R x y m h k=>pB 5000 y v m h k) (λR x y m h k=>by kernel_rfl!) λv R x y m h k=>by kernel_rfl!
def zS:Rg jc (Option W×Option W×Option W×Option W×Option W×Unit) (Option W×Unit):=.sk (fr (.ref 1))<| .sk (fr (.ref 0))<| .p ow<| .p ow<| .sk (fr (.ref 2))<| .p ow<| .p ow<| .a ow<| .p ow .nil
def ny(N:Nat)(y:Y3)(v:W)(m:Option W×Unit)(h:H3)(k:Fw (Option W×Unit) H3->Option R):Option R:=M (nb v) (H (Ua v) λo=>NO N o y h λw h=>H (Ii w) λb=>M (!b) (k (.ret (.bool ta) h)) (k (.go (J v,()) h))) Y
def ZB(N:Nat)(y:Y3)(m:Option W×Unit)(h:H3)(k:Fw (Option W×Unit) H3->Option R):Option R:=Xd (Td y.ca.wP+1) λb=>Kg (ny N y) b m h k
def AC(N:Nat):CB:=Oj zS c3 λR x y m h k=>ZB N y m h k
theorem QY(N:Nat)(v:W)(R:Type)(x:Option W×Option W×Option W×Option W×Option W×Unit)(y:Y3)(m:Option W×Unit)(h:H3)(k:Fk->Option R):(il (.x 7) v (zS.wR x m) λb=>Ug (Or.nil.c 418 (TH N)) (JD pW) b (c3.wR y h) k)=ny N y v m h (lv (zS.wR x) (c3.wR y) k):=by kernel_rfl!
theorem K0:vh (Ge db Ib X (Mb db Ib qc (n+6) X) (d+1)) 4014 (AC 5000):=Sr (CM:=zS) (CH:=c3) (yh.nil.c X8) rfl (eP:=λR x y m h k=>Xd (Td y.ca.wP+1) k) (gP:=λv R x y m h k=>ny 5000 y v m h k) (λR x y m h k=>by kernel_rfl!) (QY 5000)
def RO(b:sr)(k:List W->Option R):Option R:=Xd (Td b.wP) λe=>Ae (λv c=>Lp b.wO b.wN v λx y=>M (Ph y x) (M (nb v) (c [v]) Y) (c [])) e λc=>M (Kd 4096 c) (k c) Y
def sL(e:List W)(b:sr)(k:List W->Option R):Option R:=M (Kd 4900 b.wQ) (Ae (λv c=>M (nb v) (QO e b.wP v λf=>c [.l f]) Y) b.wQ λc=>M (Kd 4096 c) (k c) Y) Y
def WO(y:Y3)(h:H3):OF:=(Rg.obj 357 qcV).wR y.2.2.1 h.2.2.1
def Gy(N:Nat)(c:sr)(s:Gf)(k:W->Gf->wb->Option R):Option R:=RO c λf=>H (lk (.l f) (.l [])) λb=>M (!b) (Ro (.t []) (λs=>c2.wR ((),c,[]) (s,(),())) s λs=>k (.bool ta) s [])
 (sL s.wL c λe=>M (Kd 4096 (c.wO++[.int 0])) (M (Kd 4096 (c.wN++[.int (Td c.wQ+1)])) (mN e (c.wO++[.int 0]) λu v=>
  let y:Y3:=((),c,(e,c.wO++[.int 0],c.wN++[.int (Td c.wQ+1)],()),())
  XB y (Y,Y,()) (s,(),(u,v,()),()) λr=>Fw.rec (λm h=>YB N y (Y,Y,()) h λr=>Fw.rec (λm h=>ZB N y (m.1,()) h λr=>Fw.rec (λm h=>k (.bool Z) h.st [WO y h]) (λw h=>k w h.st [WO y h]) r) (λw h=>k w h.st [WO y h]) r) (λw h=>k w h.st [WO y h]) r) Y) Y)
abbrev a4:Rg wb (Unit×sr×Unit) (Gf×Unit×Unit):=.cons (.obj 256 P9)<| .cons (.obj 435 J4) .nil
def RH(N:Nat):CF:=yg (.sk (.ref 1)<| .sk (.ref 0) .nil) a4 (λR a y h k=>Gy N y.2.1 h.1 λw s j=>k (w,s,j)) λu y u t=>(t.1,c2.wR ((),y.2.1,t.2.2) (t.2.1,(),()))
theorem D7(N:Nat)(R:Type)(a:Unit)(y:Unit×sr×Unit)(h:Gf×Unit×Unit)(k:W×wb->Option R):bn ((((((Or.nil.c 225 Xz).r 389 PH).c 323 LH).b 4011 yC).b 4012 (zC N)).b 4014 (AC N)) V7 [.ref 1,.ref 0] (a4.wR y h) k=Gy N y.2.1 h.1 λw s j=>k (w,c2.wR ((),y.2.1,j) (s,(),())):=by kernel_rfl!
theorem W8:ji (Mb db Ib qc (n+7) X) 401 (RH 5000):=nj ((((((yh.nil.c NB).r U8).c N8).b H0).b I0).b K0) rfl rfl (D7 5000)
def yH(N:Nat)(c:sr)(s:Gf)(k:Bool->Gf->wb->Option R):Option R:=M (Ph (-1) (Td s.trail)) (Gy N c s λw s j=>H (Ii w) λb=>M (!b) (k ta s j) (k Z s j)) (k Z s [])
def QH(N:Nat):CF:=yg (.sk (.ref 1)<| .sk (.ref 0) .nil) a4 (λR a y h k=>yH N y.2.1 h.1 λw s j=>k (w,s,j)) λu y u t=>(.bool t.1,c2.wR ((),y.2.1,t.2.2) (t.2.1,(),()))
theorem C7(N:Nat)(R:Type)(a:Unit)(y:Unit×sr×Unit)(h:Gf×Unit×Unit)(k:W×wb->Option R):bn (Or.nil.c 401 (RH N)) U7 [.ref 1,.ref 0] (a4.wR y h) k=yH N y.2.1 h.1 λw s j=>k (.bool w,c2.wR ((),y.2.1,j) (s,(),())):=by kernel_rfl!
theorem V8:ji (Mb db Ib qc (n+8) X) 396 (QH 5000):=nj (yh.nil.c W8) rfl rfl (C7 5000)
end
end
end
section
variable {R:Type}
noncomputable section
section
variable {X:Nat->Option (List Int)} {n d a:Nat} {V:Yp} {T:Nat->jc->wb->Wk} {O:Or}
def qdj(w:W)(k:W->W->Option R):Option R:=H (ng w) λb=>H (Tj b) λp=>H (Tj p.2) λq=>M (sy q.2) (k p.1 q.1) Y
def mI(w:W)(k:W->W->W->Option R):Option R:=H (ng w) λb=>H (Tj b) λp=>H (Tj p.2) λq=>H (Tj q.2) λr=>M (sy r.2) (k p.1 q.1 r.1) Y
def KQ(e:wb)(d:W)(k:List W->Option R):Option R:=Pf d λf=>Ae (λp b=>qdj p λlo c=>tL c (.int 1) e λc=>H (Ua lo) λx=>H (Ua c) λy=>M (vD x y) (M (vD x y) (Ae (λv b=>M (nb v) (b [v]) Y) (qw (y - x).toNat x) b) Y) Y) f λb=>M (Kd 4096 b) (k b) Y
def vy(e:wb)(b:List W)(k:List W->Option R):Option R:=Xd (Td b) λf=>Ae (λx c=>M (nb x) (Zw b x λd=>M (nb d) (KQ e d λg=>c [.l g]) Y) Y) f λc=>M (Kd 4096 c) (k c) Y
def YH:CR:=yk (.sk (.ref 0) .nil) bu λR a y h k=>vy (bu.wR y h) h.1.wL λb=>k (.l b)
theorem i9:Ng (Mb db Ib qc (n+2) X) 471 YH:=Tq ((yh.nil.r jH).r E8) rfl rfl λR a y h k=>by kernel_rfl!
def QW(h:wb)(m f:List W)(k:List W->Option R):Option R:=M (Kd 4900 f) (Ae (λone j=>ON one h λn=>H (Ua n) λz=>Xd z λo=>Ae (λx g=>pF one x h λe=>H (Ua x) λi=>H (Lg m i) λl=>H (Ua e) λu=>H (mj l h) λc=>H (yA (.int u) c) λb=>M (!b) (M (nb x) (g [x]) Y) (g [])) o λc=>M (Kd 4096 c) (H (lk (.l c) (.l [])) λb=>M b (M (nb one) (j [one]) Y) (j [])) Y) f λb=>M (Kd 4096 b) (k b) Y) Y
def cG(b:wb)(h f:List W)(k:List W->Option R):Option R:=Xd (Td h) λi=>Ae (λx j=>M (Kd 4900 f) (Ae (λone c=>pF one x b λe=>M (nb e) (c [e]) Y) f λe=>M (Kd 4096 e) (H (qaE .set [.l e] b) λw=>H (mj w b) λc=>H (PC c) λg=>M (Kd 4096 g) (j [.l g]) Y) Y) Y) i λc=>M (Kd 4096 c) (k c) Y
def AL(N:Nat)(c:sr)(s:Gf)(f:List W)(k:W->Gf->wb->Option R):Option R:=vy (c2.wR ((),c,[]) (s,(),())) s.wL λh=>QW (c2.wR ((),c,[]) (s,(),())) h f λg=>yH N c s λb s j=>H (lk (.l g) (.l [])) λe=>M (b != !e) (k (.bool ta) s j)
 (H (lk (.l g) (.l [])) λe=>M e (k (.bool s.bad) s j) (vy (c2.wR ((),c,j) (s,(),())) s.wL λi=>cG (c2.wR ((),c,j) (s,(),())) h g λl=>H (lk (.l i) (.l l)) λr=>k (.bool r) s j))
def ZH(N:Nat):CF:=oF (yg (.sk (.ref 0)<| .sk (.ref 1)<| .p .l .nil) a4 (λR a y h k=>AL N y.2.1 h.1 a.1 λw s j=>k (w,s,j)) λu y u t=>(t.1,c2.wR ((),y.2.1,t.2.2) (t.2.1,(),())))
theorem H7(N:Nat)(R:Type)(a:List W×Unit)(y:Unit×sr×Unit)(h:Gf×Unit×Unit)(k:W×wb->Option R):bn ((Or.nil.rc 471 YH).c 396 (QH N)) Y7 [.ref 0,.ref 1,.l a.1] (a4.wR y h) k=AL N y.2.1 h.1 a.1 λw s j=>k (w,c2.wR ((),y.2.1,j) (s,(),())):=by kernel_rfl!
theorem j9:ji (Mb db Ib qc (n+9) X) 476 (ZH 5000):=Ps ((yh.nil.rc i9).c V8) rfl rfl (H7 5000)
abbrev qds:=sr×Unit
def rW:Rg wb qds (Unit×Unit):=.cons (.obj 435 J4) .nil
def yX(b:sr)(k:List W->Option R):Option R:=M (Kd 4096 ([.str "cardinality",.t b.wQ]++b.rows)) (k ([.str "cardinality",.t b.wQ]++b.rows)) Y
def VH:CR:=iV (yk (.sk (.ref 0) .nil) rW λR a y h k=>yX y.1 λr=>k (.t r))
theorem Z8:Ng (Mb db Ib qc (n+1) X) 432 VH:=fA .nil rfl rfl λR a y h k=>by kernel_rfl!
noncomputable abbrev jW:=Option W×Option W×Option W×Unit
def d7:Rg jc (W×Unit) jW:=.sk (fr (.ref 0))<| .p (fr .id)<| .a ow<| .a ow<| .a ow .nil
def xW(e:List W)(k:List W->Option R):Option R:=H (Lg e 0) λa=>M (nb a) (H (Lg e 1) λb=>M (nb b) (H (Lg e 2) λc=>M (nb c) (H (fm [a,b,c]) λf=>H (qA f) λg=>H (zl g) k) Y) Y) Y
def kt(e:W)(g:wb)(v:W)(m:jW)(h:Unit×Unit)(k:Fw jW (Unit×Unit)->Option R):Option R:=mI v λa b c=>H (ng e) λf=>M (Kd 4096 f) (M (nb a) (H (V4 (.l f) "count" [a] g) λn=>H (Ua b) λx=>H (Ua n) λy=>M (!Ph y x)
 (H (Ua n) λx=>H (Ua c) λy=>M (!(!Ph y x)) (k (.ret (.bool ta) h)) (k (.go (J a,J b,J c,()) h))) (k (.ret (.bool ta) h))) Y) Y
def jX(b:List W)(c:W)(e:wb)(m:jW)(h:Unit×Unit)(k:Fw jW (Unit×Unit)->Option R):Option R:=xW b λf=>Kg (kt c e) f m h k
def PP:CB:=Oj d7 rW λR x y m h k=>jX y.1.rows x.1 (rW.wR y h) m h k
theorem R0:vh (Ge db Ib X V (d+1)) 4251 PP:=oT (CM:=d7) (CH:=rW) .nil rfl (eP:=λR x y m h k=>xW y.1.rows k) (gP:=λv R x y m h k=>kt x.1 (rW.wR y ((),())) v m h k) (λR x y m h k=>by kernel_rfl!) λv R x y m h k=>by kernel_rfl!
def gz(y:qds)(b:W)(k:W->Option R):Option R:=jX y.1.rows b (rW.wR y ((),())) (Y,Y,Y,()) ((),()) λq=>Fw.rec (λu u=>k (.bool Z)) (λw u=>k w) q
def UH:CR:=iV (yk (.sk (.ref 0)<| .p .id .nil) rW λR a y h k=>gz y a.1 k)
theorem Y8:Ng (Mb db Ib qc (n+1) X) 425 UH:=fA (yh.nil.b R0) rfl rfl λR a y h k=>by kernel_rfl!
def JN(one c:W)(k:Bool->Option R):Option R:=Pf c λi=>Ae (λrow g=>mI row λv l h=>Pf one λos=>Ae (λe f=>H (lk e v) λb=>M b (M (nb e) (f [e]) Y) (f [])) os λb=>M (Kd 4096 b) (H (Ua l) λx=>M (!Ph (Td b) x) (H (Ua h) λy=>M (!(!Ph y (Td b))) (M (nb v) (g [v]) Y) (g [])) (M (nb v) (g [v]) Y)) Y) i λb=>M (Kd 4096 b) (H (lk (.l b) (.l [])) k) Y
def CV:=Rh .nil dZ
theorem d9:Ng (Mb db Ib qc (n+1) X) 461 (sh CV):=Xn .nil rfl rfl
theorem G7(R:Type)(one c:W)(k:W×wb->Option R):bn .nil dZ [one,c] [] k=JN one c λb=>k (.bool b,[]):=by kernel_rfl!
def qeV:Rg jc (Option W×Unit) (List W×Option W×Unit):=.p ow<| .a (fr .l)<| .a ow .nil
def yv(v:W)(m:List W×Option W×Unit)(c:wb)(h:Unit)(k:List W×Option W×Unit->Unit->Option R):Option R:=M (Kd 4900 m.1) (Ae (λe f=>Pf v λos=>Ae (λu b=>M (nb u) (tL e (.t [u]) c λw=>M (nb w) (b [w]) Y) Y) os f) m.1 λb=>M (Kd 4096 b) (k (b,J v,()) h) Y) Y
def f7:Rg jc (W×Unit) (List W×Option W×Unit):=.p (fr .id)<| .a (fr .l)<| .a ow .nil
def tw:CB:=oj f7 .rest λR x y m h k=>Pf x.1 λb=>nh (λv m h k=>yv v m y h k) b m h k
theorem S0:vh (Ge db Ib X V (d+1)) 4561 tw:=rj (CM:=f7) (CH:=.rest) .nil rfl (eP:=λR x y m h k=>Pf x.1 k) (gP:=λv R x y m h k=>yv v m y h k) (λR x y m h k=>by kernel_rfl!) λv R x y m h k=>by kernel_rfl!
def uV(b:W)(k:List W->Option R):Option R:=Pf b λc=>nh (λv m h k=>yv v m [] h k) c ([.t []],Y,()) () λm u=>k m.1
def IQ:=Rh (Or.nil.b 4561 tw) cZ
theorem c9:Ng (Mb db Ib qc (n+1) X) 456 (sh IQ):=Xn (yh.nil.b S0) rfl rfl
theorem F7(R:Type)(b:W)(k:W×wb->Option R):bn (Or.nil.b 4561 tw) cZ [b] [] k=uV b λc=>k (.l c,[]):=by kernel_rfl!
end
end
end
section
variable {R:Type}
noncomputable section
section
variable {V:Nat->Option (List Int)} {n d a:Nat} {Q:Yp} {T:Nat->jc->wb->Wk} {O:Or}
noncomputable abbrev B5:=(W×W×W×List W×List W×Unit)×Unit
noncomputable abbrev AR:=List W×List W×List W×Unit
abbrev MK:=AR×Unit
def qeW:Rg (List (Bb×W)) (W×W×W×List W×List W×Unit) AR:=.p (.fld "number" .id)<| .p (.fld "scope" .id)<| .p (.fld "strength" .id)<| .p (.fld "taken" .t)<| .p (.fld "rows" .t)<| .a (.fld "wanted" (.o .l))<| .a (.fld "lows" (.o .l))<| .a (.fld "highs" (.o .l)) .nil
def IY:Rg wb B5 MK:=.cons (.obj 435 qeW) .nil
def u8(v lo b:W)(h:MK)(k:MK->Option R):Option R:=M (nb v) (M (Kd 4096 h.1.1) (M (nb lo) (M (Kd 4096 h.1.2.1) (M (nb b) (M (Kd 4096 h.1.2.2.1) (k ((h.1.1++[v],h.1.2.1++[lo],h.1.2.2.1++[b],()),())) Y) Y) Y) Y) Y) Y
def cY(v lo b:W)(c:wb)(h:MK)(k:MK->Option R):Option R:=M (nb v) (H (V4 (.fld 0 "wanted") "index" [v] c) λw=>M (nb w) (H (Ua w) λi=>H (Lg h.1.2.1 i) λl=>H (Ua l) λx=>H (Ua lo) λy=>H (Ua w) λj=>H (Lg h.1.2.2.1 j) λg=>H (Ua g) λz=>H (Ua b) λu=>H (Ua w) λi=>H (du h.1.2.1 i (.int (max x y))) λe=>H (Ua w) λj=>H (du h.1.2.2.1 j (.int (min z u))) λf=>k ((h.1.1,e,f,()),())) Y) Y
def CX(v lo c:W)(y:B5)(h:MK)(k:MK->Option R):Option R:=H (yA v (.l h.1.1)) λb=>M b (cY v lo c (IY.wR y h) h k) (u8 v lo c h k)
def TU:CF:=yg (.sk (.ref 0)<| .p .id<| .p .id<| .p .id .nil) IY (λR a y h k=>CX a.1 a.2.1 a.2.2.1 y h k) λu y u h=>(.none,IY.wR y h)
theorem T8:ji (Mb db Ib qc (n+1) V) 384 TU:=nj .nil rfl rfl λR a y h k=>by kernel_rfl!
noncomputable abbrev M5:=Option W×Option W×Option W×Unit
def i7:Rg jc (Option W×W×W×W×Unit) M5:=.sk (fr (.ref 0))<| .p ow<| .p (fr .id)<| .p (fr .id)<| .p (fr .id)<| .a ow<| .a ow<| .a ow .nil
def GX(a b c:W)(k:List W->Option R):Option R:=M (nb a) (M (nb b) (M (nb c) (H (fm [a,b,c]) λe=>H (qA e) λf=>H (zl f) k) Y) Y) Y
def KW(y:B5)(v:W)(m:M5)(h:MK)(k:M5->MK->Option R):Option R:=mI v λa b c=>M (nb a) (H (Ua b) λx=>M (nb c) (CX a (.int (max x 0)) c y h λh=>k (J a,J b,J c,()) h) Y) Y
def bX(a b c:W)(y:B5)(m:M5)(h:MK)(k:M5->MK->Option R):Option R:=GX a b c λe=>nh (KW y) e m h k
def IP:CB:=oj i7 IY λR x y m h k=>bX x.2.1 x.2.2.1 x.2.2.2.1 y m h k
theorem G0:vh (Ge db Ib V (Mb db Ib qc (n+1) V) (d+1)) 3771 IP:=UM (CM:=i7) (CH:=IY) (yh.nil.c T8) rfl (eP:=λR x y m h k=>GX x.2.1 x.2.2.1 x.2.2.2.1 k) (gP:=λv R x y m h k=>KW y v m h k) (λR x y m h k=>by kernel_rfl!) λv R x y m h k=>by kernel_rfl!
def OU:CF:=yg (.sk (.ref 0)<| .p .t<| .p .id .nil) (.cons (.obj 435 .nil) .nil) (λR a u u k=>M (Kd 4096 a.1) (M (nb a.2.1) (k ()) Y) Y) λa u u u=>(.none,[⟨J 435,[("number",.int (-1)),("scope",.t a.1),("strength",a.2.1)]⟩])
theorem L8:ji (Mb db Ib qc (n+1) V) 274 OU:=nj .nil rfl rfl λR a y h k=>by kernel_rfl!
noncomputable def qdD(b c e f:List W)(s:AR)(g:Bool):OF:=⟨J 435,[("number",.int (-1)),("scope",.t b),("strength",.str "values"),("taken",.t b),("rows",.t [.t c,.t e,.t f]),("wanted",.o (.l s.1)),("lows",.o (.l s.2.1)),("highs",.o (.l s.2.2.1)),("has_twins",.bool g)]⟩
noncomputable def qbC(b c e f:List W):B5:=((.int (-1),.t b,.str "values",b,[.t c,.t e,.t f],()),())
def tW(b c e f:List W)(k:AR->Bool->Option R):Option R:=M (Kd 4096 b) (M (Kd 4096 b) (M (Kd 4096 c) (M (Kd 4096 e) (M (Kd 4096 f) (bX (.t c) (.t e) (.t f) (qbC b c e f) (Y,Y,Y,()) (([],[],[],()),()) λu h=>H (qaE .set [.t b] (IY.wR (qbC b c e f) h)) λw=>ON w (IY.wR (qbC b c e f) h) λn=>H (Ua n) λx=>k h.1 (Ph x (Td b))) Y) Y) Y) Y) Y
def OH:CF:=oF (yg (.sk (.ref 0)<| .p .t<| .p .t<| .p .t<| .p .t .nil) (.cons (.obj 435 .nil) .nil) (λR a u u k=>tW a.1 a.2.1 a.2.2.1 a.2.2.2.1 λs t=>k (s,t)) λa u u t=>(.none,[qdD a.1 a.2.1 a.2.2.1 a.2.2.2.1 t.1 t.2]))
theorem S8:ji (Mb db Ib qc (n+2) V) 377 OH:=Ps ((yh.nil.c L8).b G0) rfl rfl λR a y h k=>by kernel_rfl!
noncomputable def Rg.sd{X S:Type}(d:Rg (List (Bb×W)) X S):Rg OF X S:=⟨λR o k=>Pp (d.dec R o.fs k) (λu=>Y) o.cls,λx s=>⟨Y,d.wR x s⟩,λR a k r e=>by
 obtain⟨b,f⟩:=a
 induction b with
 |some=>exact ja e|none=>
  obtain⟨x,s,rfl,c⟩:=d.ok R _ _ _ e;exact⟨x,s,rfl,c⟩⟩
abbrev qeG:=(List W×Unit)×wb
noncomputable abbrev qeF:=(Int×Unit)×Unit
def qdW:Rg wb qeG qeF:=.cons (.sd (.p (.fld "cells" .l)<| .a (.fld "at" .int) .nil)) .rest
def jk(b:List W)(e f:Int)(k:Int->Int->Option R):Option R:=M (Ph (Td b) (e+1)) (k 0 (e+1)) (H (Lg b (e+1 - 1)) λc=>H (Ua c) λx=>H (Hz x f) λz=>k z (e+1))
def WH:CF:=yg (.sk (.ref 0)<| .p .int .nil) qdW (λR a y h k=>jk y.1.1 h.1.1 a.1 λz i=>k (z,i)) λu y u t=>(.int t.1,qdW.wR y ((t.2,()),()))
theorem a9:ji (Mb db Ib qc (n+1) V) 444 WH:=nj .nil rfl rfl λR a y h k=>by kernel_rfl!
end
end
end
section
variable {R:Type}
noncomputable section
section
variable {X:Nat->Option (List Int)} {n d a:Nat} {T:Yp} {V:Nat->jc->wb->Wk} {O:Or}
def ah(s:Gf):OF:=(Rg.obj 256 P9).wR () s
def Bp(m:Nat)(v:W)(s:Gf)(k:List W->Gf->Option R):Option R:=M (zA [v]) (H (HQ [v]) λb=>M (nb b) (H (ul m b) λb=>M (qe [ah s]) (qac b (λs=>[ah s]) s λt=>M (Jd t.1) (M (qe [ah t.2]) (M (nb t.1) (k [t.1] t.2) Y) Y) Y) Y) Y) Y
def bG(f:List W)(g:wb)(k:List W->Option R):Option R:=Xd 3 λh=>Ae (λc i=>M (Kd 4900 f) (Ae (λrow b=>pF row c g λe=>M (nb e) (b [e]) Y) f λb=>M (Kd 4096 b) (M (Kd 4096 b) (i [.t b]) Y) Y) Y) h λb=>M (Kd 4096 b) (k b) Y
abbrev yK:=List W×List W×List W×List W×AR×Bool
noncomputable def Jo(p:yK):OF:=qdD p.1 p.2.1 p.2.2.1 p.2.2.2.1 p.2.2.2.2.1 p.2.2.2.2.2
def Vo(m:Nat)(l e:List W)(o:wb)(k:yK->Option R):Option R:=M (Kd 4096 e) (bG l o λf=>H (Lg f 0) λa=>H (Lg f 1) λb=>H (Lg f 2) λc=>M (zA [.t e,a,b,c]) (H (ul (m+1) (.t e)) λt=>H (ul (m+1) a) λa=>H (ul (m+1) b) λb=>H (ul (m+1) c) λc=>H (ng t) λg=>H (ng a) λe=>H (ng b) λh=>H (ng c) λi=>tW g e h i λq j=>M (qe [Jo (g,e,h,i,q,j)]) (k (g,e,h,i,q,j)) Y) Y) Y
def ut(b:wb)(m:Nat)(e g:List W)(k:Gf->yK->Option R):Option R:=M (Kd 4900 e) (gk (Bp m) e qX λf s=>M (Kd 4096 f) (Vo m g f (b++[ah s]) λc=>k s c) Y) Y
def Cs:Or:=(((Or.nil.c 120 GH).c 127 HH).v 451 HQ).c 377 OH
noncomputable def RV:Mine.Internal.X:=.comp 2 (.x 0) (.x 6) [] [] (.meth (.x 2) "new_var" [.call (.k (.ref 451)) [.x 6]])
noncomputable def Nv(b c:List W)(m:Nat)(w:Option W):jc:=[J (.l b),J (.l c),J (.ref m),w,Y]
theorem qcH(c f:List W)(o:OF)(s:Gf)(k:W×wb->Option R):hK Cs RV (Nv c f 1 Y) [o,ah s] k=M (Kd 4900 c) (gk (Bp 1) c s λe s=>M (Kd 4096 e) (k (.l e,[o,ah s])) Y) Y:=
 dn (b:=M (Kd 4900 c) (gt (λv g h=>gm (.x 6) v (Nv c f 1 Y++Ia 2 Y) λe=>hK Cs (.meth (.x 2) "new_var" [.call (.k (.ref 451)) [.x 6]]) e g λp=>M (nb p.1) (h ([p.1],p.2)) Y) c [o,ah s] λq=>M (Kd 4096 q.1) (k (.l q.1,q.2)) Y) Y) (by kernel_rfl!)
  (Gc (λz=>M (Kd 4900 c) z Y) (Zu (eH:=λs=>[o,ah s]) (gP:=Bp 1) (λv s k=>by kernel_rfl!) c s _))
theorem qcI(c h:List W)(o e f:OF)(s:Gf)(k:W×wb->Option R):hK Cs RV (Nv c h 3 Y) [o,e,f,ah s] k=M (Kd 4900 c) (gk (Bp 3) c s λg s=>M (Kd 4096 g) (k (.l g,[o,e,f,ah s])) Y) Y:=
 dn (b:=M (Kd 4900 c) (gt (λv i j=>gm (.x 6) v (Nv c h 3 Y++Ia 2 Y) λg=>hK Cs (.meth (.x 2) "new_var" [.call (.k (.ref 451)) [.x 6]]) g i λp=>M (nb p.1) (j ([p.1],p.2)) Y) c [o,e,f,ah s] λq=>M (Kd 4096 q.1) (k (.l q.1,q.2)) Y) Y) (by kernel_rfl!)
  (Gc (λz=>M (Kd 4900 c) z Y) (Zu (eH:=λs=>[o,e,f,ah s]) (gP:=Bp 3) (λv s k=>by kernel_rfl!) c s _))
def gG(b c:List W)(m:Nat)(k:W×wb->Option R)(p:W×wb):Option R:=NL Cs (.k (.type "tuple")) [p.1] p.2 λq=>M (nb q.1) (Ug Cs (kJ.body.drop 2) (Nv b c m (J q.1)) q.2 λr=>k (RS r)) Y
theorem SY(e f:List W)(o:OF)(k:W×wb->Option R):bn Cs kJ [.l e,.l f] [o] k=ut [o] 1 e f λs c=>k (.t [.ref 1,.ref 2],[o,ah s,Jo c]):=
 dn (b:=hK Cs RV (Nv e f 1 Y) [o,ah qX] (gG e f 1 k)) (by kernel_rfl!) ((qcH e f o qX _).trans (Gc (λz=>M (Kd 4900 e) z Y) (Gc (gk (Bp 1) e qX) (funext λg=>funext λs=>by kernel_rfl!))))
theorem TY(e f:List W)(o g h:OF)(k:W×wb->Option R):bn Cs kJ [.l e,.l f] [o,g,h] k=ut [o,g,h] 3 e f λs c=>k (.t [.ref 3,.ref 4],[o,g,h,ah s,Jo c]):=
 dn (b:=hK Cs RV (Nv e f 3 Y) [o,g,h,ah qX] (gG e f 3 k)) (by kernel_rfl!) ((qcI e f o g h qX _).trans (Gc (λz=>M (Kd 4900 e) z Y) (Gc (gk (Bp 3) e qX) (funext λi=>funext λs=>by kernel_rfl!))))
def DC:CF:=yg (.p .l<| .p .l .nil) (.p .id .nil) (λR a y h k=>ut [y.1] 1 a.1 a.2.1 λs c=>k (s,c)) λu y u t=>(.t [.ref 1,.ref 2],[y.1,ah t.1,Jo t.2])
def EC:CF:=yg (.p .l<| .p .l .nil) (.p .id<| .p .id<| .p .id .nil) (λR a y h k=>ut [y.1,y.2.1,y.2.2.1] 3 a.1 a.2.1 λs c=>k (s,c)) λu y u t=>(.t [.ref 3,.ref 4],[y.1,y.2.1,y.2.2.1,ah t.1,Jo t.2])
def XH:CF:=λR c b k=>M (Rb (len b) 1) (DC R c b k) (EC R c b k)
theorem aX:yh Cs (Mb db Ib qc (n+2) X) (Ge db Ib X (Mb db Ib qc (n+2) X) 4):=(((yh.nil.c C8).c D8).v b9).c S8
theorem T0:ji (Mb db Ib qc (n+3) X) 466 DC:=nj (O:=Cs) (fn:=kJ) aX rfl rfl λR a y h k=>SY a.1 a.2.1 y.1 k
theorem U0:ji (Mb db Ib qc (n+3) X) 466 EC:=nj (O:=Cs) (fn:=kJ) aX rfl rfl λR a y h k=>TY a.1 a.2.1 y.1 y.2.1 y.2.2.1 k
theorem f9:ji (Mb db Ib qc (n+3) X) 466 XH:=λR b c k r=>KI (P:=λx=>x=J r->RK _ _ k r) (λu=>T0 R b c k r) (U0 R b c k r)
end
end
end
noncomputable section
section
variable {sc:Nat->Option (List Int)} {n d a:Nat} {V:Yp} {cb:Nat->jc->wb->Wk} {O:Or}
def ef(N:Nat):Or:=(((((((((Or.nil.c 444 WH).v 456 IQ).v 461 CV).c 466 XH).r 432 VH).r 425 UH).c 476 (ZH N)).r 197 IH).c 232 KH).c 218 JH
theorem q9:yh (ef 5000) (Mb db Ib qc (n+10) sc) cb:=(((((((((yh.nil.c a9).v c9).v d9).c f9).r Z8).r Y8).c j9).r H8).c K8).c J8
noncomputable def xp(X:List W)(i:Int):OF:=⟨Y,[("cells",.l X),("at",.int i)]⟩
abbrev rest(i:Nat):List SF:=lJ.body.drop i
variable {R:Type} (N:Nat) (q:W) (X:List W) (i:Int) (k:Fk->Option R)
noncomputable abbrev OZ:jc:=[J q,J (.ref 0),Y,Y,Y,Y,Y,Y,Y,Y,Y,Y,Y,Y,Y,Y]
noncomputable abbrev qcF(b:W):jc:=[J q,J (.ref 0),J b,Y,Y,Y,Y,Y,Y,Y,Y,Y,Y,Y,Y,Y]
noncomputable abbrev s8(b:W)(c:List W):jc:=[J q,J (.ref 0),J b,J (.l c),Y,Y,Y,Y,Y,Y,Y,Y,Y,Y,Y,Y]
theorem qdb:Ug (ef N) (rest 1) (OZ q) [xp X i] k=jk X i 3 λz i=>Ug (ef N) (rest 2) (qcF q (.int (1+z))) [xp X i] k:=by kernel_rfl!
def WG{R:Type}(X:List W)(_:W)(i:Int)(k:List W->Int->Option R):Option R:=jk X i 7 λz i=>k [.int (1+z)] i
theorem qdc(c:Int):Ug (ef N) (rest 2) (qcF q (.int c)) [xp X i] k=Xd c λe=>gk (WG X) e i λg i=>M (Kd 4096 g) (Ug (ef N) (rest 3) (s8 q (.int c) g) [xp X i] k) Y:=
 dn (b:=Xd c λe=>gt (λv h j=>gm (.x 17) v (qcF q (.int c)++Ia 2 Y) λf=>hK (ef N) (.bin .Add (.int 1) (.call (.k (.ref 444)) [.x 1,.int 7])) f h λp=>M (nb p.1) (j ([p.1],p.2)) Y) e [xp X i] λp=>M (Kd 4096 p.1) (Ug (ef N) (rest 3) (s8 q (.int c) p.1) p.2 k) Y) (by kernel_rfl!)
  (Gc (Xd c) (funext λe=>Zu (eH:=λi=>[xp X i]) (gP:=WG X) (λv i k=>by kernel_rfl!) e i _))
def qbu{R:Type}(m v:W)(k:Bool->Option R):Option R:=H (Ua v) λy=>H (nU 2 y) λz=>H (Ua m) λx=>H (NS x z) λq=>H (Hz q 2) λr=>k (Rp r 1)
def YN{R:Type}(m:W)(k:List W->Option R):Option R:=Xd 3 λe=>Ae (λv c=>qbu m v λb=>M b (M (nb v) (c [v]) Y) (c [])) e λb=>M (Kd 4096 b) (k b) Y
def PN{R:Type}(b:List W)(k:List W->Option R):Option R:=M (Kd 4900 b) (Ae (λm c=>YN m λe=>c [.l e]) b λc=>M (Kd 4096 c) (k c) Y) Y
noncomputable def row(v l h:Int):W:=.t [.int v,.int l,.int h]
noncomputable abbrev Y4(e:W)(h j:List W)(v g:Int)(f b:List W)(c:Option W):jc:=[J q,J (.ref 0),J e,J (.l h),J (.int v),J (.l j),J (.o (.l f)),J (.int (0+1)),J (.int g),J (.o (.l b)),c,Y,Y,Y,Y,Y]
noncomputable abbrev PZ(e:W)(j l:List W)(v f g h b c:Option W):jc:=[J q,J (.ref 0),J e,J (.l j),v,J (.l l),f,g,h,b,c,Y,Y,Y,Y,Y]
theorem E9(b:W)(c:List W):Ug (ef N) (rest 3) (s8 q b c) [xp X i] k=PN c λe=>Ug (ef N) (rest 4) (PZ q b c e Y Y Y Y Y Y) [xp X i] k:=by kernel_rfl!
theorem F9(b:W)(c e:List W):Ug (ef N) (rest 4) (PZ q b c e Y Y Y Y Y Y) [xp X i] k=jk X i 3 λv i=>Ug (ef N) (rest 6) (PZ q b c e (J (.int v)) (J (.o (.l []))) Y Y Y Y) [xp X i] k:=by kernel_rfl!
theorem G9(b:W)(e f:List W)(v:Int):Ug (ef N) (rest 6) (PZ q b e f (J (.int v)) (J (.o (.l []))) Y Y Y Y) [xp X i] k=jk X i 3 λg i=>jk X i 3 λh i=>jk X i 3 λc i=>jk X i 3 λj i=>Ug (ef N) (rest 7) (PZ q b e f (J (.int v)) (J (.o (.l [row v g (g+h),row v c (c+j)]))) (J (.int (0+1))) (J (.int c)) Y Y) [xp X i] k:=by kernel_rfl!
theorem H9(b:W)(h j:List W)(v e f c g:Int):Ug (ef N) (rest 7) (PZ q b h j (J (.int v)) (J (.o (.l [row v e f,row v c g]))) (J (.int (0+1))) (J (.int c)) Y Y) [xp X i] k=Ug (ef N) (rest 8) (Y4 q b h j v c [row v e f,row v c g] [row v (max e c) (min f g)] Y) [xp X i] k:=by kernel_rfl!
theorem I9(e:W)(g h c b:List W)(v j:Int):Ug (ef N) (rest 8) (Y4 q e g h v j c b Y) [xp X i] k=jk X i 2 λf i=>M (Rp f 1)
 (H (Hz (v+1) 3) λw=>jk X i 3 λl i=>H (nN 1 (row w 0 l) c) λc=>M (Kd 4096 b) (Ug (ef N) (rest 9) (Y4 q e g h v j c (b++[row w 0 l]) (J (row w 0 l))) [xp X i] k) Y)
 (Ug (ef N) (rest 9) (Y4 q e g h v j c b Y) [xp X i] k):=by kernel_rfl!
def Y5{R:Type}(e c:List W)(k:List W->Option R):Option R:=M (zA [.l e]) (H (IQ [.l e]) λg=>Pf g λh=>Ae (λone f=>M (zA [one,.l c]) (H (CV [one,.l c]) λb=>H (Ii b) λb=>M b (M (nb one) (f [one]) Y) (f [])) Y) h λan=>M (Kd 4096 an) (k an) Y) Y
noncomputable def ZP:List W:=[.str "<=",.str ">=",.str "!=",.str "="]
def r8{R:Type}(b:Int)(X:List W)(i:Int)(k:List W->Int->Option R):Option R:=jk X i b λx i=>jk X i 4 λs i=>H (Lg ZP s) λc=>M (nb c) (jk X i 3 λz i=>k [.int x,c,.int z] i) Y
noncomputable abbrev qcG(g:W)(o p:List W)(v j:W)(h e:List W)(l f:Option W)(an m:List W)(a b c:Option W):jc:=[J q,J (.ref 0),J g,J (.l o),J v,J (.l p),J (.l h),l,J j,J (.l e),f,J (.l an),J (.t m),a,b,c]
theorem qdd(c v g:Int)(l h e b:List W)(f:Option W):Ug (ef N) (rest 9) (Y4 q (.int c) l h v g e b f) [xp X i] k=Y5 h e λan=>r8 c X i λj i=>Ug (ef N) (rest 13) (qcG q (.int c) l h (.int v) (.int g) e b (J (.int (0+1))) f an j Y Y Y) [xp X i] k:=by kernel_rfl!
noncomputable def Kx(p:yK):sr:=(.int (-1),.t p.1,.str "values",p.1,[.t p.2.1,.t p.2.2.1,.t p.2.2.2.1],p.2.2.2.2.1.1,p.2.2.2.2.1.2.1,p.2.2.2.2.1.2.2.1,())
def oi(p:yK):OF:=(Rg.obj 435 J4).wR (Kx p) ()
def DE{R:Type}(p:yK)(k:Option R):Option R:=H (M p.2.2.2.2.2 Y (J ())) λu=>k
def uC{R:Type}(c:yK)(f:List W)(e:Int)(j:wb)(k:Bool->Option R):Option R:=M (qe [Jo c]) (DE c (yX (Kx c) λr=>M (Jd (.t r)) (M (vD 0 e) (H (au (.rng 0 e) j) λg=>M (Kd 4096 g) (bG f j λh=>M (Kd 4096 h) (M (Kd 4096 ([.str "cardinality",.t g]++h)) (H (lk (.t r) (.t ([.str "cardinality",.t g]++h))) λb=>k (!b)) Y) Y) Y) Y) Y)) Y
def Uz{R:Type}(m:Nat)(c:yK)(f an:List W)(k:Bool->Option R):Option R:=M (zA [.l f]) (H (IQ [.l f]) λh=>Pf h λj=>Ae (λone g=>M (nb one) (H (ul (m+1) one) λe=>M (qe [Jo c]) (DE c (gz (Kx c,()) e λw=>M (Jd w) (H (yA one (.l an)) λb=>H (Oh w (.bool b)) λr=>M r (M (nb one) (g [one]) Y) (g [])) Y)) Y) Y) j λe=>M (Kd 4096 e) (H (lk (.l e) (.l [])) λb=>k (!b)) Y) Y
def Nn{R:Type}(N m:Nat)(s:Gf)(c:OF)(f:sr)(e:Option R->Option R)(an:List W)(k:Bool->Gf->Option R):Option R:=H (ul m (.l an)) λa=>M (qe [ah s,c]) (H (El a) λan=>e (AL N f s an λw s j=>M (Jd w) (M (qe [ah s,(Rg.obj 435 J4).wR f ()]) (H (Ii w) λb=>k (!b) s) Y) Y)) Y
end
end
noncomputable section
section
abbrev bt(i:Nat):List SF:=((lJ.body.drop 13).flatMap JD).drop i
variable {R:Type} (N:Nat) (q:W) (K F E:OF) (k:Fk->Option R) (T:Int) (G I Q X S an P:List W) (v L:W) (O V a b:Option W) (s:Gf) (c:yK)
noncomputable abbrev mT(x y:Option W):jc:=qcG q (.int T) G I v L Q X O V an P (J (.l S)) x y
noncomputable def TB(d:wb)(k:Fk->Option R):Option R:=k (.ret (.bool ta) d)
theorem qfn:Ug (ef N) (bt 0) (mT q T G I Q X S an P v L O V a b) [K] k=ut [K] 1 I S λs c=>Ug (ef N) (bt 1) (mT q T G I Q X S an P v L O V (J (.ref 1)) (J (.ref 2))) [K,ah s,Jo c] k:=by kernel_rfl!
theorem qfo:Ug (ef N) (bt 0) (mT q T G I Q X S an P v L O V a b) [K,F,E] k=ut [K,F,E] 3 I S λs c=>Ug (ef N) (bt 1) (mT q T G I Q X S an P v L O V (J (.ref 3)) (J (.ref 4))) [K,F,E,ah s,Jo c] k:=by kernel_rfl!
noncomputable abbrev m1:jc:=mT q T G I Q X S an P v L O V (J (.ref 1)) (J (.ref 2))
noncomputable abbrev m3:jc:=mT q T G I Q X S an P v L O V (J (.ref 3)) (J (.ref 4))
theorem qfp:Ug (ef N) (bt 1) (m1 q T G I Q X S an P v L O V) [K,ah s,Jo c] k=uC c S T [K,ah s,Jo c] λr=>M r (TB [K,ah s,Jo c] k) (Ug (ef N) (bt 2) (m1 q T G I Q X S an P v L O V) [K,ah s,Jo c] k):=by kernel_rfl!
theorem qfq:Ug (ef N) (bt 1) (m3 q T G I Q X S an P v L O V) [K,F,E,ah s,Jo c] k=uC c S T [K,F,E,ah s,Jo c] λr=>M r (TB [K,F,E,ah s,Jo c] k) (Ug (ef N) (bt 2) (m3 q T G I Q X S an P v L O V) [K,F,E,ah s,Jo c] k):=by kernel_rfl!
theorem qfr:Ug (ef N) (bt 2) (m1 q T G I Q X S an P v L O V) [K,ah s,Jo c] k=Uz 1 c I an λr=>M r (TB [K,ah s,Jo c] k) (Ug (ef N) (bt 3) (m1 q T G I Q X S an P v L O V) [K,ah s,Jo c] k):=by kernel_rfl!
theorem qfs:Ug (ef N) (bt 2) (m3 q T G I Q X S an P v L O V) [K,F,E,ah s,Jo c] k=Uz 3 c I an λr=>M r (TB [K,F,E,ah s,Jo c] k) (Ug (ef N) (bt 3) (m3 q T G I Q X S an P v L O V) [K,F,E,ah s,Jo c] k):=by kernel_rfl!
theorem qft:Ug (ef N) (bt 3) (m1 q T G I Q X S an P v L O V) [K,ah s,Jo c] k=Nn N 1 s (Jo c) (Kx c) (DE c) an λr s=>M r (TB [K,ah s,oi c] k) (Ug (ef N) (bt 4) (m1 q T G I Q X S an P v L O V) [K,ah s,oi c] k):=by kernel_rfl!
theorem qfu:Ug (ef N) (bt 3) (m3 q T G I Q X S an P v L O V) [K,F,E,ah s,Jo c] k=Nn N 3 s (Jo c) (Kx c) (DE c) an λr s=>M r (TB [K,F,E,ah s,oi c] k) (Ug (ef N) (bt 4) (m3 q T G I Q X S an P v L O V) [K,F,E,ah s,oi c] k):=by kernel_rfl!
def QB{R:Type}(m:Nat)(P:List W)(s:Gf)(c:OF)(k:Bool->Option R):Option R:=M (!s.bad) (H (ul m (.t P)) λl=>M (qe [ah s,c]) (H (ng l) λI=>gN I s λw=>M (Jd w) (H (lk w (.int 0)) k) Y) Y) (k ta)
def nM{R:Type}(m:Nat)(P:List W)(s:Gf)(c:OF)(k:Gf->Option R):Option R:=M (qe [ah s,c]) (jP s λs=>M (qe [ah s,c]) (H (ul m (.t P)) λl=>M (qe [ah s,c]) (H (ng l) λI=>vp I .none (.int (-1)) (λs=>[ah s,c]) s λt=>M (qe [ah t.2,c]) (k t.2) Y) Y) Y) Y
theorem qfv:Ug (ef N) (bt 4) (m1 q T G I Q X S an P v L O V) [K,ah s,oi c] k=QB 1 P s (oi c) λr=>M r (nM 1 P s (oi c) λs=>Nn N 1 s (oi c) (Kx c) (λz=>z) an λr s=>M r (TB [K,ah s,oi c] k) (k (.go (m1 q T G I Q X S an P v L O V) [K,ah s,oi c]))) (k (.go (m1 q T G I Q X S an P v L O V) [K,ah s,oi c])):=by kernel_rfl!
theorem qfw:Ug (ef N) (bt 4) (m3 q T G I Q X S an P v L O V) [K,F,E,ah s,oi c] k=QB 3 P s (oi c) λr=>M r (nM 3 P s (oi c) λs=>Nn N 3 s (oi c) (Kx c) (λz=>z) an λr s=>M r (TB [K,F,E,ah s,oi c] k) (k (.go (m3 q T G I Q X S an P v L O V) [K,F,E,ah s,oi c]))) (k (.go (m3 q T G I Q X S an P v L O V) [K,F,E,ah s,oi c])):=by kernel_rfl!
theorem qde:Ug (ef N) (rest 13) (qcG q (.int T) G I v L Q X O V an P Y Y Y) [K] k=Ug (ef N) (bt 0) (mT q T G I Q X Q an P v L O V Y Y) [K] λr=>Fk.rec (λe d=>il (.x 13) (.l X) e λe=>Ug (ef N) (bt 0) e d λr=>Fk.rec (λu d=>k (.ret (.bool Z) d)) (λw d=>k (.ret w d)) r) (λw d=>k (.ret w d)) r:=by kernel_rfl!
end
end
section
variable {b o:Int} {w i Q O:W} {X P able V lows:List W} {h:Be} {m:M1} {c:DW} {N:Nat} {σ:Be->wb}
def Nt{S:Type}(f:(R:Type)->(S->Option R)->Option R):Prop:=∀(R:Type)(k:S->Option R),f R k=H (f S J) k
section
variable {S T A B K L:Type}
theorem OI{d e j:Type}{o:Option d}{f:d->Option e}{g:e->Option j}:H (H o f) g=H o λa=>H (f a) g:=by induction o<;>rfl
theorem Nt.ret{s:S}:Nt (λR k=>k s):=λu u=>rfl
theorem Nt.no:Nt (S:=S) (λR k=>Y):=λu u=>rfl
theorem Nt.wV{o:Option A}{f:A->(R:Type)->(S->Option R)->Option R}(h:∀a,Nt (f a)):Nt (λR k=>Mine.Internal.H o λa=>f a R k):=λR k=>by
 induction o with
 |none=>rfl|some a=>exact h a R k
theorem Nt.iff{b:Bool}{f g:(R:Type)->(S->Option R)->Option R}(h:Nt f)(a:Nt g):Nt (λR k=>Mine.Internal.M b (f R k) (g R k)):=λR k=>by
 induction b with
 |true=>exact h R k|false=>exact a R k
theorem Nt.seq{f:(R:Type)->(S->Option R)->Option R}{g:S->(R:Type)->(T->Option R)->Option R}(a:Nt f)(d:∀s,Nt (g s)):Nt (λR k=>f R λs=>g s R k):=λR k=>by
 show f R _=Mine.Internal.H (f T _) k
 exact U (a R _) (U (a T _) (U OI (Gc _ (funext λs=>d s R k))))
theorem Nt.seq2{f:(R:Type)->(A->B->Option R)->Option R}{g:A->B->(R:Type)->(T->Option R)->Option R}(d:Nt λR k=>f R λa b=>k (a,b))(e:∀a b,Nt (g a b)):Nt (λR k=>f R λa b=>g a b R k):=Nt.seq (f:=λR k=>f R λa b=>k (a,b)) (g:=λs=>g s.1 s.2) d λs=>e s.1 s.2
theorem Nt.comp{g:(R:Type)->W->(List W->Option R)->Option R}(h:∀v,Nt λR k=>g R v k):∀X,Nt (λR k=>Ae (g R) X k):=by
 intro X
 induction X with
 |nil=>
  exact Nt.ret
 |cons x X d=>
  exact Nt.seq (f:=λR k=>g R x k) (h x) λa=>Nt.seq (f:=λR k=>Ae (g R) X k) (d) λb=>Nt.ret
theorem Nt.fold{g:(R:Type)->W->K->L->(K->L->Option R)->Option R}(h:∀v m s,Nt λR k=>g R v m s λm s=>k (m,s)):∀X m s,Nt (λR k=>nh (g R) X m s λm s=>k (m,s)):=by
 intro X
 induction X with
 |nil=>
  rintro m s;exact Nt.ret
 |cons x X a=>
  rintro m s;exact Nt.seq2 (f:=λR k=>g R x m s k) (h x m s) λm s=>a m s
theorem Nt.wh{t:(R:Type)->K->L->(Bool->Option R)->Option R}{g:(R:Type)->K->L->(K->L->Option R)->Option R}(a:∀m s,Nt λR k=>t R m s k)(h:∀m s,Nt λR k=>g R m s λm s=>k (m,s)):∀n m s,Nt (λR k=>o5 (t R) (g R) n m s λm s=>k (m,s)):=by
 intro n
 induction n with
 |zero=>
  rintro m s;exact Nt.no
 |succ n d=>
  rintro m s;exact Nt.seq (f:=λR k=>t R m s k) (a m s) λb=>Nt.iff (Nt.seq2 (f:=λR k=>g R m s k) (h m s) λm s=>d m s) Nt.ret
theorem Nt.whP{t:(R:Type)->K->L->(Bool->Option R)->Option R}{g:(R:Type)->K->L->(Fw K L->Option R)->Option R}(a:∀m s,Nt λR k=>t R m s k)(h:∀m s,Nt λR k=>g R m s k):∀n m s,Nt (λR k=>Mine.Internal.u5 (t R) (g R) n m s k):=by
 intro n
 induction n with
 |zero=>
  rintro m s;exact Nt.no
 |succ n d=>
  rintro m s;exact Nt.seq (f:=λR k=>t R m s k) (a m s) λb=>Nt.iff (Nt.seq (f:=λR k=>g R m s k) (g:=λr R k=>Fw.rec (λm s=>Mine.Internal.u5 (t R) (g R) n m s k) (λw s=>k (.ret w s)) r) (h m s) λr=>by
   induction r with
   |go m s=>exact d m s|ret w s=>exact Nt.ret) Nt.ret
theorem Nt.foldP{g:(R:Type)->W->K->L->(Fw K L->Option R)->Option R}(h:∀v m s,Nt λR k=>g R v m s k):∀X m s,Nt (λR k=>Mine.Internal.Kg (g R) X m s k):=by
 intro X
 induction X with
 |nil=>
  rintro m s;exact Nt.ret
 |cons x X a=>
  rintro m s;exact Nt.seq (f:=λR k=>g R x m s k) (g:=λr R k=>Fw.rec (λm s=>Mine.Internal.Kg (g R) X m s k) (λw s=>k (.ret w s)) r) (h x m s) λr=>by
   induction r with
   |go m s=>exact a m s|ret w s=>exact Nt.ret
theorem Nt.fw{f:K->L->(R:Type)->(T->Option R)->Option R}{g:W->L->(R:Type)->(T->Option R)->Option R}(a:∀m s,Nt (f m s))(d:∀w s,Nt (g w s))(r:Fw K L):Nt (λR k=>Fw.rec (λm s=>f m s R k) (λw s=>g w s R k) r):=by
 induction r with
 |go m s=>exact a m s|ret w s=>exact d w s
end
theorem Jq{n:Int}:Nt (λR k=>Xd (R:=R) n k):=.iff (.iff .ret .no) .no
theorem Mz:Nt (λR k=>Pf (R:=R) w k):=λR k=>by induction w using W.casesOn<;>first|rfl|(exact Nt.iff (f:=λR k=>k _) .ret .no R k)
theorem Oz{a:List W}:Nt (λR k=>Lp (R:=R) X a i λx y=>k (x,y)):=.wV λu=>.wV λu=>.wV λu=>.wV λu=>.wV λu=>.wV λu=>.ret
theorem FE{z:Int->Int}:Nt (λR k=>QR (R:=R) X i z k):=.wV λu=>.wV λu=>.wV λu=>.wV λu=>λu u=>by induction du X _ _<;>rfl
theorem iH:Nt (λR k=>UO (R:=R) w λa b=>k (a,b)):=.iff (.wV λu=>.wV λu=>.wV λu=>.iff .ret .no) .no
theorem GE:Nt (λR k=>Il (R:=R) P o k):=by
 delta Il
 exact .seq Jq λX=>.seq (.comp (λv=>.wV λu=>.wV λu=>.wV λu=>.iff (.iff .ret .no) .ret) X) λa=>.iff .ret .no
theorem MB:Nt (λR k=>jt (R:=R) w h k):=.iff (.wV λo=>.seq GE λw=>Mz) .no
theorem sO:Nt (λR k=>nH (R:=R) able b m h λm h=>k (m,h)):=by
 delta nH
 exact .wV λr=>.seq Mz λX=>.fold (λv m h=>.wV λi=>.iff (.iff (.iff .ret .no) .no) .no) X m h
theorem uO{m:M3}:Nt (λR k=>pH (R:=R) c m h λm h=>k (m,h)):=by
 delta pH
 exact .wh (λm h=>.wV λx=>.ret) (λm h=>.wV λi=>.wV λw=>.seq2 iH λa b=>.iff (.iff (.wV λx=>.wV λd=>.iff .ret .no) .no) .no) 5000 m h
theorem xO{a:W}:Nt (λR k=>rH (R:=R) able Q a m h λm h=>k (m,h)):=by
 delta rH
 exact .wV λi=>.wV λr=>.seq Mz λX=>.fold (λv m h=>.wV λx=>.iff (.iff (.iff (.wV λi=>.iff (.iff (.iff .ret .no) .no) .no) .no) .no) .ret) X m h
theorem rO{v:W}{m:M4}:Nt (λR k=>CG (R:=R) able Q v m h λm h=>k (m,h)):=by
 delta CG
 exact .seq2 xO λm h=>.ret
theorem vO{m:M4}:Nt (λR k=>qH (R:=R) able Q m h λm h=>k (m,h)):=by
 delta qH
 exact .seq MB λX=>.fold (λv m h=>rO) X m h
theorem tO{m:M2}:Nt (λR k=>oH (R:=R) able V m h k):=by
 delta oH
 exact .whP (λm h=>.ret) (λm h=>.wV λa=>.iff (.seq2 Oz λx y=>.iff (.seq FE λd=>.seq2 uO λm h=>.ret) (.seq2 vO λm h=>.ret)) .no) 5000 m h
theorem HO:Nt (λR k=>Vv (R:=R) able V b h λw h=>k (w,h)):=by
 delta Vv
 exact .seq2 sO λm h=>.seq tO λr=>.fw (λm h=>.wV λX=>.iff .ret .no) (λw h=>.ret) r
theorem AO{m:M6}:Nt (λR k=>sH (R:=R) N w c m h λm h=>k (m,h)):=by
 delta sH
 exact .wh (λm h=>.wV λx=>.ret) (λm h=>.wV λi=>.wV λw=>.seq2 iH λa b=>.iff (.iff (.wV λx=>.wV λd=>.ret) .no) .no) N m h
theorem gU{o:W}:Nt (λR k=>HB (R:=R) N o w c h λw h=>k (w,h)):=by
 delta HB
 exact .seq FE λa=>.seq FE λa=>.seq2 AO λu h=>.ret
theorem zO{m:M7}:Nt (λR k=>WB (R:=R) able lows O Q σ m h k):=by
 delta WB
 exact .seq Jq λX=>.foldP (λv m h=>.wV λi=>.wV λo=>.iff (.wV λi=>.wV λr=>.wV λc=>.wV λb=>.iff (.wV λx=>.iff (.iff (.iff (.wV λi=>.iff (.iff (.iff (.seq2 Oz λx y=>.iff (.iff (.iff (.seq2 gU λw h=>.wV λu=>.ret) .no) .no) .ret) .no) .no) .no) .no) .no) .ret) .ret) .no) X m h
theorem yO{m:M8}:Nt (λR k=>UB (R:=R) N able lows O σ m h k):=by
 delta UB
 exact .whP (λm h=>.ret) (λm h=>.wV λa=>.iff (.seq zO λr=>.fw (λm h=>.ret) (λw h=>.ret) r) .no) N m h
theorem fU{w:Int}:Nt (λR k=>sq (R:=R) N able lows w σ h λw h=>k (w,h)):=by
 delta sq
 exact .seq yO λr=>.fw (λm h=>.wV λX=>.iff .ret .no) (λw h=>.ret) r
theorem DO{m:M9}:Nt (λR k=>uH (R:=R) able w m h λm h=>k (m,h)):=by
 delta uH
 exact .seq MB λX=>.fold (λv m h=>.wV λi=>.wV λr=>.iff (.wV λa=>.iff .ret .no) .no) X m h
theorem EO{f:List W}:Nt (λR k=>vH (R:=R) f m h λm h=>k (m,h)):=by
 delta vH
 exact .iff (.fold (λv m h=>.wV λx=>.iff (.wV λi=>.iff (.iff (.iff .ret .no) .no) .no) .ret) f m h) .no
theorem Nz{m:jR}{r:Bool}{f:List W}:Nt (λR k=>pC (R:=R) able w m r f h λm h=>k (m,h)):=by
 delta pC
 exact .seq2 DO λm h=>.seq2 EO λm h=>.ret
theorem JO:Nt (λR k=>cF (R:=R) lows h k):=by
 delta cF
 exact .seq Jq λX=>.seq (.comp (λv=>.seq2 Oz λx y=>.iff (.iff .ret .no) .ret) X) λa=>.iff .ret .no
theorem BO{m:jR}:Nt (λR k=>tH (R:=R) N able lows V m h λm h=>k (m,h)):=by
 delta tH
 exact .wh (λm h=>.ret) (λm h=>.wV λa=>.iff (.iff (.seq2 Oz λx y=>.iff (.seq JO λd=>.iff Nz .no) Nz) Nz) .no) N m h
theorem HE:Nt (λR k=>Sl (R:=R) N able lows V o h λf r h=>k (f,r,h)):=by
 delta Sl
 exact .seq2 BO λm h=>.wV λX=>.iff .ret .no
theorem qO{d e:List W}{σ:wb}:Nt (λR k=>bp (R:=R) d able P e o σ k):=by
 delta bp
 exact .seq Jq λf=>.seq (.comp (λv=>.wV λi=>.wV λr=>.wV λc=>.wV λb=>.iff (.wV λi=>.wV λa=>.wV λx=>.wV λb=>.iff (.iff .ret .no) .ret) .ret) f) λa=>.iff .ret .no
end
noncomputable section
def qeq(b a:List W)(i:Int)(h:Be):Option (W×Be):=Vv b a i h λw h=>J (w,h)
def qaG(a b:List W)(i:Int)(h:Be):Option (W×Be):=sq 5000 a b i (λu=>[]) h λw h=>J (w,h)
def qaQ(b c a:List W)(o:Int)(h:Be):Option (List W×Bool×Be):=Sl 5000 b c a o h λf r h=>J (f,r,h)
def qdA(a c d b:List W)(o:Int):Option (List W):=bp a c d b o [] J
def XO(c a:List W)(d:List W):Be->Option (Bool×W×Be):=ic (motive:=λu=>Be->Option (Bool×W×Be)) (λh=>J (Z,.none,h)) (λv u e h=>H (Ua v) λi=>H (qeq c a i h) λr=>H (Oh r.1 .none) λb=>M b (J (ta,r.1,r.2)) (e r.2)) d
def kB(c a:List W)(v:W)(i:Int)(n:Nat):Be->Option (Bool×W×Be):=vn (motive:=λu=>Be->Option (Bool×W×Be)) (λu=>Y) (λu d h=>Lp h.co a v λx z=>M (Ph x z) (H (qaG c a i h) λr=>H (Oh r.1 .none) λb=>M b (J (ta,r.1,r.2)) (d r.2)) (J (Z,.none,h))) n
def NM(a b:List W)(os:List W):Be->Option (Bool×W×Be):=ic (motive:=λu=>Be->Option (Bool×W×Be)) (λh=>J (Z,.none,h)) (λv u c h=>H (Ua v) λi=>H (kB a b v i 10 h) λr=>M r.1 (c r.2.2) (J r)) os
noncomputable def Lb(m:Nat):List Nat:=Sa m [] λm=>Sa m [0] λm=>Sa m [1] λm=>Sa m [0,1] λm=>Sa m [2] λm=>Sa m [0,2] λm=>Sa m [1,2] λu=>[0,1,2]
noncomputable def Cb(a:List Nat):List W:=ic [] (λx u b=>.int (.ofNat x)::b) a
def ci(a:List Nat):List W:=ic [] (λr u b=>.l (Cb (Lb r))::b) a
def lp(o:Nat)(b:List Nat):Nat:=ic 0 (λx u a=>M (Rb x o) (pc a) a) b
def qem(lo a b:List Nat):Bool:=ic (motive:=λu=>Nat->List Nat->Bool) (λu u=>Z) (λl u c o a=>ic Z (λh a u=>M (fh l (lp o b)) (M (fh (lp o b) h) (c (pc o) a) ta) ta) a) lo 0 a
def Ym(lo b:List Nat)(c:List Nat):List Nat->Bool:=ic (motive:=λu=>List Nat->Bool) (λa=>qem lo b a) (λr u d a=>ic ta (λo u z=>M (d (o::a)) Z z) (Lb r)) c
noncomputable def Hi(o:Nat):Nat:=Sa o 1 λo=>Sa o 2 λu=>4
def Ze(o:Nat)(a:List Nat):Bool:=ic ta (λx u b=>M (Rb x o) Z b) a
def gq(lo d:List Nat)(o:Nat)(b:List Nat):List Nat->Nat->List Nat:=ic (motive:=λu=>List Nat->Nat->List Nat) (λu u=>[]) (λr b c a k=>M (Ze o (Lb r)) (M (Ym lo d (a++Hi o::b) []) (c (a++[r]) (pc k)) (k::c (a++[r]) (pc k))) (c (a++[r]) (pc k))) b
def qbH(b:List Int):List Nat->Bool:=ic (motive:=λu=>List Nat->Bool) (λa=>ic Z (λu u u=>ta) a) (λx u c a=>ic ta (λy a u=>M (Rp x (.ofNat y)) (c a) ta) a) b
def pN(a:List W):Option (List Int):=H (Fv a) λis=>M (fh (len is) 4) (J is) Y
def qcD(w:W):Option (List Int):=H (El w) pN
def uL(n:Nat)(is:List Int):Bool:=ic Z (λi u a=>M (!Ph i 0) (M (Ph i (.ofNat n)) a ta) ta) is
def UL(a b d c:List W)(lo e f:List Nat)(os:List Nat):Be->Option Bool:=ic (motive:=λu=>Be->Option Bool) (λu=>J (Ym lo e f [])) (λo u g h=>H (qaQ b d c (.ofNat o) h) λr=>H (pN r.1) λu=>H (pN r.2.2.at) λas=>M (Rb (len as) (len a)) (H (qdA a b r.2.2.at r.1 (.ofNat o)) λi=>H (Fv i) λis=>M (qbH is (gq lo e o f [] 0)) (g r.2.2) Y) Y) os
def bad(lo b a:List Nat)(n:Nat)(r:Bool×W×Be):Option Bool:=H (qcD r.2.1) λis=>M (uL n is) (H (pN r.2.2.at) λas=>M (Rb (len as) (len a)) (J (!Ym lo b a [])) Y) Y
def chk(lo b a:List Nat)(n:Nat)(os:List Nat):Option Bool:=
 H (XO (ci a) (Cb (b++[n+1])) (qw n 0) (.mk (Ia n (.int (-1))) (Ia (len os) (.int 0)))) λr=>M r.1 (H (NM (ci a) (Cb (lo++[0])) (qw (len lo) 0) r.2.2) λr=>M r.1 (UL (qw n 0) (ci a) (Cb (lo++[0])) (Cb (b++[n+1])) lo b a os r.2.2) (bad lo b a (len lo) r)) (bad lo b a (len os) r)
noncomputable def yes(o:Option Bool):Bool:=Pp ta (λb=>b) o
def MA(f:Nat->Bool)(n:Nat):Bool:=vn Z (λk a=>M (f (pc k)) a ta) n
def Po(lo d os:List Nat)(z:Nat):Bool:=M (MA (λa=>yes (chk lo d [a] 1 os)) z) (M (MA (λa=>MA (λb=>yes (chk lo d [a,b] 2 os)) z) z) (MA (λa=>MA (λb=>MA (λc=>yes (chk lo d [a,b,c] 3 os)) z) z) z) ta) ta
theorem qbz:Po [1,0] [2,1] [0,1,2] 7=Z:=by decide+kernel
theorem qbA:Po [1] [2] [0,1] 3=Z:=by decide+kernel
end
def ql(l h:Nat):Bool:=M (Po [l] [h] [0,1] 3) (M (Po [l,0] [h,0] [0,1,2] 7) (M (Po [l,0] [h,1] [0,1,2] 7) (Po [l,0] [h,2] [0,1,2] 7) ta) ta) ta
theorem uY:ql 0 0=Z:=by decide+kernel
theorem vY:ql 0 1=Z:=by decide+kernel
theorem xY:ql 0 2=Z:=by decide+kernel
theorem yY:ql 0 3=Z:=by decide+kernel
theorem zY:ql 0 4=Z:=by decide+kernel
theorem AY:ql 1 1=Z:=by decide+kernel
theorem BY:ql 1 2=Z:=by decide+kernel
theorem CY:ql 1 3=Z:=by decide+kernel
theorem DY:ql 1 4=Z:=by decide+kernel
theorem EY:ql 2 2=Z:=by decide+kernel
theorem FY:ql 2 3=Z:=by decide+kernel
theorem GY:ql 2 4=Z:=by decide+kernel
theorem n7:∀p∈[(0,0),(0,1),(0,2),(0,3),(0,4),(1,1),(1,2),(1,3),(1,4),(2,2),(2,3),(2,4)],ql p.1 p.2=Z:=Zb.mpr ⟨uY,Zb.mpr ⟨vY,Zb.mpr ⟨xY,Zb.mpr ⟨yY,Zb.mpr ⟨zY,Zb.mpr ⟨AY,Zb.mpr ⟨BY,Zb.mpr ⟨CY,Zb.mpr ⟨DY,Zb.mpr ⟨EY,Zb.mpr ⟨FY,Zb.mpr ⟨GY,λu z=>nomatch z⟩⟩⟩⟩⟩⟩⟩⟩⟩⟩⟩⟩
section
variable {b:Bool} {P:Nat->Prop}
section
variable {X V:Type}
theorem Kb{o:Option X}{a:X}{f:X->Option V}(h:o=J a):H o f=f a:=h▸rfl
theorem Db{x y:X}(h:b=Z):M b x y=x:=h▸rfl
theorem fi{x y:X}(h:b=ta):M b x y=y:=h▸rfl
theorem aJ{R:Type}{g:W->(List W->Option R)->Option R}{f:W->List W}{a:List W}:(∀v∈a,∀k,g v k=k (f v))->∀k,Ae g a k=k (a.flatMap f):=by
 induction a with
 |nil=>exactλu k=>rfl|cons x a c=>exactλh k=>(h x sa _).trans (c (λv d=>h v (oa _ d)) _)
end
noncomputable section
def Lw(m:Nat):List W:=Cb (Lb m)
noncomputable def pr(a b:Nat):W:=.t [.int (.ofNat a),.int (.ofNat b)]
def Dn(m:Nat):W:=.t (Sa m [] λm=>Sa m [pr 0 0] λm=>Sa m [pr 1 1] λm=>Sa m [pr 0 1] λm=>Sa m [pr 2 2] λm=>Sa m [pr 0 0,pr 2 2] λm=>Sa m [pr 1 2] λu=>[pr 0 2])
end
inductive Mk:Nat->Prop
 |m1:Mk 1|m2:Mk 2|m3:Mk 3|m4:Mk 4|m5:Mk 5|m6:Mk 6|m7:Mk 7
inductive V3:Nat->Prop
 |v0:V3 0|v1:V3 1|v2:V3 2
theorem Mk.of{m:Nat}(h:1<=m)(k:m<=7):Mk m:=by
 rcases m with _|_|_|_|_|_|_|_|m
 ·exact zc h (fc 0)
 ·exact .m1
 ·exact .m2
 ·exact .m3
 ·exact .m4
 ·exact .m5
 ·exact .m6
 ·exact .m7
 ·exact zc k (nL.mpr (We 8 _))
theorem V3.of:{v:Nat}->v<3->V3 v
 |0,u=>.v0|1,_=>.v1|2,_=>.v2|u+3,h=>zc h (Vd.mpr (We 3 _))
theorem Mk.all(h:P 1/\P 2/\P 3/\P 4/\P 5/\P 6/\P 7){m:Nat}(a:Mk m):P m:=
 a.rec (motive:=λm u=>P m) h.1 h.2.1 h.2.2.1 h.2.2.2.1 h.2.2.2.2.1 h.2.2.2.2.2.1 h.2.2.2.2.2.2
theorem V3.all(h:P 0/\P 1/\P 2){u:Nat}(a:V3 u):P u:=
 a.rec (motive:=λu y=>P u) h.1 h.2.1 h.2.2
theorem Mk.all2{P:Nat->Nat->Prop}(c:P 1 0/\P 2 0/\P 3 0/\P 4 0/\P 5 0/\P 6 0/\P 7 0)(d:P 1 1/\P 2 1/\P 3 1/\P 4 1/\P 5 1/\P 6 1/\P 7 1)(e:P 1 2/\P 2 2/\P 3 2/\P 4 2/\P 5 2/\P 6 2/\P 7 2){m u:Nat}(a:Mk m)(f:V3 u):P m u:=
 V3.all (P:=λu=>P m u) ⟨Mk.all (P:=λm=>P m 0) c a,Mk.all (P:=λm=>P m 1) d a,Mk.all (P:=λm=>P m 2) e a⟩ f
def qp(m u:Nat):Nat:=M (Ze u (Lb m)) (m - Hi u) m
def o8(m:Nat)(f:Nat->Bool):Nat:=M (Ze 0 (Lb m)) (M (f 0) 1 0) 0+(M (Ze 1 (Lb m)) (M (f 1) 2 0) 0+M (Ze 2 (Lb m)) (M (f 2) 4 0) 0)
noncomputable def N9(s z u:Nat):Bool:=Sa s (fh u z) λs=>Sa s (fh z u) λs=>Sa s (!Rb u z) λy=>Rb u z
def Wh(s m z:Nat):Nat:=o8 m (N9 s z)
noncomputable def Ct(s:Nat):W:=Sa s (.str "<=") λs=>Sa s (.str ">=") λs=>Sa s (.str "!=") λu=>.str "="
inductive S4:Nat->Prop
 |s0:S4 0|s1:S4 1|s2:S4 2|s3:S4 3
theorem S4.of:{v:Nat}->v<4->S4 v
 |0,u=>.s0|1,_=>.s1|2,_=>.s2|3,_=>.s3|u+4,h=>zc h (Vd.mpr (We 4 _))
theorem S4.all(h:P 0/\P 1/\P 2/\P 3){u:Nat}(a:S4 u):P u:=
 a.rec (motive:=λu y=>P u) h.1 h.2.1 h.2.2.1 h.2.2.2
variable {R:Type} {m u s:Nat} {x:Int}
theorem RT(k:List W->Option R):Mk m->YN (.int (.ofNat m)) k=k (Lw m):=Mk.all (P:=λm=>YN (.int (.ofNat m)) k=k (Lw m)) (by and_intros<;>kernel_rfl!)
theorem BV:Mk m->HQ [.l (Lw m)]=J (Dn m):=Mk.all (P:=λm=>HQ [.l (Lw m)]=J (Dn m)) (by and_intros<;>kernel_rfl!)
theorem A3:Mk m->qba [Dn m]=J (.l (Lw m)):=Mk.all (P:=λm=>qba [Dn m]=J (.l (Lw m))) (by and_intros<;>kernel_rfl!)
theorem IV(a:wb)(k:List W->Option R):Mk m->KQ a (Dn m) k=k (Lw m):=Mk.all (P:=λm=>KQ a (Dn m) k=k (Lw m)) (by and_intros<;>kernel_rfl!)
theorem j3:Mk m->qaY [Dn m]=J (.int (.ofNat (len (Lb m)))):=Mk.all (P:=λm=>qaY [Dn m]=J (.int (.ofNat (len (Lb m))))) (by and_intros<;>kernel_rfl!)
theorem w3:Mk m->V3 u->qaZ [Dn m,.int (.ofNat u)]=J (.bool (Ze u (Lb m))):=Mk.all2 (P:=λm u=>qaZ [Dn m,.int (.ofNat u)]=J (.bool (Ze u (Lb m)))) (by and_intros<;>kernel_rfl!) (by and_intros<;>kernel_rfl!) (by and_intros<;>kernel_rfl!)
theorem HV:Mk m->V3 u->JK [.t [.int x,.str "!=",.int (.ofNat u)],Dn m]=J (Dn (qp m u)):=Mk.all2 (P:=λm u=>JK [.t [.int x,.str "!=",.int (.ofNat u)],Dn m]=J (Dn (qp m u))) (by and_intros<;>kernel_rfl!) (by and_intros<;>kernel_rfl!) (by and_intros<;>kernel_rfl!)
theorem GV(d:S4 s)(a:Mk m)(c:V3 u):JK [.t [.int x,Ct s,.int (.ofNat u)],Dn m]=J (Dn (Wh s m u)):=
 S4.all (P:=λs=>JK [.t [.int x,Ct s,.int (.ofNat u)],Dn m]=J (Dn (Wh s m u))) ⟨Mk.all2 (P:=λm u=>JK [.t [.int x,Ct 0,.int (.ofNat u)],Dn m]=J (Dn (Wh 0 m u))) (by and_intros<;>kernel_rfl!) (by and_intros<;>kernel_rfl!) (by and_intros<;>kernel_rfl!) a c,
  Mk.all2 (P:=λm u=>JK [.t [.int x,Ct 1,.int (.ofNat u)],Dn m]=J (Dn (Wh 1 m u))) (by and_intros<;>kernel_rfl!) (by and_intros<;>kernel_rfl!) (by and_intros<;>kernel_rfl!) a c,
  Mk.all2 (P:=λm u=>JK [.t [.int x,Ct 2,.int (.ofNat u)],Dn m]=J (Dn (Wh 2 m u))) (by and_intros<;>kernel_rfl!) (by and_intros<;>kernel_rfl!) (by and_intros<;>kernel_rfl!) a c,
  Mk.all2 (P:=λm u=>JK [.t [.int x,Ct 3,.int (.ofNat u)],Dn m]=J (Dn (Wh 3 m u))) (by and_intros<;>kernel_rfl!) (by and_intros<;>kernel_rfl!) (by and_intros<;>kernel_rfl!) a c⟩ d
def On(m d:Nat):Int:=M (Rb d m) 1 (M (Rb d 0) (-1) 0)
theorem AV(d:S4 s)(a:Mk m)(c:V3 u):cD [.t [.int x,Ct s,.int (.ofNat u)],Dn m]=J (.int (On m (Wh s m u))):=
 S4.all (P:=λs=>cD [.t [.int x,Ct s,.int (.ofNat u)],Dn m]=J (.int (On m (Wh s m u)))) ⟨Mk.all2 (P:=λm u=>cD [.t [.int x,Ct 0,.int (.ofNat u)],Dn m]=J (.int (On m (Wh 0 m u)))) (by and_intros<;>kernel_rfl!) (by and_intros<;>kernel_rfl!) (by and_intros<;>kernel_rfl!) a c,
  Mk.all2 (P:=λm u=>cD [.t [.int x,Ct 1,.int (.ofNat u)],Dn m]=J (.int (On m (Wh 1 m u)))) (by and_intros<;>kernel_rfl!) (by and_intros<;>kernel_rfl!) (by and_intros<;>kernel_rfl!) a c,
  Mk.all2 (P:=λm u=>cD [.t [.int x,Ct 2,.int (.ofNat u)],Dn m]=J (.int (On m (Wh 2 m u)))) (by and_intros<;>kernel_rfl!) (by and_intros<;>kernel_rfl!) (by and_intros<;>kernel_rfl!) a c,
  Mk.all2 (P:=λm u=>cD [.t [.int x,Ct 3,.int (.ofNat u)],Dn m]=J (.int (On m (Wh 3 m u)))) (by and_intros<;>kernel_rfl!) (by and_intros<;>kernel_rfl!) (by and_intros<;>kernel_rfl!) a c⟩ d
def Us(x:Int)(m:Nat):List W:=match GQ [.int x,Dn m]with|some (.l ss)=>ss|_=>[]
theorem nA:Mk m->GQ [.int x,Dn m]=J (.l (Us x m))/\fh (len (Us x m)) 5=Z/\Nb (Us x m)=Z:=Mk.all (P:=λm=>GQ [.int x,Dn m]=J (.l (Us x m))/\fh (len (Us x m)) 5=Z/\Nb (Us x m)=Z) (by and_intros<;>kernel_rfl!)
theorem vM:{d:Nat}->d<=7->lk (Dn d) (.t [])=J (Rb d 0)
 |0,u=>by kernel_rfl!|d+1,h=>Mk.all (P:=λd=>lk (Dn d) (.t [])=J (Rb d 0)) (by and_intros<;>kernel_rfl!) (Mk.of (We 1 d) h)
theorem UY{a b:Nat}(d:Mk a)(c:Mk b):lk (Dn a) (Dn b)=J (Rb a b):=Mk.all (P:=λa=>lk (Dn a) (Dn b)=J (Rb a b))
 ⟨Mk.all (P:=λb=>lk (Dn 1) (Dn b)=J (Rb 1 b)) (by and_intros<;>kernel_rfl!) c,Mk.all (P:=λb=>lk (Dn 2) (Dn b)=J (Rb 2 b)) (by and_intros<;>kernel_rfl!) c,Mk.all (P:=λb=>lk (Dn 3) (Dn b)=J (Rb 3 b)) (by and_intros<;>kernel_rfl!) c,Mk.all (P:=λb=>lk (Dn 4) (Dn b)=J (Rb 4 b)) (by and_intros<;>kernel_rfl!) c,Mk.all (P:=λb=>lk (Dn 5) (Dn b)=J (Rb 5 b)) (by and_intros<;>kernel_rfl!) c,Mk.all (P:=λb=>lk (Dn 6) (Dn b)=J (Rb 6 b)) (by and_intros<;>kernel_rfl!) c,Mk.all (P:=λb=>lk (Dn 7) (Dn b)=J (Rb 7 b)) (by and_intros<;>kernel_rfl!) c⟩ d
end
section
variable {X:Type} {i x m b u:Nat} {w:W} {s:Gf}
theorem Kc{n:Nat}{a:List X}(h:a.length<n):Kd n a=Z:=by
 unfold Kd;refine U (Se _) ?_;exact ud.mpr h
theorem m8{a:List W}(h:a[i]?=J w):Lg a (.ofNat i)=J w:=(Pz a i).trans h
theorem Ap{f:X->W}{c:List X}{a:X}(h:c[i]?=J a):Lg (c.map f) (.ofNat i)=J (f a):=m8 (by refine U Dc (U h ?_);rfl)
theorem V2{a:List W}:∀{i:Nat}{w:W},i<a.length->qab a w i=J (a.set i w):=by
 induction a with
 |nil=>exactλh=>zc h (Xe _)|cons x a c=>
  intro i w h
  induction i using Sa with
  |zero=>rfl|succ i=>show H (qab a w i) _=_;exact U (c (Fg h)) rfl
theorem Mj{a c:List W}(h:Nb a=Z)(k:Nb c=Z):Nb (a++c)=Z:=by
 induction a with
 |nil=>exact k|cons x a d=>exact Aa.mpr ⟨(Aa.mp h).1,d (Aa.mp h).2⟩
theorem PJ{x:Int}:∀a:List Int,(Pl a x).length<=a.length+1:=by
 intro a
 induction a with
 |nil=>
  exact Gb _
 |cons k a c=>
  show(M (Rp k x) (k::a) (k::Pl a x)).length<=_
  induction Rp k x with
  |true=>exact te _|false=>exact vf (c)
theorem zt{x:Int}(h:Jd w=Z)(c:List Int)(a:List W)(j:Nb a=Z):Nb (Ql c x w a)=Z:=match c,a,j with
 |[],u,y=>Aa.mpr ⟨h,rfl⟩|u::y,[],z=>Aa.mpr ⟨h,rfl⟩|k::c,v::a,e=>by
  show Nb (M (Rp k x) (w::a) (v::Ql c x w a))=Z
  have e:=Aa.mp e
  induction Rp k x with
  |true=>exact Aa.mpr ⟨h,e.2⟩|false=>exact Aa.mpr ⟨e.1,zt h c a e.2⟩
theorem Eu:Mk m->Jd (Dn m)=Z:=Mk.all (P:=λm=>Jd (Dn m)=Z) (by and_intros<;>kernel_rfl!)
theorem xr:{a:List Nat}->(∀m∈a,Mk m)->Nb (a.map Dn)=Z:=by
 intro a
 induction a with
 |nil=>
  rintro _;exact rfl
 |cons m a c=>
  rintro h;exact Aa.mpr ⟨Eu (h m sa),c λx d=>h x (oa _ d)⟩
structure SI(ms:List Nat)(b:Nat)(s:Gf):Prop where
 all:∀m∈ms,Mk m
 wL:s.1=ms.map Dn
 fst:Nb s.2.1=Z
 trp:Nb s.trail=Z
 mkp:Nb s.2.2.2.1=Z
 nwp:Nb s.news.2=Z
 clp:Nb s.2.2.2.2.2.2.2.1=Z
 trl:s.trail.length<=b
 mkl:s.2.2.2.1.length<=b
 nwl:s.news.1.length<=b
 bad:s.bad=ta
theorem bC(a:Nb s.1=Z)(c:Nb s.2.1=Z)(d:Nb s.trail=Z)(e:Nb s.2.2.2.1=Z)(f:Nb s.news.2=Z)(g:Nb s.2.2.2.2.2.2.2.1=Z):Kf (ah s).fs=Z:=by
 show(Nb s.1&&(Nb s.2.1&&(Nb s.trail&&(Nb s.2.2.2.1&&(Nb s.news.2&&(Z&&(Z&&(Nb s.2.2.2.2.2.2.2.1&&Z))))))))=Z
 refine U a (U c (U d (U e (U f (U g ?_)))));rfl
theorem SI.plain{a:List Nat}(I:SI a b s):Kf (ah s).fs=Z:=bC (I.wL▸xr I.all) I.fst I.trp I.mkp I.nwp I.clp
theorem List.set_getElem?_self'{c:List X}:∀{i:Nat}{a:X},c[i]?=J a->c.set i a=c:=by
 induction c with
 |nil=>exactλh=>ja h|cons x c d=>
  intro i a h
  induction i using Sa with
  |zero=>exact Gc (λy=>y::_) (ba h).symm|succ i=>exact Gc (λy=>x::y) (d h)
theorem YG{c:List X}{a b:X}(h:b∈c.set i a):b∈c\/b=a:=List.mem_or_eq_of_mem_set h
theorem gB{c:List Nat}{d:Nat}(I:SI c b s)(A:b<4000)(h:c[x]?=J m)(j:Mk d){y z rs sp:W}(q:JK [.t [.int (.ofNat x),y,z],Dn m]=J (Dn d))(r:Nb [y,z]=Z)(f:nb rs=Z/\Jd rs=Z)(g:nb sp=Z/\Jd sp=Z)(n:Gf->wb):
 ∃o,SI (c.set x d) (b+1) o/\∀(R:Type)(k:Bool×Gf->Option R),vp [.int (.ofNat x),y,z] rs sp n s k=k (Z,o):=by
 have p:Mk m:=I.all m (Na h);have start:∀(R:Type)(k:Bool×Gf->Option R),vp [.int (.ofNat x),y,z] rs sp n s k=M (Rb d m) (k (Z,s)) (M (nb rs) (M (nb sp) (M (Kd 4096 s.trail) (H (du s.wL (.ofNat x) (Dn d)) λa=>M (Kd 4096 s.news.1) (k (Z,s.put a (s.trail++[.t [.int (.ofNat x),Dn m,.t [.int (.ofNat x),y,z],rs,sp]]) (Pl s.news.1 (.ofNat x),Ql s.news.1 (.ofNat x) (.bool Z) s.news.2))) Y) Y) Y) Y):=λR k=>
  (Kb (by refine U (show s.wL=c.map Dn from I.wL) ?_;exact Ap h:Lg s.wL (.ofNat x)=J (Dn m))).trans ((Kb q).trans ((Kb ((vM (d:=d) (by cases j<;>decide)).trans (Gc J (by cases j<;>rfl)):lk (Dn d) (.t [])=J ta)).trans (Kb (UY j p))))
 have lX:Nb [.int (.ofNat x),y,z]=Z:=Aa.mpr ⟨rfl,r⟩
 induction l:Rb d m with
 |true=>
  have:c.set x d=c:=by refine U (Tc l) ?_;exact List.set_getElem?_self' h
  exact⟨s,⟨this.symm▸I.all,this.symm▸I.wL,I.fst,I.trp,I.mkp,I.nwp,I.clp,Ld I.trl,Ld I.mkl,Ld I.nwl,I.bad⟩,λR k=>(start R k).trans (Db l)⟩
 |false=>
  have t:du s.wL (.ofNat x) (Dn d)=J ((c.set x d).map Dn):=by
   refine U (show s.wL=c.map Dn from I.wL) ?_;exact(V2 (by refine U (wa _) ?_;exact(getlt' h:x<c.length))).trans (Gc J (w4.symm))
  refine⟨s.put ((c.set x d).map Dn) (s.trail++[.t [.int (.ofNat x),Dn m,.t [.int (.ofNat x),y,z],rs,sp]]) (Pl s.news.1 (.ofNat x),Ql s.news.1 (.ofNat x) (.bool Z) s.news.2),⟨λa v=>(YG v).elim (I.all a) λe=>e▸j,rfl,I.fst,Mj I.trp ?_,I.mkp,zt rfl _ _ I.nwp,I.clp,?_,Ld I.mkl,Za (PJ _) (vf I.nwl),I.bad⟩,λR k=>(start R k).trans ((fi l).trans ((Db f.1).trans ((Db g.1).trans ((Db (Kc (ib I.trl (by lia)))).trans ((Kb t).trans (Db (Kc (ib I.nwl (by lia)))))))))⟩
  ·show(Nb [.int (.ofNat x),Dn m,.t [.int (.ofNat x),y,z],rs,sp]&&Z)=Z
   show((Z&&(Jd (Dn m)&&(Nb [.int (.ofNat x),y,z]&&(Jd rs&&(Jd sp&&Z)))))&&Z)=Z
   refine U (Eu p) (U lX (U f.2 (U g.2 ?_)));rfl
  ·show(s.trail++[_]).length<=_
   exact U Ha (vf I.trl)
where getlt' {X:Type} {l:List X} {i:Nat} {o:X} (h:l[i]?=J o):i<l.length:=(ub.mp h).1
theorem iK{c:List Nat}(I:SI c b s)(f:b<4000)(e:c[x]?=J m)(g:V3 u)(j:Mk (qp m u)){rs:List W}(l:Nb rs=Z)(n:rs.length<4096)(d:Gf->wb):
 ∃a,SI (c.set x (qp m u)) (b+1) a/\∀(R:Type)(k:Bool×Gf->Option R),dA [.int (.ofNat x),.str "!=",.int (.ofNat u)] (.l rs) d s k=k (Z,a):=by
 obtain⟨a,o,h⟩:=gB (rs:=.t rs) (sp:=.int s.spk) I f e j (HV (I.all m (Na e)) g) rfl ⟨rfl,l⟩ ⟨rfl,rfl⟩ d;exact⟨a,o,λR k=>(Kb (rfl:au (.l rs) (d s)=J rs)).trans ((Db (Kc n)).trans (h R k))⟩
theorem cJ{a:List Nat}{t:Nat}(I:SI a b s)(g:b<4000)(c:a[x]?=J m)(d:S4 t)(h:V3 u)(j:Mk (Wh t m u))(e:Gf->wb):
 ∃f,SI (a.set x (Wh t m u)) (b+1) f/\∀(R:Type)(k:Bool×Gf->Option R),vp [.int (.ofNat x),Ct t,.int (.ofNat u)] .none (.int (-1)) e s k=k (Z,f):=
 gB I g c j (GV d (I.all m (Na c)) h) (S4.all (P:=λt=>Nb [Ct t,.int (.ofNat u)]=Z) ⟨rfl,rfl,rfl,rfl⟩ d) ⟨rfl,rfl⟩ ⟨rfl,rfl⟩ e
structure SB(s:Gf):Prop where
 pl:Kf (ah s).fs=Z
 bad:s.bad=Z
theorem tz{c:List Nat}(I:SI c b s){rs:List W}(d:Nb rs=Z)(e:rs.length<4096)(a:Gf->wb)(f:au w (a (s.fails s.2.2.2.2.2.2.2.1))=J rs):
 SB (s.fails rs)/\∀(R:Type)(k:Gf->Option R),Ro w a s k=k (s.fails rs):=
 ⟨⟨bC (I.wL▸xr I.all) I.fst I.trp I.mkp I.nwp d,rfl⟩,λR k=>(Kb f).trans (Db (Kc e))⟩
theorem sU{a:List Nat}(I:SI a b s)(d:b<4000):∃c,SI a (b+1) c/\∀(R:Type)(k:Gf->Option R),jP s k=k c:=
 ⟨((s.1,s.2.1,s.2.2.1,s.2.2.2.1++[W.int (Td s.trail)],s.2.2.2.2):Gf),⟨I.all,I.wL,I.fst,I.trp,Mj I.mkp rfl,I.nwp,I.clp,Ld I.trl,by
  refine U Ha ?_;exact vf I.mkl,Ld I.nwl,I.bad⟩,λR k=>Db (Kc (ib I.mkl (by lia)))⟩
structure Rz(n:Nat)(xs:List W):Prop where
 pl:Nb xs=Z
 len:xs.length<=n
end
theorem Pd:∀a:List Nat,Cb a=a.map λi=>W.int (.ofNat i):=by
 intro a
 induction a with
 |nil=>
  exact rfl
 |cons x a c=>
  exact Gc (λy=>W.int (.ofNat x)::y) (c)
theorem Mg{a:List Nat}{i j:Nat}(h:a[i]?=J j):Lg (Cb a) (.ofNat i)=J (.int (.ofNat j)):=by refine U (Pd _) ?_;exact Ap h
theorem wc(a:List Nat):(Cb a).length=a.length:=by exact U (Pd _) (U (wa _) rfl)
theorem pf:∀a:List Nat,Nb (Cb a)=Z:=by
 intro a
 induction a with
 |nil=>
  exact rfl
 |cons d a c=>
  exact c
section
variable {R:Type}
theorem xg{n:Nat}(h:n<12)(k:List W->Option R):Xd (.ofNat n) k=k (Cb (Ka n)):=by
 have e:vD 0 (.ofNat n)=Z:=by
  unfold vD;rw[Qg,Qg,Qg,Qg,decide_eq_true (by lia),decide_eq_true (by lia),decide_eq_true (show(-1000:Int)<jb n from yr (by decide) (xf n)),decide_eq_true (show jb n<1000 from(show(n:Int)<1000 by lia))];rfl
 refine(Db e).trans ((Db e).trans (Gc k (U (show(jb n - 0).toNat=n from by rw[Int.sub_zero];rfl) (U (Vz _ _) (U (Pd _) ?_)))));exact gg λi u=>Gc W.int (I5 (i:Int))
theorem Ch{g:W->(List W->Option R)->Option R}{p:Nat->Bool}:{a:List Nat}->(∀i∈a,∀k,g (.int (.ofNat i)) k=M (p i) (k [.int (.ofNat i)]) (k []))->∀k,Ae g (Cb a) k=k (Cb (a.filter p)):=by
 intro a
 induction a with
 |nil=>exactλu k=>rfl|cons x a c=>
  intro h k;refine(h x sa _).trans ?_;replace c:=c λi d=>h i (oa _ d);refine U Oi ?_
  induction e:p x with
  |true=>exact c _|false=>exact c _
theorem Kn{a:Type}{f:a->W}{c:List a}:Td (c.map f)=.ofNat c.length:=by unfold Td;exact U (Se _) (U (wa _) rfl)
theorem ag{a:List Nat}:Td (Cb a)=.ofNat a.length:=by exact U (Pd _) (U Kn rfl)
end
theorem AE{as:List Int}(d:as.length<=4)(o:Int):∃a:List Nat,(∀j∈a,j<as.length)/\a.length<=4/\∀(R:Type)(k:W->Option R),Il (as.map W.int) o k=k (.l (Cb a)):=by
 refine⟨(Ka as.length).filter λi=>Rp (as[i]?.getD 0) o,λj f=>ac.mp (Uc.mp f).1,Za (Ob _ _) (by refine U Ab ?_;exact d),λR k=>?_⟩;show Xd (Td (as.map W.int)) _=_
 refine U Kn ?_;refine((λk=>xg (R:=R) (n:=as.length) (by lia) k) _).trans ((Ch (p:=λi=>Rp (as[i]?.getD 0) o) (λi c k=>?_) _).trans (Db (Kc ?_)))
 ·have c:=ac.mp c
  have e:as[i]?=J as[i]:=Wa c;refine(Kb (Ap e)).trans ?_;refine U e ?_;rfl
 ·exact U (wc _) (ib (Ob _ _) (by refine U Ab ?_;lia))
section
variable {T V:Type}
theorem Qr{g:(R:Type)->W->T->V->(T->V->Option R)->Option R}(I:Nat->T->Prop){u:V}{B:Nat}:∀{xs:List W}{j:Nat}{m:T},j+xs.length<=B->(∀j v m,v∈xs->j<B->I j m->∃a,I (j+1) a/\∀R k,g R v m u k=k a u)->I j m->∃a,I (j+xs.length) a/\∀R k,nh (g R) xs m u k=k a u:=by
 intro xs
 induction xs with
 |nil=>
  rintro j m _ _ i;exact⟨m,i,λy y=>rfl⟩
 |cons x xs d=>
  rintro j m c h i;rw[nc,mi xs.length 1,<-mr]at c|-;refine aa λe=>?_;obtain⟨m1,f,l⟩:=h j x m sa (rb (Vc j) (Za (Nc _ _) c)) i;obtain⟨o,p,q⟩:=d c (λj v m r=>h j v m (oa _ r)) f;exact e (⟨o,p,λR k=>(l R _).trans (q R k)⟩)
end
theorem Rz.mono{n d:Nat}{a:List W}(h:Rz n a)(k:n<=d):Rz d a:=⟨h.pl,Za h.len k⟩
theorem DM{n d:Nat}{fr a:List W}(h:Rz n fr)(c:Rz d a)(e:n+d<4096):Rz (n+d) (fr++a)/\∀(R:Type)(k:List W->Option R),J7 fr (.l a) k=k (fr++a):=
 ⟨⟨Mj h.pl c.pl,by refine U Ha ?_;exact Gk h.len c.len⟩,λR k=>Db (b:=bc (len fr+len a) 4096) (by refine U (Se _) (U (Se _) ?_);exact ud.mpr (ib (Gk h.len c.len) e))⟩
theorem rp{X:List Nat}{b i m:Nat}{s:Gf}(I:SI X b s)(h:X[i]?=J m){R:Type}(k:W->Option R):Zw s.wL (.int (.ofNat i)) k=k (Dn m):=Kb (o:=Lg s.wL (.ofNat i)) (by refine U (show s.wL=X.map Dn from I.wL) ?_;exact Ap h)
theorem TQ{x:Int}{m:Nat}(h:Mk m):Rz 5 (Us x m)/\∀(R:Type)(k:W->Option R),mF (.int x) (Dn m) k=k (.l (Us x m)):=
 ⟨⟨(nA h).2.2,by have:=gb (nA (x:=x) h).2.1;rw[Se]at this;exact this⟩,λR k=>Kb (nA h).1⟩
section
variable {X:List Nat} {b n:Nat} {s:Gf} {h:H3} {as:List Int}
theorem fG(I:SI X b h.st)(F:X.length=n)(w:n<=4)(G:h.pl.at=as.map W.int)(l:as.length=n){is:List Int}(K:is.length<=4):∃C,Rz 100 C/\∀(R:Type)(k:List W->Option R),Sx (Cb (Ka n)) h (.l (is.map W.int)) k=k C:=by
 have d:∀{j:Nat}{m:List W×Option W×Unit},j<n->{a:Nat}->a+5<4096->Rz a m.1->∃c:List W×Option W×Unit,Rz (a+5) c.1/\∀(R:Type) k,oy (R:=R) (Cb (Ka n)) h (.int (.ofNat j)) m () k=k c ():=λ{j m} p a D r=>by
  have e:Lg (Cb (Ka n)) (.ofNat j)=J (.int (.ofNat j)):=Mg (by exact U (af p) rfl);have q:X[j]?=J X[j]:=Wa (F▸p);refine aa λy=>?_;obtain⟨f,z⟩:=TQ (x:=.ofNat j) (I.all _ (Na q));obtain⟨i,o⟩:=DM r f D;exact y (⟨(m.1++Us (.ofNat j) X[j],J (.int (.ofNat j)),()),i,λR k=>(Kb e).trans ((Kb e).trans ((rp I q _).trans ((z R _).trans (o R _))))⟩)
 have f:∀{o:Int}{m:GR}{a:Nat},a+20<4096->Rz a m.1->∃c:GR,Rz (a+20) c.1/\∀(R:Type) k,DG (R:=R) (Cb (Ka n)) h (.int o) m () k=k c ():=λ{o m a} D r=>by
  refine aa λy=>?_;obtain⟨E,L,N,e⟩:=AE (as:=as) (l▸w) o;obtain⟨c,A,q⟩:=Qr (g:=λR=>oy (R:=R) (Cb (Ka n)) h) (u:=()) (xs:=Cb E) (j:=0) (m:=(m.1,m.2.2.1,())) (B:=4) (λj(m:List W×Option W×Unit)=>Rz (a+5*j) m.1) (by refine U (wc _) (U (lh _) ?_);exact N) (λj v m t p i=>by
   rw[Pd]at t;obtain⟨x,O,rfl⟩:=Qb.mp t;exact d (l▸L x O) (by show a+5*j+5<4096;lia) i) r
  refine y ?_;refine⟨(c.1,J (.int o),c.2.1,()),A.mono (by refine U (wc _) ?_;lia),λR k=>?_⟩;have z:jt (R:=R) (.int o) h.pl (λxs=>nh (oy (Cb (Ka n)) h) xs (m.1,m.2.2.1,()) () λm u=>k (m.1,J (.int o),m.2.1,()) u)=nh (oy (Cb (Ka n)) h) (Cb E) (m.1,m.2.2.1,()) () λm u=>k (m.1,J (.int o),m.2.1,()) u:=by
   show Il h.pl.at o _=_
   refine U G ?_;exact(e R _).trans (Db (Kc (by refine U (wc _) ?_;lia)))
  exact z.trans (q R _)
 obtain⟨c,A,e⟩:=Qr (g:=λR=>DG (R:=R) (Cb (Ka n)) h) (u:=()) (xs:=is.map W.int) (j:=0) (m:=(([],Y,Y,()):GR)) (B:=4) (λj m=>Rz (20*j) m.1) (by refine U (wa _) (U (lh _) ?_);exact K) (λj v m t p i=>by
  obtain⟨x,_,rfl⟩:=Qb.mp t;exact f (by show 20*j+20<4096;lia) i) ⟨rfl,Gb _⟩
 exact⟨c.1,A.mono (by refine U (wa _) ?_;lia),λR k=>(Db (Kc (by refine U (wa _) ?_;lia))).trans (e R _)⟩
end
theorem rN:∀is:List Int,Fv (is.map W.int)=J is:=by
 intro is
 induction is with
 |nil=>
  exact rfl
 |cons i is a=>
  show H (Fv (is.map W.int)) _=_;refine U a ?_;rfl
theorem Hl(a:List Nat):Cb a=(a.map jb).map W.int:=by refine U (Pd _) (U Rd ?_);rfl
theorem Az{x:Int}{is:List Int}:yA (.int x) (.l (is.map W.int))=J (Rk x is):=by
 show(match Fv (is.map W.int)with|some is=>J (Rk x is)|none=>MW (.int x) (.l (is.map W.int)))=_
 exact U (rN _) rfl
theorem aO(x:Nat):∀a:List Nat,Rk (.ofNat x) (a.map jb)=Ze x a:=by
 intro a
 induction a with
 |nil=>
  exact rfl
 |cons j a b=>
  show M (Rb j x) Z (Rk (.ofNat x) (a.map jb))=_
  refine U b ?_;rfl
theorem JG{x:Nat}{a:List Nat}:yA (.int (.ofNat x)) (.l (Cb a))=J (Ze x a):=by exact U (Hl _) (U Az (U (aO _ _) rfl))
theorem fM{g:(R:Type)->W->(List W->Option R)->Option R}{d:Nat}:{xs:List W}->(∀v∈xs,∃a,Rz d a/\∀R b,g R v b=b a)->∃b,Rz (d*xs.length) b/\∀R k,Ae (g R) xs k=k b:=by
 intro xs
 induction xs with
 |nil=>
  rintro _;exact⟨[],⟨rfl,Zc _⟩,λu u=>rfl⟩
 |cons x xs f=>
  rintro h;refine aa λi=>?_;obtain⟨a,c,j⟩:=h x sa;obtain⟨b,e,l⟩:=f λv m=>h v (oa _ m);refine i ?_;exact⟨a++b,⟨Mj c.pl e.pl,by refine U Ha (U nc (U (N5 _ _) (U (mi _ _) ?_)));exact Gk e.len c.len⟩,λR k=>(j R _).trans (l R _)⟩
section
variable {n:Nat} {h:H3} {as:List Int}
theorem OG(t:n<=4)(E:h.pl.at=as.map W.int)(l:as.length=n){a c:List Nat}(A:∀j∈c,j<a.length)(F:c.length<=4):∃C,Rz 100 C/\∀(R:Type)(k:List W->Option R),tt (Cb (Ka n)) (Cb a) (Cb c) h k=k C:=by
 have z:{i:Nat}->i<n->∃f,Rz 4 f/\∀(R:Type)(k:List W->Option R),O6 (Cb (Ka n)) (Cb a) (Cb c) (.int (.ofNat i)) k=k f:=λ{i} G=>by
  have q:Lg (Cb (Ka n)) (.ofNat i)=J (.int (.ofNat i)):=Mg (by exact U (af G) rfl);obtain⟨f,r,e⟩:=fM (g:=λR o y=>H (Ua (.int (.ofNat i))) λi=>H (Lg (Cb (Ka n)) i) λx=>M (nb x) (H (Ua o) λj=>H (Lg (Cb a) j) λw=>M (nb w) (y [.t [x,.str "!=",w]]) Y) Y) (d:=1) (xs:=Cb c) λv o=>by
   rw[Pd]at o;obtain⟨j,p,rfl⟩:=Qb.mp o;have s:Lg (Cb a) (.ofNat j)=J (.int (.ofNat a[j]!)):=Mg (by exact U (Wa (A j p)) (U (getElem!_pos a j (A j p)) rfl));exact⟨[.t [.int (.ofNat i),.str "!=",.int (.ofNat a[j]!)]],⟨rfl,Gb _⟩,λR y=>(Kb q).trans (Kb s)⟩
  rw[wc,qam]at r;exact⟨f,r.mono F,λR k=>(Db (Kc (by refine U (wc _) ?_;lia))).trans ((e R _).trans (Db (Kc (ib r.len (by lia)))))⟩
 refine aa λr=>?_;obtain⟨w,I,e⟩:=Qr (g:=λR=>EG (R:=R) (Cb (Ka n)) (Cb a) (Cb c) h) (u:=()) (xs:=Cb (Ka n)) (j:=0) (m:=(([],Y,()):VX)) (B:=4) (λj m=>Rz (4*j) m.1) (by refine U (wc _) (U Ab (U (lh _) ?_));exact t) (λj v m o N i=>by
  rw[Pd]at o;obtain⟨x,p,rfl⟩:=Qb.mp o;have p:=ac.mp p;have q:Lg h.pl.at (.ofNat x)=J (.int as[x]!):=by refine U E ?_;exact Ap (by exact U (Wa (l.symm▸p)) (U (getElem!_pos as x (l.symm▸p)) rfl))
  have s:yA (.int as[x]!) (.l (Cb c))=J (Rk as[x]! (c.map jb)):=by refine U (Hl _) ?_;exact Az
  induction y:Rk as[x]! (c.map jb)with
  |true=>exact⟨(m.1,J (.int (.ofNat x)),()),i.mono (Nat.mul_le_mul_left 4 (te j)),λR k=>(Kb q).trans ((Kb s).trans (by refine U y ?_;rfl))⟩|false=>
   refine aa λr=>?_;obtain⟨f,D,K⟩:=z p;obtain⟨L,_⟩:=DM i D (by show 4*j+4<4096;lia);refine r ?_;exact⟨(m.1++f,J (.int (.ofNat x)),()),L,λR k=>(Kb q).trans ((Kb s).trans ((Db (by refine U y ?_;rfl)).trans ((K R _).trans (Db (b:=bc (len m.1+len f) 4096) (by refine U (Se _) (U (Se _) ?_);exact ud.mpr (ib (Gk i.len D.len) (show 4*j+4<4096 by lia)))))))⟩) ⟨rfl,Gb _⟩
 refine r ?_;refine⟨w.1,I.mono (by refine U (wc _) (U Ab ?_);lia),λR k=>?_⟩;have p:Xd (R:=R) (Td (Cb (Ka n))) (λxs=>nh (EG (Cb (Ka n)) (Cb a) (Cb c) h) xs (([],Y,()):VX) () λm y=>k m.1)=k w.1:=by
  exact U ag (U Ab ((xg (by lia) _).trans (e R _)))
 exact p
end
section
variable {V X:Type}
end
def yq(m:Nat)(us:List Nat):Nat:=us.foldl qp m
theorem s7(u:Nat):qp 0 u=0:=rfl
theorem c8:∀a:List Nat,yq 0 a=0:=by
 intro a
 induction a with
 |nil=>
  exact rfl
 |cons u a c=>
  show yq (qp 0 u) a=0;refine U (s7 _) ?_;exact c
theorem MS(m u:Nat):qp m u<=m:=by
 unfold qp
 induction Ze u (Lb m)with
 |true=>exact Nat.sub_le _ _|false=>exact Gb _
theorem Mk.le{m:Nat}(h:Mk m):1<=m/\m<=7:=Mk.all (P:=λm=>1<=m/\m<=7) (by decide) h
theorem fN{m u:Nat}{a:List Nat}(c:Mk m)(h:Mk (yq m (u::a))):Mk (qp m u):=by
 refine Mk.of (Nat.pos_of_ne_zero λe=>?_) (Za (MS m u) c.le.2);have:yq m (u::a)=0:=by show yq (qp m u) a=0;refine U e ?_;exact c8 a
 rw[this]at h;exact zc h.le.1 (by decide)
section
variable {n b x:Nat} {X:List Nat}
theorem TP{c:Type}{l:List c}{i:Nat}{a:c}(h:i<l.length):(l.set i a)[i]?=J a:=by exact U (je h) rfl
structure mW(X:List Nat)(b:Nat)(p:Be)(h:H3):Prop where
 si:SI X b h.st
 pl:h.pl=p
theorem fD{y:Y3}{f:List W}{p:Be}(j:x<X.length)(r:Nb f=Z)(t:f.length<4096){a:List Nat}:∀{m b:Nat}{h:H3}(d:Option W×Unit),(∀u∈a,V3 u)->Mk (yq m a)->b+a.length<=4000->mW (X.set x m) b p h->
 ∃g e,mW (X.set x (yq m a)) (b+a.length) p e/\∀(R:Type) k,Kg (XM (R:=R) (.int (.ofNat x)) f y) (Cb a) d h k=k (.go g e):=by
 induction a with
 |nil=>exactλ{m b h} d z z z i=>⟨d,h,i,λR k=>rfl⟩|cons u a v=>
  intro m b h d l hT o i;have z:Mk m:=i.si.all m (Na (TP j));have c:b+1+a.length=b+(u::a).length:=by exact U nc (U (mr _ _ _) (U (mi 1 _) rfl))
  obtain⟨A,q,B⟩:=iK i.si (rb (Zd (kh a.length)) o) (TP j) (l u sa) (fN z hT) r t λs=>c3.wR y (h.putS s);rw[List.set_set]at q;obtain⟨g,e,s,C⟩:=v (m:=qp m u) (b:=b+1) (h:=h.putS A) (J (.int (.ofNat u)),()) (λw D=>l w (oa _ D)) hT (c.symm▸o) ⟨q,i.pl⟩;exact⟨g,e,c▸s,λR k=>(B R _).trans (C R k)⟩
end
def Ck(o:Nat)(vs:List Nat)(m:Nat):List Nat:=if o<vs.length then[vs[o]!]else(Lb m).filter λu=> !Ze u vs
theorem lU{m:Nat}:Mk m->∀u∈Lb m,V3 u:=Mk.all (P:=λm=>∀u∈Lb m,V3 u) (by and_intros<;>(intro u a;exact V3.of (by revert u;decide)))
theorem Xr{R:Type}{a:List W}(h:a.length<4900)(k:List W->Option R):Pf (.l a) k=k a:=Db (Kc h)
theorem Lj{m:Nat}:Mk m->(Lb m).length<=3:=Mk.all (P:=λm=>(Lb m).length<=3) (by decide)
theorem II{X a:List Nat}{b x m:Nat}{s:Gf}(I:SI X b s)(d:X[x]?=J m){R:Type}(k:List W->Option R):cz s.wL (Cb a) (.int (.ofNat x)) k=k (Cb ((Lb m).filter λu=> !Ze u a)):=by
 have c:=I.all m (Na d);refine(rp I d _).trans ((Kb (A3 c)).trans ((Xr (by unfold Lw;refine U (wc _) ?_;have:=Lj c;lia) _).trans ?_));exact(Ch (p:=λu=> !Ze u a) (λu e f=>(Kb JG).trans rfl) _).trans (Db (Kc (U (wc _) (ib (Ob _ _) (by have:=Lj c;lia)))))
theorem JV{o:Nat}{c:List Nat}{m:Nat}(d:Mk m){R:Type}(k:List W->Option R):qG (.ofNat o) (Cb c) (Cb ((Lb m).filter λu=> !Ze u c)) k=k (Cb (Ck o c m)):=by
 have e:Ph (.ofNat o) (Td (Cb c))=bc o c.length:=by refine U ag ?_;rfl
 unfold Ck;by_cases h:o<c.length
 ·refine U (Fd h) ((Db (e.trans (ud.mpr h))).trans (Kb (o:=Lg (Cb c) (.ofNat o)) (a:=.int (.ofNat c[o]!)) ?_))
  exact Mg (by exact U (Wa h) (U (getElem!_pos c o h) rfl))
 ·refine U (ge h) ?_
  exact(fi (e.trans (Vs.mpr λz=>h (ud.mp z)))).trans (Db (Kc (by refine U (wc _) ?_;exact ib (Ob _ _) (by have:=Lj d;lia))))
theorem oz{xs:List W}{a:List Xf}(h:Pe (ae 5) xs=J a):lk (.l xs) (.l [])=J xs.isEmpty:=by
 show((Pe (ae 5) xs).map qD).bind _=_
 refine U h ?_
 induction xs using ma with
 |nil=>obtain rfl:=ba h;rfl|cons x xs=>
  refine aa λb=>(Vg h λd e c=>?_);refine Ds c λf g z=>?_;subst z;refine b ?_
  rfl
theorem vl(a:List Nat):lk (.l (Cb a)) (.l [])=J a.isEmpty:=by
 refine U (Hl _) ((oz (Zx _)).trans ?_)
 induction a using ma<;>rfl
theorem SI.mono{a:List Nat}{b c:Nat}{s:Gf}(I:SI a b s)(h:b<=c):SI a c s:=⟨I.all,I.wL,I.fst,I.trp,I.mkp,I.nwp,I.clp,Za I.trl h,Za I.mkl h,Za I.nwl h,I.bad⟩
def xz(o:Nat)(vs ms:List Nat)(k:Nat):List Nat:=ms.set k (yq ms[k]! (Ck o vs ms[k]!))
def tm(o:Nat)(vs ms ks:List Nat):List Nat:=ks.foldl (xz o vs) ms
theorem LQ{o:Nat}{vs:List Nat}{m:Nat}(a:Mk m):(Ck o vs m).length<=3:=by
 unfold Ck
 split
 ·exact gb rfl
 ·exact Za (Ob _ _) (Lj a)
theorem sI{o:Nat}{vs:List Nat}{m:Nat}(hv:∀v∈vs,V3 v)(hm:Mk m):∀u∈Ck o vs m,V3 u:=by
 unfold Ck
 split
 ·rename_i h
  intro u hu;exact U (Ra.mp hu) (U (getElem!_pos vs o h) (hv _ (iu h)))
 ·exactλu hu=>lU hm u (Uc.mp hu).1
theorem vc{a:List Nat}{k:Nat}(h:k<a.length):a[k]?=J a[k]! :=by exact U (Wa h) (U (getElem!_pos a k h) rfl)
section
variable {n o:Nat} {vs:List Nat} {y:Y3} {X:List W} {p:Be}
theorem Pv(B:y.ca.wQ=Cb (Ka n))(r:y.ca.wP=Cb vs)(C:∀v∈vs,V3 v)(D:Nb X=Z)(E:X.length<4096){a:List Nat}:∀{ms:List Nat}{b:Nat}{h:H3}(c:A4),ms.length=n->a.Nodup->(∀k∈a,k<n/\Mk (yq ms[k]! (Ck o vs ms[k]!)))->b+3*a.length<=4000->mW ms b p h->
 ∃f e,mW (tm o vs ms a) (b+3*a.length) p e/\∀(R:Type) k,Kg (WM (R:=R) (.ofNat o) X y) (Cb a) c h k=k (.go f e):=by
 induction a with
 |nil=>exactλ{ms b h} c q q q q i=>⟨c,h,i,λR k=>rfl⟩|cons k a F=>
  intro ms b h c s t v g i;obtain⟨d,hT⟩:=v k sa;have w:k<ms.length:=s.symm▸d;have l:=vc w;have m:=i.si.all _ (Na l);rw[nc,N5,<-mr,mL]at g|-;have x:=LQ (o:=o) (vs:=vs) m;obtain⟨m1,N,A,G⟩:=fD (y:=y) w D E (c.2.2.1,()) (sI C m) hT (Za (Wj x b) (Za (Nc _ _) g)) (by refine U (List.set_getElem?_self' l) ?_;exact i:mW (ms.set k ms[k]!) b p h);obtain⟨f,e,I,K⟩:=F (ms:=xz o vs ms k) (J (.int (.ofNat k)),J (.int (.ofNat k)),m1.1,J (.l (Cb ((Lb ms[k]!).filter λu=> !Ze u vs))),()) (by unfold xz;refine U yb ?_;exact s) (Ec.mp t).2 (λj u=>by
   have q:k≠j:=λz=>(Ec.mp t).1 (z▸u);have L:(xz o vs ms k)[j]! =ms[j]! :=by
    unfold xz;exact U Bc (U (Xc q) (Bd Bc rfl))
   refine U L ?_;exact v j (oa _ u)) g ⟨A.si.mono (Wj x b),A.pl⟩
  refine⟨f,e,I,λR q=>dn ?_ (K R q)⟩;refine(Kb (by refine U B ?_;exact Mg (by exact U (af d) rfl):Lg y.ca.wQ (.ofNat k)=J (.int (.ofNat k)))).trans ?_;show cz h.st.wL y.ca.wP (.int (.ofNat k)) _=_
  refine U r ((II i.si l _).trans ?_);show qG (.ofNat o) y.ca.wP _ _=_
  exact U r ((JV m _).trans (G R _))
end
theorem ll{b c:Type}{o:Option b}{f g:b->Option c}(h:∀a,o=J a->f a=g a):H o f=H o g:=by
 induction o with
 |none=>rfl|some a=>exact h a rfl
theorem CN{a:List W}{i:Int}{w:W}(h:Lg a i=J w):w∈a:=by
 refine gp h λn z e=>?_;rw[Pz]at e;exact Na e
theorem JA:∀{X:List Nat}{w:W},w∈ci X->∃b,w=.l b:=by
 intro X
 induction X with
 |nil=>
  rintro _ h;exact zc h Jb
 |cons r X c=>
  rintro w h;refine aa λa=>?_;cases h with
  |head=>refine a ?_;exact⟨_,rfl⟩|tail u h=>refine a ?_;exact c h
theorem CI{R:Type}{a b f:List W}{X:List Nat}{o:Int}{d:wb}(k:List W->Option R):bp a (ci X) b f o d k=bp a (ci X) b f o [] k:=
 Gc (λg=>Xd (Td a) λe=>Ae g e λc=>M (Kd 4096 c) (k c) Y) (funext λv=>funext λe=>Gc (H (Ua v)) (funext λi=>ll λr c=>by
  obtain⟨g,rfl⟩:=JA (CN c)
  rfl))
section
variable {V lo:List Nat} {fs:List Int}
theorem WP(e:V.length<=4)(a:lo.length=V.length):∃b:List Nat,(∀j∈b,j<V.length)/\b.length<=4/\∀(R:Type)(k:List W->Option R),xw (Cb V) (Cb lo) (fs.map W.int) k=k (Cb b):=by
 let p:Nat->Bool:=λi=> !Rk (.ofNat i) fs&&Ph 0 (.ofNat lo[i]!)
 have f:((Ka V.length).filter p).length<=V.length:=Za (Ob _ _) (by refine U Ab ?_;exact Gb _);refine⟨(Ka V.length).filter p,λj g=>ac.mp (Uc.mp g).1,Za f e,λR k=>?_⟩;show Xd (Td (Cb V)) _=_
 refine U ag ?_;refine(xg (by lia) _).trans ((Ch (p:=p) (λi c h=>?_) _).trans (Db (Kc ?_)))
 ·have c:=ac.mp c
  refine(Kb Az).trans ?_
  induction d:Rk (.ofNat i) fs with
  |true=>show _=M (!Rk (.ofNat i) fs&&_) _ _;refine U d ?_;rfl|false=>
   refine(Kb (Mg (vc (a.symm▸c)):Lg (Cb lo) (.ofNat i)=J (.int (.ofNat lo[i]!)))).trans ?_;show M (Ph 0 (.ofNat lo[i]!)) _ _=M (!Rk (.ofNat i) fs&&Ph 0 (.ofNat lo[i]!)) _ _
   refine U d ?_;rfl
 ·refine U (wc _) ?_;lia
end
section
variable {n o:Nat} {V lo X:List Nat} {y:Y3}
structure CD(n:Nat)(V lo X:List Nat)(y:Y3):Prop where
 n4:n<=4
 v4:V.length<=4
 lo':lo.length=V.length
 v3:∀v∈V,V3 v
 wQ:y.ca.wQ=Cb (Ka n)
 wP:y.ca.wP=Cb V
 wO:y.ca.wO=Cb lo
 wM:y.wM=ci X
theorem gx(a:CD n V lo X y){h:H3}{p:Be}{f:List W}{r:Bool}{fs as:List Int}{d i:List Nat}{b:Nat}(D:qaQ y.wM y.wO y.wN (.ofNat o) h.pl=J (f,r,p))(v:f=fs.map W.int)(s:fs.length<=4)(w:p.at=as.map W.int)(m:as.length=n)
 (x:qdA y.ca.wQ y.wM p.at f (.ofNat o)=J (Cb d))(z:i.length=n)(E:d.Nodup)(F:∀k∈d,k<n/\Mk (yq i[k]! (Ck o V i[k]!)))(G:d.length<=4)(K:b+3*d.length<=4000)(I:SI i b h.st):
 ∃g,mW (tm o V i d) (b+3*d.length) p g/\∀(R:Type)(k:Kw R),NO 5000 (.ofNat o) y h k=k (.bool Z) g:=by
 have A:mW i b p (h.wX p):=⟨I,rfl⟩;have start:∀(R:Type)(k:Kw R),NO 5000 (.ofNat o) y h k=H (lk (.l (Cb d)) (.l [])) λb=>M b (k (.bool Z) (h.wX p)) (M r (xw y.ca.wP y.ca.wO f λc=>tt y.ca.wQ y.ca.wP c (h.wX p) λX=>Rj (.ofNat o) (Cb d) X y (h.wX p) k) (Sx y.ca.wQ (h.wX p) (.l f) λX=>Rj (.ofNat o) (Cb d) X y (h.wX p) k)):=λR k=>by
  refine(HE R λt=>bp y.ca.wQ y.wM t.2.2.at t.1 (.ofNat o) (c3.wR y (h.wX t.2.2)) λe=>H (lk (.l e) (.l [])) λb=>M b (k (.bool Z) (h.wX t.2.2)) (M t.2.1 (xw y.ca.wP y.ca.wO t.1 λc=>tt y.ca.wQ y.ca.wP c (h.wX t.2.2) λX=>Rj (.ofNat o) e X y (h.wX t.2.2) k) (Sx y.ca.wQ (h.wX t.2.2) (.l t.1) λX=>Rj (.ofNat o) e X y (h.wX t.2.2) k))).trans ((Kb D).trans ?_);rw[a.wM]at x|-;exact(CI _).trans ((qO R _).trans (Kb x))
 induction j:d using ma with
 |nil=>
  refine aa λl=>?_;subst j;exact l (⟨h.wX p,A,λR k=>(start R k).trans (Kb (vl []))⟩)
 |cons k0 P=>
  refine Bd j ?_;have c:{X:List W}->Rz 100 X->∃g,mW (tm o V i d) (b+3*d.length) p g/\∀(R:Type)(k:Kw R),Rj (.ofNat o) (Cb d) X y (h.wX p) k=k (.bool Z) g:=λ{X} B=>by
   refine aa λl=>?_;obtain⟨t,g,q,e⟩:=Pv a.wQ a.wP a.v3 B.pl (ib B.len (by decide)) (Y,Y,Y,Y,()) z E F K A;refine l ?_;exact⟨g,q,λR k=>(Db (Kc (by refine U (wc _) ?_;lia))).trans (e R _)⟩
  have C:lk (.l (Cb d)) (.l [])=J ta:=(vl d).trans (by refine U j ?_;rfl)
  induction r with
  |true=>
   refine aa λl=>?_;obtain⟨Q,L,N,e⟩:=WP (fs:=fs) a.v4 a.lo';obtain⟨S,t,O⟩:=OG (h:=h.wX p) a.n4 w m L N;obtain⟨g,q,u⟩:=c t;refine l (⟨g,q,λR k=>(start R k).trans ((Kb C).trans ?_)⟩);show xw y.ca.wP y.ca.wO f _=_
   exact U v (U a.wP (U a.wO ((e R _).trans (U a.wQ ((O R _).trans (u R k))))))
  |false=>
   refine aa λl=>?_;obtain⟨L,t,e⟩:=fG (h:=h.wX p) I z a.n4 w m s;obtain⟨g,q,u⟩:=c t;refine l (⟨g,q,λR k=>(start R k).trans ((Kb C).trans ((fi rfl).trans ((fi rfl).trans ?_)))⟩);exact U v (U a.wQ ((e R _).trans (u R k)))
end
theorem UW{w:W}{b:Bool}(h:Oh w .none=J b):nb w=Z:=by induction w using W.casesOn<;>first|rfl|exact ja h
section
variable {n:Nat} {V lo X:List Nat} {y:Y3}
structure qfD(h h':H3):Prop where
 sb:SB h'.st
theorem pT(a:CD n V lo X y){h:H3}{c:List Nat}{b:Nat}(I:SI c b h.st)(g:c.length=n){as is:List Int}(q:h.pl.at=as.map W.int)(e:as.length=n)(r:is.length<=4){i:Nat}(d:i<n):∃j,SB j/\∀(R:Type)(k:Gf->Option R),BG (.int (.ofNat i)) (.l (is.map W.int)) y h k=k j:=by
 refine aa λt=>?_;obtain⟨f,l,u⟩:=fG I g a.n4 q e r;have m:=vc (g.symm▸d);obtain⟨o,v⟩:=TQ (x:=.ofNat i) (I.all _ (Na m));have p:(f++Us (.ofNat i) c[i]!).length<4096:=by
  have:=l.len;have:=o.len;refine U Ha ?_;lia
 obtain⟨z,A⟩:=tz I (rs:=f++Us (.ofNat i) c[i]!) (Mj l.pl o.pl) p (λs=>c3.wR y (h.putS s)) (w:=.l (f++Us (.ofNat i) c[i]!)) rfl;refine t ?_;refine⟨_,z,λR k=>(Kb (by refine U a.wQ ?_;exact Mg (by exact U (af d) rfl):Lg y.ca.wQ (.ofNat i)=J (.int (.ofNat i)))).trans ?_⟩;exact(Db rfl).trans ((Db rfl).trans (U a.wQ ((u R _).trans ((Db rfl).trans ((rp I m _).trans ((v R _).trans ((Kb (rfl:Qe (.l (Us (.ofNat i) c[i]!)) _=J _)).trans ((Db (Kc p)).trans (A R k)))))))))
theorem ME(a:CD n V lo X y){ms:List Nat}{b:Nat}(D:ms.length=n):∀{c:List Nat}{h:H3}{m:HK}{r:Bool×W×Be},(∀k∈c,k<n)->SI ms b h.st->XO y.wM y.wN (Cb c) h.pl=J r->
 (r.1=Z->∃v,∀(R:Type) k,Kg (my (R:=R) y) (Cb c) m h k=k (.go v (h.wX r.2.2)))/\
 (r.1=ta->∀is as:List Int,r.2.1=.l (is.map W.int)->is.length<=4->r.2.2.at=as.map W.int->as.length=n->∃d,SB d/\∀(R:Type) k,Kg (my (R:=R) y) (Cb c) m h k=k (.ret (.bool ta) ((h.wX r.2.2).putS d))):=by
 intro c
 induction c with
 |nil=>
  rintro h m r _ I e;obtain rfl:=ba e;exact⟨λu=>⟨m,λR k=>rfl⟩,λh=>zc h.symm ia⟩
 |cons i c E=>
  rintro h m r x I e;refine aa λf=>?_;refine gp (show H (qeq y.wM y.wN (.ofNat i) h.pl) _=J r from e) λj F G=>?_;obtain⟨w,p⟩:=j;refine gp G λA B C=>(f ?_);clear f;have step:∀(R:Type) k,my (R:=R) y (.int (.ofNat i)) m h k=M A (BG (.int (.ofNat i)) w y (h.wX p) λs=>k (.ret (.bool ta) ((h.wX p).putS s))) (k (.go (J (.int (.ofNat i)),J w,()) (h.wX p))):=λR k=>
   (HO R λt=>M (nb t.1) (H (Oh t.1 .none) λr=>M r (BG (.int (.ofNat i)) t.1 y (h.wX t.2) λs=>k (.ret (.bool ta) ((h.wX t.2).putS s))) (k (.go (J (.int (.ofNat i)),J t.1,()) (h.wX t.2)))) Y).trans ((Kb F).trans ((Db (UW B)).trans (Kb B)))
  induction A with
  |false=>
   obtain⟨K,L⟩:=E (h:=h.wX p) (m:=(J (.int (.ofNat i)),J w,())) (λk g=>x k (oa _ g)) I C;exact⟨λg=>(K g).imp λv l=>λR k=>(step R _).trans (l R k),λg is as o q s t=>(L g is as o q s t).imp λd z=>⟨z.1,λR k=>(step R _).trans (z.2 R k)⟩⟩
  |true=>
   cases (ba C:(ta,w,p)=r);refine⟨λh=>zc h ia,λu is as o q s t=>?_⟩;refine aa λf=>?_;obtain⟨d,g,l⟩:=pT a (h:=h.wX p) I D s t q (x i sa);subst (o:w=.l (is.map W.int));refine f ?_;clear f;exact⟨d,g,λR k=>(step R _).trans (l R _)⟩
end
theorem kE{a:Type}{b:Bool}{x:Option a}{r:a}(h:M b x Y=J r):b=Z/\x=J r:=by
 induction b with
 |true=>exact⟨rfl,h⟩|false=>exact ja h
section
variable {R:Type} {T:List Nat} {X:List W} {w V:W} {Q:Be->wb}
theorem jJ{v:W}{m:M7}{h:Be}{k:Fw M7 Be->Option R}:ly (ci T) X w V Q v m h k=ly (ci T) X w V (λu=>[]) v m h k:=
 Gc (H (Ua v)) (funext λi=>Gc (H (Lg h.at i)) (funext λo=>Gc (λz=>M (nb o) z Y) (Gc (H (Ua v)) (funext λi=>ll λr a=>by
  obtain⟨b,rfl⟩:=JA (CN a)
  rfl))))
theorem OM{N:Nat}{i:Int}{h:Be}{k:W->Be->Option R}:sq N (ci T) X i Q h k=sq N (ci T) X i (λu=>[]) h k:=by
 delta sq UB VM WB
 exact U (funext λV=>funext λQ=>funext λv=>funext λm=>funext λh=>funext λk=>jJ:ly (R:=R) (ci T) X (.int i)=λV u=>ly (ci T) X (.int i) V λu=>[]) rfl
end
theorem Bq{a:List W}{is:List Int}(h:pN a=J is):a=is.map W.int/\is.length<=4:=by
 refine aa λc=>(gp h λg d e=>?_);obtain⟨b,f⟩:=kE e;obtain rfl:=ba f;exact c (⟨Bz d,by rw[Se]at b;exact gb b⟩)
theorem BI{n:Nat}:{is:List Int}->uL n is=Z->∃c:List Nat,is=c.map jb/\∀j∈c,j<n:=by
 intro is
 induction is with
 |nil=>
  rintro _;exact⟨[],rfl,λu h=>(Jb h).elim⟩
 |cons i is d=>
  rintro h;have h:M (!Ph i 0) (M (Ph i (.ofNat n)) (uL n is) ta) ta=Z:=h;refine aa λa=>?_
  induction e:Ph i 0 with
  |true=>refine a ?_;clear a;rw[e]at h;exact zc h ia|false=>
   refine a ?_;clear a;rw[e]at h
   induction b:Ph i (.ofNat n)with
   |false=>rw[b]at h;exact zc h ia|true=>
    rw[b]at h;obtain⟨c,rfl,f⟩:=d h;rw[Qg]at e b;have e:=of_decide_eq_false e;have b:i<(n:Int):=Ml b;refine⟨i.toNat::c,Gc (λx=>x::_) (DK (by lia)).symm,λj g=>?_⟩;refine aa λa=>?_;cases g with
    |head=>refine a ?_;clear a;lia|tail y h=>refine a ?_;clear a;exact f j h
structure qbg(n a:Nat)(r:Bool×W×Be)(js:List Nat)(as:List Int):Prop where
 out:r.2.1=.l (Cb js)
 js4:js.length<=4
 lt:∀j∈js,j<n
 ats:r.2.2.at=as.map W.int
 len:as.length=a
theorem UF{lo hi T:List Nat}{n:Nat}{r:Bool×W×Be}{x:Bool}(h:bad lo hi T n r=J x):(∃js as,qbg n T.length r js as)/\x= !Ym lo hi T []:=by
 refine aa λnq=>(gp h λis e1 e2=>?_);obtain⟨e3,e4⟩:=kE e2;refine gp e4 λas e5 e6=>?_;obtain⟨e7,e8⟩:=kE e6;obtain rfl:=ba e8;refine gp e1 λxs e9 e10=>?_;obtain⟨rfl,h4⟩:=Bq e10;obtain⟨js,rfl,h5⟩:=BI e3;obtain⟨h6,_⟩:=Bq e5;refine nq (⟨⟨js,as,⟨?_,by rw[wa]at h4;exact h4,h5,h6,by rw[Se,Se]at e7;exact Tc e7⟩⟩,rfl⟩);refine U (Hl _) ?_
 induction hw:r.2.1 using W.casesOn<;>rw[hw]at e9<;>first|exact ja e9|skip
 obtain rfl:=ba e9;rfl
section
variable {n:Nat} {S lo T:List Nat} {y:Y3}
theorem DQ{R:Type}{e:List W}{i:Nat}(d:i<lo.length)(k:Int->Int->Option R):Lp e (Cb (lo++[0])) (.int (.ofNat i)) k=Lp e (Cb lo) (.int (.ofNat i)) k:=by
 unfold Lp;refine ll λa u=>ll λc u=>ll λb f=>?_;cases (ba f:jb i=b);exact Gc (λo=>H o _) ((Mg (by refine U (Xa d) ?_;exact vc d):Lg (Cb (lo++[0])) (.ofNat i)=J (.int (.ofNat lo[i]!))).trans (Mg (vc d):Lg (Cb lo) (.ofNat i)=J (.int (.ofNat lo[i]!))).symm)
def PQ(R:Type)(y:Y3)(i N:Nat)(m:Option W×Unit)(h:H3)(k:Fw (Option W×Unit) H3->Option R):Option R:=u5 (λu h=>pQ (.int (.ofNat i)) y h) (wv 5000 (.int (.ofNat i)) y) N m h k
theorem ZD(g:CD n S lo T y)(O:y.wO=Cb (lo++[0])){i:Nat}(P:i<lo.length):∀{f N:Nat}{h:H3}{m:Option W×Unit}{r:Bool×W×Be},f<=N->kB y.wM y.wO (.int (.ofNat i)) (.ofNat i) f h.pl=J r->
 (r.1=Z->∃E,∀(R:Type) k,PQ R y i N m h k=k (.go E (h.wX r.2.2)))/\
 (r.1=ta->∀o as,qbg S.length n r o as->∀A b,SI A b h.st->∃C,SB C/\∀(R:Type) k,PQ R y i N m h k=k (.ret (.bool ta) ((h.wX r.2.2).putS C))):=by
 intro f
 induction f with
 |zero=>exactλu e=>ja e|succ f ih=>
  intro N h m r F e
  induction N using Sa with
  |zero=>exact zc F (yI f)|succ N=>
   have e:Lp h.pl.co y.wO (.int (.ofNat i)) (λx z=>M (Ph x z) (H (qaG y.wM y.wO (.ofNat i) h.pl) λr=>H (Oh r.1 .none) λb=>M b (J (ta,r.1,r.2)) (kB y.wM y.wO (.int (.ofNat i)) (.ofNat i) f r.2)) (J (Z,.none,h.pl)))=J r:=e;have tl:∀k:Int->Int->Option (Bool×W×Be),Lp h.pl.co y.wO (.int (.ofNat i)) k=Lp h.pl.co y.ca.wO (.int (.ofNat i)) k:=λk=>by
    exact U O (U g.wO (DQ P k))
   have e:=(tl _).symm.trans e;refine aa λl=>(gp e λa ea e=>(gp e λc ec e=>(gp e λb eb e=>?_)));refine gp e λd ed e=>(gp e λx ex e=>(gp e λz ez e=>(l ?_)));clear l;have e:M (Ph x z) (H (qaG y.wM y.wO (.ofNat i) h.pl) λr=>H (Oh r.1 .none) λb=>M b (J (ta,r.1,r.2)) (kB y.wM y.wO (.int (.ofNat i)) (.ofNat i) f r.2)) (J (Z,.none,h.pl))=J r:=e;have start:∀(R:Type) k,PQ R y i (N+1) m h k=M (Ph x z) (wv 5000 (.int (.ofNat i)) y m h λr=>Fw.rec (λm h=>PQ R y i N m h k) (λw h=>k (.ret w h)) r) (k (.go m h)):=λR k=>by
    show Lp h.pl.co y.ca.wO (.int (.ofNat i)) (λx z=>M (Ph x z) (wv 5000 (.int (.ofNat i)) y m h λr=>Fw.rec (λm h=>PQ R y i N m h k) (λw h=>k (.ret w h)) r) (k (.go m h)))=_
    exact(Kb ea).trans ((Kb ec).trans ((Kb eb).trans ((Kb ed).trans ((Kb ex).trans (Kb ez)))))
   induction q:Ph x z with
   |false=>
    rw[q]at e;refine aa λl=>?_;cases (ba e:(Z,W.none,h.pl)=r);refine l ?_;clear l;exact⟨λu=>⟨m,λR k=>(start R k).trans (fi q)⟩,λh=>zc h.symm ia⟩
   |true=>
    rw[q]at e;refine aa λl=>?_;refine gp (show H (qaG y.wM y.wO (.ofNat i) h.pl) _=J r from e) λj e1 e2=>?_;obtain⟨w,p⟩:=j;refine gp e2 λG K L=>(l ?_);clear l;have step:∀(R:Type) k,wv (R:=R) 5000 (.int (.ofNat i)) y m h k=M G (M (nb w) (H (El w) λos=>tt y.ca.wQ y.ca.wP os (h.wX p) λv=>Ro (.l v) (λs=>c3.wR y ((h.wX p).putS s)) h.st λs=>k (.ret (.bool ta) ((h.wX p).putS s))) Y) (k (.go (J w,()) (h.wX p))):=λR k=>by
     refine(Db rfl).trans ((Kb (rfl:Ua (.int (.ofNat i))=J _)).trans (dn ?_ ((fU (able:=y.wM) (lows:=y.wO) (N:=5000) (w:=.ofNat i) (σ:=λu=>[]) (h:=h.pl) R λt=>M (nb t.1) (H (Oh t.1 .none) λr=>M r (M (nb t.1) (H (El t.1) λos=>tt y.ca.wQ y.ca.wP os (h.wX t.2) λv=>Ro (.l v) (λs=>c3.wR y ((h.wX t.2).putS s)) h.st λs=>k (.ret (.bool ta) ((h.wX t.2).putS s))) Y) (k (.go (J t.1,()) (h.wX t.2)))) Y).trans ((Kb e1).trans ((Db (UW K)).trans (Kb K))))));exact U g.wM OM
    induction G with
    |false=>
     obtain⟨h1,h2⟩:=ih (h:=h.wX p) (m:=(J w,())) (Nat.le_of_succ_le_succ F) L;exact⟨λt=>(h1 t).imp λE D=>λR k=>(start R k).trans ((Db q).trans ((step R _).trans (D R k))),λt o as B A b I=>(h2 t o as B A b I).imp λC z=>⟨z.1,λR k=>(start R k).trans ((Db q).trans ((step R _).trans (z.2 R k)))⟩⟩
    |true=>
     cases (ba L:(ta,w,p)=r);refine⟨λh=>zc h ia,λu o as B A b I=>?_⟩;refine aa λl=>?_;obtain⟨v,t,D⟩:=OG (h:=h.wX p) g.n4 B.ats B.len B.lt B.js4;obtain⟨C,E⟩:=tz I t.pl (ib t.len (by decide)) (λs=>c3.wR y ((h.wX p).putS s)) (w:=.l v) rfl;have s:w=.l (Cb o):=B.out;subst s;refine l ?_;clear l;refine⟨_,C,λR k=>(start R k).trans ((Db q).trans ((step R _).trans ((Db rfl).trans ((Db rfl).trans ((Kb (rfl:El (.l (Cb o))=J (Cb o))).trans ?_)))))⟩;exact U g.wQ (U g.wP ((D R _).trans (E R _)))
theorem iJ(a:CD n S lo T y)(x:y.wO=Cb (lo++[0])):∀{c:List Nat}{h:H3}{m:HK}{r:Bool×W×Be},(∀k∈c,k<lo.length)->NM y.wM y.wO (Cb c) h.pl=J r->
 (r.1=Z->∃q,∀(R:Type) k,Kg (pB (R:=R) 5000 y) (Cb c) m h k=k (.go q (h.wX r.2.2)))/\
 (r.1=ta->∀d as,qbg S.length n r d as->∀f b,SI f b h.st->∃l,SB l/\∀(R:Type) k,Kg (pB (R:=R) 5000 y) (Cb c) m h k=k (.ret (.bool ta) ((h.wX r.2.2).putS l))):=by
 intro c
 induction c with
 |nil=>
  rintro h m r _ e;obtain rfl:=ba e;exact⟨λu=>⟨m,λR k=>rfl⟩,λh=>zc h.symm ia⟩
 |cons i c A=>
  rintro h m r s e;refine aa λg=>(gp (show H (kB y.wM y.wO (.int (.ofNat i)) (.ofNat i) 10 h.pl) _=J r from e) λt C o=>?_);obtain⟨D,E⟩:=ZD a x (s i sa) (N:=5000) (m:=(m.2.1,())) (by decide) C;refine g ?_
  induction j:t.1 with
  |true=>
   rw[j]at o;refine aa λg=>?_;obtain⟨m1,v⟩:=D j;obtain⟨F,G⟩:=A (h:=h.wX t.2.2) (m:=(J (.int (.ofNat i)),m1.1,())) (λk p=>s k (oa _ p)) o;exact g (⟨λp=>(F p).imp λq K=>λR k=>(v R _).trans (K R k),λp d as B f b I=>(G p d as B f b I).imp λl z=>⟨z.1,λR k=>(v R _).trans (z.2 R k)⟩⟩)
  |false=>
   rw[j]at o;refine aa λg=>?_;cases (ba o:t=r);exact g (⟨λh=>zc (j.symm.trans h) ia,λu d as B f b I=>(E j d as B f b I).imp λl z=>⟨z.1,λR k=>z.2 R _⟩⟩)
end
section
variable {o r x:Nat} {rs:List Nat}
theorem qf:{xs:List Nat}->Ze o xs=Z↔o∈xs:=by
 intro xs
 induction xs with
 |nil=>
  exact⟨λh=>(zc h ia),λh=>((Jb h).elim)⟩
 |cons x xs a=>
  show M (Rb x o) Z (Ze o xs)=Z↔_
  refine U (propext ab) (Bd (propext a) (U vm ?_))
  induction e:Rb x o with
  |true=>exact⟨λu=>.inl (Tc e).symm,λu=>rfl⟩|false=>exact⟨.inr,λh=>h.elim (λh=>zc h.symm (Gg e)) id⟩
theorem lq:{a:List Nat}->lp o a=a.count o:=by
 intro a
 induction a with
 |nil=>
  exact rfl
 |cons x a b=>
  show M (Rb x o) (pc (lp o a)) (lp o a)=_
  refine U Rw (U b (U vm ?_))
  induction e:Rb x o with
  |true=>exact U (Fd rfl) (U (Fd (beq_iff_eq.mpr (Tc e))) rfl)|false=>refine U (ge ia) (U (ge λh=>Gg e (beq_iff_eq.mp h)) ?_);rfl
structure Sy(rs xs:List Nat):Prop where
 len:xs.length=rs.length
 mem:(i r x:Nat)->rs[i]?=J r->xs[i]?=J x->x∈Lb r
theorem Sy.cons{c:List Nat}(h:x∈Lb r)(k:Sy rs c):Sy (r::rs) (x::c):=
 ⟨Gc pc k.len,λi a b d e=>by
  induction i using Sa with
  |zero=>obtain rfl:=ba d;obtain rfl:=ba e;exact h|succ i=>exact k.mem i a b d e⟩
theorem Sy.tail{a:List Nat}(k:Sy (r::rs) (x::a)):x∈Lb r/\Sy rs a:=⟨k.mem 0 r x rfl rfl,Jh k.len,λi r x h=>k.mem (i+1) r x h⟩
def zK(lo hi a:List Nat):Prop:=∀i l g,lo[i]?=J l->hi[i]?=J g->l<=a.count i/\a.count i<=g
variable {lo hi:List Nat}
theorem UR{f:Nat->Bool}:{os:List Nat}->(ic ta (λo u z=>M (f o) Z z) os:Bool)=Z↔∃o,o∈os/\f o=Z:=by
 intro os
 induction os with
 |nil=>
  exact⟨λh=>(zc h ia),λa=>by obtain⟨_,h,_⟩:=a;exact((Jb h).elim)⟩
 |cons o os b=>
  show M (f o) Z (ic ta (λo u z=>M (f o) Z z) os:Bool)=Z↔_
  induction e:f o with
  |true=>exact⟨λu=>⟨o,sa,e⟩,λu=>rfl⟩|false=>exact(b).trans ⟨λa=>by obtain⟨x,h,k⟩:=a;exact⟨x,oa _ h,k⟩,λa=>by obtain⟨x,h,k⟩:=a;exact(ab.mp h).elim (λz=>by rw[z,e]at k;exact zc k ia) λh=>⟨x,h,k⟩⟩
theorem iZ{acc:List Nat}:∀{lo:List Nat}{o:Nat}{hi:List Nat},(ic (motive:=λu=>Nat->List Nat->Bool) (λu u=>Z) (λl u ih o hi=>ic Z (λh hi u=>M (fh l (lp o acc)) (M (fh (lp o acc) h) (ih (pc o) hi) ta) ta) hi) lo o hi:Bool)=Z↔∀i l g,lo[i]?=J l->hi[i]?=J g->l<=acc.count (o+i)/\acc.count (o+i)<=g:=by
 intro lo
 induction lo with
 |nil=>
  intro o hi;exact⟨λu i l g h=>(ja h),λu=>rfl⟩
 |cons l lo ih0=>
  intro o hi
  induction hi using ma with
  |nil=>
   exact⟨λu i l g u h=>(ja h),λu=>rfl⟩
  |cons g hi=>
   show M (fh l (lp o acc)) (M (fh (lp o acc) g) (ic (motive:=λu=>Nat->List Nat->Bool) (λu u=>Z) (λl u ih o hi=>ic Z (λh hi u=>M (fh l (lp o acc)) (M (fh (lp o acc) h) (ih (pc o) hi) ta) ta) hi) lo (pc o) hi:Bool) ta) ta=Z↔_
   have ih:=ih0 (o:=pc o) (hi:=hi);refine U lq (U vm (U vm ?_))
   constructor
   ·intro h
    split at h
    ·rename_i h1
     split at h
     ·rename_i h2
      intro i a b ha hb
      induction i using Sa with
      |zero=>
       obtain rfl:=ba ha;obtain rfl:=ba hb;exact⟨gb h1,gb h2⟩
      |succ i=>
       have:=ih.mp h i a b ha hb;rw[Q5]at this;exact this
     ·exact zc h ia
    ·exact zc h ia
   ·intro h
    have h0:l<=acc.count o/\acc.count o<=g:=h 0 l g rfl rfl;refine U (Fd (KF h0.1)) (U (Fd (KF h0.2)) (ih.mpr λi a b ha hb=>?_));have:=h (i+1) a b ha hb;exact U (Q5 _ _) this
theorem bT:{rs a:List Nat}->Ym lo hi rs a=Z↔∃b,Sy rs b/\zK lo hi (b++a):=by
 intro rs
 induction rs with
 |nil=>
  intro a;have e:qem lo hi a=Z↔zK lo hi a:=by
   refine iZ.trans ?_;simp only[lh];rfl
  exact e.trans ⟨λh=>⟨[],⟨rfl,λu u u h=>(ja h)⟩,h⟩,λc=>by obtain⟨b,h,k⟩:=c;cases lg.mp h.len;exact k⟩
 |cons r rs d=>
  intro a;have e:Ym lo hi (r::rs) a=Z↔∃o,o∈Lb r/\Ym lo hi rs (o::a)=Z:=UR;have c:∀(o:Nat)(b:List Nat),zK lo hi (b++o::a)↔zK lo hi (o::b++a):=λo b=>by
   unfold zK;simp only[List.perm_middle.count_eq,Jm]
  refine e.trans ⟨λw=>?_,λw=>?_⟩
  ·obtain⟨o,f,h⟩:=w
   obtain⟨b,g,i⟩:=d.mp h;exact⟨o::b,.cons f g,(c o b).mp i⟩
  ·refine aa λf=>?_
   obtain⟨b,h,k⟩:=w
   induction b using ma with
   |nil=>refine f ?_;exact zc h.len.symm (Yb _)|cons x b=>refine f ?_;exact⟨x,h.tail.1,d.mpr ⟨b,h.tail.2,(c x b).mpr k⟩⟩
theorem pu:Ym lo hi rs []=Z↔∃a,Sy rs a/\zK lo hi a:=bT.trans (by simp only[Ub])
theorem fY:∀{rs a:List Nat}{k j:Nat},j∈gq lo hi o rs a k->k<=j:=by
 intro rs
 induction rs with
 |nil=>
  rintro _ _ _ h;exact(Jb h).elim
 |cons r rs b=>
  rintro a k j h;have h:j∈M (Ze o (Lb r)) (M (Ym lo hi (a++Hi o::rs) []) (gq lo hi o rs (a++[r]) (pc k)) (k::gq lo hi o rs (a++[r]) (pc k))) (gq lo hi o rs (a++[r]) (pc k)):=h;have b:j∈gq lo hi o rs (a++[r]) (pc k)->k<=j:=λh=>Tf (b h);revert h
  induction Ze o (Lb r)with
  |false=>exact b|true=>
   induction Ym lo hi (a++Hi o::rs) []with
   |true=>exact b|false=>exactλh=>(ab.mp h).elim (λe=>e▸Gb _) b
theorem Bx:∀{rs pre:List Nat}{k:Nat},(gq lo hi o rs pre k).Nodup:=by
 intro rs
 induction rs with
 |nil=>
  rintro _ _;exact iW
 |cons r rs a=>
  rintro pre k;show(M (Ze o (Lb r)) (M (Ym lo hi (pre++Hi o::rs) []) (gq lo hi o rs (pre++[r]) (pc k)) (k::gq lo hi o rs (pre++[r]) (pc k))) (gq lo hi o rs (pre++[r]) (pc k))).Nodup
  induction Ze o (Lb r)with
  |false=>exact a|true=>
   induction Ym lo hi (pre++Hi o::rs) []with
   |true=>exact a|false=>exact Ec.mpr ⟨λh=>zc (fY h) (Nat.not_succ_le_self k),a⟩
theorem XG:∀{rs pre:List Nat}{k j:Nat},pre.length=k->(j∈gq lo hi o rs pre k↔k<=j/\∃r,(pre++rs)[j]?=J r/\Ze o (Lb r)=Z/\Ym lo hi ((pre++rs).set j (Hi o)) []=ta):=by
 intro rs
 induction rs with
 |nil=>
  rintro pre k j e;exact⟨λh=>((Jb h).elim),λa=>by
   obtain⟨h,r,c,_⟩:=a;rw[Ub,Qc (e▸h)]at c;exact ja c⟩
 |cons r rs b=>
  rintro pre k j e;have b:=b (pre:=pre++[r]) (k:=pc k) (j:=j) (by refine U Ha (U e ?_);rfl);rw[Cc]at b;have i:(pre++r::rs)[k]?=J r:=by refine Bd e (U (Ma (Gb _)) (U (jh _) ?_));rfl
  have l:(pre++r::rs).set k (Hi o)=pre++Hi o::rs:=by refine Bd e (U (List.set_append_right _ _ (Gb _)) (U (jh _) ?_));rfl
  show j∈M (Ze o (Lb r)) (M (Ym lo hi (pre++Hi o::rs) []) (gq lo hi o rs (pre++[r]) (pc k)) (k::gq lo hi o rs (pre++[r]) (pc k))) (gq lo hi o rs (pre++[r]) (pc k))↔_
  have a:(Ze o (Lb r)=Z->Ym lo hi (pre++Hi o::rs) []=Z)->(j∈gq lo hi o rs (pre++[r]) (pc k)↔k<=j/\∃x,(pre++r::rs)[j]?=J x/\Ze o (Lb x)=Z/\Ym lo hi ((pre++r::rs).set j (Hi o)) []=ta):=λm=>b.trans ⟨λh=>⟨Tf h.1,h.2⟩,λg=>by
   obtain⟨h,x,d,c,f⟩:=g;exact⟨by
   rcases Hk h with z|z
   ·rw[<-z]at d f
    rw[i]at d;obtain rfl:=ba d;rw[l,m c]at f;exact zc f.symm ia
   ·exact z,x,d,c,f⟩⟩
  induction c:Ze o (Lb r)with
  |false=>exact a λh=>zc (c.symm.trans h) ia|true=>
   induction d:Ym lo hi (pre++Hi o::rs) []with
   |true=>exact a λu=>d|false=>
    refine ab.trans ⟨λh=>h.elim (λz=>by subst z;exact⟨Gb _,r,i,c,by refine U l ?_;exact d⟩) λh=>(b.mp h).imp_left Tf,λw=>?_⟩;rcases Hk w.1 with z|z
    ·exact .inl z.symm
    ·exact .inr (b.mpr ⟨z,w.2⟩)
end
def vi(vs:List Nat)(u:Nat):Nat:=ic 0 (λv y ih=>M (Rb v u) 0 (pc ih)) vs
def R6(os:List Nat):Nat:=ic 0 (λo u ih=>Nat.lor (Hi o) ih) os
def se(vs:List Nat)(m:Nat):Nat:=R6 ((Lb m).map (vi vs))
noncomputable abbrev ze:List (List Nat):=[[0],[1],[2],[0,1],[1,2],[2,0]]
noncomputable abbrev Qm:List Nat:=[1,2,3,4,5,6,7]
noncomputable abbrev Yk:List Nat:=[0,1,2]
theorem Mk.mem{m:Nat}:Mk m->m∈Qm:=Mk.all (P:=λm=>m∈Qm) (by decide)
theorem Mk.mem'{m:Nat}(h:m∈Qm):Mk m:=Mk.of (by revert h;revert m;decide) (by revert h;revert m;decide)
theorem V3.mem{u:Nat}:V3 u->u∈Yk:=V3.all (P:=λu=>u∈Yk) (by decide)
theorem dD{i:Nat}(h:i<=2):i∈Yk:=(ac.mpr (Uf h):i∈Ka 3)
theorem V3.mem'{u:Nat}(h:u∈Yk):V3 u:=V3.of (by revert h;revert u;decide)
theorem uh:∀a∈ze,(∀u∈Yk,vi a u<=a.length/\Hi (vi a u)=se a (Hi u))/\(∀i∈Yk,i<a.length->a[i]! ∈Yk/\vi a a[i]! =i)/\a.length<=2/\a≠[]:=by decide+kernel
theorem rQ:∀a∈ze,∀m∈Qm,∀o∈Yk,o<=a.length->∀u∈Lb m,Ze u (Ck o a m)=Rb (vi a u) o:=by decide+kernel
theorem Cw:∀a∈ze,∀m∈Qm,se a m∈Qm/\(∀o∈Yk,Ze o (Lb (se a m))=Ze o ((Lb m).map (vi a)))/\∀o∈Lb (se a m),o<=a.length:=by decide+kernel
theorem pV:∀m∈(0::Qm),∀u∈Yk,qp m u∈(0::Qm)/\∀w∈Yk,Ze w (Lb (qp m u))=(Ze w (Lb m)&& !Rb w u):=by decide+kernel
theorem Sj:∀m∈(0::Qm),∀w∈Lb m,w∈Yk:=by decide+kernel
theorem qaT:∀a∈(0::Qm),∀b∈(0::Qm),(∀w∈Yk,Ze w (Lb a)=Ze w (Lb b))->a=b:=by decide+kernel
def p9(vs:List Nat)(m:Nat):List Nat:=if((Ka vs.length).filter λi=>Ze vs[i]! (Lb m)).length<(Lb m).length then((Ka vs.length).filter λi=>Ze vs[i]! (Lb m))++[vs.length]else(Ka vs.length).filter λi=>Ze vs[i]! (Lb m)
theorem qQ:∀a∈ze,∀m∈Qm,p9 a m=Lb (se a m):=by decide+kernel
theorem HG:∀{d:List Nat}{m:Nat},m∈(0::Qm)->(∀u∈d,u∈Yk)->yq m d∈(0::Qm)/\∀w∈Yk,(w∈Lb (yq m d)↔w∈Lb m/\¬w∈d):=by
 intro d
 induction d with
 |nil=>
  rintro m h _;exact⟨h,λw y=>⟨λx=>⟨x,Jb⟩,λx=>x.1⟩⟩
 |cons u d j=>
  rintro m h i;refine aa λk=>?_;obtain⟨l,n⟩:=pV m h u (i u sa);obtain⟨o,p⟩:=j l λw g=>i w (oa _ g);refine k (⟨o,λw g=>(p w g).trans ?_⟩);refine Bd (propext (qf (xs:=Lb (qp m u)))) (U (n w g) (Bd (propext (qf (xs:=Lb m))) (U (Dd _ _) (U (propext ab) ?_))));have e:(!Rb w u)=Z↔w≠u:=by
   induction e:Rb w u with
   |true=>exact⟨λh=>(zc h ia),λh=>zc (Tc e) h⟩|false=>exact⟨λy=>Gg e,λy=>rfl⟩
  exact U (propext e) (⟨λf=>by obtain⟨⟨a,b⟩,c⟩:=f;exact⟨a,λx=>x.elim b c⟩,λf=>by obtain⟨a,b⟩:=f;exact⟨⟨a,λx=>b (.inl x)⟩,λx=>b (.inr x)⟩⟩)
theorem iE{o:Nat}{vs:List Nat}:∀{a ms:List Nat}{j:Nat},a.Nodup->(∀k∈a,k<ms.length)->(tm o vs ms a).length=ms.length/\(tm o vs ms a)[j]! =if j∈a then yq ms[j]! (Ck o vs ms[j]!)else ms[j]! :=by
 intro a
 induction a with
 |nil=>
  rintro ms j _ _;exact⟨rfl,rfl⟩
 |cons k a d=>
  rintro ms j b h;have c:(xz o vs ms k).length=ms.length:=yb;obtain⟨f,g⟩:=d (ms:=xz o vs ms k) (j:=j) (Ec.mp b).2 λx i=>c▸h x (oa _ i);refine⟨f.trans c,g.trans ?_⟩;by_cases e:k=j
  ·subst e
   refine U (ge ((Ec.mp b).1)) (U (Fd sa) ?_);refine U Bc (U (je (h k sa)) ?_);rfl
  ·have l:(xz o vs ms k)[j]! =ms[j]! :=by
    unfold xz;exact U Bc (U (Xc e) (Bd Bc rfl))
   refine U l ?_;by_cases x:j∈a
   ·exact U (Fd x) (U (Fd (oa _ x)) rfl)
   ·exact U (ge x) (U (ge λz=>(ab.mp z).elim (λz=>e z.symm) x) rfl)
theorem iA:∀x∈Yk,Lb (Hi x)=[x]:=by decide
theorem zn{W:List Nat}{k:Nat}(h:k<W.length):W[k]! ∈W:=Na (vc h)
def RW(X lo V W:List Nat)(k u:Nat):Bool:=Ym lo V ((W.map (se X)).set k (Hi (vi X u))) []
section
variable {X lo V W T:List Nat} {o:Nat}
theorem bK(j:X∈ze)(l:∀m∈W,m∈Qm)(b:Ym lo V (W.map (se X)) []=Z){k:Nat}(c:k<W.length):∃u,u∈Lb W[k]! /\RW X lo V W k u=Z:=by
 refine aa λm=>?_;obtain⟨f,F,C⟩:=pu.mp b;have e:=vc (by refine U F.len (U (wa _) ?_);exact c:k<f.length);obtain⟨n,p,t⟩:=Cw X j _ (l _ (zn c));have b:=F.mem k _ _ (by refine U Dc (U (vc c) ?_);rfl:(W.map (se X))[k]?=J (se X W[k]!)) e;have g:f[k]! ∈Yk:=Sj _ (oa _ n) _ b;have h:=p _ g;rw[qf.mpr b]at h;obtain⟨u,q,s⟩:=Qb.mp (qf.mp h.symm);refine m ?_;refine⟨u,q,pu.mpr ⟨f,⟨by refine U yb ?_;exact F.len,λi r x d a=>?_⟩,C⟩⟩;by_cases z:k=i
 ·subst z
  rw[je (by refine U (wa _) ?_;exact c)]at d;obtain rfl:=ba d;rw[e]at a;obtain rfl:=ba a;exact U s (U (iA _ g) (Mm _))
 ·rw[Xc z]at d
  exact F.mem i r x d a
structure Ko(X lo V W:List Nat)(o:Nat)(T:List Nat):Prop where
 len:T.length=W.length
 msk:∀k,k<W.length->T[k]! ∈Qm
 mem:∀k,k<W.length->∀u∈Yk,(u∈Lb T[k]! ↔u∈Lb W[k]! /\(vi X u<o->RW X lo V W k u=Z))
theorem Ko.start(a:∀m∈W,m∈Qm):Ko X lo V W 0 W:=⟨rfl,λk b=>a _ (zn b),λk y u y=>⟨λh=>⟨h,λh=>zc h (Xe _)⟩,JX⟩⟩
theorem Ko.step(q:X∈ze)(B:∀m∈W,m∈Qm)(E:Ym lo V (W.map (se X)) []=Z)(C:o<=X.length)(I:Ko X lo V W o T):
 (∀k∈gq lo V o (W.map (se X)) [] 0,k<W.length/\Mk (yq T[k]! (Ck o X T[k]!)))/\Ko X lo V W (o+1) (tm o X T (gq lo V o (W.map (se X)) [] 0)):=by
 have x:o∈Yk:=by
  have:=(uh X q).2.2.1;have:o<=2:=Za C this;exact dD this
 have l:∀k,k<W.length->(k∈gq lo V o (W.map (se X)) [] 0↔Ze o ((Lb W[k]!).map (vi X))=Z/\Ym lo V ((W.map (se X)).set k (Hi o)) []=ta):=λk g=>by
  have b:(W.map (se X))[k]?=J (se X W[k]!):=by refine U Dc (U (vc g) ?_);rfl
  have c:=(Cw X q _ (B _ (zn g))).2.1 o x;refine(XG rfl).trans ⟨λw=>?_,λa=>by obtain⟨m,s⟩:=a;exact⟨Zc _,_,b,c.trans m,s⟩⟩;refine aa λA=>?_;obtain⟨_,r,m,s,t⟩:=w;cases b.symm.trans m;exact A (⟨c.symm.trans s,t⟩)
 have w:∀k∈gq lo V o (W.map (se X)) [] 0,k<W.length:=λk h=>by
  refine aa λA=>?_;obtain⟨_,r,m,_⟩:=(XG rfl).mp h;refine A ?_;have:=(ub.mp m).1;rw[List.nil_append,wa]at this;exact this
 have get:=λj=>iE (o:=o) (vs:=X) (j:=j) (Bx (lo:=lo) (hi:=V) (o:=o) (rs:=W.map (se X)) (pre:=[]) (k:=0)) λk g=>I.len▸w k g;have n:∀k,k<W.length->∀u∈Lb T[k]!,(u∈Ck o X T[k]! ↔vi X u=o):=λk g u p=>by
  refine Bd (propext qf) (U (rQ X q _ (I.msk k g) o x C u p) ?_);exact⟨Tc,λh=>by refine U h ?_;exact Nat.beq_refl o⟩
 have D:∀k,k<W.length->∀u∈Ck o X T[k]!,u∈Yk:=λk g u p=>(sI (λv a=>by
  obtain⟨i,V,rfl⟩:=Dj a;have s:=(uh X q).2.2.1;have t:i∈Yk:=by
   have:i<=2:=by lia
   exact dD this
  have:=((uh X q).2.1 i t V).1;rw[getElem!_pos X i V]at this;exact V3.mem' this) (Mk.mem' (I.msk k g)) u p).mem
 have r:∀k,k<W.length->∀u∈Yk,(u∈Lb (tm o X T (gq lo V o (W.map (se X)) [] 0))[k]! ↔u∈Lb W[k]! /\(vi X u<o+1->RW X lo V W k u=Z)):=λk g u p=>by
  refine U ((get k).2) ?_;by_cases i:k∈gq lo V o (W.map (se X)) [] 0
  ·refine U (Fd i) ?_
   refine((HG (oa _ (I.msk k g)) (D k g)).2 u p).trans ⟨λ⟨a,b⟩=>?_,λ⟨a,b⟩=>?_⟩
   ·have e:vi X u≠o:=λz=>b ((n k g u a).mpr z)
    obtain⟨c,d⟩:=(I.mem k g u p).mp a;exact⟨c,λz=>d (Ik (Sf z) e)⟩
   ·have c:=(I.mem k g u p).mpr ⟨a,λz=>b (oe z)⟩
    refine⟨c,λz=>?_⟩;have e:=(n k g u c).mp z;have f:=b (e▸Vc _);unfold RW at f;rw[e,((l k g).mp i).2]at f;exact zc f ia
  ·refine U (ge i) ((I.mem k g u p).trans ⟨λ⟨a,b⟩=>⟨a,λz=>?_⟩,λ⟨a,b⟩=>⟨a,λz=>b (oe z)⟩⟩)
   rcases Hk (Sf z)with e|e
   ·induction f:RW X lo V W k u with
    |true=>rfl|false=>
     unfold RW at f;rw[e]at f;exact zc ((l k g).mpr ⟨qf.mpr (Qb.mpr ⟨u,a,e⟩),f⟩) i
   ·exact b e
 have a:∀k,k<W.length->(tm o X T (gq lo V o (W.map (se X)) [] 0))[k]! ∈Qm:=λk g=>by
  refine aa λA=>?_;obtain⟨u,m,s⟩:=bK q B E g;refine A ?_;have t:=(r k g u (Sj _ (oa _ (B _ (zn g))) u m)).mpr ⟨m,λy=>s⟩;have b:(tm o X T (gq lo V o (W.map (se X)) [] 0))[k]! ∈(0::Qm):=by
   refine U ((get k).2) ?_
   split
   ·exact(HG (oa _ (I.msk k g)) (D k g)).1
   ·exact oa _ (I.msk k g)
  rcases ab.mp b with z|z
  ·rw[z]at t;cases t
  ·exact z
 exact⟨λk h=>⟨w k h,by have:=a k (w k h);rw[(get k).2,Fd h]at this;exact Mk.mem' this⟩,⟨(get 0).1.trans I.len,a,r⟩⟩
end
theorem SS:∀{b:List Int}{a:List Nat},qbH b a=Z->b=a.map jb:=by
 intro b
 induction b with
 |nil=>
  intro a h
  induction a using ma with
  |nil=>rfl|cons=>exact zc h ia
 |cons x b c=>
  intro a h
  induction a using ma with
  |nil=>exact zc h ia|cons y a=>
   have h:M (Rp x (.ofNat y)) (qbH b a) ta=Z:=h
   induction e:Rp x (.ofNat y)with
   |false=>rw[e]at h;exact zc h ia|true=>
    rw[e]at h;rw[wp]at e;refine U (Ml e) (U (c h) ?_);rfl
theorem XR{lo X:List Nat}{o:Nat}:∀{b a:List Nat}{k:Nat},(gq lo X o b a k).length<=b.length:=by
 intro b
 induction b with
 |nil=>exact Gb _|cons r b c=>
  intro a k;show(M (Ze o (Lb r)) (M (Ym lo X (a++Hi o::b) []) (gq lo X o b (a++[r]) (pc k)) (k::gq lo X o b (a++[r]) (pc k))) (gq lo X o b (a++[r]) (pc k))).length<=_
  induction Ze o (Lb r)with
  |false=>exact Ld c|true=>
   induction Ym lo X (a++Hi o::b) []with
   |true=>exact Ld c|false=>exact vf c
section
variable {n:Nat} {V lo X T:List Nat} {y:Y3}
theorem PO(a:CD n V lo (T.map (se V)) y)(v:V∈ze)(i:T.length=n)(A:∀m∈T,m∈Qm)(B:Ym lo X (T.map (se V)) []=Z):∀{os:List Nat}{o b:Nat}{h:H3}{m:Option W×Unit}{ns:List Nat}{x:Bool},os=IF o os.length->o+os.length=V.length+1->UL y.ca.wQ y.wM y.wO y.wN lo X (T.map (se V)) os h.pl=J x->Ko V lo X T o ns->SI ns b h.st->b+12*os.length<=4000->
 ∃C d g,Ko V lo X T (V.length+1) g/\SI g (b+12*os.length) d.st/\∀(R:Type) k,Kg (ny (R:=R) 5000 y) (Cb os) m h k=k (.go C d):=by
 intro os
 induction os with
 |nil=>
  intro o b h m ns x _ e _ K I _;exact⟨m,h,ns,(show o=V.length+1 from e)▸K,I,λR k=>rfl⟩
 |cons o os D=>
  intro o' b h m ns x j E e K I F;rw[nc,List.range'_succ]at j;refine aa λs=>?_;cases (EK j).1;rw[nc]at E F;refine gp (show H (qaQ y.wM y.wO y.wN (.ofNat o) h.pl) _=J x from e) λz G e=>?_;obtain⟨f,r,p⟩:=z;refine gp e λfs L e=>(gp e λas N e=>?_);obtain⟨t,e⟩:=kE e;refine gp e λO P e=>(gp e λis Q e=>?_);obtain⟨S,e⟩:=kE e;obtain⟨f1,f2⟩:=Bq L;obtain⟨a1,a2⟩:=Bq N;have ht:as.length=n:=by
   rw[Se,Se,a.wQ,wc,Ab]at t;exact Tc t
  obtain⟨k1,k2⟩:=K.step v A B (by lia);have kl:(gq lo X o (T.map (se V)) [] 0).length<=4:=Za XR (by refine U (wa _) (U i ?_);exact a.n4);obtain⟨d,u,e9⟩:=gx a (o:=o) G f1 f2 a1 ht ((by exact U (Bz Q) (U (SS S) (U (Hl _) rfl)):O=Cb (gq lo X o (T.map (se V)) [] 0))▸P) (K.len.trans i) Bx (λk l=>i▸k1 k l) kl (by lia) I;obtain⟨m2,h2,l,K2,I2,q⟩:=D (m:=(J (.int (.ofNat o)),())) ((EK j).2) (by lia) (by refine U u.pl ?_;exact e:UL y.ca.wQ y.wM y.wO y.wN lo X (T.map (se V)) os d.pl=J x) k2 (u.si.mono (c:=b+12) (by lia)) (by lia);refine s ?_;clear s;have st:∀(R:Type) k,ny (R:=R) 5000 y (.int (.ofNat o)) m h k=k (.go (J (.int (.ofNat o)),()) d):=λR k=>e9 R λw h=>H (Ii w) λb=>M (!b) (k (.ret (.bool ta) h)) (k (.go (J (.int (.ofNat o)),()) h));exact⟨m2,h2,l,K2,by refine U nc ?_;exact I2.mono (by lia),λR k=>(st R _).trans (q R k)⟩
end
section
variable {V X:List Nat} {b:Nat} {s:Gf}
theorem BX(a:X∈ze){i:Nat}(c:i<X.length):V3 X[i]! :=by
 have e:=(uh X a).2.2.1;have d:i∈Yk:=by
  have:i<=2:=by lia
  exact dD this
 exact V3.mem' ((uh X a).2.1 i d c).1
theorem Gq(a c:List Nat):Cb (a++c)=Cb a++Cb c:=by exact U (Pd _) (U (Pd _) (U (Pd _) (U ER rfl)))
theorem kU(I:SI V b s)(c:X∈ze){x m:Nat}(d:V[x]?=J m){R:Type}(k:List W->Option R):QO s.wL (Cb X) (.int (.ofNat x)) k=k (Cb (Lb (se X m))):=by
 have f:=I.all _ (Na d);have g:=(uh X c).2.2.1;refine Bd (qQ X c m f.mem) ?_;show gZ s.wL (Cb X) _ _=_
 unfold gZ;refine U ag ?_;refine(xg (by lia) _).trans ((Ch (p:=λi=>Ze X[i]! (Lb m)) (λi a j=>?_) _).trans ((Db (Kc ?_)).trans ?_))
 ·have a:=ac.mp a
  have e:Lg (Cb X) (.ofNat i)=J (.int (.ofNat X[i]!)):=Mg (vc a);exact(Kb e).trans ((rp I d _).trans (Kb (w3 f (BX c a))))
 ·exact U (wc _) (ib (Ob _ _) (by refine U Ab ?_;lia))
 ·refine(Db rfl).trans ((rp I d _).trans ((Kb (j3 f)).trans ?_))
  have e:Ph (Td (Cb ((Ka X.length).filter λi=>Ze X[i]! (Lb m)))) (.ofNat (len (Lb m)))=bc ((Ka X.length).filter λi=>Ze X[i]! (Lb m)).length (Lb m).length:=by
   refine U ag (U (Se _) ?_);rfl
  have l:((Ka X.length).filter λi=>Ze X[i]! (Lb m)).length<=2:=Za (Ob _ _) (by refine U Ab ?_;exact g);unfold p9;by_cases h:((Ka X.length).filter λi=>Ze X[i]! (Lb m)).length<(Lb m).length
  ·refine U (Fd h) (U (Gq _ _) ((Db (e.trans (ud.mpr h))).trans (Db (Kc ?_))))
   refine U Ha (U (wc _) ?_);show _+1<_;lia
  ·exact U (ge h) (fi (e.trans (Vs.mpr λz=>h (ud.mp z))))
structure LK(n:Nat)(X lo hi:List Nat)(ca:sr):Prop where
 n3:n<=3
 vs':X∈ze
 lo':lo.length=X.length
 hi':hi.length=X.length
 wQ:ca.wQ=Cb (Ka n)
 wP:ca.wP=Cb X
 wO:ca.wO=Cb lo
 wN:ca.wN=Cb hi
theorem Lu:∀a:List Nat,ci a=a.map λr=>W.l (Cb (Lb r)):=by
 intro a
 induction a with
 |nil=>
  exact rfl
 |cons r a c=>
  exact Gc (λx=>W.l (Cb (Lb r))::x) (c)
theorem MR{n:Nat}{lo a:List Nat}{c:sr}(C:LK n X lo a c)(I:SI V b s)(d:V.length=n){R:Type}(k:List W->Option R):sL s.wL c k=k (ci (V.map (se X))):=by
 unfold sL;have j:=C.n3;refine U C.wQ (U C.wP ?_);refine(Db (Kc (by refine U (wc _) (U Ab ?_);lia))).trans ((aJ (f:=λv=>Pp [] (λi=>[W.l (Cb (Lb (se X V[i.toNat]!)))]) (Ua v)) (λv g l=>?_) _).trans ?_)
 ·rw[Pd]at g
  obtain⟨i,a,rfl⟩:=Qb.mp g;have a:=ac.mp a;exact kU I C.vs' (vc (d.symm▸a)) _
 ·have e:(Cb (Ka n)).flatMap (λv=>Pp [] (λi=>[W.l (Cb (Lb (se X V[i.toNat]!)))]) (Ua v))=ci (V.map (se X)):=by
   refine U (Pd _) (U (Lu _) (U (List.flatMap_map _ _ _) (U Rd (Bd List.map_eq_flatMap (Zs λi=>?_)))));refine U Dc (U Dc ?_);by_cases h:i<n
   ·refine U (af h) (U (vc (d.symm▸h)) ?_);rfl
   ·refine U (Qc (by rw[Ab];lia)) (U (Qc (by lia)) ?_);rfl
  refine U e ?_;exact Db (Kc (by refine U (Lu _) (U (wa _) (U (wa _) ?_));lia))
end
theorem qy{b c:Bool}(h:M b c ta=Z):b=Z/\c=Z:=by
 induction b with
 |true=>exact⟨rfl,h⟩|false=>exact zc h ia
theorem bl{f:Nat->Bool}:{z:Nat}->MA f z=Z->∀a,1<=a->a<=z->f a=Z:=by
 intro z
 induction z with
 |zero=>
  rintro _ a d g;exact zc (Za d g) (yI 0)
 |succ z i=>
  rintro h a d g;obtain⟨j,k⟩:=qy (b:=f (z+1)) (c:=MA f z) h;rcases Hk g with e|e
  ·exact U e j
  ·exact i k a d (Sf e)
theorem LA{lo j os:List Nat}{z:Nat}(h:Po lo j os z=Z):{e:List Nat}->e≠[]->e.length<=3->(∀r∈e,1<=r/\r<=z)->chk lo j e e.length os=J Z:=by
 have d:{o:Option Bool}->yes o=Z->o=J Z:=λ{o} h=>by
  induction o with
  |none=>exact zc h ia|some b=>exact Gc J h
 obtain⟨l,h⟩:=qy h;obtain⟨m,h⟩:=qy h;intro e n p i
 induction e using ma with
 |nil=>exact zc rfl n|cons a e=>
  have f:=i a sa
  induction e using ma with
  |nil=>exact d (bl l a f.1 f.2)|cons b e=>
   have g:=i b (oa _ sa)
   induction e using ma with
   |nil=>exact d (bl (bl m a f.1 f.2) b g.1 g.2)|cons c e=>
    have k:=i c (oa _ (oa _ sa))
    induction e using ma with
    |nil=>exact d (bl (bl (bl h a f.1 f.2) b g.1 g.2) c k.1 k.2)|cons=>exact zc p (nL.mpr (We 4 _))
inductive yR:List Nat->List Nat->List Nat->Prop
 |one (v l h:Nat):l<=2->h<=4->yR [v] [l] [h]|two (v w l h g:Nat):l<=2->h<=4->g<=2->yR [v,w] [l,0] [h,g]
theorem ES:∀l∈Ka 3,∀h∈Ka 5,l<=h->(l,h)∈[(0,0),(0,1),(0,2),(0,3),(0,4),(1,1),(1,2),(1,3),(1,4),(2,2),(2,3),(2,4)]:=by decide
theorem aB{l h g:Nat}(c:l<=2)(d:h<=4)(f:g<=2)(i:l<=h):Po [l] [h] [0,1] 3=Z/\Po [l,0] [h,g] [0,1,2] 7=Z:=by
 have e:=qy (n7 _ (ES l (ac.mpr (Uf c)) h (ac.mpr (Uf d)) i));have a:=qy e.2;have b:=qy a.2;exact⟨e.1,V3.all (P:=λg=>Po [l,0] [h,g] [0,1,2] 7=Z) ⟨a.1,b.1,b.2⟩ (V3.of (Uf f))⟩
theorem D2:∀a∈ze,∀m∈Qm,1<=se a m/\se a m<=(if a.length=1 then 3 else 7):=by decide+kernel
theorem DS{a lo c b:List Nat}(o:a∈ze)(p:yR a lo c)(j:∀i,i<a.length->lo[i]! <=c[i]!)(q:∀m∈b,m∈Qm)(s:b≠[])(i:b.length<=3):chk lo c (b.map (se a)) b.length (Ka (a.length+1))=J Z:=by
 have e:(b.map (se a)).length=b.length:=wa _;refine Bd e ?_;have k:b.map (se a)≠[]:=λz=>s (List.map_eq_nil_iff.mp z);have n:∀r∈b.map (se a),1<=r/\r<=(if a.length=1 then 3 else 7):=λr t=>by
  obtain⟨m,d,rfl⟩:=Qb.mp t;exact D2 a o m (q m d)
 cases p with
 |one v l h d f=>exact LA (aB d f (Zc 2) (j 0 (Iu _))).1 k (e▸i) n|two v w l h g d f m=>exact LA (aB d f m (j 0 (Iu _))).2 k (e▸i) n
theorem hH{x:Bool}(h:Z= !x):x=ta:=by induction x with|true=>exact zc h.symm ia|false=>rfl
theorem dO{n:Nat}(h:n<4096){v:W}{R:Type}(k:List W->Option R):VZ (.ofNat n) v k=k (Ia n v):=by
 exact(Db (by refine U (by rw[Qg];exact decide_eq_false (Ui.mpr (xf n)):Ph (.ofNat n) 0=ta) ?_;rfl)).trans (Db (by refine U (Qg _ _) ?_;exact decide_eq_true (show(n:Int)<4096 by lia):Ph (.ofNat n) 4096=Z))
theorem vP(n:Nat):qw n 0=Cb (Ka n):=by
 exact U (Vz _ _) (U (Pd _) (gg λi u=>Gc W.int (I5 (i:Int))))
inductive BF(X lo V T:List Nat)(b:Nat)(s:Gf):Bool->Prop
 |yes {ns:List Nat}:Ko X lo V T (X.length+1) ns->SI ns (b+36) s->BF X lo V T b s Z|no:SB s->BF X lo V T b s ta
theorem VL{g a c d:List W}{lo V f:List Nat}{x:Bool}:∀{os:List Nat}{h:Be},UL g a c d lo V f os h=J x->Ym lo V f []=x:=by
 intro os
 induction os with
 |nil=>
  rintro h e;exact ba e
 |cons o os i=>
  rintro h e;refine aa λj=>(gp (show H (qaQ a c d (.ofNat o) h) _=J x from e) λz z e=>(gp e λz z e=>(gp e λz z e=>?_)));obtain⟨_,e⟩:=kE e;refine gp e λz z e=>(gp e λz z e=>?_);obtain⟨_,e⟩:=kE e;exact j (i e)
section
variable {n b:Nat} {X lo V T:List Nat} {S:sr} {s:Gf}
theorem mH(C:LK n X lo V S){R:Type}(k:List W->Option R):RO S k=k (Cb ((Ka X.length).filter λi=>Ph (.ofNat V[i]!) (.ofNat lo[i]!))):=by
 have c:=(uh X C.vs').2.2.1;unfold RO;refine U C.wP (U ag ?_);refine(xg (by lia) _).trans ((Ch (p:=λi=>Ph (.ofNat V[i]!) (.ofNat lo[i]!)) (λi a d=>?_) _).trans (Db (Kc ?_)))
 ·have a:=ac.mp a
  exact(Kb (by refine U C.wO ?_;exact Mg (vc (C.lo'.symm▸a)):Lg S.wO (.ofNat i)=J (.int (.ofNat lo[i]!)))).trans (Kb (by refine U C.wN ?_;exact Mg (vc (C.hi'.symm▸a)):Lg S.wN (.ofNat i)=J (.int (.ofNat V[i]!))))
 ·exact U (wc _) (ib (Ob _ _) (by refine U Ab ?_;lia))
theorem iU(C:LK n X lo V S)(B:yR X lo V)(I:SI T b s)(A:T.length=n)(h1:T≠[])(hb:b+40<=4000):∃g j,BF X lo V T b g (Ym lo V (T.map (se X)) [])/\∀(R:Type) k,Gy (R:=R) 5000 S s k=k (.bool (Ym lo V (T.map (se X)) [])) g j:=by
 have h2:=(uh X C.vs').2.2.1;have Q:=C.n3;have N:∀m∈T,m∈Qm:=λm h=>(I.all m h).mem;by_cases E:(Ka X.length).filter (λi=>Ph (.ofNat V[i]!) (.ofNat lo[i]!))=[]
 ·have h0:∀i,i<X.length->lo[i]! <=V[i]! :=λi d=>by
   have:=Yh.mp E i (ac.mpr d);rw[Qg]at this;have:=λh=>this (decide_eq_true (p:=jb V[i]! <jb lo[i]!) h);exact og λz=>this (li.mpr z)
  have c:=DS C.vs' B h0 N h1 (A▸Q);have ey:S.wO++[.int 0]=Cb (lo++[0]):=by refine U C.wO (U (Gq _ _) ?_);rfl
  have eh:S.wN++[.int (Td S.wQ+1)]=Cb (V++[n+1]):=by refine U C.wN (U C.wQ (U ag (U Ab (U (Gq _ _) ?_))));rfl
  let rs:=T.map (se X)
  let y:Y3:=((),S,(ci rs,Cb (lo++[0]),Cb (V++[n+1]),()),())
  let h:H3:=(s,(),(Ia n (.int (-1)),Ia (X.length+1) (.int 0),()),())
  have a:CD n X lo rs y:=⟨Ld Q,by lia,C.lo',λv e=>by
   obtain⟨i,V,rfl⟩:=Dj e;have:=BX C.vs' V;rw[getElem!_pos X i V]at this;exact this,C.wQ,C.wP,C.wO,rfl⟩
  have lt:Td y.ca.wQ=.ofNat n:=by show Td S.wQ=_;exact U C.wQ (U ag (U Ab rfl))
  have lw:Td y.ca.wP=.ofNat X.length:=by show Td S.wP=_;exact U C.wP (U ag rfl)
  have l:∀(R:Type) m h k,XB (R:=R) y m h k=Kg (my y) (Cb (Ka n)) m h k:=λR m h k=>by
   unfold XB;refine U lt ?_;exact xg (by lia) _
  have t:∀(R:Type) m h k,YB (R:=R) 5000 y m h k=Kg (pB 5000 y) (Cb (Ka lo.length)) m h k:=λR m h k=>by
   unfold YB;refine U lw (U C.lo' ?_);exact xg (by lia) _
  have O:∀(R:Type) m h k,ZB (R:=R) 5000 y m h k=Kg (ny 5000 y) (Cb (Ka (X.length+1))) m h k:=λR m h k=>by
   unfold ZB;refine U lw ?_;exact xg (n:=X.length+1) (by lia) _
  have start:∀(R:Type) k,Gy (R:=R) 5000 S s k=XB y (Y,Y,()) h λr=>Fw.rec (λm h=>YB 5000 y (Y,Y,()) h λr=>Fw.rec (λm h=>ZB 5000 y (m.1,()) h λr=>Fw.rec (λm h=>k (.bool Z) h.st [WO y h]) (λw h=>k w h.st [WO y h]) r) (λw h=>k w h.st [WO y h]) r) (λw h=>k w h.st [WO y h]) r:=λR k=>by
   unfold Gy;refine(mH C _).trans (U E ((Kb (vl [])).trans ((fi rfl).trans ((MR C I A _).trans (U ey (U eh ?_))))));refine(Db (Kc (by refine U (wc _) (U Ha (U C.lo' ?_));show X.length+1<_;lia))).trans ((Db (Kc (by refine U (wc _) (U Ha (U C.hi' ?_));show X.length+1<_;lia))).trans ?_);have e:Td (ci rs)=.ofNat n:=by exact U (Lu _) (U Kn (U (wa _) (U A rfl)))
   have f:Td (Cb (lo++[0]))=.ofNat (X.length+1):=by refine U ag (U Ha (U C.lo' ?_));rfl
   unfold mN;exact U e (U f ((dO (by lia) _).trans (dO (by lia) _)))
  subst A;unfold chk at c;rw[Se (Ka _),Ab,vP,vP,Se lo]at c;refine aa λf=>(gp c λq c1 c=>?_);obtain⟨p1,p2⟩:=ME a (ms:=T) (b:=b) (h:=h) (m:=(Y,Y,())) rfl (λk L=>ac.mp L) I c1;refine f ?_
  induction F:q.1 with
  |false=>
   rw[F]at c;refine aa λf=>?_;obtain⟨⟨P,as,D⟩,e⟩:=UF c;have e:=hH e;obtain⟨g,u,v⟩:=p2 F _ as (D.out.trans (Gc W.l (Hl P))) (by refine U (wa _) ?_;exact D.js4) D.ats (D.len.trans (wa _));exact f (U e (⟨g,[WO y ((h.wX q.2.2).putS g)],.no u,λR k=>(start R k).trans ((l R _ _ _).trans (v R _))⟩))
  |true=>
   rw[F]at c;refine aa λf=>?_;obtain⟨m1,e1⟩:=p1 F;refine gp (show H (NM y.wM y.wO (Cb (Ka lo.length)) (h.wX q.2.2).pl) _=J Z from c) λG c2 c=>?_;obtain⟨p3,p4⟩:=iJ a rfl (h:=h.wX q.2.2) (m:=(Y,Y,())) (λk L=>ac.mp L) c2;refine f ?_
   induction L:G.1 with
   |false=>
    rw[L]at c;refine aa λf=>?_;obtain⟨⟨P,as,D⟩,e⟩:=UF c;have e:=hH e;obtain⟨g,u,v⟩:=p4 L P as ⟨D.out,D.js4,C.lo'▸D.lt,D.ats,D.len.trans (wa _)⟩ T b I;exact f (U e (⟨g,[WO y (((h.wX q.2.2).wX G.2.2).putS g)],.no u,λR k=>(start R k).trans ((l R _ _ _).trans ((e1 R _).trans ((t R _ _ _).trans (v R _))))⟩))
   |true=>
    rw[L]at c;refine aa λf=>?_;obtain⟨m2,D⟩:=p3 L;have c:UL (Cb (Ka T.length)) y.wM y.wO y.wN lo V rs (Ka (X.length+1)) G.2.2=J Z:=c;have e:=VL c;obtain⟨m3,P,ns,K,I3,v⟩:=PO a C.vs' rfl N e (os:=Ka (X.length+1)) (o:=0) (b:=b) (h:=(h.wX q.2.2).wX G.2.2) (m:=(m2.1,())) (ns:=T) (x:=Z) (by exact U Ab (U JF rfl)) (by exact U Ab (U (lh _) rfl)) (by refine U a.wQ ?_;exact c) (Ko.start N) I (by refine U Ab ?_;lia);refine f (U (show Ym lo V (T.map (se X)) []=Z from e) ?_);exact⟨P.st,[WO y P],.yes K (I3.mono (by refine U Ab ?_;lia)),λR k=>(start R k).trans ((l R _ _ _).trans ((e1 R _).trans ((t R _ _ _).trans ((D R _).trans ((O R _ _ _).trans (v R _))))))⟩
 ·have e:Ym lo V (T.map (se X)) []=ta:=by
   induction z:Ym lo V (T.map (se X)) []with
   |false=>rfl|true=>
    obtain⟨a,F,c⟩:=pu.mp z;refine zc (Yh.mpr λi d=>?_) E;have d:=ac.mp d;have:=c i _ _ (vc (C.lo'.symm▸d)) (vc (C.hi'.symm▸d));exact U (Qg _ _) λh=>zc (Ml h) (Ui.mpr (H5.mpr (Za this.1 this.2)))
  obtain⟨u,D⟩:=tz I (rs:=[]) rfl (by decide) (λs=>c2.wR ((),S,[]) (s,(),())) (w:=.t []) rfl;refine U e (⟨_,[],.no u,λR k=>(mH C _).trans ((Kb (vl _)).trans ((Db ?_).trans (D R _)))⟩)
  induction z:(Ka X.length).filter λi=>Ph (.ofNat V[i]!) (.ofNat lo[i]!)using ma with
  |nil=>exact zc z E|cons=>rfl
end
section
variable {n b:Nat} {T lo V X:List Nat} {S:sr} {s:Gf}
theorem oU(C:LK n T lo V S)(B:yR T lo V)(I:SI X b s)(c:X.length=n)(d:X≠[])(f:b+40<=4000):∃a j,BF T lo V X b a (Ym lo V (X.map (se T)) [])/\∀(R:Type) k,yH (R:=R) 5000 S s k=k (Ym lo V (X.map (se T)) []) a j:=by
 refine aa λg=>?_;obtain⟨a,j,A,e⟩:=iU C B I c d f;refine g (⟨a,j,A,λR k=>?_⟩);refine(Db (by refine U (Qg _ _) ?_;exact decide_eq_true (yr (by decide) (xf _)):Ph (-1) (Td s.trail)=Z)).trans ((e R _).trans ((Kb rfl).trans ?_))
 induction Ym lo V (X.map (se T)) []<;>rfl
end
theorem Bg{d R:Type}{g:W->(List W->Option R)->Option R}{w:d->W}{f:d->List W}:{c:List d}->(∀a∈c,∀k,g (w a) k=k (f a))->∀k,Ae g (c.map w) k=k (c.flatMap f):=by
 intro c
 induction c with
 |nil=>
  rintro _ k;exact rfl
 |cons x c a=>
  rintro h k;exact(h x sa _).trans (a (λv e=>h v (oa _ e)) _)
def Tw(t:List Nat):W:=.t (Cb t)
def Nr(m:Nat)(ts:List (List Nat)):List (List Nat):=ts.flatMap λt=>(Lb m).map λu=>t++[u]
def Ny(X:List Nat):List (List Nat):=X.foldl (λts m=>Nr m ts) [[]]
theorem rz{m:Nat}(c:Mk m):∀a:List (List Nat),(Nr m a).length<=3*a.length:=by
 intro a
 induction a with
 |nil=>
  exact Gb _
 |cons t a d=>
  show(((Lb m).map λu=>t++[u])++Nr m a).length<=_
  have:=Lj c;have:=d;refine U Ha (U (wa _) (U nc ?_))
  lia
theorem bO:∀{X:List Nat}{ts:List (List Nat)}{t:List Nat},t∈X.foldl (λts m=>Nr m ts) ts↔∃p,p∈ts/\∃q,Sy X q/\t=p++q:=by
 intro X
 induction X with
 |nil=>
  rintro ts t;exact⟨λh=>⟨t,h,[],⟨rfl,λy y y h=>(ja h)⟩,(Ub t).symm⟩,λa=>by
   obtain⟨p,h,q,F,e⟩:=a;refine aa λc=>?_;cases lg.mp F.len;refine c ?_;refine U e (U (Ub _) ?_);exact h⟩
 |cons m X d=>
  rintro ts t;exact(d (ts:=Nr m ts)).trans ⟨λa=>by
   obtain⟨p,h,q,F,e⟩:=a;refine aa λc=>?_;obtain⟨f,g,i⟩:=ku.mp h;obtain⟨u,j,rfl⟩:=Qb.mp i;refine c ?_;exact⟨f,g,u::q,.cons j F,by refine U e (U (Cc _ _ _) ?_);rfl⟩,λa=>by
   obtain⟨p,h,q,F,e⟩:=a;refine aa λc=>?_
   induction q using ma with
   |nil=>refine c ?_;exact zc F.len.symm (Yb _)|cons u q=>refine c ?_;exact⟨p++[u],ku.mpr ⟨p,h,Qb.mpr ⟨u,F.tail.1,rfl⟩⟩,q,F.tail.2,by refine U e (U (Cc _ _ _) ?_);rfl⟩⟩
theorem Wn{X t:List Nat}:t∈Ny X↔Sy X t:=bO.trans ⟨λa=>by obtain⟨p,h,q,F,e⟩:=a;cases Ra.mp h;refine U e ?_;exact F,λh=>⟨[],Mm _,t,h,rfl⟩⟩
theorem Bn{c d:Type}{f:c->d}:{a:List c}->(a.flatMap λx=>[f x])=a.map f:=by
 intro a
 induction a with
 |nil=>
  exact rfl
 |cons x a e=>
  exact Gc (λy=>f x::y) (e)
theorem YM{m:Nat}(d:Mk m){c:List (List Nat)}(j:c.length<=9)(g:∀t∈c,t.length<=3){a:Option W}{h:wb}{u:Unit}{R:Type}(k:List W×Option W×Unit->Unit->Option R):yv (.l (Lw m)) (c.map Tw,a,()) h u k=k ((Nr m c).map Tw,J (.l (Lw m)),()) u:=by
 have l:=Lj d;refine(Db (Kc (by refine U (wa _) ?_;lia))).trans ((Bg (f:=λt=>(Lb m).map λu=>Tw (t++[u])) (λt i o=>?_) _).trans ?_)
 ·refine(Xr (by unfold Lw;refine U (wc _) ?_;lia) _).trans ?_
  unfold Lw;refine U (Pd _) ((Bg (f:=λu=>[Tw (t++[u])]) (λu p e=>?_) _).trans (by exact U Bn rfl));refine(Db (Kc (by refine U Ha (U (wc _) ?_);have:=g t i;show _+1<_;lia))).trans ?_;unfold Tw;refine U (Gq _ _) ?_;rfl
 ·have e:(c.flatMap λt=>(Lb m).map λu=>Tw (t++[u]))=(Nr m c).map Tw:=by
   unfold Nr;refine U List.map_flatMap ?_;exact Gc (λf=>c.flatMap f) (funext λt=>by refine U Rd ?_;rfl)
  refine U e ?_;exact Db (Kc (by refine U (wa _) ?_;have:=rz d c;lia))
theorem ZC:∀{ms:List Nat}{ts:List (List Nat)}{j:Nat}{a:Option W},(∀m∈ms,Mk m)->j+ms.length<=3->ts.length<=3^j->(∀t∈ts,t.length=j)->∃b,∀(R:Type) k,nh (λv m h k=>yv (R:=R) v m [] h k) (ms.map λm=>W.l (Lw m)) (ts.map Tw,a,()) () k=k ((ms.foldl (λts m=>Nr m ts) ts).map Tw,b,()) ():=by
 intro ms
 induction ms with
 |nil=>
  rintro ts j a _ _ _ _;exact⟨a,λR k=>rfl⟩
 |cons m ms g=>
  rintro ts j a c i d f;rw[nc]at i;have l:ts.length<=9:=Za d (by
   exact zI (n:=3) (by decide) (by lia:j<=2))
  obtain⟨b,e⟩:=g (ts:=Nr m ts) (j:=j+1) (a:=J (.l (Lw m))) (λx h=>c x (oa _ h)) (by lia) (Za (rz (c m sa) ts) (by refine U (O5 _ _) (U (AD _ _) ?_);exact xI 3 d)) (λt h=>by
   obtain⟨p,o,h⟩:=ku.mp h;obtain⟨u,_,rfl⟩:=Qb.mp h;refine U Ha (U (f p o) ?_);rfl)
  exact⟨b,λR k=>((λR k=>YM (c m sa) l (λt h=>by refine U (f t h) ?_;lia) k:∀(R:Type) k,yv (R:=R) (.l (Lw m)) (ts.map Tw,a,()) [] () k=k ((Nr m ts).map Tw,J (.l (Lw m)),()) ()) R λm h=>nh (λv m h k=>yv v m [] h k) (ms.map λm=>W.l (Lw m)) m h k).trans (e R k)⟩
theorem lL{m:Nat}:Jd (.l (Lw m))=Z:=pf _
theorem Xv{b:Type}{f:b->W}:{a:List b}->(∀x∈a,Jd (f x)=Z)->Nb (a.map f)=Z:=by
 intro a
 induction a with
 |nil=>
  rintro _;exact rfl
 |cons x a c=>
  rintro h;exact Aa.mpr ⟨h x sa,c λy d=>h y (oa _ d)⟩
theorem qI{ms:List Nat}(b:∀m∈ms,Mk m)(d:ms.length<=3):IQ [.l (ms.map λm=>.l (Lw m))]=J (.l ((Ny ms).map Tw)):=by
 refine aa λc=>?_;obtain⟨f,e⟩:=ZC (ms:=ms) (ts:=[[]]) (j:=0) (a:=Y) b (by lia) (by decide) λt h=>by refine U (Ra.mp h) ?_;rfl
 refine c ((Db (Aa.mpr ⟨Xv λm u=>lL,rfl⟩:Nb [W.l (ms.map λm=>.l (Lw m))]=Z)).trans ((F7 W _ _).trans ?_));exact(Xr (by refine U (wa _) ?_;lia) _).trans (e W _)
noncomputable abbrev Fo:=Nat×Nat×Nat
noncomputable def ff(r:Fo):W:=.t [.int (.ofNat r.1),.int (.ofNat r.2.1),.int (.ofNat r.2.2)]
noncomputable def Tv(t:List Nat)(r:Fo):Bool:= !bc (t.count r.1) r.2.1&& !bc r.2.2 (t.count r.1)
theorem nI{r:Fo}{R:Type}(k:W->W->W->Option R):mI (ff r) k=k (.int (.ofNat r.1)) (.int (.ofNat r.2.1)) (.int (.ofNat r.2.2)):=rfl
theorem KN{t:List Nat}(g:t.length<=3){a:List Fo}(c:a.length<=9){R:Type}(k:Bool->Option R):JN (Tw t) (.l (a.map ff)) k=k (a.all (Tv t)):=by
 refine(Xr (by refine U (wa _) ?_;lia) _).trans ((Bg (f:=λr=>Cb (if Tv t r then[]else[r.1])) (λr c b=>?_) _).trans ?_)
 ·refine(nI _).trans ?_
  refine(Db (Kc (by refine U (wc _) ?_;lia))).trans ?_;refine(Ch (p:=λu=>Rb u r.1) (λi d b=>Kb rfl) _).trans ((Db (Kc (by refine U (wc _) ?_;exact ib (Ob _ _) (by lia)))).trans ((Kb rfl).trans ?_));have e:(t.filter λu=>Rb u r.1).length=t.count r.1:=by
   refine U List.count_eq_length_filter ?_;exact Gc (λf=>(t.filter f).length) (funext λu=>by
    induction z:Rb u r.1 with
    |true=>exact(beq_iff_eq.mpr (Tc z)).symm|false=>exact(Vs.mpr λh=>Gg z (beq_iff_eq.mp h)).symm)
  refine U ag (U e ?_);show M (!bc (t.count r.1) r.2.1) (M (!(!bc r.2.2 (t.count r.1))) (b [.int (.ofNat r.1)]) (b [])) (b [.int (.ofNat r.1)])=_
  unfold Tv
  induction bc (t.count r.1) r.2.1<;>induction bc r.2.2 (t.count r.1)<;>rfl
 ·have e:(a.flatMap λr=>Cb (if Tv t r then[]else[r.1]))=Cb ((a.filter λr=> !Tv t r).map λx=>x.1):=by
   clear c
   induction a with
   |nil=>rfl|cons r a d=>
    refine U jL (U d (U Oi ?_))
    induction Tv t r<;>rfl
  refine U e ?_;refine(Db (Kc (by refine U (wc _) (U (wa _) ?_);exact ib (Ob _ _) (by lia)))).trans ((Kb (vl _)).trans (Gc k ?_));refine U List.isEmpty_map ?_;clear e c
  induction a with
  |nil=>rfl|cons r a d=>
   refine U Oi (U uA ?_)
   induction Tv t r with
   |true=>exact d|false=>rfl
theorem Ju{t:List Nat}:Jd (Tw t)=Z:=pf _
theorem DV{t:List Nat}(b:t.length<=3){a:List Fo}(c:a.length<=9):CV [Tw t,.l (a.map ff)]=J (.bool (a.all (Tv t))):=by
 exact(Db (Aa.mpr ⟨Ju,Aa.mpr ⟨Xv λr u=>rfl,rfl⟩⟩:Nb [Tw t,W.l (a.map ff)]=Z)).trans ((G7 W _ _ _).trans (KN b c _))
theorem BQ:∀{a:List Nat}{ts:List (List Nat)},(∀m∈a,Mk m)->(a.foldl (λts m=>Nr m ts) ts).length<=ts.length*3^a.length:=by
 intro a
 induction a with
 |nil=>
  rintro ts _;exact U DR (U (Nat.pow_zero _) (U (Nat.mul_one _) (Gb _)))
 |cons m a b=>
  rintro ts h;exact Za (b (ts:=Nr m ts) λx c=>h x (oa _ c)) (U nc (U (O5 _ _) (U (AD (3^a.length) 3) (Bd (Nat.mul_assoc _ _ _) (xI _ (AD _ _▸rz (h m sa) ts))))))
theorem uF{a:List Nat}(b:∀m∈a,Mk m)(c:a.length<=3):(Ny a).length<=27:=Za (BQ b) (by
 refine U Ei (U (qam _) ?_);exact zI (by decide) c)
def Ho(ms:List Nat)(rs:List Fo):List (List Nat):=(Ny ms).filter λt=>rs.all (Tv t)
theorem ky{b c:Type}{f:b->c}{p:b->Bool}:{a:List b}->(a.flatMap λx=>if p x then[f x]else[])=(a.filter p).map f:=by
 intro a
 induction a with
 |nil=>
  exact rfl
 |cons x a d=>
  refine U jL (U d (U Oi ?_))
  induction p x<;>rfl
theorem eY{b:List Nat}(d:∀m∈b,Mk m)(c:b.length<=3){a:List Fo}(e:a.length<=9){R:Type}(k:List W->Option R):Y5 (b.map λm=>.l (Lw m)) (a.map ff) k=k ((Ho b a).map Tw):=by
 have g:=uF d c;refine(Db rfl).trans ((Kb (qI d c)).trans ((Xr (by refine U (wa _) ?_;lia) _).trans ((Bg (f:=λt=>if a.all (Tv t)then[Tw t]else[]) (λt h j=>?_) _).trans ?_)))
 ·have i:t.length<=3:=by refine U ((Wn.mp h).len) ?_;exact c
  refine(Db rfl).trans ((Kb (DV i e)).trans ?_)
  induction a.all (Tv t)<;>rfl
 ·refine U ky ?_
  exact Db (Kc (by refine U (wa _) ?_;exact ib (Ob _ _) (by lia)))
section
variable {t:List Nat} {l h:Nat} {a:Fo}
theorem qV:∀b∈ze,∀i∈Yk,i<b.length->∀u∈Yk,Rb (vi b u) i=Rb u b[i]! :=by decide+kernel
theorem Ux{b:List Nat}(c:b∈ze){i:Nat}(d:i<b.length):{t:List Nat}->(∀u∈t,u∈Yk)->(t.map (vi b)).count i=t.count b[i]! :=by
 intro t
 induction t with
 |nil=>exactλy=>rfl|cons u t e=>
  intro h;have j:=(uh b c).2.2.1;have f:i∈Yk:=by
   have:i<=2:=by lia
   exact dD this
  refine Bd lq (Bd lq ?_);show M (Rb (vi b u) i) (pc (lp i (t.map (vi b)))) (lp i (t.map (vi b)))=M (Rb u b[i]!) (pc (lp b[i]! t)) (lp b[i]! t)
  exact U (qV b c i f d u (h u sa)) (U lq (U lq (U (e λw g=>h w (oa _ g)) rfl)))
theorem hU{r:Fo}:Tv t r=Z↔r.2.1<=t.count r.1/\t.count r.1<=r.2.2:=by
 unfold Tv;rw[Dd,Te,Te,<-gu,<-gu,ud,ud,Vd,Vd]
inductive Gj:List Nat->List Nat->List Nat->List Fo->Prop
 |r1 (v l1 h1 l2 h2:Nat):Gj [v] [max l1 l2] [min h1 h2] [(v,l1,h1),(v,l2,h2)]|s1 (v l h:Nat):Gj [v] [l] [h] [(v,l,h)]|r2 (v w l1 h1 l2 h2 g:Nat):Gj [v,w] [max l1 l2,0] [min h1 h2,g] [(v,l1,h1),(w,0,g),(v,l2,h2)]|s2 (v w l h g:Nat):Gj [v,w] [l,0] [h,g] [(v,l,h),(w,0,g)]
theorem j7{d:List Nat}:zK [l] [h] d↔l<=d.count 0/\d.count 0<=h:=⟨λc=>c 0 l h rfl rfl,λc i a b e f=>by
 induction i using Sa with
 |zero=>obtain rfl:=ba e;obtain rfl:=ba f;exact c|succ i=>exact ja e⟩
theorem l7{m g:Nat}{d:List Nat}:zK [l,m] [h,g] d↔(l<=d.count 0/\d.count 0<=h)/\m<=d.count 1/\d.count 1<=g:=⟨λc=>⟨c 0 l h rfl rfl,c 1 m g rfl rfl⟩,λc i a b e f=>by
 induction i using Sa with
 |zero=>obtain rfl:=ba e;obtain rfl:=ba f;exact c.1|succ i=>induction i using Sa with|zero=>obtain rfl:=ba e;obtain rfl:=ba f;exact c.2|succ i=>exact ja e⟩
theorem TR{b:List Fo}:b.all (Tv t)=Z↔∀r∈b,r.2.1<=t.count r.1/\t.count r.1<=r.2.2:=qd.trans (forall_congr' λr=>imp_congr_right λu=>hU)
theorem W5{P:Fo->Prop}:(∀r∈[a],P r)↔P a:=⟨λh=>h a sa,λh=>Zb.mpr ⟨h,λu z=>(Jb z).elim⟩⟩
theorem dY{P:Fo->Prop}{b:Fo}:(∀r∈[a,b],P r)↔P a/\P b:=Zb.trans (and_congr_right λu=>W5)
theorem mm{b d e f c:Nat}:((b<=c/\c<=d)/\e<=c/\c<=f)↔max b e<=c/\c<=min d f:=by
 exact U (propext qbm) (U (propext Nat.le_min) (⟨λh=>⟨⟨h.1.1,h.2.1⟩,h.1.2,h.2.2⟩,λh=>⟨⟨h.1.1,h.2.1⟩,h.1.2,h.2.2⟩⟩))
theorem cr{b lo d:List Nat}{e:List Fo}(T:Gj b lo d e)(f:b∈ze)(i:∀u∈t,u∈Yk):e.all (Tv t)=Z↔zK lo d (t.map (vi b)):=by
 have c:0<b.length->(t.map (vi b)).count 0=t.count b[0]! :=λh=>Ux f h i;have j:1<b.length->(t.map (vi b)).count 1=t.count b[1]! :=λh=>Ux f h i;refine TR.trans ?_;cases T with
 |r1 v k m n o=>exact dY.trans (mm.trans (c qan▸j7.symm))|s1 v l h=>exact W5.trans (c qan▸j7.symm)|r2 v w k m n o g=>exact Zb.trans ((and_congr_right λy=>dY).trans ((and_left_comm.trans (and_comm.trans (and_congr_left λy=>mm))).trans (j (Vc 1)▸c qao▸l7.symm)))|s2 v w l h g=>exact dY.trans (j (Vc 1)▸c qao▸l7.symm)
end
section
variable {X:List Nat} {R:Type}
def bE(X t:List Nat):Bool:=((Ka t.length).filter λi=> !Ze t[i]! (Lb X[i]!)).isEmpty
theorem lB{t:List Nat}(b:t.length=X.length):bE X t=Z↔Sy X t:=by
 unfold bE;refine U (propext De) (U (propext Yh) ?_);refine⟨λh=>⟨b,λi r x d c=>?_⟩,λF i a=>?_⟩
 ·have a:i<t.length:=(ub.mp c).1
  have:=h i (ac.mpr a);cases (vc a).symm.trans c;cases (vc (b▸a)).symm.trans d;rw[Te]at this;exact qf.mp (Bool.not_eq_false _▸this)
 ·have a:=ac.mp a
  exact U (qf.mpr (F.mem i _ _ (vc (b▸a)) (vc a))) ia
theorem PG{b:Nat}{s:Gf}(I:SI X b s)(g:X.length<=3)(c:wb)(k:List W->Option R):vy c s.wL k=k (X.map λm=>W.l (Lw m)):=by
 have e:Td s.wL=.ofNat X.length:=by exact U (show s.wL=X.map Dn from I.wL) (U Kn rfl)
 unfold vy;refine U e ((xg (by lia) _).trans (U (Pd _) ?_));refine(Bg (f:=λi=>[W.l (Lw X[i]!)]) (λi a j=>?_) _).trans ?_
 ·have a:=ac.mp a
  have d:=vc a;exact(rp I d _).trans ((Db rfl).trans (IV c _ (I.all _ (Na d))))
 ·have e:((Ka X.length).flatMap λi=>[W.l (Lw X[i]!)])=X.map λm=>W.l (Lw m):=by
   refine U Bn (Zs λi=>?_);refine U Dc (U Dc ?_);by_cases h:i<X.length
   ·refine U (af h) (U (vc h) ?_);rfl
   ·refine U (Qc (by rw[Ab];lia)) (U (Qc (by lia)) ?_);rfl
  refine U e ?_;exact Db (Kc (by refine U (wa _) ?_;lia))
theorem BZ{t:List Nat}{a:wb}(k:W->Option R):ON (Tw t) a k=k (.int (.ofNat t.length)):=by
 show k (.int (jb (len (Cb t))))=_
 exact U (Se _) (U (wc _) rfl)
theorem yT(l:X.length<=3){a:List (List Nat)}(d:∀t∈a,t.length=X.length)(n:a.length<=27)(e:wb)(k:List W->Option R):QW e (X.map λm=>W.l (Lw m)) (a.map Tw) k=k ((a.filter (bE X)).map Tw):=by
 refine(Db (Kc (by refine U (wa _) ?_;lia))).trans ((Bg (f:=λt=>if bE X t then[Tw t]else[]) (λt c o=>?_) _).trans ?_)
 ·have g:=d t c
  refine(BZ _).trans ((Kb rfl).trans ?_);refine(xg (by lia) _).trans ((Ch (p:=λi=> !Ze t[i]! (Lb X[i]!)) (λi b h=>?_) _).trans ?_)
  ·have b:=ac.mp b
   have j:Lg (X.map λm=>W.l (Lw m)) (.ofNat i)=J (.l (Lw X[i]!)):=Ap (f:=λm=>W.l (Lw m)) (vc (g▸b));exact(Kb (Mg (vc b):Lg (Cb t) (.ofNat i)=J (.int (.ofNat t[i]!)))).trans ((Kb j).trans (Kb JG))
  ·refine(Db (Kc (by refine U (wc _) ?_;exact ib (Ob _ _) (by refine U Ab ?_;lia)))).trans ((Kb (vl _)).trans ?_)
   show M (bE X t) _ _=_
   induction bE X t<;>rfl
 ·refine U ky ?_
  exact Db (Kc (by refine U (wa _) ?_;exact ib (Ob _ _) (by lia)))
end
theorem ry:∀is:List Int,Bl (is.map W.int)=J is:=by
 intro is
 induction is with
 |nil=>
  exact rfl
 |cons i is a=>
  exact Gc (λo:Option (List Int)=>(J i).bind λi=>o.map λx=>i::x) (a)
theorem rV:∀m∈Qm,(Yk.filter λu=>Ze u (Lb m))=Lb m:=by decide+kernel
theorem SL{m:Nat}(c:m∈Qm){is:List Nat}(h:∀u∈Yk,u∈Lb m↔u∈is):(Ig (is.map jb)).map W.int=Lw m:=by
 have e:Ig (is.map jb)=(Lb m).map jb:=by
  show(Yk.map jb).filter (λk=>(is.map jb).contains k)=_
  refine U List.filter_map (Bd (rV m c) ?_)
  congr 1
  refine gL λu d=>(Fh.mpr (U (propext qf) (U (propext (h u d)) (U (propext bo) (U (propext Qb) ?_)))));exact⟨λb=>by obtain⟨a,f,e⟩:=b;exact Fu e▸f,λh=>⟨u,h,rfl⟩⟩
 exact U e (U Rd ((Pd _).symm))
theorem L1{is:List Nat}(h:∀u∈is,u∈Yk)(b:wb):qaE .set [.l (Cb is)] b=J (.iset (is.map jb)):=by
 have a:((is.map jb).all λi=>decide (0<=i)&&decide (i<=2))=Z:=by
  refine U (propext qd) ?_;intro i c;obtain⟨u,d,rfl⟩:=Qb.mp c;exact V3.all (P:=λu=>(decide (0<=jb u)&&decide (jb u<=2))=Z) (by decide) (V3.mem' (h u d))
 show(((Bl (Cb is)).bind nX).map λw=>(w,b)).map lj=_
 refine U (by rw[Pd,Rd];rfl:Cb is=(is.map jb).map W.int) (U (ry _) ?_);show(((Ie _).map _).map _).map _=_
 refine U a ?_;rfl
theorem BS{c:List Nat}(y:c.length<=3)(q:∀k,k<c.length->c[k]! ∈Qm){l:List W}(s:l.length=c.length){g:List (List Nat)}(z:g.length<=27)(n:∀t∈g,t.length=c.length/\∀u∈t,u∈Yk)(v:∀k,k<c.length->∀u∈Yk,u∈Lb c[k]! ↔∃t,t∈g/\t[k]! =u)(r:wb){R:Type}(k:List W->Option R):cG r l (g.map Tw) k=k (c.map λm=>W.l (Lw m)):=by
 have e:Td l=.ofNat c.length:=by unfold Td;exact U (Se _) (U s rfl)
 unfold cG;refine U e ((xg (by lia) _).trans (U (Pd _) ?_));refine(Bg (f:=λi=>[W.l (Lw c[i]!)]) (λi j A=>?_) _).trans ?_
 ·have j:=ac.mp j
  refine(Db (Kc (by refine U (wa _) ?_;lia))).trans ((Bg (f:=λt=>[W.int (.ofNat t[i]!)]) (λt d w=>?_) _).trans ?_)
  ·have a:Lg (Cb t) (.ofNat i)=J (.int (.ofNat t[i]!)):=Mg (vc (by refine U ((n t d).1) ?_;exact j))
   exact Kb a
  ·have x:∀u∈g.map λt=>t[i]!,u∈Yk:=λu o=>by
    obtain⟨t,d,rfl⟩:=Qb.mp o;exact(n t d).2 _ (zn (by refine U ((n t d).1) ?_;exact j))
   refine U (by rw[Bn,Pd,Rd];rfl:(g.flatMap λt=>[W.int (.ofNat t[i]!)])=Cb (g.map λt=>t[i]!)) ?_;refine(Db (Kc (by refine U (wc _) (U (wa _) ?_);lia))).trans ((Kb (L1 x r)).trans ((Kb rfl).trans ((Kb (Gc J (SL (q i j) λu o=>(v i j u o).trans ⟨λp=>by obtain⟨t,a,b⟩:=p;exact Qb.mpr ⟨t,a,b⟩,λh=>(Qb.mp h).imp λt h=>h⟩:(Ig ((g.map λt=>t[i]!).map jb)).map W.int=Lw c[i]!))).trans (Db (Kc ?_)))));unfold Lw;refine U (wc _) ?_;have:=Lj (Mk.mem' (q i j))
   lia
 ·have e:((Ka c.length).flatMap λi=>[W.l (Lw c[i]!)])=c.map λm=>W.l (Lw m):=by
   refine U Bn (Zs λi=>?_);refine U Dc (U Dc ?_);by_cases h:i<c.length
   ·refine U (af h) (U (vc h) ?_);rfl
   ·refine U (Qc (by rw[Ab];lia)) (U (Qc (by lia)) ?_);rfl
  refine U e ?_;exact Db (Kc (by refine U (wa _) ?_;lia))
def dL(m:Nat):Xf:=.list ((Lb m).map λu=>.int (.ofNat u))
theorem q7{m:Nat}:Mk m->ae 5 (.l (Lw m))=J (dL m)/\Yc (dL m) (dL m)=Z:=Mk.all (P:=λm=>ae 5 (.l (Lw m))=J (dL m)/\Yc (dL m) (dL m)=Z) (by and_intros<;>kernel_rfl!)
theorem JY:{e:List Nat}->(∀m∈e,Mk m)->Pe (ae 5) (e.map λm=>W.l (Lw m))=J (e.map dL)/\zd (e.map dL) (e.map dL)=Z:=by
 intro e
 induction e with
 |nil=>
  rintro _;exact⟨rfl,by rw[ct,zd]⟩
 |cons m e f=>
  rintro h;refine aa λg=>?_;obtain⟨a,b⟩:=q7 (h m sa);obtain⟨c,d⟩:=f λx i=>h x (oa _ i);refine g ?_;refine⟨?_,?_⟩
  ·show(ae 5 (.l (Lw m))).bind _=_
   refine U a ?_;refine U c ?_;rfl
  ·rw[Tb,zd,b,d];rfl
theorem xM{a:List Nat}(h:∀m∈a,Mk m):lk (.l (a.map λm=>W.l (Lw m))) (.l (a.map λm=>W.l (Lw m)))=J Z:=by
 obtain⟨c,d⟩:=JY h;show((Pe (ae 5) (a.map λm=>W.l (Lw m))).map qD).bind (λx=>((Pe (ae 5) (a.map λm=>W.l (Lw m))).map qD).map λy=>Yc x y)=_
 refine U c ?_;show J (Yc _ _)=_
 rw[Yc,d]
theorem oM:∀b:List (List Nat),∃c,Pe (ae 5) (b.map Tw)=J c:=by
 intro b
 induction b with
 |nil=>
  exact⟨[],rfl⟩
 |cons t b f=>
  obtain⟨c,h⟩:=f;have e:∀a:List Nat,Pe (ae 4) (Cb a)=J (a.map λu=>rg (.ofNat u)):=λa=>by
   refine U (Pd _) ?_
   induction a with
   |nil=>rfl|cons x a f=>exact Gc (λo:Option (List Xf)=>(J (rg (.ofNat x))).bind λd=>o.map λx=>d::x) f
  refine⟨.tuple (t.map λu=>rg (.ofNat u))::c,?_⟩;show((Pe (ae 4) (Cb t)).map xA).bind _=_
  refine U (e _) ?_;refine U h ?_;rfl
theorem Fy(a:List (List Nat)):lk (.l (a.map Tw)) (.l [])=J a.isEmpty:=by
 obtain⟨b,h⟩:=oM a;refine(oz h).trans ?_
 induction a using ma<;>rfl
section
variable {V lo Q:List Nat}
theorem VT(a:V∈ze){m:Nat}(c:m∈Qm){o:Nat}:o∈Lb (se V m)↔∃u,u∈Lb m/\vi V u=o:=by
 refine aa λg=>?_;obtain⟨i,d,k⟩:=Cw V a _ c;refine g ?_;refine⟨λh=>?_,λw=>?_⟩
 ·have:=d o (Sj _ (oa _ i) _ h)
  rw[qf.mpr h]at this;exact Qb.mp (qf.mp this.symm)
 ·obtain⟨u,h,e⟩:=w
  have f:=(uh V a);have j:o∈Yk:=by
   have:=(f.1 u (Sj _ (oa _ c) _ h)).1;have:o<=2:=by have:=f.2.2.1;lia
   exact dD this
  exact qf.mp ((d o j).trans (qf.mpr (Qb.mpr ⟨u,h,e⟩)))
theorem wG(i:V∈ze):{X xs:List Nat}->(∀m∈X,m∈Qm)->(Sy (X.map (se V)) xs↔∃t,Sy X t/\t.map (vi V)=xs):=by
 intro X
 induction X with
 |nil=>
  intro xs z;exact⟨λF=>⟨[],⟨rfl,λy y y h=>(ja h)⟩,by cases lg.mp F.len;rfl⟩,λc=>by
   refine aa λa=>?_;obtain⟨t,F,e⟩:=c;cases lg.mp F.len;subst e;refine a ?_;clear a;exact⟨rfl,λy y y h=>(ja h)⟩⟩
 |cons m X c=>
  intro xs d;have f:=λxs=>c (xs:=xs) λx h=>d x (oa _ h);have g:=λo=>VT i (d m sa) (o:=o);refine⟨λF=>?_,λw=>?_⟩
  ·induction xs using ma with
   |nil=>exact zc F.len.symm (Yb _)|cons x xs=>
    refine aa λa=>?_;obtain⟨u,j,e⟩:=(g x).mp F.tail.1;obtain⟨t,G,k⟩:=(f xs).mp F.tail.2;refine a ?_;clear a;exact⟨u::t,.cons j G,by exact U Tb (U e (U k rfl))⟩
  ·refine aa λa=>?_
   obtain⟨t,F,e⟩:=w
   induction t using ma with
   |nil=>refine a ?_;clear a;exact zc F.len.symm (Yb _)|cons u t=>
    refine a ?_;clear a;subst e;exact .cons ((g _).mpr ⟨u,F.tail.1,rfl⟩) ((f _).mpr ⟨t,F.tail.2,rfl⟩)
theorem AM(a:V∈ze){X:List Nat}(c:∀m∈X,m∈Qm):Ym lo Q (X.map (se V)) []=Z↔∃t,Sy X t/\zK lo Q (t.map (vi V)):=pu.trans ⟨λ⟨d,F,C⟩=>by
 obtain⟨t,G,e⟩:=(wG a c).mp F;exact⟨t,G,e▸C⟩,(by rintro⟨t,F,C⟩;exact⟨_,(wG a c).mpr ⟨t,F,rfl⟩,C⟩)⟩
theorem Sy.v3{X t:List Nat}(c:∀m∈X,m∈Qm)(F:Sy X t):∀u∈t,u∈Yk:=λu d=>by
 obtain⟨i,Q,rfl⟩:=Dj d;have a:i<X.length:=F.len▸Q;exact Sj _ (oa _ (c _ (iu a))) _ (F.mem i _ _ (Wa a) (Wa Q))
theorem pY:∀u∈Yk,Hi u∈Qm:=by decide
theorem vZ(o:V∈ze){X:List Nat}(v:∀m∈X,m∈Qm){k:Nat}(d:k<X.length){u:Nat}(j:u∈Yk):(u∈Lb X[k]! /\RW V lo Q X k u=Z)↔∃t,(Sy X t/\zK lo Q (t.map (vi V)))/\t[k]! =u:=by
 have e:(X.map (se V)).set k (Hi (vi V u))=(X.set k (Hi u)).map (se V):=by exact U w4 (U (((uh V o).1 u j).2) rfl)
 have l:∀{t},(u∈Lb X[k]! /\Sy (X.set k (Hi u)) t)↔Sy X t/\t[k]! =u:=λ{t}=>by
  refine⟨λw=>?_,λw=>?_⟩
  ·obtain⟨a,F⟩:=w
   have p:t.length=X.length:=F.len.trans yb;have g:=vc (p▸d:k<t.length);have h:=F.mem k _ _ (je d) g;rw[iA u j]at h;have q:=Ra.mp h;refine⟨⟨p,λi r x c f=>?_⟩,q⟩;by_cases z:k=i
   ·subst z
    cases g.symm.trans f;cases (vc d).symm.trans c;exact U q a
   ·exact F.mem i r x (by refine U (Xc z) ?_;exact c) f
  ·obtain⟨F,a⟩:=w
   have g:=vc (F.len▸d:k<t.length);have h:=F.mem k _ _ (vc d) g;refine⟨a▸h,⟨F.len.trans yb.symm,λi r x c f=>?_⟩⟩;by_cases z:k=i
   ·subst z
    rw[je d]at c;obtain rfl:=ba c;cases g.symm.trans f;exact U a (U (iA u j) (Mm _))
   ·exact F.mem i r x (by rw[Xc z]at c;exact c) f
 unfold RW;exact U e (U (propext (AM o (λm h=>(YG h).elim (v m) λe=>e▸pY u j:∀m∈X.set k (Hi u),m∈Qm))) (⟨(by rintro⟨a,t,F,C⟩;exact⟨t,⟨(l.mp ⟨a,F⟩).1,C⟩,(l.mp ⟨a,F⟩).2⟩),(by rintro⟨t,⟨F,C⟩,a⟩;exact⟨(l.mpr ⟨F,a⟩).1,t,(l.mpr ⟨F,a⟩).2,C⟩)⟩))
structure Sub(X ns:List Nat):Prop where
 len:ns.length=X.length
 mem:∀k,k<X.length->∀u,u∈Lb ns[k]! ->u∈Lb X[k]!
theorem Sub.fit{X a t:List Nat}(S:Sub X a)(F:Sy a t):Sy X t:=⟨F.len.trans S.len,λi r x c d=>by
 have Q:=(ub.mp c).1;cases (vc Q).symm.trans c;exact S.mem i Q x (F.mem i _ x (vc (S.len▸Q:i<a.length)) d)⟩
variable {n b:Nat} {P X:List Nat} {O:List Fo} {N:sr} {s:Gf}
theorem iY(T:Gj V lo Q O)(p:V∈ze)(C:LK n V lo Q N)(B:yR V lo Q)(S:Sub P X)(L:∀m∈P,Mk m)(I:SI X b s)(hn:X.length=n)(D:X≠[])(E:X.length<=3)(hb:b+40<=4000):∃f j,(SB f\/∃g,SI g (b+36) f/\Sub X g)/\∀(R:Type) k,AL (R:=R) 5000 N s ((Ho P O).map Tw) k=k (.bool Z) f j:=by
 have q:∀m∈X,m∈Qm:=λm h=>(I.all m h).mem;have v:(Ho P O).length<=27:=Za (Ob _ _) (uF L (S.len▸E:P.length<=3));have G:∀t∈Ho P O,t.length=X.length:=λt h=>((Wn.mp (Uc.mp h).1).len).trans S.len.symm
 let d:=(Ho P O).filter (bE X)
 have mk:∀t,t∈d↔Sy X t/\zK lo Q (t.map (vi V)):=λt=>by
  refine⟨λh=>?_,λw=>?_⟩
  ·obtain⟨D,a⟩:=Uc.mp h
   have F:=(lB (G t D)).mp a;exact⟨F,(cr T p (F.v3 q)).mp (Uc.mp D).2⟩
  ·obtain⟨F,C⟩:=w
   exact Uc.mpr ⟨Uc.mpr ⟨Wn.mpr (S.fit F),(cr T p (F.v3 q)).mpr C⟩,(lB F.len).mpr F⟩
 refine aa λl=>?_;obtain⟨f,j,A,e⟩:=oU C B I hn D hb;refine l ?_;have F:Ym lo Q (X.map (se V)) []= !d.isEmpty:=by
  refine Fh.mpr ((AM p q).trans (U (Te _) (Bd (gu _) (U (propext De) ?_))));refine⟨λw z=>?_,λh=>?_⟩
  ·obtain⟨t,h⟩:=w
   have:=(mk t).mpr h;rw[z]at this;cases this
  ·refine aa λl=>?_
   induction o:d using ma with
   |nil=>refine l ?_;exact zc o h|cons t a=>refine l ?_;exact⟨t,(mk t).mp (o▸sa)⟩
 have st:∀(R:Type) k,AL (R:=R) 5000 N s ((Ho P O).map Tw) k=M d.isEmpty (k (.bool f.bad) f j) (vy (c2.wR ((),N,j) (f,(),())) f.wL λa=>cG (c2.wR ((),N,j) (f,(),())) (X.map λm=>W.l (Lw m)) (d.map Tw) λc=>H (lk (.l a) (.l c)) λr=>k (.bool r) f j):=λR k=>by
  refine(PG I E _ _).trans ((yT E G v _ _).trans ((e R _).trans ((Kb (Fy d)).trans ?_)));exact(fi (by refine U F ?_;induction d.isEmpty<;>rfl:(Ym lo Q (X.map (se V)) []!= !d.isEmpty)=ta)).trans (Kb (Fy d))
 generalize Ym lo Q (X.map (se V)) []=x at A F;refine aa λl=>?_;cases A with
 |no a=>
  refine l ?_;have w:d.isEmpty=Z:=by revert F;induction d.isEmpty with|true=>exactλy=>rfl|false=>exactλh=>(zc h ia)
  exact⟨f,j,.inl a,λR k=>(st R k).trans ((Db w).trans (by exact U a.bad rfl))⟩
 | @yes g K c=>
  refine l ?_;have w:d.isEmpty=ta:=by revert F;induction d.isEmpty with|true=>exactλh=>(zc h.symm ia)|false=>exactλy=>rfl
  refine⟨f,j,.inr ⟨g,c,(⟨K.len,λk o u i=>((K.mem k o u (Sj _ (oa _ (K.msk k o)) _ i)).mp i).1⟩:Sub X g)⟩,λR k=>(st R k).trans ((fi w).trans ?_)⟩;have z:g.length<=3:=K.len▸E;refine(PG c z _ _).trans ((BS z (λk h=>K.msk k (K.len▸h):∀k,k<g.length->g[k]! ∈Qm) (by exact U (wa _) (U K.len rfl)) (Za (Ob _ _) v:d.length<=27) (λt h=>⟨((mk t).mp h).1.len.trans K.len.symm,((mk t).mp h).1.v3 q⟩) (λk o u i=>?_) _ _).trans (Kb (xM c.all)));have r:k<X.length:=K.len▸o;refine(K.mem k r u i).trans (qdu ⟨(by rintro⟨a,b⟩;exact⟨a,b ((λu i=>Uf ((uh V p).1 u i).1:∀u∈Yk,vi V u<V.length+1) u i)⟩),(by rintro⟨a,b⟩;exact⟨a,λy=>b⟩)⟩ ((vZ p q r i).trans ?_));exact⟨(by rintro⟨t,h,e⟩;exact⟨t,(mk t).mpr h,e⟩),(by rintro⟨t,h,e⟩;exact⟨t,(mk t).mp h,e⟩)⟩
end
section
variable {R:Type} {s:Gf} {m:Nat}
section
variable {X:List Int}
theorem th(X:List Int)(j:Nat){w:Nat}(a:0<w):∃z,z<w/\∀(R:Type) k,jk (R:=R) (X.map W.int) (.ofNat j) (.ofNat w) k=k (.ofNat z) (.ofNat (j+1)):=by
 have b:Ph (Td (X.map W.int)) (jb j+1)=decide (X.length<=j):=by
  exact U Kn (U (Qg _ _) (decide_eq_decide.mpr ⟨λh=>Sf (li.mp h),λh=>li.mpr (Uf h)⟩))
 by_cases h:X.length<=j
 ·exact⟨0,a,λR k=>Db (b.trans (decide_eq_true h))⟩
 ·have c:=nL.mp h
  have p:(0:Int)<(w:Int):=li.mpr a;have e:=Int.fmod_lt_of_pos X[j] p;refine⟨(X[j].fmod w).toNat,by omega,λR k=>(fi (b.trans (decide_eq_false h))).trans ?_⟩;have d:jb (X[j].fmod w).toNat=X[j].fmod w:=DK (Int.fmod_nonneg_of_pos X[j] p);refine U d ?_;exact(Kb ((SK _ _:(jb j+1 - 1)=jb j).symm▸Ap (Wa c):Lg (X.map W.int) (jb j+1 - 1)=J (.int X[j]))).trans ((Kb rfl).trans (Kb (ge (Int.ne_of_gt p):Hz X[j] (.ofNat w)=J (X[j].fmod w))))
theorem ZN(X:List Int):∀(a:List W)(j:Nat),∃b:List Nat,(∀m∈b,Mk m)/\b.length=a.length/\∀(R:Type) k,gk (WG (R:=R) (X.map W.int)) a (.ofNat j) k=k (Cb b) (.ofNat (j+a.length)):=by
 intro a
 induction a with
 |nil=>
  rintro j;exact⟨[],λu h=>((Jb h).elim),rfl,λR k=>rfl⟩
 |cons w a c=>
  rintro j;refine aa λd=>?_;obtain⟨z,l,e⟩:=th X j (w:=7) (by decide);obtain⟨b,f,g,i⟩:=c (j+1);refine d (⟨(1+z)::b,λm h=>(ab.mp h).elim (λh=>h▸Mk.of (Nc 1 z) (by lia)) (f m),Gc pc g,λR k=>?_⟩);refine U (by rw[nc];lia:j+(w::a).length=j+1+a.length) ?_;exact(e R _).trans (i R _)
end
theorem QN{a:List Nat}(b:∀m∈a,Mk m)(c:a.length<=3)(k:List W->Option R):PN (Cb a) k=k (a.map λm=>.l (Lw m)):=by
 refine(Db (Kc (by refine U (wc _) ?_;lia))).trans ?_;refine U (Pd _) ((Bg (f:=λm=>[W.l (Lw m)]) (λm h d=>RT _ (b m h)) _).trans (U Bn ?_));exact Db (Kc (by refine U (wa _) ?_;lia))
def RC(ds:List Nat):Gf:=(ds.map Dn,ds.map Dn,[],[],([],[]),-1,ta,[],())
theorem lF{a:List Nat}(h:∀m∈a,Mk m):SI a 0 (RC a):=⟨h,rfl,xr h,rfl,rfl,rfl,rfl,Gb _,Gb _,Gb _,rfl⟩
theorem wH(h:Kf (ah s).fs=Z):qe [ah s]=Z:=Aa.mpr ⟨h,rfl⟩
theorem Bm{o:OF}(h:Kf (ah s).fs=Z)(a:Kf o.fs=Z):qe [ah s,o]=Z:=Aa.mpr ⟨h,Aa.mpr ⟨a,rfl⟩⟩
theorem pq{X:List W}(h:Jd (.t X)=Z):ul m (.t X)=J (.t X):=by
 show(Ie (Jd (.t X))).map _=_
 refine U h ?_;rfl
theorem tM{X:List W}(h:Jd (.l X)=Z):ul m (.l X)=J (.l X):=by
 show(Ie (Jd (.l X))).map _=_
 refine U h ?_;rfl
theorem ZZ{a:Nat}{b:List Nat}(c:Mk a)(e:∀d∈b,Mk d)(n:b.length<=3)(k:List W->Gf->Option R):Bp m (.l (Lw a)) (RC b) k=k [.int (.ofNat b.length)] (RC (b++[a])):=by
 have j:lk (Dn a) (.t [])=J ta:=(vM (Mk.all (P:=λa=>a<=7) (by decide) c)).trans (Gc J (Mk.all (P:=λa=>Rb a 0=ta) (by decide) c));have f:RC (b++[a])=((RC b).1++[Dn a],(RC b).2.1++[Dn a],(RC b).2.2):=by unfold RC;refine U ER ?_;rfl
 have l:Td ((RC b).1++[Dn a]) - 1=.ofNat b.length:=by
  unfold Td;refine U (Se _) (U Ha (U (wa _) ?_));exact(SK (jb b.length) 1:jb b.length+1 - 1=_)
 have g:Kd 4096 (RC b).1=Z:=Kc (by show(b.map Dn).length<_;refine U (wa _) ?_;lia);refine(Db rfl).trans ((Kb (BV c)).trans ((Db rfl).trans ((Kb (pq (Eu c))).trans ((Db (wH (lF e).plain)).trans ((Db rfl).trans ((Db g).trans ((Db rfl).trans ((Db g).trans ((Kb j).trans ((fi rfl).trans ?_))))))))));have i:=(lF (λd h=>(Vb.mp h).elim (e d) λh=>Ra.mp h▸c:∀d∈b++[a],Mk d)).plain;rw[f]at i;exact U f (Bd l ((Db rfl).trans ((Db (wH i)).trans (Db rfl))))
theorem cU:{ms ds:List Nat}->(∀x∈ms,Mk x)->(∀x∈ds,Mk x)->ds.length+ms.length<=3->∀{R:Type}(k:List W->Gf->Option R),gk (Bp m) (ms.map λm=>W.l (Lw m)) (RC ds) k=k (Cb (IF ds.length ms.length)) (RC (ds++ms)):=by
 intro ms
 induction ms with
 |nil=>
  rintro ds _ _ _ R k;refine U (Ub _) ?_;rfl
 |cons a ms g=>
  rintro ds c e i R k;have f:=c a sa;rw[nc]at i;have st:gk (Bp m) ((a::ms).map λm=>W.l (Lw m)) (RC ds) k=Bp m (.l (Lw a)) (RC ds) λa h=>gk (Bp m) (ms.map λm=>W.l (Lw m)) h λb h=>k (a++b) h:=rfl;refine U st (U (ZZ f e (by lia) _:Bp m (.l (Lw a)) (RC ds) (λa h=>gk (Bp m) (ms.map λm=>W.l (Lw m)) h λb h=>k (a++b) h)=gk (Bp m) (ms.map λm=>W.l (Lw m)) (RC (ds++[a])) λb h=>k ([.int (.ofNat ds.length)]++b) h) (U ((λk=>g (ds:=ds++[a]) (λx h=>c x (oa _ h)) (λd h=>(Vb.mp h).elim (e d) λh=>Ra.mp h▸f) (by rw[Ha,Ei];lia) (R:=R) k) _) (U Ha (U (Cc _ _ _) ?_))))
  rfl
end
theorem V3.all2{P:Nat->Nat->Prop}(b:P 0 0/\P 1 0/\P 2 0)(X:P 0 1/\P 1 1/\P 2 1)(V:P 0 2/\P 1 2/\P 2 2){m u:Nat}(a:V3 m)(c:V3 u):P m u:=
 V3.all (P:=λu=>P m u) ⟨V3.all (P:=λm=>P m 0) b a,V3.all (P:=λm=>P m 1) X a,V3.all (P:=λm=>P m 2) V a⟩ c
noncomputable def qdQ(rs:List Fo):List W:=[.t (rs.map λr=>.int (.ofNat r.1)),.t (rs.map λr=>.int (.ofNat r.2.1)),.t (rs.map λr=>.int (.ofNat r.2.2))]
def Nk(n:Nat)(rs:List Fo)(q:AR):yK:=(Cb (Ka n),rs.map λr=>.int (.ofNat r.1),rs.map λr=>.int (.ofNat r.2.1),rs.map λr=>.int (.ofNat r.2.2),q,ta)
section
variable {R:Type} {m:Nat} {Q:wb} {k:yK->Option R} {n v l h T X S V g:Nat}
theorem EU:V3 n->V3 v->Vo m ([(v,l,h)].map ff) (Cb (Ka (n+1))) Q k=k (Nk (n+1) [(v,l,h)] ([.int (.ofNat v)],[.int (max (.ofNat l) 0)],[.int (.ofNat h)],())):=
 V3.all2 (P:=λn v=>Vo m ([(v,l,h)].map ff) (Cb (Ka (n+1))) Q k=k (Nk (n+1) [(v,l,h)] ([.int (.ofNat v)],[.int (max (.ofNat l) 0)],[.int (.ofNat h)],()))) (by and_intros<;>kernel_rfl!) (by and_intros<;>kernel_rfl!) (by and_intros<;>kernel_rfl!)
theorem CU:V3 n->V3 v->Vo m ([(v,T,X),(v,S,V)].map ff) (Cb (Ka (n+1))) Q k=k (Nk (n+1) [(v,T,X),(v,S,V)] ([.int (.ofNat v)],[.int (max (max (.ofNat T) 0) (max (.ofNat S) 0))],[.int (min (.ofNat X) (.ofNat V))],())):=
 V3.all2 (P:=λn v=>Vo m ([(v,T,X),(v,S,V)].map ff) (Cb (Ka (n+1))) Q k=k (Nk (n+1) [(v,T,X),(v,S,V)] ([.int (.ofNat v)],[.int (max (max (.ofNat T) 0) (max (.ofNat S) 0))],[.int (min (.ofNat X) (.ofNat V))],()))) (by and_intros<;>kernel_rfl!) (by and_intros<;>kernel_rfl!) (by and_intros<;>kernel_rfl!)
noncomputable def Sv(v:Nat):Nat:=Sa v 1 λv=>Sa v 2 λu=>0
theorem FU:V3 n->V3 v->Vo m ([(v,l,h),(Sv v,0,g)].map ff) (Cb (Ka (n+1))) Q k=k (Nk (n+1) [(v,l,h),(Sv v,0,g)] ([.int (.ofNat v),.int (.ofNat (Sv v))],[.int (max (.ofNat l) 0),.int (max 0 0)],[.int (.ofNat h),.int (.ofNat g)],())):=
 V3.all2 (P:=λn v=>Vo m ([(v,l,h),(Sv v,0,g)].map ff) (Cb (Ka (n+1))) Q k=k (Nk (n+1) [(v,l,h),(Sv v,0,g)] ([.int (.ofNat v),.int (.ofNat (Sv v))],[.int (max (.ofNat l) 0),.int (max 0 0)],[.int (.ofNat h),.int (.ofNat g)],()))) (by and_intros<;>kernel_rfl!) (by and_intros<;>kernel_rfl!) (by and_intros<;>kernel_rfl!)
theorem DU:V3 n->V3 v->Vo m ([(v,T,X),(Sv v,0,g),(v,S,V)].map ff) (Cb (Ka (n+1))) Q k=k (Nk (n+1) [(v,T,X),(Sv v,0,g),(v,S,V)] ([.int (.ofNat v),.int (.ofNat (Sv v))],[.int (max (max (.ofNat T) 0) (max (.ofNat S) 0)),.int (max 0 0)],[.int (min (.ofNat X) (.ofNat V)),.int (.ofNat g)],())):=
 V3.all2 (P:=λn v=>Vo m ([(v,T,X),(Sv v,0,g),(v,S,V)].map ff) (Cb (Ka (n+1))) Q k=k (Nk (n+1) [(v,T,X),(Sv v,0,g),(v,S,V)] ([.int (.ofNat v),.int (.ofNat (Sv v))],[.int (max (max (.ofNat T) 0) (max (.ofNat S) 0)),.int (max 0 0)],[.int (min (.ofNat X) (.ofNat V)),.int (.ofNat g)],()))) (by and_intros<;>kernel_rfl!) (by and_intros<;>kernel_rfl!) (by and_intros<;>kernel_rfl!)
end
theorem MO{v:Nat}(h:[v]∈ze):V3 v:=by
 rcases(by simpa [ze]using h:v=0\/v=1\/v=2)with rfl|rfl|rfl
 ·exact .v0
 ·exact .v1
 ·exact .v2
theorem EQ{v w:Nat}(h:[v,w]∈ze):V3 v/\w=Sv v:=by
 rcases(by simpa [ze]using h:(v=0/\w=1)\/(v=1/\w=2)\/v=2/\w=0)with⟨rfl,rfl⟩|⟨rfl,rfl⟩|⟨rfl,rfl⟩
 ·exact⟨.v0,rfl⟩
 ·exact⟨.v1,rfl⟩
 ·exact⟨.v2,rfl⟩
theorem GJ(a:Nat):max (jb a) 0=.ofNat a:=Int.max_eq_left (xf a)
theorem MZ(a b:Nat):max (jb a) (.ofNat b)=.ofNat (max a b):=by show max (a:Int) b=((max a b:Nat):Int);omega
theorem RZ(a b:Nat):min (jb a) (.ofNat b)=.ofNat (min a b):=by show min (a:Int) b=((min a b:Nat):Int);omega
section
variable {n:Nat} {V lo S:List Nat} {X:List Fo}
theorem BU(T:Gj V lo S X)(a:V∈ze)(b:V3 n):∃q,LK (n+1) V lo S (Kx (Nk (n+1) X q))/\∀(R:Type) m c k,Vo (R:=R) m (X.map ff) (Cb (Ka (n+1))) c k=k (Nk (n+1) X q):=by
 have d:n+1<=3:=V3.all (P:=λn=>n+1<=3) (by decide) b;cases T with
 |r1 v e f i j=>exact⟨_,⟨d,a,rfl,rfl,rfl,rfl,by
  show[W.int (max (max (jb e) 0) (max (jb i) 0))]=_
  refine U (GJ _) (U (GJ _) (U (MZ _ _) ?_));rfl,by
  show[W.int (min (jb f) (jb j))]=_
  refine U (RZ _ _) ?_;rfl⟩,λR m c k=>CU b (MO a)⟩
 |s1 v l h=>exact⟨_,⟨d,a,rfl,rfl,rfl,rfl,by
  show[W.int (max (jb l) 0)]=_
  refine U (GJ _) ?_;rfl,rfl⟩,λR m c k=>EU b (MO a)⟩
 |r2 v w e f i j g=>
  obtain⟨o,rfl⟩:=EQ a;exact⟨_,⟨d,a,rfl,rfl,rfl,rfl,by
   show[W.int (max (max (jb e) 0) (max (jb i) 0)),W.int (max 0 0)]=_
   refine U (GJ _) (U (GJ _) (U (MZ _ _) ?_));rfl,by
   show[W.int (min (jb f) (jb j)),W.int (jb g)]=_
   refine U (RZ _ _) ?_;rfl⟩,λR m c k=>DU b o⟩
 |s2 v w l h g=>
  obtain⟨o,rfl⟩:=EQ a;exact⟨_,⟨d,a,rfl,rfl,rfl,rfl,by
   show[W.int (max (jb l) 0),W.int (max 0 0)]=_
   refine U (GJ _) ?_;rfl,rfl⟩,λR m c k=>FU b o⟩
theorem OT{ms:List Nat}(c:∀m∈ms,Mk m)(b:ms.length=n+1)(T:Gj V lo S X)(d:V∈ze)(f:V3 n):∃q,LK (n+1) V lo S (Kx (Nk (n+1) X q))/\∀(R:Type) a m k,ut (R:=R) a m (ms.map λm=>.l (Lw m)) (X.map ff) k=k (RC ms) (Nk (n+1) X q):=by
 refine aa λg=>?_;obtain⟨q,C,e⟩:=BU T d f;refine g ?_;have i:=C.n3;refine⟨q,C,λR a m k=>(Db (Kc (by refine U (wa _) ?_;lia))).trans ?_⟩;refine((λk=>cU (m:=m) (ms:=ms) (ds:=[]) c (λu h=>((Jb h).elim)) (by refine U b ?_;exact Za (Gd (lh _)) i) (R:=R) k) _).trans ?_;refine U b (U (show IF ([]:List Nat).length (n+1)=Ka (n+1)from JF.symm) ?_);exact(Db (Kc (by refine U (wc _) (U Ab ?_);lia))).trans (e R m _ _)
end
noncomputable def dT(t:List Nat):Xf:=.tuple (t.map λu=>.int (.ofNat u))
theorem WS(a b:Nat):Yc (.int (.ofNat a)) (.int (.ofNat b))=decide (a=b):=by
 exact U pz (U (wp _ _) (decide_eq_decide.mpr ⟨Fu,Gc _⟩))
theorem iB(t u:List Nat):zd (t.map λu=>.int (.ofNat u)) (u.map λu=>.int (.ofNat u))=decide (t=u):=match t,u with
 |[],[]=>by rw[ct,zd];rfl|[],y::z=>by rw[ct,Tb,zd];rfl|y::z,[]=>by rw[ct,Tb,zd];rfl|a::t,b::u=>by
  rw[Tb,Tb,zd,WS,iB t u,<-Bool.decide_and];exact decide_eq_decide.mpr (List.cons_eq_cons).symm
theorem qq(t u:List Nat):Yc (dT t) (dT u)=decide (t=u):=by
 unfold dT;rw[Yc,iB]
theorem iG(t:List Nat):ae 5 (Tw t)=J (dT t):=by
 have e:∀a:List Nat,Pe (ae 4) (Cb a)=J (a.map λu=>rg (.ofNat u)):=λa=>by
  refine U (Pd _) ?_
  induction a with
  |nil=>rfl|cons x a b=>exact Gc (λo:Option (List Xf)=>(J (rg (.ofNat x))).bind λd=>o.map λx=>d::x) b
 show(Pe (ae 4) (Cb t)).map xA=_
 refine U (e _) ?_;rfl
theorem cy:∀a:List (List Nat),Pe (ae 5) (a.map Tw)=J (a.map dT):=by
 intro a
 induction a with
 |nil=>
  exact rfl
 |cons t a b=>
  show(ae 5 (Tw t)).bind (λd=>(Pe (ae 5) (a.map Tw)).map λx=>d::x)=_
  refine U (iG _) (U b ?_);rfl
theorem jZ(t:List Nat)(a:List (List Nat)):yA (Tw t) (.l (a.map Tw))=J (decide (t∈a)):=by
 show(ae 5 (Tw t)).bind (λe=>(Pe (ae 5) (a.map Tw)).map λb=>b.any λd=>Yc d e)=_
 refine U (iG _) (U (cy _) ?_);show J ((a.map dT).any λd=>Yc d (dT t))=_
 refine Gc J ?_
 induction a with
 |nil=>rfl|cons u a b=>
  refine U Tb (U bq (U b (U (qq _ _) (Bd (Bool.decide_or _ _) ?_))));exact decide_eq_decide.mpr (by refine U (propext ab) ?_;exact or_congr_left eq_comm)
theorem US(a b c d:List Nat):lk (.t [.str "cardinality",Tw a,Tw b,Tw c,Tw d]) (.t [.str "cardinality",Tw a,Tw b,Tw c,Tw d])=J Z:=by
 have f:ae 5 (.str "cardinality")=J (.str "cardinality"):=by kernel_rfl!
 have e:ae 6 (.t [.str "cardinality",Tw a,Tw b,Tw c,Tw d])=J (.tuple [.str "cardinality",dT a,dT b,dT c,dT d]):=by
  show((ae 5 (.str "cardinality")).bind λx=>(Pe (ae 5) ([a,b,c,d].map Tw)).map λy=>x::y).map xA=_
  refine U f (U (cy _) ?_);rfl
 show(ae 6 (.t [.str "cardinality",Tw a,Tw b,Tw c,Tw d])).bind (λx=>(ae 6 (.t [.str "cardinality",Tw a,Tw b,Tw c,Tw d])).map λy=>Yc x y)=_
 refine U e ?_;show J (Yc _ _)=_
 have z:Yc (.str "cardinality") (.str "cardinality")=Z:=qbn _ (by kernel_rfl!);rw[Yc,zd,zd,zd,zd,zd,zd,z,qq,qq,qq,qq,decide_eq_true rfl,decide_eq_true rfl,decide_eq_true rfl,decide_eq_true rfl];rfl
noncomputable def jg(f:Fo->Nat)(X:List Fo):List W:=X.map λr=>.int (.ofNat (f r))
theorem pp(f:Fo->Nat)(X:List Fo):jg f X=Cb (X.map f):=by refine U (Pd _) (U Rd ?_);rfl
theorem pi{n:Nat}{S lo V:List Nat}{X:List Fo}{q:AR}(C:LK n S lo V (Kx (Nk n X q))):Kf (Jo (Nk n X q)).fs=Z/\Kf (oi (Nk n X q)).fs=Z:=by
 have w:Nb q.1=Z:=(Gc Nb C.wP).trans (pf _);have l:Nb q.2.1=Z:=(Gc Nb C.wO).trans (pf _);have h:Nb q.2.2.1=Z:=(Gc Nb C.wN).trans (pf _);have t:Nb (Cb (Ka n))=Z:=pf _;have a:∀f:Fo->Nat,Nb (jg f X)=Z:=λf=>pp f X▸pf _;have e:((Nb (Cb (Ka n))&&(Z&&(Nb (Cb (Ka n))&&((Nb (jg (λx=>x.1) X)&&(Nb (jg (λx=>x.2.1) X)&&(Nb (jg (λx=>x.2.2) X)&&Z)))&&(Nb q.1&&(Nb q.2.1&&(Nb q.2.2.1&&(Z&&Z)))))))):Bool)=Z:=by
  refine U w (U l (U h (U t (U (a _) (U (a _) (U (a _) ?_))))));rfl
 exact⟨e,e⟩
section
variable {n:Nat} {S lo V:List Nat} {X:List Fo} {q:AR}
theorem WJ{R:Type}(T:Gj S lo V X){a:wb}(k:List W->Option R):bG (X.map ff) a k=k [.t (jg (λx=>x.1) X),.t (jg (λx=>x.2.1) X),.t (jg (λx=>x.2.2) X)]:=by
 cases T with
 |r1 v b c d e=>kernel_rfl!|s1 v l h=>kernel_rfl!|r2 v w b c d e g=>kernel_rfl!|s2 v w l h g=>kernel_rfl!
theorem AU{R:Type}(c:V3 n){b:wb}(k:List W->Option R):M (vD 0 (.ofNat (n+1))) (H (au (.rng 0 (.ofNat (n+1))) b) λa=>M (Kd 4096 a) (k a) Y) Y=k (Cb (Ka (n+1))):=
 V3.all (P:=λn=>M (vD 0 (.ofNat (n+1))) (H (au (.rng 0 (.ofNat (n+1))) b) λa=>M (Kd 4096 a) (k a) Y) Y=k (Cb (Ka (n+1)))) (by and_intros<;>kernel_rfl!) c
theorem HU(T:Gj S lo V X)(e:V3 n)(C:LK (n+1) S lo V (Kx (Nk (n+1) X q)))(a:wb){R:Type}(k:Bool->Option R):uC (Nk (n+1) X q) (X.map ff) (.ofNat (n+1)) a k=k ta:=by
 have f:qe [Jo (Nk (n+1) X q)]=Z:=Aa.mpr ⟨(pi C).1,rfl⟩;have g:Jd (.t ([.str "cardinality",.t (Cb (Ka (n+1)))]++[.t (jg (λx=>x.1) X),.t (jg (λx=>x.2.1) X),.t (jg (λx=>x.2.2) X)]))=Z:=by
  show(Nb (Cb (Ka (n+1)))&&(Nb (jg (λx=>x.1) X)&&(Nb (jg (λx=>x.2.1) X)&&(Nb (jg (λx=>x.2.2) X)&&Z))))=Z
  refine U (pp _ _) (U (pp _ _) (U (pp _ _) (U (pf _) (U (pf _) (U (pf _) (U (pf _) ?_))))));rfl
 have h:lk (.t ([.str "cardinality",.t (Cb (Ka (n+1)))]++[.t (jg (λx=>x.1) X),.t (jg (λx=>x.2.1) X),.t (jg (λx=>x.2.2) X)])) (.t ([.str "cardinality",.t (Cb (Ka (n+1)))]++[.t (jg (λx=>x.1) X),.t (jg (λx=>x.2.1) X),.t (jg (λx=>x.2.2) X)]))=J Z:=by
  exact U (pp _ _) (U (pp _ _) (U (pp _ _) (US (Ka (n+1)) _ _ _)))
 have st:uC (Nk (n+1) X q) (X.map ff) (.ofNat (n+1)) a k=M (qe [Jo (Nk (n+1) X q)]) (M (Jd (.t ([.str "cardinality",.t (Cb (Ka (n+1)))]++[.t (jg (λx=>x.1) X),.t (jg (λx=>x.2.1) X),.t (jg (λx=>x.2.2) X)]))) (M (vD 0 (.ofNat (n+1))) (H (au (.rng 0 (.ofNat (n+1))) a) λc=>M (Kd 4096 c) (bG (X.map ff) a λd=>M (Kd 4096 d) (M (Kd 4096 ([.str "cardinality",.t c]++d)) (H (lk (.t ([.str "cardinality",.t (Cb (Ka (n+1)))]++[.t (jg (λx=>x.1) X),.t (jg (λx=>x.2.1) X),.t (jg (λx=>x.2.2) X)])) (.t ([.str "cardinality",.t c]++d))) λb=>k (!b)) Y) Y) Y) Y) Y) Y:=by kernel_rfl!
 exact U st ((Db f).trans ((Db g).trans ((AU e _).trans ((WJ T _).trans ((Db rfl).trans ((Db rfl).trans (Kb h)))))))
theorem Tx(u:Nat)(t:List Nat):(t.map jb).count (jb u)=t.count u:=match t with
 |[]=>rfl|a::t=>by
  refine U Tb (U Rw (U Rw (U (Tx u t) ?_)));by_cases z:a=u
  ·exact U (Fd (beq_iff_eq.mpr (Gc jb z))) (U (Fd (beq_iff_eq.mpr z)) rfl)
  ·exact U (ge λh=>z (Fu (beq_iff_eq.mp h))) (U (ge λh=>z (beq_iff_eq.mp h)) rfl)
theorem jM{t:List Nat}{u:Nat}{a:wb}:V4 (.l (Cb t)) "count" [.int (.ofNat u)] a=J (.int (.ofNat (t.count u))):=by
 have e:Bl (Cb t)=J (t.map jb):=by
  exact U (Pd _) ((Gc Bl (Rd (f:=jb) (g:=W.int) (l:=t)).symm).trans (ry _))
 show(((Bl (Cb t)).map λis=>W.int (is.count (jb u))).map λw=>(w,a)).map lj=_
 refine U e ?_;show J (W.int ((t.map jb).count (jb u)))=_
 refine U (Tx _ _) ?_;rfl
theorem iD(X:List Fo):((jg (λx=>x.1) X).zip ((jg (λx=>x.2.1) X).zip (jg (λx=>x.2.2) X))).map (λp=>W.t [p.1,p.2.1,p.2.2])=X.map ff:=match X with|[]=>rfl|r::X=>Gc (λx=>ff r::x) (iD X)
theorem gV{t:List Nat}(b:t.length<=3){r:Fo}{a:wb}{m:jW}{h:Unit×Unit}{R:Type}(k:Fw jW (Unit×Unit)->Option R):kt (Tw t) a (ff r) m h k=M (Tv t r) (k (.go (J (.int (.ofNat r.1)),J (.int (.ofNat r.2.1)),J (.int (.ofNat r.2.2)),()) h)) (k (.ret (.bool ta) h)):=by
 have s:Kd 4096 (Cb t)=Z:=Kc (by refine U (wc _) ?_;omega);refine(nI _).trans ((Kb rfl).trans ((Db s).trans ((Db rfl).trans ((Kb jM).trans ((Kb rfl).trans ((Kb rfl).trans ?_))))));show M (!bc (t.count r.1) r.2.1) (M (!(!bc r.2.2 (t.count r.1))) _ _) _=_
 unfold Tv
 induction bc (t.count r.1) r.2.1<;>induction bc r.2.2 (t.count r.1)<;>rfl
theorem SC{t:List Nat}(a:t.length<=3){σ:wb}{h:Unit×Unit}{R:Type}(k:W->Option R)(X:List Fo)(m:jW):Kg (kt (Tw t) σ) (X.map ff) m h (λq=>Fw.rec (λu u=>k (.bool Z)) (λw u=>k w) q)=k (.bool (X.all (Tv t))):=match X,m with
 |[],m=>rfl|r::X,m=>by
  have b:=λm=>SC a (σ:=σ) (h:=h) k X m;have st:Kg (kt (R:=R) (Tw t) σ) ((r::X).map ff) m h (λq=>Fw.rec (λu u=>k (.bool Z)) (λw u=>k w) q)=kt (Tw t) σ (ff r) m h λq=>Fw.rec (λm h=>Kg (kt (Tw t) σ) (X.map ff) m h λq=>Fw.rec (λu u=>k (.bool Z)) (λw u=>k w) q) (λw h=>k w) q:=rfl;refine U st (U (gV a _) (U uA ?_))
  induction Tv t r with
  |true=>exact b _|false=>rfl
theorem TL{t:List Nat}(a:t.length<=3)(e:X.length<=9){R:Type}(k:W->Option R):gz (Kx (Nk n X q),()) (Tw t) k=k (.bool (X.all (Tv t))):=by
 have l:∀f:Fo->Nat,(jg f X).length=X.length:=λf=>wa _;have z:qA [jg (λx=>x.1) X,jg (λx=>x.2.1) X,jg (λx=>x.2.2) X]=J (X.map ff):=by
  show(Ie (decide ((jg (λx=>x.1) X).length=(jg (λx=>x.2.1) X).length/\(jg (λx=>x.2.1) X).length=(jg (λx=>x.2.2) X).length))).map _=_
  exact U (l _) (U (l _) (U (l _) (U (decide_eq_true ⟨rfl,rfl⟩) (Gc J (iD X)))))
 have b:zl (X.map ff)=J (X.map ff):=by
  show(Ie (bc (X.map ff).length 4900)).map _=_
  refine U (wa _) (U (ud.mpr (by omega)) ?_);rfl
 have st:gz (R:=R) (Kx (Nk n X q),()) (Tw t) k=H (qA [jg (λx=>x.1) X,jg (λx=>x.2.1) X,jg (λx=>x.2.2) X]) λc=>H (zl c) λd=>Kg (kt (Tw t) (rW.wR (Kx (Nk n X q),()) ((),()))) d (Y,Y,Y,()) ((),()) λq=>Fw.rec (λu u=>k (.bool Z)) (λw u=>k w) q:=by kernel_rfl!
 exact U st ((Kb z).trans ((Kb b).trans (SC a k X _)))
end
section
variable {R:Type} {t m x u m0:Nat} {c:OF}
variable {n:Nat} {Q lo L X:List Nat} {O V:List Fo} {q:AR}
theorem dU(k:Option R):DE (Nk n O q) k=k:=rfl
theorem Gj.len(T:Gj Q lo L O):O.length<=9:=by
 cases T with
 |r1=>exact gb rfl|s1=>exact gb rfl|r2=>exact gb rfl|s2=>exact gb rfl
theorem FH(d:Gj Q lo L V)(T:Gj Q lo L O)(a:Q∈ze)(e:∀m∈X,Mk m){t:List Nat}(f:t∈Ny X):V.all (Tv t)=O.all (Tv t):=by
 have v:=(Wn.mp f).v3 λm h=>(e m h).mem;exact Fh.mpr ((cr d a v).trans (cr T a v).symm)
theorem yL(a:Gj Q lo L V)(T:Gj Q lo L O)(d:Q∈ze)(e:∀m∈X,Mk m):Ho X V=Ho X O:=gL λt f=>FH a T d e f
theorem rP(g:Gj Q lo L V)(T:Gj Q lo L O)(i:Q∈ze)(C:LK n Q lo L (Kx (Nk n O q)))(a:∀m∈X,Mk m)(d:X.length<=3)(k:Bool->Option R):Uz m (Nk n O q) (X.map λm=>.l (Lw m)) ((Ho X V).map Tw) k=k ta:=by
 have j:=uF a d;refine(Db ?_).trans ((Kb (qI a d)).trans ((Xr (by refine U (wa _) ?_;lia) _).trans ((Bg (f:=λu=>[]) (λt e p=>?_) _).trans ?_)))
 ·rfl
 ·have l:t.length<=3:=by refine U ((Wn.mp e).len) ?_;exact d
  have o:O.all (Tv t)=decide (t∈Ho X V):=by
   refine Fh.mpr (qdu ?_ decide_eq_true_iff.symm);exact Bd (FH g T i a e) (⟨λh=>Uc.mpr ⟨e,h⟩,λh=>(Uc.mp h).2⟩)
  refine(Db rfl).trans ((Kb (pq Ju)).trans ((Db (Aa.mpr ⟨(pi C).1,rfl⟩:qe [Jo (Nk n O q)]=Z)).trans ((dU _).trans ((TL l T.len _).trans ((Db rfl).trans ((Kb (jZ t _)).trans (U o ?_)))))))
  induction decide (t∈Ho X V)<;>rfl
 ·exact U (show((Ny X).flatMap λu=>([]:List W))=[]from List.flatMap_eq_nil_iff.mpr λu u=>rfl) ((Db rfl).trans (Kb (oz (xs:=[]) rfl)))
theorem Py(a:List (List Nat)):Nb (a.map Tw)=Z:=match a with|[]=>rfl|t::a=>Aa.mpr ⟨Ju (t:=t),Py a⟩
variable {N:List Nat} {b:Nat} {s:Gf}
theorem oC(p:Gj Q lo L V)(T:Gj Q lo L O)(h:Q∈ze)(B:yR Q lo L)(C:LK n Q lo L (Kx (Nk n O q)))(S:Sub N X)(i:∀m∈N,Mk m)(I:SI X b s)(l:X.length=n)(r:X≠[])(v:X.length<=3)(w:b+40<=4000)(y:Kf c.fs=Z){dec:Option R->Option R}(D:∀z,dec z=z)(k:Bool->Gf->Option R):
 ∃d,(SB d\/∃f,SI f (b+36) d/\Sub N f/\f.length=n)/\Nn 5000 m s c (Kx (Nk n O q)) dec ((Ho N V).map Tw) k=k ta d:=by
 refine U (yL p T h i) (aa λz=>?_);obtain⟨d,j,A,e⟩:=iY T h C B S i I l r v w;refine z (⟨d,A.imp_right (by rintro⟨f,a,g⟩;exact⟨f,a,⟨g.len.trans S.len,λk o u E=>S.mem k o u (g.mem k (S.len▸o) u E)⟩,g.len.trans l⟩),?_⟩);refine(Kb (tM (Py _))).trans ((Db (Bm I.plain y)).trans ((Kb rfl).trans ((D _).trans ((e R _).trans ((Db rfl).trans ((Db (Bm (A.elim SB.pl λ⟨_,a,_⟩=>a.plain:Kf (ah d).fs=Z) (pi C).2)).trans (Kb rfl)))))))
theorem iI:∀t∈[0,1,2,3],∀m∈Qm,∀u∈Yk,Wh t m u∈(0::Qm)/\∀w∈Yk,Ze w (Lb (Wh t m u))=Z->Ze w (Lb m)=Z:=by decide+kernel
theorem S4.mem:S4 t->t∈[0,1,2,3]:=S4.all (P:=λt=>t∈[0,1,2,3]) (by decide)
theorem jU(I:SI X b s)(a:X[x]?=J m)(d:S4 t)(e:V3 u)(f:Kf c.fs=Z)(k:Bool->Option R):QB m0 [.int (.ofNat x),Ct t,.int (.ofNat u)] s c k=k (Rp (On m (Wh t m u)) 0):=by
 have g:Jd (.t [.int (.ofNat x),Ct t,.int (.ofNat u)])=Z:=S4.all (P:=λt=>Jd (.t [.int (.ofNat x),Ct t,.int (.ofNat u)])=Z) ⟨rfl,rfl,rfl,rfl⟩ d;refine(Db (by refine U I.bad ?_;rfl)).trans ((Kb (pq g)).trans ((Db (Bm I.plain f)).trans ((Kb rfl).trans ?_)));refine(Kb (rfl:Lg [W.int (.ofNat x),Ct t,.int (.ofNat u)] 0=J (.int (.ofNat x)))).trans ((rp I a _).trans ((Db (rfl:zA [.t [.int (.ofNat x),Ct t,.int (.ofNat u)],Dn m]=Z)).trans ((Kb (AV d (I.all m (Na a)) e)).trans ((Db rfl).trans ((Db rfl).trans (Kb rfl))))))
theorem KY(d:S4 t)(a:Mk m)(e:V3 u)(h:Rp (On m (Wh t m u)) 0=Z):Mk (Wh t m u):=by
 rcases ab.mp (iI t d.mem m a.mem u e.mem).1 with z|z
 ·rw[z]at h
  exact zc h (Mk.all (P:=λm=>¬Rp (On m 0) 0=Z) (by and_intros<;>exactλh=>(zc h ia)) a)
 ·exact Mk.mem' z
theorem LY(I:SI X b s)(h:b+1<4000)(i:X[x]?=J m)(e:S4 t)(j:V3 u)(l:Mk (Wh t m u))(a:Kf c.fs=Z):
 ∃f,SI (X.set x (Wh t m u)) (b+2) f/\∀(R:Type) k,nM (R:=R) m0 [.int (.ofNat x),Ct t,.int (.ofNat u)] s c k=k f:=by
 have o:Jd (.t [.int (.ofNat x),Ct t,.int (.ofNat u)])=Z:=S4.all (P:=λt=>Jd (.t [.int (.ofNat x),Ct t,.int (.ofNat u)])=Z) ⟨rfl,rfl,rfl,rfl⟩ e;refine aa λp=>?_;obtain⟨y,d,r⟩:=sU I (by exact vd (by assumption));obtain⟨v,g,w⟩:=cJ d h i e j l λs=>[ah s,c];exact p (⟨v,g,λR k=>(Db (Bm I.plain a)).trans ((r R _).trans ((Db (Bm d.plain a)).trans ((Kb (pq o)).trans ((Db (Bm d.plain a)).trans ((Kb rfl).trans ((w R _).trans (Db (Bm g.plain a))))))))⟩)
theorem KS(S:Sub N X)(f:X[x]?=J m)(i:S4 t)(j:∀m∈X,Mk m)(l:V3 u):Sub N (X.set x (Wh t m u)):=⟨yb.trans S.len,λk g w a=>by
 have d:x<X.length:=(ub.mp f).1;by_cases z:x=k
 ·subst z
  have e:(X.set x (Wh t m u))[x]! =Wh t m u:=by refine U Bc (U (je d) ?_);rfl
  rw[e]at a;have h:=iI t i.mem m (j m (Na f)).mem u l.mem;have:=qf.mp (h.2 w (Sj _ h.1 w a) (qf.mpr a));refine S.mem x g w ?_;cases (vc d).symm.trans f;exact this
 ·have e:(X.set x (Wh t m u))[k]! =X[k]! :=by exact U Bc (U (Xc z) (Bd Bc rfl))
  rw[e]at a;exact S.mem k g w a⟩
end
section
variable {n:Nat} {Q lo P V:List Nat} {X S:List Fo}
def sE(x t u:Nat):List W:=[.int (.ofNat x),Ct t,.int (.ofNat u)]
theorem rC(v:Gj Q lo P S)(T:Gj Q lo P X)(j:Q∈ze)(B:yR Q lo P)(g:∀m∈V,Mk m)(k:V.length=n+1)(F:V3 n){x t u:Nat}(hx:x<n+1)(l:S4 t)(o:V3 u){R:Type}(m:Nat)(i:wb){w:Option R}{G I L p K J1 A N D:Gf->yK->Option R}
 (e0:w=ut i m (V.map λm=>.l (Lw m)) (X.map ff) G)
 (e1:∀s c,G s c=uC c (X.map ff) (.ofNat (n+1)) (i++[ah s,Jo c]) λr=>M r (J1 s c) (I s c))
 (e2:∀s c,I s c=Uz m c (V.map λm=>.l (Lw m)) ((Ho V S).map Tw) λr=>M r (A s c) (L s c))
 (e3:∀s c,L s c=Nn 5000 m s (Jo c) (Kx c) (DE c) ((Ho V S).map Tw) λr s=>M r (N s c) (p s c))
 (e4:∀s c,p s c=QB m (sE x t u) s (oi c) λr=>M r (nM m (sE x t u) s (oi c) λs=>Nn 5000 m s (oi c) (Kx c) (λz=>z) ((Ho V S).map Tw) λr s=>M r (D s c) (K s c)) (K s c)):∃s c,w=K s c:=by
 refine aa λe=>?_;obtain⟨q,C,f0⟩:=OT g k T j F;have O:=C.n3;have W:V.length<=3:=k▸O;have ne:{b:List Nat}->b.length=n+1->b≠[]:=λh z=>by rw[z]at h;cases h
 obtain⟨f,W1,g1⟩:=oC v T j B C (⟨rfl,λy y y h=>h⟩:Sub V V) g (lF g) k (ne k) W (by decide) (m:=m) (pi C).1 (dec:=DE (Nk (n+1) X q)) (λy=>rfl) λr s=>M r (N s (Nk (n+1) X q)) (p s (Nk (n+1) X q));refine e (U (e0.trans ((f0 R _ _ _).trans ((e1 _ _).trans ((HU T F C _ _).trans ((fi rfl).trans ((e2 _ _).trans ((rP v T j C g W _).trans ((fi rfl).trans ((e3 _ _).trans (g1.trans (fi rfl)))))))))):w=p f (Nk (n+1) X q)) (U (e4 _ _) (aa λe=>?_)));rcases W1 with sb|⟨b,a,S1,l1⟩
 ·refine e ?_
  exact⟨f,_,(fi (by refine U sb.bad ?_;rfl):QB m (sE x t u) f (oi (Nk (n+1) X q)) _=_).trans (fi rfl)⟩
 ·refine e ?_
  have d:=vc (l1▸hx:x<b.length);refine((by rintro⟨s,h⟩;exact⟨s,_,(jU a d l o (pi C).2 _).trans h⟩:(∃s,M (Rp (On b[x]! (Wh t b[x]! u)) 0) (nM m (sE x t u) f (oi (Nk (n+1) X q)) λs=>Nn 5000 m s (oi (Nk (n+1) X q)) (Kx (Nk (n+1) X q)) (λz=>z) ((Ho V S).map Tw) λr s=>M r (D s (Nk (n+1) X q)) (K s (Nk (n+1) X q))) (K f (Nk (n+1) X q))=K s (Nk (n+1) X q))->_)) ?_
  induction he:Rp (On b[x]! (Wh t b[x]! u)) 0 with
  |false=>exact⟨f,rfl⟩|true=>
   refine aa λe=>?_;obtain⟨s2,A,g2⟩:=LY a (by decide) d l o (KY l (a.all _ (Na d)) o he) (m0:=m) (pi C).2;have E:(b.set x (Wh t b[x]! u)).length=n+1:=yb.trans l1;obtain⟨s3,_,g3⟩:=oC v T j B C (KS S1 d l a.all o) g A E (ne E) (E▸O) (by decide) (m:=m) (pi C).2 (dec:=λz=>z) (λy=>rfl) λr s=>M r (D s (Nk (n+1) X q)) (K s (Nk (n+1) X q));exact e (⟨s3,(Db rfl).trans ((g2 R _).trans (g3.trans (fi rfl)))⟩)
end
section
variable {R:Type} {n v:Nat} {S lo Q T:List Nat} {X V:List Fo} {q:W} {xs:List Int}
theorem YU{t:Nat}:S4 t->Lg ZP (.ofNat t)=J (Ct t):=S4.all (P:=λt=>Lg ZP (.ofNat t)=J (Ct t)) ⟨rfl,rfl,rfl,rfl⟩
theorem CZ(xs:List Int)(n j:Nat):∃x t u,x<n+1/\S4 t/\V3 u/\∀(R:Type) k,r8 (R:=R) (.ofNat (n+1)) (xs.map W.int) (.ofNat j) k=k (sE x t u) (.ofNat (j+3)):=by
 obtain⟨x,b,c⟩:=th xs j (w:=n+1) (kh n);obtain⟨t,a,d⟩:=th xs (j+1) (w:=4) (by decide);obtain⟨u,e,f⟩:=th xs (j+2) (w:=3) (by decide);exact⟨x,t,u,b,S4.of a,V3.of e,λR k=>(c R _).trans ((d R _).trans ((Kb (YU (S4.of a))).trans ((Db (S4.all (P:=λt=>nb (Ct t)=Z) ⟨rfl,rfl,rfl,rfl⟩ (S4.of a))).trans (f R _))))⟩
theorem jI(e:Gj S lo Q X)(r:Gj S lo Q V)(i:S∈ze)(B:yR S lo Q)(f:∀m∈T,Mk m)(g:T.length=n+1)(h:V3 n)(d:Int)(a:Option W)(j:Nat)(k:Fk->Option R):∃w,Ug (ef 5000) (rest 9) (Y4 q (.int (.ofNat (n+1))) (Cb T) (T.map λm=>.l (Lw m)) (.ofNat v) d (X.map ff) (V.map ff) a) [xp (xs.map W.int) (.ofNat j)] k=k (.ret (.bool Z) w):=by
 have y:n+1<=3:=V3.all (P:=λn=>n+1<=3) (by decide) h;obtain⟨x,t,u,l,o,p,z⟩:=CZ xs n j;have A:=(qdd 5000 q (xs.map W.int) (.ofNat j) k (.ofNat (n+1)) (.ofNat v) d (Cb T) (T.map λm=>.l (Lw m)) (X.map ff) (V.map ff) a).trans ((eY f (g▸y) e.len _).trans (z R _));refine U A (U (qde _ _ _ _ _ _ _ _ _ _ _ _ _ _ _) ?_)
 let b:=xp (xs.map W.int) (.ofNat (j+3))
 obtain⟨s,c,m⟩:=rC e e i B f g h l o p (R:=R) 1 [b] (qfn 5000 q b _ (.ofNat (n+1)) (Cb T) _ (X.map ff) (V.map ff) _ _ (sE x t u) (.int (.ofNat v)) (.int d) _ a Y Y) (λs c=>qfp 5000 q b _ _ _ _ _ _ _ _ _ _ _ _ _ s c) (λs c=>qfr 5000 q b _ _ _ _ _ _ _ _ _ _ _ _ _ s c) (λs c=>qft 5000 q b _ _ _ _ _ _ _ _ _ _ _ _ _ s c) λs c=>qfv 5000 q b _ _ _ _ _ _ _ _ _ _ _ _ _ s c;refine U m ?_;obtain⟨D,c2,C⟩:=rC e r i B f g h l o p (R:=R) 3 [b,ah s,oi c] (qfo 5000 q b (ah s) (oi c) _ (.ofNat (n+1)) (Cb T) _ (X.map ff) (V.map ff) _ _ (sE x t u) (.int (.ofNat v)) (.int d) _ a (J (.ref 1)) (J (.ref 2))) (λs c=>qfq 5000 q b _ _ _ _ _ _ _ _ _ _ _ _ _ _ _ s c) (λs c=>qfs 5000 q b _ _ _ _ _ _ _ _ _ _ _ _ _ _ _ s c) (λs c=>qfu 5000 q b _ _ _ _ _ _ _ _ _ _ _ _ _ _ _ s c) λs c=>qfw 5000 q b _ _ _ _ _ _ _ _ _ _ _ _ _ _ _ s c;exact⟨_,C⟩
end
section
variable {R:Type}
theorem V0{v:Nat}:V3 v->[v]∈ze:=V3.all (P:=λv=>[v]∈ze) (by decide)
theorem T2{v:Nat}:V3 v->[v,Sv v]∈ze:=V3.all (P:=λv=>[v,Sv v]∈ze) (by decide)
theorem i0{v:Nat}:V3 v->Hz (.ofNat v+1) 3=J (.ofNat (Sv v)):=V3.all (P:=λv=>Hz (.ofNat v+1) 3=J (.ofNat (Sv v))) ⟨rfl,rfl,rfl⟩
theorem LO(z:Nat):(1:Int)+ .ofNat z=.ofNat (z+1):=Int.add_comm _ _
theorem yZ(q:W)(xs:List Int)(k:Fk->Option R):∃i,Ug (ef 5000) (rest 1) (OZ q) [xp (xs.map W.int) 0] k=k (.ret (.bool Z) i):=by
 refine aa λp=>?_;obtain⟨n,j,z⟩:=th xs 0 (w:=3) (by decide);have j:=V3.of j;have A:n+1<=3:=V3.all (P:=λn=>n+1<=3) (by decide) j;obtain⟨e,r,o,s⟩:=ZN xs (Cb (Ka (n+1))) 1;rw[wc,Ab]at o s;obtain⟨v,l,B⟩:=th xs (n+2) (w:=3) (by decide);have l:=V3.of l;obtain⟨b,C,D⟩:=th xs (n+3) (w:=3) (by decide);obtain⟨c,E,F⟩:=th xs (n+4) (w:=3) (by decide);obtain⟨a,G,I⟩:=th xs (n+5) (w:=3) (by decide);obtain⟨d,K,L⟩:=th xs (n+6) (w:=3) (by decide);obtain⟨f,V,N⟩:=th xs (n+7) (w:=2) (by decide);obtain⟨g,X,O⟩:=th xs (n+8) (w:=3) (by decide);refine p ?_;have Q:Ug (ef 5000) (rest 1) (OZ q) [xp (xs.map W.int) 0] k=Ug (ef 5000) (rest 3) (s8 q (.int (.ofNat (n+1))) (Cb e)) [xp (xs.map W.int) (.ofNat (n+2))] k:=by
  refine(qdb 5000 q (xs.map W.int) 0 k).trans ((z R _).trans (U (LO _) ((qdc 5000 q (xs.map W.int) (.ofNat 1) k (.ofNat (n+1))).trans ((xg (by lia) _).trans (((λk=>by exact U (s _ _) (U (mi 1 _) rfl):∀k,gk (WG (R:=R) (xs.map W.int)) (Cb (Ka (n+1))) (.ofNat 1) k=k (Cb e) (.ofNat (n+2))) _).trans (Db (Kc (by refine U (wc _) ?_;lia))))))))
 have S:Ug (ef 5000) (rest 3) (s8 q (.int (.ofNat (n+1))) (Cb e)) [xp (xs.map W.int) (.ofNat (n+2))] k=Ug (ef 5000) (rest 7) (PZ q (.int (.ofNat (n+1))) (Cb e) (e.map λm=>.l (Lw m)) (J (.int (.ofNat v))) (J (.o (.l [ff (v,b,b+c),ff (v,a,a+d)]))) (J (.int (0+1))) (J (.int (.ofNat a))) Y Y) [xp (xs.map W.int) (.ofNat (n+7))] k:=
  (E9 5000 q _ _ k _ _).trans ((QN r (o▸A) _).trans ((F9 5000 q _ _ k _ _ _).trans ((B R _).trans ((G9 5000 q _ _ k _ _ _ _).trans ((D R _).trans ((F R _).trans ((I R _).trans (L R _))))))))
 have t:=H9 5000 q (xs.map W.int) (.ofNat (n+7)) k (.int (.ofNat (n+1))) (Cb e) (e.map λm=>.l (Lw m)) (.ofNat v) (.ofNat b) (.ofNat (b+c)) (.ofNat a) (.ofNat (a+d));rw[MZ,RZ]at t;have u:=(Q.trans (S.trans t)).trans ((I9 5000 q (xs.map W.int) (.ofNat (n+7)) k (.int (.ofNat (n+1))) (Cb e) (e.map λm=>.l (Lw m)) [ff (v,b,b+c),ff (v,a,a+d)] [ff (v,max b a,min (b+c) (a+d))] (.ofNat v) (.ofNat a)).trans (N R _));have x:max b a<=2:=by lia
 have y:min (b+c) (a+d)<=4:=by lia
 induction m:Rp (.ofNat f) 1 with
 |true=>
  have T:=u.trans ((Db m).trans ((Kb (i0 l)).trans ((O R _).trans ((Kb (rfl:nN 1 (row (.ofNat (Sv v)) 0 (.ofNat g)) [ff (v,b,b+c),ff (v,a,a+d)]=J ([(v,b,b+c),(Sv v,0,g),(v,a,a+d)].map ff))).trans (Db rfl)))));obtain⟨i,h⟩:=jI (R:=R) (q:=q) (v:=v) (xs:=xs) (.r2 v (Sv v) b (b+c) a (a+d) g) (.s2 v (Sv v) (max b a) (min (b+c) (a+d)) g) (T2 l) (.two v (Sv v) (max b a) (min (b+c) (a+d)) g x y (by exact Sf (by assumption))) r o j (.ofNat a) (J (row (.ofNat (Sv v)) 0 (.ofNat g))) (n+9) k;exact⟨i,T.trans h⟩
 |false=>
  refine aa λp=>?_;obtain⟨i,h⟩:=jI (R:=R) (q:=q) (v:=v) (xs:=xs) (.r1 v b (b+c) a (a+d)) (.s1 v (max b a) (min (b+c) (a+d))) (V0 l) (.one v (max b a) (min (b+c) (a+d)) x y) r o j (.ofNat a) Y (n+8) k;exact p (⟨i,(u.trans (fi m)).trans h⟩)
end
section
variable {l:Nat} {V:List Int} {X:Nat->Option (List Int)} {cf:Yp} {T:Nat->jc->wb->Wk}
noncomputable abbrev TT(l:Nat):jc:=[J (.k (.ref l)),Y,Y,Y,Y,Y,Y,Y,Y,Y,Y,Y,Y,Y,Y,Y]
theorem QM(e:X l=J V):fS db X cf T (.q (.x 1) (.dict [(.str "cells"),(.str "at")] [(.cut (.x 0) 16),(.int 0)])) (TT l) []=J (.next,OZ (.k (.ref l)),[xp ((V.take 16).map W.int) 0]):=by
 have c:fX db X cf (.cut (.x 0) 16) (TT l) []=J (.l ((V.take 16).map W.int),[]):=by
  show(X l).bind _=_
  refine U e ?_;show(Ie (bc ((V.map W.int).take 16).length 4096)).map _=_
  refine U (show bc ((V.map W.int).take 16).length 4096=Z from ud.mpr (by rw[ju];lia)) (U List.map_take ?_);rfl
 have d:uG db X cf [.cut (.x 0) 16,.int 0] (TT l) []=J ([.l ((V.take 16).map W.int),.int 0],[]):=by
  show(fX db X cf (.cut (.x 0) 16) (TT l) []).bind _=_
  refine U c ?_;rfl
 have a:fX db X cf (.dict [(.str "cells"),(.str "at")] [(.cut (.x 0) 16),(.int 0)]) (TT l) []=J (.ref 0,[xp ((V.take 16).map W.int) 0]):=by
  show(uG db X cf [.cut (.x 0) 16,.int 0] (TT l) []).bind (λq=>rM [.str "cells",.str "at"] q.1 q.2)=_
  refine U d ?_
  kernel_rfl!
 show((fX db X cf (.dict [(.str "cells"),(.str "at")] [(.cut (.x 0) 16),(.int 0)]) (TT l) []).bind λp=>(mf p.1).map λw=>(w,p.2)).bind (λp=>(fP db X cf (.x 1) p.1 (TT l) p.2).map eZ)=_
 refine U a ?_
 kernel_rfl!
theorem C1(e:X l=J V)(C:yh (ef 5000) cf (Ge db Ib X cf 4)):∃a,Wo db Ib X cf lJ [.k (.ref l)] []=J (.bool Z,a):=by
 refine aa λb=>?_;obtain⟨a,h⟩:=yZ (R:=W×wb) (.k (.ref l)) (V.take 16) λr=>J (RS r);refine b ?_
 induction Hn C (rest 1) (OZ (.k (.ref l))) [xp ((V.take 16).map W.int) 0] (λr=>J (RS r)) _ h with|mk p f d g c=>
  refine aa λb=>?_;obtain⟨i,j,k⟩:=p;cases g;refine b (⟨a,?_⟩);have t:(Dw (hJ db X cf (Ge db Ib X cf 4) (rest 1))) (.next,OZ (.k (.ref l)),[xp ((V.take 16).map W.int) 0])=hJ db X cf (Ge db Ib X cf 4) (rest 1) (OZ (.k (.ref l))) [xp ((V.take 16).map W.int) 0]:=rfl;refine U (by kernel_rfl!:Wo db Ib X cf lJ [.k (.ref l)] []=((fS db X cf (Ge db Ib X cf 4) (.q (.x 1) (.dict [(.str "cells"),(.str "at")] [(.cut (.x 0) 16),(.int 0)])) (TT l) []).bind (Dw (hJ db X cf (Ge db Ib X cf 4) (rest 1)))).map v7) (U (QM e) (U (Option.bind_some _ _) (U t (U d ?_))))
  induction i with
  |next=>cases c|ret w=>cases c;rfl
theorem AT(l:Nat)(V:List Int):∃a,Mb db Ib qc 12 (Rm l V) 481 [.k (.ref l)] []=J (.bool Z,a):=by
 obtain⟨a,h⟩:=C1 (cf:=Mb db Ib qc 11 (Rm l V)) (Fd rfl) (q9 (n:=1) (sc:=Rm l V) (cb:=Ge db Ib (Rm l V) (Mb db Ib qc 11 (Rm l V)) 4));exact⟨a,((λn=>rfl:∀n,Mb db Ib qc (n+1) (Rm l V) 481 [.k (.ref l)] []=(qc 481).bind λb=>vt b.mode (Wo db Ib (Rm l V) (Mb db Ib qc n (Rm l V)) b) (Wo db Ib (λu=>Y) (Mb db Ib qc n λu=>Y) b) [.k (.ref l)] []) 11).trans ((Gc (λo:Option Sg=>o.bind _) (rfl:qc 481=J lJ)).trans h)⟩
theorem cO:Wy:=λl V u=>(AT l V).elim λu h=>C5 h
theorem done:Mh.Holds:=DN (OQ cO)
end
end
end Mine.Internal
theorem PySem.Challenge.cw_nz0028_01_holds : PySem.Challenge.rw_nz0028_01.Holds :=
  Mine.Internal.done
