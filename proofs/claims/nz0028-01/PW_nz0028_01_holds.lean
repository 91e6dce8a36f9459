import PyProof.Rows.All
import Wide.All
import OpenK.AllK
import Wide.FinOn
import PySem.Challenge.RW_nz0028_01
set_option Elab.async false
set_option maxRecDepth 100000
open And renaming intro->IF
open Array renaming size_push->bm,getElem?_toList->fm,length_toList->zA,mk->JF
open Bool renaming and_eq_true->La,not_true->Zb,not_false->qc,false_eq_true->Nc,false_ne_true->ke,and_true->Rg,not_eq_true->zh,not_eq_true'->Ai,or_eq_true->xj,and_false->bk,and_self->Lo,true_and->Mo,eq_iff_iff->eu,false_and->Ou,false_or->Zw,or_false->ax,and_eq_true_iff->AA
open Classical renaming byContradiction->qL,choose->rL,choose_spec->sL
open ForInStep renaming yield->Hf
open Function renaming comp_def->di,comp->gn
open Int renaming eq_ofNat_of_zero_le->pc,toNat_natCast->ze,reduceNeg->Vg,ofNat_lt->jr,not_lt->NK,toNat->kL
open List renaming getElem?_eq_some_iff->ca,getElem?_eq_getElem->da,length_map->ja,mem_of_getElem?->ma,map_cons->sa,getElem?_append_left->ta,getElem?_map->za,replicate->Aa,mem_cons->Fa,prefix_refl->Ha,mem_cons_of_mem->Ia,mem_cons_self->Ma,getElem?_set_ne->Na,getElem?_append_right->Ra,range->Ua,getD_eq_getElem?_getD->Xa,not_mem_nil->Za,length_nil->bb,length_cons->cb,mem_append->db,getElem?_set_self->fb,size_toArray->gb,mem_singleton->jb,cons_append->wb,map_nil->zb,mem_map->Bb,nil_append->Db,length_append->Ib,all_eq_true->Jb,length_set->Mb,length_filter_le->Ub,take_add_one->Yb,map_append->bc,prefix_append->dc,getElem?_of_mem->ic,mem_filter->jc,map_map->Fc,nodup_cons->Gc,flatMap_cons->Dd,getElem?_eq_none_iff->Od,filter_cons->Vd,lookup_cons->Wd,take_length->Xd,getElem?_eq_none->Yd,findIdx?_cons->qe,map_set->lf,getElem?_cons_zero->sf,getElem_of_mem->zf,map_congr_left->Af,pairwise_cons->Kf,mem_append_left->Xf,nodup_append->Zf,length_take->lg,mem_range->ng,find?_cons->Mg,countP_cons->Ah,getElem?_range->Nh,count_cons->Zh,getElem?_cons_succ->mi,getElem?_replicate->oi,forIn_nil->Bi,getElem?_set->Ci,mem_append_right->Vi,filter_nil->zj,forIn_cons->Aj,filterMap_cons->Fj,replicate_succ->Gj,getElem?_concat_length->Vj,filter_append->dk,map->fk,ext_getElem?->Hk,getElem?_inj->Ik,length->Jk,length_range->Lk,reverse_cons->Mk,all_cons->Yk,sum_cons->Zk,isEmpty_nil->Rl,length_eq_zero_iff->Sl,filter_eq_nil_iff->cm,take_of_length_le->dm,append_nil->um,range_succ->vm,contains_eq_mem->un,count_le_length->vn,mem_of_mem_take->yn,pairwise_append->zn,any_cons->Po,zip_cons_cons->Pp,all_nil->Iq,append_assoc->Jq,nodup_range->Br,dropLast_concat_getLast->fu,idxOf_lt_length_of_mem->ru,findIdx?_eq_none_iff->Xv,eq_of_mem_replicate->cx,map_take->fx,range_succ_eq_map->az,toArray->bz,findIdx?_toArray->oz,getElem?_toArray->pz,idxOf_le_length->DA,filter_sublist->YB,map_eq_nil_iff->ZB,getElem_idxOf->fD,map_replicate->gD,set_cons_succ->iD,set_cons_zero->jD,zip_nil_right->kD,all_eq_false->uD,filter_congr->vD,foldl_append->wD,getElem_take->xD,pairwise_map->yD,any_eq_true->AF,getElem_inj->BF,map_reverse->DF,mem_reverse->EF,zipIdx_cons->FF,foldl_cons->QF,of_mem_zip->RF,zipIdx_nil->TF,drop_nil->KH,all_map->wJ,zip_map->xJ,lookup->IJ
open List.IsPrefix renaming subset->li
open List.Nodup renaming sublist->bx,idxOf_getElem->lL
open List.Pairwise renaming filter->FJ,imp->GJ,imp_of_mem->HJ
open List.Perm renaming append_left->tL,cons->uL,eq_of_pairwise->vL,swap->wL
open List.cons renaming injEq->Jf
open Nat renaming le_trans->Eb,ne_of_lt->Bc,lt_irrefl->Ed,zero_le->Ae,not_lt_zero->Fe,le_of_not_lt->Ke,le_refl->Le,pow_le_pow_right->ag,lt_succ_of_lt->ch,blt_eq->yh,le_succ->wi,ne_of_gt->Ii,lt_succ_self->ej,not_lt->fj,le_of_succ_le->bl,add_sub_cancel_left->Vl,exists_eq_add_of_le->Wl,eq_zero_or_pos->Xp,lt_of_le_of_ne->Yp,lt_of_lt_of_le->Zp,blt->kr,add_assoc->qx,le_of_lt->qz,lt_trans->rz,le_add_right->UF,le_antisymm->mH,sub_zero->JJ,log2_lt->oK,succ->yL
open Ne renaming symm->de
open Option renaming some->aa,none->ba,isSome_iff_exists->Ta,map_some->Se,toList_some->Ff,mem_toList->zk,bind_some->Lq,map_eq_some_iff->gx,toList_none->FA,isSome_map->aC,getD_none->lD,map->yJ
open Option.some renaming injEq->Tc,inj->qh
open Prod.mk renaming injEq->Ak
open PyProof.Rows renaming getItem_tuple->Qp,add_int->pK,floordiv_int->qK,isub_int->rK,len_tuple->sK,mod_int'->tK,neg_int->uK,sub_int->vK
open PyProof.Rows.F renaming plain_set_update_loop->om,entry_set_update_loop->BA
open PyProof.Rows.IntsAre renaming int_at->rD,length->sD
open PySem renaming wpAny_bind->ia,Value->ya,wpAny_pure->Ba,wpAny_mono->Ea,Addr->Qa,Shared->Sa,wpAny->Wa,model->Fb,Heap->Gb,World->Lb,Str->Rb,wpAny_holding->Xb,wpAny_standAt->fc,Around->lc,codeAny_mono->Hc,sizeLine_eq->Mc,strKind->ff,codeAny->ai,wpAt_of_wpAny->GA,call->LJ
open PySem.Around renaming under_plainId->jf,under_plain->yA
open PySem.BindsTo renaming of_eq->yF
open PySem.Builtin.Frozenset renaming updateFrom->jm,addrOf->KF,newClass->LF,sizeOf->MF,slot0->NF
open PySem.Builtin.List renaming listExtendWith->sg,listTooLong->yj,listLengthHint->Oo,listSameRef->Dq,listFitsIndex->mK
open PySem.Builtin.Range renaming rangeSize->ph,small->AJ
open PySem.Builtin.SmallTypes renaming nextOf->md,ownedTupleIsFree->Ze,ownedTupleHandOut->ck
open PySem.Builtin.Tuple renaming tupleExact->Wp
open PySem.Challenge renaming pw_nz0028_01->pi,rw_nz0028_01->jn
open PySem.Code renaming quiet_builtin->eD,builtin->sJ
open PySem.Env renaming kindOf->km,blockKind->tJ
open PySem.Expr renaming Starred->Ee,Name->IK
open PySem.F renaming called_set->fe,plain_extend_loop->Lf,slot_tuple_iterator_next->Pf,slot_zip_next->Di,slot_list_extend->Bk,args_tuple_iterator_next_1->Qn,entry_tuple_iterator_next->Jo,entry_extend_loop->gu,args_zip_next_1->Ru,plain_list_iadd->Su,entry_zip_next->Yv,entry_type_call->jH,entry_set_init->HH,typeCall_set_1->IH,plain_set_new->uJ,slot_set_iter->vJ
open PySem.Heap renaming get?_push_of_some->Da,get?_push_size->Pa,lt_size->Wb,get?_update_self->qd,size_push->Td,dictOf_iff->vf,get?_update_other->Df,SameBut->Hg,IsTuple->Zy,ExtBut->CA,get?->MK
open PySem.Heap.IsTuple renaming push->Pm
open PySem.Heap.SameBut renaming update->pe,refl->nK
open PySem.Manifest renaming owners->NL,sig_set_iterator->OL
open PySem.NameKind renaming free->Yc,cell->ve
open PySem.Obj renaming data_mapFields->ef,isFreed_of_fields->bj,mapSeq->gj,mapFields->jl,cls_mapFields->lr,putNameByArray->zD,cls->QL
open PySem.PyData renaming eqv->ud,int->vd,eqvAll->Be,canLay0->mf,depth->Uf,canLayAll0->Sg,depthAll->Rh,weightAll->Nq,weight->Qu,list->cz,keyHash->GF,strOk->nH,tuple->oH
open PySem.SeqAt renaming in_list_reads->JA,shaped->MH
open PySem.SetTable renaming below->fi
open PySem.Shared renaming heap->ez,TypeIs->XF
open PySem.Str renaming ofString->Jg
open PySem.Value renaming ref->Ac,type->af,none->zg,isInt->ii,builtin->cj,isStrOf->dj,int->Wj,bool->NJ
open PySem.W.Fast renaming te10156331382660048174->wK,te11892475500146522536->xK,te4187177175401517315->yK,te6613529449190102663->zK,tw10156331382660048174->BK,tw11892475500146522536->CK,tw4187177175401517315->DK,tw6613529449190102663->EK
open PySem.W.Hook renaming says->zF,obs->kH,val->lH
open PySem.W.RowW renaming records->dz
open PySem.W.Upd renaming head->zL
open PySem PySem.W PySem.Calls PyProof.Rows
set_option maxHeartbeats 0
namespace Mine
abbrev P0:Program:=pi
abbrev Hu:OpenRow:=jn.row
def qv:Program:=view pi [32]
def qq:List Rb:=["_wall","least","greatest","size","size_domains","next_from","has","has_domains","values","up_to","from_on","without","meet","negation","struck","said_of","Store","Propagator","standing","Placing","Cardinality","_law_draw","_law_domain","_law_tuples","_law_keeps","_law_made","_law_left","_law_is_asked_right"]
def bn (tb:String->Option Builtin) (p:Program) (w:Lb) (n₀:Nat) (ann:Option ya):Nat->SharedT->Thread->Option SharedT
 |0,_,_=>ba
 |n+1,s,t=>match through t with
  |true=>aa s
  |false=>match stepOk n₀ ann t with
   |false=>ba
   |true=>match stepT (denote tb) p w s t with
    |some (s',t')=>bn tb p w n₀ ann n s' t'
    |none=>ba
theorem Rv {tb:String->Option Builtin} {p:Program} {w:Lb} {n₀:Nat} {ann:Option ya}:∀{n:Nat} {s s':SharedT} {t:Thread},
 bn tb p w n₀ ann n s t=aa s'->topRun tb p w n₀ ann n s.abs t=aa s'.abs
 |0,_,_,_,h=>by cases h
 |n+1,s,s',t,h=>by
  unfold bn at h;unfold topRun;cases he:through t with
  |true=>rw[he]at h;cases h;rfl
  |false=>
   rw[he]at h;cases hk:stepOk n₀ ann t with
   |false=>rw[hk]at h;cases h
   |true=>
    rw[hk]at h;cases hs:stepT (denote tb) p w s t with
    |none=>rw[hs]at h;cases h
    |some r=>obtain⟨s₂,t₂⟩:=r;rw[hs]at h;rw[stepT_spec hs];exact Rv h
noncomputable def Sr (tb:String->Option Builtin) (p:Program) (w:Lb) (n₀:Nat) (ann:Option ya):Nat->SharedT->Thread->Option SharedT
 |0,_,_=>ba
 |n+1,s,t=>match through t with
  |true=>aa s
  |false=>match EK n₀ ann t with
   |false=>ba
   |true=>match BK (CK tb) p w s t with
    |some (s',t')=>Sr tb p w n₀ ann n s' t'
    |none=>ba
theorem Tt {tb p w n₀ ann}:∀n s t,bn tb p w n₀ ann n s t=Sr tb p w n₀ ann n s t
 |0,_,_=>rfl
 |n+1,s,t=>by
  unfold bn Sr;rw[<-zK,<-wK,<-xK];cases through t<;>simp only;cases stepOk n₀ ann t<;>simp only;cases stepT (denote tb) p w s t<;>simp only;exact Tt n _ _
noncomputable def pH (P:Params):BT:=(boot_heap P).objs.toList.zipIdx.foldl (λt x=>t.ins x.2 x.1) .nil
end Mine
set_option maxHeartbeats 200000
namespace Mine
inductive V where
 |none|bool (b:Bool)|int (i:Int)|str (s:Rb)|tup (xs:List V)|ref (i:Nat)|con (v:ya)|rng (a b:Int)|iset (xs:List Int)
 deriving Inhabited
inductive O where
 |list (xs:List V)|idict (es:List (Int×V))|sdict (es:List (Rb×V))|inst (c d:Nat)
 deriving Inhabited
abbrev St:=List O
abbrev Me:=List (Option V)
inductive CT where
 |var (i:Nat)|tup (is:List Nat)
mutual
inductive X where
 |var (i:Nat)|con (v:ya)|none|bool (b:Bool)|int (i:Int)|str (s:Rb)
 |attr (o:X) (n:Rb)|sub (o i:X)|cut (o:X) (k:Int)
 |bin (op:Operator) (a b:X)|neg (a:X)
 |cmp (op:CmpOp) (a b:X)|cmp2 (op1 op2:CmpOp) (a b c:X)
 |ite (t:B) (a b:X)|tup (xs:List X)|list (xs:List X)|dict (ks vs:List X)
 |comp (k:Nat) (iter:X) (tgt:CT) (ifs:List B) (Md:List G) (elt:X)
 |call (f:X) (args:List X)|meth (o:X) (n:Rb) (args:List X)
 |sup (i:Nat) (f:Nat) (args:List X)
inductive B where
 |and (a b:B)|or (a b:B)|not (a:B)|base (x:X)
inductive G where
 |mk (iter:X) (tgt:CT) (ifs:List B)
end
inductive T where
 |var (i:Nat)|tup (ts:List T)|attr (o:X) (n:Rb)|sub (o i:X)
inductive S where
 |assign (t:T) (e:X)|aug (o i:X) (op:Operator) (e:X)|expr (e:X)
 |ifs (t:B) (a b:List S)|whil (t:B) (b:List S)|fors (t:CT) (e:X) (b:List S)|forz (t:CT) (es:List X) (b:List S)|ret (e:X)
inductive Fl where
 |next|ret (v:V)
structure Fn where
 params:Nat
 slots:Nat
 body:List S
structure gi where
 meth:Nat->Rb->Option Nat
 init:Nat->Option Nat
 attr:Nat->Rb->Bool
 sup:Nat->Option Nat
 scr:Nat->Option (List Int)
inductive It where
 |st (xs:List V)|dyn (i:Nat)
def Jj (a:Int) (n:Nat):List V:=(Ua n).map λ(i:Nat)=>V.int (a+(i:Int))
def gd (a b:Int):List V:=Jj a (b - a).toNat
def jg (it:It) (i:Nat) (σ:St):Option (Option V):=match it with
 | .st xs=>aa xs[i]?
 | .dyn l=>match σ[l]? with
  |some (.list xs)=>aa xs[i]?
  |_=>ba
def re:Nat->It->Nat->(V->St->Option (List V×St))->St->Option (List V×St)
 |0,_,_,_,_=>ba
 |n+1,it,i,f,σ=>match jg it i σ with
  |ba=>ba
  |some ba=>aa ([],σ)
  |some (aa v)=>match f v σ with
   |ba=>ba
   |some (a,Ja)=>match re n it (i+1) f Ja with
    |ba=>ba
    |some (b,Cb)=>aa (a++b,Cb)
def Ye:Nat->It->Nat->(V->Me->St->Option (Fl×Me×St))->Me->St->Option (Fl×Me×St)
 |0,_,_,_,_,_=>ba
 |n+1,it,i,f,me,σ=>match jg it i σ with
  |ba=>ba
  |some ba=>aa (.next,me,σ)
  |some (aa v)=>match f v me σ with
   |some (.next,Qd,Ja)=>Ye n it (i+1) f Qd Ja
   |r=>r
def Gi:Nat->(Me->St->Option (Bool×St))->(Me->St->Option (Fl×Me×St))->Me->St->Option (Fl×Me×St)
 |0,_,_,_,_=>ba
 |n+1,t,f,me,σ=>match t me σ with
  |ba=>ba
  |some (false,Ja)=>aa (.next,me,Ja)
  |some (true,Ja)=>match f me Ja with
   |some (.next,Up,Cb)=>Gi n t f Up Cb
   |r=>r
def Qc:List Nat->List V->Me->Option Me
 | [],[],me=>aa me
 |i::is,v::vs,me=>if i<me.length then Qc is vs (me.set i (aa v))else ba
 |_,_,_=>ba
def dg:CT->V->Me->Option Me
 | .var i,v,me=>if i<me.length then aa (me.set i (aa v))else ba
 | .tup is,.tup xs,me=>Qc is xs me
 |_,_,_=>ba
def bg:List Nat->List V->Me->Option Me
 | [],[],me=>aa me
 |i::is,v::vs,me=>match me[i]? with
  |some ba=>bg is vs (me.set i (aa v))
  |_=>ba
 |_,_,_=>ba
def yd:CT->V->Me->Option Me
 | .var i,v,me=>match me[i]? with
  |some ba=>aa (me.set i (aa v))
  |_=>ba
 | .tup is,.tup xs,me=>bg is xs me
 |_,_,_=>ba
def xh (n:Nat):Bool:=kr n 4096
def tG (xs:List V) (k:Int):Option V:=if 0<=k then xs[k.toNat]? else if -(xs.length:Int)<=k then xs[(k+xs.length).toNat]? else ba
def qg:List (Int×V)->Int->Option V
 | [],_=>ba
 |(k,v)::r,x=>if k=x then aa v else qg r x
def Cg:List (Rb×V)->Rb->Option V
 | [],_=>ba
 |(k,v)::r,x=>if k=x then aa v else Cg r x
def Nl:List (Int×V)->Int->V->List (Int×V)
 | [],x,w=>[(x,w)]
 |(k,v)::r,x,w=>if k=x then(k,w)::r else(k,v)::Nl r x w
def Nj:List (Rb×V)->Rb->V->List (Rb×V)
 | [],x,w=>[(x,w)]
 |(k,v)::r,x,w=>if k=x then(k,w)::r else(k,v)::Nj r x w
def Qe:V->V->St->Option V
 | .tup xs,.int k,_=>tG xs k
 | .ref i,.int k,σ=>match σ[i]? with
  |some (.list xs)=>tG xs k
  |some (.idict es)=>qg es k
  |_=>ba
 | .ref i,.str s,σ=>match σ[i]? with
  |some (.sdict es)=>Cg es s
  |_=>ba
 |_,_,_=>ba
def Cd:V->V->V->St->Option St
 | .ref i,.int k,v,σ=>match σ[i]? with
  |some (.list xs)=>if 0<=k then(if k<xs.length then aa (σ.set i (.list (xs.set k.toNat v)))else ba)
   else if -(xs.length:Int)<=k then aa (σ.set i (.list (xs.set (k+xs.length).toNat v)))else ba
  |some (.idict es)=>if xh es.length then aa (σ.set i (.idict (Nl es k v)))else ba
  |_=>ba
 | .ref i,.str s,v,σ=>match σ[i]? with
  |some (.sdict es)=>if xh es.length then aa (σ.set i (.sdict (Nj es s v)))else ba
  |_=>ba
 |_,_,_,_=>ba
def yc (tab:gi):V->Rb->St->Option V
 | .ref i,n,σ=>match σ[i]? with
  |some (.inst c d)=>match σ[d]? with
   |some (.sdict es)=>if tab.attr c n then(match Cg es n with
    |some (.con _)=>ba
    |r=>r)else ba
   |_=>ba
  |_=>ba
 |_,_,_=>ba
def ye (tab:gi):V->Rb->V->St->Option St
 | .ref i,n,v,σ=>match σ[i]? with
  |some (.inst c d)=>match σ[d]? with
   |some (.sdict es)=>if tab.attr c n&&kr es.length 900 then aa (σ.set d (.sdict (Nj es n v)))else ba
   |_=>ba
  |_=>ba
 |_,_,_,_=>ba
def newL (xs:List V) (σ:St):Option (V×St):=if xh xs.length then aa (.ref σ.length,σ++[.list xs])else ba
def uj (xs:List V) (σ:St):Option (V×St):=if xh xs.length then aa (.tup xs,σ)else ba
def listAt (σ:St) (i:Nat):Option (List V):=match σ[i]? with
 |some (.list xs)=>aa xs
 |_=>ba
def te (v:V) (σ:St):Option It:=match v with
 | .tup xs=>aa (.st xs)
 | .rng a b=>if -1000<a/\a<1000/\ -1000<b/\b<1000 then aa (.st (gd a b))else ba
 | .ref i=>match listAt σ i with
  |some _=>aa (.dyn i)
  |ba=>ba
 |_=>ba
def Cf (op:Operator) (a b:V) (σ:St):Option (V×St):=match op,a,b with
 | .Add,.int x,.int y=>aa (.int (x+y),σ)
 | .Sub,.int x,.int y=>aa (.int (x - y),σ)
 | .FloorDiv,.int x,.int y=>if 0<=x/\x<1000/\0<y/\y<1000 then aa (.int (x.fdiv y),σ)else ba
 | .Mod,.int x,.int y=>if y=0 then ba else aa (.int (x.fmod y),σ)
 | .Pow,.int x,.int y=>if 0<=y/\y<=20/\0<=x/\x<=2 then aa (.int (x^y.toNat),σ)else ba
 | .Add,.tup xs,.tup ys=>uj (xs++ys) σ
 | .Add,.ref i,.ref j=>match listAt σ i,listAt σ j with
  |some xs,aa ys=>newL (xs++ys) σ
  |_,_=>ba
 | .Mult,.ref i,.int k=>match listAt σ i with
  |some [x]=>if 0<=k/\k<4096 then newL (Aa k.toNat x) σ else ba
  |_=>ba
 |_,_,_=>ba
def Nt (s:Rb):Bool:=s.cps.toList.all λn=>kr n 0x110000
theorem VC {s:Rb} (h:Nt s=true):nH s=true:=by
 unfold Nt at h;unfold nH;rw[Jb]at h;rw[Array.all_eq_true'];intro x hx;have:=h x (by simpa using hx)
 simpa [yh]using this
def Dm (f:V->Option PyData):List V->Option (List PyData)
 | []=>aa []
 |x::xs=>match f x,Dm f xs with
  |some d,aa ds=>aa (d::ds)
  |_,_=>ba
def sH:V->Option PyData
 | .none=>aa .none
 | .bool b=>aa (.bool b)
 | .int i=>aa (.int i)
 | .str s=>if Nt s then aa (.str s)else ba
 |_=>ba
def Fh:Nat->V->St->Option PyData
 |0,v,_=>sH v
 |n+1,v,σ=>match v with
  | .tup xs=>match Dm (λx=>Fh n x σ) xs with
   |some ds=>aa (.tuple ds)
   |ba=>ba
  | .ref i=>match listAt σ i with
   |some xs=>match Dm (λx=>Fh n x σ) xs with
    |some ds=>aa (.list ds)
    |ba=>ba
   |ba=>ba
  |v=>sH v
def Ng (n:Nat) (xs:List V) (σ:St):Option (List PyData):=Dm (λx=>Fh n x σ) xs
theorem Gd:∀n σ,Fh n .none σ=aa .none|0,_=>rfl|_+1,_=>rfl
theorem Fd:∀n b σ,Fh n (.bool b) σ=aa (.bool b)|0,_,_=>rfl|_+1,_,_=>rfl
theorem Pd:∀n b σ,Fh n (.int b) σ=aa (.int b)|0,_,_=>rfl|_+1,_,_=>rfl
theorem je:∀n s σ,Fh n (.str s) σ=if Nt s then aa (.str s)else ba|0,_,_=>rfl|_+1,_,_=>rfl
theorem ge:∀n s σ,Fh n (.con s) σ=ba|0,_,_=>rfl|_+1,_,_=>rfl
theorem ie:∀n a b σ,Fh n (.rng a b) σ=ba|0,_,_,_=>rfl|_+1,_,_,_=>rfl
theorem rd:∀n s σ,Fh n (.iset s) σ=ba|0,_,_=>rfl|_+1,_,_=>rfl
theorem Jd (xs:List V) (σ:St):Fh 0 (.tup xs) σ=ba:=rfl
theorem Hd (i:Nat) (σ:St):Fh 0 (.ref i) σ=ba:=rfl
theorem sd (n:Nat) (xs:List V) (σ:St):Fh (n+1) (.tup xs) σ=match Ng n xs σ with
 |some ds=>aa (.tuple ds)
 |ba=>ba:=rfl
theorem Vc (n:Nat) (i:Nat) (σ:St):Fh (n+1) (.ref i) σ=match listAt σ i with
 |some xs=>(match Ng n xs σ with
  |some ds=>aa (.list ds)
  |ba=>ba)
 |ba=>ba:=rfl
theorem kh (n:Nat) (σ:St):Ng n [] σ=aa []:=rfl
theorem Uh (n:Nat) (x:V) (xs:List V) (σ:St):Ng n (x::xs) σ=match Fh n x σ,Ng n xs σ with
 |some d,aa ds=>aa (d::ds)
 |_,_=>ba:=rfl
def Zc (op:CmpOp) (a b:V) (σ:St):Option Bool:=match op,a,b with
 | .Lt,.int x,.int y=>aa (decide (x<y))
 | .LtE,.int x,.int y=>aa (decide (x<=y))
 | .Gt,.int x,.int y=>aa (decide (y<x))
 | .GtE,.int x,.int y=>aa (decide (y<=x))
 | .Eq,a,b=>match Fh 6 a σ,Fh 6 b σ with
  |some d,aa e=>aa (ud d e)
  |_,_=>ba
 | .NotEq,a,b=>match Fh 6 a σ,Fh 6 b σ with
  |some d,aa e=>aa (!ud d e)
  |_,_=>ba
 | .Is,a,.none=>match a with
  | .none=>aa true
  | .tup _=>aa false
  | .ref _=>aa false
  | .bool _=>aa false
  | .int _=>aa false
  |_=>ba
 | .IsNot,a,.none=>match a with
  | .none=>aa false
  | .tup _=>aa true
  | .ref _=>aa true
  | .bool _=>aa true
  | .int _=>aa true
  |_=>ba
 | .IsNot,.bool x,.bool y=>aa (x !=y)
 | .In,.int k,.ref i=>match σ[i]? with
  |some (.idict es)=>aa (qg es k).isSome
  |some (.list xs)=>match Ng 5 xs σ with
   |some ds=>aa (ds.any λd=>ud d (.int k))
   |ba=>ba
  |_=>ba
 | .NotIn,.int k,.ref i=>match σ[i]? with
  |some (.idict es)=>aa (!(qg es k).isSome)
  |some (.list xs)=>match Ng 5 xs σ with
   |some ds=>aa (!ds.any λd=>ud d (.int k))
   |ba=>ba
  |_=>ba
 | .In,.tup ys,.ref i=>match listAt σ i,Fh 5 (.tup ys) σ with
  |some xs,aa e=>match Ng 5 xs σ with
   |some ds=>aa (ds.any λd=>ud d e)
   |ba=>ba
  |_,_=>ba
 |_,_,_=>ba
def Qg:List V->Option (List Int)
 | []=>aa []
 | .int i::r=>match Qg r with
  |some is=>aa (i::is)
  |ba=>ba
 |_=>ba
def vg (x:Int):List Int->List Int
 | []=>[x]
 |y::r=>if x<=y then x::y::r else y::vg x r
def Gg:List Int->List Int
 | []=>[]
 |x::r=>vg x (Gg r)
def WD:List Int->List Int
 | []=>[]
 |x::r=>if r.contains x then WD r else x::WD r
def Mf (xs:List Int):List Int:=([0,1,2]:List Int).filter λk=>xs.contains k
def Pj (v:V) (σ:St):Option (List V):=match v with
 | .tup xs=>aa xs
 | .rng a b=>if -1000<a/\a<1000/\ -1000<b/\b<1000 then aa (gd a b)else ba
 | .ref i=>listAt σ i
 |_=>ba
def Wo (v:V) (σ:St):Option (List V):=match v with
 | .rng a b=>if -1000<a/\a<1000/\ -1000<b/\b<1000 then aa (gd a b)else ba
 | .ref i=>listAt σ i
 |_=>ba
def jh (f:ya) (args:List V) (σ:St):Option (V×St):=match f,args with
 | .builtin "len",[.tup xs]=>aa (.int xs.length,σ)
 | .builtin "len",[.iset xs]=>aa (.int (Mf xs).length,σ)
 | .builtin "len",[.ref i]=>match listAt σ i with
  |some xs=>aa (.int xs.length,σ)
  |ba=>ba
 | .type "range",[.int b]=>if -1000<b/\b<1000 then aa (.rng 0 b,σ)else ba
 | .type "range",[.int a,.int b]=>if -1000<a/\a<1000/\ -1000<b/\b<1000 then aa (.rng a b,σ)else ba
 | .builtin "max",[.int a,.int b]=>aa (.int (max a b),σ)
 | .builtin "min",[.int a,.int b]=>aa (.int (min a b),σ)
 | .builtin "sum",[.ref i]=>match listAt σ i with
  |some xs=>match Qg xs with
   |some is=>aa (.int is.sum,σ)
   |ba=>ba
  |ba=>ba
 | .type "tuple",[v]=>match Pj v σ with
  |some xs=>uj xs σ
  |ba=>ba
 | .type "list",[.tup xs]=>newL xs σ
 | .type "set",[v]=>match v with
  | .tup xs=>match Qg xs with
   |some is=>if is.all (λi=>decide (0<=i)&&decide (i<=2))then aa (.iset is,σ)else ba
   |ba=>ba
  | .ref i=>match listAt σ i with
   |some xs=>match Qg xs with
    |some is=>if is.all (λi=>decide (0<=i)&&decide (i<=2))then aa (.iset is,σ)else ba
    |ba=>ba
   |ba=>ba
  |_=>ba
 | .builtin "sorted",[v]=>match v with
  | .iset xs=>newL ((Mf xs).map V.int) σ
  | .ref i=>match σ[i]? with
   |some (.list xs)=>match Qg xs with
    |some is=>if kr is.length 60 then newL ((Gg is).map V.int) σ else ba
    |ba=>ba
   |some (.idict es)=>if kr es.length 60 then newL ((Gg (es.map (·.1))).map V.int) σ else ba
   |_=>ba
  |_=>ba
 |_,_=>ba
def Lr (i:Nat) (n:Rb) (args:List V) (σ:St):Option (V×St):=match listAt σ i with
 |ba=>ba
 |some xs=>
  if n="append"then match args with
   | [v]=>if xh xs.length then aa (.none,σ.set i (.list (xs++[v])))else ba
   |_=>ba
  else if n="extend"then match args with
   | [v]=>match Wo v σ with
    |some ys=>if xh (xs.length+ys.length)then aa (.none,σ.set i (.list (xs++ys)))else ba
    |ba=>ba
   |_=>ba
  else if n="insert"then match args with
   | [.int k,v]=>if 0<=k/\k<=xs.length/\xh xs.length=true then aa (.none,σ.set i (.list (xs.take k.toNat++v::xs.drop k.toNat)))else ba
   |_=>ba
  else if n="index"then match args with
   | [.int k]=>match Qg xs with
    |some is=>if is.contains k&&is.all (λi=>decide (-1000<i)&&decide (i<1000))&&kr is.length 60 then aa (.int (is.idxOf k),σ)else ba
    |ba=>ba
   |_=>ba
  else if n="count"then match args with
   | [.int k]=>match Qg xs with
    |some is=>aa (.int (is.count k),σ)
    |ba=>ba
   |_=>ba
  else ba
section
variable (tab:gi) (cf:Nat->List V->St->Option (V×St))
def rh (f:V) (args:List V) (σ:St):Option (V×St):=match f with
 | .con (.ref a)=>match tab.init a with
  |some g=>match cf g (.ref (σ.length+1)::args) (σ++[.sdict [],.inst a σ.length])with
   |some (.none,Ja)=>aa (.ref (σ.length+1),Ja)
   |_=>ba
  |ba=>cf a args σ
 | .con v=>jh v args σ
 |_=>ba
inductive pJ where
 |fn (f:Nat) (o:V)|lm (i:Nat)
def kg (o:V) (n:Rb) (σ:St):Option pJ:=match o with
 | .ref i=>match σ[i]? with
  |some (.inst c d)=>match σ[d]? with
   |some (.sdict es)=>match Cg es n,tab.meth c n with
    |ba,aa f=>aa (.fn f (.ref i))
    |_,_=>ba
   |_=>ba
  |some (.list _)=>aa (.lm i)
  |_=>ba
 |_=>ba
def Wc (c:pJ) (n:Rb) (args:List V) (σ:St):Option (V×St):=match c with
 | .fn f o=>cf f (o::args) σ
 | .lm i=>Lr i n args σ
def pr (v:V) (k:Int) (σ:St):Option (V×St):=match v with
 | .con (.ref a)=>match tab.scr a with
  |some xs=>if 0<=k/\k<1000 then newL ((xs.take k.toNat).map V.int) σ else ba
  |ba=>ba
 | .ref i=>match listAt σ i with
  |some xs=>if 0<=k/\k<1000 then newL (xs.take k.toNat) σ else ba
  |ba=>ba
 |_=>ba
def RK:V->Option Bool
 | .bool b=>aa b
 |_=>ba
def th (ks vs:List V) (σ:St):Option (V×St):=match ks,vs with
 | [],[]=>aa (.ref σ.length,σ++[.idict []])
 | [.str a,.str b],[x,y]=>if a=b then ba else aa (.ref σ.length,σ++[.sdict [(a,x),(b,y)]])
 | [.int a],[x]=>aa (.ref σ.length,σ++[.idict [(a,x)]])
 |_,_=>ba
mutual
def gc:X->Me->St->Option (V×St)
 | .var i,me,σ=>match me[i]? with
  |some (aa v)=>aa (v,σ)
  |_=>ba
 | .con v,_,σ=>aa (.con v,σ)
 | .none,_,σ=>aa (.none,σ)
 | .bool b,_,σ=>aa (.bool b,σ)
 | .int i,_,σ=>aa (.int i,σ)
 | .str s,_,σ=>aa (.str s,σ)
 | .attr o n,me,σ=>match gc o me σ with
  |some (ov,Ja)=>match yc tab ov n Ja with
   |some v=>aa (v,Ja)
   |ba=>ba
  |ba=>ba
 | .sub o i,me,σ=>match gc o me σ with
  |some (ov,Ja)=>match gc i me Ja with
   |some (iv,Cb)=>match Qe ov iv Cb with
    |some v=>aa (v,Cb)
    |ba=>ba
   |ba=>ba
  |ba=>ba
 | .cut o k,me,σ=>match gc o me σ with
  |some (ov,Ja)=>pr tab ov k Ja
  |ba=>ba
 | .bin op a b,me,σ=>match gc a me σ with
  |some (av,Ja)=>match gc b me Ja with
   |some (bv,Cb)=>Cf op av bv Cb
   |ba=>ba
  |ba=>ba
 | .neg a,me,σ=>match gc a me σ with
  |some (.int i,Ja)=>aa (.int (-i),Ja)
  |_=>ba
 | .cmp op a b,me,σ=>match gc a me σ with
  |some (av,Ja)=>match gc b me Ja with
   |some (bv,Cb)=>match Zc op av bv Cb with
    |some r=>aa (.bool r,Cb)
    |ba=>ba
   |ba=>ba
  |ba=>ba
 | .cmp2 op1 op2 a b c,me,σ=>match gc a me σ with
  |some (av,Ja)=>match gc b me Ja with
   |some (bv,Cb)=>match Zc op1 av bv Cb with
    |some true=>match gc c me Cb with
     |some (cv,ae)=>match Zc op2 bv cv ae with
      |some r=>aa (.bool r,ae)
      |ba=>ba
     |ba=>ba
    |some false=>aa (.bool false,Cb)
    |ba=>ba
   |ba=>ba
  |ba=>ba
 | .ite t a b,me,σ=>match Ug t me σ with
  |some (true,Ja)=>gc a me Ja
  |some (false,Ja)=>gc b me Ja
  |ba=>ba
 | .tup xs,me,σ=>match Gf xs me σ with
  |some (vs,Ja)=>uj vs Ja
  |ba=>ba
 | .list xs,me,σ=>match Gf xs me σ with
  |some (vs,Ja)=>newL vs Ja
  |ba=>ba
 | .dict ks vs,me,σ=>match Gf ks me σ with
  |some (kv,Ja)=>match Gf vs me Ja with
   |some (vv,Cb)=>th kv vv Cb
   |ba=>ba
  |ba=>ba
 | .comp k iter tgt ifs Md elt,me,σ=>match gc iter me σ with
  |some (v,Ja)=>match te v Ja with
   |some it=>match re 5000 it 0 (λv σ=>match yd tgt v (me++Aa k ba)with
    |some Qd=>match vh ifs Qd σ with
     |some (true,σ)=>Ef Md (λme σ=>gc elt me σ) Qd σ
     |some (false,σ)=>aa ([],σ)
     |ba=>ba
    |ba=>ba) Ja with
    |some (vs,Cb)=>newL vs Cb
    |ba=>ba
   |ba=>ba
  |ba=>ba
 | .call f args,me,σ=>match gc f me σ with
  |some (fv,Ja)=>match Gf args me Ja with
   |some (vs,Cb)=>rh tab cf fv vs Cb
   |ba=>ba
  |ba=>ba
 | .meth o n args,me,σ=>match gc o me σ with
  |some (ov,Ja)=>match kg tab ov n Ja with
   |some c=>match Gf args me Ja with
    |some (vs,Cb)=>Wc cf c n vs Cb
    |ba=>ba
   |ba=>ba
  |ba=>ba
 | .sup i f args,me,σ=>match me[i]? with
  |some (aa (.ref j))=>match σ[j]? with
   |some (.inst c d)=>match σ[d]? with
    |some (.sdict _)=>if tab.sup c=aa f then match Gf args me σ with
     |some (vs,Ja)=>cf f (.ref j::vs) Ja
     |ba=>ba
     else ba
    |_=>ba
   |_=>ba
  |_=>ba
def Gf:List X->Me->St->Option (List V×St)
 | [],_,σ=>aa ([],σ)
 |x::xs,me,σ=>match gc x me σ with
  |some (v,Ja)=>match Gf xs me Ja with
   |some (vs,Cb)=>aa (v::vs,Cb)
   |ba=>ba
  |ba=>ba
def Ug:B->Me->St->Option (Bool×St)
 | .and a b,me,σ=>match Ug a me σ with
  |some (true,Ja)=>Ug b me Ja
  |some (false,Ja)=>aa (false,Ja)
  |ba=>ba
 | .or a b,me,σ=>match Ug a me σ with
  |some (true,Ja)=>aa (true,Ja)
  |some (false,Ja)=>Ug b me Ja
  |ba=>ba
 | .not a,me,σ=>match Ug a me σ with
  |some (b,Ja)=>aa (!b,Ja)
  |ba=>ba
 | .base x,me,σ=>match gc x me σ with
  |some (.bool b,Ja)=>aa (b,Ja)
  |_=>ba
def vh:List B->Me->St->Option (Bool×St)
 | [],_,σ=>aa (true,σ)
 |t::ts,me,σ=>match Ug t me σ with
  |some (true,Ja)=>vh ts me Ja
  |some (false,Ja)=>aa (false,Ja)
  |ba=>ba
def Ef:List G->(Me->St->Option (V×St))->Me->St->Option (List V×St)
 | [],elt,me,σ=>match elt me σ with
  |some (v,Ja)=>aa ([v],Ja)
  |ba=>ba
 | .mk iter tgt ifs::gs,elt,me,σ=>match gc iter me σ with
  |some (v,Ja)=>match te v Ja with
   |some it=>re 5000 it 0 (λv σ=>match yd tgt v me with
    |some Qd=>match vh ifs Qd σ with
     |some (true,σ)=>Ef gs elt Qd σ
     |some (false,σ)=>aa ([],σ)
     |ba=>ba
    |ba=>ba) Ja
   |ba=>ba
  |ba=>ba
end
mutual
def Fk:T->V->Me->St->Option (Me×St)
 | .var i,v,me,σ=>if i<me.length then aa (me.set i (aa v),σ)else ba
 | .tup ts,v,me,σ=>match v with
  | .tup xs=>Lh ts xs me σ
  |_=>ba
 | .attr o n,v,me,σ=>match gc tab cf o me σ with
  |some (ov,Ja)=>match ye tab ov n v Ja with
   |some Cb=>aa (me,Cb)
   |ba=>ba
  |ba=>ba
 | .sub o i,v,me,σ=>match gc tab cf o me σ with
  |some (ov,Ja)=>match gc tab cf i me Ja with
   |some (iv,Cb)=>match Cd ov iv v Cb with
    |some ae=>aa (me,ae)
    |ba=>ba
   |ba=>ba
  |ba=>ba
def Lh:List T->List V->Me->St->Option (Me×St)
 | [],[],me,σ=>aa (me,σ)
 |t::ts,v::vs,me,σ=>match Fk t v me σ with
  |some (Qd,Ja)=>Lh ts vs Qd Ja
  |ba=>ba
 |_,_,_,_=>ba
end
def zr:List (List V)->Option (List V)
 | [xs,ys,zs]=>if xs.length=ys.length/\ys.length=zs.length then aa ((xs.zip (ys.zip zs)).map λp=>V.tup [p.1,p.2.1,p.2.2])else ba
 |_=>ba
def Xh:List V->Option (List (List V))
 | []=>aa []
 | .tup xs::r=>match Xh r with
  |some ys=>aa (xs::ys)
  |ba=>ba
 |_=>ba
mutual
def Vf:S->Me->St->Option (Fl×Me×St)
 | .assign t e,me,σ=>match gc tab cf e me σ with
  |some (v,Ja)=>match Fk tab cf t v me Ja with
   |some (Up,Cb)=>aa (.next,Up,Cb)
   |ba=>ba
  |ba=>ba
 | .aug o i op e,me,σ=>match gc tab cf o me σ with
  |some (ov,Ja)=>match gc tab cf i me Ja with
   |some (iv,Cb)=>match Qe ov iv Cb with
    |some old=>match gc tab cf e me Cb with
     |some (v,ae)=>match old,v,op with
      | .int x,.int y,.Add=>match Cd ov iv (.int (x+y)) ae with
       |some dh=>aa (.next,me,dh)
       |ba=>ba
      | .int x,.int y,.Sub=>match Cd ov iv (.int (x - y)) ae with
       |some dh=>aa (.next,me,dh)
       |ba=>ba
      |_,_,_=>ba
     |ba=>ba
    |ba=>ba
   |ba=>ba
  |ba=>ba
 | .expr e,me,σ=>match gc tab cf e me σ with
  |some (.none,Ja)=>aa (.next,me,Ja)
  |some (.bool _,Ja)=>aa (.next,me,Ja)
  |_=>ba
 | .ifs t a b,me,σ=>match Ug tab cf t me σ with
  |some (true,Ja)=>wf a me Ja
  |some (false,Ja)=>wf b me Ja
  |ba=>ba
 | .whil t b,me,σ=>Gi 5000 (Ug tab cf t) (λme σ=>wf b me σ) me σ
 | .fors t e b,me,σ=>match gc tab cf e me σ with
  |some (v,Ja)=>match te v Ja with
   |some it=>Ye 5000 it 0 (λv me σ=>match dg t v me with
    |some Qd=>wf b Qd σ
    |ba=>ba) me Ja
   |ba=>ba
  |ba=>ba
 | .forz t es b,me,σ=>match Gf tab cf es me σ with
  |some (vs,Ja)=>match Xh vs with
   |some xss=>match zr xss with
    |some items=>Ye 5000 (.st items) 0 (λv me σ=>match dg t v me with
     |some Qd=>wf b Qd σ
     |ba=>ba) me Ja
    |ba=>ba
   |ba=>ba
  |ba=>ba
 | .ret e,me,σ=>match gc tab cf e me σ with
  |some (v,Ja)=>aa (.ret v,me,Ja)
  |ba=>ba
def wf:List S->Me->St->Option (Fl×Me×St)
 | [],me,σ=>aa (.next,me,σ)
 |s::ss,me,σ=>match Vf s me σ with
  |some (.next,Qd,Ja)=>wf ss Qd Ja
  |r=>r
end
def Iu (fn:Fn) (args:List V) (σ:St):Option (V×St):=
 if args.length=fn.params then
  match wf tab cf fn.body (args.map aa++Aa (fn.slots - fn.params) ba) σ with
  |some (.ret v,_,Ja)=>aa (v,Ja)
  |some (.next,_,Ja)=>aa (.none,Ja)
  |ba=>ba
 else ba
end
def Oa (tab:gi) (fns:Nat->Option Fn):Nat->Nat->List V->St->Option (V×St)
 |0,_,_,_=>ba
 |n+1,a,args,σ=>match fns a with
  |some fn=>Iu tab (Oa tab fns n) fn args σ
  |ba=>ba
end Mine
namespace Mine
abbrev pg:Program:=pi
abbrev Jp (vs:List ya) (n:Nat):Obj:={cls:=.type "tuple",data:=.seq vs.toArray n}
def bh (o:Obj):Prop:=match o.data with
 | .seq _ _=>o.cls=.type "tuple"
 | .fields _=>o.cls=.type "range"
 | .set .. =>True
 |_=>False
def Xl (k:Int) (o:Option Tok):List (Int×ya):=match o with
 |some t=>[(k,.int k t)]
 |none=>[]
def JG (k:Nat) (o:Option Tok):List Nat:=match o with
 |some _=>[k]
 |none=>[]
def OK (w:Lb) (h:Gb) (a:Qa) (o0 o1 o2:Option Tok):Prop:=∃ep,h.get? a=aa {cls:=.type "set",dict:=ba,data:=.set (Xl 0 o0++(Xl 1 o1++Xl 2 o2)).toArray ep ⟨7,(JG 0 o0++(JG 1 o1++JG 2 o2)).toArray,#[],0,!w.params.followText "set-order",0,true⟩,slots:= #[]}
class Av where
 av:Qa->Prop
variable [Av]
mutual
inductive VR (w:Lb) (ρ:List Qa) (h:Gb):V->ya->Prop
 |none:VR w ρ h .none .none
 |bool (b:Bool):VR w ρ h (.bool b) (.bool b)
 |int (i:Int) (t:Tok):VR w ρ h (.int i) (.int i t)
 |str (x:Rb) (t:Tok):VR w ρ h (.str x) (.str x t)
 |ref {i:Nat} {a:Qa}:ρ[i]? =aa a->VR w ρ h (.ref i) (.ref a)
 |con (v:ya):VR w ρ h (.con v) v
 |rng {a:Qa} {lo hi:Int} {t u v:Tok}:IsRange h a lo hi 1 t u v->VR w ρ h (.rng lo hi) (.ref a)
 |iset {a:Qa} {xs:List Int} {o0 o1 o2:Option Tok}:o0.isSome=xs.contains 0->o1.isSome=xs.contains 1->o2.isSome=xs.contains 2->OK w h a o0 o1 o2->VR w ρ h (.iset xs) (.ref a)
 |tup {a:Qa} {xs:List V} {vs:List ya} {n:Nat}:¬Av.av a->h.get? a=aa (Jp vs n)->xs.length<=4096->og w ρ h xs vs->VR w ρ h (.tup xs) (.ref a)
inductive og (w:Lb) (ρ:List Qa) (h:Gb):List V->List ya->Prop
 |nil:og w ρ h [] []
 |cons {x:V} {xs:List V} {v:ya} {vs:List ya}:VR w ρ h x v->og w ρ h xs vs->og w ρ h (x::xs) (v::vs)
end
section
variable {w:Lb} {ρ Zd:List Qa} {h h':Gb}
mutual
theorem VR.mono (hp:ρ<+:Zd) (hi:∀a o,h.get? a=aa o->bh o->h'.get? a=aa o):∀{x:V} {v:ya},VR w ρ h x v->VR w Zd h' x v
 |_,_,.none=>.none
 |_,_,.bool b=>.bool b
 |_,_,.int i t=>.int i t
 |_,_,.str x t=>.str x t
 |_,_,.ref e=>.ref (by
  obtain⟨t,rfl⟩:=hp;rw[ta (ca.mp e).1];exact e)
 |_,_,.con v=>.con v
 |_,_,.rng e=>.rng (hi _ _ e rfl)
 |_,_,.iset e0 e1 e2 e=>.iset e0 e1 e2 (let ⟨ep,x⟩:=e;⟨ep,hi _ _ x trivial⟩)
 |_,_,.tup na e l r=>.tup na (hi _ _ e rfl) l (og.mono hp hi r)
theorem og.mono (hp:ρ<+:Zd) (hi:∀a o,h.get? a=aa o->bh o->h'.get? a=aa o):∀{xs:List V} {vs:List ya},og w ρ h xs vs->og w Zd h' xs vs
 |_,_,.nil=>.nil
 |_,_,.cons x r=>.cons (VR.mono hp hi x) (og.mono hp hi r)
end
theorem og.length {xs:List V} {vs:List ya} (r:og w ρ h xs vs):xs.length=vs.length:=by
 induction xs generalizing vs with
 |nil=>cases r;rfl
 |cons x xs ih=>cases r with|cons _ r=>simp[ih r]
theorem og.append {xs ys:List V} {vs us:List ya} (r:og w ρ h xs vs) (q:og w ρ h ys us):og w ρ h (xs++ys) (vs++us):=by
 induction xs generalizing vs with
 |nil=>cases r;exact q
 |cons x xs ih=>cases r with|cons a r=>exact .cons a (ih r)
theorem og.one {x:V} {v:ya} (r:VR w ρ h x v):og w ρ h [x] [v]:=.cons r .nil
theorem og.get {xs:List V} {vs:List ya} (r:og w ρ h xs vs) {i:Nat} {x:V} (e:xs[i]? =aa x):∃v,vs[i]? =aa v/\VR w ρ h x v:=by
 induction xs generalizing vs i with
 |nil=>simp at e
 |cons y xs ih=>
  cases r with
  |cons a r=>
   cases i with
   |zero=>simp at e;subst e;exact⟨_,rfl,a⟩
   |succ i=>simpa using ih r (by simpa using e)
theorem og.none_of {xs:List V} {vs:List ya} (r:og w ρ h xs vs) {i:Nat} (e:xs[i]? =ba):vs[i]? =ba:=by
 rw[Od]at e|-;rw[<-r.length];exact e
theorem og.set {xs:List V} {vs:List ya} (r:og w ρ h xs vs) (i:Nat) {x:V} {v:ya} (q:VR w ρ h x v):og w ρ h (xs.set i x) (vs.set i v):=by
 induction xs generalizing vs i with
 |nil=>cases r;exact .nil
 |cons y xs ih=>
  cases r with
  |cons a r=>
   cases i with
   |zero=>exact .cons q r
   |succ i=>exact .cons a (ih r i)
theorem og.take {xs:List V} {vs:List ya} (r:og w ρ h xs vs) (i:Nat):og w ρ h (xs.take i) (vs.take i):=by
 induction xs generalizing vs i with
 |nil=>cases r;simp;exact .nil
 |cons y xs ih=>
  cases r with
  |cons a r=>
   cases i with
   |zero=>exact .nil
   |succ i=>exact .cons a (ih r i)
theorem og.drop {xs:List V} {vs:List ya} (r:og w ρ h xs vs) (i:Nat):og w ρ h (xs.drop i) (vs.drop i):=by
 induction xs generalizing vs i with
 |nil=>cases r;simp;exact .nil
 |cons y xs ih=>
  cases r with
  |cons a r=>
   cases i with
   |zero=>exact .cons a r
   |succ i=>exact ih r i
end
inductive SE (w:Lb) (ρ:List Qa) (h:Gb):List (Rb×V)->List DictEntry->Prop
 |nil:SE w ρ h [] []
 |cons {k:Rb} {x:V} {t:Tok} {v:ya} {es Rd}:VR w ρ h x v->SE w ρ h es Rd->SE w ρ h ((k,x)::es) (⟨hashStr w k,.str k t,v⟩::Rd)
def OR (w:Lb) (ρ:List Qa) (h:Gb):O->Qa->Prop
 | .list xs,a=>∃vs n,h.get? a=aa (listOf vs.toArray n)/\xs.length<=4096/\og w ρ h xs vs
 | .idict es,a=>∃o kvs,h.get? a=aa o/\o.IsDictOf (intKind pg w) kvs/\kvs.map (·.1)=es.map (·.1)/\og w ρ h (es.map (·.2)) (kvs.map (·.2))/\es.length<=4096
 | .sdict es,a=>∃Rd n,h.get? a=aa (dictOf Rd n)/\SE w ρ h es Rd/\(es.map (·.1)).Nodup/\es.length<=4096
 | .inst c d,a=>∃dx,ρ[d]? =aa dx/\h.get? a=aa (instObj c dx)
structure R (w:Lb) (hb:Gb) (ρ:List Qa) (σ:St) (h:Gb):Prop where
 len:ρ.length=σ.length
 nodup:ρ.Nodup
 fresh:∀a∈ρ,hb.get? a=ba
 avl:∀a,Av.av a->∃o,h.get? a=aa o/\bh o
 base:∀a o,hb.get? a=aa o->h.get? a=aa o
 obj:∀(i:Nat) (o:O) (a:Qa),σ[i]? =aa o->ρ[i]? =aa a->OR w ρ h o a
structure Kp (eo:Qa->Prop) (ρ:List Qa) (h h':Gb) (Zd:List Qa):Prop where
 pre:ρ<+:Zd
 fresh:∀a∈Zd,a∈ρ\/h.get? a=ba
 keep:∀a o,h.get? a=aa o->a∉ρ->¬eo a->h'.get? a=aa o
 imm:∀a o,h.get? a=aa o->bh o->h'.get? a=aa o
 live:∀a,(h.get? a).isSome=true->(h'.get? a).isSome=true
section
variable {w:Lb} {hb h h' h'':Gb} {ρ Zd ρ'':List Qa} {σ Ca:St} {eo:Qa->Prop}
theorem Kp.refl:Kp eo ρ h h ρ:=⟨Ha _,λ_ h=>.inl h,λ_ _ e _ _=>e,λ_ _ e _=>e,λ_ e=>e⟩
theorem Kp.trans (x:Kp eo ρ h h' Zd) (y:Kp eo Zd h' h'' ρ''):Kp eo ρ h h'' ρ'' where
 pre:=x.pre.trans y.pre
 fresh a ha:=by
  rcases y.fresh a ha with q|q
  ·exact x.fresh a q
  ·refine .inr ?_
   cases e:h.get? a with
   |none=>rfl
   |some o=>have:=x.live a (by rw[e];rfl);rw[q]at this;cases this
 keep a o e n1 n2:=y.keep a o (x.keep a o e n1 n2) (λq=>by
  rcases x.fresh a q with q|q
  ·exact n1 q
  ·rw[q]at e;cases e) n2
 imm a o e i:=y.imm a o (x.imm a o e i) i
 live a e:=y.live a (x.live a e)
theorem Kp.weaken {ow:Qa->Prop} (x:Kp eo ρ h h' Zd) (hs:∀a,eo a->ow a):Kp ow ρ h h' Zd:=
 ⟨x.pre,x.fresh,λa o e n1 n2=>x.keep a o e n1 λq=>n2 (hs a q),x.imm,x.live⟩
theorem Kp.vr {x:V} {v:ya} (k:Kp eo ρ h h' Zd) (r:VR w ρ h x v):VR w Zd h' x v:=r.mono k.pre k.imm
theorem Kp.vrs {x:List V} {v:List ya} (k:Kp eo ρ h h' Zd) (r:og w ρ h x v):og w Zd h' x v:=r.mono k.pre k.imm
theorem SE.mono (hp:ρ<+:Zd) (hi:∀a o,h.get? a=aa o->bh o->h'.get? a=aa o) {es:List (Rb×V)} {Rd:List DictEntry} (r:SE w ρ h es Rd):SE w Zd h' es Rd:=by
 induction r with
 |nil=>exact .nil
 |cons a _ ih=>exact .cons (a.mono hp hi) ih
theorem yo {i:Nat} {a:Qa} (hp:ρ<+:Zd) (e:ρ[i]? =aa a):Zd[i]? =aa a:=by
 obtain⟨t,rfl⟩:=hp;rw[ta (ca.mp e).1];exact e
theorem OR.mono (hp:ρ<+:Zd) (hi:∀a o,h.get? a=aa o->bh o->h'.get? a=aa o) {o:O} {a:Qa} (hk:∀x,h.get? a=aa x->h'.get? a=aa x) (r:OR w ρ h o a):OR w Zd h' o a:=by
 cases o with
 |list xs=>obtain⟨vs,n,e,l,q⟩:=r;exact⟨vs,n,hk _ e,l,q.mono hp hi⟩
 |idict es=>obtain⟨o,kvs,e,d,k,q,l⟩:=r;exact⟨o,kvs,hk _ e,d,k,q.mono hp hi,l⟩
 |sdict es=>obtain⟨Rd,n,e,q,d,l⟩:=r;exact⟨Rd,n,hk _ e,q.mono hp hi,d,l⟩
 |inst c d=>obtain⟨dx,e,q⟩:=r;exact⟨dx,yo hp e,hk _ q⟩
theorem OR.get {o:O} {a:Qa} (r:OR w ρ h o a):∃x,h.get? a=aa x/\¬bh x:=by
 cases o with
 |list xs=>obtain⟨vs,n,e,_⟩:=r;exact⟨_,e,by simp[bh]⟩
 |idict es=>
  obtain⟨o,kvs,e,⟨es',ep,_,d,_⟩,_⟩:=r;exact⟨_,e,by simp[bh,d]⟩
 |sdict es=>obtain⟨Rd,n,e,_⟩:=r;exact⟨_,e,by simp[bh]⟩
 |inst c d=>obtain⟨dx,e,q⟩:=r;exact⟨_,q,by simp[bh]⟩
theorem R.at (r:R w hb ρ σ h) {i:Nat} {o:O} (e:σ[i]? =aa o):∃a,ρ[i]? =aa a/\OR w ρ h o a:=by
 have hi:=(ca.mp e).1;have hj:i<ρ.length:=by rw[r.len];exact hi
 exact⟨ρ[i],da hj,r.obj i o _ e (da hj)⟩
theorem R.mem (r:R w hb ρ σ h) {a:Qa} (ha:a∈ρ):∃(i:Nat) (o:O),ρ[i]? =aa a/\σ[i]? =aa o/\OR w ρ h o a:=by
 obtain⟨i,hi,rfl⟩:=zf ha;have hj:i<σ.length:=by rw[<-r.len];exact hi
 exact⟨i,σ[i],da hi,da hj,r.obj i _ _ (da hj) (da hi)⟩
theorem R.live (r:R w hb ρ σ h) {a:Qa} (ha:a∈ρ):∃x,h.get? a=aa x/\¬bh x:=by
 obtain⟨i,o,_,_,q⟩:=r.mem ha;exact q.get
theorem R.notIn (r:R w hb ρ σ h) {a:Qa} {o:Obj} (e:h.get? a=aa o) (i:bh o):a∉ρ:=λha=>by
 obtain⟨x,hx,hn⟩:=r.live ha;rw[e]at hx;cases hx;exact hn i
theorem R.notAv (r:R w hb ρ σ h) {a:Qa} (e:h.get? a=ba):¬Av.av a:=λq=>by obtain⟨o,ho,_⟩:=r.avl a q;rw[e]at ho;cases ho
theorem R.grow (r:R w hb ρ σ h) (hk:∀a o,h.get? a=aa o->h'.get? a=aa o):R w hb ρ σ h':=
 ⟨r.len,r.nodup,r.fresh,λa ha=>(by obtain⟨o,ho,io⟩:=r.avl a ha;exact⟨o,hk a o ho,io⟩),λa o e=>hk a o (r.base a o e),λi o a e1 e2=>(r.obj i o a e1 e2).mono (Ha _) (λa o e _=>hk a o e) (hk a)⟩
theorem Kp.grow (hk:∀a o,h.get? a=aa o->h'.get? a=aa o):Kp eo ρ h h' ρ:=
 ⟨Ha _,λ_ h=>.inl h,λa o e _ _=>hk a o e,λa o e _=>hk a o e,λa e=>by
  obtain⟨o,ho⟩:=Ta.mp e;rw[hk a o ho];rfl⟩
theorem R.beside (r:R w hb ρ σ h) {wr:Qa->Prop} (hk:∀a o,¬wr a->h.get? a=aa o->h'.get? a=aa o) (hn:∀a,wr a->a∉ρ/\hb.get? a=ba/\∀o,h.get? a=aa o->¬bh o):R w hb ρ σ h':=
 ⟨r.len,r.nodup,r.fresh,λa ha=>(by obtain⟨o,ho,io⟩:=r.avl a ha;exact⟨o,hk a o (λq=>(hn a q).2.2 o ho io) ho,io⟩),λa o e=>hk a o (λq=>by rw[(hn a q).2.1]at e;cases e) (r.base a o e),λi o a e1 e2=>
  (r.obj i o a e1 e2).mono (Ha _) (λa o e q=>hk a o (λz=>(hn a z).2.2 o e q) e) (λx e=>hk a x (λq=>(hn a q).1 (ma e2)) e)⟩
theorem Kp.beside {wr:Qa->Prop} (hk:∀a o,¬wr a->h.get? a=aa o->h'.get? a=aa o) (hn:∀a,wr a->(∀o,h.get? a=aa o->¬bh o/\eo a/\(h'.get? a).isSome=true)):Kp eo ρ h h' ρ:=
 ⟨Ha _,λ_ h=>.inl h,λa o e _ n2=>hk a o (λq=>n2 (hn a q o e).2.1) e,λa o e i=>hk a o (λq=>(hn a q o e).1 i) e,λa e=>by
  obtain⟨o,ho⟩:=Ta.mp e
  by_cases q:wr a
  ·exact(hn a q o ho).2.2
  ·rw[hk a o q ho];rfl⟩
theorem R.upd (r:R w hb ρ σ h) {i:Nat} {a:Qa} {o:O} (ea:ρ[i]? =aa a) (hk:∀b x,b≠a->h.get? b=aa x->h'.get? b=aa x) (ho:OR w ρ h' o a):R w hb ρ (σ.set i o) h'/\Kp eo ρ h h' ρ:=by
 have ha:a∈ρ:=ma ea;obtain⟨xa,hxa,hna⟩:=r.live ha;have Sm:∀b x,h.get? b=aa x->bh x->h'.get? b=aa x:=λb x e im=>hk b x (λq=>by subst q;rw[e]at hxa;cases hxa;exact hna im) e;refine⟨⟨by rw[Mb];exact r.len,r.nodup,r.fresh,λb hb=>(by obtain⟨o,ho,io⟩:=r.avl b hb;exact⟨o,Sm b o ho io,io⟩),λb x e=>hk b x (λq=>by subst q;rw[r.fresh b ha]at e;cases e) (r.base b x e),λj p b e1 e2=> ?_⟩,
  Ha _,λ_ h=>.inl h,λb x e n1 _=>hk b x (λq=>n1 (q▸ha)) e,Sm,λb e=> ?_⟩
 ·by_cases q:i=j
  ·subst q
   rw[ea]at e2;cases e2;rw[Ci]at e1;simp only[if_true]at e1
   split at e1<;>cases e1
   exact ho
  ·rw[Na q]at e1
   have hba:b≠a:=λz=>by
    subst z;obtain⟨h1,h2⟩:=ca.mp ea;obtain⟨h3,h4⟩:=ca.mp e2;exact q ((BF r.nodup).mp (h2.trans h4.symm))
   exact(r.obj j p b e1 e2).mono (Ha _) Sm λx e=>hk b x hba e
 ·by_cases q:b=a
  ·subst q
   obtain⟨x,hx,_⟩:=ho.get;rw[hx];rfl
  ·obtain⟨x,hx⟩:=Ta.mp e
   rw[hk b x q hx];rfl
theorem R.new (r:R w hb ρ σ h) {a:Qa} {o:O} (hk:∀b x,h.get? b=aa x->h'.get? b=aa x) (hn:h.get? a=ba) (ho:OR w (ρ++[a]) h' o a):R w hb (ρ++[a]) (σ++[o]) h'/\Kp eo ρ h h' (ρ++[a]):=by
 have hnb:hb.get? a=ba:=by
  cases e:hb.get? a with
  |none=>rfl
  |some x=>have:=r.base a x e;rw[hn]at this;cases this
 have hnin:a∉ρ:=λq=>by obtain⟨x,hx,_⟩:=r.live q;rw[hn]at hx;cases hx
 refine⟨⟨by simp[r.len],?_,?_,λb hb=>(by obtain⟨o,ho,io⟩:=r.avl b hb;exact⟨o,hk b o ho,io⟩),λb x e=>hk b x (r.base b x e),λj p b e1 e2=> ?_⟩,dc _ _,λb En=> ?_,λb x e _ _=>hk b x e,λb x e _=>hk b x e,λb e=> ?_⟩
 ·rw[Zf]
  exact⟨r.nodup,by simp,λx hx y hy=>by rw[jb]at hy;subst hy;exactλq=>hnin (q▸hx)⟩
 ·intro b En
  rcases db.mp En with q|q
  ·exact r.fresh b q
  ·rw[jb]at q;subst q;exact hnb
 ·by_cases q:j<σ.length
  ·rw[ta q]at e1
   rw[ta (by rw[r.len];exact q)]at e2;exact(r.obj j p b e1 e2).mono (dc _ _) (λb x e _=>hk b x e) λx e=>hk b x e
  ·rw[Ra (Ke q)]at e1
   rw[Ra (by rw[r.len];exact Ke q),r.len]at e2;cases hj:j - σ.length with
   |zero=>rw[hj]at e1 e2;simp at e1 e2;subst e1 e2;exact ho
   |succ k=>rw[hj]at e1;simp at e1
 ·rcases db.mp En with q|q
  ·exact .inl q
  ·rw[jb]at q;subst q;exact .inr hn
 ·obtain⟨x,hx⟩:=Ta.mp e
  rw[hk b x hx];rfl
end
end Mine
namespace Mine
variable [Av]
def Jc:List Rb->Rb->Option Nat
 | [],_=>ba
 |y::r,x=>match Jc r x with
  |some i=>aa (i+1)
  |none=>if y=x then aa 0 else ba
theorem zq:∀{sl:List Rb} {x:Rb} {i:Nat},Jc sl x=aa i->i<sl.length
 |y::r,x,i,h=>by
  unfold Jc at h;cases e:Jc r x with
  |some j=>rw[e]at h;simp at h;subst h;have:=zq e;simp;omega
  |none=>rw[e]at h;simp only at h;split at h<;>cases h;simp
theorem Rj:∀{sl:List Rb} {x:Rb} {i:Nat},Jc sl x=aa i->sl[i]? =aa x
 |y::r,x,i,h=>by
  unfold Jc at h;cases e:Jc r x with
  |some j=>rw[e]at h;simp at h;subst h;simpa using Rj e
  |none=>rw[e]at h;simp only at h;split at h<;>cases h;simp_all
theorem Ui:∀(sl own:List Rb) (x:Rb),Jc (sl++own) x=match Jc own x with|some i=>aa (sl.length+i)|none=>Jc sl x
 | [],own,x=>by simp[Jc];cases Jc own x<;>rfl
 |y::r,own,x=>by
  have e1:∀l:List Rb,Jc (y::l) x=match Jc l x with|some i=>aa (i+1)|none=>if y=x then aa 0 else ba:=λ_=>rfl
  rw[wb,e1,e1,Ui r own x];cases e:Jc own x with
  |some i=>simp only[cb,Tc];omega
  |none=>rfl
structure KX (L:Qa) (ρ:List Qa) (h h':Gb) (Zd:List Qa):Prop extends Kp (λa=>a=L) ρ h h' Zd where
 ns:∀m,h.Ns L m->h'.Ns L m
structure wd (w:Lb) (hb:Gb) (env:Env) (eo:Qa->Prop) (sl:List Rb) (lo:Nat) (me:Me) (ρ:List Qa) (h:Gb):Prop where
 kind:env.scope.kind=.function
 globals:env.globals=mainGlobals
 builtins:env.builtins=builtinsNs
 len:me.length=sl.length
 ns:∃m,h.Ns env.locals m/\∀(x:Rb) (i:Nat) (v:V),Jc sl x=aa i->env.kindOf x=aa .local->me[i]? =aa (aa v)->∃val,m x=aa val/\VR w ρ h v val
 cells:∀(x:Rb) (i:Nat) (v:V),Jc sl x=aa i->(env.kindOf x=aa .cell\/env.kindOf x=aa .free)->me[i]? =aa (aa v)->∃c val,env.cells.lookup x=aa c/\h.IsCell c (aa val)/\VR w ρ h v val
 loc:env.locals∉ρ/\hb.get? env.locals=ba/\eo env.locals
 has:∀x k,(x,k)∈env.scope.names->k=.cell\/k=.free->∃c v,env.cells.lookup x=aa c/\h.IsCell c v
 apart:env.cells.Pairwise λx y=>x.2≠y.2
 own:∀(x:Rb) (i:Nat),Jc sl x=aa i->lo<=i->env.kindOf x=aa .local\/(env.kindOf x=aa .cell/\∃c v,env.cells.lookup x=aa c/\h.IsCell c v/\hb.get? c=ba/\eo c)
 eoh:∀a,eo a->hb.get? a=ba
 eol:∀a,eo a->(h.get? a).isSome=true
section
variable {w:Lb} {hb h h' h'':Gb} {ρ Zd ρ'':List Qa} {σ Ca:St} {eo:Qa->Prop} {L:Qa} {env:Env} {sl:List Rb} {lo:Nat} {me:Me}
theorem KX.refl:KX L ρ h h ρ:=⟨Kp.refl,λ_ n=>n⟩
theorem KX.trans (x:KX L ρ h h' Zd) (y:KX L Zd h' h'' ρ''):KX L ρ h h'' ρ'':=⟨x.toKp.trans y.toKp,λm n=>y.ns m (x.ns m n)⟩
theorem KX.grow (hk:∀a o,h.get? a=aa o->h'.get? a=aa o):KX L ρ h h' ρ:=⟨Kp.grow hk,λ_ n=>n.keeps hk⟩
theorem jC {c:Qa} {v:Option ya} (x:h.IsCell c v):∃o,h.get? c=aa o/\¬bh o:=by
 obtain⟨o,e,d⟩:=x;exact⟨o,e,by simp[bh,d]⟩
theorem OR.notCell {o:O} {a:Qa} (r:OR w ρ h o a) {v:Option ya}:¬h.IsCell a v:=λ⟨x,e,d⟩=>by
 cases o with
 |list xs=>obtain⟨vs,n,e',_⟩:=r;rw[e]at e';cases e';cases d
 |idict es=>obtain⟨o,kvs,e',⟨es',ep,_,d',_⟩,_⟩:=r;rw[e]at e';cases e';rw[d]at d';cases d'
 |sdict es=>obtain⟨Rd,n,e',_⟩:=r;rw[e]at e';cases e';cases d
 |inst c d=>obtain⟨dx,_,e'⟩:=r;rw[e]at e';cases e';cases d
theorem R.cellNot (r:R w hb ρ σ h) {c:Qa} {v:Option ya} (x:h.IsCell c v):c∉ρ:=λq=>by
 obtain⟨i,o,_,_,z⟩:=r.mem q;exact z.notCell x
theorem Mm {m:Rb->Option ya} {v:Option ya} (n:h.Ns L m):¬h.IsCell L v:=λ⟨o,e,d⟩=>by
 obtain⟨o',es,ep,e',d',_⟩:=n;rw[e]at e';cases e';rw[d]at d';cases d'
theorem wd.kx (E:wd w hb env eo sl lo me ρ h) (r:R w hb ρ σ h) (k:KX env.locals ρ h h' Zd):wd w hb env eo sl lo me Zd h':=by
 obtain⟨m,hm,hv⟩:=E.ns;have keepC:∀c v,h.IsCell c v->h'.IsCell c v:=λc v x=>by
  have hn:=r.cellNot x;obtain⟨o,e,d⟩:=x;exact⟨o,k.keep c o e hn (λq=>Mm hm (v:=v) ⟨o,by rw[<-q];exact e,d⟩),d⟩
 refine⟨E.kind,E.globals,E.builtins,E.len,⟨m,k.ns m hm,λx i v a b c=> ?_⟩,λx i v a b c=> ?_,⟨λq=> ?_,E.loc.2⟩,λx k a b=> ?_,E.apart,λx i a b=> ?_,E.eoh,λa e=>k.live a (E.eol a e)⟩
 ·obtain⟨val,q1,q2⟩:=hv x i v a b c
  exact⟨val,q1,k.vr q2⟩
 ·obtain⟨c,val,q1,q2,q3⟩:=E.cells x i v a b c
  exact⟨c,val,q1,keepC _ _ q2,k.vr q3⟩
 ·rcases k.fresh _ q with q|q
  ·exact E.loc.1 q
  ·obtain⟨o,_,_,e,_⟩:=hm
   rw[q]at e;cases e
 ·obtain⟨c,v,q1,q2⟩:=E.has x k a b
  exact⟨c,v,q1,keepC _ _ q2⟩
 ·rcases E.own x i a b with q|⟨q,c,v,q1,q2,q3⟩
  ·exact .inl q
  ·exact .inr ⟨q,c,v,q1,keepC _ _ q2,q3⟩
theorem wd.grow (E:wd w hb env eo sl lo me ρ h) (r:R w hb ρ σ h) (hk:∀a o,h.get? a=aa o->h'.get? a=aa o):wd w hb env eo sl lo me ρ h':=E.kx r (KX.grow hk)
theorem R.new' (r:R w hb ρ σ h) {a:Qa} {o:O} (hk:∀b x,h.get? b=aa x->h'.get? b=aa x) (hn:h.get? a=ba) (ho:OR w (ρ++[a]) h' o a):R w hb (ρ++[a]) (σ++[o]) h'/\KX L ρ h h' (ρ++[a]):=
 let ⟨x,y⟩:=r.new (eo:=λa=>a=L) hk hn ho
 ⟨x,y,λ_ n=>n.keeps hk⟩
theorem R.upd' (r:R w hb ρ σ h) {i:Nat} {a:Qa} {o:O} (ea:ρ[i]? =aa a) (hk:Hg a h h') (ho:OR w ρ h' o a) (hL:L∉ρ):R w hb ρ (σ.set i o) h'/\KX L ρ h h' ρ:=
 let ⟨x,y⟩:=r.upd (eo:=λa=>a=L) ea (λb x n e=>(hk.2 b n).trans e) ho
 ⟨x,y,λ_ n=>n.sameBut hk (λq=>hL (q▸ma ea))⟩
end
def PV (w:Lb) (hb:Gb) (L:Qa) (ρ:List Qa) (s:Sa) (Ca:St) (v:V) (val:ya) (s':Sa):Prop:=
 ∃Zd h' tk',s'={s with heap:=h',toks:=tk'}/\KX L ρ s.heap h' Zd/\R w hb Zd Ca h'/\VR w Zd h' v val
def PK (w:Lb) (hb:Gb) (L:Qa) (ρ:List Qa) (s:Sa) (Ca:St) (vs:List V) (vals:List ya) (s':Sa):Prop:=
 ∃Zd h' tk',s'={s with heap:=h',toks:=tk'}/\KX L ρ s.heap h' Zd/\R w hb Zd Ca h'/\og w Zd h' vs vals
def PB (w:Lb) (hb:Gb) (L:Qa) (ρ:List Qa) (s:Sa) (Ca:St) (b:Bool) (b':Bool) (s':Sa):Prop:=
 ∃Zd h' tk',s'={s with heap:=h',toks:=tk'}/\KX L ρ s.heap h' Zd/\R w hb Zd Ca h'/\b'=b
abbrev No:ya->Sa->Prop:=λ_ _=>False
structure yi (n:Nat) (A:lc):Prop where
 hh:A.handled=ba
 depth:A.depth+3*n+10<=900
 units:A.units+20*n+200<=9900
theorem yi.u64 {n:Nat} {A:lc} (a:yi n A):A.units+100<cLine:=by have:=a.units;have:=cLine_is;omega
theorem yi.room {n:Nat} {A:lc} (a:yi n A):A.depth<recursionLimit:=by have:=a.depth;have:recursionLimit=1000:=rfl;omega
def uc (w:Lb) (hb:Gb) (A:lc) (env:Env) (eo:Qa->Prop) (sl:List Rb) (lo:Nat) (me:Me) (t:Sem ya) (r:St->Option (V×St)):Prop:=
 ∀ρ σ s v Ca,R w hb ρ σ s.heap->wd w hb env eo sl lo me ρ s.heap->r σ=aa (v,Ca)->Wa (Fb pg w) A t (PV w hb env.locals ρ s Ca v) No s
def Hi (w:Lb) (hb:Gb) (A:lc) (env:Env) (eo:Qa->Prop) (sl:List Rb) (lo:Nat) (me:Me) (t:Sem (List ya)) (r:St->Option (List V×St)):Prop:=
 ∀ρ σ s v Ca,R w hb ρ σ s.heap->wd w hb env eo sl lo me ρ s.heap->r σ=aa (v,Ca)->Wa (Fb pg w) A t (PK w hb env.locals ρ s Ca v) No s
def Bh (w:Lb) (hb:Gb) (A:lc) (env:Env) (eo:Qa->Prop) (sl:List Rb) (lo:Nat) (me:Me) (t:Sem Bool) (r:St->Option (Bool×St)):Prop:=
 ∀ρ σ s v Ca,R w hb ρ σ s.heap->wd w hb env eo sl lo me ρ s.heap->r σ=aa (v,Ca)->Wa (Fb pg w) A t (PB w hb env.locals ρ s Ca v) No s
section
variable {w:Lb} {hb:Gb} {L:Qa} {ρ bf:List Qa} {σ Ja Ca:St} {s s1:Sa} {v:V} {val:ya} {A:lc} {env:Env} {eo:Qa->Prop} {sl:List Rb} {lo:Nat} {me:Me}
theorem PV.same {tk:Nat} (r:R w hb ρ σ s.heap) (x:VR w ρ s.heap v val):PV w hb L ρ s σ v val {s with toks:=tk}:=⟨ρ,s.heap,tk,rfl,.refl,r,x⟩
theorem PV.same0 (r:R w hb ρ σ s.heap) (x:VR w ρ s.heap v val):PV w hb L ρ s σ v val s:=⟨ρ,s.heap,s.toks,rfl,.refl,r,x⟩
theorem PB.same0 {b:Bool} (r:R w hb ρ σ s.heap):PB w hb L ρ s σ b b s:=⟨ρ,s.heap,s.toks,rfl,.refl,r,rfl⟩
theorem PV.after {h1:Gb} {tk1:Nat} (k:KX L ρ s.heap h1 bf) {s':Sa} (x:PV w hb L bf {s with heap:=h1,toks:=tk1} Ca v val s'):PV w hb L ρ s Ca v val s':=by
 obtain⟨Zd,h',tk',e,k',r',x'⟩:=x;exact⟨Zd,h',tk',e,k.trans k',r',x'⟩
theorem PK.after {h1:Gb} {tk1:Nat} {vs:List V} {vals:List ya} (k:KX L ρ s.heap h1 bf) {s':Sa} (x:PK w hb L bf {s with heap:=h1,toks:=tk1} Ca vs vals s'):PK w hb L ρ s Ca vs vals s':=by
 obtain⟨Zd,h',tk',e,k',r',x'⟩:=x;exact⟨Zd,h',tk',e,k.trans k',r',x'⟩
theorem PB.after {h1:Gb} {tk1:Nat} {b b':Bool} (k:KX L ρ s.heap h1 bf) {s':Sa} (x:PB w hb L bf {s with heap:=h1,toks:=tk1} Ca b b' s'):PB w hb L ρ s Ca b b' s':=by
 obtain⟨Zd,h',tk',e,k',r',x'⟩:=x;exact⟨Zd,h',tk',e,k.trans k',r',x'⟩
theorem hJ {x:Rb} {pos:Pos} {i:Nat} (hs:Jc sl x=aa i) (hk:env.kindOf x=aa .local\/env.kindOf x=aa .cell\/env.kindOf x=aa .free) (hd:(x==("__debug__":Rb))=false) (hd2:(x==("__classdict__":Rb))=false):
 uc w hb A env eo sl lo me (eval (.Name x pos) env) (λσ=>match me[i]? with|some (aa v)=>aa (v,σ)|_=>ba):=by
 intro ρ σ s v Ca r E e;cases hm:me[i]? with
 |none=>rw[hm]at e;cases e
 |some o=>
  cases o with
  |none=>rw[hm]at e;cases e
  |some v'=>
   rw[hm]at e;cases e;refine wpAny_Name ?_ hd;rcases hk with hk|hk|hk
   ·obtain⟨m,hm1,hv⟩:=E.ns
    obtain⟨val,q1,q2⟩:=hv x i _ hs hk hm;exact wpAny_loadName_local E.kind hk hm1 q1 (PV.same0 r q2)
   ·obtain⟨c,val,q1,q2,q3⟩:=E.cells x i _ hs (.inl hk) hm
    exact wpAny_loadName_cell E.kind hk q1 q2 (PV.same0 r q3)
   ·obtain⟨c,val,q1,q2,q3⟩:=E.cells x i _ hs (.inr hk) hm
    exact wpAny_loadName_free E.kind hk q1 q2 (PV.same0 r q3) hd2
theorem LI {i:Int} {k:Nat} {pos:Pos}:uc w hb A env eo sl lo me (eval (.Constant (.int i) k pos) env) (λσ=>aa (.int i,σ)):=λρ σ s v Ca r E e=>by
 cases e;exact wpAny_Constant_int (PV.same r (.int _ _))
theorem ZI {i:Rb} {k:Nat} {pos:Pos}:uc w hb A env eo sl lo me (eval (.Constant (.str i) k pos) env) (λσ=>aa (.str i,σ)):=λρ σ s v Ca r E e=>by
 cases e;exact wpAny_Constant_str (PV.same r (.str _ _))
theorem dG {i:Bool} {k:Nat} {pos:Pos}:uc w hb A env eo sl lo me (eval (.Constant (.bool i) k pos) env) (λσ=>aa (.bool i,σ)):=λρ σ s v Ca r E e=>by
 cases e;exact wpAny_Constant_bool (PV.same0 r (.bool _))
theorem FG {k:Nat} {pos:Pos}:uc w hb A env eo sl lo me (eval (.Constant .none k pos) env) (λσ=>aa (.none,σ)):=λρ σ s v Ca r E e=>by
 cases e;exact wpAny_Constant_none (PV.same0 r .none)
theorem wA {f g:Sem ya} {F G:St->Option (V×St)} {H:V->V->St->Option (V×St)} {t:ya->ya->Sem ya} {T:Sem ya}
 (hf:uc w hb A env eo sl lo me f F) (hg:uc w hb A env eo sl lo me g G)
 (ht:∀a b av bv ρ σ s v Ca,R w hb ρ σ s.heap->wd w hb env eo sl lo me ρ s.heap->VR w ρ s.heap av a->VR w ρ s.heap bv b->H av bv σ=aa (v,Ca)->Wa (Fb pg w) A (t a b) (PV w hb env.locals ρ s Ca v) No s)
 (hT:∀(Q:ya->Sa->Prop) s,Wa (Fb pg w) A f (λa s1=>Wa (Fb pg w) A g (λb s2=>Wa (Fb pg w) A (t a b) Q No s2) No s1) No s->Wa (Fb pg w) A T Q No s):
 uc w hb A env eo sl lo me T (λσ=>match F σ with|some (av,Ja)=>(match G Ja with|some (bv,Cb)=>H av bv Cb|none=>ba)|none=>ba):=by
 intro ρ σ s v Ca r E e;refine hT _ _ ?_;cases hF:F σ with
 |none=>simp only[hF]at e;cases e
 |some p=>
  obtain⟨av,Ja⟩:=p;simp only[hF]at e;cases hG:G Ja with
  |none=>simp only[hG]at e;cases e
  |some q=>
   obtain⟨bv,Cb⟩:=q;simp only[hG]at e;refine Ea (hf ρ σ s av Ja r E hF) (λa s1 p1=> ?_) λ_ _ x=>x;obtain⟨bf,h1,tk1,rfl,k1,r1,x1⟩:=p1;refine Ea (hg bf Ja _ bv Cb r1 (E.kx r k1) hG) (λb s2 p2=> ?_) λ_ _ x=>x;obtain⟨zi,h2,Qh,rfl,k2,r2,x2⟩:=p2;refine Ea (ht a b av bv zi Cb _ v Ca r2 ((E.kx r k1).kx r1 k2) (k2.vr x1) x2 e) (λc s3 p3=> ?_) λ_ _ x=>x;exact PV.after (s:=s) k1 (PV.after (s:={s with heap:=h1,toks:=tk1}) k2 p3)
theorem ME {f:Sem ya} {F:St->Option (V×St)} {H:V->St->Option (V×St)} {t:ya->Sem ya} {T:Sem ya}
 (hf:uc w hb A env eo sl lo me f F)
 (ht:∀a av ρ σ s v Ca,R w hb ρ σ s.heap->wd w hb env eo sl lo me ρ s.heap->VR w ρ s.heap av a->H av σ=aa (v,Ca)->Wa (Fb pg w) A (t a) (PV w hb env.locals ρ s Ca v) No s)
 (hT:∀(Q:ya->Sa->Prop) s,Wa (Fb pg w) A f (λa s1=>Wa (Fb pg w) A (t a) Q No s1) No s->Wa (Fb pg w) A T Q No s):
 uc w hb A env eo sl lo me T (λσ=>match F σ with|some (av,Ja)=>H av Ja|none=>ba):=by
 intro ρ σ s v Ca r E e;refine hT _ _ ?_;cases hF:F σ with
 |none=>simp only[hF]at e;cases e
 |some p=>
  obtain⟨av,Ja⟩:=p;simp only[hF]at e;refine Ea (hf ρ σ s av Ja r E hF) (λa s1 p1=> ?_) λ_ _ x=>x;obtain⟨bf,h1,tk1,rfl,k1,r1,x1⟩:=p1;refine Ea (ht a av bf Ja _ v Ca r1 (E.kx r k1) x1 e) (λc s3 p3=> ?_) λ_ _ x=>x;exact PV.after (s:=s) k1 p3
end
end Mine
namespace Mine
variable [Av]
section
variable {w:Lb} {hb h:Gb} {L:Qa} {ρ:List Qa} {σ Ca:St} {s:Sa} {v:V} {val:ya} {A:lc} {n:Nat}
theorem R.list (r:R w hb ρ σ h) {i:Nat} {xs:List V} {val:ya} (e:listAt σ i=aa xs) (x:VR w ρ h (.ref i) val):
 ∃a vs m,val=.ref a/\ρ[i]? =aa a/\h.get? a=aa (listOf vs.toArray m)/\xs.length<=4096/\og w ρ h xs vs:=by
 unfold listAt at e
 split at e
 ·rename_i ys q
  cases e;obtain⟨a,ea,vs,m,q1,q2,q3⟩:=r.at q;cases x with
  |ref ea'=>rw[ea]at ea';cases ea';exact⟨a,vs,m,rfl,ea,q1,q2,q3⟩
 ·cases e
theorem He {a:Qa} {vs:List ya} {m:Nat} (e:h.get? a=aa (listOf vs.toArray m)):h.IsList a vs.toArray:=⟨_,e,rfl,_,rfl⟩
mutual
theorem Gr (r:R w hb ρ σ h):∀(n:Nat) (x:V) (d:PyData) (val:ya),Fh n x σ=aa d->VR w ρ h x val->∃as,Reads h val d as
 |_,.none,d,val,e,x=>by simp[Gd,Fd,Pd,je,ge,ie,rd,Jd,Hd,sd,Vc]at e;subst e;cases x;exact⟨_,.none⟩
 |_,.bool b,d,val,e,x=>by simp[Gd,Fd,Pd,je,ge,ie,rd,Jd,Hd,sd,Vc]at e;subst e;cases x;exact⟨_,.bool b⟩
 |_,.int b,d,val,e,x=>by simp[Gd,Fd,Pd,je,ge,ie,rd,Jd,Hd,sd,Vc]at e;subst e;cases x;exact⟨_,.int _ _⟩
 |_,.str b,d,val,e,x=>by
  simp only[Gd,Fd,Pd,je,ge,ie,rd,Jd,Hd,sd,Vc]at e;split at e<;>cases e;cases x;exact⟨_,.str _ _⟩
 |n+1,.tup xs,d,val,e,x=>by
  simp only[Gd,Fd,Pd,je,ge,ie,rd,Jd,Hd,sd,Vc]at e;cases q:Ng n xs σ with
  |none=>rw[q]at e;cases e
  |some ds=>
   rw[q]at e;cases e;cases x with
   |tup _ e1 _ e3=>
    obtain⟨as,p⟩:=Ok r n xs ds _ q e3;exact⟨as,reads_tuple_at e1 rfl rfl (by simpa using p)⟩
 |n+1,.ref i,d,val,e,x=>by
  simp only[Gd,Fd,Pd,je,ge,ie,rd,Jd,Hd,sd,Vc]at e;cases q0:listAt σ i with
  |none=>rw[q0]at e;cases e
  |some xs=>
   rw[q0]at e;simp only at e;cases q:Ng n xs σ with
   |none=>rw[q]at e;cases e
   |some ds=>
    rw[q]at e;cases e;obtain⟨a,vs,m,rfl,_,e1,_,e3⟩:=r.list q0 x;obtain⟨as,p⟩:=Ok r n xs ds _ q e3;exact⟨_,reads_list_at e1 rfl rfl (by simpa using p)⟩
 |0,.tup xs,d,val,e,x=>by simp[Gd,Fd,Pd,je,ge,ie,rd,Jd,Hd,sd,Vc]at e
 |0,.ref i,d,val,e,x=>by simp[Gd,Fd,Pd,je,ge,ie,rd,Jd,Hd,sd,Vc]at e
 |_,.con _,d,val,e,x=>by simp[Gd,Fd,Pd,je,ge,ie,rd,Jd,Hd,sd,Vc]at e
 |_,.rng _ _,d,val,e,x=>by simp[Gd,Fd,Pd,je,ge,ie,rd,Jd,Hd,sd,Vc]at e
 |_,.iset _,d,val,e,x=>by simp[Gd,Fd,Pd,je,ge,ie,rd,Jd,Hd,sd,Vc]at e
theorem Ok (r:R w hb ρ σ h):∀(n:Nat) (xs:List V) (ds:List PyData) (vals:List ya),Ng n xs σ=aa ds->og w ρ h xs vals->∃as,ReadsAll h vals ds as
 |n,[],ds,vals,e,x=>by simp[kh]at e;subst e;cases x;exact⟨_,.nil⟩
 |n,y::ys,ds,vals,e,x=>by
  simp only[kh,Uh]at e;cases q:Fh n y σ with
  |none=>rw[q]at e;cases e
  |some d=>
   cases q':Ng n ys σ with
   |none=>rw[q,q']at e;cases e
   |some ds'=>
    rw[q,q']at e;cases e;cases x with
    |cons a b=>
     obtain⟨as,p⟩:=Gr r n y d _ q a;obtain⟨bs,p'⟩:=Ok r n ys ds' _ q' b;exact⟨_,.cons p p'⟩
end
mutual
theorem Hs:∀(n:Nat) (x:V) (d:PyData),Fh n x σ=aa d->d.canLay0=true/\d.depth<=n
 |_,.none,d,e=>by simp[Gd,Fd,Pd,je,ge,ie,rd,Jd,Hd,sd,Vc]at e;subst e;simp[mf,Uf]
 |_,.bool b,d,e=>by simp[Gd,Fd,Pd,je,ge,ie,rd,Jd,Hd,sd,Vc]at e;subst e;simp[mf,Uf]
 |_,.int b,d,e=>by simp[Gd,Fd,Pd,je,ge,ie,rd,Jd,Hd,sd,Vc]at e;subst e;simp[mf,Uf]
 |_,.str b,d,e=>by
  simp only[Gd,Fd,Pd,je,ge,ie,rd,Jd,Hd,sd,Vc]at e;split at e<;>cases e;rename_i q;simp[mf,Uf,VC q]
 |n+1,.tup xs,d,e=>by
  simp only[Gd,Fd,Pd,je,ge,ie,rd,Jd,Hd,sd,Vc]at e;cases q:Ng n xs σ with
  |none=>rw[q]at e;cases e
  |some ds=>
   rw[q]at e;cases e;have:=Bj n xs ds q;simp only[mf,Uf];exact⟨this.1,by omega⟩
 |n+1,.ref i,d,e=>by
  simp only[Gd,Fd,Pd,je,ge,ie,rd,Jd,Hd,sd,Vc]at e;cases q0:listAt σ i with
  |none=>rw[q0]at e;cases e
  |some xs=>
   rw[q0]at e;simp only at e;cases q:Ng n xs σ with
   |none=>rw[q]at e;cases e
   |some ds=>
    rw[q]at e;cases e;have:=Bj n xs ds q;simp only[mf,Uf];exact⟨this.1,by omega⟩
 |0,.tup xs,d,e=>by simp[Gd,Fd,Pd,je,ge,ie,rd,Jd,Hd,sd,Vc]at e
 |0,.ref i,d,e=>by simp[Gd,Fd,Pd,je,ge,ie,rd,Jd,Hd,sd,Vc]at e
 |_,.con _,d,e=>by simp[Gd,Fd,Pd,je,ge,ie,rd,Jd,Hd,sd,Vc]at e
 |_,.rng _ _,d,e=>by simp[Gd,Fd,Pd,je,ge,ie,rd,Jd,Hd,sd,Vc]at e
 |_,.iset _,d,e=>by simp[Gd,Fd,Pd,je,ge,ie,rd,Jd,Hd,sd,Vc]at e
theorem Bj:∀(n:Nat) (xs:List V) (ds:List PyData),Ng n xs σ=aa ds->Sg ds=true/\Rh ds<=n
 |n,[],ds,e=>by simp[kh]at e;subst e;simp[Sg,Rh]
 |n,y::ys,ds,e=>by
  simp only[kh,Uh]at e;cases q:Fh n y σ with
  |none=>rw[q]at e;cases e
  |some d=>
   cases q':Ng n ys σ with
   |none=>rw[q,q']at e;cases e
   |some ds'=>
    rw[q,q']at e;cases e;have a:=Hs n y d q;have b:=Bj n ys ds' q';simp only[Sg,Rh,La];exact⟨⟨a.1,b.1⟩,by omega⟩
end
theorem ik {x:V} {d:PyData} (e:Fh 6 x σ=aa d):MH d=true:=by
 obtain⟨a,b⟩:=Hs 6 x d e;simp only[MH,a,Mo,decide_eq_true_eq];omega
theorem Kl {es:List (Int×V)} {kvs:List (Int×ya)} (hk:kvs.map (·.1)=es.map (·.1)) (hv:og w ρ h (es.map (·.2)) (kvs.map (·.2))) (k:Int):
 (qg es k=ba/\valueAt kvs k=ba)\/∃x val,qg es k=aa x/\valueAt kvs k=aa val/\VR w ρ h x val:=by
 induction es generalizing kvs with
 |nil=>cases kvs with
  |nil=>exact .inl ⟨rfl,rfl⟩
  |cons _ _=>simp at hk
 |cons p es ih=>
  cases kvs with
  |nil=>simp at hk
  |cons q kvs=>
   obtain⟨pk,pv⟩:=p;obtain⟨qk,qv⟩:=q;simp only[sa,Jf]at hk hv;obtain⟨rfl,hk⟩:=hk;cases hv with
   |cons a b=>
    by_cases e:qk=k
    ·subst e
     exact .inr ⟨pv,qv,by simp[qg],by simp[valueAt],a⟩
    ·rcases ih hk b with⟨h1,h2⟩|⟨x,val,h1,h2,h3⟩
     ·exact .inl ⟨by simp[qg,e,h1],by simp only[valueAt,Mg,e,decide_false]at h2|-;exact h2⟩
     ·exact .inr ⟨x,val,by simp[qg,e,h1],by simp only[valueAt,Mg,e,decide_false]at h2|-;exact h2,h3⟩
theorem R.notMods (r:R w hb ρ σ h) (hm:hb.get? sysModules≠ba) {a:Qa} (ha:a∈ρ):(a==sysModules)=false:=by
 refine beq_eq_false_iff_ne.mpr λq=> ?_;subst q;exact hm (r.fresh _ ha)
theorem lp {a:Qa} {o:Obj} {kvs:List (Int×ya)} (e:h.get? a=aa o) (d:o.IsDictOf (intKind pg w) kvs):h.MapOf (intKind pg w) a (valueAt kvs):=
 (vf.mpr ⟨o,e,d⟩).mapOf
theorem iw {op:CmpOp} {av bv:V} {b:Bool} {a b':ya} (hm:hb.get? sysModules≠ba) (AK:yi n A) (r:R w hb ρ σ s.heap) (xa:VR w ρ s.heap av a) (xb:VR w ρ s.heap bv b')
 (e:Zc op av bv σ=aa b):Wa (Fb pg w) A (compareOp op a b') (PV w hb L ρ s σ (.bool b)) No s:=by
 have eqp:∀{op av bv b},(∃d e,Fh 6 av σ=aa d/\Fh 6 bv σ=aa e/\((op=CmpOp.Eq/\b=ud d e)\/(op=CmpOp.NotEq/\b= !ud d e)))->VR w ρ s.heap av a->VR w ρ s.heap bv b'->Wa (Fb pg w) A (compareOp op a b') (PV w hb L ρ s σ (.bool b)) No s:=by
  rintro op av bv b ⟨d,e,hd,he,q⟩ xa xb
  obtain⟨as,ra⟩:=Gr r _ _ _ _ hd xa;obtain⟨bs,rb⟩:=Gr r _ _ _ _ he xb;have u:=AK.u64;rcases q with⟨rfl,rfl⟩|⟨rfl,rfl⟩
  ·exact eq_dataH ra rb (ik hd) (ik he) (by omega) (PV.same0 r (.bool _))
  ·exact ne_dataH ra rb (ik hd) (ik he) (by omega) (PV.same0 r (.bool _))
 unfold Zc at e
 split at e
 ·cases e;cases xa;cases xb;exact lt_int (PV.same0 r (.bool _))
 ·cases e;cases xa;cases xb;exact le_int (PV.same0 r (.bool _))
 ·cases e;cases xa;cases xb;exact gt_int (PV.same0 r (.bool _))
 ·cases e;cases xa;cases xb;exact ge_int (PV.same0 r (.bool _))
 ·split at e
  ·rename_i d e' hd he;cases e
   exact eqp ⟨d,e',hd,he,.inl ⟨rfl,rfl⟩⟩ xa xb
  ·cases e
 ·split at e
  ·rename_i d e' hd he;cases e
   exact eqp ⟨d,e',hd,he,.inr ⟨rfl,rfl⟩⟩ xa xb
  ·cases e
 ·cases xb
  split at e<;>cases e<;>cases xa<;>exact is_none (PV.same0 r (.bool _))
 ·cases xb
  split at e<;>cases e<;>cases xa<;>exact isNot_none (PV.same0 r (.bool _))
 ·rename_i x y
  cases e;cases xa;cases xb;exact wpAny_isNot_plain rfl (by
   have:(!(NJ x==NJ y))=(x !=y):=by cases x<;>cases y<;>rfl
   rw[this];exact PV.same0 r (.bool _))
 ·rename_i k i
  cases xa with
  |int _ t=>
  split at e
  ·rename_i es q
   cases e;obtain⟨a',ea,o,kvs,q1,q2,q3,q4,q5⟩:=r.at q;cases xb with
   |ref eb=>
    rw[ea]at eb;cases eb;refine wpAny_in_of (knd:=intKind pg w) (k:=k) (by show ii k (.int k t)=true;simp[ii]) (r.notMods hm (ma ea)) (lp q1 q2) ?_;have:(valueAt kvs k).isSome=(qg es k).isSome:=by
     rcases Kl q3 q4 k with⟨h1,h2⟩|⟨x,val,h1,h2,_⟩<;>rw[h1,h2]<;>rfl
    rw[this];exact PV.same r (.bool _)
  ·rename_i xs q
   split at e
   ·rename_i ds hd
    cases e;obtain⟨a',vs,m,rfl,_,q1,_,q3⟩:=r.list (by unfold listAt;rw[q]) xb;obtain⟨as,ra⟩:=Ok r _ _ _ _ hd q3;have l:=Bj _ _ _ hd;have u:=AK.u64;exact JA (reads_list_at q1 rfl rfl (by simpa using ra)) (.int k t) l.1 (by simp[mf]) (by simp[Uf];omega) (PV.same0 r (.bool _))
   ·cases e
  ·cases e
 ·rename_i k i
  cases xa with
  |int _ t=>
  split at e
  ·rename_i es q
   cases e;obtain⟨a',ea,o,kvs,q1,q2,q3,q4,q5⟩:=r.at q;cases xb with
   |ref eb=>
    rw[ea]at eb;cases eb;refine wpAny_notIn_of (knd:=intKind pg w) (k:=k) (by show ii k (.int k t)=true;simp[ii]) (r.notMods hm (ma ea)) (lp q1 q2) ?_;have:(valueAt kvs k).isSome=(qg es k).isSome:=by
     rcases Kl q3 q4 k with⟨h1,h2⟩|⟨x,val,h1,h2,_⟩<;>rw[h1,h2]<;>rfl
    rw[this];exact PV.same r (.bool _)
  ·rename_i xs q
   split at e
   ·rename_i ds hd
    cases e;obtain⟨a',vs,m,rfl,_,q1,_,q3⟩:=r.list (by unfold listAt;rw[q]) xb;obtain⟨as,ra⟩:=Ok r _ _ _ _ hd q3;have l:=Bj _ _ _ hd;have u:=AK.u64;exact SeqAt.notIn_list_reads (reads_list_at q1 rfl rfl (by simpa using ra)) (.int k t) l.1 (by simp[mf]) (by simp[Uf];omega) (PV.same0 r (.bool _))
   ·cases e
  ·cases e
 ·rename_i ys i
  split at e
  ·rename_i xs e' q q'
   split at e
   ·rename_i ds hd
    cases e;obtain⟨a',vs,m,rfl,_,q1,_,q3⟩:=r.list q xb;obtain⟨as,ra⟩:=Ok r _ _ _ _ hd q3;obtain⟨bs,rb⟩:=Gr r _ _ _ _ q' xa;have l:=Bj _ _ _ hd;have l':=Hs _ _ _ q';have u:=AK.u64;exact JA (reads_list_at q1 rfl rfl (by simpa using ra)) rb l.1 l'.1 (by omega) (PV.same0 r (.bool _))
   ·cases e
  ·cases e
 ·cases e
end
end Mine
namespace Mine
variable [Av]
abbrev hE:Gb:={}
theorem fB (a:Qa):hE.get? a=ba:=by simp[MK]
def pj (h:Gb) (L:Qa):List (Qa×Obj):=(Ua h.objs.size).filterMap λa=>if a=L then ba else(h.get? a).map λo=>(a,o)
theorem Pe {h:Gb} {L:Qa} {a:Qa} {o:Obj}:(a,o)∈pj h L↔a≠L/\h.get? a=aa o:=by
 unfold pj;rw[List.mem_filterMap]
 constructor
 ·rintro⟨b,_,e⟩
  split at e
  ·cases e
  ·rename_i n
   cases q:h.get? b with
   |none=>rw[q]at e;cases e
   |some o'=>rw[q]at e;cases e;exact⟨n,q⟩
 ·rintro⟨n,e⟩
  exact⟨a,ng.mpr (Wb e),by rw[if_neg n,e];rfl⟩
theorem oj {h:Gb} {L:Qa} {m} (n:h.Ns L m):Fr hE L h m:=⟨n,λb o e=>(by rw[fB]at e;cases e),Ae _⟩
theorem Dg {h:Gb} {L:Qa}:News hE L h (pj h L):=λp hp=>by
 obtain⟨a,o⟩:=p;obtain⟨n,e⟩:=Pe.mp hp;exact⟨e,n,fB _⟩
theorem Bp {h:Gb} {L:Qa}:(pj h L).Pairwise λp q=>p.1≠q.1:=by
 unfold pj;rw[List.pairwise_filterMap];refine(Br (n:=h.objs.size)).imp λ{a b} hab p hp q hq=> ?_
 replace hp:(if a=L then ba else(h.get? a).map λo=>(a,o))=aa p:=hp
 replace hq:(if b=L then ba else(h.get? b).map λo=>(b,o))=aa q:=hq
 split at hp
 ·cases hp
 split at hq
 ·cases hq
 cases qa:h.get? a with
 |none=>rw[qa]at hp;cases hp
 |some oa=>
  cases qb:h.get? b with
  |none=>rw[qb]at hq;cases hq
  |some ob=>rw[qa]at hp;rw[qb]at hq;cases hp;cases hq;exact hab
theorem tF {D:Qa} {o o':Obj}:∀{news:List (Qa×Obj)},(news.Pairwise λp q=>p.1≠q.1)->(D,o)∈news->∃news',Upd D o o' news news'/\(D,o')∈news'/\∀p∈news,p.1≠D->p∈news'
 | [],_,m=>by cases m
 |p::r,hp,m=>by
  rw[Kf]at hp;rcases Fa.mp m with e|e
  ·subst e
   exact⟨(D,o')::r,.head λq hq=>(hp.1 q hq).symm,Ma,λq hq n=>by
    rcases Fa.mp hq with e|e
    ·subst e;exact absurd rfl n
    ·exact Ia _ e⟩
  ·obtain⟨n',u,a,b⟩:=tF hp.2 e
   exact⟨p::n',.tail (hp.1 _ e) u,Ia _ a,λq hq n=>by
    rcases Fa.mp hq with e|e
    ·subst e;exact Ma
    ·exact Ia _ (b q e n)⟩
theorem Tr {h:Gb} {L D:Qa} {o o':Obj} (e:h.get? D=aa o) (n:D≠L):∃news',Upd D o o' (pj h L) news'/\(D,o')∈news'/\∀p∈pj h L,p.1≠D->p∈news':=
 tF Bp (Pe.mpr ⟨n,e⟩)
theorem RI {h:Gb} {L:Qa} {m m'} (a:h.Ns L m) (b:h.Ns L m'):m=m':=by
 obtain⟨o,es,ep,e,d,_,q⟩:=a;obtain⟨o',es',ep',e',d',_,q'⟩:=b;rw[e]at e';cases e';rw[d]at d';cases d'
 funext x;rw[<-q,<-q']
structure qu (hb:Gb) (L:Qa) (ρ:List Qa) (h:Gb):Prop where
 ns:∃m,h.Ns L m
 out:L∉ρ
 base:hb.get? L=ba
theorem mh {h:Gb} {L:Qa} {m} (n:h.Ns L m) {o:Obj} (e:h.get? L=aa o):¬bh o:=by
 obtain⟨o',es,ep,e',d,_⟩:=n;rw[e]at e';cases e';simp[bh,d]
section
variable {w:Lb} {hb h h':Gb} {ρ Zd:List Qa} {σ Ca:St} {L:Qa} {env:Env} {eo:Qa->Prop} {sl:List Rb} {lo:Nat} {me:Me}
theorem wd.lok (E:wd w hb env eo sl lo me ρ h):qu hb env.locals ρ h:=⟨let ⟨m,a,_⟩:=E.ns;⟨m,a⟩,E.loc.1,E.loc.2.1⟩
theorem KX.ofNs {m} (hn:h.Ns L m) (mx:h'.Ns L m):∀m',h.Ns L m'->h'.Ns L m':=λm' q=>by rw[RI q hn];exact mx
theorem Kp.ofBut (hk:∀a o,a≠L->h.get? a=aa o->h'.get? a=aa o) {m} (hn:h.Ns L m) (mx:h'.Ns L m):Kp (λa=>a=L) ρ h h' ρ:=
 ⟨Ha _,λ_ h=>.inl h,λa o e _ n=>hk a o n e,λa o e i=>hk a o (λq=>by subst q;exact mh hn e i) e,λa e=>by
  obtain⟨o,ho⟩:=Ta.mp e
  by_cases q:a=L
  ·subst q;obtain⟨o',_,_,e',_⟩:=mx;rw[e'];rfl
  ·rw[hk a o q ho];rfl⟩
theorem KX.ofBut (hk:∀a o,a≠L->h.get? a=aa o->h'.get? a=aa o) {m} (hn:h.Ns L m) (mx:h'.Ns L m):KX L ρ h h' ρ:=⟨Kp.ofBut hk hn mx,KX.ofNs hn mx⟩
theorem R.ofBut (r:R w hb ρ σ h) (l:qu hb L ρ h) (hk:∀a o,a≠L->h.get? a=aa o->h'.get? a=aa o):R w hb ρ σ h':=by
 obtain⟨m,hn⟩:=l.ns;exact r.beside (wr:=λa=>a=L) (λa o n e=>hk a o n e) λa q=>by subst q;exact⟨l.out,l.base,λo e=>mh hn e⟩
theorem R.newL (r:R w hb ρ σ h) (l:qu hb L ρ h) {a:Qa} {o:O} {m} (hn:h.Ns L m) (mx:h'.Ns L m) (hk:∀b x,b≠L->h.get? b=aa x->h'.get? b=aa x) (ha:h.get? a=ba) (ho:OR w (ρ++[a]) h' o a):
 R w hb (ρ++[a]) (σ++[o]) h'/\KX L ρ h h' (ρ++[a]):=by
 have k:KX L ρ h h' ρ:=KX.ofBut hk hn mx;have r':R w hb ρ σ h':=r.ofBut l hk;have hnb:hb.get? a=ba:=by
  cases e:hb.get? a with
  |none=>rfl
  |some x=>have:=r.base a x e;rw[ha]at this;cases this
 have hnin:a∉ρ:=λq=>by obtain⟨x,hx,_⟩:=r.live q;rw[ha]at hx;cases hx
 refine⟨⟨by simp[r.len],?_,?_,r'.avl,r'.base,λj p b e1 e2=> ?_⟩,⟨dc _ _,λb En=> ?_,λb x e n1 n2=>k.keep b x e n1 n2,k.imm,k.live⟩,k.ns⟩
 ·rw[Zf]
  exact⟨r.nodup,by simp,λx hx y hy=>by rw[jb]at hy;subst hy;exactλq=>hnin (q▸hx)⟩
 ·intro b En
  rcases db.mp En with q|q
  ·exact r.fresh b q
  ·rw[jb]at q;subst q;exact hnb
 ·by_cases q:j<σ.length
  ·rw[ta q]at e1
   rw[ta (by rw[r.len];exact q)]at e2;exact(r'.obj j p b e1 e2).mono (dc _ _) (λb x e _=>e) λx e=>e
  ·rw[Ra (Ke q)]at e1
   rw[Ra (by rw[r.len];exact Ke q),r.len]at e2;cases hj:j - σ.length with
   |zero=>rw[hj]at e1 e2;simp at e1 e2;subst e1 e2;exact ho
   |succ t=>rw[hj]at e1;simp at e1
 ·rcases db.mp En with q|q
  ·exact .inl q
  ·rw[jb]at q;subst q;exact .inr ha
theorem R.updL (r:R w hb ρ σ h) (l:qu hb L ρ h) {i:Nat} {a:Qa} {o:O} {m} (ea:ρ[i]? =aa a) (hn:h.Ns L m) (mx:h'.Ns L m) (hk:∀b x,b≠L->b≠a->h.get? b=aa x->h'.get? b=aa x) (ho:OR w ρ h' o a):
 R w hb ρ (σ.set i o) h'/\KX L ρ h h' ρ:=by
 have ha:a∈ρ:=ma ea;have haL:a≠L:=λq=>l.out (q▸ha);obtain⟨xa,hxa,hna⟩:=r.live ha;have Sm:∀b x,h.get? b=aa x->bh x->h'.get? b=aa x:=λb x e im=>
  hk b x (λq=>by subst q;exact mh hn e im) (λq=>by subst q;rw[e]at hxa;cases hxa;exact hna im) e
 refine⟨⟨by rw[Mb];exact r.len,r.nodup,r.fresh,λb hb=>(by obtain⟨o,ho,io⟩:=r.avl b hb;exact⟨o,Sm b o ho io,io⟩),λb x e=>hk b x (λq=>by subst q;rw[l.base]at e;cases e) (λq=>by subst q;rw[r.fresh b ha]at e;cases e) (r.base b x e),λj p b e1 e2=> ?_⟩,
  ⟨Ha _,λ_ h=>.inl h,λb x e n1 n2=>hk b x n2 (λq=>n1 (q▸ha)) e,Sm,λb e=> ?_⟩,KX.ofNs hn mx⟩
 ·by_cases q:i=j
  ·subst q
   rw[ea]at e2;cases e2;rw[Ci]at e1;simp only[if_true]at e1
   split at e1<;>cases e1
   exact ho
  ·rw[Na q]at e1
   have hba:b≠a:=λz=>by
    subst z;obtain⟨h1,h2⟩:=ca.mp ea;obtain⟨h3,h4⟩:=ca.mp e2;exact q ((BF r.nodup).mp (h2.trans h4.symm))
   exact(r.obj j p b e1 e2).mono (Ha _) Sm λx e=>hk b x (λz=>by subst z;exact l.out (ma e2)) hba e
 ·obtain⟨x,hx⟩:=Ta.mp e
  by_cases q:b=a
  ·subst q
   obtain⟨x,hx,_⟩:=ho.get;rw[hx];rfl
  ·by_cases q':b=L
   ·subst q';obtain⟨o',_,_,e',_⟩:=mx;rw[e'];rfl
   ·rw[hk b x q' q hx];rfl
theorem Fr.now {m} (F:Fr hE L h m):h.Ns L m:=F.ns
theorem News.keepAll (N:News hE L h' (pj h L)):∀b x,b≠L->h.get? b=aa x->h'.get? b=aa x:=λb x n e=>(N (b,x) (Pe.mpr ⟨n,e⟩)).1
theorem News.keepAll1 {p:Qa×Obj} (N:News hE L h' (p::pj h L)):∀b x,b≠L->h.get? b=aa x->h'.get? b=aa x:=λb x n e=>(N (b,x) (Ia _ (Pe.mpr ⟨n,e⟩))).1
theorem News.keepUpd {news':List (Qa×Obj)} {D:Qa} (N:News hE L h' news') (q:∀p∈pj h L,p.1≠D->p∈news'):∀b x,b≠L->b≠D->h.get? b=aa x->h'.get? b=aa x:=λb x n n' e=>(N (b,x) (q _ (Pe.mpr ⟨n,e⟩) n')).1
theorem Hb (h:Gb):h.get? h.objs.size=ba:=by
 cases e:h.get? h.objs.size with
 |none=>rfl
 |some o=>exact absurd (Wb e) (Ed _)
end
def PS (w:Lb) (hb:Gb) (L:Qa) (ρ:List Qa) (s:Sa) (Ca:St) (s':Sa):Prop:=
 ∃Zd h' tk',s'={s with heap:=h',toks:=tk'}/\KX L ρ s.heap h' Zd/\R w hb Zd Ca h'
section
variable {w:Lb} {hb h:Gb} {L:Qa} {ρ:List Qa} {σ Ca:St} {s:Sa} {v:V} {val:ya} {A:lc} {n:Nat}
theorem Mi {xs:List V}:∀{is:List Int} {vs:List ya},Qg xs=aa is->og w ρ h xs vs->IntsAre vs is:=by
 induction xs with
 |nil=>intro is vs e x;cases x;simp[Qg]at e;subst e;exact .nil
 |cons y ys ih=>
  intro is vs e x;cases x with
  |cons a b=>
   cases y<;>simp only[Qg]at e<;>try cases e
   cases q:Qg ys with
   |none=>rw[q]at e;cases e
   |some js=>
    rw[q]at e;cases e;cases a with
    |int _ t=>exact .cons _ t (ih q b)
theorem au {is:List Int} {vs:List ya} (x:IntsAre vs is):og w ρ h (is.map V.int) vs:=by
 induction x with
 |nil=>exact .nil
 |cons i t _ ih=>exact .cons (.int i t) ih
theorem EG {vs:List ya} {xs:List V} (r:R w hb ρ σ s.heap) (x:og w ρ s.heap xs vs) (e:uj xs σ=aa (v,Ca)):
 Wa (Fb pg w) A (newTuple vs) (PV w hb L ρ s Ca v) No s:=by
 unfold uj at e
 split at e
 ·cases e
  rename_i hl;have bo:xs.length<4096:=by simpa [xh]using hl
  refine wpAny_newTuple ?_ (by rw[<-x.length,Mc];omega);have hk:∀a o,s.heap.get? a=aa o->(s.heap.push (Jp vs 0)).get? a=aa o:=λa o e=>Da _ e;exact⟨ρ,_,s.toks,rfl,KX.grow hk,r.grow hk,.tup (n:=0) (r.notAv (Hb _)) (Pa _ rfl) (by omega) (x.mono (Ha _) λa o e _=>hk a o e)⟩
 ·cases e
theorem CG {vs:List ya} {xs:List V} (r:R w hb ρ σ s.heap) (x:og w ρ s.heap xs vs) (e:newL xs σ=aa (v,Ca)):
 Wa (Fb pg w) A (newList vs) (PV w hb L ρ s Ca v) No s:=by
 unfold newL at e
 split at e
 ·cases e
  rename_i hl;have bo:xs.length<4096:=by simpa [xh]using hl
  refine wpAny_newList ?_ (by rw[<-x.length,Mc];omega);have hk:∀a o,s.heap.get? a=aa o->(s.heap.push (listOf vs.toArray 0)).get? a=aa o:=λa o e=>Da _ e;obtain⟨r',k⟩:=r.new' (L:=L) (a:=s.heap.objs.size) (o:=.list xs) hk (Hb _) ⟨vs,0,Pa _ rfl,by omega,x.mono (dc _ _) λa o e _=>hk a o e⟩;exact⟨_,_,s.toks,rfl,k,r',.ref (by rw[<-r.len];simp)⟩
 ·cases e
theorem qp {vs:List ya} {xs:List V} {a:Qa} {k:Nat} {h':Gb} {tk':Nat} {m} (r:R w hb ρ σ s.heap) (l:qu hb L ρ s.heap) (hn:s.heap.Ns L m) (mx:h'.Ns L m) (hk:∀b x,b≠L->s.heap.get? b=aa x->h'.get? b=aa x)
 (ha:s.heap.get? a=ba) (ho:h'.get? a=aa (listOf vs.toArray k)) (x:og w ρ s.heap xs vs) (e:newL xs σ=aa (v,Ca)):
 PV w hb L ρ s Ca v (.ref a) {s with heap:=h',toks:=tk'}:=by
 unfold newL at e
 split at e
 ·cases e
  rename_i hl;have bo:xs.length<4096:=by simpa [xh]using hl
  have kx:KX L ρ s.heap h' ρ:=KX.ofBut hk hn mx;obtain⟨r',k⟩:=r.newL l (a:=a) (o:=.list xs) hn mx hk ha ⟨vs,_,ho,by omega,x.mono (dc _ _) kx.imm⟩;exact⟨_,_,tk',rfl,k,r',.ref (by rw[<-r.len];simp)⟩
 ·cases e
theorem DG {vs:List ya} {xs:List V} {a:Qa} {k:Nat} {h':Gb} {tk':Nat} {m} (r:R w hb ρ σ s.heap) (l:qu hb L ρ s.heap) (hn:s.heap.Ns L m) (mx:h'.Ns L m) (hk:∀b x,b≠L->s.heap.get? b=aa x->h'.get? b=aa x)
 (ha:s.heap.get? a=ba) (ho:h'.get? a=aa (Jp vs k)) (x:og w ρ s.heap xs vs) (e:uj xs σ=aa (v,Ca)):
 PV w hb L ρ s Ca v (.ref a) {s with heap:=h',toks:=tk'}:=by
 unfold uj at e
 split at e
 ·cases e
  rename_i hl;have bo:xs.length<4096:=by simpa [xh]using hl
  have kx:KX L ρ s.heap h' ρ:=KX.ofBut hk hn mx;exact⟨ρ,h',tk',rfl,kx,r.ofBut l hk,.tup (r.notAv ha) ho (by omega) (x.mono (Ha _) kx.imm)⟩
 ·cases e
theorem uf {a:Qa} {vs:List ya} {k:Nat} (e:h.get? a=aa (Jp vs k)):IsTup h a vs.toArray:=⟨_,e,rfl,_,rfl⟩
theorem og.replicate {x:V} {u:ya} (q:VR w ρ h x u):∀k,og w ρ h (Aa k x) (Aa k u)
 |0=>.nil
 |k+1=>by rw[Gj,Gj];exact .cons q (og.replicate q k)
theorem Mx (u:ya):∀(k:Nat) (Cc:Array ya),List.foldl (λx1 x2=>x1++x2) Cc (Aa k #[u])=(Cc.toList++Aa k u).toArray
 |0,Cc=>by simp
 |k+1,Cc=>by rw[Gj,QF,Mx u k];simp[Gj]
theorem mw {x:Int} (h0:0<=x) (h1:x<1000):(if(x==0)=true then 0 else x.natAbs.log2/30+1)<=1:=by
 split
 ·omega
 ·rename_i q
  have:x.natAbs<2^10:=by omega
  have:=(oK (by simp at q;omega)).mpr this;omega
theorem QH {op:Operator} {av bv:V} {a b:ya} (AK:yi n A) (r:R w hb ρ σ s.heap) (l:qu hb L ρ s.heap) (xa:VR w ρ s.heap av a) (xb:VR w ρ s.heap bv b)
 (e:Cf op av bv σ=aa (v,Ca)):Wa (Fb pg w) A (binaryOp op a b) (PV w hb L ρ s Ca v) No s:=by
 unfold Cf at e
 split at e
 ·cases e;cases xa;cases xb;exact pK (PV.same r (.int _ _))
 ·cases e;cases xa;cases xb;exact vK (PV.same r (.int _ _))
 ·split at e<;>cases e
  rename_i q;cases xa;cases xb;refine qK (by omega) (PV.same r (.int _ _)) (.inl ?_);have h1:=mw (Int.le_of_lt q.2.2.1) q.2.2.2;simp only[Builtin.divisionGoesByPylong];rw[decide_eq_false (by omega)];rfl
 ·split at e<;>cases e
  cases xa;cases xb;exact tK (by assumption) (PV.same r (.int _ _))
 ·split at e<;>cases e
  rename_i q;cases xa;cases xb;exact pow_int_small q.1 (by omega) (by omega) (PV.same r (.int _ _))
 ·obtain⟨m,hn⟩:=l.ns
  rename_i xs ys;cases xa with
  |tup na ea la qa=>
  cases xb with
  |tup nb eb lb qb=>
  have e0:=e;unfold uj at e0
  split at e0
  ·rename_i hl
   cases e0;refine add_tuples (oj hn) Dg (uf ea) (uf eb) (λz=> ?_) (λ_ z=> ?_) (λ_ _ h' F' N'=> ?_) (by rw[<-qa.length,<-qb.length,Mc];omega)
   ·subst z;cases qa;exact PV.same0 r (.tup nb eb lb qb)
   ·subst z;cases qb;rw[um];exact PV.same0 r (.tup na ea la qa)
   ·exact DG r l hn F'.ns (News.keepAll1 N') (Hb _) (N' _ Ma).1 (qa.append qb) e
  ·cases e0
 ·rename_i i j
  split at e
  ·rename_i xs ys p q
   obtain⟨a',vs,m1,rfl,_,q1,la,q3⟩:=r.list p xa;obtain⟨b',us,m2,rfl,_,p1,lb,p3⟩:=r.list q xb;obtain⟨m,hn⟩:=l.ns;refine add_lists (oj hn) Dg (He q1) (He p1) (λh' F' N'=> ?_) (by rw[<-q3.length,<-p3.length,Mc];omega);exact qp r l hn F'.ns (News.keepAll1 N') (Hb _) (N' _ Ma).1 (q3.append p3) e
  ·cases e
 ·rename_i i k
  split at e
  ·rename_i x p
   split at e
   ·rename_i hk
    obtain⟨a',vs,m1,rfl,_,q1,la,q3⟩:=r.list p xa;obtain⟨m,hn⟩:=l.ns;cases q3 with
    |cons a1 a2=>
    cases a2;cases xb with
    |int _ t=>
    refine mul_list (oj hn) Dg q1 (by omega) (by omega) (by simp;omega) (λh' F' N'=> ?_);refine qp r l hn F'.ns (News.keepAll1 N') (Hb _) (vs:=Aa k.toNat _) (k:=0) ?_ (og.replicate a1 _) e;have:=(N' _ Ma).1
    simpa [Mx]using this
   ·cases e
  ·cases e
 ·cases e
end
end Mine
namespace Mine
variable [Av]
structure gm (hb:Gb) (K:Frag) (tab:gi):Prop where
 kin:K.In hb
 get:∀c n,tab.attr c n=true->findIn K (.ref c) "__getattribute__"=aa (aa (.builtin "object.__getattribute__"))/\hasDictIn K c=true/\(∃a,findIn K (.ref c) n=aa a/\noGet K a=true)
 set:∀c n,tab.attr c n=true->findIn K (.ref c) "__setattr__"=aa (aa (.builtin "object.__setattr__"))/\plainOver K c=true/\takerIn K c n=aa ba
 mods:hb.get? sysModules≠ba
 statics:hb.NoLimit
 scr:∀a xs,tab.scr a=aa xs->xs.length<=4096/\∃vs,hb.IsList a vs.toArray/\IntsAre vs xs
section
variable {w:Lb} {hb h:Gb} {L:Qa} {ρ:List Qa} {σ Ca:St} {s:Sa} {v:V} {val:ya} {A:lc} {n:Nat} {K:Frag} {tab:gi}
theorem R.kin (r:R w hb ρ σ h) (B:gm hb K tab):K.In h:=λa o e=>r.base a o (B.kin a o e)
theorem Cj (a b:Rb) (t:Tok):(ya.str a t).isStr b=decide (a=b):=by
 show(a==b)=_
 by_cases e:a=b
 ·subst e;simp
 ·simp[e]
theorem SE.find {es:List (Rb×V)} {Rd:List DictEntry} (q:SE w ρ h es Rd) (k:Rb):
 (Cg es k=ba/\Rd.find? (·.key.isStr k)=ba)\/∃x e,Cg es k=aa x/\Rd.find? (·.key.isStr k)=aa e/\VR w ρ h x e.val:=by
 induction q with
 |nil=>exact .inl ⟨rfl,rfl⟩
 | @cons k' x t v es Rd a _ ih=>
  by_cases e:k'=k
  ·subst e
   exact .inr ⟨x,⟨hashStr w k',.str k' t,v⟩,by simp[Cg],by simp[Mg,Cj],a⟩
  ·rcases ih with⟨h1,h2⟩|⟨x',e2,h1,h2,h3⟩
   ·exact .inl ⟨by simp[Cg,e,h1],by simp[Mg,Cj,e,h2]⟩
   ·exact .inr ⟨x',e2,by simp[Cg,e,h1],by simp[Mg,Cj,e,h2],h3⟩
theorem SE.noRef {es:List (Rb×V)} {Rd:List DictEntry} (q:SE w ρ h es Rd):Rd.any (·.refKey)=false:=by
 induction q with
 |nil=>rfl
 |cons a _ ih=>simp only[Po,ih,ax];rfl
theorem SE.length {es:List (Rb×V)} {Rd:List DictEntry} (q:SE w ρ h es Rd):es.length=Rd.length:=by
 induction q with
 |nil=>rfl
 |cons a _ ih=>simp[ih]
theorem SE.look {es:List (Rb×V)} {Rd:List DictEntry} {m:Nat} (q:SE w ρ h es Rd) (k:Rb):
 (Cg es k=ba/\lookIn k (dictOf Rd m)=aa ba)\/∃x y,Cg es k=aa x/\lookIn k (dictOf Rd m)=aa (aa y)/\VR w ρ h x y:=by
 rcases q.find k with⟨h1,h2⟩|⟨x,e,h1,h2,h3⟩
 ·exact .inl ⟨h1,by simp[lookIn,h2,q.noRef]⟩
 ·exact .inr ⟨x,e.val,h1,by simp[lookIn,h2],h3⟩
theorem SE.put {es:List (Rb×V)} {Rd:List DictEntry} (q:SE w ρ h es Rd) (k:Rb) {x:V} {y:ya} (t:Tok) (a:VR w ρ h x y):
 (∃i,Rd.findIdx? (·.key.isStr k)=aa i/\SE w ρ h (Nj es k x) (Rd.modify i λe=>{e with val:=y}))\/(Rd.findIdx? (·.key.isStr k)=ba/\SE w ρ h (Nj es k x) (Rd++[⟨hashStr w k,.str k t,y⟩])):=by
 induction q with
 |nil=>exact .inr ⟨rfl,.cons a .nil⟩
 | @cons k' x' t' v es Rd b q' ih=>
  by_cases e:k'=k
  ·subst e
   exact .inl ⟨0,by simp[qe,Cj],by simpa [Nj]using SE.cons a q'⟩
  ·rcases ih with⟨i,h1,h2⟩|⟨h1,h2⟩
   ·refine .inl ⟨i+1,by simp[qe,Cj,e,h1],?_⟩
    simp only[Nj,e,if_false,List.modify_succ_cons];exact .cons b h2
   ·refine .inr ⟨by simp[qe,Cj,e,h1],?_⟩
    simp only[Nj,e,if_false,wb];exact .cons b h2
theorem vq (k:Rb) (x:V):∀es:List (Rb×V),(Nj es k x).map (·.1)=if k∈es.map (·.1)then es.map (·.1)else es.map (·.1)++[k]
 | []=>rfl
 |(k',x')::es=>by
  by_cases e:k'=k
  ·subst e;simp[Nj]
  ·have:=vq k x es
   have e2:¬k=k':=λq=>e q.symm;simp only[Nj,e,if_false,sa,this,Fa,e2,false_or]
   split<;>rfl
theorem wt {k:Rb} {x:V} {es:List (Rb×V)} (d:(es.map (·.1)).Nodup):((Nj es k x).map (·.1)).Nodup:=by
 rw[vq]
 split
 ·exact d
 ·rename_i q
  rw[Zf];exact⟨d,by simp,λa ha b hb=>by rw[jb]at hb;subst hb;exactλz=>q (z▸ha)⟩
theorem ut (k:Rb) (x:V) (es:List (Rb×V)):(Nj es k x).length<=es.length+1:=by
 have:=congrArg Jk (vq k x es);rw[ja]at this;rw[this];split<;>simp
theorem Ox {x:V} {y:ya} (q:VR w ρ h x y) (hc:∀v,x≠ .con v):handedIn y=true:=by
 cases q with
 |con _=>exact absurd rfl (hc _)
 |_=>rfl
theorem R.inst (r:R w hb ρ σ h) {i c d:Nat} {es:List (Rb×V)} {val:ya} (e1:σ[i]? =aa (.inst c d)) (e2:σ[d]? =aa (.sdict es)) (x:VR w ρ h (.ref i) val):
 ∃a dx Rd m,val=.ref a/\ρ[i]? =aa a/\ρ[d]? =aa dx/\h.get? a=aa (instObj c dx)/\h.get? dx=aa (dictOf Rd m)/\SE w ρ h es Rd/\(es.map (·.1)).Nodup/\es.length<=4096/\W.InstAt h a (instObj c dx) c (aa (dictOf Rd m)):=by
 obtain⟨a,ea,dx,q1,q2⟩:=r.at e1;obtain⟨dx',ed,Rd,m,p1,p2,p3,p4⟩:=r.at e2;rw[q1]at ed;cases ed;cases x with
 |ref ea'=>rw[ea]at ea';cases ea';exact⟨a,dx,Rd,m,rfl,ea,q1,q2,p1,p2,p3,p4,⟨q2,rfl,rfl,p1⟩⟩
theorem Iz {ov:V} {o:ya} {nm:Rb} {ex:Bool} (B:gm hb K tab) (r:R w hb ρ σ s.heap) (xo:VR w ρ s.heap ov o) (e:yc tab ov nm σ=aa v):
 Wa (Fb pg w) A (getAttr o nm ex) (PV w hb L ρ s σ v) No s:=by
 unfold yc at e
 split at e
 ·rename_i i
  split at e
  ·rename_i c d e1
   split at e
   ·rename_i es e2
    split at e
    ·rename_i ha
     obtain⟨a,dx,Rd,m,rfl,_,_,_,_,p2,_,_,I⟩:=r.inst e1 e2 xo;obtain⟨g1,g2,a',g3,g4⟩:=B.get _ _ ha;rcases p2.look (m:=m) nm with⟨h1,h2⟩|⟨x,y,h1,h2,h3⟩
     ·rw[h1]at e;cases e
     ·rw[h1]at e
      have hc:∀v,x≠ .con v:=λv q=>by subst q;cases e
      have e':x=v:=by cases x<;>simp_all
      subst e';exact get_value (r.kin B) I g1 (findObj_own g2 g3 g4 h2) (Ox h3 hc) (PV.same r h3)
    ·cases e
   ·cases e
  ·cases e
 ·cases e
theorem gF {l:List (Qa×Obj)} (hp:l.Pairwise λp q=>p.1≠q.1) {p:Qa×Obj} (m:p∈l):∃pre post,l=pre++p::post/\(∀q∈pre,q.1≠p.1)/\(∀q∈post,q.1≠p.1):=by
 obtain⟨pre,post,rfl⟩:=List.append_of_mem m;rw[zn]at hp;exact⟨pre,post,rfl,λq hq=>hp.2.2 q hq p Ma,λq hq=>((Kf.mp hp.2.1).1 q hq).symm⟩
theorem nA {ov:V} {o:ya} {nm:Rb} {x:V} {y:ya} (B:gm hb K tab) (r:R w hb ρ σ s.heap) (l:qu hb L ρ s.heap) (xo:VR w ρ s.heap ov o) (xv:VR w ρ s.heap x y) (e:ye tab ov nm x σ=aa Ca):
 Wa (Fb pg w) A (setAttr o nm y) (λ_=>PS w hb L ρ s Ca) No s:=by
 unfold ye at e
 split at e
 ·rename_i i
  split at e
  ·rename_i c d e1
   split at e
   ·rename_i es e2
    split at e
    ·rename_i ha
     cases e;simp only[La,yh]at ha;obtain⟨a,dx,Rd,m,rfl,_,ed,hx,hd,p2,p3,p4,I⟩:=r.inst e1 e2 xo;obtain⟨g1,g2,g3⟩:=B.set _ _ ha.1;obtain⟨_,g5,_⟩:=B.get _ _ ha.1;obtain⟨mm,hn⟩:=l.ns;have hdL:dx≠L:=λq=>l.out (q▸ma ed);obtain⟨pre,post,e0,q1,q2⟩:=gF Bp (Pe.mpr ⟨hdL,hd⟩);have hl:(lookIn nm (dictOf Rd m)).isSome=true:=by
      rcases p2.look (m:=m) nm with⟨_,h2⟩|⟨_,_,_,h2,_⟩<;>rw[h2]<;>rfl
     have hp:∃Ps m',Obj.putName nm (GF w.params nm) (.str nm (s.toks+1)) y (dictOf Rd m)=dictOf Ps m'/\SE w ρ s.heap (Nj es nm x) Ps:=by
      rw[Obj.putName_eq];rcases p2.put nm (s.toks+1) xv with⟨i,h1,h2⟩|⟨h1,h2⟩
      ·exact⟨_,m,by simp only[zD,oz,h1];simp,h2⟩
      ·refine⟨_,m+1,by simp only[zD,oz,h1];rfl,?_⟩
       rw[show GF w.params nm=hashStr w nm from rfl]
       simpa using h2
     obtain⟨Ps,m',hput,hse⟩:=hp;have N:=Dg (h:=s.heap) (L:=L);rw[e0]at N;refine set_plain (r.kin B) I g1 ?_;refine osa_dict (s:={s with toks:=s.toks+1}) (pre:=pre) (post:=post) (od':=dictOf Ps m') (oj hn) N (r.kin B) I rfl g2 g3 g5 hl q1 q2 hput rfl ?_ ?_
     ·rw[<-hse.length]
      have:=ut nm x es;omega
     ·intro h' F' N'
      have Sq:∀b z,b≠L->b≠dx->s.heap.get? b=aa z->h'.get? b=aa z:=λb z n1 n2 e=>by
       have hm:(b,z)∈pre++(dx,dictOf Rd m)::post:=by rw[<-e0];exact Pe.mpr ⟨n1,e⟩
       refine(N' (b,z) ?_).1;rcases db.mp hm with q|q
       ·exact Xf _ q
       ·rcases Fa.mp q with q|q
        ·cases q;exact absurd rfl n2
        ·exact Vi _ (Ia _ q)
      have Sm:∀b z,s.heap.get? b=aa z->bh z->h'.get? b=aa z:=λb z e im=>Sq b z (λq=>by subst q;exact mh hn e im) (λq=>by subst q;rw[hd]at e;cases e;simp[bh]at im) e;obtain⟨r',k⟩:=r.updL l (o:=.sdict (Nj es nm x)) ed hn F'.ns Sq ⟨Ps,m',(N' _ (Vi _ Ma)).1,hse.mono (Ha _) Sm,wt p3,by have:=ut nm x es;omega⟩;exact⟨_,h',_,rfl,k,r'⟩
    ·cases e
   ·cases e
  ·cases e
 ·cases e
end
end Mine
namespace Mine
variable [Av]
section
variable {w:Lb} {hb h:Gb} {L:Qa} {ρ:List Qa} {σ Ca:St} {s:Sa} {v:V} {val:ya} {A:lc} {n:Nat} {K:Frag} {tab:gi}
theorem SE.pairs {es:List (Rb×V)} {Rd:List DictEntry} (q:SE w ρ h es Rd):
 ∃kvs,Pairs (ff pg w) Rd kvs/\kvs.map (·.1)=es.map (·.1)/\og w ρ h (es.map (·.2)) (kvs.map (·.2))/\∀e∈Rd,∃k,(ff pg w).is k e.key=true/\e.hash=(ff pg w).hash k:=by
 induction q with
 |nil=>exact⟨[],.nil,rfl,.nil,λe he=>by cases he⟩
 | @cons k x t v es Rd a _ ih=>
  obtain⟨kvs,p1,p2,p3,p4⟩:=ih;have hk:(ff pg w).is k (.str k t)=true:=by show dj k (.str k t)=true;simp[dj]
  refine⟨(k,v)::kvs,.cons hk rfl p1,by simp[p2],.cons a p3,λe he=> ?_⟩;rcases Fa.mp he with q|q
  ·subst q;exact⟨k,hk,rfl⟩
  ·exact p4 e q
theorem Zx {k:Rb} {y:ya} (e:dj k y=true):∃t,y=.str k t:=by
 cases y<;>simp[dj]at e;subst e;exact⟨_,rfl⟩
theorem gK {es:List (Rb×V)}:∀{Rd:List DictEntry} {kvs:List (Rb×ya)},Pairs (ff pg w) Rd kvs->kvs.map (·.1)=es.map (·.1)->og w ρ h (es.map (·.2)) (kvs.map (·.2))->
 (∀e∈Rd,∃k,(ff pg w).is k e.key=true/\e.hash=(ff pg w).hash k)->SE w ρ h es Rd:=by
 induction es with
 |nil=>intro Rd kvs p e1 e2 _;cases kvs with
  |nil=>cases p;exact .nil
  |cons _ _=>simp at e1
 |cons p es ih=>
  intro Rd kvs q e1 e2 e3;obtain⟨k,x⟩:=p;cases kvs with
  |nil=>simp at e1
  |cons kv kvs=>
   obtain⟨k',y⟩:=kv;simp only[sa,Jf]at e1;obtain⟨rfl,e1⟩:=e1;cases q with
   | @cons e _ es' _ a b c=>
    cases e2 with
    |cons e2 e2'=>
    obtain⟨hsh,key,val⟩:=e
    dsimp only at a b
    subst b;obtain⟨k2,z1,z2⟩:=e3 _ Ma;have:k2=k':=ya.isStrOf_inj _ _ _ z1 a;subst this;obtain⟨t,rfl⟩:=Zx a
    dsimp only at z2
    subst z2;exact .cons e2 (ih c e1 e2' λe he=>e3 e (Ia _ he))
theorem SE.isDict {es:List (Rb×V)} {Rd:List DictEntry} {m:Nat} (q:SE w ρ h es Rd) (d:(es.map (·.1)).Nodup):
 ∃kvs,(dictOf Rd m).IsDictOf (ff pg w) kvs/\kvs.map (·.1)=es.map (·.1)/\og w ρ h (es.map (·.2)) (kvs.map (·.2)):=by
 obtain⟨kvs,p1,p2,p3,p4⟩:=q.pairs;exact⟨kvs,⟨Rd.toArray,m,⟨rfl,rfl,rfl⟩,rfl,λe he=>p4 e (by simpa using he),by simpa using p1,by rw[p2];exact d⟩,p2,p3⟩
theorem RA {o:Obj} {kvs:List (Rb×ya)} {es:List (Rb×V)} (q:o.IsDictOf (ff pg w) kvs) (e1:kvs.map (·.1)=es.map (·.1)) (e2:og w ρ h (es.map (·.2)) (kvs.map (·.2))):
 ∃Rd m,o=dictOf Rd m/\SE w ρ h es Rd:=by
 obtain⟨es',m,⟨c1,c2,c3⟩,d,k,p,_⟩:=q;obtain⟨cls,dict,data,slots⟩:=o
 dsimp only at c1 c2 c3 d
 subst c1 c2 c3 d;exact⟨es'.toList,m,by simp,gK p e1 e2 λe he=>k e (by simpa using he)⟩
theorem kt {es:List (Rb×V)} {kvs:List (Rb×ya)} (hk:kvs.map (·.1)=es.map (·.1)) (hv:og w ρ h (es.map (·.2)) (kvs.map (·.2))) (k:Rb):
 (Cg es k=ba/\valueAt kvs k=ba)\/∃x val,Cg es k=aa x/\valueAt kvs k=aa val/\VR w ρ h x val:=by
 induction es generalizing kvs with
 |nil=>cases kvs with
  |nil=>exact .inl ⟨rfl,rfl⟩
  |cons _ _=>simp at hk
 |cons p es ih=>
  cases kvs with
  |nil=>simp at hk
  |cons q kvs=>
   obtain⟨pk,pv⟩:=p;obtain⟨qk,qv⟩:=q;simp only[sa,Jf]at hk hv;obtain⟨rfl,hk⟩:=hk;cases hv with
   |cons a b=>
    by_cases e:qk=k
    ·subst e
     exact .inr ⟨pv,qv,by simp[Cg],by simp[valueAt],a⟩
    ·rcases ih hk b with⟨h1,h2⟩|⟨x,val,h1,h2,h3⟩
     ·exact .inl ⟨by simp[Cg,e,h1],by simp only[valueAt,Mg,e,decide_false]at h2|-;exact h2⟩
     ·exact .inr ⟨x,val,by simp[Cg,e,h1],by simp only[valueAt,Mg,e,decide_false]at h2|-;exact h2,h3⟩
theorem Mt {α:Type} [DecidableEq α] (put:List (α×V)->α->V->List (α×V)) (h0:∀k x,put [] k x=[(k,x)]) (h1:∀k' x' r k x,put ((k',x')::r) k x=if k'=k then(k,x)::r else(k',x')::put r k x)
 {k:α} {x:V} {y:ya} (a:VR w ρ h x y):∀{es:List (α×V)} {kvs:List (α×ya)},(kvs.map (·.1)).Nodup->kvs.map (·.1)=es.map (·.1)->og w ρ h (es.map (·.2)) (kvs.map (·.2))->
 (stored kvs k y).map (·.1)=(put es k x).map (·.1)/\og w ρ h ((put es k x).map (·.2)) ((stored kvs k y).map (·.2)):=by
 intro es
 induction es with
 |nil=>intro kvs _ e1 e2;cases kvs with
  |nil=>simp only[stored,h0];exact⟨rfl,.cons a .nil⟩
  |cons _ _=>simp at e1
 |cons p es ih=>
  intro kvs nd e1 e2;obtain⟨k1,x1⟩:=p;cases kvs with
  |nil=>simp at e1
  |cons kv kvs=>
   obtain⟨k',y'⟩:=kv;simp only[sa,Jf]at e1;obtain⟨rfl,e1⟩:=e1;rw[sa,Gc]at nd;cases e2 with
   |cons e2 e2'=>
   obtain⟨i1,i2⟩:=ih nd.2 e1 e2';rw[h1]
   by_cases e:k'=k
   ·subst e
    rw[if_pos rfl];have hn:kvs.map (λkv=>if kv.1=k' then(kv.1,y)else kv)=kvs:=by
     conv=>rhs;rw[<-List.map_id kvs]
     refine Af λkv hkv=> ?_;rw[if_neg];rfl;intro q;exact nd.1 (Bb.mpr ⟨kv,hkv,q⟩)
    simp only[stored,Po,decide_true,Bool.true_or,if_true,sa,hn];exact⟨by rw[e1],.cons a e2'⟩
   ·rw[if_neg e]
    have:stored ((k',y')::kvs) k y=(k',y')::stored kvs k y:=by
     simp only[stored,Po,e,decide_false,Zw,sa,if_false,wb]
     split<;>rfl
    rw[this];exact⟨by simp[i1],.cons e2 i2⟩
theorem Kv (k:Int) (x:V):∀es:List (Int×V),(Nl es k x).length<=es.length+1
 | []=>by simp[Nl]
 |(k',x')::es=>by
  have:=Kv k x es
  by_cases e:k'=k
  ·subst e;simp[Nl]
  ·simp only[Nl,e,if_false,cb];omega
theorem Kr {xs:List V} {k:Int} {x:V} (e:tG xs k=aa x):∃j,seqIndex? k xs.length=aa j/\xs[j]? =aa x/\(0<=k->j=k.toNat)/\(k<0-> -(xs.length:Int)<=k/\j=(k+xs.length).toNat):=by
 unfold tG at e
 split at e
 ·rename_i h0
  have:=(ca.mp e).1;exact⟨k.toNat,by simp[seqIndex?,NK.mpr h0];omega,e,λ_=>rfl,λh=>by omega⟩
 ·split at e
  ·rename_i h0 h1
   have:=(ca.mp e).1;exact⟨(k+xs.length).toNat,by simp[seqIndex?,Int.not_le.mp h0];omega,e,λh=>by omega,λ_=>⟨h1,rfl⟩⟩
  ·cases e
theorem lk (k:Int) (t:Tok):(intKind pg w).is k (.int k t)=true:=by show ii k (.int k t)=true;simp[ii]
theorem Zi (k:Rb) (t:Tok):(ff pg w).is k (.str k t)=true:=by show dj k (.str k t)=true;simp[dj]
theorem aJ {value slice:Expr} {ov iv:V} {o i:ya} (r:R w hb ρ σ s.heap) (xo:VR w ρ s.heap ov o) (xi:VR w ρ s.heap iv i) (e:Qe ov iv σ=aa v)
 (hs:subscripted slice false o i=operate [o,i] (getItem o i)):Wa (Fb pg w) A (subscriptTail value slice o i) (PV w hb L ρ s σ v) No s:=by
 refine kba_turn (value':=.Name "x" default) (λ_=>rfl) ?_;unfold Qe at e
 split at e
 ·rename_i xs k
  obtain⟨j,j1,j2,j3,j4⟩:=Kr e;cases xi with
  |int _ t=>
  cases xo with
  |tup nav eo lo qo=>
  obtain⟨y,y1,y2⟩:=qo.get j2;have hj:=(ca.mp j2).1;have hb: -(2^63:Int)<=k/\k<2^63:=by
   by_cases h0:0<=k
   ·have:=j3 h0;omega
   ·have:=j4 (by omega);omega
  refine subscriptTail_builtin (T:="tuple") (id:="tuple.__getitem__") ⟨_,eo,rfl⟩ ?_ (Qp (uf eo) hb.1 hb.2 (by rw[gb,<-qo.length];exact j1) (by simpa using y1) (PV.same0 r y2)) hs;exact PySem.F.slot_tuple_getitem.lookup
 ·rename_i i' k
  cases xi with
  |int _ t=>
  split at e
  ·rename_i xs q
   obtain⟨j,j1,j2,j3,j4⟩:=Kr e;obtain⟨a,vs,m,rfl,_,q1,lx,q3⟩:=r.list (by unfold listAt;rw[q]) xo;obtain⟨y,y1,y2⟩:=q3.get j2;have hj:=(ca.mp j2).1;refine subscriptTail_builtin (T:="list") (id:="list.__getitem__") ⟨_,q1,rfl⟩ ?_ ?_ hs
   ·exact PySem.F.slot_list_getitem.lookup
   ·by_cases h0:0<=k
    ·exact wpAny_getItem_list (He q1) h0 (by have:=j3 h0;omega) (by rw[<-j3 h0];simpa using y1) (PV.same0 r y2)
    ·obtain⟨g1,g2⟩:=j4 (by omega)
     exact wpAny_getItem_list_neg (He q1) (by omega) (by rw[gb,<-q3.length];exact g1) (by omega) (by rw[gb,<-q3.length,<-g2];simpa using y1) (PV.same0 r y2)
  ·rename_i es q
   obtain⟨a,ea,o',kvs,q1,q2,q3,q4,q5⟩:=r.at q;cases xo with
   |ref eb=>
   rw[ea]at eb;cases eb;rcases Kl q3 q4 k with⟨h1,h2⟩|⟨x,y,h1,h2,h3⟩
   ·rw[h1]at e;cases e
   ·rw[h1]at e;cases e
    refine subscriptTail_builtin (T:="dict") (id:="dict.__getitem__") ⟨_,q1,q2.choose_spec.choose_spec.1.1⟩ ?_ (wpAny_getItem_of (lk k t) (lp q1 q2) h2 (PV.same r h3)) hs;exact slot_dict_getitem.lookup
  ·cases e
 ·rename_i i' k
  cases xi with
  |str _ t=>
  split at e
  ·rename_i es q
   obtain⟨a,ea,Rd,m,q1,q2,q3,q4⟩:=r.at q;obtain⟨kvs,d1,d2,d3⟩:=q2.isDict (m:=m) q3;cases xo with
   |ref eb=>
   rw[ea]at eb;cases eb;rcases kt d2 d3 k with⟨h1,h2⟩|⟨x,y,h1,h2,h3⟩
   ·rw[h1]at e;cases e
   ·rw[h1]at e;cases e
    refine subscriptTail_builtin (T:="dict") (id:="dict.__getitem__") ⟨_,q1,rfl⟩ ?_ (wpAny_getItem_of (Zi k t) ((vf.mpr ⟨_,q1,d1⟩).mapOf) h2 (PV.same r h3)) hs;exact slot_dict_getitem.lookup
  ·cases e
 ·cases e
theorem TB {a:Qa} {items:Array ya} {m:Nat} (f:Array ya->Array ya) (e:h.get? a=aa (listOf items m)):∃m',(h.update a (gj f)).get? a=aa (listOf (f items) m'):=by
 have:=qd (gj f) e (by rfl);exact⟨_,this⟩
theorem Mv {ov iv x:V} {o i y:ya} (r:R w hb ρ σ s.heap) (l:qu hb L ρ s.heap) (xo:VR w ρ s.heap ov o) (xi:VR w ρ s.heap iv i) (xv:VR w ρ s.heap x y) (e:Cd ov iv x σ=aa Ca):
 Wa (Fb pg w) A (setItem o i y) (λ_=>PS w hb L ρ s Ca) No s:=by
 unfold Cd at e
 split at e
 ·rename_i i' k
  cases xi with
  |int _ t=>
  split at e
  ·rename_i xs q
   obtain⟨a,vs,m,rfl,ea,q1,lx,q3⟩:=r.list (by unfold listAt;rw[q]) xo;have go:∀j:Nat,j<xs.length->Ca=σ.set i' (.list (xs.set j x))->∀h',(∃m',h'.get? a=aa (listOf (vs.toArray.setIfInBounds j y) m'))->Hg a s.heap h'->PS w hb L ρ s Ca {s with heap:=h'}:=by
    rintro j hj rfl h' ⟨m',e'⟩ sb
    have hi:∀b z,s.heap.get? b=aa z->bh z->h'.get? b=aa z:=λb z e im=>(sb.2 b (λq=>by subst q;rw[q1]at e;cases e;simp[bh]at im)).trans e;obtain⟨r',k⟩:=r.upd' (L:=L) ea sb (o:=.list (xs.set j x)) ⟨vs.set j y,m',by simpa using e',by simpa using lx,(q3.set j xv).mono (Ha _) hi⟩ l.out;exact⟨ρ,h',s.toks,rfl,k,r'⟩
   split at e
   ·rename_i h0
    split at e<;>cases e
    rename_i h1;refine ki_setAt q1 h0 (by omega) (by rw[gb,<-q3.length];exact h1) ?_;exact go k.toNat (by omega) rfl _ (TB _ q1) (pe ..)
   ·split at e<;>cases e
    rename_i h0 h1;refine ki_setBack q1 (by omega) (by rw[gb,<-q3.length];exact h1) (by omega) ?_;refine go (k+xs.length).toNat (by omega) rfl _ ?_ (pe ..);have:=TB (λz=>z.setIfInBounds (k+vs.toArray.size).toNat y) q1;rw[gb,<-q3.length]at this|-;exact this
  ·rename_i es q
   split at e<;>cases e
   rename_i hl;have bo:es.length<4096:=by simpa [xh]using hl
   obtain⟨a,ea,o',kvs,q1,q2,q3,q4,q5⟩:=r.at q;cases xo with
   |ref eb=>
   rw[ea]at eb;cases eb;have hlen:kvs.length=es.length:=by have:=congrArg Jk q3;simpa using this
   refine wpAny_setItem_pairs (lk k t) (vf.mpr ⟨o',q1,q2⟩) (λh' hd sb=> ?_) (by rw[hlen,Mc];omega);obtain⟨o2,e2,d2⟩:=vf.mp hd;have hi:∀b z,s.heap.get? b=aa z->bh z->h'.get? b=aa z:=λb z e im=>(sb.2 b (λq=>by
    subst q;rw[q1]at e;cases e;obtain⟨_,_,_,dd,_⟩:=q2;simp[bh,dd]at im)).trans e
   obtain⟨s1,s2⟩:=Mt Nl (λ_ _=>rfl) (λk' x' r k x=>by simp only[Nl];split<;>simp_all) xv q2.choose_spec.choose_spec.2.2.2.2 q3 q4 (k:=k);obtain⟨r',kx⟩:=r.upd' (L:=L) ea sb (o:=.idict (Nl es k x)) ⟨o2,_,e2,d2,s1,s2.mono (Ha _) hi,by have:=Kv k x es;omega⟩ l.out;exact⟨ρ,h',_,rfl,kx,r'⟩
  ·cases e
 ·rename_i i' k
  cases xi with
  |str _ t=>
  split at e
  ·rename_i es q
   split at e<;>cases e
   rename_i hl;have bo:es.length<4096:=by simpa [xh]using hl
   obtain⟨a,ea,Rd,m,q1,q2,q3,q4⟩:=r.at q;obtain⟨kvs,d1,d2,d3⟩:=q2.isDict (m:=m) q3;cases xo with
   |ref eb=>
   rw[ea]at eb;cases eb;have hlen:kvs.length=es.length:=by have:=congrArg Jk d2;simpa using this
   refine wpAny_setItem_pairs (Zi k t) (vf.mpr ⟨_,q1,d1⟩) (λh' hd sb=> ?_) (by rw[hlen,Mc];omega);obtain⟨o2,e2,Uo⟩:=vf.mp hd;have hi:∀b z,s.heap.get? b=aa z->bh z->h'.get? b=aa z:=λb z e im=>(sb.2 b (λq=>by
    subst q;rw[q1]at e;cases e;simp[bh]at im)).trans e
   obtain⟨s1,s2⟩:=Mt Nj (λ_ _=>rfl) (λk' x' r k x=>by simp only[Nj];split<;>simp_all) xv d1.choose_spec.choose_spec.2.2.2.2 d2 d3 (k:=k);obtain⟨Ps,m',rfl,hse⟩:=RA Uo s1 s2;obtain⟨r',kx⟩:=r.upd' (L:=L) ea sb (o:=.sdict (Nj es k x)) ⟨Ps,m',e2,hse.mono (Ha _) hi,wt q3,by have:=ut k x es;omega⟩ l.out;exact⟨ρ,h',_,rfl,kx,r'⟩
  ·cases e
 ·cases e
end
end Mine
namespace Mine
variable [Av]
section
variable {w:Lb} {hb h:Gb} {L:Qa} {ρ:List Qa} {σ Ca:St} {s:Sa} {v:V} {val:ya} {A:lc} {n:Nat} {K:Frag} {tab:gi}
theorem PV.grow {h':Gb} {tk:Nat} {x:V} {y:ya} (r:R w hb ρ σ s.heap) (hk:∀a o,s.heap.get? a=aa o->h'.get? a=aa o) (q:VR w ρ h' x y):PV w hb L ρ s σ x y {s with heap:=h',toks:=tk}:=
 ⟨ρ,h',tk,rfl,KX.grow hk,r.grow hk,q⟩
theorem Ev {vs:List ya} {xs:List V} {a:Qa} {k:Nat} {h':Gb} {tk':Nat} (r:R w hb ρ σ s.heap) (hk:∀b x,s.heap.get? b=aa x->h'.get? b=aa x)
 (ha:s.heap.get? a=ba) (ho:h'.get? a=aa (listOf vs.toArray k)) (x:og w ρ s.heap xs vs) (e:newL xs σ=aa (v,Ca)):
 PV w hb L ρ s Ca v (.ref a) {s with heap:=h',toks:=tk'}:=by
 unfold newL at e
 split at e
 ·cases e
  rename_i hl;have bo:xs.length<4096:=by simpa [xh]using hl
  obtain⟨r',k⟩:=r.new' (L:=L) (a:=a) (o:=.list xs) hk ha ⟨vs,_,ho,by omega,x.mono (dc _ _) λa o e _=>hk a o e⟩;exact⟨_,_,tk',rfl,k,r',.ref (by rw[<-r.len];simp)⟩
 ·cases e
theorem Fv {vs:List ya} {xs:List V} {a:Qa} {k:Nat} {h':Gb} {tk':Nat} (r:R w hb ρ σ s.heap) (hk:∀b x,s.heap.get? b=aa x->h'.get? b=aa x)
 (ha:s.heap.get? a=ba) (ho:h'.get? a=aa (Jp vs k)) (x:og w ρ s.heap xs vs) (e:uj xs σ=aa (v,Ca)):
 PV w hb L ρ s Ca v (.ref a) {s with heap:=h',toks:=tk'}:=by
 unfold uj at e
 split at e
 ·cases e
  rename_i hl;have bo:xs.length<4096:=by simpa [xh]using hl
  exact PV.grow r hk (.tup (r.notAv ha) ho (by omega) (x.mono (Ha _) λa o e _=>hk a o e))
 ·cases e
theorem rk {h h':Gb} {a:Qa} (hk:∀b x,h.get? b=aa x->h'.get? b=aa x) (e:h'.get? a=ba):h.get? a=ba:=by
 cases q:h.get? a with
 |none=>rfl
 |some o=>rw[hk a o q]at e;cases e
theorem Tq {vs:List ya} {is:List Int} (x:IntsAre vs is):vs.length=is.length:=by
 induction x with
 |nil=>rfl
 |cons _ _ _ ih=>simp[ih]
theorem fy {i:Nat} {xs:List V} {o:ya} (r:R w hb ρ σ s.heap) (e:listAt σ i=aa xs) (x:VR w ρ s.heap (.ref i) o):
 Wa (Fb pg w) A (call (.builtin "len") [o]) (PV w hb L ρ s σ (.int xs.length)) No s:=by
 obtain⟨a,vs,m,rfl,_,q1,q2,q3⟩:=r.list e x;refine call_len_list (He q1) (by rw[gb,<-q3.length];omega) ?_;rw[gb,<-q3.length];exact PV.same r (.int _ _)
theorem Xz {xs:List V} {o:ya} (r:R w hb ρ σ s.heap) (x:VR w ρ s.heap (.tup xs) o):
 Wa (Fb pg w) A (call (.builtin "len") [o]) (PV w hb L ρ s σ (.int xs.length)) No s:=by
 cases x with
 | @tup a _ vs m na e l q=>
 refine sK (uf e) (by rw[gb,<-q.length];omega) ?_;rw[gb,<-q.length];exact PV.same r (.int _ _)
theorem PC {b:Int} {o:ya} (r:R w hb ρ σ s.heap) (x:VR w ρ s.heap (.int b) o):
 Wa (Fb pg w) A (call (.type "range") [o]) (PV w hb L ρ s σ (.rng 0 b)) No s:=by
 cases x;exact call_range_1 (PV.grow r (λa o e=>Da _ e) (.rng (Pa _ rfl)))
theorem QC {a b:Int} {o p:ya} (r:R w hb ρ σ s.heap) (x:VR w ρ s.heap (.int a) o) (y:VR w ρ s.heap (.int b) p):
 Wa (Fb pg w) A (call (.type "range") [o,p]) (PV w hb L ρ s σ (.rng a b)) No s:=by
 cases x;cases y;exact call_range_2 (PV.grow r (λa o e=>Da _ e) (.rng (Pa _ rfl)))
theorem NI {a b:Int} {o p:ya} (AK:yi n A) (r:R w hb ρ σ s.heap) (x:VR w ρ s.heap (.int a) o) (y:VR w ρ s.heap (.int b) p):
 Wa (Fb pg w) A (call (.builtin "max") [o,p]) (PV w hb L ρ s σ (.int (max a b))) No s:=by
 cases x;cases y;refine max_two_ints AK.hh λh' tk hk=>PV.grow r hk ?_
 split
 ·rw[show max a b=b from by omega];exact .int _ _
 ·rw[show max a b=a from by omega];exact .int _ _
theorem OI {a b:Int} {o p:ya} (AK:yi n A) (r:R w hb ρ σ s.heap) (x:VR w ρ s.heap (.int a) o) (y:VR w ρ s.heap (.int b) p):
 Wa (Fb pg w) A (call (.builtin "min") [o,p]) (PV w hb L ρ s σ (.int (min a b))) No s:=by
 cases x;cases y;refine min_two_ints AK.hh λh' tk hk=>PV.grow r hk ?_
 split
 ·rw[show min a b=b from by omega];exact .int _ _
 ·rw[show min a b=a from by omega];exact .int _ _
theorem bJ {i:Nat} {xs:List V} {is:List Int} {o:ya} (AK:yi n A) (r:R w hb ρ σ s.heap) (e:listAt σ i=aa xs) (ei:Qg xs=aa is) (x:VR w ρ s.heap (.ref i) o):
 Wa (Fb pg w) A (call (.builtin "sum") [o]) (PV w hb L ρ s σ (.int is.sum)) No s:=by
 obtain⟨a,vs,m,rfl,_,q1,q2,q3⟩:=r.list e x;have hi:=Mi ei q3;obtain⟨ps,hp⟩:=hi.allInts.items;have hl:=He q1;rw[hp]at hl;refine sum_intListG AK.hh hl λh' tk t' hk=>PV.grow r hk ?_;have hn:=nums_intItems ps;rw[<-hp]at hn;have:preSum (numAt ps) ps.size=is.sum:=by
  rw[preSum_eq,<-hn,show vs.toArray.toList=vs from rfl,hi.numsOf,dm];have:=Tq hi;have h2:=congrArg Array.size hp;simp[intItems]at h2;omega
 rw[this];exact .int _ _
theorem Yw {xs:List V} {o:ya} (r:R w hb ρ σ s.heap) (x:VR w ρ s.heap (.tup xs) o) (e:uj xs σ=aa (v,Ca)):
 Wa (Fb pg w) A (call (.type "tuple") [o]) (PV w hb L ρ s Ca v) No s:=by
 unfold uj at e
 split at e<;>cases e
 cases x with
 | @tup a _ vs m na e l q=>exact call_tuple_tup (uf e) (PV.same0 r (.tup na e l q))
theorem Nu {i:Nat} {xs:List V} {o:ya} (r:R w hb ρ σ s.heap) (e:listAt σ i=aa xs) (x:VR w ρ s.heap (.ref i) o) (en:uj xs σ=aa (v,Ca)):
 Wa (Fb pg w) A (call (.type "tuple") [o]) (PV w hb L ρ s Ca v) No s:=by
 obtain⟨a,vs,m,rfl,_,q1,q2,q3⟩:=r.list e x;refine call_tuple_list (He q1) (λh' hk=> ?_) (by rw[gb,<-q3.length,Mc];omega);exact Fv (vs:=vs) (k:=0) (tk':=s.toks) r (λb x e=>Da _ (hk b x e)) (rk hk (Hb h')) (Pa _ rfl) q3 en
theorem iy {xs:List V} {o:ya} (r:R w hb ρ σ s.heap) (x:VR w ρ s.heap (.tup xs) o) (e:newL xs σ=aa (v,Ca)):
 Wa (Fb pg w) A (call (.type "list") [o]) (PV w hb L ρ s Ca v) No s:=by
 cases x with
 | @tup a _ vs m nav e' l q=>
 refine call_list_seq a (T:="tuple") (.inr rfl) e' rfl rfl (λh' c' hk ho=> ?_) (by rw[gb,<-q.length,Mc];omega);exact Ev (tk':=s.toks) r hk (Hb _) ho q e
theorem Hl (x:Int):∀l,(vg x l).Perm (x::l)
 | []=>.refl _
 |y::r=>by
  unfold vg
  split
  ·exact .refl _
  ·exact((Hl x r).cons y).trans (.swap x y r)
theorem Ht:∀l,(Gg l).Perm l
 | []=>.refl _
 |x::r=>(Hl x _).trans ((Ht r).cons x)
theorem Jm (x:Int):∀l:List Int,l.Pairwise (· <= ·)->(vg x l).Pairwise (· <= ·)
 | [],_=>by simp[vg]
 |y::r,h=>by
  unfold vg;rw[Kf]at h
  split
  ·rename_i q
   refine Kf.mpr ⟨λz hz=> ?_,Kf.mpr h⟩;rcases Fa.mp hz with e|e
   ·omega
   ·have:=h.1 z e;omega
  ·refine Kf.mpr ⟨λz hz=> ?_,Jm x r h.2⟩
   rcases Fa.mp ((Hl x r).mem_iff.mp hz)with e|e
   ·omega
   ·exact h.1 z e
theorem Gp:∀l:List Int,(Gg l).Pairwise (· <= ·)
 | []=>.nil
 |x::r=>Jm x _ (Gp r)
theorem Fp {l l':List Int} (p:l'.Perm l) (q:l'.Pairwise (· <= ·)):l'=Gg l:=
 vL (le:=(· <= ·)) (λa b _ _ h1 h2=>by omega) q (Gp l) (p.trans (Ht l).symm)
theorem Kt {i:Nat} {xs:List V} {is:List Int} {o:ya} (r:R w hb ρ σ s.heap) (l:qu hb L ρ s.heap) (e:listAt σ i=aa xs) (ei:Qg xs=aa is) (x:VR w ρ s.heap (.ref i) o) (hlen:is.length<60)
 (en:newL ((Gg is).map V.int) σ=aa (v,Ca)):Wa (Fb pg w) A (call (.builtin "sorted") [o]) (PV w hb L ρ s Ca v) No s:=by
 obtain⟨a,vs,m,rfl,_,q1,q2,q3⟩:=r.list e x;have hi:=Mi ei q3;obtain⟨mm,hn⟩:=l.ns;refine sorted_N (oj hn) Dg (He q1) hi (by rw[Tq hi];omega) λh' vs' ns' e' F' N' i' p' o'=> ?_;have:=Fp p' o';subst this;have hg:s.heap.get? (s.heap.objs.size+1)=ba:=by
  cases q:s.heap.get? (s.heap.objs.size+1)with
  |none=>rfl
  |some _=>exact absurd (Wb q) (fj.mpr (wi _))
 exact qp (tk':=s.toks) r l hn F'.ns (News.keepAll1 N') hg (N' _ Ma).1 (au i') en
theorem ip {kvs:List (Int×ya)}:∀{vs:List ya},vs.length=kvs.length->(∀(j:Nat) (v:ya),vs[j]? =aa v->∃k x,kvs[j]? =aa (k,x)/\(intKind pg w).is k v=true)->IntsAre vs (kvs.map (·.1)):=by
 induction kvs with
 |nil=>intro vs e _;cases vs with
  |nil=>exact .nil
  |cons _ _=>simp at e
 |cons kv kvs ih=>
  intro vs e hp;cases vs with
  |nil=>simp at e
  |cons v vs=>
   obtain⟨k,x,h1,h2⟩:=hp 0 v rfl;simp at h1;subst h1;have h2':ii k v=true:=h2;cases v<;>simp[ii]at h2';subst h2';exact .cons _ _ (ih (by simpa using e) λj v q=>hp (j+1) v (by simpa using q))
theorem Jt {i:Nat} {es:List (Int×V)} {o:ya} (AK:yi n A) (hm:hb.get? sysModules≠ba) (r:R w hb ρ σ s.heap) (l:qu hb L ρ s.heap) (e:σ[i]? =aa (.idict es)) (x:VR w ρ s.heap (.ref i) o) (hlen:es.length<60)
 (en:newL ((Gg (es.map (·.1))).map V.int) σ=aa (v,Ca)):Wa (Fb pg w) A (call (.builtin "sorted") [o]) (PV w hb L ρ s Ca v) No s:=by
 obtain⟨a,ea,o',kvs,q1,q2,q3,q4,q5⟩:=r.at e;cases x with
 |ref eb=>
 rw[ea]at eb;cases eb;obtain⟨mm,hn⟩:=l.ns;obtain⟨es',ep,d⟩:=q2;have hlen':kvs.length=es.length:=by have:=congrArg Jk q3;simpa using this
 refine kdu_sorted (kdl_dict (knd:=intKind pg w) (kvs:=kvs) (ep:=ep) (r.notMods hm (ma ea))) AK.hh (oj hn) Dg ⟨o',es',q1,d⟩ (by rw[hlen',Mc];omega) λD h' tk vs F' N' hD hvl hv=> ?_;have hi:IntsAre vs (kvs.map (·.1)):=ip hvl hv;refine ksk_lsort (A:=A.in1) (s:={s with heap:=h',toks:=tk}) (news':=λo=>(D,o)::pj s.heap L) (its:=vs.toArray) F' N' (λo=>zL λp hp=>Bc (hD p hp)) rfl hi (by rw[ja];omega) λvs' ns' c h'' F'' N'' i' _ p' o'' _=> ?_;have:=Fp p' o'';subst this;have hg:s.heap.get? D=ba:=by
  cases q:s.heap.get? D with
  |none=>rfl
  |some ob=>
   by_cases hDL:D=L
   ·exact absurd hDL (N'' _ Ma).2.1
   ·exact absurd (hD _ (Pe.mpr ⟨hDL,q⟩)) (Ed _)
 rw[q3]at i';exact qp (tk':=tk) r l hn F''.ns (News.keepAll1 N'') hg (N'' _ Ma).1 (au i') en
end
end Mine
namespace Mine
variable [Av]
section
variable {w:Lb} {hb h:Gb} {L:Qa} {ρ:List Qa} {σ Ca:St} {s:Sa} {v:V} {val:ya} {A:lc} {n:Nat} {K:Frag} {tab:gi}
theorem Qj {i:Nat} {xs:List V} {vs:List ya} {a:Qa} {k:Nat} {h':Gb} {tk':Nat} {m} (r:R w hb ρ σ s.heap) (l:qu hb L ρ s.heap) (ea:ρ[i]? =aa a) (hn:s.heap.Ns L m) (mx:h'.Ns L m)
 (hk:∀b x,b≠L->b≠a->s.heap.get? b=aa x->h'.get? b=aa x) (ho:h'.get? a=aa (listOf vs.toArray k)) (hl:xs.length<=4096) (x:og w ρ s.heap xs vs):
 PV w hb L ρ s (σ.set i (.list xs)) .none .none {s with heap:=h',toks:=tk'}:=by
 have Sm:∀b z,s.heap.get? b=aa z->bh z->h'.get? b=aa z:=λb z e im=>by
  obtain⟨y,hy,hny⟩:=r.live (ma ea);exact hk b z (λq=>by subst q;exact mh hn e im) (λq=>by subst q;rw[e]at hy;cases hy;exact hny im) e
 obtain⟨r',k'⟩:=r.updL l (o:=.list xs) ea hn mx hk ⟨vs,k,ho,hl,x.mono (Ha _) Sm⟩;exact⟨ρ,h',tk',rfl,k',r',.none⟩
theorem cC {i:Nat} {xs:List V} {x:V} {o y:ya} (r:R w hb ρ σ s.heap) (l:qu hb L ρ s.heap) (e:listAt σ i=aa xs) (xo:VR w ρ s.heap (.ref i) o) (xy:VR w ρ s.heap x y) (hl:xs.length<4096):
 Wa (Fb pg w) A (call (.builtin "list.append") [o,y]) (PV w hb L ρ s (σ.set i (.list (xs++[x]))) .none) No s:=by
 obtain⟨a,vs,m,rfl,ea,q1,q2,q3⟩:=r.list e xo;obtain⟨mm,hn⟩:=l.ns;have haL:a≠L:=λq=>l.out (q▸ma ea);obtain⟨news',U,hD,hr⟩:=Tr (o':=listOf (vs.toArray.push y) (m+1)) q1 haL;refine append_K (oj hn) Dg U (λh' F' N'=> ?_) (by rw[gb,<-q3.length,Mc];omega);exact Qj (tk':=s.toks) r l ea hn F'.ns (News.keepUpd N' hr) (vs:=vs++[y]) (by simpa using(N' _ hD).1) (by simp;omega) (q3.append (og.one xy))
theorem Ws {i j:Nat} {xs ys:List V} {o y:ya} (r:R w hb ρ σ s.heap) (l:qu hb L ρ s.heap) (e:listAt σ i=aa xs) (e2:listAt σ j=aa ys) (xo:VR w ρ s.heap (.ref i) o) (xy:VR w ρ s.heap (.ref j) y) (hl:xs.length+ys.length<4096):
 Wa (Fb pg w) A (call (.builtin "list.extend") [o,y]) (PV w hb L ρ s (σ.set i (.list (xs++ys))) .none) No s:=by
 obtain⟨a,vs,m,rfl,ea,q1,q2,q3⟩:=r.list e xo;obtain⟨b,us,m2,rfl,eb,p1,p2,p3⟩:=r.list e2 xy;obtain⟨mm,hn⟩:=l.ns;have haL:a≠L:=λq=>l.out (q▸ma ea);have hbL:b≠L:=λq=>l.out (q▸ma eb);have hv:=q3.length;have hu:=p3.length;have lu:¬(!vs.toArray.isEmpty&&yj (vs.toArray.size+us.toArray.size))=true:=by
  have:yj (vs.toArray.size+us.toArray.size)=false:=by
   simp only[yj,decide_eq_false_iff_not,Mc,gb];omega
  rw[this,bk];exact ke
 by_cases hz:us=[]
 ·obtain⟨news',U,hD,hr⟩:=Tr (o':=listOf vs.toArray m) q1 haL
  refine kxn_extend (oj hn) Dg (Pe.mpr ⟨hbL,p1⟩) (by simpa using hz) U lu (by simp;rw[Mc];omega) (by simp;rw[Mc];omega) (λh' F' N'=> ?_);subst hz;have:ys=[]:=by cases ys<;>simp_all
  subst this;exact Qj (tk':=s.toks) r l ea hn F'.ns (News.keepUpd N' hr) (vs:=vs) (N' _ hD).1 (by simp;omega) (by simpa using q3)
 ·obtain⟨news',U,hD,hr⟩:=Tr (o':=listOf (vs++us).toArray (m+1)) q1 haL
  refine kl_extend (oj hn) Dg (Pe.mpr ⟨hbL,p1⟩) rfl (by simpa using hz) U lu (by simp;rw[Mc];omega) (by simp;rw[Mc];omega) (λh' F' N'=> ?_);exact Qj (tk':=s.toks) r l ea hn F'.ns (News.keepUpd N' hr) (vs:=vs++us) (N' _ hD).1 (by simp;omega) (q3.append p3)
theorem AC {i:Nat} {k:Int} {xs:List V} {x:V} {o p y:ya} (r:R w hb ρ σ s.heap) (l:qu hb L ρ s.heap) (e:listAt σ i=aa xs) (xo:VR w ρ s.heap (.ref i) o) (xk:VR w ρ s.heap (.int k) p) (xy:VR w ρ s.heap x y)
 (h0:0<=k) (h1:k<=xs.length) (hl:xs.length<4096):
 Wa (Fb pg w) A (call (.builtin "list.insert") [o,p,y]) (PV w hb L ρ s (σ.set i (.list (xs.take k.toNat++x::xs.drop k.toNat))) .none) No s:=by
 obtain⟨a,vs,m,rfl,ea,q1,q2,q3⟩:=r.list e xo;cases xk;obtain⟨mm,hn⟩:=l.ns;have haL:a≠L:=λq=>l.out (q▸ma ea);have hv:=q3.length;have hins:kl_ins vs.toArray.toList k y=vs.take k.toNat++y::vs.drop k.toNat:=by
  have h1':k.toNat<=vs.length:=by omega
  unfold kl_ins;simp only[NK.mpr h0,if_false,Nat.min_eq_left h1']
 obtain⟨news',U,hD,hr⟩:=Tr (o':=listOf (vs.take k.toNat++y::vs.drop k.toNat).toArray (m+1)) q1 haL;refine kl_insert (oj hn) Dg ?_ hins U (by simp;rw[Mc];omega) (λh' F' N'=> ?_)
 ·simp only[mK,La,decide_eq_true_eq];omega
 ·exact Qj (tk':=s.toks) r l ea hn F'.ns (News.keepUpd N' hr) (vs:=_) (N' _ hD).1 (by simp;omega) ((q3.take _).append (.cons xy (q3.drop _)))
theorem ey:∀is:List Int,is.all (λi=>decide (-1000<i)&&decide (i<1000))=true->Sg (is.map vd)=true/\Rh (is.map vd)=0/\Nq (is.map vd)<=is.length*12
 | [],_=>by simp[Sg,Rh,Nq]
 |i::is,h=>by
  simp only[Yk,La,decide_eq_true_eq]at h;obtain⟨a,b,c⟩:=ey is h.2;have hw:Qu (.int i)<=11:=by
   simp only[Qu]
   split
   ·omega
   ·rename_i q
    have:i.natAbs<2^10:=by omega
    have:=(oK (by simp at q;omega)).mpr this;omega
  simp only[sa,Sg,Rh,Nq,mf,Uf,a,b,cb];refine⟨rfl,rfl,?_⟩;omega
theorem nE {i:Nat} {k:Int} {xs:List V} {is:List Int} {o p:ya} (r:R w hb ρ σ s.heap) (e:listAt σ i=aa xs) (ei:Qg xs=aa is) (xo:VR w ρ s.heap (.ref i) o) (xk:VR w ρ s.heap (.int k) p)
 (hc:is.contains k=true) (ha:is.all (λi=>decide (-1000<i)&&decide (i<1000))=true) (hl:is.length<60):
 Wa (Fb pg w) A (call (.builtin "list.index") [o,p]) (PV w hb L ρ s σ (.int (is.idxOf k))) No s:=by
 obtain⟨a,vs,m,rfl,ea,q1,q2,q3⟩:=r.list e xo;cases xk;obtain⟨c1,c2,c3⟩:=ey is ha;refine index_list_ints (He q1) (Mi ei q3) ?_ (by simpa using hc) (PV.same r (.int _ _));simp only[PyData.layable0,mf,c1,Uf,c2,Qu,Mo,La,decide_eq_true_eq];refine⟨by decide,?_⟩;have c4:is.length*12<=2^20:=by
  have:(2:Nat)^20=1048576:=by decide
  omega
 exact decide_eq_true (Eb c3 c4)
theorem PD {i:Nat} {k:Int} {xs:List V} {is:List Int} {o p:ya} (r:R w hb ρ σ s.heap) (e:listAt σ i=aa xs) (ei:Qg xs=aa is) (xo:VR w ρ s.heap (.ref i) o) (xk:VR w ρ s.heap (.int k) p):
 Wa (Fb pg w) A (call (.builtin "list.count") [o,p]) (PV w hb L ρ s σ (.int (is.count k))) No s:=by
 obtain⟨a,vs,m,rfl,ea,q1,q2,q3⟩:=r.list e xo;cases xk;exact count_list_ints (He q1) (Mi ei q3) (PV.same r (.int _ _))
theorem Kx {prog:Program} {I S:Qa} {fp wr:List Qa} {k:Nat} {P:Nat->ya->Prop} {St:Nat->Gb->Prop} {Rr:Result->Sa->Prop} (W:Walks prog w A.in1 I fp wr k P St) (hS:S∉fp) (res:ya) (c0:List ya) (hz:c0.length+k<=4096):
 ∀(d i:Nat) (s:Sa) (Cc:List ya) (c:Nat),k - i=d->i<=k->St i s.heap->s.heap.get? S=aa (listOf (c0++Cc).toArray c)->Cc.length=i->(∀j v,Cc[j]? =aa v->P j v)->
 (∀h' tk tj c',(∀b o,b≠S->b∉wr->s.heap.get? b=aa o->h'.get? b=aa o)->h'.get? S=aa (listOf (c0++tj).toArray c')->tj.length=k->(∀j v,tj[j]? =aa v->P j v)->Rr (.ok (.ret res)) {s with heap:=h',toks:=tk})->
 ai (Fb prog w) A (.builtin "list.extend.loop" ⟨[.ref S,.ref I,res],[]⟩) Rr s:=by
 have hSw:S∉wr:=λh=>hS (W.sub _ h);intro d
 induction d with
 |zero=>
  intro i s Cc c hd hi xr zu hl hP hR;have:i=k:=by omega
  subst this;refine codeAny_builtin gu ?_;rw[jf Lf _]
  show Wa _ A.in1 (pyNext (.ref I)>>=_) _ _ s
  refine ia (W.done s _ _ xr λh' tk hk=> ?_);exact Ba (hR h' tk Cc c (λb o _ nw e=>hk b o nw e) (hk S _ hSw zu) hl hP)
 |succ d ih=>
  intro i s Cc c hd hi xr zu hl hP hR;have wh:i<k:=by omega
  refine codeAny_builtin gu ?_;rw[jf Lf _]
  show Wa _ A.in1 (pyNext (.ref I)>>=_) _ _ s
  refine ia (W.item i s _ _ wh xr λv h1 tk hp hst' hk=> ?_);have hS1:=hk S _ hSw zu
  show Wa _ A.in1 (updateSeq S (·.push v)>>=_) _ _ _
  refine ia ?_;have hfit:((c0++Cc).toArray.push v).size<=sizeLine+1:=by rw[bm,gb,Ib,Mc];omega
  have hfit0:(c0++Cc).toArray.size<=sizeLine:=by rw[gb,Ib,Mc];omega
  refine wpAny_updateSeq hS1 rfl (Ba ⟨plainId_quiet Lf _,ih (i+1) _ (Cc++[v]) (c+1) (by omega) wh (W.frame _ _ _ hst' λb En o e=> ?_) ?_ (by simp[hl]) (λj x q=> ?_) λh' tk' tj c' hk' hS'' bo hP'=> ?_⟩) hfit0 hfit
  ·exact(Df _ _ (λq:S=b=>hS (by rw[q];exact En))).trans e
  ·have:=qd (gj λx=>x.push v) hS1 rfl
   refine this.trans ?_;simp[gj]
  ·by_cases q':j<Cc.length
   ·rw[ta q']at q;exact hP j x q
   ·rw[Ra (Ke q')]at q
    cases hj:j - Cc.length with
    |zero=>rw[hj]at q;simp at q;subst q;rw[show j=i from by omega];exact hp
    |succ t=>rw[hj]at q;simp at q
  ·refine hR h' tk' tj c' (λb o n1 n2 e=>hk' b o n1 n2 ?_) hS'' bo hP'
   exact(Df _ _ (de n1)).trans (hk b o n2 e)
end
end Mine
namespace Mine
variable [Av]
section
variable {w:Lb} {hb h:Gb} {L:Qa} {ρ:List Qa} {σ Ca:St} {s:Sa} {v:V} {val:ya} {A:lc} {n:Nat} {K:Frag} {tab:gi}
theorem Ln (a b:Int):ph a b 1=((b - a).toNat:Int):=by
 simp only[ph,show(1:Int)>0 from by decide,if_true,Int.ediv_one]
 split<;>omega
theorem Qk {prog:Program} {Rr:Result->Sa->Prop} {r S:Qa} {a b:Int} {t u v:Tok} {c0:List ya} {c:Nat} {res:ya} (hh:A.handled=ba) (hr:IsRange s.heap r a b 1 t u v) (hS:s.heap.get? S=aa (listOf c0.toArray c))
 (ha: -1000<a) (ha':a<1000) (En: -1000<b) (hb'':b<1000) (hz:c0.length+(b - a).toNat<=4096)
 (hR:∀h' tk tj c',(∀b o,b≠S->s.heap.get? b=aa o->h'.get? b=aa o)->h'.get? S=aa (listOf (c0++tj).toArray c')->tj.length=(b - a).toNat->(∀(j:Nat) (x:ya),tj[j]? =aa x->∃t,x=Wj (a+(j:Int)*1) t)->Rr (.ok (.ret res)) {s with heap:=h',toks:=tk}):
 Wa (Fb prog w) A.in1 (sg (.ref S) (.ref r) res)
  (λfin s'=>match fin with| .done f=>Rr (.ok f) s'| .again c'=>c'.quiet=true/\ai (Fb prog w) A c' Rr s') (λe s'=>Rr (.error e) s') s:=by
 have hSr:S≠r:=λe=>by rw[e,hr]at hS;simp at hS
 have hSlt:S<s.heap.objs.size:=Wb hS;have hSI:S≠s.heap.objs.size:=Bc hSlt;have hSf:S∉[s.heap.objs.size]:=λhm=>hSI (jb.mp hm);have hn:=Ln a b;have hsmall:AJ a b 1=true:=small_one (by omega) (by omega) (by omega) (by omega);have W:=Walks.range (prog:=prog) (w:=w) (A:=A.in1) hh s.heap.objs.size a 1 (b - a).toNat;have key:∀(h:Gb) (c₁ tk:Nat),IsRangeIter h s.heap.objs.size (a+((0:Nat):Int)*1) (((b - a).toNat:Int) - ((0:Nat):Int)) 1->(∀b o,b≠S->s.heap.get? b=aa o->h.get? b=aa o)->
  h.get? S=aa (listOf c0.toArray c₁)->ai (Fb prog w) A (.builtin "list.extend.loop" ⟨[.ref S,.ref s.heap.objs.size,res],[]⟩) Rr {s with heap:=h,toks:=tk}:=by
  intro h c₁ tk ao hk hS₁;refine Kx W hSf res c0 hz (b - a).toNat 0 {s with heap:=h,toks:=tk} [] c₁ rfl (Ae _) ao (by simpa using hS₁) rfl (λj v q=>by simp at q) λh' tk' tj c' hk' zu hl hP=> ?_;refine hR h' tk' tj c' (λb o hb e=>hk' b o hb (λhm=> ?_) (hk b o hb e)) zu hl hP;exact absurd (Wb e) (by rw[jb.mp hm];exact Ed _)
 unfold sg;refine ia (wpAny_typeOf (T:="range") ⟨_,hr,rfl⟩ ?_);have h1:Dq (.ref S) (.ref r)=false:=by simp[Dq,hSr]
 have h2:(af "range"==af "list")=false:=by decide
 have h3:(af "range"==af "tuple")=false:=by decide
 simp only[h1,h2,h3,ax,Nc,if_false];refine ia (wpAny_pyIter_range hr hsmall ?_);refine ia (Xb (wpAny_hint_range (n:=(b - a).toNat) (Da _ hr) hn (by omega) ?_));have hit₁:IsRangeIter (s.heap.push {cls:=.type "range_iterator",data:=.fields #[rawInt a,rawInt (ph a b 1),rawInt 1]}) s.heap.objs.size (a+((0:Nat):Int)*1) (((b - a).toNat:Int) - ((0:Nat):Int)) 1:=by
  show IsRangeIter _ _ _ _ _;rw[hn];simpa using Pa _ rfl
 have hS₁:=Da {cls:=.type "range_iterator",data:=.fields #[rawInt a,rawInt (ph a b 1),rawInt 1]} hS;have hsz1:c0.toArray.size<=4096:=by rw[gb];omega
 have yw:sizeLine=16777216:=Mc;have hsz0:c0.toArray.size<=sizeLine:=by omega
 refine wpAny_ite_split (λ_=> ?_) (λ_=>Ba ⟨plainId_quiet Lf _,key _ c _ hit₁ (λb o _ e=>Da _ e) hS₁⟩);refine ia (wpAny_rule ?_);refine ia ?_
 show Wa _ _ (updateSeq S (·.push .none)>>=λ_=>updateSeq S (·.pop)) _ _ _
 refine ia (wpAny_updateSeq hS₁ rfl ?_ hsz0 (by rw[bm];omega));have hS₂:=qd (gj (·.push zg)) hS₁ rfl;refine wpAny_updateSeq hS₂ rfl ?_ (by rw[bm];omega) (by rw[Array.size_pop,bm];omega);have hS₃:=qd (gj (·.pop)) hS₂ rfl;refine Ba ⟨plainId_quiet Lf _,key _ _ _ ?_ (λb o hb e=> ?_) (hS₃.trans (by simp[gj];rfl))⟩
 ·exact(Df _ _ hSI).trans ((Df _ _ hSI).trans hit₁)
 ·exact(Df _ _ (de hb)).trans ((Df _ _ (de hb)).trans (Da _ e))
theorem qr {i:Nat} {a b:Int} {xs:List V} {o y:ya} (AK:yi n A) (r:R w hb ρ σ s.heap) (l:qu hb L ρ s.heap) (e:listAt σ i=aa xs) (xo:VR w ρ s.heap (.ref i) o) (xy:VR w ρ s.heap (.rng a b) y)
 (ha: -1000<a) (ha':a<1000) (En: -1000<b) (hb'':b<1000) (hl:xs.length+(gd a b).length<4096):
 Wa (Fb pg w) A (call (.builtin "list.extend") [o,y]) (PV w hb L ρ s (σ.set i (.list (xs++gd a b))) .none) No s:=by
 obtain⟨ad,vs,m,rfl,ea,q1,q2,q3⟩:=r.list e xo;cases xy with
 | @rng ra _ _ t u v' hr=>
 have hlen:(gd a b).length=(b - a).toNat:=by simp[gd,Jj]
 have hv:=q3.length;obtain⟨mm,hn⟩:=l.ns;have haL:ad≠L:=λq=>l.out (q▸ma ea);have hT:s.TypeIs (.ref ad) "list":=⟨_,q1,rfl⟩;refine wpAny_call (codeAny_call_builtin Bk.plain PySem.F.entry_list_extend (Bk.check _ _ _ _ _ _ _ _ hT (PySem.F.args_list_extend_2 _ _) ?_))
 show Wa _ A.in1 (sg (.ref ad) (.ref ra) .none) _ _ _
 refine Ea (Qk (Rr:=λq s'=>∃r,q=.ok (.ret r)/\PV w hb L ρ s (σ.set i (.list (xs++gd a b))) .none r s') AK.hh hr q1 ha ha' En hb'' (by omega) λh' tk tj c' hk hS bo hP=>⟨.none,rfl,?_⟩) (λfin s' z=> ?_) λe s' z=>by obtain⟨_,q,_⟩:=z;cases q
 rotate_left
 ·cases fin with
  |done f=>obtain⟨r',q,z⟩:=z;cases q;exact z
  |again c'=>exact⟨z.1,Hc z.2 λq s2 z2=>by obtain⟨r',q',z3⟩:=z2;subst q';exact z3⟩
 have hi:og w ρ s.heap (gd a b) tj:=by
  have:∀(k:Nat) (Cc:List ya) (a:Int),Cc.length=k->(∀(j:Nat) (x:ya),Cc[j]? =aa x->∃t,x=Wj (a+(j:Int)*1) t)->og w ρ s.heap ((Ua k).map λ(i:Nat)=>V.int (a+(i:Int))) Cc:=by
   intro k
   induction k with
   |zero=>intro Cc a hl _;cases Cc<;>simp at hl;exact .nil
   |succ k ih=>
    intro Cc a hl hp;cases Cc with
    |nil=>simp at hl
    |cons x Cc=>
     obtain⟨t,rfl⟩:=hp 0 x rfl;rw[az,sa,Fc];have h2:=ih Cc (a+1) (by simpa using hl) (λj y q=>by
      obtain⟨t,rfl⟩:=hp (j+1) y (by simpa using q);exact⟨t,by congr 1;push_cast;omega⟩)
     have e1:a+((0:Nat):Int)*1=a+((0:Nat):Int):=by omega
     rw[e1];refine .cons (.int _ t) ?_;have e2:((λ(i:Nat)=>V.int (a+(i:Int)))∘yL)=λ(i:Nat)=>V.int (a+1+(i:Int)):=by
      funext i;simp only[gn];congr 1;push_cast;omega
     rw[e2];exact h2
  exact this _ tj a bo hP
 exact Qj (tk':=tk) r l ea hn (by
  obtain⟨o',es,ep,e1,e2⟩:=hn;exact⟨o',es,ep,hk _ _ (de haL) e1,e2⟩) (λb x _ n2 e=>hk b x n2 e) (vs:=vs++tj) hS (by simp;omega) (q3.append hi)
end
end Mine
namespace Mine
variable [Av]
def Cr (a b:Int) (Cc:List ya):Prop:=Cc.length=(b - a).toNat/\∀(j:Nat) (x:ya),Cc[j]? =aa x->∃t,x=Wj (a+(j:Int)*1) t
section
variable {w:Lb} {hb h:Gb} {L:Qa} {ρ:List Qa} {σ Ca:St} {s:Sa} {v:V} {val:ya} {A:lc} {n:Nat} {K:Frag} {tab:gi}
theorem bD {a b:Int} {Cc:List ya} (q:Cr a b Cc):og w ρ h (gd a b) Cc:=by
 have:∀(k:Nat) (Cc:List ya) (a:Int),Cc.length=k->(∀(j:Nat) (x:ya),Cc[j]? =aa x->∃t,x=Wj (a+(j:Int)*1) t)->og w ρ h ((Ua k).map λ(i:Nat)=>V.int (a+(i:Int))) Cc:=by
  intro k
  induction k with
  |zero=>intro Cc a hl _;cases Cc<;>simp at hl;exact .nil
  |succ k ih=>
   intro Cc a hl hp;cases Cc with
   |nil=>simp at hl
   |cons x Cc=>
    obtain⟨t,rfl⟩:=hp 0 x rfl;rw[az,sa,Fc];have h2:=ih Cc (a+1) (by simpa using hl) (λj y q=>by
     obtain⟨t,rfl⟩:=hp (j+1) y (by simpa using q);exact⟨t,by congr 1;push_cast;omega⟩)
    have e1:a+((0:Nat):Int)*1=a+((0:Nat):Int):=by omega
    rw[e1];refine .cons (.int _ t) ?_;have e2:((λ(i:Nat)=>V.int (a+(i:Int)))∘yL)=λ(i:Nat)=>V.int (a+1+(i:Int)):=by
     funext i;simp only[gn];congr 1;push_cast;omega
    rw[e2];exact h2
 exact this _ Cc a q.1 q.2
theorem xu {prog:Program} {E:ya->Sa->Prop} {Q:List ya->Sa->Prop} {r:Qa} {a b:Int} {t u v:Tok} (hh:A.handled=ba) (hr:IsRange s.heap r a b 1 t u v)
 (ha: -1000<a) (ha':a<1000) (En: -1000<b) (hb'':b<1000)
 (hQ:∀h' tk Cc,(∀b o,s.heap.get? b=aa o->h'.get? b=aa o)->Cr a b Cc->Q Cc {s with heap:=h',toks:=tk}):
 Wa (Fb prog w) A (collect (.ref r)) Q E s:=by
 unfold collect;refine ia (wpAny_runValue (codeAny_builtin entry_proto_collect' ?_));rw[jf PySem.F.plain_proto_collect _]
 show Wa _ A.in1 (newList []>>=λl=>again (.builtin "list.__iadd__" ⟨[l,.ref r],[]⟩)) _ _ s
 refine ia (wpAny_newObj_type ?_);refine Ba ⟨plainId_quiet Su _,codeAny_builtin entry_list_iadd' ?_⟩;rw[jf Su _];have hS₁:(s.heap.push {cls:=.type "list",data:=.seq ([]:List ya).toArray}).get? s.heap.objs.size=aa (listOf ([]:List ya).toArray 0):=Pa _ rfl
 show Wa _ A.in1 (sg (.ref s.heap.objs.size) (.ref r) (.ref s.heap.objs.size)) _ _ _
 have key:=Qk (prog:=prog) (w:=w) (A:=A) (s:={s with heap:=s.heap.push {cls:=.type "list",data:=.seq ([]:List ya).toArray}}) (S:=s.heap.objs.size) (c0:=[]) (c:=0) (res:=.ref s.heap.objs.size)
  (Rr:=λ(q:Result) (s':Sa)=>∃(h':Gb) (tk:Nat) (tj:List ya) (c':Nat),q=.ok (.ret (.ref s.heap.objs.size))/\s'={s with heap:=h',toks:=tk}/\
   (∀b o,s.heap.get? b=aa o->h'.get? b=aa o)/\h'.get? s.heap.objs.size=aa (listOf tj.toArray c')/\Cr a b tj)
  hh (Da _ hr) hS₁ ha ha' En hb'' (by simp;omega)
  (λh' tk tj c' hk zu hl hP=>⟨h',tk,tj,c',rfl,rfl,λb o e=>hk b o (Bc (Wb e)) (Da _ e),by simpa using zu,hl,hP⟩)
 refine Ea key (λfin s' x=> ?_) λe s' x=> ?_
 ·cases fin with
  |done f=>
   obtain⟨h',tk,tj,c',e,rfl,hk,zu,lh⟩:=x;cases e
   show Wa _ A (load s.heap.objs.size>>=_) _ _ _
   refine ia (wpAny_load zu ?_);exact Ba (hQ h' tk tj hk lh)
  |again c₁=>
   refine⟨x.1,Hc x.2 λq s₂ y=> ?_⟩;obtain⟨h',tk,tj,c',rfl,rfl,hk,zu,lh⟩:=y
   show Wa _ A (load s.heap.objs.size>>=_) _ _ _
   refine ia (wpAny_load zu ?_);exact Ba (hQ h' tk tj hk lh)
 ·obtain⟨_,_,_,_,e',_⟩:=x
  cases e'
open AutoSeq1 (wpAny_loadPart')
theorem am (r:Qa) (a b:Int) (t u v:Tok) (ha: -1000<a) (ha':a<1000) (En: -1000<b) (hb'':b<1000):
 Meets (Builtin.«tuple.__new__» ⟨[.type "tuple",.ref r],[]⟩)
  (λA R s=>A.handled=ba/\IsRange s.heap r a b 1 t u v/\∀(h':Gb) (tk:Nat) (Cc:List ya),(∀b o,s.heap.get? b=aa o->h'.get? b=aa o)->Cr a b Cc->
   R (.ok (.ret (.ref h'.objs.size))) {s with heap:=h'.push {cls:=.type "tuple",data:=.seq Cc.toArray},toks:=tk}):=
 .of_wp λprog w A R s h=>by
  obtain⟨hh,hr,h⟩:=h;have gp:=sub_tuple_self;have hinit:=init_tuple_lookup;have hmh:=madeHere_tuple;have hT:s.TypeIs (.ref r) "range":=⟨_,hr,rfl⟩;have hh1:A.in1.handled=ba:=hh
  wp_walk using wpAny_typeOf hT,xu hh1 hr ha ha' En hb''
  intro h' tk Cc hk lh
  show Wa _ _ (Wp Cc.toArray>>=λv=>ret v) _ _ _
  unfold Wp;refine ia (wpAny_newObj_type ?_ (show Cc.toArray.size<=sizeLine by have:=lh.1;rw[gb,Mc];omega));exact Ba ⟨_,rfl,h h' tk Cc hk lh⟩
theorem Vt {a b:Int} {o:ya} (AK:yi n A) (r:R w hb ρ σ s.heap) (x:VR w ρ s.heap (.rng a b) o) (ha: -1000<a) (ha':a<1000) (En: -1000<b) (hb'':b<1000) (e:uj (gd a b) σ=aa (v,Ca)):
 Wa (Fb pg w) A (call (.type "tuple") [o]) (PV w hb L ρ s Ca v) No s:=by
 cases x with
 | @rng ra _ _ t u v' hr=>
 refine callType_new PySem.F.called_tuple (by decide) (PySem.F.typeCall_tuple_1 _) (PySem.F.newCall_tuple_1 _) (λobj=>PySem.F.args_object_init_2 obj _) PySem.F.entry_tuple_new
  (am ra a b t u v' ha ha' En hb'') ⟨AK.hh,hr,λh' tk Cc hk lh=>⟨⟨_,Pa _ rfl,rfl⟩,?_⟩⟩
 exact Fv (vs:=Cc) (k:=0) (tk':=tk) r (λb x e=>Da _ (hk b x e)) (rk hk (Hb _)) (Pa _ rfl) (bD lh) e
end
end Mine
namespace Mine
structure Gl where
 glob:Rb->Option ya
 sup:Option Nat
structure Sc where
 kinds:List (Rb×NameKind)
 sl:List Rb
def vo (x:Rb):Bool:= !(x==("__debug__":Rb))&& !(x==("__classdict__":Rb))
def uv:NameKind->Bool
 | .local| .cell| .free=>true
 |_=>false
def nn (sc:Sc) (x:Rb):Option Nat:=match sc.kinds.lookup x with
 |some k=>if uv k&&vo x then Jc sc.sl x else ba
 |none=>ba
def Sk:Expr->Bool
 | .Name .. | .Attribute .. | .Subscript .. =>true
 | .Call (.Name ..) (_::_) _ _=>true
 |_=>false
def CH (sc:Sc):Expr->Option Nat
 | .Name x _=>nn sc x
 |_=>ba
def uo (sc:Sc):List Expr->Option (List Nat)
 | []=>aa []
 |e::es=>match CH sc e,uo sc es with
  |some i,aa is=>aa (i::is)
  |_,_=>ba
def Do (sc:Sc):Expr->Option CT
 | .Name x _=>(nn sc x).map CT.var
 | .Tuple es _ _=>(uo sc es).map CT.tup
 |_=>ba
def Ds (lo:Nat):CT->Bool
 | .var i=>decide (lo<=i)
 | .tup is=>is.all λi=>decide (lo<=i)
def Yq (names outer:List (Rb×NameKind)):List (Rb×NameKind):=
 names.map λ(n,k)=>if(k== .free&&outer.lookup n==aa .cell)then(n,.cell)else(n,k)
def Jh (names:List (Rb×NameKind)):List Rb:=(names.filter λx=>x.2== .local||x.2== .cell).map (·.1)
def wz (sc:Sc) (scope:Scope):Option Sc:=
 if scope.kind== .function&& !scope.isGenerator&& !scope.isCoroutine&&scope.names.all (λx=>(x.2== .local)==(scope.names.lookup x.1==aa .local))
  &&scope.names.all (λx=> !(x.2== .free)||(match sc.kinds.lookup x.1 with|some .cell=>true|some .free=>true|_=>false))
  &&scope.names.all (λx=>scope.names.lookup x.1==aa x.2)
  &&scope.names.all (λx=> !(x.2== .globalExplicit))&&decide (scope.names.map (·.1)).Nodup
 then aa ⟨Yq scope.names sc.kinds,sc.sl++Jh scope.names⟩else ba
mutual
def oh (g:Gl):Nat->Sc->Expr->Option X
 |0,_,_=>ba
 |n+1,sc,e=>match e with
  | .Name x _=>match sc.kinds.lookup x with
   |some .globalImplicit=>if vo x then(g.glob x).map X.con else ba
   |_=>(nn sc x).map X.var
  | .Constant c _ _=>match c with
   | .none=>aa .none
   | .bool b=>aa (.bool b)
   | .int i=>aa (.int i)
   | .str s=>aa (.str s)
   |_=>ba
  | .Attribute o a _=>if Sk o then(oh g n sc o).map (X.attr · a)else ba
  | .Subscript o i _=>match i with
   | .Slice ba (aa (.Constant (.int k) _ _)) ba _=>(match o with
    | .Name .. =>(oh g n sc o).map (X.cut · k)
    |_=>ba)
   | .Slice .. =>ba
   |_=>match oh g n sc o,oh g n sc i with
    |some a,aa b=>aa (.sub a b)
    |_,_=>ba
  | .BinOp a op b _=>match oh g n sc a,oh g n sc b with
   |some x,aa y=>aa (.bin op x y)
   |_,_=>ba
  | .UnaryOp .USub a _=>(oh g n sc a).map X.neg
  | .Compare l [op] [r] _=>if behindInMarks op r then ba else match oh g n sc l,oh g n sc r with
   |some x,aa y=>aa (.cmp op x y)
   |_,_=>ba
  | .IfExp t a b _=>match QB g n sc t,oh g n sc a,oh g n sc b with
   |some x,aa y,aa z=>aa (.ite x y z)
   |_,_,_=>ba
  | .Tuple es _ _=>(Hp g n sc es).map X.tup
  | .List es _=>(Hp g n sc es).map X.list
  | .Dict [] [] _=>aa (.dict [] [])
  | .Dict [aa k] [v] _=>(match k with
   | .Name .. =>match oh g n sc k,oh g n sc v with
    |some x,aa y=>aa (.dict [x] [y])
    |_,_=>ba
   |_=>ba)
  | .Dict [aa (.Constant (.str a) _ _),aa (.Constant (.str b) _ _)] [v,v'] _=>match oh g n sc v,oh g n sc v' with
   |some y,aa z=>if a=b then ba else aa (.dict [.str a,.str b] [y,z])
   |_,_=>ba
  | .ListComp elt (⟨tgt,iter,ifs,0⟩::Md) scope _=>match oh g n sc iter,wz sc scope with
   |some it,aa sc'=>(match Do sc' tgt,Qy g n sc' ifs,Ry g n sc.sl.length sc' Md,oh g n sc' elt with
    |some t,aa fs,aa gs,aa x=>if Ds sc.sl.length t then aa (.comp (Jh scope.names).length it t fs gs x)else ba
    |_,_,_,_=>ba)
   |_,_=>ba
  | .Call (.Name x p) args [] _=>(match oh g n sc (.Name x p),Hp g n sc args with
   |some (.con f),aa xs=>aa (.call (.con f) xs)
   |_,_=>ba)
  | .Call (.Attribute (.Call (.Name s sp) [] [] _) a ap) args [] pos=>ba
  | .Call (.Attribute o a ap) args [] pos=>if Sk o&&(ap.endLine==pos.line)&&decide (args.length<29)then(match oh g n sc o,Hp g n sc args with
   |some x,aa xs=>aa (.meth x a xs)
   |_,_=>ba)else ba
  |_=>ba
def Hp (g:Gl):Nat->Sc->List Expr->Option (List X)
 |0,_,_=>ba
 |_+1,_,[]=>aa []
 |n+1,sc,e::es=>match oh g n sc e,Hp g n sc es with
  |some x,aa xs=>aa (x::xs)
  |_,_=>ba
def QB (g:Gl):Nat->Sc->Expr->Option B
 |0,_,_=>ba
 |n+1,sc,e=>match e with
  | .UnaryOp .Not x _=>(QB g n sc x).map B.not
  | .BoolOp .And [a,b] _=>match QB g n sc a,QB g n sc b with
   |some x,aa y=>aa (.and x y)
   |_,_=>ba
  | .BoolOp .Or [a,b] _=>match QB g n sc a,QB g n sc b with
   |some x,aa y=>aa (.or x y)
   |_,_=>ba
  | .Compare l [op1,op2] [m,r] _=>if behindInMarks op2 r then ba else match oh g n sc l,oh g n sc m,oh g n sc r with
   |some x,aa y,aa z=>aa (.base (.cmp2 op1 op2 x y z))
   |_,_,_=>ba
  | .Compare l [op] [r] _=>if behindInMarks op r then ba else match oh g n sc l,oh g n sc r with
   |some x,aa y=>aa (.base (.cmp op x y))
   |_,_=>ba
  | .Name x p=>(oh g n sc (.Name x p)).map B.base
  | .Attribute o a p=>(oh g n sc (.Attribute o a p)).map B.base
  | .Subscript o i p=>(oh g n sc (.Subscript o i p)).map B.base
  | .Call f as ks p=>(oh g n sc (.Call f as ks p)).map B.base
  |_=>ba
def Qy (g:Gl):Nat->Sc->List Expr->Option (List B)
 |0,_,_=>ba
 |_+1,_,[]=>aa []
 |n+1,sc,e::es=>match QB g n sc e,Qy g n sc es with
  |some x,aa xs=>aa (x::xs)
  |_,_=>ba
def Ry (g:Gl):Nat->Nat->Sc->List Comprehension->Option (List G)
 |0,_,_,_=>ba
 |_+1,_,_,[]=>aa []
 |n+1,lo,sc,⟨tgt,iter,ifs,0⟩::gs=>match oh g n sc iter,Do sc tgt,Qy g n sc ifs,Ry g n lo sc gs with
  |some it,aa t,aa fs,aa r=>if Ds lo t then aa (.mk it t fs::r)else ba
  |_,_,_,_=>ba
 |_+1,_,_,_=>ba
end
end Mine
namespace Mine
variable [Av]
section
variable {w:Lb} {hb:Gb} {A:lc} {env:Env} {eo:Qa->Prop} {sl:List Rb} {lo:Nat} {me:Me} {K:Frag} {tab:gi} {n:Nat}
theorem Zr {o:Expr} {a:Rb} (h:Sk o=true) (whole:Sem ya):attributeBase o a env whole=whole:=by
 cases o<;>try (cases h;done)
 all_goals try rfl
 rename_i f args kws pos;cases f<;>try (cases h;done)
 cases args with
 |nil=>cases h
 |cons _ _=>rfl
theorem DD {o:Expr} {a:Rb} {pos:Pos} {F:St->Option (V×St)} (B:gm hb K tab) (hp:Sk o=true) (hf:uc w hb A env eo sl lo me (eval o env) F):
 uc w hb A env eo sl lo me (eval (.Attribute o a pos) env) (λσ=>match F σ with|some (ov,Ja)=>(match yc tab ov a Ja with|some v=>aa (v,Ja)|none=>ba)|none=>ba):=by
 refine ME (H:=λov Ja=>match yc tab ov a Ja with|some v=>aa (v,Ja)|none=>ba) hf (t:=λv=>getAttr v a true) (λo' av ρ σ s v Ca r E x e=> ?_) λQ s h=> ?_
 ·cases q:yc tab av a σ with
  |none=>simp only[q]at e;cases e
  |some v'=>simp only[q]at e;cases e;exact Iz B r x q
 ·exact Attribute_any_ h (by rw[arm_eval_Attribute,Zr hp])
theorem iF {o i:Expr} {pos:Pos} {F G:St->Option (V×St)} (hs:∀a b,subscripted i false a b=operate [a,b] (getItem a b)) (hf:uc w hb A env eo sl lo me (eval o env) F) (hg:uc w hb A env eo sl lo me (eval i env) G):
 uc w hb A env eo sl lo me (eval (.Subscript o i pos) env) (λσ=>match F σ with|some (ov,Ja)=>(match G Ja with|some (iv,Cb)=>(match Qe ov iv Cb with|some v=>aa (v,Cb)|none=>ba)|none=>ba)|none=>ba):=by
 refine wA (H:=λov iv Cb=>match Qe ov iv Cb with|some v=>aa (v,Cb)|none=>ba) hf hg (t:=λa b=>subscriptTail o i a b) (λa b av bv ρ σ s v Ca r E xa xb e=> ?_) λQ s h=>Subscript_ h;cases q:Qe av bv σ with
 |none=>simp only[q]at e;cases e
 |some v'=>simp only[q]at e;cases e;exact aJ r xa xb q (hs _ _)
theorem FD {a b:Expr} {op:Operator} {pos:Pos} {F G:St->Option (V×St)} (AK:yi n A) (hf:uc w hb A env eo sl lo me (eval a env) F) (hg:uc w hb A env eo sl lo me (eval b env) G):
 uc w hb A env eo sl lo me (eval (.BinOp a op b pos) env) (λσ=>match F σ with|some (ov,Ja)=>(match G Ja with|some (iv,Cb)=>Cf op ov iv Cb|none=>ba)|none=>ba):=
 wA (H:=λov iv Cb=>Cf op ov iv Cb) hf hg (t:=λa b=>binaryOp op a b) (λa b av bv ρ σ s v Ca r E xa xb e=>QH AK r E.lok xa xb e) λQ s h=>wpAny_BinOp h
theorem IE {a:Expr} {pos:Pos} {F:St->Option (V×St)} (hf:uc w hb A env eo sl lo me (eval a env) F):
 uc w hb A env eo sl lo me (eval (.UnaryOp .USub a pos) env) (λσ=>match F σ with|some (.int i,Ja)=>aa (.int (-i),Ja)|_=>ba):=by
 have:=ME (T:=eval (.UnaryOp .USub a pos) env) (H:=λov Ja=>match ov with| .int i=>aa (V.int (-i),Ja)|_=>ba) hf (t:=λv=>unaryOp .USub v) (λo' av ρ σ s v Ca r E x e=> ?_) (λQ s h=>UnaryOp_ h)
 ·intro ρ σ s v Ca r E e
  refine this ρ σ s v Ca r E ?_;cases q:F σ with
  |none=>simp only[q]at e;cases e
  |some p=>obtain⟨ov,Ja⟩:=p;simp only[q]at e|-;cases ov<;>simp_all
 ·cases av<;>try (cases e;done)
  cases e;cases x;exact uK (PV.same r (.int _ _))
theorem rq {op:CmpOp} {r:Expr} {t:Sem ya} (h:behindInMarks op r=false):markedBehindIn op r t=t:=by
 unfold markedBehindIn;rw[h]
theorem LD {a b:Expr} {op:CmpOp} {pos:Pos} {F G:St->Option (V×St)} (hm:hb.get? sysModules≠ba) (AK:yi n A) (hk:behindInMarks op b=false) (hf:uc w hb A env eo sl lo me (eval a env) F) (hg:uc w hb A env eo sl lo me (eval b env) G):
 uc w hb A env eo sl lo me (eval (.Compare a [op] [b] pos) env) (λσ=>match F σ with|some (ov,Ja)=>(match G Ja with|some (iv,Cb)=>(match Zc op ov iv Cb with|some v=>aa (.bool v,Cb)|none=>ba)|none=>ba)|none=>ba):=by
 refine wA (H:=λov iv Cb=>match Zc op ov iv Cb with|some v=>aa (V.bool v,Cb)|none=>ba) hf hg (t:=λa b=>compareOp op a b) (λa b av bv ρ σ s v Ca r E xa xb e=> ?_) λQ s h=> ?_
 ·cases q:Zc op av bv σ with
  |none=>simp only[q]at e;cases e
  |some v'=>simp only[q]at e;cases e;exact iw hm AK r xa xb q
 ·rw[eval_Compare1,rq hk]
  exact ia (Ea h (λa s1 h1=>ia (Xb (Ea h1 (λb s2 h2=>ia (fc (wpAny_operating h2))) λ_ _ x=>x))) λ_ _ x=>x)
theorem GB {e:Expr} (h:∀x p,e≠ .Starred x p) (Md:List Expr):starEach (e::Md) env=(false,eval e env)::starEach Md env:=by
 cases e<;>first|rfl|exact absurd rfl (h _ _)
theorem iJ {pos:Pos}:Hi w hb A env eo sl lo me (spliced (backTo pos (starEach [] env))) (λσ=>aa ([],σ)):=λρ σ s v Ca r E e=>by
 cases e;exact wpAny_items_nil ⟨ρ,s.heap,s.toks,rfl,.refl,r,.nil⟩
theorem eH {pos:Pos} {e:Expr} {es:List Expr} {F:St->Option (V×St)} {G:St->Option (List V×St)} (hn:∀x p,e≠ .Starred x p) (hf:uc w hb A env eo sl lo me (eval e env) F) (hg:Hi w hb A env eo sl lo me (spliced (backTo pos (starEach es env))) G):
 Hi w hb A env eo sl lo me (spliced (backTo pos (starEach (e::es) env))) (λσ=>match F σ with|some (v,Ja)=>(match G Ja with|some (vs,Cb)=>aa (v::vs,Cb)|none=>ba)|none=>ba):=by
 intro ρ σ s v Ca r E e';cases hF:F σ with
 |none=>simp only[hF]at e';cases e'
 |some p=>
  obtain⟨av,Ja⟩:=p;simp only[hF]at e';cases hG:G Ja with
  |none=>simp only[hG]at e';cases e'
  |some q=>
   obtain⟨bv,Cb⟩:=q;simp only[hG]at e';cases e';refine wpAny_items_cons (Ea (hf ρ σ s av Ja r E hF) (λa s1 p1=> ?_) λ_ _ x=>x) (GB hn es);obtain⟨bf,h1,tk1,rfl,k1,r1,x1⟩:=p1;refine Ea (hg bf Ja _ bv _ r1 (E.kx r k1) hG) (λb s2 p2=> ?_) λ_ _ x=>x;obtain⟨zi,h2,Qh,rfl,k2,r2,x2⟩:=p2;exact⟨zi,h2,Qh,rfl,k1.trans k2,r2,.cons (k2.vr x1) x2⟩
theorem sF {es:List Expr} {k:Nat} {pos:Pos} {G:St->Option (List V×St)} (hg:Hi w hb A env eo sl lo me (spliced (backTo pos (starEach es env))) G):
 uc w hb A env eo sl lo me (eval (.Tuple es k pos) env) (λσ=>match G σ with|some (vs,Ja)=>uj vs Ja|none=>ba):=by
 intro ρ σ s v Ca r E e;cases hG:G σ with
 |none=>simp only[hG]at e;cases e
 |some q=>
  obtain⟨vs,Ja⟩:=q;simp only[hG]at e;rw[arm_eval_Tuple];refine ia (fc (ia (Ea (hg ρ σ s vs Ja r E hG) (λb s1 p1=> ?_) λ_ _ x=>x)));obtain⟨bf,h1,tk1,rfl,k1,r1,x1⟩:=p1;exact Ea (EG r1 x1 e) (λb s2 p2=>PV.after k1 p2) λ_ _ x=>x
theorem GC {es:List Expr} {pos:Pos} {G:St->Option (List V×St)} (hg:Hi w hb A env eo sl lo me (spliced (backTo pos (starEach es env))) G):
 uc w hb A env eo sl lo me (eval (.List es pos) env) (λσ=>match G σ with|some (vs,Ja)=>newL vs Ja|none=>ba):=by
 intro ρ σ s v Ca r E e;cases hG:G σ with
 |none=>simp only[hG]at e;cases e
 |some q=>
  obtain⟨vs,Ja⟩:=q;simp only[hG]at e;rw[arm_eval_List];refine ia (fc (ia (Ea (hg ρ σ s vs Ja r E hG) (λb s1 p1=> ?_) λ_ _ x=>x)));obtain⟨bf,h1,tk1,rfl,k1,r1,x1⟩:=p1;exact Ea (CG r1 x1 e) (λb s2 p2=>PV.after k1 p2) λ_ _ x=>x
theorem vk {b:Bool} {M:Model} {Q:Bool->Sa->Prop} {E:ya->Sa->Prop} {s:Sa} (h:Q b s):Wa M A (truthy (.bool b)) Q E s:=λ_ _ _=>h
theorem dC {e:Expr} {F:St->Option (V×St)} (he:isTrue e env (eval e env)=(do let v<-eval e env;standAt e.pos;holding [v] (truthy v))) (hf:uc w hb A env eo sl lo me (eval e env) F):
 Bh w hb A env eo sl lo me (isTrue e env (eval e env)) (λσ=>match F σ with|some (.bool b,Ja)=>aa (b,Ja)|_=>ba):=by
 intro ρ σ s v Ca r E e';cases hF:F σ with
 |none=>simp only[hF]at e';cases e'
 |some p=>
  obtain⟨av,Ja⟩:=p;simp only[hF]at e';cases av<;>try (cases e';done)
  cases e';rw[he];refine ia (Ea (hf ρ σ s _ _ r E hF) (λa s1 p1=> ?_) λ_ _ x=>x);obtain⟨bf,h1,tk1,rfl,k1,r1,x1⟩:=p1;cases x1;exact ia (fc (Xb (vk ⟨bf,h1,tk1,rfl,k1,r1,rfl⟩)))
theorem KE {e:Expr} {pos:Pos} {whole:Sem ya} {F:St->Option (Bool×St)} (hf:Bh w hb A env eo sl lo me (isTrue e env (eval e env)) F):
 Bh w hb A env eo sl lo me (isTrue (.UnaryOp .Not e pos) env whole) (λσ=>match F σ with|some (b,Ja)=>aa (!b,Ja)|none=>ba):=by
 intro ρ σ s v Ca r E e';cases hF:F σ with
 |none=>simp only[hF]at e';cases e'
 |some p=>
  obtain⟨av,Ja⟩:=p;simp only[hF]at e';cases e';refine isTrue_not (Ea (hf ρ σ s av _ r E hF) (λa s1 p1=> ?_) λ_ _ x=>x);obtain⟨bf,h1,tk1,rfl,k1,r1,rfl⟩:=p1;exact⟨bf,h1,tk1,rfl,k1,r1,rfl⟩
theorem BD {a b:Expr} {pos:Pos} {whole:Sem ya} {F G:St->Option (Bool×St)} (hf:Bh w hb A env eo sl lo me (isTrue a env (eval a env)) F) (hg:Bh w hb A env eo sl lo me (isTrue b env (eval b env)) G):
 Bh w hb A env eo sl lo me (isTrue (.BoolOp .And [a,b] pos) env whole) (λσ=>match F σ with|some (true,Ja)=>G Ja|some (false,Ja)=>aa (false,Ja)|none=>ba):=by
 intro ρ σ s v Ca r E e';cases hF:F σ with
 |none=>simp only[hF]at e';cases e'
 |some p=>
  obtain⟨av,Ja⟩:=p;refine isTrue_and (Ea (hf ρ σ s av Ja r E hF) (λa s1 p1=> ?_) λ_ _ x=>x);obtain⟨bf,h1,tk1,rfl,k1,r1,rfl⟩:=p1;cases a with
  |false=>simp only[hF]at e';cases e';exact⟨bf,h1,tk1,rfl,k1,r1,rfl⟩
  |true=>
   simp only[hF]at e';refine isTrue_and (Ea (hg bf Ja _ v Ca r1 (E.kx r k1) e') (λb s2 p2=> ?_) λ_ _ x=>x);have p3:=PB.after (s:=s) k1 p2;obtain⟨zi,h2,Qh,rfl,k2,r2,rfl⟩:=p3;cases b with
   |false=>exact⟨zi,h2,Qh,rfl,k2,r2,rfl⟩
   |true=>exact isTrue_and_nil ⟨zi,h2,Qh,rfl,k2,r2,rfl⟩
theorem HG {a b:Expr} {pos:Pos} {whole:Sem ya} {F G:St->Option (Bool×St)} (hf:Bh w hb A env eo sl lo me (isTrue a env (eval a env)) F) (hg:Bh w hb A env eo sl lo me (isTrue b env (eval b env)) G):
 Bh w hb A env eo sl lo me (isTrue (.BoolOp .Or [a,b] pos) env whole) (λσ=>match F σ with|some (true,Ja)=>aa (true,Ja)|some (false,Ja)=>G Ja|none=>ba):=by
 intro ρ σ s v Ca r E e';cases hF:F σ with
 |none=>simp only[hF]at e';cases e'
 |some p=>
  obtain⟨av,Ja⟩:=p;refine isTrue_or (Ea (hf ρ σ s av Ja r E hF) (λa s1 p1=> ?_) λ_ _ x=>x);obtain⟨bf,h1,tk1,rfl,k1,r1,rfl⟩:=p1;cases a with
  |true=>simp only[hF]at e';cases e';exact⟨bf,h1,tk1,rfl,k1,r1,rfl⟩
  |false=>
   simp only[hF]at e';refine isTrue_or (Ea (hg bf Ja _ v Ca r1 (E.kx r k1) e') (λb s2 p2=> ?_) λ_ _ x=>x);have p3:=PB.after (s:=s) k1 p2;obtain⟨zi,h2,Qh,rfl,k2,r2,rfl⟩:=p3;cases b with
   |true=>exact⟨zi,h2,Qh,rfl,k2,r2,rfl⟩
   |false=>exact isTrue_or_nil ⟨zi,h2,Qh,rfl,k2,r2,rfl⟩
theorem uE {t a b:Expr} {pos:Pos} {T:St->Option (Bool×St)} {F G:St->Option (V×St)} (ht:Bh w hb A env eo sl lo me (isTrue t env (eval t env)) T) (hf:uc w hb A env eo sl lo me (eval a env) F) (hg:uc w hb A env eo sl lo me (eval b env) G):
 uc w hb A env eo sl lo me (eval (.IfExp t a b pos) env) (λσ=>match T σ with|some (true,Ja)=>F Ja|some (false,Ja)=>G Ja|none=>ba):=by
 intro ρ σ s v Ca r E e';cases hF:T σ with
 |none=>simp only[hF]at e';cases e'
 |some p=>
  obtain⟨av,Ja⟩:=p;rw[arm_eval_IfExp];refine ia (Ea (ht ρ σ s av Ja r E hF) (λc s1 p1=> ?_) λ_ _ x=>x);obtain⟨bf,h1,tk1,rfl,k1,r1,rfl⟩:=p1;cases c with
  |true=>
   simp only[hF]at e';exact Ea (hf bf Ja _ v Ca r1 (E.kx r k1) e') (λb s2 p2=>PV.after k1 p2) λ_ _ x=>x
  |false=>
   simp only[hF]at e';exact Ea (hg bf Ja _ v Ca r1 (E.kx r k1) e') (λb s2 p2=>PV.after k1 p2) λ_ _ x=>x
theorem lC {a b c:Expr} {op1 op2:CmpOp} {pos:Pos} {whole:Sem ya} {F G H:St->Option (V×St)} (hm:hb.get? sysModules≠ba) (AK:yi n A) (hk:behindInMarks op2 c=false)
 (hf:uc w hb A env eo sl lo me (eval a env) F) (hg:uc w hb A env eo sl lo me (eval b env) G) (hh:uc w hb A env eo sl lo me (eval c env) H):
 Bh w hb A env eo sl lo me (isTrue (.Compare a [op1,op2] [b,c] pos) env whole) (λσ=>match F σ with
  |some (av,Ja)=>(match G Ja with
   |some (bv,Cb)=>(match Zc op1 av bv Cb with
    |some true=>(match H Cb with
     |some (cv,ae)=>(match Zc op2 bv cv ae with|some r=>aa (r,ae)|none=>ba)
     |none=>ba)
    |some false=>aa (false,Cb)
    |none=>ba)
   |none=>ba)
  |none=>ba):=by
 intro ρ σ s v Ca r E e';rw[arm_isTrue_Compare];have Wg:markedEach [op1,op2] [b,c] (evalEach [b,c] env)=[eval b env,eval c env]:=by
  show[eval b env,markedBehindIn op2 c (eval c env)]=_
  rw[rq hk]
 rw[Wg];cases hF:F σ with
 |none=>simp only[hF]at e';cases e'
 |some p=>
  obtain⟨av,Ja⟩:=p;simp only[hF]at e';cases hG:G Ja with
  |none=>simp only[hG]at e';cases e'
  |some q=>
   obtain⟨bv,Cb⟩:=q;simp only[hG]at e';refine ia (Ea (hf ρ σ s av Ja r E hF) (λa' s1 p1=> ?_) λ_ _ x=>x);obtain⟨bf,h1,tk1,rfl,k1,r1,x1⟩:=p1;unfold testChain;refine ia (Xb (Ea (hg bf Ja _ bv Cb r1 (E.kx r k1) hG) (λb' s2 p2=> ?_) λ_ _ x=>x));obtain⟨zi,h2,Qh,rfl,k2,r2,x2⟩:=p2;have E2:=(E.kx r k1).kx r1 k2;refine ia (fc (ia (Xb ?_)));cases hc:Zc op1 av bv Cb with
   |none=>simp only[hc]at e';cases e'
   |some t1=>
    refine Ea (iw (L:=env.locals) hm AK r2 (k2.vr x1) x2 hc) (λc' s3 p3=> ?_) λ_ _ x=>x;obtain⟨mu,h3,OB,rfl,k3,r3,x3⟩:=p3;have E3:=E2.kx r2 k3;cases x3;refine ia (wpAny_release (ia (Xb (vk ?_))));cases t1 with
    |false=>simp only[hc]at e';cases e';exact Ba ⟨mu,h3,OB,rfl,(k1.trans k2).trans k3,r3,rfl⟩
    |true=>
     simp only[hc]at e';cases hH:H Cb with
     |none=>simp only[hH]at e';cases e'
     |some q3=>
      obtain⟨cv,ae⟩:=q3;simp only[hH]at e';unfold testChain;refine ia (Xb (Ea (hh mu Cb _ cv ae r3 E3 hH) (λc4 s4 p4=> ?_) λ_ _ x=>x));obtain⟨VB,h4,tk4,rfl,k4,r4,x4⟩:=p4;refine ia (fc ?_);cases hc2:Zc op2 bv cv ae with
      |none=>simp only[hc2]at e';cases e'
      |some t2=>
       simp only[hc2]at e';cases e';refine ia (wpAny_operating (Ea (iw (L:=env.locals) hm AK r4 (k4.vr (k3.vr x2)) x4 hc2) (λc5 s5 p5=> ?_) λ_ _ x=>x));obtain⟨nu,h5,Mu,rfl,k5,r5,x5⟩:=p5;cases x5;exact Xb (vk ⟨nu,h5,Mu,rfl,(((k1.trans k2).trans k3).trans k4).trans k5,r5,rfl⟩)
theorem MD {a b:Expr} {op:CmpOp} {pos:Pos} {whole:Sem ya} {F G:St->Option (V×St)} (hm:hb.get? sysModules≠ba) (AK:yi n A) (hk:behindInMarks op b=false) (hf:uc w hb A env eo sl lo me (eval a env) F) (hg:uc w hb A env eo sl lo me (eval b env) G):
 Bh w hb A env eo sl lo me (isTrue (.Compare a [op] [b] pos) env whole) (λσ=>match F σ with|some (ov,Ja)=>(match G Ja with|some (iv,Cb)=>(match Zc op ov iv Cb with|some v=>aa (v,Cb)|none=>ba)|none=>ba)|none=>ba):=by
 intro ρ σ s v Ca r E e';rw[isTrue_Compare1,rq hk];cases hF:F σ with
 |none=>simp only[hF]at e';cases e'
 |some p=>
  obtain⟨av,Ja⟩:=p;simp only[hF]at e';cases hG:G Ja with
  |none=>simp only[hG]at e';cases e'
  |some q=>
   obtain⟨bv,Cb⟩:=q;simp only[hG]at e';refine ia (Ea (hf ρ σ s av Ja r E hF) (λa' s1 p1=> ?_) λ_ _ x=>x);obtain⟨bf,h1,tk1,rfl,k1,r1,x1⟩:=p1;refine ia (Xb (Ea (hg bf Ja _ bv Cb r1 (E.kx r k1) hG) (λb' s2 p2=> ?_) λ_ _ x=>x));obtain⟨zi,h2,Qh,rfl,k2,r2,x2⟩:=p2;refine ia (fc ?_);cases hc:Zc op av bv Cb with
   |none=>simp only[hc]at e';cases e'
   |some t1=>
    simp only[hc]at e';cases e';refine ia (wpAny_operating (Ea (iw (L:=env.locals) hm AK r2 (k2.vr x1) x2 hc) (λc5 s5 p5=> ?_) λ_ _ x=>x));obtain⟨nu,h5,Mu,rfl,k5,r5,x5⟩:=p5;cases x5;exact Xb (vk ⟨nu,h5,Mu,rfl,(k1.trans k2).trans k5,r5,rfl⟩)
end
end Mine
namespace Mine
variable [Av]
section
variable {w:Lb} {hb h h':Gb} {ρ:List Qa} {σ:St} {L:Qa}
theorem R.add (r:R w hb ρ σ h) {a:Qa} {o:O} (ha:a∉ρ) (hbn:hb.get? a=ba) (ho:OR w (ρ++[a]) h o a):R w hb (ρ++[a]) (σ++[o]) h:=by
 refine⟨by simp[r.len],?_,?_,r.avl,r.base,λj p b e1 e2=> ?_⟩
 ·rw[Zf]
  exact⟨r.nodup,by simp,λx hx y hy=>by rw[jb]at hy;subst hy;exactλq=>ha (q▸hx)⟩
 ·intro b En
  rcases db.mp En with q|q
  ·exact r.fresh b q
  ·rw[jb]at q;subst q;exact hbn
 ·by_cases q:j<σ.length
  ·rw[ta q]at e1
   rw[ta (by rw[r.len];exact q)]at e2;exact(r.obj j p b e1 e2).mono (dc _ _) (λb x e _=>e) λx e=>e
  ·rw[Ra (Ke q)]at e1
   rw[Ra (by rw[r.len];exact Ke q),r.len]at e2;cases hj:j - σ.length with
   |zero=>rw[hj]at e1 e2;simp at e1 e2;subst e1 e2;exact ho
   |succ t=>rw[hj]at e1;simp at e1
theorem KX.add {Zd:List Qa} (k:KX L ρ h h' Zd) {a:Qa} (ha:h.get? a=ba):KX L ρ h h' (Zd++[a]):=
 ⟨⟨k.pre.trans (dc _ _),λb hb=>by
  rcases db.mp hb with q|q
  ·exact k.fresh b q
  ·rw[jb]at q;subst q;exact .inr ha,k.keep,k.imm,k.live⟩,k.ns⟩
theorem Ge (r:R w hb ρ σ h) {a:Qa} (ha:h.get? a=ba):hb.get? a=ba:=by
 cases e:hb.get? a with
 |none=>rfl
 |some x=>have:=r.base a x e;rw[ha]at this;cases this
theorem yf (r:R w hb ρ σ h) {a:Qa} (ha:h.get? a=ba):a∉ρ:=λq=>by obtain⟨x,hx,_⟩:=r.live q;rw[ha]at hx;cases hx
end
def rj (w:Lb) (hb:Gb) (cf:Nat->List V->St->Option (V×St)) (n:Nat):Prop:=
 ∀(A:lc),yi n A->∀f vs vals ρ σ s v Ca L,R w hb ρ σ s.heap->L∉ρ->og w ρ s.heap vs vals->cf f vs σ=aa (v,Ca)->
  ai (Fb pg w) A (.call (.ref f) ⟨vals,[]⟩) (λq s'=>∃val,q=.ok (.ret val)/\PV w hb L ρ s Ca v val s') s
def dy (K:Frag) (f:ya):Bool:=match f with
 | .ref _=>keepIn K f
 | .builtin _=>true
 | .type _=>true
 |_=>false
structure Fq (hb:Gb) (K:Frag) (tab:gi):Prop where
 meth:∀c nm f,tab.meth c nm=aa f->findIn K (.ref c) "__getattribute__"=aa (aa (.builtin "object.__getattribute__"))/\findIn K (.ref c) "__getattr__"=aa ba/\findIn K (.ref c) nm=aa (aa (.ref f))/\typeIn K (.ref f)=aa (.type "function")/\keepIn K (.ref f)=true
 init:∀c f,tab.init c=aa f->makesIn K c=true/\findIn K (.ref c) "__init__"=aa (aa (.ref f))/\typeIn K (.ref f)=aa (.type "function")
structure Wv (hb:Gb) (K:Frag) (g:Gl):Prop where
 glob:∀x v,g.glob x=aa v->dy K v=true/\∃m,hb.Ns mainGlobals m/\(m x=aa v\/(m x=ba/\∃mb,hb.Ns builtinsNs mb/\mb x=aa v))
section
variable {w:Lb} {hb:Gb} {A:lc} {env:Env} {eo:Qa->Prop} {sl:List Rb} {lo:Nat} {me:Me} {K:Frag} {tab:gi} {n:Nat} {g:Gl} {ρ:List Qa} {σ Ca:St} {s:Sa} {v:V} {L:Qa} {cf:Nat->List V->St->Option (V×St)}
theorem vi:∀{es:List Expr},(∀e∈es,∀x p,e≠Ee x p)->starEach es env=es.map λe=>(false,eval e env)
 | [],_=>rfl
 |e::es,h=>by rw[GB (h e Ma),vi λe he=>h e (Ia _ he)];rfl
theorem Uq {M:Model} {f:ya} (h:dy K f=true) (hp:Gb) (X:K.In hp):∃k,(k=Keeper.frame\/k=Keeper.machine\/k=Keeper.boundFrame)/\Looks M hp (keeperOf f) k:=by
 cases f with
 |ref a=>exact keeps_K (f:=.ref a) h hp X
 |builtin i=>exact⟨.machine,.inr (.inl rfl),λA Q E s _ q=>Ba q⟩
 |type i=>exact⟨.machine,.inr (.inl rfl),λA Q E s _ q=>Ba q⟩
 |_=>cases h
theorem pl {M:Model} {E:ya->Sa->Prop} {Q:ya->Sa->Prop} {pos:Pos} {f:ya} {first:List ya} {es:List Expr} (hk:dy K f=true) (hn:∀e∈es,∀x p,e≠Ee x p)
 (h:Wa M A (spliced (backTo pos (starEach es env))) (λvs s1=>K.In s1.heap/\Wa M A (call f (first++vs)) Q E s1) E s):Wa M A (callWith pos f first (backTo pos (starEach es env)) []) Q E s:=by
 have hb:∀es:List Expr,backTo pos (es.map λe=>(false,eval e env))=es.map λe=>(false,eval e env):=λes=>by
  unfold backTo;rw[Fc];rfl
 rw[vi hn,hb]at h|-;cases es with
 |nil=>
  refine callWith_of (P:=K.In) rfl (Uq hk) ?_;unfold evalArgs
  show Wa M A (spliced []>>=_) _ E s
  refine ia (Ea h (λvs s1 h1=>ia (Ba ?_)) λ_ _ x=>x);refine Xb ?_;exact ia (Ba (ia (Ba (Ba h1))))
 |cons e es=>
  refine callWith_of (P:=K.In) ?_ (Uq hk) ?_
  ·simp
  ·exact evalArgs_plain h
structure wm (w:Lb) (hb:Gb):Prop where
 len:∀{n A L ρ σ s xs o},yi n A->R w hb ρ σ s.heap->VR w ρ s.heap (.iset xs) o->Wa (Fb pg w) A (call (.builtin "len") [o]) (PV w hb L ρ s σ (.int (Mf xs).length)) No s
 sorted:∀{n A L ρ σ s xs o v Ca},yi n A->R w hb ρ σ s.heap->qu hb L ρ s.heap->VR w ρ s.heap (.iset xs) o->newL ((Mf xs).map V.int) σ=aa (v,Ca)->Wa (Fb pg w) A (call (.builtin "sorted") [o]) (PV w hb L ρ s Ca v) No s
 ofTup:∀{n A L ρ σ s xs is o},yi n A->R w hb ρ σ s.heap->VR w ρ s.heap (.tup xs) o->Qg xs=aa is->is.all (λi=>decide (0<=i)&&decide (i<=2))=true->Wa (Fb pg w) A (call (.type "set") [o]) (PV w hb L ρ s σ (.iset is)) No s
 ofList:∀{n A L ρ σ s i xs is o},yi n A->R w hb ρ σ s.heap->VR w ρ s.heap (.ref i) o->listAt σ i=aa xs->Qg xs=aa is->is.all (λi=>decide (0<=i)&&decide (i<=2))=true->Wa (Fb pg w) A (call (.type "set") [o]) (PV w hb L ρ s σ (.iset is)) No s
theorem QJ {f:ya} {vs:List V} {vals:List ya} (SO:wm w hb) (hm:hb.get? sysModules≠ba) (AK:yi n A) (r:R w hb ρ σ s.heap) (l:qu hb L ρ s.heap) (x:og w ρ s.heap vs vals) (e:jh f vs σ=aa (v,Ca)):
 Wa (Fb pg w) A (call f vals) (PV w hb L ρ s Ca v) No s:=by
 unfold jh at e
 split at e
 ·cases e;cases x with|cons a b=>cases b;exact Xz r a
 ·cases e;cases x with|cons a b=>cases b;exact SO.len AK r a
 ·split at e<;>cases e
  rename_i q;cases x with|cons a b=>cases b;exact fy r q a
 ·split at e<;>cases e
  cases x with|cons a b=>cases b;exact PC r a
 ·split at e<;>cases e
  cases x with|cons a b=>cases b with|cons b c=>cases c;exact QC r a b
 ·cases e;cases x with|cons a b=>cases b with|cons b c=>cases c;exact NI AK r a b
 ·cases e;cases x with|cons a b=>cases b with|cons b c=>cases c;exact OI AK r a b
 ·split at e<;>try cases e
  rename_i q
  split at e<;>cases e
  rename_i q2;cases x with|cons a b=>cases b;exact bJ AK r q q2 a
 ·rename_i v0
  split at e<;>try (cases e;done)
  rename_i xs q;cases x with|cons a b=>
  cases b;cases v0<;>simp only[Pj]at q<;>try (cases q;done)
  ·cases q;exact Yw r a e
  ·exact Nu r q a e
  ·split at q<;>cases q
   rename_i hr;exact Vt AK r a hr.1 hr.2.1 hr.2.2.1 hr.2.2.2 e
 ·cases x with|cons a b=>cases b;exact iy r a e
 ·rename_i v0
  cases x with|cons a b=>
  cases b
  split at e<;>try (cases e;done)
  ·split at e<;>try (cases e;done)
   rename_i q
   split at e<;>cases e
   rename_i q2;exact SO.ofTup AK r a q q2
  ·split at e<;>try (cases e;done)
   rename_i q
   split at e<;>try (cases e;done)
   rename_i q2
   split at e<;>cases e
   rename_i q3;exact SO.ofList AK r a q q2 q3
 ·rename_i v0
  cases x with|cons a b=>
  cases b
  split at e<;>try (cases e;done)
  ·exact SO.sorted AK r l a e
  ·split at e<;>try (cases e;done)
   ·rename_i q
    split at e<;>try (cases e;done)
    rename_i q2
    split at e<;>try (cases e;done)
    rename_i q3;exact Kt r l (by unfold listAt;rw[q]) q2 a (by simpa using q3) e
   ·rename_i q
    split at e<;>try (cases e;done)
    rename_i q3;exact Jt AK hm r l q a (by simpa using q3) e
 ·cases e
theorem cK {i:Nat} {nm:Rb} {vs:List V} {σ Ca:St} {v:V} (e:Lr i nm vs σ=aa (v,Ca)):
 ∃id,Slot "list" nm id/\typeOf (cj id)=pure (af "method_descriptor")/\∀{n A ρ s L o vals},yi n A->R w hb ρ σ s.heap->qu hb L ρ s.heap->VR w ρ s.heap (.ref i) o->og w ρ s.heap vs vals->
  Wa (Fb pg w) A (call (.builtin id) (o::vals)) (PV w hb L ρ s Ca v) No s:=by
 unfold Lr at e
 split at e
 ·cases e
 ·rename_i xs q
  split at e
  ·subst_vars
   split at e<;>try (cases e;done)
   split at e<;>cases e
   rename_i hl;refine⟨"list.append",PySem.F.slot_list_append,PySem.F.type_list_append,λAK r l xo x=> ?_⟩;cases x with|cons x1 x2=>
   cases x2;exact cC r l q xo x1 (by simpa [xh]using hl)
  ·split at e
   ·subst_vars
    split at e<;>try (cases e;done)
    rename_i v0
    split at e<;>try (cases e;done)
    rename_i ys q'
    split at e<;>cases e
    rename_i hl;refine⟨"list.extend",Bk,PySem.F.type_list_extend,λAK r l xo x=> ?_⟩;cases x with|cons x1 x2=>
    cases x2;have bo:xs.length+ys.length<4096:=by simpa [xh]using hl
    cases v0<;>simp only[Wo]at q'<;>try (cases q';done)
    ·exact Ws r l q q' xo x1 bo
    ·split at q'<;>cases q'
     rename_i hr;exact qr AK r l q xo x1 hr.1 hr.2.1 hr.2.2.1 hr.2.2.2 bo
   ·split at e
    ·subst_vars
     split at e<;>try (cases e;done)
     split at e<;>cases e
     rename_i hl;refine⟨"list.insert",PySem.F.slot_list_insert,PySem.F.type_list_insert,λAK r l xo x=> ?_⟩;cases x with|cons x1 x2=>
     cases x2 with|cons x2 x3=>
     cases x3;exact AC r l q xo x1 x2 hl.1 hl.2.1 (by simpa [xh]using hl.2.2)
    ·split at e
     ·subst_vars
      split at e<;>try (cases e;done)
      split at e<;>try (cases e;done)
      rename_i q2
      split at e<;>cases e
      rename_i hl;simp only[La,yh]at hl;refine⟨"list.index",PySem.F.slot_list_index,PySem.F.type_list_index,λAK r l xo x=> ?_⟩;cases x with|cons x1 x2=>
      cases x2;exact nE r q q2 xo x1 hl.1.1 hl.1.2 hl.2
     ·split at e
      ·subst_vars
       split at e<;>try (cases e;done)
       split at e<;>cases e
       rename_i q2;refine⟨"list.count",PySem.F.slot_list_count,PySem.F.type_list_count,λAK r l xo x=> ?_⟩;cases x with|cons x1 x2=>
       cases x2;exact PD r q q2 xo x1
      ·cases e
end
end Mine
namespace Mine
variable [Av]
theorem yi.less {n m:Nat} {A:lc} (a:yi n A) (h:m<=n):yi m A:=⟨a.hh,by have:=a.depth;omega,by have:=a.units;omega⟩
theorem ZC (C:Qa) (Md:List ya):(sJ "type.__call__" ⟨.ref C::Md,[]⟩).weight=1:=by kernel_rfl
theorem qF (C:Qa) (Md:List ya):(sJ "type.__call__" ⟨.ref C::Md,[]⟩).cUnits=1:=by kernel_rfl
theorem yi.under {n:Nat} {A:lc} (a:yi (n+1) A) (C:Qa) (Md:List ya):yi n (A.under (.builtin "type.__call__" ⟨.ref C::Md,[]⟩)):=
 ⟨a.hh,by show A.depth+_+_+_<=_;rw[ZC];have:=a.depth;omega,by show A.units+_+_+_<=_;rw[qF];have:=a.units;omega⟩
section
variable {w:Lb} {hb:Gb} {A:lc} {env:Env} {eo:Qa->Prop} {sl:List Rb} {lo:Nat} {me:Me} {K:Frag} {tab:gi} {n:Nat} {g:Gl} {ρ:List Qa} {σ Ca:St} {s:Sa} {v:V} {L:Qa} {cf:Nat->List V->St->Option (V×St)}
theorem ql {f:ya} {vals:List ya} {P:ya->Sa->Prop} (h:ai (Fb pg w) A (.call f ⟨vals,[]⟩) (λq s'=>∃val,q=.ok (.ret val)/\P val s') s):Wa (Fb pg w) A (call f vals) P No s:=
 wpAny_call (Hc h λq s' z=>by obtain⟨val,rfl,z⟩:=z;exact z)
theorem ID {f:ya} {vs:List V} {vals:List ya} (B:gm hb K tab) (CO:Fq hb K tab) (SO:wm w hb) (CF:rj w hb cf n) (AK:yi (n+1) A) (r:R w hb ρ σ s.heap) (l:qu hb L ρ s.heap) (x:og w ρ s.heap vs vals)
 (e:rh tab cf (.con f) vs σ=aa (v,Ca)):Wa (Fb pg w) A (call f vals) (PV w hb L ρ s Ca v) No s:=by
 unfold rh at e
 split at e
 ·rename_i a q
  cases q
  split at e
  ·rename_i g' hg
   split at e
   ·rename_i Ja hc
    cases e;obtain⟨c1,c2,c3⟩:=CO.init _ _ hg;obtain⟨m,hn⟩:=l.ns;refine ql (make_K (oj hn) Dg (r.kin B) c1 c2 c3 λx' dx h' F' N' wh hdx=> ?_);have hk:∀b y,b≠L->s.heap.get? b=aa y->h'.get? b=aa y:=λb y nb e=>(N' (b,y) (Ia _ (Ia _ (Pe.mpr ⟨nb,e⟩)))).1;have dL:dx≠L:=(N' _ (Ia _ Ma)).2.1;have xL:x'≠L:=(N' _ Ma).2.1;have dn:s.heap.get? dx=ba:=by
     cases q:s.heap.get? dx with
     |none=>rfl
     |some o=>exact absurd (wh _ (Pe.mpr ⟨dL,q⟩)) (Ed _)
    have xn:s.heap.get? x'=ba:=by
     cases q:s.heap.get? x' with
     |none=>rfl
     |some o=>exact absurd (rz (wh _ (Pe.mpr ⟨xL,q⟩)) hdx) (Ed _)
    have od:h'.get? dx=aa emptyDict:=(N' _ (Ia _ Ma)).1;have ox:h'.get? x'=aa (instObj a dx):=(N' _ Ma).1;obtain⟨r1,k1⟩:=r.newL l (o:=.sdict []) hn F'.ns hk dn ⟨[],0,od,.nil,by simp,by simp⟩;have hxn:x'∉ρ++[dx]:=λq=>by
     rcases db.mp q with q|q
     ·exact yf r xn q
     ·rw[jb]at q;exact Ed _ (q▸hdx)
    have hlen:ρ.length=σ.length:=r.len;have r2:=r1.add (o:=.inst a σ.length) hxn (Ge r xn) ⟨dx,by rw[<-hlen];simp,ox⟩;have k2:=k1.add xn;have hL2:L∉ρ++[dx]++[x']:=λq=>by
     rcases db.mp q with q|q
     ·rcases db.mp q with q|q
      ·exact l.out q
      ·rw[jb]at q;exact dL q.symm
     ·rw[jb]at q;exact xL q.symm
    have hself:VR w (ρ++[dx]++[x']) h' (.ref (σ.length+1)) (.ref x'):=.ref (by rw[<-hlen];simp);have e2:σ++[O.sdict [],O.inst a σ.length]=σ++[O.sdict []]++[O.inst a σ.length]:=by simp
    rw[e2]at hc;refine Hc (CF _ (AK.under a vals) g' _ (.ref x'::vals) _ _ {s with heap:=h'} _ _ L r2 hL2 (.cons hself (k2.vrs x)) hc) λq s' z=> ?_;obtain⟨val,rfl,z⟩:=z;obtain⟨mu,h3,OB,rfl,k3,r3,x3⟩:=z;cases x3;exact⟨rfl,_,rfl,mu,h3,OB,rfl,k2.trans k3,r3,k3.vr hself⟩
   ·cases e
  ·exact ql (CF A (AK.less (wi n)) _ _ _ _ _ s _ _ L r l.out x e)
 ·rename_i q
  cases q;exact QJ SO B.mods AK r l x e
 ·cases e
theorem tq {x:Rb} {pos:Pos} {f:ya} (GO:Wv hb K g) (hg:g.glob x=aa f) (hk:env.kindOf x=aa .globalImplicit) (hd:(x==("__debug__":Rb))=false):
 uc w hb A env eo sl lo me (eval (.Name x pos) env) (λσ=>aa (.con f,σ)):=by
 intro ρ σ s v Ca r E e;cases e;refine wpAny_Name ?_ hd;rw[loadName_read E.kind hk];obtain⟨_,m,hm,h⟩:=GO.glob x f hg;have h1:s.heap.Ns env.globals m:=by rw[E.globals];exact hm.keeps λb o e=>r.base b o e
 rcases h with h|⟨h,mb,hmb,h2⟩
 ·exact loadGlobal_global h1 h (PV.same0 r (.con f))
 ·exact loadGlobal_builtin h1 h (by rw[E.builtins];exact hmb.keeps λb o e=>r.base b o e) h2 (PV.same0 r (.con f))
theorem gC {x:Rb} {p pos:Pos} {es:List Expr} {f:ya} {G:St->Option (List V×St)} (B:gm hb K tab) (CO:Fq hb K tab) (GO:Wv hb K g) (SO:wm w hb) (CF:rj w hb cf n) (AK:yi (n+1) A)
 (hg:g.glob x=aa f) (hk:env.kindOf x=aa .globalImplicit) (hd:(x==("__debug__":Rb))=false) (hn:∀e∈es,∀x p,e≠Ee x p) (hG:Hi w hb A env eo sl lo me (spliced (backTo pos (starEach es env))) G):
 uc w hb A env eo sl lo me (eval (.Call (.Name x p) es [] pos) env) (λσ=>match G σ with|some (vs,Ja)=>rh tab cf (.con f) vs Ja|none=>ba):=by
 intro ρ σ s v Ca r E e;cases hq:G σ with
 |none=>simp only[hq]at e;cases e
 |some q=>
  obtain⟨vs,Ja⟩:=q;simp only[hq]at e;refine Call_Name rfl (Ea (tq (w:=w) GO hg hk hd ρ σ s (.con f) σ r E rfl) (λfv s1 p1=> ?_) λ_ _ x=>x);obtain⟨bf,h1,tk1,rfl,k1,r1,x1⟩:=p1;cases x1;refine pl (GO.glob x f hg).1 hn (Ea (hG bf σ _ vs Ja r1 (E.kx r k1) hq) (λvals s2 p2=> ?_) λ_ _ x=>x);obtain⟨zi,h2,Qh,rfl,k2,r2,x2⟩:=p2;refine⟨r2.kin B,?_⟩;exact Ea (ID B CO SO CF AK r2 ((E.kx r k1).kx r1 k2).lok x2 e) (λc s3 p3=>PV.after (s:=s) k1 (PV.after (s:={s with heap:=h1,toks:=tk1}) k2 p3)) λ_ _ x=>x
theorem HC {o:Expr} {nm:Rb} {ap pos:Pos} {es:List Expr} {F:St->Option (V×St)} {G:St->Option (List V×St)} (B:gm hb K tab) (CO:Fq hb K tab) (CF:rj w hb cf n) (AK:yi (n+1) A)
 (hp:Sk o=true) (hl:(ap.endLine==pos.line)=true) (hlen:es.length<29) (hn:∀e∈es,∀x p,e≠Ee x p) (hF:uc w hb A env eo sl lo me (eval o env) F) (hG:Hi w hb A env eo sl lo me (spliced (backTo pos (starEach es env))) G):
 uc w hb A env eo sl lo me (eval (.Call (.Attribute o nm ap) es [] pos) env) (λσ=>match F σ with
  |some (ov,Ja)=>(match kg tab ov nm Ja with
   |some c=>(match G Ja with
    |some (vs,Cb)=>Wc cf c nm vs Cb
    |none=>ba)
   |none=>ba)
  |none=>ba):=by
 intro ρ σ s v Ca r E e;cases hq:F σ with
 |none=>simp only[hq]at e;cases e
 |some q=>
  obtain⟨ov,Ja⟩:=q;simp only[hq]at e;cases hr:kg tab ov nm Ja with
  |none=>simp only[hr]at e;cases e
  |some c=>
   simp only[hr]at e;cases hv:G Ja with
   |none=>simp only[hv]at e;cases e
   |some q2=>
    obtain⟨vs,Cb⟩:=q2;simp only[hv]at e;rw[arm_eval_Call,Zr hp];refine ia (Ea (hF ρ σ s ov Ja r E hq) (λo' s1 p1=> ?_) λ_ _ x=>x);obtain⟨bf,h1,tk1,rfl,k1,r1,x1⟩:=p1;have E1:=E.kx r k1;have hform:methodCallForm (es.length+([]:List Keyword).length) (backTo pos (starEach es env)) (backToKw pos (keywordEach [] env))=true:=by
     have hb:backTo pos (starEach es env)=es.map λe=>(false,eval e env):=by
      rw[vi hn];unfold backTo;rw[Fc];rfl
     rw[hb];simp only[methodCallForm,wJ];simp[backToKw,keywordEach];omega
    refine ia (fc ?_);unfold methodCall;rw[hform];have hpos:methodCallPos true o env ap pos=pure pos:=by unfold methodCallPos;simp[hl]
    rw[hpos];have fin:∀(f:ya) (first:List ya),dy K f=true->(∀zi h2 Qh vals,KX env.locals bf h1 h2 zi->R w hb zi Cb h2->wd w hb env eo sl lo me zi h2->og w zi h2 vs vals->Wa (Fb pg w) A (call f (first++vals)) (PV w hb env.locals zi {s with heap:=h2,toks:=Qh} Ca v) No {s with heap:=h2,toks:=Qh})->
     Wa (Fb pg w) A (do let callPos<-pure pos;callWith callPos f first (backTo pos (starEach es env)) (backToKw pos (keywordEach [] env))) (PV w hb env.locals ρ s Ca v) No {s with heap:=h1,toks:=tk1}:=by
     intro f first hkf hcall
     refine ia (Ba ?_);refine pl hkf hn (Ea (hG bf Ja _ vs Cb r1 E1 hv) (λvals s2 p2=> ?_) λ_ _ x=>x);obtain⟨zi,h2,Qh,rfl,k2,r2,x2⟩:=p2;refine⟨r2.kin B,?_⟩;exact Ea (hcall zi h2 Qh vals k2 r2 (E1.kx r1 k2) x2) (λc s3 p3=>PV.after (s:=s) k1 (PV.after (s:={s with heap:=h1,toks:=tk1}) k2 p3)) λ_ _ x=>x
    refine ia (Xb ?_)
    show Wa _ _ (getMethod o' nm _) _ _ _
    unfold kg at hr
    split at hr
    ·rename_i i
     split at hr
     ·rename_i c' d e1
      split at hr
      ·rename_i es' e2
       split at hr
       ·rename_i f hs hm
        cases hr;obtain⟨a,dx,Rd,m,rfl,_,_,_,_,p2,_,_,I⟩:=r1.inst e1 e2 x1;obtain⟨m1,m2,m3,m4,m5⟩:=CO.meth _ _ _ hm;refine method_fn (r1.kin B) I m1 m2 m3 m4 ?_ ?_
        ·rcases p2.look (m:=m) nm with⟨h1,h2⟩|⟨x,y,h1,h2,h3⟩
         ·simp[shadowIn,h2]
         ·rw[h1]at hs;cases hs
        ·refine fin (.ref f) [.ref a] m5 λzi h2 Qh vals k2 r2 E2 x2=> ?_
         exact ql (CF A (AK.less (wi n)) _ _ _ _ _ {s with heap:=h2,toks:=Qh} _ _ env.locals r2 E2.loc.1 (.cons (k2.vr x1) x2) e)
       ·cases hr
      ·cases hr
     ·rename_i xs e1
      cases hr;obtain⟨id,sl',ty,hc⟩:=cK (w:=w) (hb:=hb) e;obtain⟨a,vs',m,rfl,ea,q1,q2,q3⟩:=r1.list (xs:=xs) (by unfold listAt;rw[e1]) x1;refine getMethod_builtin (T:="list") ⟨_,q1,rfl⟩ PySem.F.plainAttrs_list sl' ty (λb En=>by cases En;exact⟨_,q1,rfl⟩) ?_;exact fin (.builtin id) [.ref a] rfl λzi h2 Qh vals k2 r2 E2 x2=>hc (s:={s with heap:=h2,toks:=Qh}) AK r2 E2.lok (k2.vr x1) x2
     ·cases hr
    ·cases hr
end
end Mine
namespace Mine
variable [Av]
section
variable {w:Lb} {hb h h2 h':Gb} {ρ zi:List Qa} {σ:St} {L:Qa}
theorem KX.but {D:Qa} (k:KX L ρ h h2 zi) (hD:h.get? D=ba) (hk:∀b x,b≠D->h2.get? b=aa x->h'.get? b=aa x):KX L ρ h h' zi:=by
 have nd:∀a o,h.get? a=aa o->a≠D:=λa o e q=>by subst q;rw[hD]at e;cases e
 refine⟨⟨k.pre,k.fresh,λa o e n1 n2=>hk a o (nd a o e) (k.keep a o e n1 n2),λa o e i=>hk a o (nd a o e) (k.imm a o e i),λa e=> ?_⟩,λm n=> ?_⟩
 ·obtain⟨o,ho⟩:=Ta.mp e
  obtain⟨o2,ho2⟩:=Ta.mp (k.live a e);rw[hk a o2 (nd a o ho) ho2];rfl
 ·obtain⟨o0,_,_,e0,_⟩:=id n
  obtain⟨o,es,ep,e1,e2⟩:=k.ns m n;exact⟨o,es,ep,hk L o (nd L _ e0) e1,e2⟩
end
section
variable {w:Lb} {hb:Gb} {A:lc} {env:Env} {eo:Qa->Prop} {sl:List Rb} {lo:Nat} {me:Me} {K:Frag} {tab:gi} {n:Nat} {g:Gl} {ρ:List Qa} {σ Ca:St} {s:Sa} {v:V} {L:Qa} {cf:Nat->List V->St->Option (V×St)}
theorem Yx {xs:List Int} {vs:List ya} {h:Gb} (i:IntsAre vs xs):og w ρ h (xs.map V.int) vs:=by
 induction i with
 |nil=>exact .nil
 |cons _ _ _ ih=>exact .cons (.int _ _) ih
theorem VD (B:gm hb K tab) {x:Rb} {p p1 p2 pos:Pos} {k:Int} {kd:Nat} {F:St->Option (V×St)} (hf:uc w hb A env eo sl lo me (eval (.Name x p) env) F):
 uc w hb A env eo sl lo me (eval (.Subscript (.Name x p) (.Slice ba (aa (.Constant (.int k) kd p1)) ba p2) pos) env) (λσ=>match F σ with|some (ov,Ja)=>pr tab ov k Ja|none=>ba):=by
 intro ρ σ s v Ca r E e;cases hq:F σ with
 |none=>simp only[hq]at e;cases e
 |some q=>
  obtain⟨ov,Ja⟩:=q;simp only[hq]at e;refine wpAny_Subscript_list_slice (Ea (hf ρ σ s ov Ja r E hq) (λo' s1 p1=> ?_) λ_ _ x=>x) (λ_ _=>rfl);obtain⟨bf,h1,tk1,rfl,k1,r1,x1⟩:=p1;rw[evalPart_none,evalPart_some];refine Ba (wpAny_Constant_int ?_);have key:∃(a:Qa) (vs:List ya) (xs:List V),o'=.ref a/\h1.IsList a vs.toArray/\xs.length<=4096/\og w bf h1 xs vs/\(0<=k/\k<1000)/\newL (xs.take k.toNat) Ja=aa (v,Ca):=by
   unfold pr at e
   split at e
   ·rename_i a
    split at e
    ·rename_i xs q1
     split at e
     ·rename_i hk
      obtain⟨ln,vs,g1,iv⟩:=B.scr a xs q1;cases x1;exact⟨a,vs,xs.map V.int,rfl,(let ⟨o,e,c⟩:=g1;⟨o,r1.base _ _ e,c⟩),by simpa using ln,Yx iv,hk,by rw[<-fx];exact e⟩
     ·cases e
    ·cases e
   ·rename_i i
    split at e
    ·rename_i xs q1
     split at e
     ·rename_i hk
      obtain⟨a,vs,m,rfl,ea,g1,g2,g3⟩:=r1.list q1 x1;exact⟨a,vs,xs,rfl,He g1,g2,g3,hk,e⟩
     ·cases e
    ·cases e
   ·cases e
  obtain⟨a,vs,xs,rfl,g1,g2,g3,hk,e'⟩:=key;refine⟨a,vs.toArray,ba,aa k,rfl,g1,by rw[gb,<-g3.length,Mc];omega,.none,.int k _,?_⟩;obtain⟨j,rfl⟩:=pc hk.1;rw[slicePick_upto'];have Sq:∀b x,h1.get? b=aa x->((h1.push {cls:=.type "slice",data:=.fields #[.none,.int (j:Int) tk1,.none]}).push (listOf ((vs.take j).toArray) 0)).get? b=aa x:=λb x e=>Da _ (Da _ e);have hn1:h1.get? (h1.objs.size+1)=ba:=by
   cases q:h1.get? (h1.objs.size+1)with
   |none=>rfl
   |some _=>exact absurd (Wb q) (fj.mpr (wi _))
  have ho:((h1.push {cls:=.type "slice",data:=.fields #[.none,.int (j:Int) tk1,.none]}).push (listOf ((vs.take j).toArray) 0)).get? (h1.objs.size+1)=aa (listOf ((vs.take j).toArray) 0):=by
   have:=Pa (h1.push {cls:=.type "slice",data:=.fields #[.none,.int (j:Int) tk1,.none]}) (o:=listOf ((vs.take j).toArray) 0) rfl
   rwa [Td]at this
  have e'':newL (xs.take j) Ja=aa (v,Ca):=by simpa using e'
  exact PV.after k1 (Ev (s:={s with heap:=h1,toks:=tk1}) (tk':=tk1+1) r1 Sq hn1 ho (g3.take j) e'')
theorem xz {pos:Pos}:uc w hb A env eo sl lo me (eval (.Dict [] [] pos) env) (λσ=>aa (.ref σ.length,σ++[.idict []])):=by
 intro ρ σ s v Ca r E e;cases e;refine wpAny_Dict_empty ?_;have hk:∀a o,s.heap.get? a=aa o->(s.heap.push emptyDict).get? a=aa o:=λa o e=>Da _ e;obtain⟨r',k⟩:=r.new' (L:=env.locals) (a:=s.heap.objs.size) (o:=.idict []) hk (Hb _) ⟨emptyDict,[],Pa _ rfl,⟨#[],0,⟨rfl,rfl,rfl⟩,rfl,λe he=>by simp at he,.nil,.nil⟩,rfl,.nil,by simp⟩;exact⟨_,_,s.toks,rfl,k,r',.ref (by rw[<-r.len];simp)⟩
theorem Hx {D:Qa} {o:O} {h2 h':Gb} {zi:List Qa} {Cb:St} {tk:Nat} (r:R w hb ρ σ s.heap) (hD:s.heap.get? D=ba) (k:KX L ρ s.heap h2 zi) (r2:R w hb zi Cb h2) (hD2:D∉zi) (hni:∀x,h2.get? D=aa x->¬bh x)
 (hk:∀b x,b≠D->h2.get? b=aa x->h'.get? b=aa x) (ho:OR w (zi++[D]) h' o D):PV w hb L ρ s (Cb++[o]) (.ref Cb.length) (.ref D) {s with heap:=h',toks:=tk}:=by
 have hbn:=Ge r hD;have r3:R w hb zi Cb h':=r2.beside (wr:=λa=>a=D) (λa o n e=>hk a o n e) λa q=>by subst q;exact⟨hD2,hbn,hni⟩
 exact⟨_,h',tk,rfl,(k.but hD hk).add hD,r3.add hD2 hbn ho,.ref (by rw[<-r2.len];simp)⟩
theorem KX.after_push {o:Obj} {h2:Gb} {zi:List Qa} (k:KX L ρ (s.heap.push o) h2 zi):KX L ρ s.heap h2 zi:=(KX.grow λ_ _ e=>Da _ e).trans k
theorem yz {x:Rb} {p pos:Pos} {e2:Expr} {F G:St->Option (V×St)} (hf:uc w hb A env eo sl lo me (eval (.Name x p) env) F) (hg:uc w hb A env eo sl lo me (eval e2 env) G):
 uc w hb A env eo sl lo me (eval (.Dict [aa (.Name x p)] [e2] pos) env) (λσ=>match F σ with
  |some (kv,Ja)=>(match G Ja with
   |some (vv,Cb)=>th [kv] [vv] Cb
   |none=>ba)
  |none=>ba):=by
 intro ρ σ s v Ca r E e;cases hF:F σ with
 |none=>simp only[hF]at e;cases e
 |some q=>
  obtain⟨kv,Ja⟩:=q;simp only[hF]at e;cases hG:G Ja with
  |none=>simp only[hG]at e;cases e
  |some q2=>
   obtain⟨vv,Cb⟩:=q2;simp only[hG]at e;unfold th at e
   split at e<;>try (cases e;done)
   ·rename_i z _;cases z
   ·rename_i z _;cases z
   ·rename_i a x' z1 z2
    cases z1;cases z2;cases e;have hk:∀a o,s.heap.get? a=aa o->(s.heap.push emptyDict).get? a=aa o:=λa o e=>Da _ e;refine wpAny_Dict_walk (knd:=intKind pg w) rfl rfl (by simp) (by simp) (pairTrees_cons_walk (Ea (hf ρ σ {s with heap:=s.heap.push emptyDict} (.int a) Ja (r.grow hk) (E.grow r hk) hF) (λkv s1 p1=> ?_) λ_ _ x=>x));obtain⟨bf,h1,tk1,rfl,k1,r1,x1⟩:=p1;refine Ea (hg bf Ja _ vv Cb r1 ((E.grow r hk).kx (r.grow hk) k1) hG) (λvl s2 p2=> ?_) λ_ _ x=>x;obtain⟨zi,h2,Qh,rfl,k2,r2,x2⟩:=p2;refine evalPairs_nil ?_;have k12:=k1.trans k2;have hD:s.heap.get? s.heap.objs.size=ba:=Hb _;have hDs:(s.heap.push emptyDict).get? s.heap.objs.size=aa emptyDict:=Pa _ rfl;obtain⟨m,hn⟩:=E.lok.ns;have hDL:s.heap.objs.size≠env.locals:=λq=>by
     obtain⟨o,_,_,e,_⟩:=hn;rw[<-q,hD]at e;cases e
    have hDρ:s.heap.objs.size∉ρ:=yf r hD;have hD2:s.heap.objs.size∉zi:=λq=>by
     rcases k12.fresh _ q with q|q
     ·exact hDρ q
     ·rw[hDs]at q;cases q
    have hDh:h2.get? s.heap.objs.size=aa emptyDict:=k12.keep _ _ hDs hDρ hDL;cases x1 with
    |int _ t=>
    refine⟨[(a,vl)],⟨lk a t,rfl,trivial⟩,⟨emptyDict,#[],0,hDh,⟨rfl,rfl,rfl⟩,rfl,λe he=>by simp at he,.nil,.nil⟩,λh' hd sb=> ?_⟩;obtain⟨o,e1,d1⟩:=vf.mp hd;exact Hx (h2:=h2) (tk:=Qh+1) r hD (KX.after_push k12) r2 hD2 (λx e=>by rw[hDh]at e;cases e;simp[bh,emptyDict]) (λb x n e=>(sb.2 b n).trans e)
     ⟨o,_,e1,d1,by simp[merged,stored],by
      have:VR w (zi++[s.heap.objs.size]) h' vv vl:=x2.mono (dc _ _) λb z e im=>(sb.2 b (λq=>by subst q;rw[hDh]at e;cases e;simp[bh,emptyDict]at im)).trans e
      simpa [merged,stored]using og.one this,by simp⟩
theorem zz {a b:Rb} {ka kb:Nat} {pa pb pos:Pos} {e1 e2:Expr} {F G:St->Option (V×St)} (hab:a≠b) (hf:uc w hb A env eo sl lo me (eval e1 env) F) (hg:uc w hb A env eo sl lo me (eval e2 env) G):
 uc w hb A env eo sl lo me (eval (.Dict [aa (.Constant (.str a) ka pa),aa (.Constant (.str b) kb pb)] [e1,e2] pos) env) (λσ=>match F σ with
  |some (x,Ja)=>(match G Ja with
   |some (y,Cb)=>th [.str a,.str b] [x,y] Cb
   |none=>ba)
  |none=>ba):=by
 intro ρ σ s v Ca r E e;cases hF:F σ with
 |none=>simp only[hF]at e;cases e
 |some q=>
  obtain⟨xv,Ja⟩:=q;simp only[hF]at e;cases hG:G Ja with
  |none=>simp only[hG]at e;cases e
  |some q2=>
   obtain⟨yv,Cb⟩:=q2;simp only[hG]at e;unfold th at e;simp only[hab,if_false]at e;cases e;have hk:∀a o,s.heap.get? a=aa o->(s.heap.push emptyDict).get? a=aa o:=λa o e=>Da _ e;refine wpAny_Dict_walk (knd:=ff pg w) rfl rfl (by simp) (by simp) (pairTrees_cons_walk (wpAny_Constant_str ?_));have E1:=E.grow r hk;refine Ea (hf ρ σ {s with heap:=s.heap.push emptyDict,toks:=s.toks+1} xv Ja (r.grow hk) E1 hF) (λxl s1 p1=> ?_) λ_ _ x=>x;obtain⟨bf,h1,tk1,rfl,k1,r1,x1⟩:=p1;refine pairTrees_cons_walk (wpAny_Constant_str ?_);refine Ea (hg bf Ja {s with heap:=h1,toks:=tk1+1} yv Cb r1 (E1.kx (r.grow hk) k1) hG) (λyl s2 p2=> ?_) λ_ _ x=>x;obtain⟨zi,h2,Qh,rfl,k2,r2,x2⟩:=p2;refine evalPairs_nil ?_;have k12:=k1.trans k2;have hD:s.heap.get? s.heap.objs.size=ba:=Hb _;have hDs:(s.heap.push emptyDict).get? s.heap.objs.size=aa emptyDict:=Pa _ rfl;obtain⟨m,hn⟩:=E.lok.ns;have hDL:s.heap.objs.size≠env.locals:=λq=>by
    obtain⟨o,_,_,e,_⟩:=hn;rw[<-q,hD]at e;cases e
   have hDρ:s.heap.objs.size∉ρ:=yf r hD;have hD2:s.heap.objs.size∉zi:=λq=>by
    rcases k12.fresh _ q with q|q
    ·exact hDρ q
    ·rw[hDs]at q;cases q
   have hDh:h2.get? s.heap.objs.size=aa emptyDict:=k12.keep _ _ hDs hDρ hDL;refine⟨[(a,xl),(b,yl)],⟨Zi a _,rfl,Zi b _,rfl,trivial⟩,⟨emptyDict,#[],0,hDh,⟨rfl,rfl,rfl⟩,rfl,λe he=>by simp at he,.nil,.nil⟩,λh' hd sb=> ?_⟩;obtain⟨o,o1,d1⟩:=vf.mp hd;have Sm:∀b z,h2.get? b=aa z->bh z->h'.get? b=aa z:=λb z e im=>(sb.2 b (λq=>by subst q;rw[hDh]at e;cases e;simp[bh]at im)).trans e;have hm:merged ([]:List (Rb×ya)) [(a,xl),(b,yl)]=[(a,xl),(b,yl)]:=by simp[merged,stored,hab]
   rw[hm]at d1;have vx:VR w (zi++[s.heap.objs.size]) h' xv xl:=(k2.vr x1).mono (dc _ _) Sm;have vy:VR w (zi++[s.heap.objs.size]) h' yv yl:=x2.mono (dc _ _) Sm;obtain⟨Rd,m',rfl,hse⟩:=RA (w:=w) (ρ:=zi++[s.heap.objs.size]) (h:=h') (es:=[(a,xv),(b,yv)]) d1 rfl (.cons vx (.cons vy .nil));exact Hx (h2:=h2) (tk:=Qh+2) r hD (KX.after_push k12) r2 hD2 (λx e=>by rw[hDh]at e;cases e;simp[bh]) (λb x n e=>(sb.2 b n).trans e)
    ⟨Rd,m',o1,hse,by simp[hab],by simp⟩
end
end Mine
namespace Mine
variable [Av]
def PA (w:Lb) (hb:Gb) (env:Env) (eo:Qa->Prop) (sl:List Rb) (lo:Nat) (ρ:List Qa) (s:Sa) (σ:St) (me:Me) (s':Sa):Prop:=
 ∃h' tk',s'={s with heap:=h',toks:=tk'}/\Kp eo ρ s.heap h' ρ/\R w hb ρ σ h'/\wd w hb env eo sl lo me ρ h'
section
variable {w:Lb} {hb:Gb} {A:lc} {env:Env} {eo:Qa->Prop} {sl:List Rb} {lo:Nat} {me:Me} {K:Frag} {tab:gi} {n:Nat} {g:Gl} {ρ:List Qa} {σ Ca:St} {s:Sa} {v:V} {L:Qa}
theorem Ep {sl:List Rb} {x y:Rb} {i:Nat} (a:Jc sl x=aa i) (b:Jc sl y=aa i):x=y:=by
 have h1:=Rj a;have h2:=Rj b;rw[h1]at h2;cases h2;rfl
theorem Hw {i j:Nat} {v v':V} (e:(me.set i (aa v))[j]? =aa (aa v')):(i=j/\v=v')\/(i≠j/\me[j]? =aa (aa v')):=by
 rw[Ci]at e
 split at e
 ·split at e
  ·rename_i q _;cases e;exact .inl ⟨q,rfl⟩
  ·cases e
 ·rename_i q;exact .inr ⟨q,e⟩
theorem My {x:Rb} {i:Nat} {val:ya} (hs:Jc sl x=aa i) (hl:lo<=i) (r:R w hb ρ σ s.heap) (E:wd w hb env eo sl lo me ρ s.heap) (xv:VR w ρ s.heap v val):
 Wa (Fb pg w) A (storeName env x val) (λ_=>PA w hb env eo sl lo ρ s σ (me.set i (aa v))) No s:=by
 obtain⟨m,hm,hv⟩:=E.ns;have hloc:=E.lok;have nsI:∀o,s.heap.get? env.locals=aa o->¬bh o:=λo e=>mh hm e;rcases E.own x i hs hl with hk|⟨hk,c,v0,c1,c2,c3,c4⟩
 ·refine wpAny_storeName_local hk hm (λh' hn hsb=> ?_) (by simp[E.kind])
  have Zn:∀a o,¬(a=env.locals)->s.heap.get? a=aa o->h'.get? a=aa o:=λa o q e=>(hsb.2 a q).trans e;have kp:Kp eo ρ s.heap h' ρ:=Kp.beside (wr:=λa=>a=env.locals) Zn λa q o e=>by
   subst q;obtain⟨o',_,_,e',_⟩:=hn;exact⟨nsI o e,E.loc.2.2,by rw[e'];rfl⟩
  have r':R w hb ρ σ h':=r.beside (wr:=λa=>a=env.locals) Zn λa q=>by subst q;exact⟨E.loc.1,E.loc.2.1,nsI⟩
  have Sm:∀b z,s.heap.get? b=aa z->bh z->h'.get? b=aa z:=kp.imm;have keepC:∀c v,s.heap.IsCell c v->h'.IsCell c v:=λc v x=>by
   refine x.sameBut hsb λq=> ?_;subst q;exact Mm hm x
  refine⟨h',s.toks+1,rfl,kp,r',⟨E.kind,E.globals,E.builtins,by rw[Mb];exact E.len,⟨_,hn,λy j v' a b e=> ?_⟩,λy j v' a b e=> ?_,E.loc,λy k a b=> ?_,E.apart,λy j a b=> ?_,E.eoh,λa e=>kp.live a (E.eol a e)⟩⟩
  ·rcases Hw e with⟨q,q2⟩|⟨q,e'⟩
   ·subst q q2
    have:y=x:=Ep a hs;subst this;exact⟨val,by simp,xv.mono (Ha _) Sm⟩
   ·have:y≠x:=λz=>by subst z;rw[hs]at a;cases a;exact q rfl
    obtain⟨val',z1,z2⟩:=hv y j v' a b e';exact⟨val',by simp[this,z1],z2.mono (Ha _) Sm⟩
  ·rcases Hw e with⟨q,q2⟩|⟨q,e'⟩
   ·subst q q2
    have:y=x:=Ep a hs;subst this;rw[hk]at b;rcases b with b|b<;>cases b
   ·obtain⟨c,val',z1,z2,z3⟩:=E.cells y j v' a b e'
    exact⟨c,val',z1,keepC _ _ z2,z3.mono (Ha _) Sm⟩
  ·obtain⟨c,v,z1,z2⟩:=E.has y k a b
   exact⟨c,v,z1,keepC _ _ z2⟩
  ·rcases E.own y j a b with z|⟨z,c,v,z1,z2,z3⟩
   ·exact .inl z
   ·exact .inr ⟨z,c,v,z1,keepC _ _ z2,z3⟩
 ·refine wpAny_storeName_cell E.kind hk c1 c2 λh' hn hsb=> ?_
  have hcL:c≠env.locals:=λq=>by subst q;exact Mm hm c2
  have Zn:∀a o,¬(a=c)->s.heap.get? a=aa o->h'.get? a=aa o:=λa o q e=>(hsb.2 a q).trans e;obtain⟨oc,oc1,oc2⟩:=jC c2;have kp:Kp eo ρ s.heap h' ρ:=Kp.beside (wr:=λa=>a=c) Zn λa q o e=>by
   subst q;obtain⟨o',e',_⟩:=hn;rw[oc1]at e;cases e;exact⟨oc2,c4,by rw[e'];rfl⟩
  have r':R w hb ρ σ h':=r.beside (wr:=λa=>a=c) Zn λa q=>by subst q;exact⟨r.cellNot c2,c3,λo e=>by rw[oc1]at e;cases e;exact oc2⟩
  have Sm:∀b z,s.heap.get? b=aa z->bh z->h'.get? b=aa z:=kp.imm;have keepC:∀c' v,c'≠c->s.heap.IsCell c' v->h'.IsCell c' v:=λc' v q x=>x.sameBut hsb q;have anyC:∀c' v,s.heap.IsCell c' v->∃v',h'.IsCell c' v':=λc' v x=>by
   by_cases q:c'=c
   ·subst q;exact⟨_,hn⟩
   ·exact⟨v,keepC c' v q x⟩
  refine⟨h',s.toks,rfl,kp,r',⟨E.kind,E.globals,E.builtins,by rw[Mb];exact E.len,⟨m,hm.sameBut hsb (de hcL),λy j v' a b e=> ?_⟩,λy j v' a b e=> ?_,E.loc,λy k a b=> ?_,E.apart,λy j a b=> ?_,E.eoh,λa e=>kp.live a (E.eol a e)⟩⟩
  ·rcases Hw e with⟨q,q2⟩|⟨q,e'⟩
   ·subst q q2
    have:y=x:=Ep a hs;subst this;rw[hk]at b;cases b
   ·obtain⟨val',z1,z2⟩:=hv y j v' a b e'
    exact⟨val',z1,z2.mono (Ha _) Sm⟩
  ·rcases Hw e with⟨q,q2⟩|⟨q,e'⟩
   ·subst q q2
    have:y=x:=Ep a hs;subst this;exact⟨c,val,c1,hn,xv.mono (Ha _) Sm⟩
   ·obtain⟨c',val',z1,z2,z3⟩:=E.cells y j v' a b e'
    have hne:c'≠c:=λz=>by
     subst z;have:=name_of_addr E.apart (mem_of_lookup z1) (mem_of_lookup c1);subst this;rw[hs]at a;cases a;exact q rfl
    exact⟨c',val',z1,keepC _ _ hne z2,z3.mono (Ha _) Sm⟩
  ·obtain⟨c',v,z1,z2⟩:=E.has y k a b
   obtain⟨v',z3⟩:=anyC _ _ z2;exact⟨c',v',z1,z3⟩
  ·rcases E.own y j a b with z|⟨z,c',v,z1,z2,z3⟩
   ·exact .inl z
   ·obtain⟨v',z4⟩:=anyC _ _ z2
    exact .inr ⟨z,c',v',z1,z4,z3⟩
theorem Dh {x:Rb} {p:Pos} {i:Nat} {val:ya} (hs:Jc sl x=aa i) (hl:lo<=i) (r:R w hb ρ σ s.heap) (E:wd w hb env eo sl lo me ρ s.heap) (xv:VR w ρ s.heap v val):
 Wa (Fb pg w) A (assign (.Name x p) env val) (λ_=>PA w hb env eo sl lo ρ s σ (me.set i (aa v))) No s:=by
 rw[arm_assign_Name];unfold bindName;exact ia (fc (ia (Xb (wpAny_point (ia (Ea (My hs hl r E xv) (λ_ _ h=>wpAny_point h) λ_ _ x=>x))))))
theorem PA.after {h1:Gb} {tk1:Nat} (k:Kp eo ρ s.heap h1 ρ) {s':Sa} (x:PA w hb env eo sl lo ρ {s with heap:=h1,toks:=tk1} σ me s'):PA w hb env eo sl lo ρ s σ me s':=by
 obtain⟨h',tk',e,k',r',E'⟩:=x;exact⟨h',tk',e,k.trans k',r',E'⟩
theorem zm:∀{ns:List (Rb×Pos)} {is:List Nat} {xs:List V} {vals:List ya} {me Qb:Me} {s:Sa},(ns.map λp=>Jc sl p.1)=is.map aa->(∀i∈is,lo<=i)->R w hb ρ σ s.heap->wd w hb env eo sl lo me ρ s.heap->og w ρ s.heap xs vals->Qc is xs me=aa Qb->
 Wa (Fb pg w) A (assignInOrder (ns.map λp=>assign (.Name p.1 p.2) env) vals) (λ_=>PA w hb env eo sl lo ρ s σ Qb) No s
 | [],[],[],_,me,Qb,s,_,_,r,E,x,e=>by
  cases x;simp[Qc]at e;subst e;exact wpAny_assignInOrder_none ⟨s.heap,s.toks,rfl,Kp.refl,r,E⟩
 |(x,p)::ns,i::is,v::vs,_,me,Qb,s,hn,hi,r,E,.cons a b,e=>by
  simp only[sa,Jf]at hn;simp only[Qc]at e
  split at e
  ·refine wpAny_assignInOrder_more (Ea (Dh hn.1 (hi i Ma) r E a) (λ_ s1 p1=> ?_) λ_ _ x=>x)
   obtain⟨h1,tk1,rfl,k1,r1,E1⟩:=p1;exact Ea (zm (s:={s with heap:=h1,toks:=tk1}) hn.2 (λj hj=>hi j (Ia _ hj)) r1 E1 (k1.vrs b) e) (λ_ s2 p2=>PA.after k1 p2) λ_ _ x=>x
  ·cases e
 | [],_::_,_,_,_,_,_,hn,_,_,_,_,_=>by simp at hn
 |_::_,[],_,_,_,_,_,hn,_,_,_,_,_=>by simp at hn
 |_::_,_::_,[],_,_,_,_,_,_,_,_,_,e=>by simp[Qc]at e
 | [],[],_::_,_,_,_,_,_,_,_,_,_,e=>by simp[Qc]at e
end
end Mine
namespace Mine
variable [Av]
section
variable {w:Lb} {hb:Gb} {A:lc} {env:Env} {eo:Qa->Prop} {lo:Nat} {me Qb:Me} {K:Frag} {tab:gi} {n:Nat} {g:Gl} {ρ:List Qa} {σ Ca:St} {s:Sa} {v:V} {L:Qa} {sc:Sc}
theorem Xk {x:Rb} {i:Nat} (h:nn sc x=aa i):Jc sc.sl x=aa i:=by
 unfold nn at h
 split at h
 ·split at h
  ·exact h
  ·cases h
 ·cases h
theorem Lv:∀{is:List Nat} {xs:List V} {me Qb:Me},bg is xs me=aa Qb->Qc is xs me=aa Qb
 | [],[],_,_,h=>h
 |i::is,v::vs,me,Qb,h=>by
  simp only[bg]at h
  split at h
  ·rename_i q
   have:=(ca.mp q).1;simp only[Qc,this,if_true];exact Lv h
  ·cases h
 | [],_::_,_,_,h=>by simp[bg]at h
 |_::_,[],_,_,h=>by simp[bg]at h
theorem bG {t:CT} (h:yd t v me=aa Qb):dg t v me=aa Qb:=by
 unfold yd at h
 split at h
 ·split at h
  ·rename_i q
   have:=(ca.mp q).1;simp only[dg,this,if_true];exact h
  ·cases h
 ·exact Lv h
 ·cases h
theorem jy:∀{es:List Expr} {is:List Nat},uo sc es=aa is->
 ∃ns:List (Rb×Pos),es=ns.map (λp=>IK p.1 p.2)/\(ns.map λp=>Jc sc.sl p.1)=is.map aa
 | [],is,h=>by simp[uo]at h;subst h;exact⟨[],rfl,rfl⟩
 |e::es,is,h=>by
  unfold uo at h
  split at h<;>cases h
  rename_i i js q q2;cases e<;>try (simp[CH]at q;done)
  rename_i x p;obtain⟨ns,h1,h2⟩:=jy q2;exact⟨(x,p)::ns,by simp[h1],by simp[h2,Xk (show nn sc x=aa i from q)]⟩
theorem bq (ns:List (Rb×Pos)):assignEach (ns.map λp=>IK p.1 p.2) env=ns.map λp=>(false,assign (.Name p.1 p.2) env):=by
 induction ns with
 |nil=>rfl
 |cons p ns ih=>rw[sa,sa,<-ih];rfl
theorem Pl:∀{is:List Nat} {xs:List V} {me Qb:Me},Qc is xs me=aa Qb->is.length=xs.length
 | [],[],_,_,_=>rfl
 |i::is,v::vs,me,Qb,h=>by
  simp only[Qc]at h
  split at h
  ·simp[Pl h]
  ·cases h
 | [],_::_,_,_,h=>by simp[Qc]at h
 |_::_,[],_,_,h=>by simp[Qc]at h
theorem TD {tgt:Expr} {t:CT} {val:ya} (AK:yi n A) (ht:Do sc tgt=aa t) (hg:Ds lo t=true) (r:R w hb ρ σ s.heap) (E:wd w hb env eo sc.sl lo me ρ s.heap) (xv:VR w ρ s.heap v val) (e:dg t v me=aa Qb):
 Wa (Fb pg w) A (assign tgt env val) (λ_=>PA w hb env eo sc.sl lo ρ s σ Qb) No s:=by
 unfold Do at ht
 split at ht
 ·rename_i x p
  cases q:nn sc x with
  |none=>rw[q]at ht;cases ht
  |some i=>
   rw[q]at ht;cases ht;simp only[dg]at e
   split at e<;>cases e
   exact Dh (Xk q) (by simpa [Ds]using hg) r E xv
 ·rename_i es k p
  cases q:uo sc es with
  |none=>rw[q]at ht;cases ht
  |some is=>
   rw[q]at ht;cases ht;cases v<;>try (simp[dg]at e;done)
   rename_i xs;simp only[dg]at e;obtain⟨ns,rfl,h2⟩:=jy q;cases xv with
   | @tup a _ vs m nav ea la qa=>
   rw[arm_assign_Tuple,bq];have hl:=Pl e;have jx:ns.length=is.length:=by have:=congrArg Jk h2;simpa using this
   refine ia (fc (wpAny_unpack_tuple AK.hh (items:=vs.toArray) (uf ea) (by rw[ja,gb,<-qa.length];omega) ?_ λh' iq=> ?_))
   ·rw[Xv]
    intro x hx;obtain⟨p,_,rfl⟩:=Bb.mp hx
    rfl
   ·have hk:∀a o,s.heap.get? a=aa o->h'.get? a=aa o:=λa o e=>iq a o (Bc (Wb e)) e
    rw[Fc];have:=zm (A:=A) (s:={s with heap:=h'}) h2 (λi hi=>by simpa [Ds]using(Jb.mp hg i hi)) (r.grow hk) (E.grow r hk) (qa.mono (Ha _) λa o e _=>hk a o e) e;exact Ea this (λ_ s2 p2=>PA.after (s:=s) (tk1:=s.toks) (Kp.grow hk) p2) λ_ _ x=>x
 ·cases ht
def Yj (w:Lb) (ρ:List Qa) (h:Gb) (I:Qa) (i:Nat):It->Prop
 | .st xs=>(∃t vs m,h.get? t=aa (Jp vs m)/\og w ρ h xs vs/\h.IsTupleIter I t i)\/(∃a b,xs=gd a b/\i<=(b - a).toNat/\IsRangeIter h I (a+(i:Int)) (((b - a).toNat:Int) - (i:Int)) 1)
 | .dyn l=>∃a,ρ[l]? =aa a/\h.IsListIter I a i
theorem Ig {h:Gb} {I:Qa} {i:Nat} {it:It} (x:Yj w ρ h I i it):∃o,h.get? I=aa o/\¬bh o/\(∃vs,o.data=.fields vs):=by
 cases it with
 |st xs=>
  rcases x with⟨t,vs,m,_,_,o,e,c,d⟩|⟨a,b,_,_,e⟩
  ·exact⟨o,e,by simp[bh,d,c],_,d⟩
  ·exact⟨_,e,by simp[bh],_,rfl⟩
 |dyn l=>
  obtain⟨a,_,o,e,c,d⟩:=x;exact⟨o,e,by simp[bh,d,c],_,d⟩
theorem Yj.notIn {h:Gb} {I:Qa} {i:Nat} {it:It} (x:Yj w ρ h I i it) (r:R w hb ρ σ h):I∉ρ:=λq=>by
 obtain⟨o,e,_,vs,d⟩:=Ig x;obtain⟨j,o',_,_,z⟩:=r.mem q;cases o' with
 |list xs=>obtain⟨vs,n,e',_⟩:=z;rw[e]at e';cases e';cases d
 |idict es=>obtain⟨o,kvs,e',⟨es',ep,_,d',_⟩,_⟩:=z;rw[e]at e';cases e';rw[d]at d';cases d'
 |sdict es=>obtain⟨Rd,n,e',_⟩:=z;rw[e]at e';cases e';cases d
 |inst c d'=>obtain⟨dx,_,e'⟩:=z;rw[e]at e';cases e';cases d
theorem Yj.keep {h h':Gb} {Zd:List Qa} {I:Qa} {i:Nat} {it:It} (x:Yj w ρ h I i it) (hp:ρ<+:Zd) (Sm:∀a o,h.get? a=aa o->bh o->h'.get? a=aa o) (hI:∀o,h.get? I=aa o->h'.get? I=aa o):Yj w Zd h' I i it:=by
 cases it with
 |st xs=>
  rcases x with⟨t,vs,m,e1,e2,o,e,c,d⟩|⟨a,b,e1,e2,e⟩
  ·exact .inl ⟨t,vs,m,Sm _ _ e1 rfl,e2.mono hp Sm,o,hI _ e,c,d⟩
  ·exact .inr ⟨a,b,e1,e2,hI _ e⟩
 |dyn l=>
  obtain⟨a,e1,o,e,c,d⟩:=x;exact⟨a,yo hp e1,o,hI _ e,c,d⟩
def Pn (I:Qa) (h h':Gb):Prop:=∀b o,b≠I->h.get? b=aa o->h'.get? b=aa o
theorem OG {a b:Int} {i:Nat} (h:i<(b - a).toNat):(gd a b)[i]? =aa (.int (a+(i:Int))):=by
 simp[gd,Jj,h]
def KJ (w:Lb) (ρ:List Qa) (I:Qa) (i:Nat) (it:It) (h':Gb) (q:Option ya):Option V->Prop
 |none=>q=ba
 |some v=>∃val,q=aa val/\VR w ρ h' v val/\Yj w ρ h' I (i+1) it
theorem FB {I:Qa} {i:Nat} {it:It} (AK:yi n A) (r:R w hb ρ σ s.heap) (x:Yj w ρ s.heap I i it) {o:Option V} (e:jg it i σ=aa o):
 Wa (Fb pg w) A (pyNext (.ref I)) (λq s'=>∃h' tk',s'={s with heap:=h',toks:=tk'}/\Pn I s.heap h'/\KJ w ρ I i it h' q o) No s:=by
 obtain⟨oI,oI1,oI2,_⟩:=Ig x;have imm:∀h',Pn I s.heap h'->∀a o,s.heap.get? a=aa o->bh o->h'.get? a=aa o:=λh' k a o e im=>k a o (λq=>by subst q;rw[oI1]at e;cases e;exact oI2 im) e;have sb:∀h',Hg I s.heap h'->Pn I s.heap h':=λh' k b o n e=>(k.2 b n).trans e;have eb:∀h',CA I s.heap h'->Pn I s.heap h':=λh' k b o n e=>k b o n e;cases it with
 |st xs=>
  simp only[jg,Tc]at e;subst e
  clear r
  rcases x with⟨t,vs,m,e1,e2,e3⟩|⟨a,b,e1,e2,e3⟩
  ·cases q:xs[i]? with
   |none=>
    refine wpAny_pyNext_tuple_end AK.hh e3 (items:=vs.toArray) (uf e1) (by simpa using e2.none_of q) λh' hx=> ?_;exact⟨h',s.toks,rfl,eb h' hx,rfl⟩
   |some v=>
    obtain⟨val,y1,y2⟩:=e2.get q;refine wpAny_pyNext_tuple_item e3 (items:=vs.toArray) (uf e1) (x:=val) (by simpa using y1) λh' hx hs=> ?_;have k:=imm h' (sb h' hs);exact⟨h',s.toks,rfl,sb h' hs,val,rfl,y2.mono (Ha _) k,.inl ⟨t,vs,m,k _ _ e1 rfl,e2.mono (Ha _) k,hx⟩⟩
  ·subst e1
   by_cases wh:i<(b - a).toNat
   ·rw[OG wh]
    refine wpAny_pyNext_range_item e3 (by omega) λh' hx hs=> ?_;refine⟨h',_,rfl,sb h' hs,_,rfl,.int _ _,.inr ⟨a,b,rfl,wh,?_⟩⟩;have:a+((i+1:Nat):Int)=a+(i:Int)+1:=by push_cast;omega
    rw[this,show(((b - a).toNat:Int) - ((i+1:Nat):Int))=((b - a).toNat:Int) - (i:Int) - 1 by push_cast;omega];exact hx
   ·have:(gd a b)[i]? =ba:=by simp[gd,Jj];omega
    rw[this];refine wpAny_pyNext_range_end AK.hh e3 (by omega) λh' hx=> ?_;exact⟨h',s.toks,rfl,eb h' hx,rfl⟩
 |dyn l=>
  obtain⟨a,e1,e2⟩:=x;simp only[jg]at e
  split at e
  ·rename_i xs q
   cases e;obtain⟨a',ea,vs,m,q1,q2,q3⟩:=r.at q;rw[e1]at ea;cases ea;cases q':xs[i]? with
   |none=>
    refine wpAny_pyNext_list_end AK.hh e2 (He q1) (by simpa using q3.none_of q') λh' hx=> ?_;exact⟨h',s.toks,rfl,eb h' hx,rfl⟩
   |some v=>
    obtain⟨val,y1,y2⟩:=q3.get q';refine wpAny_pyNext_list_item e2 (He q1) (x:=val) (by simpa using y1) λh' hx hs=> ?_;have k:=imm h' (sb h' hs);exact⟨h',s.toks,rfl,sb h' hs,val,rfl,y2.mono (Ha _) k,a,e1,hx⟩
  ·cases e
theorem Gw {it:It} {x:ya} (r:R w hb ρ σ s.heap) (xv:VR w ρ s.heap v x) (e:te v σ=aa it):
 Wa (Fb pg w) A (pyIter x) (λq s'=>∃h' tk',q=.ref s.heap.objs.size/\s'={s with heap:=h',toks:=tk'}/\(∀b o,s.heap.get? b=aa o->h'.get? b=aa o)/\Yj w ρ h' s.heap.objs.size 0 it) No s:=by
 unfold te at e
 split at e
 ·cases e
  cases xv with
  | @tup t _ vs m nav ea la qa=>
  refine wpAny_pyIter_tuple (uf ea) ⟨_,s.toks,rfl,rfl,λb o e=>Da _ e,.inl ⟨t,vs,m,Da _ ea,qa.mono (Ha _) λa o e _=>Da _ e,_,Pa _ rfl,rfl,rfl⟩⟩
 ·split at e<;>cases e
  rename_i a b hr;cases xv with
  | @rng ra _ _ t u v' h0=>
  have hn:=Ln a b;refine wpAny_pyIter_range h0 (small_one (by omega) (by omega) (by omega) (by omega)) ⟨_,s.toks,rfl,rfl,λb o e=>Da _ e,.inr ⟨a,b,rfl,Ae _,?_⟩⟩
  show IsRangeIter _ _ _ _ _
  rw[hn]
  simpa using Pa s.heap (o:={cls:=.type "range_iterator",data:=.fields #[rawInt a,rawInt ((b - a).toNat:Int),rawInt 1]}) rfl
 ·split at e<;>cases e
  rename_i xs q;obtain⟨a,vs,m,rfl,ea,q1,q2,q3⟩:=r.list q xv;exact wpAny_pyIter_list (He q1) ⟨_,s.toks,rfl,rfl,λb o e=>Da _ e,a,ea,_,Pa _ rfl,rfl,rfl⟩
 ·cases e
end
end Mine
namespace Mine
variable [Av]
def Bm (env:Env):List (Rb×NameKind)->List (Rb×Qa)->List (Rb×Qa)
 | [],Cc=>Cc
 |(n,k)::r,Cc=>Bm env r (if k== .free then(n,(env.cells.lookup n).getD 0)::Cc else Cc)
theorem Dx (env:Env):∀(names:List (Rb×NameKind)) (Cc:List (Rb×Qa)) (x:Rb) (c:Qa),(x,c)∈Bm env names Cc->(x,c)∈Cc\/((x,Yc)∈names/\c=(env.cells.lookup x).getD 0)
 | [],_,_,_,h=>.inl h
 |(n,k)::r,Cc,x,c,h=>by
  rcases Dx env r _ x c h with q|q
  ·split at q
   ·rename_i hk
    rcases Fa.mp q with e|e
    ·cases e
     have:k=.free:=by simpa using hk
     subst this;exact .inr ⟨Ma,rfl⟩
    ·exact .inl e
   ·exact .inl q
  ·exact .inr ⟨Ia _ q.1,q.2⟩
theorem Ax (env:Env):∀(names:List (Rb×NameKind)) (Cc:List (Rb×Qa)) (p:Rb×Qa),p∈Cc->p∈Bm env names Cc
 | [],_,_,h=>h
 |(n,k)::r,Cc,p,h=>Ax env r _ p (by split;exact Ia _ h;exact h)
theorem Bx (env:Env):∀(names:List (Rb×NameKind)) (Cc:List (Rb×Qa)) (x:Rb),(x,Yc)∈names->(x,(env.cells.lookup x).getD 0)∈Bm env names Cc
 |(n,k)::r,Cc,x,h=>by
  rcases Fa.mp h with e|e
  ·cases e
   exact Ax env r _ _ (by simp)
  ·exact Bx env r _ x e
theorem Un (env:Env) (hp:env.cells.Pairwise λx y=>x.2≠y.2):∀(names:List (Rb×NameKind)) (Cc:List (Rb×Qa)),(names.map (·.1)).Nodup->(∀x k,(x,k)∈names->k=Yc->∃c,env.cells.lookup x=aa c)->
 (∀p∈Cc,env.cells.lookup p.1=aa p.2/\p.1∉names.map (·.1))->Cc.Pairwise (λx y=>x.2≠y.2)->(Bm env names Cc).Pairwise λx y=>x.2≠y.2
 | [],_,_,_,_,h=>h
 |(n,k)::r,Cc,nd,hc,ha,h=>by
  rw[sa,Gc]at nd;unfold Bm
  split
  ·rename_i hk
   have hk:k=.free:=by simpa using hk
   obtain⟨c,hcn⟩:=hc n k Ma hk;refine Un env hp r _ nd.2 (λx k hx=>hc x k (Ia _ hx)) ?_ ?_
   ·intro p hp'
    rcases Fa.mp hp' with e|e
    ·subst e;exact⟨by simp[hcn],nd.1⟩
    ·exact⟨(ha p e).1,λq=>(ha p e).2 (Ia _ q)⟩
   ·refine Kf.mpr ⟨λp hp'=> ?_,h⟩
    obtain⟨e1,e2⟩:=ha p hp';intro e;have e3:p.2=c:=by rw[<-e];simp[hcn]
    have:=name_of_addr hp (mem_of_lookup hcn) (e3▸mem_of_lookup e1);exact e2 (by rw[<-this];exact Ma)
  ·exact Un env hp r _ nd.2 (λx k hx=>hc x k (Ia _ hx)) (λp hp'=>⟨(ha p hp').1,λq=>(ha p hp').2 (Ia _ q)⟩) h
theorem uz (env:Env) (scope:Scope) (hc:∀x k,(x,k)∈scope.names->k=Yc->∃c,env.cells.lookup x=aa c):closureFor scope env=pure (Bm env scope.names []):=by
 unfold closureFor;have go:∀(names:List (Rb×NameKind)) (Cc:List (Rb×Qa)),(∀x k,(x,k)∈names->k=Yc->∃c,env.cells.lookup x=aa c)->
  (forIn names Cc λ(x:Rb×NameKind) r=>(do
   if x.2== .free then do
    let c<-cellOf env x.1
    pure (Hf ((x.1,c)::r))
   else pure (Hf r):Sem (ForInStep (List (Rb×Qa)))))=pure (Bm env names Cc):=by
  intro names
  induction names with
  |nil=>intro Cc _;rfl
  |cons p r ih=>
   intro Cc hc;obtain⟨n,k⟩:=p;rw[Aj]
   by_cases hk:k=.free
   ·subst hk
    obtain⟨c,hcn⟩:=hc n _ Ma rfl;have h1:cellOf env n=pure c:=by unfold cellOf;rw[hcn]
    simp only[h1,Bm,beq_self_eq_true,if_true,hcn,Option.getD_some];exact ih _ λx k hx=>hc x k (Ia _ hx)
   ·have hk':(k==Yc)=false:=by simpa using hk
    simp only[hk',Bm,Nc,if_false];exact ih _ λx k hx=>hc x k (Ia _ hx)
 exact(congrArg (λm=>m>>=λcs=>pure cs) (go scope.names [] hc)).trans rfl
theorem nh (h:Gb) (o:Obj):(h.push o).objs.size=h.objs.size+1:=Td ..
theorem ui:∀(names:List (Rb×NameKind)) (h:Gb) (a:Qa),h.objs.size<=a->a<(pushCells h names).objs.size->((pushCells h names).get? a).isSome=true
 | [],h,a,h1,h2=>absurd h2 (fj.mpr h1)
 |(n,k)::r,h,a,h1,h2=>by
  unfold pushCells at h2|-
  split
  ·rename_i hk
   rw[if_pos hk]at h2
   by_cases e:a=h.objs.size
   ·subst e
    rw[pushCells_keeps r _ _ _ (Pa h (o:={cls:=.type "cell",data:=.cell ba}) rfl)];rfl
   ·exact ui r _ a (by rw[nh];exact Yp h1 (de e)) h2
  ·rename_i hk
   rw[if_neg hk]at h2;exact ui r h a h1 h2
theorem yp:∀(names:List (Rb×NameKind)) (h:Gb),h.objs.size<=(pushCells h names).objs.size
 | [],_=>Le _
 |(n,k)::r,h=>by
  unfold pushCells
  split
  ·exact Eb (by rw[nh];exact wi _) (yp r _)
  ·exact yp r h
theorem Ek:∀(names:List (Rb×NameKind)) (h:Gb) (a:Qa) (o:Obj),(pushCells h names).get? a=aa o->h.get? a=ba->o.data=.cell ba
 | [],h,a,o,e,q=>by rw[show(pushCells h []).get? a=h.get? a from rfl,q]at e;cases e
 |(n,k)::r,h,a,o,e,q=>by
  unfold pushCells at e
  split at e
  ·by_cases z:a=h.objs.size
   ·subst z
    have:=pushCells_keeps r _ _ _ (Pa h (o:={cls:=.type "cell",data:=.cell ba}) rfl);rw[this]at e;cases e;rfl
   ·refine Ek r _ a o e ?_
    cases z2:(h.push {cls:=.type "cell",data:=.cell ba}).get? a with
    |none=>rfl
    |some o'=>
     have wh:=Wb z2;rw[nh]at wh;have hlt':a<h.objs.size:=Yp (Nat.lt_succ_iff.mp wh) z;unfold MK at z2 q;rw[show(h.push {cls:=.type "cell",data:=.cell ba}).objs=h.objs.push {cls:=.type "cell",data:=.cell ba}from rfl,Array.getElem?_push_lt hlt']at z2;rw[Array.getElem?_eq_getElem hlt']at q;rw[z2]at q;cases q
  ·exact Ek r h a o e q
theorem Eh:∀(names:List (Rb×NameKind)) (n:Nat) (Cc:List (Rb×Qa)),∃new:List (Rb×Qa),cellsFrom n names Cc=new++Cc/\(∀p∈new,n<=p.2/\(p.1,ve)∈names)/\(∀x,(x,ve)∈names->∃c,(x,c)∈new)/\new.Pairwise (λx y=>x.2≠y.2)/\
 (∀p∈new,p.2<n+(names.filter λx=>x.2== .cell).length)
 | [],n,Cc=>⟨[],rfl,λp h=>(by cases h),λx h=>(by cases h),.nil,λp h=>(by cases h)⟩
 |(m,k)::r,n,Cc=>by
  unfold cellsFrom
  split
  ·rename_i hk
   have hk':k=.cell:=by simpa using hk
   subst hk';obtain⟨new,e,h1,h2,h3,h4⟩:=Eh r (n+1) ((m,n)::Cc);refine⟨new++[(m,n)],by rw[e];simp,λp hp=> ?_,λx hx=> ?_,?_,λp hp=> ?_⟩
   ·rcases db.mp hp with q|q
    ·have:=h1 p q;exact⟨bl this.1,Ia _ this.2⟩
    ·rw[jb]at q;subst q;exact⟨Le _,Ma⟩
   ·rcases Fa.mp hx with q|q
    ·cases q;exact⟨n,Vi _ Ma⟩
    ·obtain⟨c,hc⟩:=h2 x q;exact⟨c,Xf _ hc⟩
   ·refine zn.mpr ⟨h3,by simp,λp hp q hq=> ?_⟩
    rw[jb]at hq;subst hq;have:=(h1 p hp).1;exact Ii this
   ·have hl:((m,ve)::r).filter (λx=>x.2== .cell)=(m,ve)::r.filter (λx=>x.2== .cell):=by simp
    rw[hl,cb];rcases db.mp hp with q|q
    ·exact Zp (h4 p q) (Nat.le_of_eq (by rw[Nat.add_right_comm];rfl))
    ·rw[jb]at q;subst q;exact Nat.lt_add_of_pos_right (Nat.succ_pos _)
  ·rename_i hk
   obtain⟨new,e,h1,h2,h3,h4⟩:=Eh r n Cc;refine⟨new,e,λp hp=>⟨(h1 p hp).1,Ia _ (h1 p hp).2⟩,λx hx=> ?_,h3,λp hp=> ?_⟩
   ·rcases Fa.mp hx with q|q
    ·cases q;simp at hk
    ·exact h2 x q
   ·have hl:((m,k)::r).filter (λx=>x.2== .cell)=r.filter (λx=>x.2== .cell):=by simp at hk;simp[hk]
    rw[hl];exact h4 p hp
theorem Mj:∀(names:List (Rb×NameKind)) (h:Gb),(pushCells h names).objs.size=h.objs.size+(names.filter λx=>x.2== .cell).length
 | [],_=>rfl
 |(n,k)::r,h=>by
  unfold pushCells
  split
  ·rename_i hk
   rw[Mj r,nh];have hk':k=.cell:=by simpa using hk
   subst hk';have hl:((n,ve)::r).filter (λx=>x.2== .cell)=(n,ve)::r.filter (λx=>x.2== .cell):=by simp
   rw[hl,cb,qx,Nat.add_comm 1]
  ·rename_i hk
   rw[Mj r];have hl:((n,k)::r).filter (λx=>x.2== .cell)=r.filter (λx=>x.2== .cell):=by simp at hk;simp[hk]
   rw[hl]
theorem ky {prog:Program} {w:Lb} {A:lc} {E:ya->Sa->Prop} {scope:Scope} {globals:Qa} {cl:List (Rb×Qa)} {qual:Rb} {outer:Env} {s:Sa} {Q:Env->Sa->Prop}
 (hQ:Q {scope:=scope,locals:=s.heap.objs.size,globals:=globals,cells:=cellsFrom (s.heap.objs.size+1) scope.names cl,qual:=qual,func:=ba,code:=outer.code,frame:=outer.frame,builtins:=outer.builtins}
  {s with heap:=pushCells (s.heap.push {cls:=.type "dict",data:=.dict #[]}) scope.names}):
 Wa (Fb prog w) A (newFunctionEnv scope globals cl [] qual ba .none (aa outer)) Q E s:=by
 unfold newFunctionEnv;refine ia (wpAny_alloc ?_);refine ia (wpAny_layCells _ (λname kind cells=>rfl) _ _ _ _ ?_);rw[show({s with heap:=s.heap.push {cls:=.type (if(aa outer).isSome=true then "dict"else "frame"),data:=.dict #[]}}:Sa).heap.objs.size=s.heap.objs.size+1 from Td ..];refine ia ?_;rw[Bi];exact Ba (Ba hQ)
end Mine
namespace Mine
variable [Av]
section
variable {w:Lb} {hb:Gb} {A:lc} {env:Env} {eo:Qa->Prop} {lo:Nat} {me Qb:Me} {K:Frag} {tab:gi} {n:Nat} {g:Gl} {ρ:List Qa} {σ Ca:St} {s:Sa} {v:V} {L:Qa} {sc sc':Sc} {scope:Scope}
structure Vv (sc:Sc) (scope:Scope) (sc':Sc):Prop where
 kind:scope.kind=.function
 loc:∀x∈scope.names,x.2=.local->scope.names.lookup x.1=aa .local
 free:∀x k,(x,k)∈scope.names->k=Yc->sc.kinds.lookup x=aa .cell\/sc.kinds.lookup x=aa .free
 look:∀x k,(x,k)∈scope.names->scope.names.lookup x=aa k
 nd:(scope.names.map (·.1)).Nodup
 kinds:sc'.kinds=Yq scope.names sc.kinds
 sl:sc'.sl=sc.sl++Jh scope.names
theorem Yu (h:wz sc scope=aa sc'):Vv sc scope sc':=by
 unfold wz at h
 split at h<;>cases h
 rename_i q;simp only[La,Jb,decide_eq_true_eq,beq_iff_eq]at q;obtain⟨⟨⟨⟨⟨⟨⟨q1,q2⟩,q3⟩,q4⟩,q5⟩,q6⟩,q7⟩,q8⟩:=q;refine⟨q1,λx hx hl=> ?_,λx k hx hk=> ?_,λx k hx=>q6 (x,k) hx,q8,rfl,rfl⟩
 ·have:=q6 x hx;rw[this,hl]
 ·subst hk
  have:=q5 (x,Yc) hx;simp only[beq_self_eq_true,Zb,Zw]at this
  split at this
  ·left;assumption
  ·right;assumption
  ·cases this
theorem Ap {names outer:List (Rb×NameKind)} {x:Rb}:(Yq names outer).lookup x=(names.lookup x).map λk=>if(k== .free&&outer.lookup x==aa .cell)then ve else k:=by
 induction names with
 |nil=>rfl
 |cons p r ih=>
  obtain⟨n,k⟩:=p;unfold Yq at ih|-;rw[sa]
  by_cases hc:(k==Yc&&outer.lookup n==aa ve)=true
  ·by_cases h:x=n
   ·subst h
    simp only[hc,if_true,Wd,beq_self_eq_true,Se]
   ·have hb:(x==n)=false:=by simpa using h
    simp only[hc,if_true,Wd,hb];exact ih
  ·have hc':(k==Yc&&outer.lookup n==aa ve)=false:=by simpa using hc
   by_cases h:x=n
   ·subst h
    simp only[hc',Nc,if_false,Wd,beq_self_eq_true,Se]
   ·have hb:(x==n)=false:=by simpa using h
    simp only[hc',Nc,if_false,Wd,hb];exact ih
theorem Gu (hk:env.scope.kind=.function) (hn:env.scope.names=sc.kinds):(relabel scope env).names=Yq scope.names sc.kinds:=by
 unfold relabel Yq;simp only[hk,beq_self_eq_true,Rg];refine Af λp _=> ?_;unfold km;rw[hn]
theorem wp {names:List (Rb×NameKind)} {x:Rb}:x∈Jh names↔∃k,(x,k)∈names/\(k=.local\/k=.cell):=by
 unfold Jh;rw[Bb]
 constructor
 ·rintro⟨⟨y,k⟩,h,rfl⟩
  rw[jc]at h;exact⟨k,h.1,by simpa using h.2⟩
 ·rintro⟨k,h,q⟩
  exact⟨(x,k),jc.mpr ⟨h,by simpa using q⟩,rfl⟩
theorem Hy {sl:List Rb} {x:Rb}:x∈sl->∃i,Jc sl x=aa i:=by
 induction sl with
 |nil=>intro h;cases h
 |cons y r ih=>
  intro h;unfold Jc;cases e:Jc r x with
  |some i=>exact⟨i+1,rfl⟩
  |none=>
   rcases Fa.mp h with q|q
   ·subst q;exact⟨0,by simp⟩
   ·obtain⟨i,hi⟩:=ih q;rw[e]at hi;cases hi
theorem Co {sl:List Rb} {x:Rb} {i:Nat} (h:Jc sl x=aa i):x∈sl:=ma (Rj h)
theorem Yz {α:Type} {l1 l2:List (Rb×α)} {x:Rb} (h:∀p∈l1,p.1≠x):(l1++l2).lookup x=l2.lookup x:=by
 induction l1 with
 |nil=>rfl
 |cons p r ih=>
  have:(x==p.1)=false:=by simpa usingλq=>(h p Ma) q.symm
  rw[wb,Wd,this];exact ih λq hq=>h q (Ia _ hq)
theorem Gh {α:Type} {l:List (Rb×α)} {x:Rb} {c:α} (h:(x,c)∈l):∃c',l.lookup x=aa c'/\(x,c')∈l:=by
 induction l with
 |nil=>cases h
 |cons p r ih=>
  by_cases q:x=p.1
  ·exact⟨p.2,by rw[Wd,show(x==p.1)=true by simpa using q],by rw[q];exact Ma⟩
  ·rcases Fa.mp h with e|e
   ·exact absurd (by rw[<-e]) q
   ·obtain⟨c',h1,h2⟩:=ih e
    exact⟨c',by rw[Wd,show(x==p.1)=false by simpa using q];exact h1,Ia _ h2⟩
abbrev fg (s:Sa) (scope:Scope):Gb:=pushCells (s.heap.push {cls:=.type "dict",data:=.dict #[]}) scope.names
abbrev gk (s:Sa) (scope:Scope) (env:Env):Env:={scope:=relabel scope env,locals:=s.heap.objs.size,globals:=env.globals,cells:=cellsFrom (s.heap.objs.size+1) scope.names (Bm env scope.names []),qual:=env.qual,func:=ba,code:=env.code,frame:=env.frame,builtins:=env.builtins}
def jw (s:Sa) (scope:Scope) (a:Qa):Prop:=s.heap.objs.size<=a/\a<(fg s scope).objs.size
theorem An (a:Qa) (o:Obj) (e:s.heap.get? a=aa o):(fg s scope).get? a=aa o:=pushCells_keeps _ _ _ _ (Da _ e)
theorem Ll {h:Gb} {a:Qa} (ha:h.objs.size<=a):h.get? a=ba:=by
 cases e:h.get? a with
 |none=>rfl
 |some o=>exact absurd (Wb e) (fj.mpr ha)
theorem Fx (C:Vv sc scope sc') (hk:env.scope.names=sc.kinds) (r:R w hb ρ σ s.heap) (E:wd w hb env eo sc.sl lo me ρ s.heap):
 wd w hb (gk s scope env) (jw s scope) sc'.sl sc.sl.length (me++Aa (Jh scope.names).length ba) ρ (fg s scope)/\(gk s scope env).scope.names=sc'.kinds/\closureFor scope env=pure (Bm env scope.names []):=by
 have Rx:∀x k,(x,k)∈scope.names->k=Yc->∃c v,env.cells.lookup x=aa c/\s.heap.IsCell c v/\(env.kindOf x=aa .cell\/env.kindOf x=aa .free):=λx k hx hf=>by
  have hq:=C.free x k hx hf;have hq':env.kindOf x=aa .cell\/env.kindOf x=aa .free:=by unfold km;rw[hk];exact hq
  rcases hq with q|q
  ·obtain⟨c,v,h1,h2⟩:=E.has x .cell (by rw[hk];exact mem_of_lookup q) (.inl rfl)
   exact⟨c,v,h1,h2,hq'⟩
  ·obtain⟨c,v,h1,h2⟩:=E.has x .free (by rw[hk];exact mem_of_lookup q) (.inr rfl)
   exact⟨c,v,h1,h2,hq'⟩
 have hclos:=uz env scope λx k hx hf=>let ⟨c,_,h,_⟩:=Rx x k hx hf;⟨c,h⟩;have jq:(relabel scope env).names=sc'.kinds:=by rw[Gu E.kind hk,C.kinds]
 refine⟨?_,jq,hclos⟩;obtain⟨new,e1,n1,n2,n3,n4⟩:=Eh scope.names (s.heap.objs.size+1) (Bm env scope.names []);have hsz:(fg s scope).objs.size=s.heap.objs.size+1+(scope.names.filter λx=>x.2== .cell).length:=by
  show(pushCells _ _).objs.size=_
  rw[Mj,nh]
 have Sq:=An (s:=s) (scope:=scope);have hCd:(fg s scope).get? s.heap.objs.size=aa {cls:=.type "dict",data:=.dict #[]}:=pushCells_keeps _ _ _ _ (Pa _ rfl);have hcl:∀x c,(x,c)∈Bm env scope.names []->(x,Yc)∈scope.names/\env.cells.lookup x=aa c:=λx c h=>by
  rcases Dx env scope.names [] x c h with q|⟨q1,q2⟩
  ·cases q
  ·obtain⟨c',v,h1,_⟩:=Rx x _ q1 rfl
   exact⟨q1,by rw[h1,q2,h1];rfl⟩
 have hlook:∀x,(x,Yc)∈scope.names->∃c v,(cellsFrom (s.heap.objs.size+1) scope.names (Bm env scope.names [])).lookup x=aa c/\env.cells.lookup x=aa c/\s.heap.IsCell c v/\(env.kindOf x=aa .cell\/env.kindOf x=aa .free):=λx hx=>by
  obtain⟨c,v,h1,h2,h3⟩:=Rx x _ hx rfl;obtain⟨c',q1,q2⟩:=Gh (Bx env scope.names [] x hx);have:=(hcl x c' q2).2;rw[h1]at this;cases this;refine⟨c,v,?_,h1,h2,h3⟩;rw[e1,Yz λp hp q=> ?_]
  ·exact q1
  ·have:=C.look _ _ (n1 p hp).2
   rw[q,C.look _ _ hx]at this;cases this
 have hown:∀x,(x,ve)∈scope.names->∃c,(cellsFrom (s.heap.objs.size+1) scope.names (Bm env scope.names [])).lookup x=aa c/\s.heap.objs.size+1<=c/\c<(fg s scope).objs.size/\(fg s scope).IsCell c ba:=λx hx=>by
  obtain⟨c,hc⟩:=n2 x hx;obtain⟨c',q1,q2⟩:=Gh (l:=new++Bm env scope.names []) (Xf _ hc);have hc':(x,c')∈new:=by
   rcases db.mp q2 with q|q
   ·exact q
   ·have:=C.look _ _ (hcl x c' q).1
    rw[C.look _ _ hx]at this;cases this
  have wh:c'<(fg s scope).objs.size:=by rw[hsz];exact n4 _ hc'
  refine⟨c',by rw[e1];exact q1,(n1 _ hc').1,wh,?_⟩;have hlive:=ui scope.names (s.heap.push {cls:=.type "dict",data:=.dict #[]}) c' (by rw[nh];exact(n1 _ hc').1) wh;obtain⟨o,ho⟩:=Ta.mp hlive;exact⟨o,ho,Ek scope.names _ c' o ho (Ll (by rw[nh];exact(n1 _ hc').1))⟩
 have hkind:∀x k,(gk s scope env).kindOf x=aa k->∃k0,(x,k0)∈scope.names/\(k=k0\/(k0=.free/\k=.cell)):=λx k hx=>by
  have:(relabel scope env).names.lookup x=aa k:=hx;rw[jq,C.kinds,Ap]at this;cases q:scope.names.lookup x with
  |none=>rw[q]at this;cases this
  |some k0=>
   rw[q]at this;simp only[Se,Tc]at this;refine⟨k0,mem_of_lookup q,?_⟩
   split at this
   ·rename_i z;simp at z;exact .inr ⟨z.1,this.symm⟩
   ·exact .inl this.symm
 have hkind2:∀x k0,(x,k0)∈scope.names->k0=.local\/k0=.cell->(gk s scope env).kindOf x=aa k0:=λx k0 hx hl=>by
  show(relabel scope env).names.lookup x=aa k0
  rw[jq,C.kinds,Ap,C.look _ _ hx];rcases hl with q|q<;>subst q<;>rfl
 have hmeown:∀x i v,Jc sc'.sl x=aa i->x∈Jh scope.names->(me++Aa (Jh scope.names).length ba)[i]? ≠aa (aa v):=λx i v hs hx q=>by
  rw[C.sl,Ui]at hs;obtain⟨j,hj⟩:=Hy hx;rw[hj]at hs;simp only[Tc]at hs;subst hs;have hlen:=E.len;rw[Ra (by omega),oi]at q
  split at q<;>cases q
 have hmeout:∀x i v,Jc sc'.sl x=aa i->x∉Jh scope.names->(me++Aa (Jh scope.names).length ba)[i]? =aa (aa v)->Jc sc.sl x=aa i/\me[i]? =aa (aa v):=λx i v hs hx q=>by
  rw[C.sl,Ui]at hs;cases z:Jc (Jh scope.names) x with
  |some j=>exact absurd (Co z) hx
  |none=>
   rw[z]at hs;have hs':Jc sc.sl x=aa i:=hs;have:=zq hs';rw[ta (by rw[E.len];exact this)]at q;exact⟨hs',q⟩
 refine⟨C.kind,E.globals,E.builtins,by rw[C.sl];simp[E.len],⟨λ_=>ba,⟨_,#[],0,hCd,rfl,λe he=>by simp at he,λx=>by rfl⟩,λx i v hs hl hm=> ?_⟩,λx i v hs hl hm=> ?_,⟨yf r (Hb _),Ge r (Hb _),Le _,by rw[hsz];exact Zp (ej _) (UF _ _)⟩,λx k hx hl=> ?_,?_,λx i hs hl=> ?_,λa ha=>Ge r (Ll ha.1),λa ha=> ?_⟩
 ·obtain⟨k0,h1,h2⟩:=hkind x _ hl
  have:k0=.local:=by rcases h2 with q|⟨_,q⟩;exact q.symm;cases q
  subst this;exact absurd hm (hmeown x i v hs (wp.mpr ⟨_,h1,.inl rfl⟩))
 ·have iu:∃k0,(x,k0)∈scope.names/\(k0=.cell\/k0=.free):=by
   rcases hl with hl|hl
   ·obtain⟨k0,h1,h2⟩:=hkind x _ hl
    rcases h2 with q|⟨q,_⟩
    ·exact⟨k0,h1,.inl q.symm⟩
    ·exact⟨k0,h1,.inr q⟩
   ·obtain⟨k0,h1,h2⟩:=hkind x _ hl
    rcases h2 with q|⟨_,q⟩
    ·exact⟨k0,h1,.inr q.symm⟩
    ·cases q
  obtain⟨k0,h1,h2⟩:=iu;rcases h2 with q|q
  ·subst q;exact absurd hm (hmeown x i v hs (wp.mpr ⟨_,h1,.inr rfl⟩))
  ·subst q
   have Ys:x∉Jh scope.names:=λz=>by
    obtain⟨k,z1,z2⟩:=wp.mp z;have a:=C.look _ _ z1;rw[C.look _ _ h1]at a;cases a;rcases z2 with z2|z2<;>cases z2
   obtain⟨g1,g2⟩:=hmeout x i v hs Ys hm;obtain⟨c,v0,c1,c2,c3,c4⟩:=hlook x h1;obtain⟨c',val,d1,d2,d3⟩:=E.cells x i v g1 c4 g2;rw[c2]at d1;cases d1;exact⟨c,val,c1,d2.keeps Sq,d3.mono (Ha _) λa o e _=>Sq a o e⟩
 ·have hx':(x,k)∈Yq scope.names sc.kinds:=by rw[<-C.kinds,<-jq];exact hx
  unfold Yq at hx';obtain⟨⟨y,k0⟩,h1,h2⟩:=Bb.mp hx';have hy:y=x/\(k0=.cell\/k0=.free):=by
   simp only at h2
   split at h2
   ·rename_i z;simp at z;cases h2;exact⟨rfl,.inr z.1⟩
   ·cases h2;exact⟨rfl,hl⟩
  obtain⟨rfl,hy⟩:=hy;rcases hy with q|q
  ·subst q
   obtain⟨c,c1,_,_,c2⟩:=hown y h1;exact⟨c,ba,c1,c2⟩
  ·subst q
   obtain⟨c,v0,c1,c2,c3,_⟩:=hlook y h1;exact⟨c,v0,c1,c3.keeps Sq⟩
 ·show(cellsFrom _ _ _).Pairwise _
  rw[e1,zn];refine⟨n3,Un env E.apart scope.names [] C.nd (λx k hx hf=>let ⟨c,_,h,_⟩:=Rx x k hx hf;⟨c,h⟩) (λp hp=>by cases hp) .nil,λp hp q hq e=> ?_⟩;obtain⟨y,c⟩:=q;obtain⟨h1,h2⟩:=hcl y c hq;obtain⟨c',v,h3,h4,_⟩:=Rx y _ h1 rfl;rw[h2]at h3;cases h3;have:=h4.lt;have h5:=(n1 p hp).1;rw[e]at h5;exact absurd this (fj.mpr (bl h5))
 ·have hx:x∈Jh scope.names:=by
   rw[C.sl,Ui]at hs;cases z:Jc (Jh scope.names) x with
   |some j=>exact Co z
   |none=>rw[z]at hs;exact absurd (zq (show Jc sc.sl x=aa i from hs)) (fj.mpr hl)
  obtain⟨k,z1,z2⟩:=wp.mp hx;rcases z2 with z2|z2
  ·subst z2;exact .inl (hkind2 x _ z1 (.inl rfl))
  ·subst z2
   obtain⟨c,c1,c2,c3,c4⟩:=hown x z1;exact .inr ⟨hkind2 x _ z1 (.inr rfl),c,ba,c1,c4,Ge r (Ll (bl c2)),bl c2,c3⟩
 ·by_cases q:a=s.heap.objs.size
  ·subst q;rw[hCd];rfl
  ·exact ui scope.names _ a (by rw[nh];exact Yp ha.1 (de q)) ha.2
end
end Mine
namespace Mine
variable [Av]
section
variable {w:Lb} {hb:Gb} {A:lc} {env:Env} {eo:Qa->Prop} {sl:List Rb} {lo:Nat} {me Qb:Me} {K:Frag} {tab:gi} {n:Nat} {g:Gl} {ρ:List Qa} {σ Ca:St} {s:Sa} {v:V} {L D:Qa}
inductive yk (w:Lb) (hb:Gb) (A:lc) (env:Env) (eo:Qa->Prop) (sl:List Rb) (lo:Nat) (me:Me):List Expr->List (St->Option (Bool×St))->Prop
 |nil:yk w hb A env eo sl lo me [] []
 |cons {e es F Fs}:Bh w hb A env eo sl lo me (isTrue e env (eval e env)) F->yk w hb A env eo sl lo me es Fs->yk w hb A env eo sl lo me (e::es) (F::Fs)
def sk:List (St->Option (Bool×St))->St->Option (Bool×St)
 | [],σ=>aa (true,σ)
 |F::Fs,σ=>match F σ with
  |some (true,Ja)=>sk Fs Ja
  |some (false,Ja)=>aa (false,Ja)
  |none=>ba
theorem Py {Q:Bool->Sa->Prop} {E:ya->Sa->Prop} {M:Model} {s:Sa}:∀{ifs:List Expr},Q false s->Wa M A (forIn ifs false λc r=>if r=true then do let ok<-isTrue c env (eval c env);pure (Hf ok)else pure (Hf r)) Q E s
 | [],h=>by rw[Bi];exact Ba h
 |c::ifs,h=>by
  rw[Aj];refine ia ?_;rw[if_neg ke];exact Ba (Py h)
theorem rF {es:List Expr} {Fs:List (St->Option (Bool×St))} (h:yk w hb A env eo sl lo me es Fs):
 Bh w hb A env eo sl lo me (forIn es true λc r=>if r=true then do let ok<-isTrue c env (eval c env);pure (Hf ok)else pure (Hf r)) (sk Fs):=by
 induction h with
 |nil=>intro ρ σ s v Ca r E e;cases e;exact wpAny_tests_nil (PB.same0 r)
 | @cons e es F Fs h _ ih=>
  intro ρ σ s v Ca r E e';rw[Aj];refine ia ?_;rw[if_pos rfl];simp only[sk]at e';cases hF:F σ with
  |none=>simp only[hF]at e';cases e'
  |some p=>
   obtain⟨b,Ja⟩:=p;simp only[hF]at e';refine ia (Ea (h ρ σ s b Ja r E hF) (λa s1 p1=>Ba ?_) λ_ _ x=>x);obtain⟨bf,h1,tk1,rfl,k1,r1,rfl⟩:=p1;cases a with
   |true=>exact Ea (ih bf Ja _ v Ca r1 (E.kx r k1) e') (λb s2 p2=>PB.after k1 p2) λ_ _ x=>x
   |false=>cases e';exact Py ⟨bf,h1,tk1,rfl,k1,r1,rfl⟩
def PM (w:Lb) (hb:Gb) (env:Env) (eo:Qa->Prop) (sl:List Rb) (lo:Nat) (me:Me) (D:Qa) (Cc:List ya) (ρ:List Qa) (s:Sa) (Ca:St) (vs:List V) (s':Sa):Prop:=
 ∃Zd h' tk' vals m',s'={s with heap:=h',toks:=tk'}/\Kp (λa=>eo a\/a=D) ρ s.heap h' Zd/\R w hb Zd Ca h'/\wd w hb env eo sl lo me Zd h'/\h'.get? D=aa (listOf (Cc++vals).toArray m')/\D∉Zd/\og w Zd h' vs vals
structure iH (hb:Gb) (eo:Qa->Prop) (D:Qa) (Cc:List ya) (ρ:List Qa) (h:Gb):Prop where
 at_:∃m,h.get? D=aa (listOf Cc.toArray m)
 out:D∉ρ
 own:¬eo D
 base:hb.get? D=ba
def CJ (w:Lb) (hb:Gb) (A:lc) (env:Env) (eo:Qa->Prop) (sl:List Rb) (lo:Nat) (me:Me) (D:Qa) (t:Sem Unit) (r:St->Option (List V×St)):Prop:=
 ∀ρ σ s Cc vs Ca,R w hb ρ σ s.heap->wd w hb env eo sl lo me ρ s.heap->iH hb eo D Cc ρ s.heap->Cc.length+vs.length<=4096->r σ=aa (vs,Ca)->Wa (Fb pg w) A t (λ_=>PM w hb env eo sl lo me D Cc ρ s Ca vs) No s
theorem iH.kp {Cc:List ya} {h h':Gb} {Zd:List Qa} {ow:Qa->Prop} (d:iH hb eo D Cc ρ h) (k:Kp ow ρ h h' Zd) (hn:¬ow D):iH hb eo D Cc Zd h':=by
 obtain⟨m,hm⟩:=d.at_;exact⟨⟨m,k.keep _ _ hm d.out hn⟩,λq=>(by rcases k.fresh _ q with q|q;exact d.out q;rw[hm]at q;cases q),d.own,d.base⟩
theorem wd.kpD {h h':Gb} (E:wd w hb env eo sl lo me ρ h) (hD:¬eo D) (hDd:∀o,h.get? D=aa o->¬bh o/\(∀v,o.data≠ .cell v)) (hk:∀b o,b≠D->h.get? b=aa o->h'.get? b=aa o):wd w hb env eo sl lo me ρ h':=by
 obtain⟨m,hm,hv⟩:=E.ns;have hL:env.locals≠D:=λq=>hD (q▸E.loc.2.2);have Sm:∀b z,h.get? b=aa z->bh z->h'.get? b=aa z:=λb z e im=>hk b z (λq=>by subst q;exact(hDd z e).1 im) e;have keepC:∀c v,h.IsCell c v->h'.IsCell c v:=λc v x=>by
  obtain⟨o,e,d⟩:=x;exact⟨o,hk c o (λq=>by subst q;exact(hDd o e).2 v d) e,d⟩
 refine⟨E.kind,E.globals,E.builtins,E.len,⟨m,?_,λx i v a b c=> ?_⟩,λx i v a b c=> ?_,E.loc,λx k a b=> ?_,E.apart,λx i a b=> ?_,E.eoh,λa e=> ?_⟩
 ·obtain⟨o,es,ep,e,q⟩:=hm
  exact⟨o,es,ep,hk _ _ hL e,q⟩
 ·obtain⟨val,q1,q2⟩:=hv x i v a b c
  exact⟨val,q1,q2.mono (Ha _) Sm⟩
 ·obtain⟨c,val,q1,q2,q3⟩:=E.cells x i v a b c
  exact⟨c,val,q1,keepC _ _ q2,q3.mono (Ha _) Sm⟩
 ·obtain⟨c,v,q1,q2⟩:=E.has x k a b
  exact⟨c,v,q1,keepC _ _ q2⟩
 ·rcases E.own x i a b with q|⟨q,c,v,q1,q2,q3⟩
  ·exact .inl q
  ·exact .inr ⟨q,c,v,q1,keepC _ _ q2,q3⟩
 ·obtain⟨o,ho⟩:=Ta.mp (E.eol a e)
  rw[hk a o (λq=>by subst q;exact hD e) ho];rfl
theorem KX.kp {h h':Gb} {Zd:List Qa} (E:wd w hb env eo sl lo me ρ h) (k:KX env.locals ρ h h' Zd):Kp eo ρ h h' Zd:=k.toKp.weaken λa q=>by subst q;exact E.loc.2.2
theorem iG {e:Expr} {F:St->Option (V×St)} (hf:uc w hb A env eo sl lo me (eval e env) F):
 CJ w hb A env eo sl lo me D (do let _<-call (.builtin "list.append") [.ref D,<-eval e env];pure ()) (λσ=>match F σ with|some (v,Ja)=>aa ([v],Ja)|none=>ba):=by
 intro ρ σ s Cc vs Ca r E d hl e';cases hF:F σ with
 |none=>simp only[hF]at e';cases e'
 |some p=>
  obtain⟨x,Ja⟩:=p;simp only[hF]at e';cases e';refine ia (Ea (hf ρ σ s x _ r E hF) (λa s1 p1=> ?_) λ_ _ x=>x);obtain⟨bf,h1,tk1,rfl,k1,r1,x1⟩:=p1;have kp1:=k1.kp E;have d1:=d.kp kp1 d.own;have E1:=E.kx r k1;obtain⟨m,hm⟩:=d1.at_;refine ia (append_at (s:={s with heap:=h1,toks:=tk1}) hm (λh' hs ho=>Ba ?_) (by rw[gb,Mc];simp at hl;omega));have hk:∀b o,b≠D->h1.get? b=aa o->h'.get? b=aa o:=λb o n e=>(hs.2 b n).trans e;have hDd:∀o,h1.get? D=aa o->¬bh o/\(∀v,o.data≠ .cell v):=λo e=>by rw[hm]at e;cases e;exact⟨by simp[bh],λv q=>by cases q⟩
  have k2:Kp (λa=>eo a\/a=D) bf h1 h' bf:=Kp.beside (wr:=λa=>a=D) (λa o n e=>hk a o n e) λa q o e=>by subst q;exact⟨(hDd o e).1,.inr rfl,by rw[ho];rfl⟩
  have r2:R w hb bf _ h':=r1.beside (wr:=λa=>a=D) (λa o n e=>hk a o n e) λa q=>by subst q;exact⟨d1.out,d.base,λo e=>(hDd o e).1⟩
  exact⟨bf,h',tk1,[a],m+1,rfl,(kp1.weaken λa q=>.inl q).trans k2,r2,E1.kpD d.own hDd hk,by simpa using ho,d1.out,og.one (k2.vr x1)⟩
theorem wd.weaken {h:Gb} (E:wd w hb env eo sl lo Qb ρ h) (hl:me.length=Qb.length) (hm:∀(i:Nat) (v:V),me[i]? =aa (aa v)->Qb[i]? =aa (aa v)):wd w hb env eo sl lo me ρ h:=by
 obtain⟨m,hm1,hv⟩:=E.ns;exact⟨E.kind,E.globals,E.builtins,hl.trans E.len,⟨m,hm1,λx i v a b c=>hv x i v a b (hm i v c)⟩,λx i v a b c=>E.cells x i v a b (hm i v c),E.loc,E.has,E.apart,E.own,E.eoh,E.eol⟩
theorem YE {i:Nat} (h:me[i]? =aa ba):me.length=(me.set i (aa v)).length/\∀(j:Nat) (x:V),me[j]? =aa (aa x)->(me.set i (aa v))[j]? =aa (aa x):=
 ⟨by simp,λj x q=>by
  have:i≠j:=λz=>by subst z;rw[h]at q;cases q
  rw[Na this];exact q⟩
theorem Bt:∀{is:List Nat} {xs:List V} {me Qb:Me},bg is xs me=aa Qb->me.length=Qb.length/\∀(j:Nat) (x:V),me[j]? =aa (aa x)->Qb[j]? =aa (aa x)
 | [],[],_,_,h=>by simp[bg]at h;subst h;exact⟨rfl,λ_ _ q=>q⟩
 |i::is,v::vs,me,Qb,h=>by
  simp only[bg]at h
  split at h
  ·rename_i q
   obtain⟨a,b⟩:=YE (v:=v) q;obtain⟨c,d⟩:=Bt h;exact⟨a.trans c,λj x q=>d j x (b j x q)⟩
  ·cases h
 | [],_::_,_,_,h=>by simp[bg]at h
 |_::_,[],_,_,h=>by simp[bg]at h
theorem GD {t:CT} (h:yd t v me=aa Qb):me.length=Qb.length/\∀(j:Nat) (x:V),me[j]? =aa (aa x)->Qb[j]? =aa (aa x):=by
 unfold yd at h
 split at h
 ·split at h<;>cases h
  rename_i q;exact YE q
 ·exact Bt h
 ·cases h
def uH (elt:Expr) (Cc:ya) (env:Env):Sem Unit:=do let _<-call (.builtin "list.append") [Cc,<-eval elt env]
def El (e:Expr) (depth:Nat) (elt:Expr) (Cc:ya) (env:Env) (k:Sem Fin):List Comprehension->Sem Fin
 | []=>uH elt Cc env>>=λ_=>k
 |g'::_=>do
  let x<-eval g'.iter env
  standAt g'.iter.pos
  if g'.is_async !=0 then do
   let x<-foldedIterable g'.iter x
   let it<-holding [x] (if g'.is_async !=0 then asyncIter x else pyIter x)
   let _<-runOwn (.compStart e (depth+1) it Cc env) env
   k
  else do
   let x<-foldedSetIterable g'.iter env x
   let it<-holding [x] (if g'.is_async !=0 then asyncIter x else pyIter x)
   let _<-runOwn (.compStart e (depth+1) it Cc env) env
   k
theorem Ex {elt:Expr} {pre Md:List Comprehension} {tgt iter:Expr} {ifs:List Expr} {scope:Scope} {pos:Pos} {it Cc:ya}:
 compTurn (.ListComp elt (pre++⟨tgt,iter,ifs,0⟩::Md) scope pos) pre.length it Cc env=(do
  standAt iter.pos
  match<-pyNext it with
  |none=>pure (.done .next)
  |some v=>
   letOwnedTupleGo tgt it v
   assign tgt env v
   let ok<-forIn ifs true λc r=>if r=true then do let ok<-isTrue c env (eval c env);pure (Hf ok)else pure (Hf r)
   if ok=true then El (.ListComp elt (pre++⟨tgt,iter,ifs,0⟩::Md) scope pos) pre.length elt Cc env (again (.compLoop (.ListComp elt (pre++⟨tgt,iter,ifs,0⟩::Md) scope pos) pre.length it Cc env)) Md
   else again (.compLoop (.ListComp elt (pre++⟨tgt,iter,ifs,0⟩::Md) scope pos) pre.length it Cc env)):=by
 have h1:(pre++(⟨tgt,iter,ifs,0⟩:Comprehension)::Md)[pre.length]? =aa ⟨tgt,iter,ifs,0⟩:=by simp
 have h2:(pre++(⟨tgt,iter,ifs,0⟩:Comprehension)::Md)[pre.length+1]? =Md.head?:=by
  rw[Ra (by omega)];cases Md<;>simp
 unfold compTurn;simp only[h1,h2];cases Md with
 |nil=>rfl
 |cons g' gs=>rfl
end
end Mine
namespace Mine
variable [Av]
section
variable {w:Lb} {hb:Gb} {A:lc} {env:Env} {eo:Qa->Prop} {lo:Nat} {me Qb:Me} {K:Frag} {tab:gi} {n:Nat} {g:Gl} {ρ:List Qa} {σ Ca:St} {s:Sa} {v:V} {L D I:Qa} {sc:Sc}
theorem wE {h:Gb} {i:Nat} {it:It} (x:Yj w ρ h I i it):∃o,h.get? I=aa o/\(o.cls=.type "list_iterator"\/o.cls=.type "tuple_iterator"\/o.cls=.type "range_iterator"):=by
 cases it with
 |st xs=>
  rcases x with⟨t,vs,m,_,_,o,e,c,d⟩|⟨a,b,_,_,e⟩
  ·exact⟨o,e,.inr (.inl c)⟩
  ·exact⟨_,e,.inr (.inr rfl)⟩
 |dyn l=>
  obtain⟨a,_,o,e,c,d⟩:=x;exact⟨o,e,.inl c⟩
theorem gy {M:Model} {E:ya->Sa->Prop} {tgt:Expr} {i:Nat} {it:It} {val:ya} {Q:Unit->Sa->Prop} (x:Yj w ρ s.heap I i it) (h:Q () s):Wa M A (letOwnedTupleGo tgt (.ref I) val) Q E s:=by
 obtain⟨o,e,c⟩:=wE x;have go:Wa M A (match Ac I,val with
  | .ref r,.ref a=>(do
   let o<-load r
   match o.cls,o.data with
   | .type n,.fields vs=>
    if ["enumerate","zip","dict_itemiterator","dict_reverseitemiterator","odict_iterator","itertools.zip_longest","itertools.pairwise"].contains n&&vs[0]? ==aa (rawInt a)then
     rule "for.unpacks-the-owned-tuple"
     updateField r 0 .none
   |_,_=>pure ())
  |_,_=>pure ()) Q E s:=by
  cases val<;>try exact Ba h
  refine ia (wpAny_load e ?_);obtain⟨oc,od,dt,sl⟩:=o;rcases c with c|c|c<;>(dsimp only at c;subst c;cases dt<;>exact Ba h)
 unfold letOwnedTupleGo;cases tgt<;>first|exact Ba h|skip
 ·cases val<;>first|exact Ba h|exact go
 ·cases val<;>first|exact Ba h|exact go
def pn (w:Lb) (hb:Gb) (A:lc) (env:Env) (eo:Qa->Prop) (sl:List Rb) (lo:Nat) (me:Me) (D:Qa) (t:Sem Fin->Sem Fin) (r:St->Option (List V×St)):Prop:=
 ∀(k:Sem Fin) ρ σ s Cc vs Ca (Q:Fin->Sa->Prop) (E:ya->Sa->Prop),R w hb ρ σ s.heap->wd w hb env eo sl lo me ρ s.heap->iH hb eo D Cc ρ s.heap->Cc.length+vs.length<=4096->r σ=aa (vs,Ca)->
  (∀s',PM w hb env eo sl lo me D Cc ρ s Ca vs s'->Wa (Fb pg w) A k Q E s')->Wa (Fb pg w) A (t k) Q E s
def PL (w:Lb) (hb:Gb) (env:Env) (eo:Qa->Prop) (sl:List Rb) (lo:Nat) (me:Me) (D I:Qa) (Cc:List ya) (ρ:List Qa) (s:Sa) (Ca:St) (vs:List V) (s':Sa):Prop:=
 ∃Zd h' tk' vals m',s'={s with heap:=h',toks:=tk'}/\Kp (λa=>(eo a\/a=D)\/a=I) ρ s.heap h' Zd/\R w hb Zd Ca h'/\wd w hb env eo sl lo me Zd h'/\h'.get? D=aa (listOf (Cc++vals).toArray m')/\D∉Zd/\og w Zd h' vs vals
theorem ny {h h':Gb} {i:Nat} {it:It} (r:R w hb ρ σ h) (x:Yj w ρ h I i it) (hbI:hb.get? I=ba) (k:Pn I h h'):R w hb ρ σ h':=by
 obtain⟨o,e,ni,_⟩:=Ig x;exact r.beside (wr:=λa=>a=I) (λa o n e=>k a o n e) λa q=>by subst q;exact⟨x.notIn r,hbI,λo' e'=>by rw[e]at e';cases e';exact ni⟩
theorem my {h h':Gb} {sl:List Rb} {i:Nat} {it:It} (E:wd w hb env eo sl lo me ρ h) (x:Yj w ρ h I i it) (hI:¬eo I) (k:Pn I h h'):wd w hb env eo sl lo me ρ h':=by
 obtain⟨o,e,ni,vs,d⟩:=Ig x;exact E.kpD hI (λo' e'=>by rw[e]at e';cases e';exact⟨ni,λv q=>by rw[d]at q;cases q⟩) k
theorem rt {h h':Gb} {i:Nat} {it:It} (x:Yj w ρ h I i it) (k:Pn I h h'):∀b z,h.get? b=aa z->bh z->h'.get? b=aa z:=λb z e im=>k b z (λq=>by
 obtain⟨o,e',ni,_⟩:=Ig x;subst q;rw[e]at e';cases e';exact ni im) e
structure Kq (eo:Qa->Prop) (ρ0:List Qa) (h0 h':Gb) (Zd:List Qa):Prop where
 pre:ρ0<+:Zd
 fresh:∀a∈Zd,a∈ρ0\/h0.get? a=ba
 keep:∀a o,h0.get? a=aa o->a∉ρ0->¬eo a->h'.get? a=aa o
 imm:∀a o,h0.get? a=aa o->bh o->h'.get? a=aa o
 live:∀a,(h0.get? a).isSome=true->(h'.get? a).isSome=true
theorem CB {elt:Expr} {pre Md:List Comprehension} {tgt iter:Expr} {ifs:List Expr} {scope:Scope} {pos:Pos} {t:CT} {it:It} {Fs:Me->List (St->Option (Bool×St))} {rr:Me->St->Option (List V×St)}
 (AK:yi n A) (ht:Do sc tgt=aa t) (hg:Ds lo t=true) (hl:me.length=sc.sl.length)
 (Ul:∀v Qd,yd t v me=aa Qd->yk w hb A env eo sc.sl lo Qd ifs (Fs Qd)/\pn w hb A env eo sc.sl lo Qd D (λk=>El (.ListComp elt (pre++⟨tgt,iter,ifs,0⟩::Md) scope pos) pre.length elt (.ref D) env k Md) (rr Qd))
 (hID:I≠D) (gB:¬eo I) (hIb:hb.get? I=ba):
 ∀(fuel i:Nat) ρ σ s Cc vs Ca,R w hb ρ σ s.heap->wd w hb env eo sc.sl lo me ρ s.heap->iH hb eo D Cc ρ s.heap->Yj w ρ s.heap I i it->Cc.length+vs.length<=4096->
  re fuel it i (λv σ=>match yd t v me with
   |some Qd=>(match sk (Fs Qd) σ with
    |some (true,σ)=>rr Qd σ
    |some (false,σ)=>aa ([],σ)
    |none=>ba)
   |none=>ba) σ=aa (vs,Ca)->
  ai (Fb pg w) A (.compLoop (.ListComp elt (pre++⟨tgt,iter,ifs,0⟩::Md) scope pos) pre.length (.ref I) (.ref D) env)
   (λq s'=>q=.ok .next/\∃Zd h' tk' vals m',s'={s with heap:=h',toks:=tk'}/\(∀a o,s.heap.get? a=aa o->a∉ρ->¬eo a->a≠D->a≠I->h'.get? a=aa o)/\ρ<+:Zd/\(∀a∈Zd,a∈ρ\/s.heap.get? a=ba)/\(∀a o,s.heap.get? a=aa o->bh o->h'.get? a=aa o)/\
    R w hb Zd Ca h'/\wd w hb env eo sc.sl lo me Zd h'/\h'.get? D=aa (listOf (Cc++vals).toArray m')/\D∉Zd/\og w Zd h' vs vals) s:=by
 intro fuel
 induction fuel with
 |zero=>intro i ρ σ s Cc vs Ca r E d x hlen e;cases e
 |succ fuel ih=>
  intro i ρ σ s Cc vs Ca r E d x hlen e;refine codeAny_of_tree ?_
  show Wa _ A ((compTurn (.ListComp elt (pre++⟨tgt,iter,ifs,0⟩::Md) scope pos) pre.length (.ref I) (.ref D) env).onRaise (λx=>do noteFrame x env;theTreesLotGoes x)) _ _ s
  refine wpAny_noted ?_;rw[Ex];simp only[re]at e;cases hi:jg it i σ with
  |none=>simp only[hi]at e;cases e
  |some o=>
   refine ia (fc (ia (Ea (FB AK r x hi) (λq s1 p1=> ?_) λ_ _ z=>z.elim)));obtain⟨h1,tk1,rfl,k1,np⟩:=p1;have r1:=ny r x hIb k1;have E1:=my E x gB k1;have im1:=rt x k1;obtain⟨m,hm⟩:=d.at_;have d1:iH hb eo D Cc ρ h1:=⟨⟨m,k1 _ _ hID.symm hm⟩,d.out,d.own,d.base⟩;cases o with
   |none=>
    simp only[hi]at e;cases e;cases np;exact Ba ⟨rfl,ρ,h1,tk1,[],m,rfl,λa o e _ _ _ n=>k1 a o n e,Ha _,λa h=>.inl h,im1,r1,E1,by simpa using k1 _ _ hID.symm hm,d.out,.nil⟩
   |some v=>
    simp only[hi]at e;obtain⟨val,rfl,xv,x1⟩:=np;cases Zn:yd t v me with
    |none=>simp only[Zn]at e;cases e
    |some Qd=>
     simp only[Zn]at e;obtain⟨hTs,hK⟩:=Ul v Qd Zn;refine ia (gy (s:={s with heap:=h1,toks:=tk1}) x1 ?_);refine ia (Ea (TD (s:={s with heap:=h1,toks:=tk1}) AK ht hg r1 E1 xv (bG Zn)) (λ_ s2 p2=> ?_) λ_ _ z=>z.elim);obtain⟨h2,Qh,rfl,k2,r2,E2⟩:=p2;have x2:Yj w ρ h2 I (i+1) it:=x1.keep (Ha _) k2.imm λo e=>k2.keep I o e (x1.notIn r1) gB;have d2:=d1.kp k2 d.own;cases hT:sk (Fs Qd) σ with
     |none=>simp only[hT]at e;cases e
     |some p=>
      obtain⟨b,ae⟩:=p;simp only[hT]at e;refine ia (Ea (rF hTs ρ σ _ b ae r2 E2 hT) (λb' s3 p3=> ?_) λ_ _ z=>z.elim);obtain⟨mu,h3,OB,rfl,k3,r3,rfl⟩:=p3;have E3:=E2.kx r2 k3;have kp3:=k3.kp E2;have x3:Yj w mu h3 I (i+1) it:=x2.keep k3.pre k3.imm λo e=>kp3.keep I o e (x2.notIn r2) gB;have d3:=d2.kp kp3 d.own;have pB:=GD Zn;have cy:∀a o,s.heap.get? a=aa o->a∉ρ->¬eo a->a≠I->h3.get? a=aa o:=λa o e n1 n2 n3=>
       kp3.keep a o (k2.keep a o (k1 a o n3 e) n1 n2) n1 n2
      have ly:∀a,h3.get? a=ba->s.heap.get? a=ba:=λa e=>by
       cases z:s.heap.get? a with
       |none=>rfl
       |some o=>
        have hI1:(h1.get? a).isSome=true:=by
         by_cases q:a=I
         ·obtain⟨o',e',_⟩:=Ig x1;rw[q,e'];rfl
         ·rw[k1 a o q z];rfl
        have:=kp3.live a (k2.live a hI1);rw[e]at this;cases this
      have Im:∀a∈mu,a∈ρ\/s.heap.get? a=ba:=λa ha=>by
       rcases k3.fresh a ha with q|q
       ·exact .inl q
       ·right
        cases z:s.heap.get? a with
        |none=>rfl
        |some o=>
         have hI1:(h1.get? a).isSome=true:=by
          by_cases q:a=I
          ·obtain⟨o',e',_⟩:=Ig x1;rw[q,e'];rfl
          ·rw[k1 a o q z];rfl
         have:=k2.live a hI1;rw[q]at this;cases this
      have imm3:∀a o,s.heap.get? a=aa o->bh o->h3.get? a=aa o:=λa o e im=>k3.imm a o (k2.imm a o (im1 a o e im) im) im;cases b' with
      |false=>
       simp only at e;rw[if_neg ke];cases hr:re fuel it (i+1) (λv σ=>match yd t v me with
        |some Qd=>(match sk (Fs Qd) σ with
         |some (true,σ)=>rr Qd σ
         |some (false,σ)=>aa ([],σ)
         |none=>ba)
        |none=>ba) ae with
       |none=>simp only[hr]at e;cases e
       |some p=>
        obtain⟨vs2,dh⟩:=p;simp only[hr,Db]at e;cases e;refine Ba ⟨rfl,Hc (ih (i+1) mu ae {s with heap:=h3,toks:=OB} Cc _ _ r3 (E3.weaken pB.1 pB.2) d3 x3 hlen hr) λq s4 p4=> ?_⟩;obtain⟨rfl,VB,h4,tk4,vals,m4,rfl,g1,g2,g3,g4,g5,g6,g7,g8,g9⟩:=p4;exact⟨rfl,VB,h4,tk4,vals,m4,rfl,λa o e n1 n2 n3 n4=>g1 a o (cy a o e n1 n2 n4) (λq=>by
         rcases Im a q with q|q
         ·exact n1 q
         ·rw[q]at e;cases e) n2 n3 n4,k3.pre.trans g2,λa ha=>by
         rcases g3 a ha with q|q
         ·exact Im a q
         ·exact .inr (ly a q),λa o e im=>g4 a o (imm3 a o e im) im,g5,g6,g7,g8,g9⟩
      |true=>
       simp only at e;rw[if_pos rfl];cases hK1:rr Qd ae with
       |none=>simp only[hK1]at e;cases e
       |some p=>
        obtain⟨vs1,dh⟩:=p;simp only[hK1]at e;cases hr:re fuel it (i+1) (λv σ=>match yd t v me with
         |some Qd=>(match sk (Fs Qd) σ with
          |some (true,σ)=>rr Qd σ
          |some (false,σ)=>aa ([],σ)
          |none=>ba)
         |none=>ba) dh with
        |none=>simp only[hr]at e;cases e
        |some p=>
         obtain⟨vs2,ci⟩:=p;simp only[hr]at e;cases e;rw[Ib]at hlen;refine hK _ mu ae _ Cc vs1 dh _ _ r3 E3 d3 (by omega) hK1 λs4 p4=> ?_;obtain⟨VB,h4,tk4,vals,m4,rfl,kp4,r4,E4,hD4,hDn4,xs4⟩:=p4;have hlv:=xs4.length;have x4:Yj w VB h4 I (i+1) it:=x3.keep kp4.pre kp4.imm λo e=>kp4.keep I o e (x3.notIn r3) (λq=>q.elim gB hID);refine Ba ⟨rfl,Hc (ih (i+1) VB dh {s with heap:=h4,toks:=tk4} (Cc++vals) _ _ r4 (E4.weaken pB.1 pB.2) ⟨⟨m4,hD4⟩,hDn4,d.own,d.base⟩ x4 (by rw[Ib];omega) hr) λq s5 p5=> ?_⟩;obtain⟨rfl,nu,h5,Mu,vals5,m5,rfl,g1,g2,g3,g4,g5,g6,g7,g8,g9⟩:=p5;refine⟨rfl,nu,h5,Mu,vals++vals5,m5,rfl,λa o e n1 n2 n3 n4=> ?_,(k3.pre.trans kp4.pre).trans g2,λa ha=> ?_,λa o e im=>g4 a o (kp4.imm a o (imm3 a o e im) im) im,g5,g6,by rw[<-Jq];exact g7,g8,(xs4.mono g2 g4).append g9⟩
         ·have e3:=cy a o e n1 n2 n4
          have n5:a∉mu:=λq=>by
           rcases Im a q with q|q
           ·exact n1 q
           ·rw[q]at e;cases e
          have e4:=kp4.keep a o e3 n5 (λq=>q.elim n2 n3);refine g1 a o e4 (λq=> ?_) n2 n3 n4;rcases kp4.fresh a q with q|q
          ·exact n5 q
          ·rw[q]at e3;cases e3
         ·rcases g3 a ha with q|q
          ·rcases kp4.fresh a q with q|q
           ·exact Im a q
           ·exact .inr (ly a q)
          ·right
           cases z:h3.get? a with
           |none=>exact ly a z
           |some o=>have:=kp4.live a (by rw[z];rfl);rw[q]at this;cases this
end
end Mine
namespace Mine
variable [Av]
section
variable {w:Lb} {hb:Gb} {A:lc} {env:Env} {eo:Qa->Prop} {lo:Nat} {me Qb:Me} {K:Frag} {tab:gi} {n:Nat} {g:Gl} {ρ:List Qa} {σ Ca:St} {s:Sa} {v:V} {L D I:Qa} {sc:Sc}
theorem DC {E:ya->Sa->Prop} {i:Nat} {it:It} {Q:ya->Sa->Prop} (x:Yj w ρ s.heap I i it) (h:Q (.ref I) s):Wa (Fb pg w) A (pyIter (.ref I)) Q E s:=by
 cases it with
 |st xs=>
  rcases x with⟨t,vs,m,_,_,e⟩|⟨a,b,_,_,e⟩
  ·exact wpAny_pyIter_tupleiter e h
  ·exact wpAny_pyIter_rangeiter e h
 |dyn l=>
  obtain⟨a,_,e⟩:=x;exact wpAny_pyIter_listiter e h
theorem So {elt:Expr} {pre Md:List Comprehension} {tgt iter:Expr} {ifs:List Expr} {scope:Scope} {pos:Pos} {Cc:ya} {i:Nat} {it:It} {Rr:Result->Sa->Prop} (x:Yj w ρ s.heap I i it)
 (h:ai (Fb pg w) A (.compLoop (.ListComp elt (pre++⟨tgt,iter,ifs,0⟩::Md) scope pos) pre.length (.ref I) Cc env) Rr s):
 ai (Fb pg w) A (.compStart (.ListComp elt (pre++⟨tgt,iter,ifs,0⟩::Md) scope pos) pre.length (.ref I) Cc env) Rr s:=by
 refine codeAny_of_tree ?_
 show Wa _ A ((compStart (.ListComp elt (pre++⟨tgt,iter,ifs,0⟩::Md) scope pos) pre.length (.ref I) Cc env).onRaise (λx=>do noteFrame x env;standAt theWindowsPlace)) _ _ s
 refine wpAny_notedAt ?_;unfold compStart;have h1:(clausesOf (.ListComp elt (pre++⟨tgt,iter,ifs,0⟩::Md) scope pos))[pre.length]? =aa ⟨tgt,iter,ifs,0⟩:=by
  show(pre++(⟨tgt,iter,ifs,0⟩:Comprehension)::Md)[pre.length]? =_
  simp
 simp only[h1]
 show Wa _ _ (ask>>=_) _ _ s
 refine ia (wpAny_askSetting (wpAny_ite ?_))
 split
 ·first
   |exact ia (Ba (Ba (IF rfl h)))
   |exact Ba (IF rfl h)
 ·exact ia (wpAny_rule (ia (fc (ia (DC x (Ba (IF rfl h)))))))
theorem zC {elt:Expr} {e:Expr} {d:Nat} {sl:List Rb} {F:St->Option (V×St)} (hf:uc w hb A env eo sl lo me (eval elt env) F):
 pn w hb A env eo sl lo me D (λk=>El e d elt (.ref D) env k []) (λσ=>match F σ with|some (v,Ja)=>aa ([v],Ja)|none=>ba):=by
 intro k ρ σ s Cc vs Ca Q E' r E dd hl e' hq
 show Wa _ _ (uH elt (.ref D) env>>=λ_=>k) _ _ s
 exact ia (Ea (iG hf ρ σ s Cc vs Ca r E dd hl e') (λ_ s' p=>hq s' p) λ_ _ z=>z.elim)
theorem Jw {e:Expr} (h:∀a b c,e≠ .Set a b c) (env:Env) (x:ya):foldedSetIterable e env x=pure x:=by
 cases e<;>first|rfl|exact absurd rfl (h _ _ _)
theorem Tz {elt:Expr} {pre Md:List Comprehension} {g0:Comprehension} {tgt iter:Expr} {ifs:List Expr} {scope:Scope} {pos:Pos} {t:CT} {Fi:St->Option (V×St)} {Fs:Me->List (St->Option (Bool×St))} {rr:Me->St->Option (List V×St)}
 (AK:yi n A) (kn:∀a b c,iter≠ .Set a b c) (ht:Do sc tgt=aa t) (hg:Ds lo t=true) (hF:uc w hb A env eo sc.sl lo me (eval iter env) Fi)
 (Ul:∀v Qd,yd t v me=aa Qd->yk w hb A env eo sc.sl lo Qd ifs (Fs Qd)/\pn w hb A env eo sc.sl lo Qd D (λk=>El (.ListComp elt ((pre++[g0])++⟨tgt,iter,ifs,0⟩::Md) scope pos) (pre++[g0]).length elt (.ref D) env k Md) (rr Qd)):
 pn w hb A env eo sc.sl lo me D (λk=>El (.ListComp elt (pre++g0::⟨tgt,iter,ifs,0⟩::Md) scope pos) pre.length elt (.ref D) env k (⟨tgt,iter,ifs,0⟩::Md))
  (λσ=>match Fi σ with
   |some (v,Ja)=>(match te v Ja with
    |some it=>re 5000 it 0 (λv σ=>match yd t v me with
     |some Qd=>(match sk (Fs Qd) σ with
      |some (true,σ)=>rr Qd σ
      |some (false,σ)=>aa ([],σ)
      |none=>ba)
     |none=>ba) Ja
    |none=>ba)
   |none=>ba):=by
 intro k ρ σ s Cc vs Ca Q E' r E dd hlen e' hq;cases hFi:Fi σ with
 |none=>simp only[hFi]at e';cases e'
 |some p=>
  obtain⟨iv,Ja⟩:=p;simp only[hFi]at e';cases Au:te iv Ja with
  |none=>simp only[Au]at e';cases e'
  |some it=>
   simp only[Au]at e';refine ia (Ea (hF ρ σ s iv Ja r E hFi) (λa s1 p1=> ?_) λ_ _ z=>z.elim);obtain⟨bf,h1,tk1,rfl,k1,r1,x1⟩:=p1;have E1:=E.kx r k1;have kp1:=k1.kp E;have d1:=dd.kp kp1 dd.own;refine ia (fc ?_)
   show Wa _ _ (do
    let x<-foldedSetIterable iter env a
    let it<-holding [x] (pyIter x)
    let _<-runOwn (.compStart (.ListComp elt (pre++g0::⟨tgt,iter,ifs,0⟩::Md) scope pos) (pre.length+1) it (.ref D) env) env
    k) _ _ _
   rw[Jw kn];refine ia (Ba (ia (Xb (Ea (Gw r1 x1 Au) (λq s2 p2=> ?_) λ_ _ z=>z.elim))));obtain⟨h2,Qh,rfl,rfl,k2,x2⟩:=p2;have hIn:h1.get? h1.objs.size=ba:=Hb _;have r2:=r1.grow k2;have E2:=E1.grow r1 k2;obtain⟨m,hm⟩:=d1.at_;have gB:¬eo h1.objs.size:=λq=>by have:=E1.eol _ q;rw[hIn]at this;cases this
   have hID:h1.objs.size≠D:=λq=>by subst q;rw[hIn]at hm;cases hm
   have d2:iH hb eo D Cc bf h2:=⟨⟨m,k2 _ _ hm⟩,d1.out,d1.own,d1.base⟩;have e1:pre++g0::⟨tgt,iter,ifs,0⟩::Md=(pre++[g0])++⟨tgt,iter,ifs,0⟩::Md:=by simp
   have e2:pre.length+1=(pre++[g0]).length:=by simp
   rw[e1,e2];have hA:A.mark ba=A:=by obtain⟨hd,d,fr,gs,u⟩:=A;have:hd=ba:=AK.hh;subst this;rfl
   refine ia (wpAny_runOwn ?_);rw[hA];refine So (s:={s with heap:=h2,toks:=Qh}) x2 (Hc (CB AK ht hg E2.len Ul hID gB (Ge r1 hIn) 5000 0 bf Ja {s with heap:=h2,toks:=Qh} Cc vs Ca r2 E2 d2 x2 hlen e') λq s3 p3=> ?_);obtain⟨rfl,mu,h3,OB,vals,m3,rfl,g1,g2,g3,g4,g5,g6,g7,g8,g9⟩:=p3;have nI:∀a o,h1.get? a=aa o->a≠h1.objs.size:=λa o e=>Bc (Wb e);refine hq _ ⟨mu,h3,OB,vals,m3,rfl,(kp1.weaken λa q=>.inl q).trans ⟨g2,λa ha=> ?_,λa o e n1 n2=> ?_,λa o e im=>g4 a o (k2 a o e) im,λa e=> ?_⟩,g5,g6,g7,g8,g9⟩
   ·rcases g3 a ha with q|q
    ·exact .inl q
    ·right
     cases z:h1.get? a with
     |none=>rfl
     |some o=>rw[k2 a o z]at q;cases q
   ·exact g1 a o (k2 a o e) n1 (λq=>n2 (.inl q)) (λq=>n2 (.inr q)) (nI a o e)
   ·obtain⟨o,ho⟩:=Ta.mp e
    by_cases q1:a∈bf
    ·obtain⟨x,hx,_⟩:=g5.live (li g2 q1)
     rw[hx];rfl
    ·by_cases q2:eo a
     ·exact g6.eol a q2
     ·by_cases q3:a=D
      ·subst q3;rw[g7];rfl
      ·rw[g1 a o (k2 a o ho) q1 q2 q3 (nI a o ho)];rfl
end
end Mine
namespace Mine
variable [Av]
section
variable {w:Lb} {hb:Gb} {A:lc} {env:Env} {eo:Qa->Prop} {lo:Nat} {me Qb:Me} {K:Frag} {tab:gi} {n:Nat} {g:Gl} {ρ:List Qa} {σ Ca:St} {s:Sa} {v:V} {L D I:Qa} {sc sc':Sc}
theorem Zu {elt:Expr} {Md:List Comprehension} {tgt iter:Expr} {ifs:List Expr} {scope:Scope} {pos:Pos} {t:CT} {Fi:St->Option (V×St)} {Fs:Me->List (St->Option (Bool×St))} {rr:Me->St->Option (List V×St)} {use:Option (ya->Sem Unit)} {Q:ya->Sa->Prop}
 (AK:yi n A) (C:Vv sc scope sc') (hk:env.scope.names=sc.kinds) (kn:∀a b c,iter≠ .Set a b c) (ht:Do sc' tgt=aa t) (hg:Ds sc.sl.length t=true) (hF:uc w hb A env eo sc.sl lo me (eval iter env) Fi)
 (Ul:∀Hm ow D,Hm.scope.names=sc'.kinds->∀v Qd,yd t v (me++Aa (Jh scope.names).length ba)=aa Qd->
  yk w hb A Hm ow sc'.sl sc.sl.length Qd ifs (Fs Qd)/\pn w hb A Hm ow sc'.sl sc.sl.length Qd D (λk=>El (.ListComp elt (⟨tgt,iter,ifs,0⟩::Md) scope pos) 0 elt (.ref D) Hm k Md) (rr Qd))
 (r:R w hb ρ σ s.heap) (E:wd w hb env eo sc.sl lo me ρ s.heap)
 (e:(match Fi σ with
  |some (v,Ja)=>(match te v Ja with
   |some it=>(match re 5000 it 0 (λv σ=>match yd t v (me++Aa (Jh scope.names).length ba)with
    |some Qd=>(match sk (Fs Qd) σ with
     |some (true,σ)=>rr Qd σ
     |some (false,σ)=>aa ([],σ)
     |none=>ba)
    |none=>ba) Ja with
    |some (vs,Cb)=>newL vs Cb
    |none=>ba)
   |none=>ba)
  |none=>ba)=aa (v,Ca))
 (hfin:∀Zd h5 Mu D CC m,KX env.locals ρ s.heap h5 Zd->R w hb Zd Ca h5->VR w Zd h5 v (.ref D)->CC∉Zd->s.heap.get? CC=ba->hb.get? CC=ba->h5.Ns CC m->compPost (Fb pg w) A No use Q (.ref D) CC (.ok .next) {s with heap:=h5,toks:=Mu}):
 Wa (Fb pg w) A (comprehension (.ListComp elt (⟨tgt,iter,ifs,0⟩::Md) scope pos) scope env (firstIterPos (⟨tgt,iter,ifs,0⟩::Md) pos) (newList []) false (eval iter env) use) Q No s:=by
 cases hFi:Fi σ with
 |none=>simp only[hFi]at e;cases e
 |some p=>
  obtain⟨iv,Ja⟩:=p;simp only[hFi]at e;cases Au:te iv Ja with
  |none=>simp only[Au]at e;cases e
  |some it=>
   simp only[Au]at e;cases hlo:re 5000 it 0 (λv σ=>match yd t v (me++Aa (Jh scope.names).length ba)with
    |some Qd=>(match sk (Fs Qd) σ with
     |some (true,σ)=>rr Qd σ
     |some (false,σ)=>aa ([],σ)
     |none=>ba)
    |none=>ba) Ja with
   |none=>simp only[hlo]at e;cases e
   |some p=>
    obtain⟨vs,Cb⟩:=p;simp only[hlo]at e;have e0:=e;unfold newL at e0
    split at e0
    ·rename_i hvl
     have hvl':vs.length<4096:=by simpa [xh]using hvl
     cases e0;have hclos:=(Fx (s:=s) C hk r E).2.2;refine wpAny_comprehension_free (g:=⟨tgt,iter,ifs,0⟩) (gs:=Md) rfl (λx=>Jw kn env x) hclos C.kind C.loc ?_;refine Ea (hF ρ σ s iv Ja r E hFi) (λa s1 p1=> ?_) λ_ _ z=>z;obtain⟨bf,h1,tk1,rfl,k1,r1,x1⟩:=p1;have E1:=E.kx r k1;refine Ea (Gw r1 x1 Au) (λq s2 p2=> ?_) λ_ _ z=>z;obtain⟨h2,Qh,rfl,rfl,k2,x2⟩:=p2;have r2:=r1.grow k2;have E2:=E1.grow r1 k2;refine wpAny_newList ?_;have k3:∀a o,h2.get? a=aa o->(h2.push (listOf ([]:List ya).toArray 0)).get? a=aa o:=λa o e=>Da _ e;have r3:=r2.grow k3;have E3:=E2.grow r2 k3;refine ky ?_;obtain⟨E4,jq,_⟩:=Fx (s:={s with heap:=h2.push (listOf ([]:List ya).toArray 0),toks:=Qh}) C hk r3 E3;have k4:=An (s:={s with heap:=h2.push (listOf ([]:List ya).toArray 0),toks:=Qh}) (scope:=scope);have r4:=r3.grow k4;have sB:(h2.push (listOf ([]:List ya).toArray 0)).objs.size=h2.objs.size+1:=nh _ _;have hD0:h2.get? h2.objs.size=ba:=Hb _;have hD1:h1.get? h2.objs.size=ba:=by
      cases z:h1.get? h2.objs.size with
      |none=>rfl
      |some o=>rw[k2 _ _ z]at hD0;cases hD0
     have hDs:s.heap.get? h2.objs.size=ba:=by
      cases z:s.heap.get? h2.objs.size with
      |none=>rfl
      |some o=>have:=k1.live _ (by rw[z];rfl);rw[hD1]at this;cases this
     have hI0:h1.get? h1.objs.size=ba:=Hb _;have hI2:(h2.get? h1.objs.size).isSome=true:=by obtain⟨o,ho,_⟩:=Ig x2;rw[ho];rfl
     have hIlt:h1.objs.size<h2.objs.size:=by obtain⟨o,ho,_⟩:=Ig x2;exact Wb ho
     have hID:h1.objs.size≠h2.objs.size:=Bc hIlt;have pB:∀a,a<h2.objs.size+1->¬jw {s with heap:=h2.push (listOf ([]:List ya).toArray 0),toks:=Qh} scope a:=λa ha q=>by
      have:=q.1;rw[show({s with heap:=h2.push (listOf ([]:List ya).toArray 0),toks:=Qh}:Sa).heap.objs.size=h2.objs.size+1 from sB]at this;exact absurd ha (fj.mpr this)
     have hDget:(fg {s with heap:=h2.push (listOf ([]:List ya).toArray 0),toks:=Qh} scope).get? h2.objs.size=aa (listOf ([]:List ya).toArray 0):=k4 _ _ (Pa _ rfl);have d4:iH hb (jw {s with heap:=h2.push (listOf ([]:List ya).toArray 0),toks:=Qh} scope) h2.objs.size [] bf (fg {s with heap:=h2.push (listOf ([]:List ya).toArray 0),toks:=Qh} scope):=
      ⟨⟨0,hDget⟩,yf r2 hD0,pB _ (ej _),Ge r2 hD0⟩
     have x4:Yj w bf (fg {s with heap:=h2.push (listOf ([]:List ya).toArray 0),toks:=Qh} scope) h1.objs.size 0 it:=
      x2.keep (Ha _) (λa o e _=>k4 _ _ (k3 _ _ e)) (λo e=>k4 _ _ (k3 _ _ e))
     have hb4:=Ul (gk {s with heap:=h2.push (listOf ([]:List ya).toArray 0),toks:=Qh} scope env) (jw {s with heap:=h2.push (listOf ([]:List ya).toArray 0),toks:=Qh} scope) h2.objs.size jq;refine So (pre:=[]) (s:={s with heap:=fg {s with heap:=h2.push (listOf ([]:List ya).toArray 0),toks:=Qh} scope,toks:=Qh}) x4
      (Hc (CB (pre:=[]) (sc:=sc') (s:={s with heap:=fg {s with heap:=h2.push (listOf ([]:List ya).toArray 0),toks:=Qh} scope,toks:=Qh}) (Fs:=Fs) (rr:=rr) AK ht hg E4.len hb4 hID (pB _ (ch hIlt)) (Ge r1 hI0) 5000 0 bf Ja [] vs Cb r4 E4 d4 x4 (by simp;omega) hlo) λq s5 p5=> ?_)
     obtain⟨rfl,nu,h5,Mu,vals,m5,rfl,g1,g2,g3,g4,g5,g6,g7,g8,g9⟩:=p5;obtain⟨mC,hC,_⟩:=g6.ns;have hCL:(gk {s with heap:=h2.push (listOf ([]:List ya).toArray 0),toks:=Qh} scope env).locals=h2.objs.size+1:=sB;have hDC:h2.objs.size≠(gk {s with heap:=h2.push (listOf ([]:List ya).toArray 0),toks:=Qh} scope env).locals:=by rw[hCL];exact Bc (ej _)
     have hlt1:∀a o,h1.get? a=aa o->a<h1.objs.size:=λa o e=>Wb e;have keep1:∀a o,h1.get? a=aa o->a∉bf->h5.get? a=aa o:=λa o e n1=>by
      have ha:=hlt1 a o e;exact g1 a o (k4 _ _ (k3 _ _ (k2 _ _ e))) n1 (pB a (ch (rz ha hIlt))) (Bc (rz ha hIlt)) (Bc ha)
     have fresh1:∀a∈nu,a∈bf\/h1.get? a=ba:=λa ha=>by
      rcases g3 a ha with q|q
      ·exact .inl q
      ·right
       cases z:h1.get? a with
       |none=>rfl
       |some o=>
        have:=k4 _ _ (k3 _ _ (k2 _ _ z));rw[q]at this;cases this
     have kx6:KX env.locals bf h1 h5 nu:=⟨⟨g2,fresh1,λa o e n1 _=>keep1 a o e n1,λa o e im=>g4 a o (k4 _ _ (k3 _ _ (k2 _ _ e))) im,λa e=>by
      obtain⟨o,ho⟩:=Ta.mp e
      by_cases q1:a∈bf
      ·obtain⟨x,hx,_⟩:=g5.live (li g2 q1)
       rw[hx];rfl
      ·rw[keep1 a o ho q1];rfl⟩,λm0 n0=>by
      obtain⟨o,es,ep,e1,e2⟩:=n0;exact⟨o,es,ep,keep1 _ _ e1 E1.loc.1,e2⟩⟩
     have Xx:=g9.length;have hCs:s.heap.get? (gk {s with heap:=h2.push (listOf ([]:List ya).toArray 0),toks:=Qh} scope env).locals=ba:=by
      rw[hCL];cases z:s.heap.get? (h2.objs.size+1)with
      |none=>rfl
      |some o=>
       have h1l:=k1.live _ (by rw[z];rfl);obtain⟨o1,ho1⟩:=Ta.mp h1l;exact absurd (Wb (k2 _ _ ho1)) (fj.mpr (wi _))
     exact hfin (nu++[h2.objs.size]) h5 Mu h2.objs.size _ mC ((k1.trans kx6).add hDs) (g5.add g8 (Ge r2 hD0) ⟨vals,m5,by simpa using g7,by omega,g9.mono (dc _ _) λa o e _=>e⟩) (.ref (by rw[<-g5.len];simp)) (λq=>by
      rcases db.mp q with q|q
      ·exact g6.loc.1 q
      ·rw[jb]at q;exact hDC q.symm) hCs g6.loc.2.1 hC
    ·cases e0
theorem oC {elt:Expr} {Md:List Comprehension} {tgt iter:Expr} {ifs:List Expr} {scope:Scope} {pos:Pos} {t:CT} {Fi:St->Option (V×St)} {Fs:Me->List (St->Option (Bool×St))} {rr:Me->St->Option (List V×St)}
 (AK:yi n A) (C:Vv sc scope sc') (hk:env.scope.names=sc.kinds) (kn:∀a b c,iter≠ .Set a b c) (ht:Do sc' tgt=aa t) (hg:Ds sc.sl.length t=true) (hF:uc w hb A env eo sc.sl lo me (eval iter env) Fi)
 (Ul:∀Hm ow D,Hm.scope.names=sc'.kinds->∀v Qd,yd t v (me++Aa (Jh scope.names).length ba)=aa Qd->
  yk w hb A Hm ow sc'.sl sc.sl.length Qd ifs (Fs Qd)/\pn w hb A Hm ow sc'.sl sc.sl.length Qd D (λk=>El (.ListComp elt (⟨tgt,iter,ifs,0⟩::Md) scope pos) 0 elt (.ref D) Hm k Md) (rr Qd)):
 uc w hb A env eo sc.sl lo me (eval (.ListComp elt (⟨tgt,iter,ifs,0⟩::Md) scope pos) env)
  (λσ=>match Fi σ with
   |some (v,Ja)=>(match te v Ja with
    |some it=>(match re 5000 it 0 (λv σ=>match yd t v (me++Aa (Jh scope.names).length ba)with
     |some Qd=>(match sk (Fs Qd) σ with
      |some (true,σ)=>rr Qd σ
      |some (false,σ)=>aa ([],σ)
      |none=>ba)
     |none=>ba) Ja with
     |some (vs,Cb)=>newL vs Cb
     |none=>ba)
    |none=>ba)
   |none=>ba):=by
 intro ρ σ s v Ca r E e;rw[arm_eval_ListComp];refine Zu (use:=ba) AK C hk kn ht hg hF Ul r E e λZd h5 Mu D CC m k5 r5 x5 c1 c2 c3 hC=> ?_;refine⟨m,hC,λh' hs'=> ?_⟩;have kk:∀b o,b≠CC->h5.get? b=aa o->h'.get? b=aa o:=λb o n e=>(hs'.2 b n).trans e;have Sm:∀a o,h5.get? a=aa o->bh o->h'.get? a=aa o:=λa o e im=>kk a o (λq=>by subst q;exact mh hC e im) e;exact⟨Zd,h',Mu,rfl,k5.but c2 kk,r5.beside (wr:=λa=>a=CC) (λa o n e=>kk a o n e) (λa q=>by subst q;exact⟨c1,c3,λo e=>mh hC e⟩),x5.mono (Ha _) Sm⟩
end
end Mine
namespace Mine
variable [Av]
section
variable {w:Lb} {hb:Gb} {A:lc} {env:Env} {eo:Qa->Prop} {sl:List Rb} {lo:Nat} {me:Me} {K:Frag} {tab:gi} {n N:Nat} {g:Gl} {cf:Nat->List V->St->Option (V×St)} {sc:Sc}
theorem uc.congr {t:Sem ya} {r r':St->Option (V×St)} (h:uc w hb A env eo sl lo me t r) (e:∀σ,r' σ=r σ):uc w hb A env eo sl lo me t r':=λρ σ s v Ca R E q=>h ρ σ s v Ca R E (by rw[<-e];exact q)
theorem Hi.congr {t:Sem (List ya)} {r r':St->Option (List V×St)} (h:Hi w hb A env eo sl lo me t r) (e:∀σ,r' σ=r σ):Hi w hb A env eo sl lo me t r':=λρ σ s v Ca R E q=>h ρ σ s v Ca R E (by rw[<-e];exact q)
theorem Bh.congr {t:Sem Bool} {r r':St->Option (Bool×St)} (h:Bh w hb A env eo sl lo me t r) (e:∀σ,r' σ=r σ):Bh w hb A env eo sl lo me t r':=λρ σ s v Ca R E q=>h ρ σ s v Ca R E (by rw[<-e];exact q)
theorem pn.congr {D:Qa} {t:Sem Fin->Sem Fin} {r r':St->Option (List V×St)} (h:pn w hb A env eo sl lo me D t r) (e:∀σ,r' σ=r σ):pn w hb A env eo sl lo me D t r':=λk ρ σ s Cc vs Ca Q E' R E d l q hq=>h k ρ σ s Cc vs Ca Q E' R E d l (by rw[<-e];exact q) hq
structure Cx (w:Lb) (hb:Gb) (K:Frag) (tab:gi) (g:Gl) (cf:Nat->List V->St->Option (V×St)) (n:Nat):Prop where
 B:gm hb K tab
 CO:Fq hb K tab
 GO:Wv hb K g
 SO:wm w hb
 CF:rj w hb cf n
structure sj (w:Lb) (hb:Gb) (A:lc) (tab:gi) (g:Gl) (cf:Nat->List V->St->Option (V×St)) (N:Nat):Prop where
 E:∀sc e x env eo lo me,env.scope.names=sc.kinds->oh g N sc e=aa x->uc w hb A env eo sc.sl lo me (eval e env) (λσ=>gc tab cf x me σ)
 Es:∀sc es xs env eo lo me pos,env.scope.names=sc.kinds->Hp g N sc es=aa xs->Hi w hb A env eo sc.sl lo me (spliced (backTo pos (starEach es env))) (λσ=>Gf tab cf xs me σ)/\(∀e∈es,∀x p,e≠Ee x p)
 T:∀sc e b env eo lo me,env.scope.names=sc.kinds->QB g N sc e=aa b->Bh w hb A env eo sc.sl lo me (isTrue e env (eval e env)) (λσ=>Ug tab cf b me σ)
 Ts:∀sc es bs env eo lo me,env.scope.names=sc.kinds->Qy g N sc es=aa bs->yk w hb A env eo sc.sl lo me es (bs.map λb σ=>Ug tab cf b me σ)
 Gs:∀sc gs xs env eo lo me D elt x pre g0 scope pos,env.scope.names=sc.kinds->Ry g N lo sc gs=aa xs->(∀me,uc w hb A env eo sc.sl lo me (eval elt env) (λσ=>gc tab cf x me σ))->
  pn w hb A env eo sc.sl lo me D (λk=>El (.ListComp elt (pre++g0::gs) scope pos) pre.length elt (.ref D) env k gs) (λσ=>Ef tab cf xs (λme σ=>gc tab cf x me σ) me σ)
theorem ir {e:Expr} {x:X} (h:oh g N sc e=aa x):∀y p,e≠Ee y p:=by
 rintro y p rfl
 cases N<;>simp[oh]at h
theorem Tj {e:Expr} {x:X} (h:oh g N sc e=aa x):∀a b c,e≠Expr.Set a b c:=by
 rintro a b c rfl
 cases N<;>simp[oh]at h
theorem uk:∀(bs:List B) (me:Me) (σ:St),sk (bs.map λb σ=>Ug tab cf b me σ) σ=vh tab cf bs me σ
 | [],me,σ=>by simp[sk,vh]
 |b::bs,me,σ=>by
  simp only[sa,sk,vh];cases h:Ug tab cf b me σ with
  |none=>rfl
  |some p=>
   obtain⟨c,Ja⟩:=p;cases c with
   |true=>exact uk bs me Ja
   |false=>rfl
theorem Xm {x:Rb} (h:vo x=true):(x==("__debug__":Rb))=false/\(x==("__classdict__":Rb))=false:=by
 unfold vo at h;simp only[La,Ai]at h;exact h
theorem uF {x:Rb} {p:Pos} {i:Nat} (hk:env.scope.names=sc.kinds) (h:nn sc x=aa i):uc w hb A env eo sc.sl lo me (eval (.Name x p) env) (λσ=>gc tab cf (.var i) me σ):=by
 unfold nn at h
 split at h
 ·rename_i k hl
  split at h
  ·rename_i q
   simp only[La]at q;obtain⟨d1,d2⟩:=Xm q.2;refine uc.congr (hJ h ?_ d1 d2) λσ=>by
    rw[gc]<;>(repeat' (first|rfl|split))<;>simp_all
   have ju:env.kindOf x=aa k:=by unfold km;rw[hk];exact hl
   cases k<;>simp[uv]at q
   ·exact .inl ju
   ·exact .inr (.inl ju)
   ·exact .inr (.inr ju)
  ·cases h
 ·cases h
theorem sA:sj w hb A tab g cf 0 where
 E:=λsc e x env eo lo me hk h=>by simp[oh]at h
 Es:=λsc e x env eo lo me pos hk h=>by simp[Hp]at h
 T:=λsc e x env eo lo me hk h=>by simp[QB]at h
 Ts:=λsc e x env eo lo me hk h=>by simp[Qy]at h
 Gs:=λsc gs xs env eo lo me D elt x pre g0 scope pos hk h=>by simp[Ry]at h
theorem dF (S:sj w hb A tab g cf N):∀sc es xs env eo lo me pos,env.scope.names=sc.kinds->Hp g (N+1) sc es=aa xs->Hi w hb A env eo sc.sl lo me (spliced (backTo pos (starEach es env))) (λσ=>Gf tab cf xs me σ)/\(∀e∈es,∀x p,e≠Ee x p):=by
 intro sc es xs env eo lo me pos hk h;cases es with
 |nil=>simp[Hp]at h;subst h;exact⟨Hi.congr iJ λσ=>by rw[Gf],λe he=>by cases he⟩
 |cons e es=>
  simp only[Hp]at h
  split at h<;>cases h
  rename_i x ys q1 q2;obtain⟨h1,h2⟩:=S.Es sc es ys env eo lo me pos hk q2;refine⟨Hi.congr (eH (ir q1) (S.E sc e x env eo lo me hk q1) h1) λσ=>by rw[Gf]<;>(repeat' (first|rfl|split))<;>simp_all,λe' he=> ?_⟩;rcases Fa.mp he with q|q
  ·subst q;exact ir q1
  ·exact h2 e' q
theorem fF (S:sj w hb A tab g cf N):∀sc es bs env eo lo me,env.scope.names=sc.kinds->Qy g (N+1) sc es=aa bs->yk w hb A env eo sc.sl lo me es (bs.map λb σ=>Ug tab cf b me σ):=by
 intro sc es bs env eo lo me hk h;cases es with
 |nil=>simp[Qy]at h;subst h;exact .nil
 |cons e es=>
  simp only[Qy]at h
  split at h<;>cases h
  rename_i x ys q1 q2;exact .cons (S.T sc e x env eo lo me hk q1) (S.Ts sc es ys env eo lo me hk q2)
theorem eF (AK:yi n A) (S:sj w hb A tab g cf N):∀sc gs xs env eo lo me D elt x pre g0 scope pos,env.scope.names=sc.kinds->Ry g (N+1) lo sc gs=aa xs->(∀me,uc w hb A env eo sc.sl lo me (eval elt env) (λσ=>gc tab cf x me σ))->
 pn w hb A env eo sc.sl lo me D (λk=>El (.ListComp elt (pre++g0::gs) scope pos) pre.length elt (.ref D) env k gs) (λσ=>Ef tab cf xs (λme σ=>gc tab cf x me σ) me σ):=by
 intro sc gs xs env eo lo me D elt x pre g0 scope pos hk h he;cases gs with
 |nil=>simp[Ry]at h;subst h;exact pn.congr (zC (he me)) λσ=>by rw[Ef]<;>(repeat' (first|rfl|split))<;>simp_all
 |cons g1 gs=>
  obtain⟨tgt,iter,ifs,asy⟩:=g1
  by_cases hz:asy=0
  ·subst hz
   simp only[Ry]at h
   split at h
   ·rename_i it t fs r q1 q2 q3 q4
    split at h<;>cases h
    rename_i hg;refine pn.congr (Tz (Fs:=λQd=>fs.map λb σ=>Ug tab cf b Qd σ) (rr:=λQd σ=>Ef tab cf r (λme σ=>gc tab cf x me σ) Qd σ) AK (Tj q1) q2 hg (S.E sc iter it env eo lo me hk q1) λv Qd Zn=> ?_) λσ=> ?_
    ·exact⟨S.Ts sc ifs fs env eo lo Qd hk q3,S.Gs sc gs r env eo lo Qd D elt x (pre++[g0]) _ scope pos hk q4 he⟩
    ·rw[Ef]
     simp only[uk]<;>(repeat' (first|rfl|split))<;>simp_all
   ·cases h
  ·exfalso
   unfold Ry at h
   split at h
   ·rename_i q;cases q
   ·rename_i q;cases q
   ·rename_i q;cases q;exact hz rfl
   ·cases h
end
end Mine
namespace Mine
variable [Av]
section
variable {w:Lb} {hb:Gb} {A:lc} {env:Env} {eo:Qa->Prop} {sl:List Rb} {lo:Nat} {me:Me} {K:Frag} {tab:gi} {n N:Nat} {g:Gl} {cf:Nat->List V->St->Option (V×St)} {sc:Sc}
theorem XG (Cx':Cx w hb K tab g cf n) (AK:yi (n+1) A) (S:sj w hb A tab g cf N):∀sc e b env eo lo me,env.scope.names=sc.kinds->QB g (N+1) sc e=aa b->Bh w hb A env eo sc.sl lo me (isTrue e env (eval e env)) (λσ=>Ug tab cf b me σ):=by
 intro sc e b env eo lo me hk h;have base:∀e:Expr,isTrue e env (eval e env)=(do let v<-eval e env;standAt e.pos;holding [v] (truthy v))->(oh g N sc e).map B.base=aa b->Bh w hb A env eo sc.sl lo me (isTrue e env (eval e env)) (λσ=>Ug tab cf b me σ):=by
  intro e he h;cases q:oh g N sc e with
  |none=>rw[q]at h;cases h
  |some x=>
   rw[q]at h;cases h;exact Bh.congr (dC he (S.E sc e x env eo lo me hk q)) λσ=>by rw[Ug]<;>(repeat' (first|rfl|split))<;>simp_all
 unfold QB at h
 split at h
 ·cases q:QB g N sc _ with
  |none=>rw[q]at h;cases h
  |some x=>
   rw[q]at h;cases h;exact Bh.congr (KE (S.T sc _ x env eo lo me hk q)) λσ=>by rw[Ug]<;>(repeat' (first|rfl|split))<;>simp_all
 ·split at h<;>cases h
  rename_i q1 q2;exact Bh.congr (BD (S.T sc _ _ env eo lo me hk q1) (S.T sc _ _ env eo lo me hk q2)) λσ=>by rw[Ug]<;>(repeat' (first|rfl|split))<;>simp_all
 ·split at h<;>cases h
  rename_i q1 q2;exact Bh.congr (HG (S.T sc _ _ env eo lo me hk q1) (S.T sc _ _ env eo lo me hk q2)) λσ=>by rw[Ug]<;>(repeat' (first|rfl|split))<;>simp_all
 ·split at h
  ·cases h
  ·rename_i el
   split at h<;>cases h
   rename_i q1 q2 q3;refine Bh.congr (lC Cx'.B.mods AK (by simpa using el) (S.E sc _ _ env eo lo me hk q1) (S.E sc _ _ env eo lo me hk q2) (S.E sc _ _ env eo lo me hk q3)) λσ=> ?_;rw[Ug,gc]<;>(repeat' (first|rfl|split))<;>simp_all
 ·split at h
  ·cases h
  ·rename_i el
   split at h<;>cases h
   rename_i q1 q2;refine Bh.congr (MD Cx'.B.mods AK (by simpa using el) (S.E sc _ _ env eo lo me hk q1) (S.E sc _ _ env eo lo me hk q2)) λσ=> ?_;rw[Ug,gc]<;>(repeat' (first|rfl|split))<;>simp_all
 ·exact base _ rfl h
 ·exact base _ rfl h
 ·exact base _ rfl h
 ·exact base _ rfl h
 ·cases h
theorem JE {i:Expr} (h:∀(a b c:Option Expr) (d:Pos),i=.Slice a b c d->False) (o j:ya):subscripted i false o j=operate [o,j] (getItem o j):=by
 cases i<;>first|rfl|exact absurd rfl (h _ _ _ _)
theorem GE {x:Rb} {p:Pos} {f:ya} (h:oh g N sc (.Name x p)=aa (.con f)):sc.kinds.lookup x=aa .globalImplicit/\vo x=true/\g.glob x=aa f:=by
 cases N with
 |zero=>simp[oh]at h
 |succ N=>
  unfold oh at h;simp only at h
  split at h
  ·rename_i hl
   split at h
   ·rename_i ho
    cases q:g.glob x with
    |none=>rw[q]at h;cases h
    |some f'=>rw[q]at h;cases h;exact⟨hl,ho,rfl⟩
   ·cases h
  ·cases q:nn sc x with
   |none=>rw[q]at h;cases h
   |some i=>rw[q]at h;cases h
theorem UK {v:ya}:∀(me:Me) (σ:St),gc tab cf (.con v) me σ=aa (.con v,σ):=λme σ=>by rw[gc]
theorem WG (Cx':Cx w hb K tab g cf n) (AK:yi (n+1) A) (S:sj w hb A tab g cf N):∀sc e x env eo lo me,env.scope.names=sc.kinds->oh g (N+1) sc e=aa x->uc w hb A env eo sc.sl lo me (eval e env) (λσ=>gc tab cf x me σ):=by
 intro sc e x env eo lo me hk h;have kindOf:∀y k,sc.kinds.lookup y=aa k->env.kindOf y=aa k:=λy k q=>by unfold km;rw[hk];exact q
 unfold oh at h
 split at h
 ·
  rename_i y p
  split at h
  ·rename_i hl
   split at h
   ·rename_i ho
    cases q:g.glob y with
    |none=>rw[q]at h;cases h
    |some f=>
     rw[q]at h;cases h;exact uc.congr (tq Cx'.GO q (kindOf _ _ hl) (Xm ho).1) λσ=>by rw[gc]
   ·cases h
  ·cases q:nn sc y with
   |none=>rw[q]at h;cases h
   |some i=>rw[q]at h;cases h;exact uF hk q
 ·
  split at h<;>cases h
  ·exact uc.congr FG λσ=>by rw[gc]
  ·exact uc.congr dG λσ=>by rw[gc]
  ·exact uc.congr LI λσ=>by rw[gc]
  ·exact uc.congr ZI λσ=>by rw[gc]
 ·
  split at h
  ·rename_i hp
   cases q:oh g N sc _ with
   |none=>rw[q]at h;cases h
   |some y=>
    rw[q]at h;cases h;exact uc.congr (DD Cx'.B hp (S.E sc _ y env eo lo me hk q)) λσ=>by rw[gc]<;>(repeat' (first|rfl|split))<;>simp_all
  ·cases h
 ·
  split at h
  ·split at h
   ·cases q:oh g N sc _ with
    |none=>rw[q]at h;cases h
    |some y=>
     rw[q]at h;cases h;exact uc.congr (VD Cx'.B (S.E sc _ y env eo lo me hk q)) λσ=>by rw[gc]<;>(repeat' (first|rfl|split))<;>simp_all
   ·cases h
  ·cases h
  ·rename_i hns1 hns2
   split at h<;>cases h
   rename_i q1 q2;refine uc.congr (iF (λa b=> ?_) (S.E sc _ _ env eo lo me hk q1) (S.E sc _ _ env eo lo me hk q2)) λσ=>by rw[gc]<;>(repeat' (first|rfl|split))<;>simp_all
   exact JE (by assumption) a b
 ·split at h<;>cases h
  rename_i q1 q2;exact uc.congr (FD AK (S.E sc _ _ env eo lo me hk q1) (S.E sc _ _ env eo lo me hk q2)) λσ=>by rw[gc]<;>(repeat' (first|rfl|split))<;>simp_all
 ·cases q:oh g N sc _ with
  |none=>rw[q]at h;cases h
  |some y=>
   rw[q]at h;cases h;exact uc.congr (IE (S.E sc _ y env eo lo me hk q)) λσ=>by rw[gc]<;>(repeat' (first|rfl|split))<;>simp_all
 ·split at h
  ·cases h
  ·rename_i el
   split at h<;>cases h
   rename_i q1 q2;exact uc.congr (LD Cx'.B.mods AK (by simpa using el) (S.E sc _ _ env eo lo me hk q1) (S.E sc _ _ env eo lo me hk q2)) λσ=>by rw[gc]<;>(repeat' (first|rfl|split))<;>simp_all
 ·split at h<;>cases h
  rename_i q1 q2 q3;exact uc.congr (uE (S.T sc _ _ env eo lo me hk q1) (S.E sc _ _ env eo lo me hk q2) (S.E sc _ _ env eo lo me hk q3)) λσ=>by rw[gc]<;>(repeat' (first|rfl|split))<;>simp_all
 ·cases q:Hp g N sc _ with
  |none=>rw[q]at h;cases h
  |some y=>
   rw[q]at h;cases h;exact uc.congr (sF (S.Es sc _ y env eo lo me _ hk q).1) λσ=>by rw[gc]<;>(repeat' (first|rfl|split))<;>simp_all
 ·cases q:Hp g N sc _ with
  |none=>rw[q]at h;cases h
  |some y=>
   rw[q]at h;cases h;exact uc.congr (GC (S.Es sc _ y env eo lo me _ hk q).1) λσ=>by rw[gc]<;>(repeat' (first|rfl|split))<;>simp_all
 ·cases h
  exact uc.congr xz λσ=>by rw[gc,Gf];simp[Gf,th]
 ·split at h
  ·split at h<;>cases h
   rename_i q1 q2;exact uc.congr (yz (S.E sc _ _ env eo lo me hk q1) (S.E sc _ _ env eo lo me hk q2)) λσ=>by
    rw[gc];simp only[Gf]<;>(repeat' (first|rfl|split))<;>simp_all
  ·cases h
 ·split at h
  ·split at h<;>cases h
   rename_i q1 q2 hab;exact uc.congr (zz hab (S.E sc _ _ env eo lo me hk q1) (S.E sc _ _ env eo lo me hk q2)) λσ=>by
    rw[gc];simp only[Gf,gc]<;>(repeat' (first|rfl|split))<;>simp_all
  ·cases h
 ·split at h
  ·rename_i it sc' q1 q2
   split at h
   ·rename_i t fs gs y q3 q4 q5 q6
    split at h<;>cases h
    rename_i hg;have C:=Yu q2;refine uc.congr (oC (sc':=sc') (Fs:=λQd=>fs.map λb σ=>Ug tab cf b Qd σ) (rr:=λQd σ=>Ef tab cf gs (λme σ=>gc tab cf y me σ) Qd σ) AK C hk (Tj q1) q3 hg (S.E sc _ it env eo lo me hk q1) λHm ow D hk' v Qd Zn=>⟨S.Ts sc' _ fs Hm ow _ Qd hk' q4,?_⟩) λσ=> ?_
    ·exact S.Gs sc' _ gs Hm ow _ Qd D _ y [] _ _ _ hk' q5 λUp=>S.E sc' _ y Hm ow _ Up hk' q6
    ·rw[gc]
     simp only[uk]<;>(repeat' (first|rfl|split))<;>simp_all
   ·cases h
  ·cases h
 ·split at h<;>cases h
  rename_i q1 q2;obtain⟨c1,c2,c3⟩:=GE q1;obtain⟨h1,h2⟩:=S.Es sc _ _ env eo lo me (default:Pos) hk q2;refine uc.congr (gC Cx'.B Cx'.CO Cx'.GO Cx'.SO Cx'.CF AK c3 (kindOf _ _ c1) (Xm c2).1 h2 (S.Es sc _ _ env eo lo me _ hk q2).1) λσ=>by rw[gc,gc]<;>(repeat' (first|rfl|split))<;>simp_all
 ·cases h
 ·split at h
  ·rename_i hc
   split at h<;>cases h
   rename_i q1 q2;simp only[La,decide_eq_true_eq]at hc;obtain⟨h1,h2⟩:=S.Es sc _ _ env eo lo me (default:Pos) hk q2;refine uc.congr (HC Cx'.B Cx'.CO Cx'.CF AK hc.1.1 hc.1.2 hc.2 h2 (S.E sc _ _ env eo lo me hk q1) (S.Es sc _ _ env eo lo me _ hk q2).1) λσ=>by rw[gc]<;>(repeat' (first|rfl|split))<;>simp_all
  ·cases h
 ·cases h
theorem an (Cx':Cx w hb K tab g cf n) (AK:yi (n+1) A):∀N,sj w hb A tab g cf N
 |0=>sA
 |N+1=>
  have S:=an Cx' AK N
  ⟨WG Cx' AK S,dF S,XG Cx' AK S,fF S,λsc gs xs env eo lo me D elt x pre g0 scope pos hk h he=>eF AK S sc gs xs env eo lo me D elt x pre g0 scope pos hk h he⟩
end
end Mine
namespace Mine
variable [Av]
mutual
def dH (g:Gl):Nat->Sc->Expr->Option T
 |0,_,_=>ba
 |n+1,sc,e=>match e with
  | .Name x _=>(nn sc x).map T.var
  | .Tuple es _ _=>(Ut g n sc es).map T.tup
  | .Attribute o a _=>(oh g n sc o).map (T.attr · a)
  | .Subscript o i _=>match i with
   | .Slice .. =>ba
   |_=>match oh g n sc o,oh g n sc i with
    |some x,aa y=>aa (.sub x y)
    |_,_=>ba
  |_=>ba
def Ut (g:Gl):Nat->Sc->List Expr->Option (List T)
 |0,_,_=>ba
 |_+1,_,[]=>aa []
 |n+1,sc,e::es=>match dH g n sc e,Ut g n sc es with
  |some x,aa xs=>aa (x::xs)
  |_,_=>ba
end
def PT (w:Lb) (hb:Gb) (env:Env) (eo:Qa->Prop) (sl:List Rb) (lo:Nat) (ρ:List Qa) (s:Sa) (σ:St) (me:Me) (s':Sa):Prop:=
 ∃Zd h' tk',s'={s with heap:=h',toks:=tk'}/\Kp eo ρ s.heap h' Zd/\R w hb Zd σ h'/\wd w hb env eo sl lo me Zd h'
def px (w:Lb) (hb:Gb) (A:lc) (env:Env) (eo:Qa->Prop) (sl:List Rb) (t:ya->Sem Unit) (r:V->Me->St->Option (Me×St)):Prop:=
 ∀v val me ρ σ s Qb Ca,R w hb ρ σ s.heap->wd w hb env eo sl 0 me ρ s.heap->VR w ρ s.heap v val->r v me σ=aa (Qb,Ca)->Wa (Fb pg w) A (t val) (λ_=>PT w hb env eo sl 0 ρ s Ca Qb) No s
section
variable {w:Lb} {hb:Gb} {A:lc} {env:Env} {eo:Qa->Prop} {sl:List Rb} {lo:Nat} {me Qb:Me} {K:Frag} {tab:gi} {n N:Nat} {g:Gl} {cf:Nat->List V->St->Option (V×St)} {sc:Sc} {ρ bf:List Qa} {σ Ca:St} {s:Sa}
theorem PT.after {h1:Gb} {tk1:Nat} (k:Kp eo ρ s.heap h1 bf) {s':Sa} (x:PT w hb env eo sl lo bf {s with heap:=h1,toks:=tk1} Ca me s'):PT w hb env eo sl lo ρ s Ca me s':=by
 obtain⟨Zd,h',tk',e,k',r',E'⟩:=x;exact⟨Zd,h',tk',e,k.trans k',r',E'⟩
theorem PA.pt {s':Sa} (x:PA w hb env eo sl lo ρ s σ me s'):PT w hb env eo sl lo ρ s σ me s':=by
 obtain⟨h',tk',e,k',r',E'⟩:=x;exact⟨ρ,h',tk',e,k',r',E'⟩
theorem PS.pt {s':Sa} (r:R w hb ρ σ s.heap) (E:wd w hb env eo sl lo me ρ s.heap) (x:PS w hb env.locals ρ s Ca s'):PT w hb env eo sl lo ρ s Ca me s':=by
 obtain⟨Zd,h',tk',e,k',r'⟩:=x;exact⟨Zd,h',tk',e,k'.kp E,r',E.kx r k'⟩
theorem mr {o:Expr} {a:Rb} {pos:Pos} {F:Me->St->Option (V×St)} (B:gm hb K tab) (hf:∀me,uc w hb A env eo sl 0 me (eval o env) (F me)):
 px w hb A env eo sl (λv=>assign (.Attribute o a pos) env v) (λv me σ=>match F me σ with
  |some (ov,Ja)=>(match ye tab ov a v Ja with
   |some Cb=>aa (me,Cb)
   |none=>ba)
  |none=>ba):=by
 intro v val me ρ σ s Qb Ca r E x e;cases hq:F me σ with
 |none=>simp only[hq]at e;cases e
 |some q=>
  obtain⟨ov,Ja⟩:=q;simp only[hq]at e;cases hs:ye tab ov a v Ja with
  |none=>simp only[hs]at e;cases e
  |some Cb=>
   simp only[hs]at e;cases e
   show Wa _ _ (assign (.Attribute o a pos) env val) _ _ _
   rw[arm_assign_Attribute];refine ia (Xb (Ea (hf me ρ σ s ov Ja r E hq) (λo' s1 p1=> ?_) λ_ _ z=>z));obtain⟨bf,h1,tk1,rfl,k1,r1,x1⟩:=p1;have E1:=E.kx r k1;refine ia (fc (ia (Xb (Ea (nA B r1 E1.lok x1 (k1.vr x) hs) (λ_ s2 p2=>wpAny_release ?_) λ_ _ z=>z))));exact PT.after (k1.kp E) (PS.pt r1 E1 p2)
theorem Wr {o i:Expr} {pos:Pos} {F G:Me->St->Option (V×St)} (hf:∀me,uc w hb A env eo sl 0 me (eval o env) (F me)) (hg:∀me,uc w hb A env eo sl 0 me (eval i env) (G me)):
 px w hb A env eo sl (λv=>assign (.Subscript o i pos) env v) (λv me σ=>match F me σ with
  |some (ov,Ja)=>(match G me Ja with
   |some (iv,Cb)=>(match Cd ov iv v Cb with
    |some ae=>aa (me,ae)
    |none=>ba)
   |none=>ba)
  |none=>ba):=by
 intro v val me ρ σ s Qb Ca r E x e;cases hq:F me σ with
 |none=>simp only[hq]at e;cases e
 |some q=>
  obtain⟨ov,Ja⟩:=q;simp only[hq]at e;cases hq2:G me Ja with
  |none=>simp only[hq2]at e;cases e
  |some q2=>
   obtain⟨iv,Cb⟩:=q2;simp only[hq2]at e;cases hs:Cd ov iv v Cb with
   |none=>simp only[hs]at e;cases e
   |some ae=>
    simp only[hs]at e;cases e
    show Wa _ _ (assign (.Subscript o i pos) env val) _ _ _
    rw[arm_assign_Subscript];refine ia (Xb (Ea (hf me ρ σ s ov Ja r E hq) (λo' s1 p1=> ?_) λ_ _ z=>z));obtain⟨bf,h1,tk1,rfl,k1,r1,x1⟩:=p1;have E1:=E.kx r k1;refine ia (Xb (Ea (hg me bf Ja _ iv Cb r1 E1 hq2) (λi' s2 p2=> ?_) λ_ _ z=>z));obtain⟨zi,h2,Qh,rfl,k2,r2,x2⟩:=p2;have E2:=E1.kx r1 k2;refine ia (fc (ia (Xb (Ea (Mv r2 E2.lok (k2.vr x1) x2 (k2.vr (k1.vr x)) hs) (λ_ s3 p3=>wpAny_release ?_) λ_ _ z=>z))));exact PT.after (k1.kp E) (PT.after (s:={s with heap:=h1,toks:=tk1}) (k2.kp E1) (PS.pt r2 E2 p3))
structure NH (w:Lb) (hb:Gb) (A:lc) (tab:gi) (g:Gl) (cf:Nat->List V->St->Option (V×St)) (N:Nat):Prop where
 one:∀sc e t env eo,env.scope.names=sc.kinds->dH g N sc e=aa t->px w hb A env eo sc.sl (λv=>assign e env v) (λv me σ=>Fk tab cf t v me σ)/\(∀x p,e≠Ee x p)
 all:∀sc es ts env eo,env.scope.names=sc.kinds->Ut g N sc es=aa ts->∀vs vals me ρ σ s Qb Ca,R w hb ρ σ s.heap->wd w hb env eo sc.sl 0 me ρ s.heap->og w ρ s.heap vs vals->Lh tab cf ts vs me σ=aa (Qb,Ca)->
  Wa (Fb pg w) A (assignInOrder ((assignEach es env).map (·.2)) vals) (λ_=>PT w hb env eo sc.sl 0 ρ s Ca Qb) No s
theorem jj {e:Expr} {es:List Expr} (h:∀x p,e≠Ee x p):assignEach (e::es) env=(false,assign e env)::assignEach es env:=by
 cases e<;>first|rfl|exact absurd rfl (h _ _)
theorem Sy:∀{N:Nat} {es:List Expr} {ts:List T},Ut g N sc es=aa ts->es.length=ts.length/\∀e∈es,∀x p,e≠Ee x p
 |0,_,_,h=>by simp[Ut]at h
 |N+1,[],ts,h=>by simp[Ut]at h;subst h;exact⟨rfl,λe he=>by cases he⟩
 |N+1,e::es,ts,h=>by
  simp only[Ut]at h
  split at h<;>cases h
  rename_i t ts' q1 q2;obtain⟨a,b⟩:=Sy q2;refine⟨by simp[a],λe' he x p=> ?_⟩;rcases Fa.mp he with q|q
  ·subst q;rintro rfl;cases N<;>simp[dH]at q1
  ·exact b e' q x p
theorem Jy:∀{ts:List T} {vs:List V} {me Qb:Me} {σ Ca:St},Lh tab cf ts vs me σ=aa (Qb,Ca)->ts.length=vs.length
 | [],[],_,_,_,_,_=>rfl
 | [],_::_,_,_,_,_,h=>by simp[Lh]at h
 |_::_,[],_,_,_,_,h=>by simp[Lh]at h
 |t::ts,v::vs,me,Qb,σ,Ca,h=>by
  rw[Lh]at h
  split at h
  ·rename_i Qd Ja _
   have:=Jy h;simp[this]
  ·cases h
theorem kj:∀{es:List Expr},(∀e∈es,∀x p,e≠Ee x p)->assignEach es env=es.map λe=>(false,assign e env)
 | [],_=>rfl
 |e::es,h=>by rw[jj (h e Ma),kj λe he=>h e (Ia _ he)];rfl
theorem cF (Cx':Cx w hb K tab g cf n) (AK:yi (n+1) A):∀N,NH w hb A tab g cf N
 |0=>⟨λsc e t env eo hk h=>by simp[dH]at h,λsc es ts env eo hk h=>by simp[Ut]at h⟩
 |N+1=>by
  have S:=cF Cx' AK N;have SE:=an Cx' AK N;refine⟨λsc e t env eo hk h=> ?_,λsc es ts env eo hk h vs vals me ρ σ s Qb Ca r E x e=> ?_⟩
  ·refine⟨?_,λx p q=>by subst q;simp[dH]at h⟩
   unfold dH at h
   split at h
   ·rename_i x p
    cases q:nn sc x with
    |none=>rw[q]at h;cases h
    |some i=>
     rw[q]at h;cases h;intro v val me ρ σ s Qb Ca r E xv e
     change Fk tab cf _ v me σ=aa (Qb,Ca)at e
     rw[Fk]at e
     split at e<;>cases e
     exact Ea (Dh (Xk q) (Ae _) r E xv) (λ_ _ p=>PA.pt p) λ_ _ z=>z
   ·cases q:Ut g N sc _ with
    |none=>rw[q]at h;cases h
    |some ts=>
     rw[q]at h;cases h;intro v val me ρ σ s Qb Ca r E xv e
     change Fk tab cf _ v me σ=aa (Qb,Ca)at e
     cases v<;>try (simp[Fk]at e;done)
     rename_i xs;rw[Fk]at e;cases xv with
     | @tup a _ vs m nav ea la qa=>
     obtain⟨l1,l2⟩:=Sy q;have l3:=Jy e;have l4:=qa.length
     show Wa _ _ (assign (.Tuple _ _ _) env _) _ _ _
     rw[arm_assign_Tuple];refine ia (fc (wpAny_unpack_tuple AK.hh (items:=vs.toArray) (uf ea) (by rw[gb,kj l2,ja];omega) (by rw[kj l2,Xv];intro y hy;obtain⟨p,_,rfl⟩:=Bb.mp hy;rfl) λh' iq=> ?_));have hk':∀a o,s.heap.get? a=aa o->h'.get? a=aa o:=λa o e=>iq a o (Bc (Wb e)) e;have h1:=S.all sc _ ts env eo hk q xs vs me ρ σ {s with heap:=h'} Qb Ca (r.grow hk') (E.grow r hk') (qa.mono (Ha _) λa o e _=>hk' a o e) e;exact Ea h1 (λ_ s2 p2=>PT.after (s:=s) (tk1:=s.toks) (Kp.grow hk') p2) λ_ _ z=>z
   ·cases q:oh g N sc _ with
    |none=>rw[q]at h;cases h
    |some y=>
     rw[q]at h;cases h;intro v val me ρ σ s Qb Ca r E xv e
     change Fk tab cf _ v me σ=aa (Qb,Ca)at e
     rw[Fk]at e;exact mr Cx'.B (λme=>SE.E sc _ y env eo 0 me hk q) v val me ρ σ s Qb Ca r E xv (by rw[<-e]<;>(repeat' (first|rfl|split))<;>simp_all)
   ·split at h
    ·cases h
    ·split at h<;>cases h
     rename_i q1 q2;intro v val me ρ σ s Qb Ca r E xv e
     change Fk tab cf _ v me σ=aa (Qb,Ca)at e
     rw[Fk]at e;exact Wr (λme=>SE.E sc _ _ env eo 0 me hk q1) (λme=>SE.E sc _ _ env eo 0 me hk q2) v val me ρ σ s Qb Ca r E xv (by rw[<-e]<;>(repeat' (first|rfl|split))<;>simp_all)
   ·cases h
  ·cases es with
   |nil=>
    simp[Ut]at h;subst h;cases x with
    |nil=>simp[Lh]at e;obtain⟨rfl,rfl⟩:=e;exact wpAny_assignInOrder_none ⟨ρ,s.heap,s.toks,rfl,Kp.refl,r,E⟩
    |cons a b=>simp[Lh]at e
   |cons e0 es=>
    simp only[Ut]at h
    split at h<;>cases h
    rename_i t ts' q1 q2;cases x with
    |nil=>simp[Lh]at e
    | @cons v0 vs0 val0 vals0 a b=>
     rw[Lh]at e
     split at e
     ·rename_i Qd Ja q3
      obtain⟨g1,g2⟩:=S.one sc e0 t env eo hk q1;have step:=g1 v0 val0 me ρ σ s Qd Ja r E a q3;rw[jj g2];have Xn:=λbf s1 (r1:R w hb bf Ja s1.heap) E1 (b1:og w bf s1.heap vs0 vals0)=>S.all sc es ts' env eo hk q2 vs0 vals0 Qd bf Ja s1 Qb Ca r1 E1 b1 e;refine wpAny_assignInOrder_more (Ea step (λ_ s1 p1=> ?_) λ_ _ z=>z);obtain⟨bf,h1,tk1,rfl,k1,r1,E1⟩:=p1;exact Ea (Xn bf {s with heap:=h1,toks:=tk1} r1 E1 (k1.vrs b)) (λ_ s2 p2=>PT.after k1 p2) λ_ _ z=>z
     ·cases e
end
end Mine
namespace Mine
variable [Av]
def JK (w:Lb) (ρ:List Qa) (h:Gb):Fl->Flow->Prop
 | .next,.next=>True
 | .ret v,.ret val=>VR w ρ h v val
 |_,_=>False
def PF (w:Lb) (hb:Gb) (env:Env) (eo:Qa->Prop) (sl:List Rb) (ρ:List Qa) (s:Sa) (σ:St) (me:Me) (fl:Fl) (f:Flow) (s':Sa):Prop:=
 ∃Zd h' tk',s'={s with heap:=h',toks:=tk'}/\Kp eo ρ s.heap h' Zd/\R w hb Zd σ h'/\wd w hb env eo sl 0 me Zd h'/\JK w Zd h' fl f
def yg (w:Lb) (hb:Gb) (A:lc) (env:Env) (eo:Qa->Prop) (sl:List Rb) (t:Sem Flow) (r:Me->St->Option (Fl×Me×St)):Prop:=
 ∀me ρ σ s fl Qb Ca,R w hb ρ σ s.heap->wd w hb env eo sl 0 me ρ s.heap->r me σ=aa (fl,Qb,Ca)->Wa (Fb pg w) A t (PF w hb env eo sl ρ s Ca Qb fl) No s
section
variable {w:Lb} {hb:Gb} {A:lc} {env:Env} {eo:Qa->Prop} {sl:List Rb} {lo:Nat} {me Qb:Me} {K:Frag} {tab:gi} {n N:Nat} {g:Gl} {cf:Nat->List V->St->Option (V×St)} {sc:Sc} {ρ bf:List Qa} {σ Ca:St} {s:Sa} {fl:Fl}
theorem yg.congr {t:Sem Flow} {r r':Me->St->Option (Fl×Me×St)} (h:yg w hb A env eo sl t r) (e:∀me σ,r' me σ=r me σ):yg w hb A env eo sl t r':=λme ρ σ s fl Qb Ca R E q=>h me ρ σ s fl Qb Ca R E (by rw[<-e];exact q)
theorem PF.after {h1:Gb} {tk1:Nat} {f:Flow} (k:Kp eo ρ s.heap h1 bf) {s':Sa} (x:PF w hb env eo sl bf {s with heap:=h1,toks:=tk1} Ca me fl f s'):PF w hb env eo sl ρ s Ca me fl f s':=by
 obtain⟨Zd,h',tk',e,k',r',E',q⟩:=x;exact⟨Zd,h',tk',e,k.trans k',r',E',q⟩
theorem qw:yg w hb A env eo sl (execs [] env) (λme σ=>aa (.next,me,σ)):=λme ρ σ s fl Qb Ca r E e=>by
 cases e;rw[arm_execs_nil];exact Ba ⟨ρ,s.heap,s.toks,rfl,Kp.refl,r,E,trivial⟩
theorem yu {st:Stmt} {Md:List Stmt} {F G:Me->St->Option (Fl×Me×St)} (hf:yg w hb A env eo sl (exec st env) F) (hg:yg w hb A env eo sl (execs Md env) G):
 yg w hb A env eo sl (execs (st::Md) env) (λme σ=>match F me σ with
  |some (.next,Qd,Ja)=>G Qd Ja
  |r=>r):=by
 intro me ρ σ s fl Qb Ca r E e;rw[arm_execs_cons];cases hF:F me σ with
 |none=>simp only[hF]at e;cases e
 |some p=>
  obtain⟨f0,Qd,Ja⟩:=p;refine ia (Ea (hf me ρ σ s f0 Qd Ja r E hF) (λf s1 p1=> ?_) λ_ _ z=>z);obtain⟨bf,h1,tk1,rfl,k1,r1,E1,q1⟩:=p1;cases f0 with
  |next=>
   simp only[hF]at e;cases f<;>try exact q1.elim
   exact Ea (hg Qd bf Ja _ fl Qb Ca r1 E1 e) (λf s2 p2=>PF.after k1 p2) λ_ _ z=>z
  |ret v=>
   simp only[hF]at e;cases e;cases f<;>try exact q1.elim
   exact Ba ⟨bf,h1,tk1,rfl,k1,r1,E1,q1⟩
theorem XJ {t:Expr} {a b:List Stmt} {pos:Pos} {T:Me->St->Option (Bool×St)} {F G:Me->St->Option (Fl×Me×St)} (ht:∀me,Bh w hb A env eo sl 0 me (isTrue t env (eval t env)) (T me)) (hf:yg w hb A env eo sl (execs a env) F) (hg:yg w hb A env eo sl (execs b env) G):
 yg w hb A env eo sl (exec (.If t a b pos) env) (λme σ=>match T me σ with
  |some (true,Ja)=>F me Ja
  |some (false,Ja)=>G me Ja
  |none=>ba):=by
 intro me ρ σ s fl Qb Ca r E e;rw[arm_exec_If];cases hF:T me σ with
 |none=>simp only[hF]at e;cases e
 |some p=>
  obtain⟨c,Ja⟩:=p;refine ia (fc (ia (Ea (ht me ρ σ s c Ja r E hF) (λc' s1 p1=> ?_) λ_ _ z=>z)));obtain⟨bf,h1,tk1,rfl,k1,r1,rfl⟩:=p1;have E1:=E.kx r k1;cases c' with
  |true=>simp only[hF]at e;exact Ea (hf me bf Ja _ fl Qb Ca r1 E1 e) (λf s2 p2=>PF.after (k1.kp E) p2) λ_ _ z=>z
  |false=>simp only[hF]at e;exact Ea (hg me bf Ja _ fl Qb Ca r1 E1 e) (λf s2 p2=>PF.after (k1.kp E) p2) λ_ _ z=>z
theorem UI {x:Expr} {pos:Pos} {F:Me->St->Option (V×St)} (hf:∀me,uc w hb A env eo sl 0 me (eval x env) (F me)):
 yg w hb A env eo sl (exec (.Return (aa x) pos) env) (λme σ=>match F me σ with
  |some (v,Ja)=>aa (.ret v,me,Ja)
  |none=>ba):=by
 intro me ρ σ s fl Qb Ca r E e;cases hF:F me σ with
 |none=>simp only[hF]at e;cases e
 |some p=>
  obtain⟨v,Ja⟩:=p;simp only[hF]at e;cases e;refine wpAny_Return_some (Ea (hf me ρ σ s v _ r E hF) (λval s1 p1=> ?_) λ_ _ z=>z);obtain⟨bf,h1,tk1,rfl,k1,r1,x1⟩:=p1;exact⟨bf,h1,tk1,rfl,k1.kp E,r1,E.kx r k1,x1⟩
def Bw:Expr->Bool
 | .ListComp .. | .SetComp .. | .DictComp .. =>true
 |_=>false
theorem Nm {e:Expr} {t:Option Expr} {line:Nat} (h:Bw e=false):swapsWith e t line env=pure false:=by
 cases e<;>first|rfl|cases h
theorem kG {x:Expr} {pos:Pos} {F:Me->St->Option (V×St)} (hc:Bw x=false) (hf:∀me,uc w hb A env eo sl 0 me (eval x env) (F me)):
 yg w hb A env eo sl (exec (.Expr x pos) env) (λme σ=>match F me σ with
  |some (.none,Ja)=>aa (.next,me,Ja)
  |some (.bool _,Ja)=>aa (.next,me,Ja)
  |_=>ba):=by
 intro me ρ σ s fl Qb Ca r E e;cases hF:F me σ with
 |none=>simp only[hF]at e;cases e
 |some p=>
  obtain⟨v,Ja⟩:=p;simp only[hF]at e;refine wpAny_Expr (Ea (hf me ρ σ s v Ja r E hF) (λval s1 p1=> ?_) λ_ _ z=>z) (by unfold interactive;rw[E.kind];rfl) (Nm hc);obtain⟨bf,h1,tk1,rfl,k1,r1,x1⟩:=p1;cases v<;>first
   |(cases e;done)
   |(cases e;cases x1;exact⟨bf,h1,tk1,rfl,k1.kp E,r1,E.kx r k1,trivial⟩)
theorem vF {t:Expr} {b:List Stmt} {pos:Pos} {T:Me->St->Option (Bool×St)} {F:Me->St->Option (Fl×Me×St)} (AK:yi n A) (ht:∀me,Bh w hb A env eo sl 0 me (isTrue t env (eval t env)) (T me)) (hf:yg w hb A env eo sl (execs b env) F):
 yg w hb A env eo sl (exec (.While t b [] pos) env) (λme σ=>Gi 5000 T F me σ):=by
 have loop:∀(fuel:Nat) me ρ σ s fl Qb Ca,R w hb ρ σ s.heap->wd w hb env eo sl 0 me ρ s.heap->Gi fuel T F me σ=aa (fl,Qb,Ca)->
  ai (Fb pg w) A (.whileLoop t b [] env) (λq s'=>∃f,q=.ok f/\PF w hb env eo sl ρ s Ca Qb fl f s') s:=by
  intro fuel
  induction fuel with
  |zero=>intro me ρ σ s fl Qb Ca r E e;cases e
  |succ fuel ih=>
   intro me ρ σ s fl Qb Ca r E e;refine codeAny_of_tree ?_
   show Wa _ A ((whileTurn t b [] env).onRaise (λx=>do noteFrame x env;theTreesLotGoes x)) _ _ s
   refine wpAny_noted ?_;simp only[whileTurn];simp only[Gi]at e;cases hT:T me σ with
   |none=>simp only[hT]at e;cases e
   |some p=>
    obtain⟨c,Ja⟩:=p;refine ia (Ea (ht me ρ σ s c Ja r E hT) (λc' s1 p1=> ?_) λ_ _ z=>z.elim);obtain⟨bf,h1,tk1,rfl,k1,r1,rfl⟩:=p1;have E1:=E.kx r k1;cases c' with
    |false=>
     simp only[hT]at e;cases e;rw[if_neg ke];refine ia ?_;rw[arm_execs_nil];exact Ba (Ba ⟨.next,rfl,bf,h1,tk1,rfl,k1.kp E,r1,E1,trivial⟩)
    |true=>
     simp only[hT]at e;rw[if_pos rfl];cases hF:F me Ja with
     |none=>simp only[hF]at e;cases e
     |some p=>
      obtain⟨f0,Up,Cb⟩:=p;refine ia (Ea (hf me bf Ja _ f0 Up Cb r1 E1 hF) (λf s2 p2=> ?_) λ_ _ z=>z.elim);obtain⟨zi,h2,Qh,rfl,k2,r2,E2,q2⟩:=p2;cases f0 with
      |next=>
       simp only[hF]at e;cases f<;>try exact q2.elim
       refine Ba ⟨rfl,Hc (ih Up zi Cb {s with heap:=h2,toks:=Qh} fl Qb Ca r2 E2 e) λq s3 p3=> ?_⟩;obtain⟨f,rfl,p3⟩:=p3;exact⟨f,rfl,PF.after (k1.kp E) (PF.after (s:={s with heap:=h1,toks:=tk1}) k2 p3)⟩
      |ret v=>
       simp only[hF]at e;cases e;cases f<;>try exact q2.elim
       exact Ba ⟨_,rfl,zi,h2,Qh,rfl,(k1.kp E).trans k2,r2,E2,q2⟩
 intro me ρ σ s fl Qb Ca r E e;refine wpAny_While (Hc (loop 5000 me ρ σ s fl Qb Ca r E e) λq s1 p1=> ?_);obtain⟨f,rfl,p1⟩:=p1;exact p1
theorem dv (t:CT):Ds 0 t=true:=by
 cases t<;>simp[Ds]
theorem Gz {tgt:Expr} {b:List Stmt} {t:CT} {it:It} {I:Qa} {F:Me->St->Option (Fl×Me×St)} (AK:yi n A) (ht:Do sc tgt=aa t) (hf:yg w hb A env eo sc.sl (execs b env) F) (hIb:hb.get? I=ba):
 ∀(fuel i:Nat) me ρ σ s fl Qb Ca,R w hb ρ σ s.heap->wd w hb env eo sc.sl 0 me ρ s.heap->Yj w ρ s.heap I i it->¬eo I->Ye fuel it i (λv me σ=>match dg t v me with
  |some Qd=>F Qd σ
  |none=>ba) me σ=aa (fl,Qb,Ca)->
  ai (Fb pg w) A (.forLoop tgt (.ref I) b [] env) (λq s'=>∃f,q=.ok f/\∃Zd h' tk',s'={s with heap:=h',toks:=tk'}/\(∀a o,s.heap.get? a=aa o->a∉ρ->¬eo a->a≠I->h'.get? a=aa o)/\ρ<+:Zd/\(∀a∈Zd,a∈ρ\/s.heap.get? a=ba)/\(∀a o,s.heap.get? a=aa o->bh o->h'.get? a=aa o)/\
   R w hb Zd Ca h'/\wd w hb env eo sc.sl 0 Qb Zd h'/\JK w Zd h' fl f) s:=by
 intro fuel
 induction fuel with
 |zero=>intro i me ρ σ s fl Qb Ca r E x gB e;cases e
 |succ fuel ih=>
  intro i me ρ σ s fl Qb Ca r E x gB e;refine codeAny_of_tree ?_
  show Wa _ A ((forTurn tgt (.ref I) b [] env).onRaise (λx=>do noteFrame x env;theTreesLotGoes x)) _ _ s
  refine wpAny_noted ?_;simp only[forTurn];simp only[Ye]at e;cases hi:jg it i σ with
  |none=>simp only[hi]at e;cases e
  |some o=>
   refine ia (fc (ia (wpAny_onRaise (Ea (FB AK r x hi) (λq s1 p1=> ?_) λ_ _ z=>z.elim))));obtain⟨h1,tk1,rfl,k1,np⟩:=p1;have r1:=ny r x hIb k1;have E1:=my E x gB k1;have im1:=rt x k1;cases o with
   |none=>
    simp only[hi]at e;cases e;cases np;refine Ba ⟨rfl,codeAny_block ?_⟩;rw[arm_execs_nil];exact Ba ⟨.next,rfl,ρ,h1,tk1,rfl,λa o e _ _ n=>k1 a o n e,Ha _,λa h=>.inl h,im1,r1,E1,trivial⟩
   |some v=>
    simp only[hi]at e;obtain⟨val,rfl,xv,x1⟩:=np;cases Zn:dg t v me with
    |none=>simp only[Zn]at e;cases e
    |some Qd=>
     simp only[Zn]at e;refine ia (gy (s:={s with heap:=h1,toks:=tk1}) x1 ?_);refine ia (Ea (TD (s:={s with heap:=h1,toks:=tk1}) AK ht (dv t) r1 E1 xv Zn) (λ_ s2 p2=> ?_) λ_ _ z=>z.elim);obtain⟨h2,Qh,rfl,k2,r2,E2⟩:=p2;have x2:Yj w ρ h2 I (i+1) it:=x1.keep (Ha _) k2.imm λo e=>k2.keep I o e (x1.notIn r1) gB;cases hF:F Qd σ with
     |none=>simp only[hF]at e;cases e
     |some p=>
      obtain⟨f0,Up,Cb⟩:=p;refine ia (Ea (hf Qd ρ σ _ f0 Up Cb r2 E2 hF) (λf s3 p3=> ?_) λ_ _ z=>z.elim);obtain⟨mu,h3,OB,rfl,k3,r3,E3,q3⟩:=p3;have x3:Yj w mu h3 I (i+1) it:=x2.keep k3.pre k3.imm λo e=>k3.keep I o e (x2.notIn r2) gB;have live1:∀a o,s.heap.get? a=aa o->(h2.get? a).isSome=true:=λa o z=>by
       refine k2.live a ?_
       by_cases q:a=I
       ·obtain⟨o',e',_⟩:=Ig x1;rw[q,e'];rfl
       ·rw[k1 a o q z];rfl
      have cy:∀a o,s.heap.get? a=aa o->a∉ρ->¬eo a->a≠I->h3.get? a=aa o:=λa o e n1 n2 n3=>
       k3.keep a o (k2.keep a o (k1 a o n3 e) n1 n2) n1 n2
      have ly:∀a,h3.get? a=ba->s.heap.get? a=ba:=λa e=>by
       cases z:s.heap.get? a with
       |none=>rfl
       |some o=>have:=k3.live a (live1 a o z);rw[e]at this;cases this
      have Im:∀a∈mu,a∈ρ\/s.heap.get? a=ba:=λa ha=>by
       rcases k3.fresh a ha with q|q
       ·exact .inl q
       ·right
        cases z:s.heap.get? a with
        |none=>rfl
        |some o=>have:=live1 a o z;rw[q]at this;cases this
      have imm3:∀a o,s.heap.get? a=aa o->bh o->h3.get? a=aa o:=λa o e im=>k3.imm a o (k2.imm a o (im1 a o e im) im) im;cases f0 with
      |next=>
       simp only[hF]at e;cases f<;>try exact q3.elim
       refine Ba ⟨rfl,Hc (ih (i+1) Up mu Cb {s with heap:=h3,toks:=OB} fl Qb Ca r3 E3 x3 gB e) λq s4 p4=> ?_⟩;obtain⟨f,rfl,VB,h4,tk4,rfl,g1,g2,g3,g4,g5,g6,g7⟩:=p4;exact⟨f,rfl,VB,h4,tk4,rfl,λa o e n1 n2 n3=>g1 a o (cy a o e n1 n2 n3) (λq=>by
        rcases Im a q with q|q
        ·exact n1 q
        ·rw[q]at e;cases e) n2 n3,k3.pre.trans g2,λa ha=>by
        rcases g3 a ha with q|q
        ·exact Im a q
        ·exact .inr (ly a q),λa o e im=>g4 a o (imm3 a o e im) im,g5,g6,g7⟩
      |ret v=>
       simp only[hF]at e;cases e;cases f<;>try exact q3.elim
       exact Ba ⟨_,rfl,mu,h3,OB,rfl,cy,k3.pre,Im,imm3,r3,E3,q3⟩
end
end Mine
namespace Mine
variable [Av]
section
variable {w:Lb} {hb:Gb} {A:lc} {env:Env} {eo:Qa->Prop} {sl:List Rb} {lo:Nat} {me Qb:Me} {K:Frag} {tab:gi} {n N:Nat} {g:Gl} {cf:Nat->List V->St->Option (V×St)} {sc:Sc} {ρ bf:List Qa} {σ Ca:St} {s:Sa} {fl:Fl}
theorem jE {tgt iter:Expr} {b:List Stmt} {pos:Pos} {t:CT} {Fi:Me->St->Option (V×St)} {F:Me->St->Option (Fl×Me×St)} (AK:yi n A) (ht:Do sc tgt=aa t) (kn:∀a b c,iter≠ .Set a b c) (hi:∀me,uc w hb A env eo sc.sl 0 me (eval iter env) (Fi me)) (hf:yg w hb A env eo sc.sl (execs b env) F):
 yg w hb A env eo sc.sl (exec (.For tgt iter b [] pos) env) (λme σ=>match Fi me σ with
  |some (v,Ja)=>(match te v Ja with
   |some it=>Ye 5000 it 0 (λv me σ=>match dg t v me with
    |some Qd=>F Qd σ
    |none=>ba) me Ja
   |none=>ba)
  |none=>ba):=by
 intro me ρ σ s fl Qb Ca r E e;cases hFi:Fi me σ with
 |none=>simp only[hFi]at e;cases e
 |some p=>
  obtain⟨iv,Ja⟩:=p;simp only[hFi]at e;cases Au:te iv Ja with
  |none=>simp only[Au]at e;cases e
  |some it=>
   simp only[Au]at e;refine wpAny_For (Ea (hi me ρ σ s iv Ja r E hFi) (λa s1 p1=> ?_) λ_ _ z=>z) (λx=>Jw kn env x);obtain⟨bf,h1,tk1,rfl,k1,r1,x1⟩:=p1;have E1:=E.kx r k1;refine Ea (Gw r1 x1 Au) (λq s2 p2=> ?_) λ_ _ z=>z;obtain⟨h2,Qh,rfl,rfl,k2,x2⟩:=p2;have hIn:h1.get? h1.objs.size=ba:=Hb _;have r2:=r1.grow k2;have E2:=E1.grow r1 k2;have gB:¬eo h1.objs.size:=λq=>by have:=E1.eol _ q;rw[hIn]at this;cases this
   refine Hc (Gz AK ht hf (Ge r1 hIn) 5000 0 me bf Ja {s with heap:=h2,toks:=Qh} fl Qb Ca r2 E2 x2 gB e) λq s3 p3=> ?_;obtain⟨f,rfl,mu,h3,OB,rfl,g1,g2,g3,g4,g5,g6,g7⟩:=p3;have nI:∀a o,h1.get? a=aa o->a≠h1.objs.size:=λa o e=>Bc (Wb e);have fresh:∀a∈mu,a∈bf\/h1.get? a=ba:=λa ha=>by
    rcases g3 a ha with q|q
    ·exact .inl q
    ·right
     cases z:h1.get? a with
     |none=>rfl
     |some o=>rw[k2 a o z]at q;cases q
   refine⟨mu,h3,OB,rfl,(k1.kp E).trans ⟨g2,fresh,λa o e n1 n2=>g1 a o (k2 a o e) n1 n2 (nI a o e),λa o e im=>g4 a o (k2 a o e) im,λa e=> ?_⟩,g5,g6,g7⟩;obtain⟨o,ho⟩:=Ta.mp e
   by_cases q1:a∈bf
   ·obtain⟨x,hx,_⟩:=g5.live (li g2 q1)
    rw[hx];rfl
   ·by_cases q2:eo a
    ·exact g6.eol a q2
    ·rw[g1 a o (k2 a o ho) q1 q2 (nI a o ho)];rfl
theorem cq {tg x:Expr} {pos:Pos} {F:Me->St->Option (V×St)} {G:V->Me->St->Option (Me×St)} (hns:∀y p,tg≠Ee y p) (hs:swapsWith x (aa tg) pos.line env=pure false) (hw:swappedStores [tg] x env=pure ba) (hf:∀me,uc w hb A env eo sl 0 me (eval x env) (F me))
 (hg:px w hb A env eo sl (λv=>assign tg env v) G):
 yg w hb A env eo sl (exec (.Assign [tg] x pos) env) (λme σ=>match F me σ with
  |some (v,Ja)=>(match G v me Ja with
   |some (Up,Cb)=>aa (.next,Up,Cb)
   |none=>ba)
  |none=>ba):=by
 intro me ρ σ s fl Qb Ca r E e;cases hF:F me σ with
 |none=>simp only[hF]at e;cases e
 |some p=>
  obtain⟨v,Ja⟩:=p;simp only[hF]at e;cases hG:G v me Ja with
  |none=>simp only[hG]at e;cases e
  |some q=>
   obtain⟨Up,Cb⟩:=q;simp only[hG]at e;cases e;refine wpAny_Assign_stores (Ea (hf me ρ σ s v Ja r E hF) (λval s1 p1=> ?_) λ_ _ z=>z) hs hw;obtain⟨bf,h1,tk1,rfl,k1,r1,x1⟩:=p1;have E1:=E.kx r k1;rw[jj hns]
   show Wa _ _ (assign tg env val) _ _ _
   refine Ea (hg v val me bf Ja _ Qb Ca r1 E1 x1 hG) (λ_ s2 p2=> ?_) λ_ _ z=>z;obtain⟨zi,h2,Qh,rfl,k2,r2,E2⟩:=p2;exact⟨zi,h2,Qh,rfl,(k1.kp E).trans k2,r2,E2,trivial⟩
theorem Jz {ov iv v:V} {o i:ya} (r:R w hb ρ σ s.heap) (xo:VR w ρ s.heap ov o) (xi:VR w ρ s.heap iv i) {L:Qa} (e:Qe ov iv σ=aa v):Wa (Fb pg w) A (getItem o i) (PV w hb L ρ s σ v) No s:=by
 unfold Qe at e
 split at e
 ·rename_i xs k
  obtain⟨j,j1,j2,j3,j4⟩:=Kr e;cases xi with
  |int _ t=>
  cases xo with
  |tup nav eo lo qo=>
  obtain⟨y,y1,y2⟩:=qo.get j2;have hj:=(ca.mp j2).1;have hb: -(2^63:Int)<=k/\k<2^63:=by
   by_cases h0:0<=k
   ·have:=j3 h0;omega
   ·have:=j4 (by omega);omega
  exact Qp (uf eo) hb.1 hb.2 (by rw[gb,<-qo.length];exact j1) (by simpa using y1) (PV.same0 r y2)
 ·rename_i i' k
  cases xi with
  |int _ t=>
  split at e
  ·rename_i xs q
   obtain⟨j,j1,j2,j3,j4⟩:=Kr e;obtain⟨a,vs,m,rfl,_,q1,lx,q3⟩:=r.list (by unfold listAt;rw[q]) xo;obtain⟨y,y1,y2⟩:=q3.get j2;have hj:=(ca.mp j2).1
   by_cases h0:0<=k
   ·exact wpAny_getItem_list (He q1) h0 (by have:=j3 h0;omega) (by rw[<-j3 h0];simpa using y1) (PV.same0 r y2)
   ·obtain⟨g1,g2⟩:=j4 (by omega)
    exact wpAny_getItem_list_neg (He q1) (by omega) (by rw[gb,<-q3.length];exact g1) (by omega) (by rw[gb,<-q3.length,<-g2];simpa using y1) (PV.same0 r y2)
  ·rename_i es q
   obtain⟨a,ea,o',kvs,q1,q2,q3,q4,q5⟩:=r.at q;cases xo with
   |ref eb=>
   rw[ea]at eb;cases eb;rcases Kl q3 q4 k with⟨h1,h2⟩|⟨x,y,h1,h2,h3⟩
   ·rw[h1]at e;cases e
   ·rw[h1]at e;cases e
    exact wpAny_getItem_of (lk k t) (lp q1 q2) h2 (PV.same r h3)
  ·cases e
 ·rename_i i' k
  cases xi with
  |str _ t=>
  split at e
  ·rename_i es q
   obtain⟨a,ea,Rd,m,q1,q2,q3,q4⟩:=r.at q;obtain⟨kvs,d1,d2,d3⟩:=q2.isDict (m:=m) q3;cases xo with
   |ref eb=>
   rw[ea]at eb;cases eb;rcases kt d2 d3 k with⟨h1,h2⟩|⟨x,y,h1,h2,h3⟩
   ·rw[h1]at e;cases e
   ·rw[h1]at e;cases e
    exact wpAny_getItem_of (Zi k t) ((vf.mpr ⟨_,q1,d1⟩).mapOf) h2 (PV.same r h3)
  ·cases e
 ·cases e
theorem PH {o i x:Expr} {tp pos:Pos} {op:Operator} {F G H:Me->St->Option (V×St)} (hop:op=.Add\/op=.Sub) (hi:∀ov iv new,augStore i ov iv new=(do holding [new,ov,iv] (setItem ov iv new);release [new,ov,iv] [];pure .next)) (hf:∀me,uc w hb A env eo sl 0 me (eval o env) (F me)) (hg:∀me,uc w hb A env eo sl 0 me (eval i env) (G me)) (hx:∀me,uc w hb A env eo sl 0 me (eval x env) (H me)):
 yg w hb A env eo sl (exec (.AugAssign (.Subscript o i tp) op x pos) env) (λme σ=>match F me σ with
  |some (ov,Ja)=>(match G me Ja with
   |some (iv,Cb)=>(match Qe ov iv Cb with
    |some old=>(match H me Cb with
     |some (v,ae)=>(match old,v,op with
      | .int x,.int y,.Add=>(match Cd ov iv (.int (x+y)) ae with
       |some dh=>aa (.next,me,dh)
       |none=>ba)
      | .int x,.int y,.Sub=>(match Cd ov iv (.int (x - y)) ae with
       |some dh=>aa (.next,me,dh)
       |none=>ba)
      |_,_,_=>ba)
     |none=>ba)
    |none=>ba)
   |none=>ba)
  |none=>ba):=by
 intro me ρ σ s fl Qb Ca r E e;cases hF:F me σ with
 |none=>simp only[hF]at e;cases e
 |some p=>
  obtain⟨ov,Ja⟩:=p;simp only[hF]at e;cases hG:G me Ja with
  |none=>simp only[hG]at e;cases e
  |some p=>
   obtain⟨iv,Cb⟩:=p;simp only[hG]at e;cases hS:Qe ov iv Cb with
   |none=>simp only[hS]at e;cases e
   |some old=>
    simp only[hS]at e;cases hH:H me Cb with
    |none=>simp only[hH]at e;cases e
    |some p=>
     obtain⟨v,ae⟩:=p;simp only[hH]at e;refine wpAny_AugAssign_SubscriptAny (Ea (hf me ρ σ s ov Ja r E hF) (λo' s1 p1=> ?_) λ_ _ z=>z) hi;obtain⟨bf,h1,tk1,rfl,k1,r1,x1⟩:=p1;have E1:=E.kx r k1;refine Ea (hg me bf Ja _ iv Cb r1 E1 hG) (λi' s2 p2=> ?_) λ_ _ z=>z;obtain⟨zi,h2,Qh,rfl,k2,r2,x2⟩:=p2;have E2:=E1.kx r1 k2;refine Ea (Jz (L:=env.locals) r2 (k2.vr x1) x2 hS) (λold' s3 p3=> ?_) λ_ _ z=>z;obtain⟨mu,h3,OB,rfl,k3,r3,x3⟩:=p3;have E3:=E2.kx r2 k3;refine Ea (hx me mu Cb _ v ae r3 E3 hH) (λv' s4 p4=> ?_) λ_ _ z=>z;obtain⟨VB,h4,tk4,rfl,k4,r4,x4⟩:=p4;have E4:=E3.kx r3 k4;have fin:∀(z:Int) (tk:Tok),(∃dh,Cd ov iv (.int z) ae=aa dh/\fl=.next/\Qb=me/\Ca=dh)->
      Wa (Fb pg w) A (setItem o' i' (.int z tk)) (λ_ s'=>PF w hb env eo sl ρ s Ca Qb fl .next s') No {s with heap:=h4,toks:=tk4+1}:=by
      rintro z tk ⟨dh,q1,rfl,rfl,rfl⟩
      refine Ea (Mv (s:={s with heap:=h4,toks:=tk4+1}) r4 E4.lok (k4.vr (k3.vr (k2.vr x1))) (k4.vr (k3.vr x2)) (.int z tk) q1) (λ_ s5 p5=> ?_) λ_ _ z=>z;obtain⟨nu,h5,Mu,rfl,k5,r5⟩:=p5;exact⟨nu,h5,Mu,rfl,((((k1.kp E).trans (k2.kp E1)).trans (k3.kp E2)).trans (k4.kp E3)).trans (k5.kp E4),r5,E4.kx r4 k5,trivial⟩
     cases old<;>try (cases e;done)
     cases v<;>try (cases e;done)
     rename_i x0 y0;cases x3 with
     |int _ t3=>
     cases x4 with
     |int _ t4=>
     rcases hop with rfl|rfl
     ·simp only at e
      split at e<;>cases e
      rename_i q;exact iadd_int (fin _ _ ⟨_,q,rfl,rfl,rfl⟩)
     ·simp only at e
      split at e<;>cases e
      rename_i q;exact rK (fin _ _ ⟨_,q,rfl,rfl,rfl⟩)
end
end Mine
namespace Mine
variable [Av]
section
variable {w:Lb} {hb:Gb} {A:lc} {env:Env} {eo:Qa->Prop} {sl:List Rb} {lo:Nat} {me Qb:Me} {K:Frag} {tab:gi} {n N:Nat} {g:Gl} {cf:Nat->List V->St->Option (V×St)} {sc:Sc} {ρ bf:List Qa} {σ Ca:St} {s:Sa} {fl:Fl}
theorem Gx {elt:Expr} {gens:List Comprehension} {scope:Scope} {pos:Pos} {x:X} {v:V} {use:Option (ya->Sem Unit)} {Q:ya->Sa->Prop} (AK:yi (n+1) A) (S:sj w hb A tab g cf N) (hk:env.scope.names=sc.kinds) (h:oh g (N+1) sc (.ListComp elt gens scope pos)=aa x)
 (r:R w hb ρ σ s.heap) (E:wd w hb env eo sc.sl lo me ρ s.heap) (e:gc tab cf x me σ=aa (v,Ca))
 (hfin:∀Zd h5 Mu D CC m,KX env.locals ρ s.heap h5 Zd->R w hb Zd Ca h5->VR w Zd h5 v (.ref D)->CC∉Zd->s.heap.get? CC=ba->hb.get? CC=ba->h5.Ns CC m->compPost (Fb pg w) A No use Q (.ref D) CC (.ok .next) {s with heap:=h5,toks:=Mu}):
 Wa (Fb pg w) A (comprehension (.ListComp elt gens scope pos) scope env (firstIterPos gens pos) (newList []) (firstAsync gens) (firstIter gens env) use) Q No s:=by
 cases gens with
 |nil=>simp[oh]at h
 |cons g0 Md=>
  obtain⟨tgt,iter,ifs,asy⟩:=g0
  by_cases hz:asy=0
  ·subst hz
   simp only[oh]at h
   split at h
   ·rename_i it sc' q1 q2
    split at h
    ·rename_i t fs gs y q3 q4 q5 q6
     split at h<;>cases h
     rename_i hg;have C:=Yu q2;refine Zu (sc':=sc') (Fi:=λσ=>gc tab cf it me σ) (Fs:=λQd=>fs.map λb σ=>Ug tab cf b Qd σ) (rr:=λQd σ=>Ef tab cf gs (λme σ=>gc tab cf y me σ) Qd σ) AK C hk (Tj q1) q3 hg (S.E sc _ it env eo lo me hk q1)
      (λHm ow D hk' v Qd Zn=>⟨S.Ts sc' _ fs Hm ow _ Qd hk' q4,S.Gs sc' _ gs Hm ow _ Qd D _ y [] _ _ _ hk' q5 λUp=>S.E sc' _ y Hm ow _ Up hk' q6⟩) r E ?_ hfin
     rw[<-e,gc];simp only[uk]<;>(repeat' (first|rfl|split))<;>simp_all
    ·cases h
   ·cases h
  ·exfalso
   unfold oh at h
   split at h<;>first
    |(rename_i q;cases q;exact hz rfl)
    |(rename_i q _;cases q;exact hz rfl)
    |(rename_i q;cases q;done)
    |skip
   all_goals first|(cases h;done)|skip
theorem uu {elt:Expr} {gens:List Comprehension} {scope:Scope} {Vn py pos:Pos} {y:Rb} {i:Nat} {x:X} (AK:yi (n+1) A) (S:sj w hb A tab g cf N) (hk:env.scope.names=sc.kinds) (h:oh g (N+1) sc (.ListComp elt gens scope Vn)=aa x) (hy:nn sc y=aa i)
 (hs:env.scope.kind=.function->swapsWith (.ListComp elt gens scope Vn) (aa (.Name y py)) pos.line env=pure true):
 yg w hb A env eo sc.sl (exec (.Assign [.Name y py] (.ListComp elt gens scope Vn) pos) env) (λme σ=>match gc tab cf x me σ with
  |some (v,Ja)=>if i<me.length then aa (.next,me.set i (aa v),Ja)else ba
  |none=>ba):=by
 intro me ρ σ s fl Qb Ca r E e;cases hF:gc tab cf x me σ with
 |none=>simp only[hF]at e;cases e
 |some p=>
  obtain⟨v,Ja⟩:=p;simp only[hF]at e
  split at e<;>cases e
  rw[exec_Assign_Name_used _ _ _ _ (hs E.kind)];refine ia (fc (ia ?_))
  show Wa _ A (do let _<-comprehension (.ListComp elt gens scope Vn) scope env (firstIterPos gens Vn) (newList []) (firstAsync gens) (firstIter gens env) (aa (assign (.Name y py) env))) _ _ s
  refine ia (Ea (Gx (use:=aa (assign (.Name y py) env)) (Q:=λ_ s'=>PF w hb env eo sc.sl ρ s Ca (me.set i (aa v)) .next .next s') AK S hk h r E hF λZd h5 Mu D CC m k5 r5 x5 c1 c2 c3 hC=> ?_) (λ_ s' hq=>Ba (Ba hq)) λ_ _ z=>z);have E5:=E.kx r k5;have hCe:¬eo CC:=λq=>by have:=E.eol _ q;rw[c2]at this;cases this
  show Wa _ _ (assign (.Name y py) env (.ref D)) _ _ _
  refine Ea (Dh (s:={s with heap:=h5,toks:=Mu}) (Xk hy) (Ae _) r5 E5 x5) (λ_ s6 p6=> ?_) λ_ _ z=>z;obtain⟨h6,tk6,rfl,k6,r6,E6⟩:=p6;have hC6:h6.Ns CC m:=by
   obtain⟨o,es,ep,e1,e2⟩:=hC;exact⟨o,es,ep,k6.keep _ _ e1 c1 hCe,e2⟩
  refine⟨m,hC6,λh' hs'=> ?_⟩;have kk:∀b o,b≠CC->h6.get? b=aa o->h'.get? b=aa o:=λb o n e=>(hs'.2 b n).trans e;have hDd:∀o,h6.get? CC=aa o->¬bh o/\(∀v,o.data≠ .cell v):=λo e=>⟨mh hC6 e,λv q=>by
   obtain⟨o',es,ep,e',d,_⟩:=hC6;rw[e]at e';cases e';rw[q]at d;cases d⟩
  have r7:R w hb Zd _ h':=r6.beside (wr:=λa=>a=CC) (λa o n e=>kk a o n e) λa q=>by subst q;exact⟨c1,c3,λo e=>(hDd o e).1⟩
  have kp:Kp eo ρ s.heap h6 Zd:=(k5.kp E).trans k6;have nC:∀a o,s.heap.get? a=aa o->a≠CC:=λa o e q=>by subst q;rw[c2]at e;cases e
  refine⟨Zd,h',tk6,rfl,⟨kp.pre,kp.fresh,λa o e n1 n2=>kk a o (nC a o e) (kp.keep a o e n1 n2),λa o e im=>kk a o (nC a o e) (kp.imm a o e im),λa e=> ?_⟩,r7,E6.kpD hCe hDd kk,trivial⟩;obtain⟨o,ho⟩:=Ta.mp e;obtain⟨o2,ho2⟩:=Ta.mp (kp.live a e);rw[kk a o2 (nC a o ho) ho2];rfl
end
end Mine
namespace Mine
variable [Av]
def sE:Expr->Bool
 | .Starred .. =>true
 |_=>false
def vj (sc:Sc) (ts:List Expr):List Rb:=
 ts.filterMap λ
  | .Name id pos=>if sc.kinds.lookup id==aa .local&&pos.line==(ts.head?.map (·.pos.line)).getD 0 then aa id else ba
  |_=>ba
def Qt (sc:Sc) (ts vs:List Expr):Option (Option (List Rb)):=
 if !(ts.length==2||ts.length==3)||vs.length !=ts.length then aa ba
 else if vs.any sE then aa ba
 else if(vj sc ts).length !=ts.length||(vj sc ts).eraseDups.length !=(vj sc ts).length then aa ba
 else if vs.all (foldedForSure 8)then aa ba
 else if vs.all (constantsAlone 8)then ba
 else aa (aa (vj sc ts))
section
variable {w:Lb} {hb:Gb} {A:lc} {env:Env} {eo:Qa->Prop} {sl:List Rb} {lo:Nat} {me Qb:Me} {K:Frag} {tab:gi} {n N:Nat} {g:Gl} {cf:Nat->List V->St->Option (V×St)} {sc:Sc} {ρ bf:List Qa} {σ Ca:St} {s:Sa} {fl:Fl}
theorem NB {ts vs:List Expr} {k k':Nat} {p p':Pos} {r:Option (List Rb)} (hf:env.scope.kind=.function) (hk:env.scope.names=sc.kinds) (h:Qt sc ts vs=aa r):swappedStores [.Tuple ts k p] (.Tuple vs k' p') env=pure r:=by
 have hb:env.blockKind=.function:=by unfold tJ;rw[hf];rfl
 have hbk:(env.blockKind != .function)=false:=by rw[hb];rfl
 obtain⟨kinds,sl⟩:=sc
 dsimp only at hk
 subst hk;have go:(if(!(ts.length==2||ts.length==3)||vs.length !=ts.length||env.blockKind != .function)=true then pure ba
  else if vs.any sE=true then pure ba
  else if((vj ⟨env.scope.names,sl⟩ ts).length !=ts.length||(vj ⟨env.scope.names,sl⟩ ts).eraseDups.length !=(vj ⟨env.scope.names,sl⟩ ts).length)=true then pure ba
  else if vs.all (foldedForSure 8)=true then pure ba
  else if vs.all (constantsAlone 8)=true then(do unsupported "assign.tuple-of-constant-expressions:order-of-the-stores";pure (aa (vj ⟨env.scope.names,sl⟩ ts)))
  else pure (aa (vj ⟨env.scope.names,sl⟩ ts)):Sem (Option (List Rb)))=pure r:=by
  rw[hbk,ax];unfold Qt at h
  split at h
  ·rename_i q;cases h;rw[if_pos q]
  ·rename_i q
   rw[if_neg q]
   split at h
   ·rename_i q;cases h;rw[if_pos q]
   ·rename_i q
    rw[if_neg q]
    split at h
    ·rename_i q;cases h;rw[if_pos q]
    ·rename_i q
     rw[if_neg q]
     split at h
     ·rename_i q;cases h;rw[if_pos q]
     ·rename_i q
      rw[if_neg q]
      split at h
      ·cases h
      ·rename_i q;cases h;rw[if_neg q]
 exact go
theorem cr:∀{is:List Nat} {xs:List V} {me Qb:Me},Qc is xs me=aa Qb->Qb.length=me.length
 | [],[],_,_,h=>by simp[Qc]at h;subst h;rfl
 |i::is,v::vs,me,Qb,h=>by
  simp only[Qc]at h
  split at h
  ·have:=cr h;simpa using this
  ·cases h
 | [],_::_,_,_,h=>by simp[Qc]at h
 |_::_,[],_,_,h=>by simp[Qc]at h
theorem Dt:∀{is:List Nat} {xs:List V} {me:Me} {i:Nat} {o:Option V},i∉is->Qc is xs (me.set i o)=(Qc is xs me).map (·.set i o)
 | [],[],_,_,_,_=>rfl
 |j::is,v::vs,me,i,o,h=>by
  have hne:i≠j:=λq=>h (q▸Ma);simp only[Qc,Mb]
  split
  ·rw[List.set_comm _ _ hne]
   exact Dt λq=>h (Ia _ q)
  ·rfl
 | [],_::_,_,_,_,_=>rfl
 |_::_,[],_,_,_,_=>rfl
theorem dr:∀{is:List Nat} {xs:List V} {me:Me} {i:Nat} {v:V},is.length=xs.length->Qc (is++[i]) (xs++[v]) me=(Qc is xs me).bind λm=>if i<m.length then aa (m.set i (aa v))else ba
 | [],[],me,i,v,_=>by
  simp only[Db,Qc,Lq]
 |j::is,u::us,me,i,v,h=>by
  simp only[wb,Qc]
  split
  ·exact dr (by simpa using h)
  ·rfl
 | [],_::_,_,_,_,h=>by simp at h
 |_::_,[],_,_,_,h=>by simp at h
theorem Ct:∀{is:List Nat} {xs:List V} {me Qb:Me},is.Nodup->Qc is xs me=aa Qb->Qc is.reverse xs.reverse me=aa Qb
 | [],[],_,_,_,h=>h
 |i::is,v::vs,me,Qb,nd,h=>by
  rw[Gc]at nd;have hl:=Pl h;simp only[Qc]at h
  split at h
  ·rename_i hi
   rw[Dt nd.1]at h;cases q:Qc is vs me with
   |none=>rw[q]at h;cases h
   |some m0=>
    rw[q]at h;simp only[Se,Tc]at h;subst h;have ih:=Ct nd.2 q;rw[Mk,Mk,dr (by simp at hl|-;exact hl),ih];have:=cr q;simp only[Lq,this,hi,if_true]
  ·cases h
 | [],_::_,_,_,_,h=>by simp[Qc]at h
 |_::_,[],_,_,_,h=>by simp[Qc]at h
theorem Ov:∀{is:List Nat} {xs:List V} {me Qb:Me} {σ Ca:St},Lh tab cf (is.map T.var) xs me σ=aa (Qb,Ca)->Qc is xs me=aa Qb/\Ca=σ
 | [],[],_,_,_,_,h=>by simp[Lh]at h;obtain⟨rfl,rfl⟩:=h;exact⟨rfl,rfl⟩
 |i::is,v::vs,me,Qb,σ,Ca,h=>by
  rw[sa,Lh,Fk]at h;simp only[Qc]
  split at h
  ·rename_i m1 s1 q
   split at q
   ·rename_i hi
    cases q;rw[if_pos hi];exact Ov h
   ·cases q
  ·cases h
 | [],_::_,_,_,_,_,h=>by simp[Lh]at h
 |_::_,[],_,_,_,_,h=>by simp[Lh]at h
theorem Qo:∀{ns:List Rb} {is:List Nat} {xs:List V} {vals:List ya} {me Qb:Me} {s:Sa},(ns.map λp=>Jc sl p)=is.map aa->R w hb ρ σ s.heap->wd w hb env eo sl 0 me ρ s.heap->og w ρ s.heap xs vals->Qc is xs me=aa Qb->
 Wa (Fb pg w) A (assignInOrder (ns.map λp=>bindName env p) vals) (λ_=>PA w hb env eo sl 0 ρ s σ Qb) No s
 | [],[],[],_,me,Qb,s,_,r,E,x,e=>by
  cases x;simp[Qc]at e;subst e;exact wpAny_assignInOrder_none ⟨s.heap,s.toks,rfl,Kp.refl,r,E⟩
 |x::ns,i::is,v::vs,_,me,Qb,s,hn,r,E,@og.cons _ _ _ _ _ _ val0 _ a b,e=>by
  simp only[sa,Jf]at hn;simp only[Qc]at e
  split at e
  ·have st:Wa (Fb pg w) A (bindName env x val0) (λ_=>PA w hb env eo sl 0 ρ s σ (me.set i (aa v))) No s:=by
    unfold bindName;exact ia (Xb (wpAny_point (ia (Ea (My hn.1 (Ae _) r E a) (λ_ _ h=>wpAny_point h) λ_ _ x=>x))))
   refine wpAny_assignInOrder_more (Ea st (λ_ s1 p1=> ?_) λ_ _ x=>x);obtain⟨h1,tk1,rfl,k1,r1,E1⟩:=p1;exact Ea (Qo (s:={s with heap:=h1,toks:=tk1}) hn.2 r1 E1 (k1.vrs b) e) (λ_ s2 p2=>PA.after k1 p2) λ_ _ x=>x
  ·cases e
 | [],_::_,_,_,_,_,_,hn,_,_,_,_=>by simp at hn
 |_::_,[],_,_,_,_,_,hn,_,_,_,_=>by simp at hn
 |_::_,_::_,[],_,_,_,_,_,_,_,_,e=>by simp[Qc]at e
 | [],[],_::_,_,_,_,_,_,_,_,_,e=>by simp[Qc]at e
theorem og.reverse {h:Gb}:∀{xs:List V} {vs:List ya},og w ρ h xs vs->og w ρ h xs.reverse vs.reverse
 | [],_,.nil=>.nil
 |_::_,_,.cons a b=>by
  rw[Mk,Mk];exact(og.reverse b).append (og.one a)
theorem Xr {ts vs:List Expr} {k k':Nat} {p p' pos:Pos} {names:List Rb} {is:List Nat} {F:Me->St->Option (V×St)} (AK:yi n A) (hw:swappedStores [.Tuple ts k p] (.Tuple vs k' p') env=pure (aa names)) (hn:(names.map λx=>Jc sl x)=is.map aa) (hd:is.Nodup)
 (hf:∀me,uc w hb A env eo sl 0 me (eval (.Tuple vs k' p') env) (F me)):
 yg w hb A env eo sl (exec (.Assign [.Tuple ts k p] (.Tuple vs k' p') pos) env) (λme σ=>match F me σ with
  |some (v,Ja)=>(match Fk tab cf (.tup (is.map T.var)) v me Ja with
   |some (Up,Cb)=>aa (.next,Up,Cb)
   |none=>ba)
  |none=>ba):=by
 intro me ρ σ s fl Qb Ca r E e;cases hF:F me σ with
 |none=>simp only[hF]at e;cases e
 |some q=>
  obtain⟨v,Ja⟩:=q;simp only[hF]at e;cases hG:Fk tab cf (.tup (is.map T.var)) v me Ja with
  |none=>simp only[hG]at e;cases e
  |some q=>
   obtain⟨Up,Cb⟩:=q;simp only[hG]at e;cases e;cases v<;>try (simp[Fk]at hG;done)
   rename_i xs;rw[Fk]at hG;obtain⟨hA,rfl⟩:=Ov hG;rw[arm_exec_Assign]
   show Wa _ _ (standAt pos>>=λ_=>swapsWith (.Tuple vs k' p') (aa (.Tuple ts k p)) pos.line env>>=_) _ _ _
   rw[Nm rfl];refine ia (fc (ia (Ba ?_)));rw[if_neg ke];refine ia (Ea (hf me ρ σ s (.tup xs) _ r E hF) (λval s1 p1=> ?_) λ_ _ z=>z);obtain⟨bf,h1,tk1,rfl,k1,r1,x1⟩:=p1;have E1:=E.kx r k1;rw[hw];refine ia (Ba ?_);unfold assignStores;have hl:=Pl hA;have jx:names.length=is.length:=by have:=congrArg Jk hn;simpa using this
   cases x1 with
   | @tup a _ vals m nav ea la qa=>
   refine ia (wpAny_rule (ia ?_));have hsz:names.length=vals.toArray.size:=by rw[gb,<-qa.length];omega
   rw[hsz];refine wpAny_unpackItems_tuple AK.hh (s:={s with heap:=h1,toks:=tk1}) (items:=vals.toArray) (uf ea) λh' iq=> ?_;have hkp:∀a o,h1.get? a=aa o->h'.get? a=aa o:=λa o e=>iq a o (Bc (Wb e)) e;have hrev:((names.reverse).map λx=>Jc sl x)=is.reverse.map aa:=by rw[DF,hn,DF]
   refine ia (Ea (Qo (A:=A) (s:={s with heap:=h',toks:=tk1}) hrev (r1.grow hkp) (E1.grow r1 hkp) ((qa.mono (Ha _) λa o e _=>hkp a o e).reverse) (Ct hd hA)) (λ_ s2 p2=> ?_) λ_ _ z=>z);obtain⟨h2,Qh,rfl,k2,r2,E2⟩:=p2;exact Ba ⟨bf,h2,Qh,rfl,((k1.kp E).trans (Kp.grow hkp)).trans k2,r2,E2,trivial⟩
end
end Mine
namespace Mine
variable [Av]
def Hn:Expr->Bool
 | .Tuple .. =>true
 |_=>false
def Ew:Expr->Bool
 | .Slice .. =>true
 |_=>false
def TI:Operator->Bool
 | .Add| .Sub=>true
 |_=>false
mutual
def GK (g:Gl):Nat->Sc->Stmt->Option S
 |0,_,_=>ba
 |n+1,sc,st=>match st with
  | .Assign [.Name y py] (.ListComp elt gens scope Vn) _=>
   if sc.kinds.lookup y==aa .local then
    (if py.line==Vn.line&& !(scope.names.any λ(n,k)=>n==y&&(k== .local||k== .cell))then
     (match oh g (n+1) sc (.ListComp elt gens scope Vn),nn sc y with
      |some e,aa i=>aa (.assign (.var i) e)
      |_,_=>ba)
    else ba)
   else(match oh g n sc (.ListComp elt gens scope Vn),nn sc y with
    |some e,aa i=>aa (.assign (.var i) e)
    |_,_=>ba)
  | .Assign [.Tuple ts k p] (.Tuple vs k' p') _=>(match Qt sc ts vs with
   |some ba=>(match dH g n sc (.Tuple ts k p),oh g n sc (.Tuple vs k' p')with
    |some t,aa e=>aa (.assign t e)
    |_,_=>ba)
   |some (aa names)=>(match uo sc ts,oh g n sc (.Tuple vs k' p')with
    |some is,aa e=>if names.map (λx=>Jc sc.sl x)=is.map aa/\is.Nodup then aa (.assign (.tup (is.map T.var)) e)else ba
    |_,_=>ba)
   |none=>ba)
  | .Assign [t] x _=>if Bw x||(Hn x&&Hn t)then ba else(match dH g n sc t,oh g n sc x with
   |some t',aa e=>aa (.assign t' e)
   |_,_=>ba)
  | .AugAssign (.Subscript o i _) op x _=>if TI op&& !Ew i then(match oh g n sc o,oh g n sc i,oh g n sc x with
   |some o',aa i',aa e=>aa (.aug o' i' op e)
   |_,_,_=>ba)else ba
  | .Expr x _=>if Bw x then ba else(oh g n sc x).map S.expr
  | .If t a b _=>(match QB g n sc t,Ip g n sc a,Ip g n sc b with
   |some t',aa a',aa b'=>aa (.ifs t' a' b')
   |_,_,_=>ba)
  | .While t b [] _=>(match QB g n sc t,Ip g n sc b with
   |some t',aa b'=>aa (.whil t' b')
   |_,_=>ba)
  | .For tgt (.Call (.Name z zp) args [] cp) b [] _=>
   if g.glob z=aa (.type "zip")then
    (if(sc.kinds.lookup z==aa .globalImplicit&&vo z)&&Hn tgt then(match Do sc tgt,Hp g n sc args,Ip g n sc b with
     |some t,aa xs,aa b'=>aa (.forz t xs b')
     |_,_,_=>ba)else ba)
   else(match Do sc tgt,oh g n sc (.Call (.Name z zp) args [] cp),Ip g n sc b with
    |some t,aa e,aa b'=>aa (.fors t e b')
    |_,_,_=>ba)
  | .For tgt iter b [] _=>(match Do sc tgt,oh g n sc iter,Ip g n sc b with
   |some t,aa e,aa b'=>aa (.fors t e b')
   |_,_,_=>ba)
  | .Return (aa x) _=>(oh g n sc x).map S.ret
  |_=>ba
def Ip (g:Gl):Nat->Sc->List Stmt->Option (List S)
 |0,_,_=>ba
 |_+1,_,[]=>aa []
 |n+1,sc,st::ss=>match GK g n sc st,Ip g n sc ss with
  |some x,aa xs=>aa (x::xs)
  |_,_=>ba
end
def ux (w:Lb) (hb:Gb) (K:Frag) (g:Gl):Prop:=
 ∀{n:Nat} {A:lc} {env:Env} {eo:Qa->Prop} {sc:Sc} {z:Rb} {zp cp pos:Pos} {tgt:Expr} {args:List Expr} {b:List Stmt} {t:CT} {G:Me->St->Option (List V×St)} {F:Me->St->Option (Fl×Me×St)},
  yi n A->env.scope.names=sc.kinds->g.glob z=aa (.type "zip")->env.kindOf z=aa .globalImplicit->vo z=true->Hn tgt=true->Do sc tgt=aa t->(∀e∈args,∀x p,e≠Ee x p)->
  (∀me pos,Hi w hb A env eo sc.sl 0 me (spliced (backTo pos (starEach args env))) (G me))->(∀I:Av,@yg I w hb A env eo sc.sl (execs b env) F)->
  yg w hb A env eo sc.sl (exec (.For tgt (.Call (.Name z zp) args [] cp) b [] pos) env) (λme σ=>match G me σ with
   |some (vs,Ja)=>(match Xh vs with
    |some xss=>(match zr xss with
     |some items=>Ye 5000 (.st items) 0 (λv me σ=>match dg t v me with
      |some Qd=>F Qd σ
      |none=>ba) me Ja
     |none=>ba)
    |none=>ba)
   |none=>ba)
section
variable {w:Lb} {hb:Gb} {A:lc} {env:Env} {eo:Qa->Prop} {sl:List Rb} {lo:Nat} {me Qb:Me} {K:Frag} {tab:gi} {n N:Nat} {g:Gl} {cf:Nat->List V->St->Option (V×St)} {sc:Sc}
theorem QI {tg x:Expr} (h:(Hn x&&Hn tg)=false) (hl:∀es p,tg≠ .List es p):swappedStores [tg] x env=pure ba:=by
 cases tg<;>first|rfl|exact absurd rfl (hl _ _)|skip
 cases x<;>first|rfl|(simp[Hn]at h)
theorem HB {op:Operator} (h:TI op=true):op=.Add\/op=.Sub:=by
 cases op<;>simp[TI]at h|-
theorem Yr {i:Expr} (h:Ew i=false) (ov iv new:ya):augStore i ov iv new=(do holding [new,ov,iv] (setItem ov iv new);release [new,ov,iv] [];pure .next):=by
 cases i<;>first|rfl|(simp[Ew]at h)
structure OH (w:Lb) (hb:Gb) (A:lc) (tab:gi) (g:Gl) (cf:Nat->List V->St->Option (V×St)) (N:Nat):Prop where
 one:∀sc st t env eo,env.scope.names=sc.kinds->GK g N sc st=aa t->yg w hb A env eo sc.sl (exec st env) (λme σ=>Vf tab cf t me σ)
 all:∀sc ss ts env eo,env.scope.names=sc.kinds->Ip g N sc ss=aa ts->yg w hb A env eo sc.sl (execs ss env) (λme σ=>wf tab cf ts me σ)
omit [Av]in
theorem Uw (Cx':∀I:Av,@Cx I w hb K tab g cf n) (ZO:∀I:Av,@ux I w hb K g) (AK:yi (n+1) A):∀N (I:Av),@OH I w hb A tab g cf N
 |0,I=>⟨λsc e t env eo hk h=>by simp[GK]at h,λsc es ts env eo hk h=>by simp[Ip]at h⟩
 |N+1,I=>by
  have SI:=Uw Cx' ZO AK N;have S:=SI I;have SE:=an (Cx' I) AK N;have SA:=cF (Cx' I) AK N;refine⟨λsc st t env eo hk h=> ?_,λsc ss ts env eo hk h=> ?_⟩
  ·unfold GK at h
   have kindOf:∀y k,sc.kinds.lookup y=aa k->env.kindOf y=aa k:=λy k q=>by unfold km;rw[hk];exact q
   split at h
   ·
    rename_i y py elt gens scope Vn _
    split at h
    ·rename_i hl
     split at h
     ·rename_i hc
      split at h<;>cases h
      rename_i e i q1 q2;refine yg.congr (uu AK SE hk q1 q2 λhf=> ?_) λme σ=> ?_
      ·have e1:∀l,swapsWith (.ListComp elt gens scope Vn) (aa (.Name y py)) l env=pure (env.blockKind== .function&&env.kindOf y==aa .local&&py.line==Vn.line&& !(scope.names.any λ(n,k)=>n==y&&(k== .local||k== .cell))):=λl=>rfl
       rw[e1];have hb:env.blockKind=.function:=by unfold tJ;rw[hf];rfl
       have h2:env.kindOf y=aa .local:=kindOf _ _ (by simpa using hl);rw[hb,h2];simp only[La]at hc;simp only[beq_self_eq_true,Mo,hc.1,hc.2]
      ·rw[Vf]
       cases gc tab cf e me σ with
       |none=>rfl
       |some p=>
        obtain⟨v,Ja⟩:=p;simp only[Fk]
        by_cases hi:i<me.length
        ·simp only[hi,if_true]
        ·simp only[hi,if_false]
     ·cases h
    ·rename_i hl
     split at h<;>cases h
     rename_i e i q1 q2;have hsw:∀l,swapsWith (.ListComp elt gens scope Vn) (aa (.Name y py)) l env=pure false:=λl=>by
      have e1:∀l,swapsWith (.ListComp elt gens scope Vn) (aa (.Name y py)) l env=pure (env.blockKind== .function&&env.kindOf y==aa .local&&py.line==Vn.line&& !(scope.names.any λ(n,k)=>n==y&&(k== .local||k== .cell))):=λl=>rfl;rw[e1];have h2:(env.kindOf y==aa NameKind.local)=false:=by unfold km;rw[hk];simpa using hl
      rw[h2];simp
     have gA:px w hb A env eo sc.sl (λv=>assign (.Name y py) env v) (λv me σ=>Fk tab cf (.var i) v me σ):=by
      intro v val me ρ σ s Qb Ca r E xv e
      change Fk tab cf _ v me σ=aa (Qb,Ca)at e
      rw[Fk]at e
      split at e<;>cases e
      exact Ea (Dh (Xk q2) (Ae _) r E xv) (λ_ _ p=>PA.pt p) λ_ _ z=>z
     exact yg.congr (cq (λ_ _=>by simp) (hsw _) rfl (λme=>SE.E sc _ e env eo 0 me hk q1) gA) λme σ=>by rw[Vf]<;>(repeat' (first|rfl|split))<;>simp_all
   ·
    rename_i ts k p vs k' p' _
    split at h
    ·rename_i hw
     split at h<;>cases h
     rename_i t e q1 q2;refine yg.congr (λme ρ σ s fl Qb Ca r E e'=>cq (λ_ _=>by simp) (Nm rfl) (NB E.kind hk hw) (λme=>SE.E sc _ e env eo 0 me hk q2) (SA.one sc _ t env eo hk q1).1 me ρ σ s fl Qb Ca r E e') λme σ=>by rw[Vf]<;>(repeat' (first|rfl|split))<;>simp_all
    ·rename_i names hw
     split at h
     ·rename_i is e q1 q2
      split at h<;>cases h
      rename_i hc;refine yg.congr (λme ρ σ s fl Qb Ca r E e'=>Xr (tab:=tab) (cf:=cf) AK (NB E.kind hk hw) hc.1 hc.2 (λme=>SE.E sc _ e env eo 0 me hk q2) me ρ σ s fl Qb Ca r E e') λme σ=>by rw[Vf]<;>(repeat' (first|rfl|split))<;>simp_all
     ·cases h
    ·cases h
   ·split at h
    ·cases h
    ·rename_i hc
     split at h<;>cases h
     rename_i t' e q1 q2;simp only[xj,not_or,zh]at hc;have hns:=(SA.one sc _ t' env eo hk q1).2;refine yg.congr (cq hns (Nm hc.1) (QI hc.2 λes p z=> ?_) (λme=>SE.E sc _ e env eo 0 me hk q2) (SA.one sc _ t' env eo hk q1).1) λme σ=>by rw[Vf]<;>(repeat' (first|rfl|split))<;>simp_all
     subst z;cases N<;>simp[dH]at q1
   ·split at h
    ·rename_i hc
     split at h<;>cases h
     rename_i o' i' e q1 q2 q3;simp only[La,Ai]at hc;refine yg.congr (PH (HB hc.1) (λov iv new=>Yr hc.2 ov iv new) (λme=>SE.E sc _ o' env eo 0 me hk q1) (λme=>SE.E sc _ i' env eo 0 me hk q2) (λme=>SE.E sc _ e env eo 0 me hk q3)) λme σ=> ?_;rw[Vf];cases gc tab cf o' me σ with
     |none=>rfl
     |some p=>
      obtain⟨ov,Ja⟩:=p
      dsimp only
      cases gc tab cf i' me Ja with
      |none=>rfl
      |some p=>
       obtain⟨iv,Cb⟩:=p
       dsimp only
       cases Qe ov iv Cb with
       |none=>rfl
       |some old=>
        dsimp only
        cases gc tab cf e me Cb with
        |none=>rfl
        |some p=>
         obtain⟨v,ae⟩:=p
         dsimp only
         rcases HB hc.1 with h1|h1<;>subst h1<;>cases old<;>cases v<;>first|rfl|(dsimp only;split<;>simp_all)
    ·cases h
   ·split at h
    ·cases h
    ·rename_i hc
     cases q:oh g N sc _ with
     |none=>rw[q]at h;cases h
     |some y=>
      rw[q]at h;cases h;exact yg.congr (kG (by simpa using hc) (λme=>SE.E sc _ y env eo 0 me hk q)) λme σ=>by rw[Vf]<;>(repeat' (first|rfl|split))<;>simp_all
   ·split at h<;>cases h
    rename_i t' a' b' q1 q2 q3;exact yg.congr (XJ (λme=>SE.T sc _ t' env eo 0 me hk q1) (S.all sc _ a' env eo hk q2) (S.all sc _ b' env eo hk q3)) λme σ=>by rw[Vf]<;>(repeat' (first|rfl|split))<;>simp_all
   ·split at h<;>cases h
    rename_i t' b' q1 q2;exact yg.congr (vF AK (λme=>SE.T sc _ t' env eo 0 me hk q1) (S.all sc _ b' env eo hk q2)) λme σ=>by rw[Vf]
   ·split at h
    ·rename_i hz
     split at h
     ·rename_i hc
      split at h<;>cases h
      rename_i t xs b' q1 q2 q3;simp only[La,beq_iff_eq]at hc;refine yg.congr (ZO I AK hk hz (kindOf _ _ hc.1.1) hc.1.2 hc.2 q1 (SE.Es sc _ xs env eo 0 [] default hk q2).2 (λme pos=>(SE.Es sc _ xs env eo 0 me pos hk q2).1) (λI=>(SI I).all sc _ b' env eo hk q3)) λme σ=>by rw[Vf]<;>(repeat' (first|rfl|split))<;>simp_all
     ·cases h
    ·split at h<;>cases h
     rename_i t e b' q1 q2 q3;exact yg.congr (jE AK q1 (Tj q2) (λme=>SE.E sc _ e env eo 0 me hk q2) (S.all sc _ b' env eo hk q3)) λme σ=>by rw[Vf]<;>(repeat' (first|rfl|split))<;>simp_all
   ·split at h<;>cases h
    rename_i t e b' q1 q2 q3;exact yg.congr (jE AK q1 (Tj q2) (λme=>SE.E sc _ e env eo 0 me hk q2) (S.all sc _ b' env eo hk q3)) λme σ=>by rw[Vf]<;>(repeat' (first|rfl|split))<;>simp_all
   ·cases q:oh g N sc _ with
    |none=>rw[q]at h;cases h
    |some y=>
     rw[q]at h;cases h;exact yg.congr (UI (λme=>SE.E sc _ y env eo 0 me hk q)) λme σ=>by rw[Vf]<;>(repeat' (first|rfl|split))<;>simp_all
   ·cases h
  ·cases ss with
   |nil=>simp[Ip]at h;subst h;exact yg.congr qw λme σ=>by rw[wf]
   |cons s0 ss=>
    simp only[Ip]at h
    split at h<;>cases h
    rename_i x xs q1 q2;exact yg.congr (yu (S.one sc s0 x env eo hk q1) (S.all sc ss xs env eo hk q2)) λme σ=>by rw[wf]<;>(repeat' (first|rfl|split))<;>simp_all
end
end Mine
namespace Mine
theorem Qq {kf:Rb->Option NameKind} {x:Rb}:∀{binds:List (Rb×ya)} {m:Rb->Option ya},(∀p∈binds,p.1≠x)->bindL kf binds m x=m x
 | [],m,_=>rfl
 |(y,v)::r,m,h=>by
  have hne:¬x=y:=λq=>h (y,v) Ma q.symm;unfold bindL;rw[Qq λp hp=>h p (Ia _ hp)]
  split<;>simp[hne]
theorem Uu {kf:Rb->Option NameKind} {x:Rb} {v:ya} (hk:kf x=aa .local):∀{binds:List (Rb×ya)} {m:Rb->Option ya},(binds.map (·.1)).Nodup->(x,v)∈binds->bindL kf binds m x=aa v
 |(y,u)::r,m,nd,h=>by
  rw[sa,Gc]at nd;unfold bindL;rcases Fa.mp h with q|q
  ·cases q
   rw[Qq λp hp q=>nd.1 (Bb.mpr ⟨p,hp,q⟩)];simp[hk]
  ·exact Uu hk nd.2 q
theorem Pq {kf:Rb->Option NameKind} {x:Rb}:∀{binds:List (Rb×ya)} {m:Rb->Option ya},(∀p∈binds,p.1≠x)->bindC kf binds m x=m x
 | [],m,_=>rfl
 |(y,v)::r,m,h=>by
  have hne:¬x=y:=λq=>h (y,v) Ma q.symm;unfold bindC;rw[Pq λp hp=>h p (Ia _ hp)]
  split<;>simp[hne]
theorem Tu {kf:Rb->Option NameKind} {x:Rb} {v:ya} (hk:kf x=aa .cell):∀{binds:List (Rb×ya)} {m:Rb->Option ya},(binds.map (·.1)).Nodup->(x,v)∈binds->bindC kf binds m x=aa v
 |(y,u)::r,m,nd,h=>by
  rw[sa,Gc]at nd;unfold bindC;rcases Fa.mp h with q|q
  ·cases q
   rw[Pq λp hp q=>nd.1 (Bb.mpr ⟨p,hp,q⟩)];simp[hk]
  ·exact Tu hk nd.2 q
theorem Zz {ns:List Rb} {vals:List ya} (h:ns.length=vals.length) {x:Rb} (hx:x∈ns):((ns.zip vals).lookup x).isSome=true:=by
 induction ns generalizing vals with
 |nil=>cases hx
 |cons y ns ih=>
  cases vals with
  |nil=>simp at h
  |cons v vals=>
   rw[Pp,Wd]
   by_cases q:x=y
   ·subst q;simp
   ·have hb:(x==y)=false:=by simpa using q
    simp only[hb];exact ih (by simpa using h) ((Fa.mp hx).resolve_left q)
theorem Xo {α β:Type} {f g:α->Option β}:∀{l:List α},(∀x∈l,f x=g x)->l.filterMap f=l.filterMap g
 | [],_=>rfl
 |a::l,h=>by
  rw[Fj,Fj,h a Ma,Xo λx hx=>h x (Ia _ hx)]
theorem Wy:∀{ns:List Rb} {vals:List ya},ns.Nodup->ns.length=vals.length->(ns.filterMap λn=>((ns.zip vals).lookup n).map (n,·))=ns.zip vals
 | [],[],_,_=>rfl
 |x::ns,v::vals,nd,h=>by
  rw[Gc]at nd;rw[Pp,Fj];have e1:(IJ x ((x,v)::ns.zip vals)).map (x,·)=aa (x,v):=by simp[Wd]
  rw[e1];have e2:(ns.filterMap λn=>(IJ n ((x,v)::ns.zip vals)).map (n,·))=ns.filterMap λn=>((ns.zip vals).lookup n).map (n,·):=Xo λn hn=>by
   have hb:(n==x)=false:=by
    have:n≠x:=λq=>nd.1 (q▸hn)
    simpa using this
   rw[Wd,hb]
  simp only;rw[e2,Wy nd.2 (by simpa using h)]
 | [],_::_,_,h=>by simp at h
 |_::_,[],_,h=>by simp at h
theorem Am {fd:FuncData} {vals:List ya} (h1:fd.params.posonlyargs=[]) (h2:fd.params.kwonlyargs=[]) (h3:fd.params.vararg=ba) (h4:fd.params.kwarg=ba) (h5:fd.defaults=.none) (sv:(fd.params.args.map (·.arg)).Nodup) (hl:(fd.params.args.map (·.arg)).length=vals.length):
 bindArgs fd ⟨vals,[]⟩=pure ((fd.params.args.map (·.arg)).zip vals):=by
 obtain⟨nm,qn,⟨po,args,va,ko,kd,kw,df⟩,bd,sco,gl,clo,dfl,kdf,doc,pm,ann,cd,ct,bi⟩:=fd
 dsimp only at h1 h2 h3 h4 h5 sv hl
 subst h1 h2 h3 h4 h5;have hlen:args.length=vals.length:=by simpa using hl
 have hmiss:(((args.map (·.arg)).take (args.map (·.arg)).length).filter λn=>(((args.map (·.arg)).zip vals).lookup n).isNone)=[]:=by
  rw[cm];intro x hx;have:=Zz hl (yn hx);cases q:((args.map (·.arg)).zip vals).lookup x with
  |none=>rw[q]at this;cases this
  |some _=>simp
 have hbinds:((args.map (·.arg)).filterMap λn=>(((args.map (·.arg)).zip vals).lookup n).map (n,·))=(args.map (·.arg)).zip vals:=Wy sv hl;have hgt:¬(vals.length>args.length):=by omega
 unfold bindArgs;simp only[zb,Db,um,Bi,pure_bind,seqItems?,lD,Array.toList_empty,bb,Nat.zero_sub,JJ,KH,kD,ja];have hni:(notAStandIn zg:Sem Unit)=pure ():=rfl;have hg:decide (vals.length>args.length)=false:=by simpa using hgt
 rw[ja]at hmiss;simp only[hni,pure_bind,hg,Ou,Nc,if_false,lD,KH,bb,JJ,hmiss,Rl,Zb,kD,Bi,hbinds]
end Mine
namespace Mine
def wB:ya->Bool
 | .none=>true
 |_=>false
def Kg (fd:FuncData):Sc:=⟨fd.scope.names,fd.params.args.map (·.arg)++(Jh fd.scope.names).filter λx=> !(fd.params.args.map (·.arg)).contains x⟩
def Hr (fd:FuncData):Bool:=
 fd.params.posonlyargs.isEmpty&&fd.params.kwonlyargs.isEmpty&&fd.params.vararg.isNone&&fd.params.kwarg.isNone&&wB fd.defaults&&(fd.scope.kind== .function)&& !fd.scope.isGenerator&& !fd.scope.isCoroutine
  &&decide (fd.params.args.map (·.arg)).Nodup&&(fd.globals==mainGlobals)&&(fd.builtins==builtinsNs)
  &&(fd.params.args.map (·.arg)).all (λx=>fd.scope.names.lookup x==aa .local||fd.scope.names.lookup x==aa .cell)
  &&fd.scope.names.all (λx=>fd.scope.names.lookup x.1==aa x.2)
  &&(if fd.closure.isEmpty then fd.scope.names.all (λx=> !(x.2== .free))else(fd.scope.names.all (λx=> !(x.2== .cell))&&fd.scope.names.all (λx=> !(x.2== .free)||(fd.closure.lookup x.1).isSome)&&decide (fd.closure.length<=1)))
def gJ (g:Gl) (fd:FuncData):Option Fn:=match fd.body with
 | .expr _=>ba
 | .stmts body=>if Hr fd then(Ip g 60 (Kg fd) body).map λb=>⟨fd.params.args.length,(Kg fd).sl.length,b⟩else ba
structure OF (fd:FuncData):Prop where
 po:fd.params.posonlyargs=[]
 ko:fd.params.kwonlyargs=[]
 va:fd.params.vararg=ba
 kw:fd.params.kwarg=ba
 df:fd.defaults=.none
 kind:fd.scope.kind=.function
 gen:fd.scope.isGenerator=false
 co:fd.scope.isCoroutine=false
 nd:(fd.params.args.map (·.arg)).Nodup
 gl:fd.globals=mainGlobals
 bi:fd.builtins=builtinsNs
 ps:∀x∈fd.params.args.map (·.arg),fd.scope.names.lookup x=aa .local\/fd.scope.names.lookup x=aa .cell
 look:∀x k,(x,k)∈fd.scope.names->fd.scope.names.lookup x=aa k
 clos:(fd.closure=[]/\∀x k,(x,k)∈fd.scope.names->k≠Yc)\/((∀x k,(x,k)∈fd.scope.names->k≠ve)/\(∀x k,(x,k)∈fd.scope.names->k=Yc->(fd.closure.lookup x).isSome=true)/\fd.closure.length<=1)
theorem cB {fd:FuncData} (h:Hr fd=true):OF fd:=by
 unfold Hr at h;simp only[La,List.isEmpty_iff,Option.isNone_iff_eq_none,beq_iff_eq,Ai,decide_eq_true_eq,Jb,xj]at h;obtain⟨⟨⟨⟨⟨⟨⟨⟨⟨⟨⟨⟨⟨h1,h2⟩,h3⟩,h4⟩,h5⟩,h6⟩,h7⟩,h8⟩,h9⟩,h10⟩,h11⟩,h12⟩,h13⟩,h14⟩:=h;refine⟨h1,h2,h3,h4,?_,h6,h7,h8,h9,h10,h11,h12,λx k hx=>h13 (x,k) hx,?_⟩
 ·revert h5;cases fd.defaults<;>simp[wB]
 ·split at h14
  ·rename_i q
   left
   refine⟨by simpa using q,λx k hx hk=> ?_⟩;have:=Jb.mp h14 (x,k) hx;simp[hk]at this
  ·right
   simp only[La,Jb,decide_eq_true_eq]at h14;obtain⟨⟨a,b⟩,c⟩:=h14;refine⟨λx k hx hk=> ?_,λx k hx hk=> ?_,c⟩
   ·have:=a (x,k) hx
    simp[hk]at this
   ·have:=b (x,k) hx
    simpa [hk]using this
theorem yi.deeper {n:Nat} {A:lc} (a:yi (n+1) A) (env:Env):yi n (A.deeper env):=
 ⟨a.hh,by show A.depth+1+_+_<=_;have:=a.depth;omega,by show A.units+3+_+_<=_;have:=a.units;omega⟩
end Mine
namespace Mine
variable [Av]
section
variable {w:Lb} {hb:Gb} {A:lc} {K:Frag} {tab:gi} {n:Nat} {g:Gl} {ρ:List Qa} {σ Ca:St} {s:Sa} {vs:List V} {vals:List ya} {fd:FuncData}
theorem rA {ps Md:List Rb} {x:Rb} {i:Nat} (hd:∀y∈Md,y∉ps) (h:Jc (ps++Md) x=aa i) (hi:i<ps.length):ps[i]? =aa x:=by
 have:=Rj h
 rwa [ta hi]at this
theorem fA {y:Rb}:y∈((Jh fd.scope.names).filter λx=> !(fd.params.args.map (·.arg)).contains x)->y∉fd.params.args.map (·.arg):=λh q=>by
 have:=(jc.mp h).2;simp only[Ai,un,decide_eq_false_iff_not]at this;exact this q
theorem nt {x:Rb} {i:Nat} {v:V} (hl:vs.length=fd.params.args.length) (hs:Jc (Kg fd).sl x=aa i) (hm:(vs.map aa++Aa ((Kg fd).sl.length - fd.params.args.length) ba)[i]? =aa (aa v)):
 i<fd.params.args.length/\(fd.params.args.map (·.arg))[i]? =aa x/\vs[i]? =aa v:=by
 have hi:i<vs.length:=by
  by_cases q:i<vs.length
  ·exact q
  ·rw[Ra (by simpa using q),oi]at hm
   split at hm<;>cases hm
 have hi':i<(fd.params.args.map (·.arg)).length:=by simp;omega
 refine⟨by omega,rA (λy hy=>fA hy) hs hi',?_⟩;rw[ta (by simpa using hi),za]at hm;cases q:vs[i]? with
 |none=>rw[q]at hm;cases hm
 |some u=>rw[q]at hm;simp at hm;subst hm;rfl
theorem qs {x:Rb} {i:Nat} {val:ya} (h1:(fd.params.args.map (·.arg))[i]? =aa x) (h2:vals[i]? =aa val):(x,val)∈(fd.params.args.map (·.arg)).zip vals:=by
 have:((fd.params.args.map (·.arg)).zip vals)[i]? =aa (x,val):=by rw[List.getElem?_zip_eq_some];exact⟨h1,h2⟩
 exact ma this
theorem Mn {ns:List Rb} {vals:List ya} (h:ns.Nodup) (hl:ns.length=vals.length):((ns.zip vals).map (·.1)).Nodup:=by
 have:(ns.zip vals).map (·.1)=ns:=by
  rw[List.map_fst_zip];omega
 rw[this];exact h
theorem tt {x:Rb} {i:Nat} (C:OF fd) (h:Jc (Kg fd).sl x=aa i):fd.scope.names.lookup x=aa .local\/fd.scope.names.lookup x=aa .cell:=by
 have hm:=Co h;rcases db.mp hm with q|q
 ·exact C.ps x q
 ·obtain⟨k,z1,z2⟩:=wp.mp (jc.mp q).1
  have:=C.look _ _ z1;rcases z2 with z2|z2<;>subst z2
  ·exact .inl this
  ·exact .inr this
def gL (s:Sa) (cs:List (Rb×Qa)) (a:Qa):Prop:=a=s.heap.objs.size\/∃n,cs.lookup n=aa a/\s.heap.objs.size<a
theorem uC {s1:Sa} {a:Qa} (C:OF fd) (hcl:fd.closure=[]) (hnf:∀x k,(x,k)∈fd.scope.names->k≠Yc) (r:R w hb ρ σ s.heap) (x:og w ρ s.heap vs vals) (hl:vs.length=fd.params.args.length)
 (I:InCallC s (callEnvC fd s.heap.objs.size a).locals (bindL (callEnvC fd s.heap.objs.size a).kindOf ((fd.params.args.map (·.arg)).zip vals) λ_=>ba) (callEnvC fd s.heap.objs.size a).cells (bindC (callEnvC fd s.heap.objs.size a).kindOf ((fd.params.args.map (·.arg)).zip vals) λ_=>ba) s1):
 wd w hb (callEnvC fd s.heap.objs.size a) (gL s (callEnvC fd s.heap.objs.size a).cells) (Kg fd).sl 0 (vs.map aa++Aa ((Kg fd).sl.length - fd.params.args.length) ba) ρ s1.heap:=by
 have gz:=x.length;have sv:=Mn C.nd (vals:=vals) (by simp;omega);have hk:=I.toInCall.keep;have hL:(callEnvC fd s.heap.objs.size a).locals=s.heap.objs.size:=rfl;have kind:∀y,(callEnvC fd s.heap.objs.size a).kindOf y=fd.scope.names.lookup y:=λy=>rfl;have hcell:∀y,(y,ve)∈fd.scope.names->∃c,(callEnvC fd s.heap.objs.size a).cells.lookup y=aa c:=λy hy=>by
  obtain⟨new,e1,n1,n2,n3,n4⟩:=Eh fd.scope.names (s.heap.objs.size+1) [];obtain⟨c,hc⟩:=n2 y hy;have ur:(y,c)∈(callEnvC fd s.heap.objs.size a).cells:=by
   show(y,c)∈cellsFrom _ _ _
   rw[e1];simpa using hc
  obtain⟨c',q1,_⟩:=Gh ur;exact⟨c',q1⟩
 have yw:(Kg fd).sl.length=(vs.map aa++Aa ((Kg fd).sl.length - fd.params.args.length) (ba:Option V)).length:=by
  have:fd.params.args.length<=(Kg fd).sl.length:=by unfold Kg;simp
  simp;omega
 refine⟨C.kind,C.gl,C.bi,yw.symm,⟨_,I.toInCall.ns,λy i v hs hkd hm=> ?_⟩,λy i v hs hkd hm=> ?_,⟨yf r (Hb _),Ge r (Hb _),.inl rfl⟩,λy k hy hkd=> ?_,I.apart,λy i hs _=> ?_,λb En=> ?_,λb En=> ?_⟩
 ·obtain⟨_,m1,m2⟩:=nt hl hs hm
  obtain⟨val,v1,v2⟩:=x.get m2;exact⟨val,Uu hkd sv (qs m1 v1),v2.mono (Ha _) λa o e _=>hk a o e⟩
 ·obtain⟨_,m1,m2⟩:=nt hl hs hm
  obtain⟨val,v1,v2⟩:=x.get m2;have hkc:(callEnvC fd s.heap.objs.size a).kindOf y=aa .cell:=by
   rcases hkd with q|q
   ·exact q
   ·exact absurd rfl (hnf y _ (mem_of_lookup (show fd.scope.names.lookup y=aa .free from q)))
  obtain⟨c,hc⟩:=hcell y (mem_of_lookup (show fd.scope.names.lookup y=aa .cell from hkc));have:=I.cell y c hc;rw[Tu hkc sv (qs m1 v1)]at this;exact⟨c,val,hc,this,v2.mono (Ha _) λa o e _=>hk a o e⟩
 ·rcases hkd with q|q
  ·subst q
   obtain⟨c,hc⟩:=hcell y hy;exact⟨c,_,hc,I.cell y c hc⟩
  ·exact absurd q (hnf y k hy)
 ·rcases tt C hs with q|q
  ·exact .inl q
  ·obtain⟨c,hc⟩:=hcell y (mem_of_lookup q)
   have wh:=I.above y c (mem_of_lookup hc);exact .inr ⟨q,c,_,hc,I.cell y c hc,Ge r (Ll (qz wh)),.inr ⟨y,hc,wh⟩⟩
 ·rcases En with q|⟨_,_,q⟩
  ·subst q;exact Ge r (Hb _)
  ·exact Ge r (Ll (qz q))
 ·rcases En with q|⟨m,q,_⟩
  ·subst q
   obtain⟨o,es,ep,e,_⟩:=I.toInCall.ns;rw[show s1.heap.get? s.heap.objs.size=aa o from e];rfl
  ·obtain⟨o,e,_⟩:=I.cell m b q
   rw[e];rfl
theorem iA:∀{l:List (Rb×ya)} {x:Rb} {v:ya},(l.map (·.1)).Nodup->(x,v)∈l->l.reverse.lookup x=aa v:=by
 intro l x v nd h;have h2:(x,v)∈l.reverse:=EF.mpr h;obtain⟨v',q1,q2⟩:=Gh h2;have h3:(x,v')∈l:=EF.mp q2;rw[q1];have:v'=v:=by
  clear q1 q2 h2
  induction l with
  |nil=>cases h
  |cons p r ih=>
   rw[sa,Gc]at nd;rcases Fa.mp h with a|a
   ·subst a
    rcases Fa.mp h3 with b|b
    ·cases b;rfl
    ·exact absurd (Bb.mpr ⟨_,b,rfl⟩) nd.1
   ·rcases Fa.mp h3 with b|b
    ·subst b;exact absurd (Bb.mpr ⟨_,a,rfl⟩) nd.1
    ·exact ih nd.2 a b
 rw[this]
theorem XA {h0:Gb} {a:Qa} (C:OF fd) (hnc:∀x k,(x,k)∈fd.scope.names->k≠ve) (hfr:∀x k,(x,k)∈fd.scope.names->k=Yc->(fd.closure.lookup x).isSome=true) (hc1:fd.closure.length<=1) (hcl:∀n c,fd.closure.lookup n=aa c->∃v,hb.IsCell c v)
 (r:R w hb ρ σ s.heap) (x:og w ρ s.heap vs vals) (hl:vs.length=fd.params.args.length) (hns:h0.Ns s.heap.objs.size λx=>((fd.params.args.map (·.arg)).zip vals).reverse.lookup x) (hk:∀b o,s.heap.get? b=aa o->h0.get? b=aa o):
 wd w hb (callEnv fd s.heap.objs.size a) (λa=>a=s.heap.objs.size) (Kg fd).sl 0 (vs.map aa++Aa ((Kg fd).sl.length - fd.params.args.length) ba) ρ h0:=by
 have gz:=x.length;have sv:=Mn C.nd (vals:=vals) (by simp;omega);have kindN:∀y,(callEnv fd s.heap.objs.size a).kindOf y≠aa .cell:=λy q=>hnc y _ (mem_of_lookup (show fd.scope.names.lookup y=aa .cell from q)) rfl;have yw:(Kg fd).sl.length=(vs.map aa++Aa ((Kg fd).sl.length - fd.params.args.length) (ba:Option V)).length:=by
  have:fd.params.args.length<=(Kg fd).sl.length:=by unfold Kg;simp
  simp;omega
 have hap:fd.closure.Pairwise λx y=>x.2≠y.2:=by
  match hcc:fd.closure,hc1 with
  | [],_=>exact .nil
  | [p],_=>exact List.pairwise_singleton _ _
  |_::_::_,h=>simp at h
 refine⟨C.kind,C.gl,C.bi,yw.symm,⟨_,hns,λy i v hs hkd hm=> ?_⟩,λy i v hs hkd hm=> ?_,⟨yf r (Hb _),Ge r (Hb _),rfl⟩,λy k hy hkd=> ?_,hap,λy i hs _=> ?_,λb En=> ?_,λb En=> ?_⟩
 ·obtain⟨_,m1,m2⟩:=nt hl hs hm
  obtain⟨val,v1,v2⟩:=x.get m2;exact⟨val,iA sv (qs m1 v1),v2.mono (Ha _) λa o e _=>hk a o e⟩
 ·rcases tt C hs with q|q
  ·rcases hkd with z|z<;> · rw[show(callEnv fd s.heap.objs.size a).kindOf y=fd.scope.names.lookup y from rfl,q]at z;cases z
  ·exact absurd q (kindN y)
 ·rcases hkd with q|q
  ·exact absurd q (hnc y k hy)
  ·have:=hfr y k hy q
   obtain⟨c,hc⟩:=Ta.mp this;obtain⟨v,hv⟩:=hcl y c hc;exact⟨c,v,hc,(hv.keeps λb o e=>r.base b o e).keeps hk⟩
 ·rcases tt C hs with q|q
  ·exact .inl q
  ·exact absurd q (kindN y)
 ·subst En;exact Ge r (Hb _)
 ·subst En
  obtain⟨o,es,ep,e,_⟩:=hns;rw[e];rfl
end
end Mine
namespace Mine
structure tx (hb:Gb) (K:Frag) (tab:gi) (D:Qa):Prop where
 cls:∃cd,clsIn K D=aa cd
 ty:nsIn K cStatics "thirdparty.any"=aa ba
 sup:∀c f,tab.sup c=aa f->mroIn K c (.ref D)=aa true/\ks_superIn K c D "__init__"=aa (aa (.ref f))/\typeIn K (.ref f)=aa (.type "function")/\fnIn K f=true
structure KA (hb:Gb) (g:Gl) (f:Qa) (fd:FuncData) (D:Qa):Prop where
 glob:g.glob "super"=aa (.type "super")
 ks:fd.scope.names.lookup ("super":Rb)=aa .globalImplicit
 kc:fd.scope.names.lookup ("__class__":Rb)=aa .free
 par:∃ar,(fd.params.posonlyargs++fd.params.args).head?=aa ar/\fd.scope.names.lookup ar.arg=aa .local/\Jc (Kg fd).sl ar.arg=aa 0
 fn:∃o,hb.get? f=aa o/\o.data=.func fd
 code:∃c o vs file tf,fd.code=.ref c/\hb.get? c=aa o/\o.data=.fields vs/\vs[2]? =aa (.str file tf)/\((pg.main.file:Rb)==file)=true
 top:(pg.main.scope.names.lookup ("super":Rb)).isSome=false
 cell:∃c,fd.closure.lookup ("__class__":Rb)=aa c/\hb.IsCell c (aa (.ref D))
def RB (g:Gl) (fd:FuncData):Option Fn:=match fd.body with
 | .stmts (.Expr (.Call (.Attribute (.Call (.Name s _) [] [] _) nm ap) es [] pos) _::Md)=>
  if Hr fd&&(s==("super":Rb))&&(nm==("__init__":Rb))&&(ap.endLine==pos.line)&& !es.isEmpty&&decide (es.length<29)then
   match g.sup,Hp g 60 (Kg fd) es,Ip g 60 (Kg fd) Md with
   |some f2,aa xs,aa b=>aa ⟨fd.params.args.length,(Kg fd).sl.length,.expr (.sup 0 f2 xs)::b⟩
   |_,_,_=>ba
  else ba
 |_=>ba
def qD (hb:Gb) (g:Gl) (fns:Nat->Option Fn) (D:Qa):Prop:=∀a fn,fns a=aa fn->∃o fd,hb.get? a=aa o/\o.data=.func fd/\hb.CodeRec fd.code fd.qualname/\(gJ g fd=aa fn\/(RB g fd=aa fn/\KA hb g a fd D))/\∀n c,fd.closure.lookup n=aa c->∃v,hb.IsCell c v
variable [Av]
section
variable {w:Lb} {hb:Gb} {A:lc} {eo:Qa->Prop} {me:Me} {K:Frag} {tab:gi} {n:Nat} {g:Gl} {ρ:List Qa} {σ Ca:St} {s:Sa} {v:V} {cf:Nat->List V->St->Option (V×St)} {fd:FuncData} {L D:Qa} {f f2:Nat} {body:List Stmt} {p0 p1 ap pos:Pos} {es:List Expr} {xs:List X}
theorem uA (B:gm hb K tab) (GO:Wv hb K g) (CF:rj w hb cf n) (AK:yi n A) (SU:tx hb K tab D) (SF:KA hb g f fd D)
 (hn:∀e∈es,∀x p,e≠Ee x p) (hG:Hi w hb A (callEnv fd L f) eo (Kg fd).sl 0 me (spliced (backTo pos (starEach es (callEnv fd L f)))) (λσ=>Gf tab cf xs me σ)) (hl:(ap.endLine==pos.line)=true) (hne:es≠[]) (hlen:es.length<29)
 (r:R w hb ρ σ s.heap) (E:wd w hb (callEnv fd L f) eo (Kg fd).sl 0 me ρ s.heap) (e:gc tab cf (.sup 0 f2 xs) me σ=aa (v,Ca)):
 PySem.wpAt (Fb pg w) A (.func body (callEnv fd L f)) (eval (.Call (.Attribute (.Call (.Name "super" p0) [] [] p1) "__init__" ap) es [] pos) (callEnv fd L f)) (PV w hb L ρ s Ca v) No s:=by
 rw[gc]at e
 split at e<;>try (cases e;done)
 rename_i j Wg
 split at e<;>try (cases e;done)
 rename_i c d hj
 split at e<;>try (cases e;done)
 rename_i es' hd'
 split at e<;>try (cases e;done)
 rename_i Sz
 split at e<;>try (cases e;done)
 rename_i vs Ja hvs;obtain⟨m1,m2,m3,m4⟩:=SU.sup c f2 Sz;obtain⟨cdD,hcd⟩:=SU.cls;obtain⟨ar,hp,hka,yw⟩:=SF.par;obtain⟨of,hf,hfd⟩:=SF.fn;obtain⟨cc,oc,vs0,file,tf,hcode,hcc,hoc,hv2,hfile⟩:=SF.code;obtain⟨ce,hcl,hce⟩:=SF.cell;obtain⟨m,hm,hv⟩:=E.ns;obtain⟨val,hv1,xv⟩:=hv ar.arg 0 (.ref j) yw hka Wg;obtain⟨a,dx,Rd,mm,rfl,ha,_,_,_,_,_,_,I⟩:=r.inst hj hd' xv;have X:K.In s.heap:=r.kin B;obtain⟨oD,hD1,hD2⟩:∃oD,s.heap.get? D=aa oD/\oD.data=.cls cdD:=by
  unfold clsIn at hcd
  split at hcd
  ·rename_i c d cd' sl ho
   cases hcd;exact⟨_,X _ _ ho,rfl⟩
  ·cases hcd
 rw[arm_eval_Call];refine PySem.wpAt_bind (ks_wpAt_super_base (env:=callEnv fd L f) SF.ks SF.kc (by decide) rfl (r.base _ _ hf) hfd hp hcode (r.base _ _ hcc) hoc hv2 hfile SF.top ?_);refine ks_loadName_global E.kind SF.ks ?_;have glob:∀{Q:ya->Sa->Prop},Q (.type "super") s->Wa (Fb pg w) A (loadGlobal (callEnv fd L f) "super") Q No s:=λhQ=>by
  obtain⟨_,m,hm,h⟩:=GO.glob "super" _ SF.glob;have h1:s.heap.Ns (callEnv fd L f).globals m:=by rw[E.globals];exact hm.keeps λb o e=>r.base b o e
  rcases h with h|⟨h,mb,hmb,h2⟩
  ·exact loadGlobal_global h1 h hQ
  ·exact loadGlobal_builtin h1 h (by rw[E.builtins];exact hmb.keeps λb o e=>r.base b o e) h2 hQ
 refine glob ⟨rfl,?_⟩;refine wpAny_loadName_free E.kind SF.kc hcl (hce.keeps λb o e=>r.base b o e) ?_;refine wpAny_loadName_local E.kind hka hm hv1 ?_;refine ks_wpAny_isType_cls hD1 hD2 ⟨rfl,?_⟩;refine ks_wpAny_call_super hD1 hD2 I.at_ I.cls (λc e=> ?_) (looks_mroIn X m1) (λh1 e1 k1=> ?_)
 ·have:=I.no
  unfold notCls at this;rw[e]at this;exact Bool.noConfusion this
 refine GA (ia (fc ?_));have hform:methodCallForm (es.length+([]:List Keyword).length) (backTo pos (starEach es (callEnv fd L f))) (backToKw pos (keywordEach [] (callEnv fd L f)))=true:=by
  have hb:backTo pos (starEach es (callEnv fd L f))=es.map λe=>(false,eval e (callEnv fd L f)):=by
   rw[vi hn];unfold backTo;rw[Fc];rfl
  rw[hb];simp only[methodCallForm,wJ];simp[backToKw,keywordEach];omega
 unfold methodCall;rw[hform];have hpos:methodCallPos true (.Call (.Name "super" p0) [] [] p1) (callEnv fd L f) ap pos=pure pos:=by unfold methodCallPos;simp[hl]
 rw[hpos];refine ia (Xb ?_)
 show Wa _ _ (getMethod _ "__init__" _) _ _ _
 have X1:K.In h1:=λb o e=>k1 _ _ (X b o e);cases hcc':clsIn K c with
 |none=>unfold ks_superIn at m2;rw[hcc']at m2;cases m2
 |some cd=>
 unfold ks_superIn at m2;rw[hcc']at m2;obtain⟨o2,ho2,hoc2⟩:∃o2,h1.get? f2=aa o2/\o2.cls=.type "function":=by
  have ht':(K.lookup f2).map (·.cls)=aa (.type "function"):=m3;cases z:K.lookup f2 with
  |none=>rw[z]at ht';cases ht'
  |some of=>rw[z]at ht';exact⟨of,X1 _ _ z,qh ht'⟩
 refine ks_wpAny_getMethod_super e1 (looks_opaque X1 SU.ty) (l₀:=cd.mro) ?_ rfl X1 m2 ho2 hoc2 (ks_ne X I hcc') (by decide) ?_
 ·exactλA Q E s k q=>ia ((looks_clsIn X1 hcc') A _ E s k (Ba q))
 refine ia (Ba ?_);obtain⟨e0,er,rfl⟩:∃e0 er,es=e0::er:=by
  cases es with
  |nil=>exact absurd rfl hne
  |cons a b=>exact⟨a,b,rfl⟩
 have k2:∀b o,s.heap.get? b=aa o->(h1.push {cls:=.type "method",data:=.fields #[.ref f2,.ref a]}).get? b=aa o:=λb o e=>Da _ (k1 _ _ e);have k3:=KX.grow (L:=L) (ρ:=ρ) k2;have r3:=r.grow k2;have E3:=E.grow r k2;have hq:(h1.push {cls:=.type "method",data:=.fields #[.ref f2,.ref a]}).get? h1.objs.size=aa (methodObj (.ref f2) (.ref a)):=Pa _ rfl;have hqn:h1.objs.size∉ρ:=yf r (rk k1 (Hb h1));have hqL:h1.objs.size≠L:=λq=>by
  obtain⟨oL,_,_,hL,_⟩:=hm;have:=rk k1 (Hb h1);rw[q]at this;rw[show s.heap.get? L=aa oL from hL]at this;cases this
 have xr:backTo pos (starEach (e0::er) (callEnv fd L f))=(false,eval e0 (callEnv fd L f))::er.map λe=>(false,eval e (callEnv fd L f)):=by
  rw[vi hn];unfold backTo;rw[Fc];rfl
 have hG':=hG ρ σ {s with heap:=h1.push {cls:=.type "method",data:=.fields #[.ref f2,.ref a]},toks:=s.toks+1} vs Ja r3 E3 hvs;rw[xr]at hG'|-;refine callWith_of (P:=MethP K h1.objs.size f2 (.ref a)) (by simp[backToKw,keywordEach]) (keeps_M m4) (evalArgs_plain (Ea hG' (λvals s2 p2=> ?_) λ_ _ x=>x));obtain⟨zi,h2,Qh,rfl,k4,r4,x4⟩:=p2;have hq2:h2.get? h1.objs.size=aa (methodObj (.ref f2) (.ref a)):=k4.keep _ _ hq hqn hqL;refine⟨⟨hq2,r4.kin B⟩,?_⟩;refine wpAny_call (ks_codeAny_call_bound hq2 ?_);refine Hc (CF A AK f2 _ (.ref a::vals) _ _ {s with heap:=h2,toks:=Qh} _ _ L r4 (E3.kx r3 k4).loc.1 (.cons (k4.vr (k3.vr xv)) x4) e) λq s' z=> ?_;obtain⟨val,rfl,z⟩:=z;exact PV.after (s:=s) (h1:=h1.push {cls:=.type "method",data:=.fields #[.ref f2,.ref a]}) (tk1:=s.toks+1) k3 (PV.after (s:={s with heap:=h1.push {cls:=.type "method",data:=.fields #[.ref f2,.ref a]},toks:=s.toks+1}) k4 z)
end
end Mine
namespace Mine
section
variable {w:Lb} {hb:Gb} {A:lc} {K:Frag} {tab:gi} {n d:Nat} {D:Qa} {g:Gl} {fns:Nat->Option Fn}
theorem II [Av] {ρ:List Qa} {σ Ca:St} {s:Sa} {fd:FuncData} {L:Qa} {v:V} (r:R w hb ρ σ s.heap) (hL:L∉ρ) {env:Env} {eo:Qa->Prop} {h1:Gb} {tk1:Nat} {fl:Fl} {Qb:Me} {Cb:St} {fw:Flow} {s2:Sa} (hk:∀b o,s.heap.get? b=aa o->h1.get? b=aa o) (heo:∀a,eo a->s.heap.get? a=ba)
 (he:(match(aa (fl,Qb,Cb):Option (Fl×Me×St))with
  |some (.ret v,_,Ja)=>aa (v,Ja)
  |some (.next,_,Ja)=>aa (V.none,Ja)
  |none=>ba)=aa (v,Ca))
 :PF w hb env eo (Kg fd).sl ρ {s with heap:=h1,toks:=tk1} Cb Qb fl fw s2->PV w hb L ρ s Ca v (match fw with| .ret v=>v|_=>.none) s2:=by
 intro p;obtain⟨Zd,h',tk',rfl,k,r',E',q⟩:=p;have hne:∀a o,s.heap.get? a=aa o->¬eo a:=λa o e q=>by rw[heo a q]at e;cases e
 have fr:∀a∈Zd,a∈ρ\/s.heap.get? a=ba:=λa ha=>by
  rcases k.fresh a ha with q|q
  ·exact .inl q
  ·right
   cases z:s.heap.get? a with
   |none=>rfl
   |some o=>
    have q':h1.get? a=ba:=q;rw[hk a o z]at q';cases q'
 have kx:KX L ρ s.heap h' Zd:=⟨⟨k.pre,fr,λa o e n1 _=>k.keep a o (hk a o e) n1 (hne a o e),λa o e im=>k.imm a o (hk a o e) im,λa e=>by
  obtain⟨o,ho⟩:=Ta.mp e;exact k.live a (by rw[hk a o ho];rfl)⟩,λm0 n0=>by
  obtain⟨o,es,ep,e1,e2⟩:=n0;exact⟨o,es,ep,k.keep _ _ (hk _ _ e1) hL (hne _ _ e1),e2⟩⟩
 cases fl with
 |next=>
  cases fw<;>try exact q.elim
  cases he;exact⟨Zd,h',tk',rfl,kx,r',.none⟩
 |ret u=>
  cases fw<;>try exact q.elim
  cases he;exact⟨Zd,h',tk',rfl,kx,r',q⟩
theorem yx (B:gm hb K tab) (CO:Fq hb K tab) (GO:Wv hb K g) (SO:∀I:Av,@wm I w hb) (ZO:∀I:Av,@ux I w hb K g) (SU:tx hb K tab D) (ih:∀I:Av,@rj I w hb (Oa tab fns d) (2*d)) (IA:Av) {ρ:List Qa} {σ Ca:St} {s:Sa} {vs:List V} {vals:List ya} {fd:FuncData} {o:Obj} {f:Nat} {fn:Fn} {L:Qa} {v:V}
 (AK:yi (2*(d+1)) A) (r:R w hb ρ σ s.heap) (hL:L∉ρ) (x:og w ρ s.heap vs vals) (ho:hb.get? f=aa o) (hd:o.data=.func fd) (hcr:hb.CodeRec fd.code fd.qualname) (hcl:∀n c,fd.closure.lookup n=aa c->∃v,hb.IsCell c v)
 (htr:RB g fd=aa fn) (SF:KA hb g f fd D) (e:Iu tab (Oa tab fns d) fn vs σ=aa (v,Ca)):
 ai (Fb pg w) A (.call (.ref f) ⟨vals,[]⟩) (λq s'=>∃val,q=.ok (.ret val)/\PV w hb L ρ s Ca v val s') s:=by
 unfold RB at htr
 split at htr<;>try (cases htr;done)
 rename_i sn p0 p1 nm ap es pos ep Md Ul
 split at htr<;>try (cases htr;done)
 rename_i hck;simp only[La,decide_eq_true_eq,Ai]at hck;obtain⟨⟨⟨⟨⟨hck,hs0⟩,hn0⟩,hl⟩,hne⟩,hlen⟩:=hck;have rB:sn=("super":Rb):=by simpa using hs0
 have hn1:nm=("__init__":Rb):=by simpa using hn0
 subst rB;subst hn1
 split at htr<;>cases htr
 rename_i f2 xs b Tp hes qB;have C:=cB hck;unfold Iu at e
 dsimp only at e
 split at e<;>try (cases e;done)
 rename_i hln;have gz:=x.length;have hho:s.heap.get? f=aa o:=r.base _ _ ho;have hlim:s.heap.NoLimit:=by
  obtain⟨mc,a,b⟩:=B.statics;exact⟨mc,a.keeps λb o e=>r.base b o e,b⟩
 have hcd:s.heap.CodeRec fd.code fd.qualname:=by
  obtain⟨c,oc,vs',t,a,b,c',d'⟩:=hcr;exact⟨c,oc,vs',t,a,r.base _ _ b,c',d'⟩
 have kB:=Am (fd:=fd) (vals:=vals) C.po C.ko C.va C.kw C.df C.nd (by simp;omega);have Cx':∀I:Av,@Cx I w hb K tab g (Oa tab fns d) (2*d):=λI=>⟨B,CO,GO,SO I,ih I⟩;have hps:∀y∈(fd.params.args.map (·.arg)).zip vals,y.1∈fd.params.args.map (·.arg):=λy hy=>(RF hy).1;obtain⟨cel,hc1,hc2⟩:=SF.cell;rcases C.clos with⟨lB,_⟩|⟨hnc,hfr,hcl1⟩
 ·rw[lB]at hc1;cases hc1
 rw[wf,Vf]at e;cases Sz:gc tab (Oa tab fns d) (.sup 0 f2 xs) (vs.map aa++Aa ((Kg fd).sl.length - fd.params.args.length) ba) σ with
 |none=>rw[Sz]at e;cases e
 |some p=>
 obtain⟨v1,Ja⟩:=p;rw[Sz]at e;have e2:(match wf tab (Oa tab fns d) b (vs.map aa++Aa ((Kg fd).sl.length - fd.params.args.length) ba) Ja with
  |some (Fl.ret v,_,Ja)=>aa (v,Ja)
  |some (Fl.next,_,Ja)=>aa (V.none,Ja)
  |none=>ba)=aa (v,Ca):=by
  cases v1<;>first|exact e|(exact absurd e (by simp))
 clear e
 cases Wx:wf tab (Oa tab fns d) b (vs.map aa++Aa ((Kg fd).sl.length - fd.params.args.length) ba) Ja with
 |none=>rw[Wx]at e2;cases e2
 |some p=>
 obtain⟨fl,Qb,Cb⟩:=p;rw[Wx]at e2;refine ks_codeAny_call_defAt AK.room hho hd hlim hcd Ul (yF kB) (λy hy=>hnc y.1 y.2 hy) (λy hy=> ?_) (λh0 hns hk=> ?_) C.co C.gen C.kind
 ·rcases C.ps _ (hps y hy)with q|q
  ·exact q
  ·exact absurd rfl (hnc _ _ (mem_of_lookup q))
 have E1:=XA (a:=f) C hnc hfr hcl1 hcl r x hln hns hk;have AK1:yi (2*d+1) (A.deeper (callEnv fd s.heap.objs.size f)):=yi.deeper (n:=2*d+1) (AK.less (by omega)) _;have SE:=(an (Cx' IA) AK1 60).Es (Kg fd) es xs (callEnv fd s.heap.objs.size f) (λa=>a=s.heap.objs.size) 0 (vs.map aa++Aa ((Kg fd).sl.length - fd.params.args.length) ba) pos rfl hes;have S:=(Uw Cx' ZO AK1 60 IA).all (Kg fd) Md b (callEnv fd s.heap.objs.size f) (λa=>a=s.heap.objs.size) rfl qB;refine ks_wpAt_execs_cons (ks_wpAt_Expr_any (PySem.wpAt_mono (uA (s:={s with heap:=h0,toks:=s.toks+((fd.params.args.map (·.arg)).zip vals).length}) (cf:=Oa tab fns d) (n:=2*d) B GO (ih IA) (AK1.less (by omega)) SU SF SE.2 SE.1 hl (by intro q;subst q;cases hne) hlen (r.grow hk) E1 Sz) (λval s1 p1=> ?_) λ_ _ z=>z.elim) ?_ ?_)
 ·obtain⟨bf,h1,tk1,rfl,k1,r1,x1⟩:=p1
  refine GA (Ea (S _ bf Ja {s with heap:=h1,toks:=tk1} fl Qb Cb r1 (E1.kx (r.grow hk) k1) Wx) (λfw s2 p2=>⟨_,rfl,?_⟩) λ_ _ z=>z.elim);have p3:PF w hb (callEnv fd s.heap.objs.size f) (λa=>a=s.heap.objs.size) (Kg fd).sl ρ {s with heap:=h0,toks:=s.toks+((fd.params.args.map (·.arg)).zip vals).length} Cb Qb fl fw s2:=PF.after (s:={s with heap:=h0,toks:=s.toks+((fd.params.args.map (·.arg)).zip vals).length}) k1.toKp p2;exact II r hL hk (λa ha=>by subst ha;exact Hb _) e2 p3
 ·unfold interactive;rw[E1.kind];rfl
 ·exact Nm rfl
theorem gw (B:gm hb K tab) (CO:Fq hb K tab) (GO:Wv hb K g) (SO:∀I:Av,@wm I w hb) (ZO:∀I:Av,@ux I w hb K g) (FO:qD hb g fns D) (SU:tx hb K tab D) (ih:∀I:Av,@rj I w hb (Oa tab fns d) (2*d)) (IA:Av):rj w hb (Oa tab fns (d+1)) (2*(d+1)):=by
 intro A AK f vs vals ρ σ s v Ca L r hL x e;simp only[Oa]at e;cases hf:fns f with
 |none=>simp only[hf]at e;cases e
 |some fn=>
  simp only[hf]at e;obtain⟨o,fd,ho,hd,hcr,htr,hcl⟩:=FO f fn hf;rcases htr with htr|⟨htr,SF⟩
  rotate_left
  ·exact yx B CO GO SO ZO SU ih IA AK r hL x ho hd hcr hcl htr SF e
  unfold gJ at htr
  split at htr
  ·cases htr
  ·rename_i body Ul
   split at htr
   ·rename_i hck
    have C:=cB hck;cases Zn:Ip g 60 (Kg fd) body with
    |none=>rw[Zn]at htr;cases htr
    |some b=>
     rw[Zn]at htr;cases htr;unfold Iu at e
     dsimp only at e
     split at e
     ·rename_i hlen
      have gz:=x.length;have hho:s.heap.get? f=aa o:=r.base _ _ ho;have hlim:s.heap.NoLimit:=by
       obtain⟨mc,a,b⟩:=B.statics;exact⟨mc,a.keeps λb o e=>r.base b o e,b⟩
      have hcd:s.heap.CodeRec fd.code fd.qualname:=by
       obtain⟨c,oc,vs',t,a,b,c',d'⟩:=hcr;exact⟨c,oc,vs',t,a,r.base _ _ b,c',d'⟩
      have kB:=Am (fd:=fd) (vals:=vals) C.po C.ko C.va C.kw C.df C.nd (by simp;omega);have Cx':∀I:Av,@Cx I w hb K tab g (Oa tab fns d) (2*d):=λI=>⟨B,CO,GO,SO I,ih I⟩;have fin:∀(env:Env) (eo:Qa->Prop) (h1:Gb) (tk1:Nat) (fl:Fl) (Qb:Me) (Cb:St) (fw:Flow) (s2:Sa),(∀b o,s.heap.get? b=aa o->h1.get? b=aa o)->(∀a,eo a->s.heap.get? a=ba)->
       (match(aa (fl,Qb,Cb):Option (Fl×Me×St))with
        |some (.ret v,_,Ja)=>aa (v,Ja)
        |some (.next,_,Ja)=>aa (V.none,Ja)
        |none=>ba)=aa (v,Ca)->
       PF w hb env eo (Kg fd).sl ρ {s with heap:=h1,toks:=tk1} Cb Qb fl fw s2->PV w hb L ρ s Ca v (match fw with| .ret v=>v|_=>.none) s2:=by
       rintro env eo h1 tk1 fl Qb Cb fw s2 hk heo he ⟨Zd,h',tk',rfl,k,r',E',q⟩
       have hne:∀a o,s.heap.get? a=aa o->¬eo a:=λa o e q=>by rw[heo a q]at e;cases e
       have fr:∀a∈Zd,a∈ρ\/s.heap.get? a=ba:=λa ha=>by
        rcases k.fresh a ha with q|q
        ·exact .inl q
        ·right
         cases z:s.heap.get? a with
         |none=>rfl
         |some o=>
          have q':h1.get? a=ba:=q;rw[hk a o z]at q';cases q'
       have kx:KX L ρ s.heap h' Zd:=⟨⟨k.pre,fr,λa o e n1 _=>k.keep a o (hk a o e) n1 (hne a o e),λa o e im=>k.imm a o (hk a o e) im,λa e=>by
        obtain⟨o,ho⟩:=Ta.mp e;exact k.live a (by rw[hk a o ho];rfl)⟩,λm0 n0=>by
        obtain⟨o,es,ep,e1,e2⟩:=n0;exact⟨o,es,ep,k.keep _ _ (hk _ _ e1) hL (hne _ _ e1),e2⟩⟩
       cases fl with
       |next=>
        cases fw<;>try exact q.elim
        cases he;exact⟨Zd,h',tk',rfl,kx,r',.none⟩
       |ret u=>
        cases fw<;>try exact q.elim
        cases he;exact⟨Zd,h',tk',rfl,kx,r',q⟩
      cases Wx:wf tab (Oa tab fns d) b (vs.map aa++Aa ((Kg fd).sl.length - fd.params.args.length) ba) σ with
      |none=>rw[Wx]at e;cases e
      |some p=>
       obtain⟨fl,Qb,Cb⟩:=p;rw[Wx]at e;have hps:∀y∈(fd.params.args.map (·.arg)).zip vals,y.1∈fd.params.args.map (·.arg):=λy hy=>(RF hy).1;rcases C.clos with⟨lB,hnf⟩|⟨hnc,hfr,hc1⟩
       ·refine codeAny_call_cells AK.room hho hd hlim hcd Ul kB lB (λy hy=> ?_) (λs1 I=> ?_) C.co C.gen C.kind
        ·rcases C.ps _ (hps y hy)with q|q
         ·exact .inl q
         ·refine .inr ⟨q,?_⟩
          obtain⟨new,e1,n1,n2,n3,n4⟩:=Eh fd.scope.names (s.heap.objs.size+1) [];obtain⟨c,hc⟩:=n2 y.1 (mem_of_lookup q);obtain⟨c',q1,_⟩:=Gh (l:=cellsFrom (s.heap.objs.size+1) fd.scope.names []) (x:=y.1) (c:=c) (by rw[e1];simpa using hc);rw[q1];rfl
        ·have E1:=uC (a:=f) C lB hnf r x hlen I
         obtain⟨h1,tk1,rfl⟩:=I.toInCall.same;have S:=(Uw (n:=2*d) Cx' ZO (yi.deeper (n:=2*d+1) (AK.less (by omega)) (callEnvC fd s.heap.objs.size f)) 60 IA).all (Kg fd) body b _ _ rfl Zn _ ρ σ _ fl Qb Cb (r.grow I.toInCall.keep) E1 Wx;refine Ea S (λfw s2 p2=>⟨_,rfl,?_⟩) λ_ _ z=>z.elim;refine fin _ _ h1 tk1 fl Qb Cb fw s2 I.toInCall.keep (λa ha=> ?_) e p2;rcases ha with q|⟨_,_,q⟩
         ·subst q;exact Hb _
         ·exact Ll (qz q)
       ·refine codeAny_call_def AK.room hho hd hlim hcd Ul (yF kB) (λy hy=>hnc y.1 y.2 hy) (λy hy=> ?_) (λh0 hns hk=> ?_) C.co C.gen C.kind
        ·rcases C.ps _ (hps y hy)with q|q
         ·exact q
         ·exact absurd rfl (hnc _ _ (mem_of_lookup q))
        ·have E1:=XA (a:=f) C hnc hfr hc1 hcl r x hlen hns hk
         have S:=(Uw (n:=2*d) Cx' ZO (yi.deeper (n:=2*d+1) (AK.less (by omega)) (callEnv fd s.heap.objs.size f)) 60 IA).all (Kg fd) body b _ _ rfl Zn _ ρ σ {s with heap:=h0,toks:=s.toks+((fd.params.args.map (·.arg)).zip vals).length} fl Qb Cb (r.grow hk) E1 Wx;refine Ea S (λfw s2 p2=>⟨_,rfl,?_⟩) λ_ _ z=>z.elim;exact fin _ _ h0 _ fl Qb Cb fw s2 hk (λa ha=>by subst ha;exact Hb _) e p2
     ·cases e
   ·cases htr
theorem OA (B:gm hb K tab) (CO:Fq hb K tab) (GO:Wv hb K g) (SO:∀I:Av,@wm I w hb) (ZO:∀I:Av,@ux I w hb K g) (FO:qD hb g fns D) (SU:tx hb K tab D):∀d (I:Av),@rj I w hb (Oa tab fns d) (2*d)
 |0,I=>λA AK f vs vals ρ σ s v Ca L r hL x e=>by simp[Oa]at e
 |d+1,I=>gw B CO GO SO ZO FO SU (OA B CO GO SO ZO FO SU d) I
end
end Mine
namespace Mine
def AL:Fn:=⟨1,1,[.ret (.sub (.sub (.var 0) (.int 0)) (.int 0))]⟩
def BL:Fn:=⟨1,1,[.ret (.sub (.sub (.var 0) (.neg (.int 1))) (.int 1))]⟩
def CL:Fn:=⟨1,1,[.ret (.call (.con (.builtin "sum")) [(.comp 3 (.var 0) (.tup [2,3]) [] [] (.bin .Add (.bin .Sub (.var 3) (.var 2)) (.int 1)))])]⟩
def DL:Fn:=⟨2,4,[.fors (.tup [2,3]) (.var 0) [.ifs (.base (.cmp .LtE (.var 1) (.var 3))) [.ret (.call (.con (.builtin "max")) [(.var 2),(.var 1)])] []],.ret .none]⟩
def EL:Fn:=⟨2,2,[.ret (.cmp .Eq (.call (.con (.ref 47)) [(.var 0),(.var 1)]) (.var 1))]⟩
def FL:Fn:=⟨1,4,[.assign (.var 1) (.list []),.fors (.tup [2,3]) (.var 0) [.expr (.meth (.var 1) "extend" [(.call (.con (.type "range")) [(.var 2),(.bin .Add (.var 3) (.int 1))])])],.ret (.var 1)]⟩
def GL:Fn:=⟨2,2,[.ret (.call (.con (.type "tuple")) [(.comp 3 (.var 0) (.tup [3,4]) [(.base (.cmp .LtE (.var 3) (.var 1)))] [] (.tup [(.var 3),(.call (.con (.builtin "min")) [(.var 4),(.var 1)])]))])]⟩
def HL:Fn:=⟨2,2,[.ret (.call (.con (.type "tuple")) [(.comp 3 (.var 0) (.tup [3,4]) [(.base (.cmp .GtE (.var 4) (.var 1)))] [] (.tup [(.call (.con (.builtin "max")) [(.var 3),(.var 1)]),(.var 4)]))])]⟩
def IL:Fn:=⟨2,2,[.ret (.bin .Add (.call (.con (.ref 66)) [(.var 0),(.bin .Sub (.var 1) (.int 1))]) (.call (.con (.ref 71)) [(.var 0),(.bin .Add (.var 1) (.int 1))]))]⟩
def JL:Fn:=⟨2,7,[.assign (.tup [(.var 2),(.var 3),(.var 4)]) (.tup [(.list []),(.int 0),(.int 0)]),.whil (.and (.base (.cmp .Lt (.var 3) (.call (.con (.builtin "len")) [(.var 0)]))) (.base (.cmp .Lt (.var 4) (.call (.con (.builtin "len")) [(.var 1)])))) [.assign (.tup [(.var 5),(.var 6)]) (.tup [(.call (.con (.builtin "max")) [(.sub (.sub (.var 0) (.var 3)) (.int 0)),(.sub (.sub (.var 1) (.var 4)) (.int 0))]),(.call (.con (.builtin "min")) [(.sub (.sub (.var 0) (.var 3)) (.int 1)),(.sub (.sub (.var 1) (.var 4)) (.int 1))])]),.ifs (.base (.cmp .LtE (.var 5) (.var 6))) [.expr (.meth (.var 2) "append" [(.tup [(.var 5),(.var 6)])])] [],.ifs (.base (.cmp .Lt (.sub (.sub (.var 0) (.var 3)) (.int 1)) (.sub (.sub (.var 1) (.var 4)) (.int 1)))) [.assign (.var 3) (.bin .Add (.var 3) (.int 1))] [.assign (.var 4) (.bin .Add (.var 4) (.int 1))]],.ret (.call (.con (.type "tuple")) [(.var 2)])]⟩
def KL:Fn:=⟨1,4,[.assign (.tup [(.var 1),(.var 2),(.var 3)]) (.var 0),.ifs (.base (.cmp .Eq (.var 2) (.str "<="))) [.ret (.tup [(.var 1),(.str ">="),(.bin .Add (.var 3) (.int 1))])] [],.ifs (.base (.cmp .Eq (.var 2) (.str ">="))) [.ret (.tup [(.var 1),(.str "<="),(.bin .Sub (.var 3) (.int 1))])] [],.ret (.ite (.base (.cmp .Eq (.var 2) (.str "="))) (.tup [(.var 1),(.str "!="),(.var 3)]) (.tup [(.var 1),(.str "="),(.var 3)]))]⟩
def LL:Fn:=⟨2,4,[.assign (.tup [(.var 2),(.var 3)]) (.tup [(.sub (.var 0) (.int 1)),(.sub (.var 0) (.int 2))]),.ifs (.base (.cmp .Eq (.var 2) (.str "<="))) [.ret (.call (.con (.ref 66)) [(.var 1),(.var 3)])] [],.ifs (.base (.cmp .Eq (.var 2) (.str ">="))) [.ret (.call (.con (.ref 71)) [(.var 1),(.var 3)])] [],.ret (.ite (.base (.cmp .Eq (.var 2) (.str "="))) (.call (.con (.ref 85)) [(.var 1),(.tup [(.tup [(.var 3),(.var 3)])])]) (.call (.con (.ref 78)) [(.var 1),(.var 3)]))]⟩
def dE:Fn:=⟨2,3,[.assign (.var 2) (.call (.con (.ref 99)) [(.var 0),(.var 1)]),.ifs (.base (.cmp .Eq (.var 2) (.var 1))) [.ret (.int 1)] [],.ret (.ite (.base (.cmp .Eq (.var 2) (.tup []))) (.neg (.int 1)) (.int 0))]⟩
def ZH:Fn:=⟨1,1,[.assign (.attr (.var 0) "domains") (.list []),.assign (.attr (.var 0) "firsts") (.list []),.assign (.attr (.var 0) "trail") (.list []),.assign (.attr (.var 0) "marks") (.list []),.assign (.attr (.var 0) "news") (.dict [] []),.assign (.attr (.var 0) "speaker") (.neg (.int 1)),.assign (.attr (.var 0) "is_failed") (.bool false),.assign (.attr (.var 0) "clash") (.tup [])]⟩
def aI:Fn:=⟨2,2,[.expr (.meth (.attr (.var 0) "domains") "append" [(.var 1)]),.expr (.meth (.attr (.var 0) "firsts") "append" [(.var 1)]),.ifs (.base (.cmp .Eq (.var 1) (.tup []))) [.expr (.meth (.var 0) "fail" [(.tup [])])] [],.ret (.bin .Sub (.call (.con (.builtin "len")) [(.attr (.var 0) "domains")]) (.int 1))]⟩
def bI:Fn:=⟨1,1,[.ret (.call (.con (.builtin "len")) [(.attr (.var 0) "domains")])]⟩
def cI:Fn:=⟨2,2,[.ret (.sub (.attr (.var 0) "domains") (.var 1))]⟩
def YK:Fn:=⟨2,2,[.ret (.call (.con (.ref 28)) [(.sub (.attr (.var 0) "domains") (.var 1))])]⟩
def ZK:Fn:=⟨2,2,[.ret (.call (.con (.ref 35)) [(.sub (.attr (.var 0) "domains") (.var 1))])]⟩
def dI:Fn:=⟨3,3,[.ret (.call (.con (.ref 54)) [(.sub (.attr (.var 0) "domains") (.var 1)),(.var 2)])]⟩
def aL:Fn:=⟨2,2,[.ret (.sub (.sub (.sub (.attr (.var 0) "domains") (.var 1)) (.int 0)) (.int 0))]⟩
def eI:Fn:=⟨2,2,[.ret (.call (.con (.ref 40)) [(.sub (.attr (.var 0) "domains") (.var 1))])]⟩
def fI:Fn:=⟨2,2,[.ret (.call (.con (.ref 106)) [(.var 1),(.sub (.attr (.var 0) "domains") (.sub (.var 1) (.int 0)))])]⟩
def lG:Fn:=⟨4,7,[.assign (.var 4) (.sub (.var 1) (.int 0)),.assign (.var 5) (.sub (.attr (.var 0) "domains") (.var 4)),.assign (.var 6) (.call (.con (.ref 99)) [(.var 1),(.var 5)]),.ifs (.base (.cmp .Eq (.var 6) (.tup []))) [.ret (.meth (.var 0) "fail" [(.bin .Add (.ite (.base (.cmp .Is (.var 2) .none)) (.tup []) (.var 2)) (.tup [(.call (.con (.ref 92)) [(.var 1)])]))])] [],.ifs (.base (.cmp .Eq (.var 6) (.var 5))) [.ret (.bool true)] [],.expr (.meth (.attr (.var 0) "trail") "append" [(.tup [(.var 4),(.var 5),(.var 1),(.var 2),(.var 3)])]),.assign (.sub (.attr (.var 0) "domains") (.var 4)) (.var 6),.assign (.sub (.attr (.var 0) "news") (.var 4)) (.bool true),.ret (.bool true)]⟩
def gI:Fn:=⟨3,3,[.ret (.meth (.var 0) "enter" [(.var 1),(.call (.con (.type "tuple")) [(.var 2)]),(.attr (.var 0) "speaker")])]⟩
def iI:Fn:=⟨2,2,[.ret (.meth (.var 0) "enter" [(.var 1),.none,(.neg (.int 1))])]⟩
def jI:Fn:=⟨2,2,[.assign (.attr (.var 0) "is_failed") (.bool true),.assign (.attr (.var 0) "clash") (.call (.con (.type "tuple")) [(.var 1)]),.ret (.bool false)]⟩
def kI:Fn:=⟨1,1,[.expr (.meth (.attr (.var 0) "marks") "append" [(.call (.con (.builtin "len")) [(.attr (.var 0) "trail")])])]⟩
def lI:Fn:=⟨3,3,[.assign (.attr (.var 0) "number") (.neg (.int 1)),.assign (.attr (.var 0) "scope") (.call (.con (.type "tuple")) [(.var 1)]),.assign (.attr (.var 0) "strength") (.var 2)]⟩
def bL:Fn:=⟨2,2,[.ret (.cmp .Eq (.call (.con (.builtin "len")) [(.var 1)]) (.call (.con (.builtin "len")) [(.attr (.var 0) "scope")]))]⟩
def cL:Fn:=⟨1,1,[.ret (.tup [])]⟩
def eL:Fn:=⟨2,7,[.assign (.tup [(.var 2),(.var 3)]) (.tup [(.list [(.tup [(.var 0),(.str ">="),(.call (.con (.ref 28)) [(.var 1)])]),(.tup [(.var 0),(.str "<="),(.call (.con (.ref 35)) [(.var 1)])])]),(.bin .Sub (.call (.con (.ref 28)) [(.var 1)]) (.int 1))]),.fors (.tup [4,5]) (.var 1) [.fors (.var 6) (.call (.con (.type "range")) [(.bin .Add (.var 3) (.int 1)),(.var 4)]) [.expr (.meth (.var 2) "append" [(.tup [(.var 0),(.str "!="),(.var 6)])])],.assign (.var 3) (.var 5)],.ret (.var 2)]⟩
def mI:Fn:=⟨4,4,[.assign (.attr (.var 0) "able") (.var 1),.assign (.attr (.var 0) "lows") (.var 2),.assign (.attr (.var 0) "highs") (.var 3),.assign (.attr (.var 0) "at") (.bin .Mult (.list [(.neg (.int 1))]) (.call (.con (.builtin "len")) [(.var 1)])),.assign (.attr (.var 0) "counts") (.bin .Mult (.list [(.int 0)]) (.call (.con (.builtin "len")) [(.var 2)]))]⟩
def pI:Fn:=⟨2,2,[.ret (.comp 2 (.call (.con (.type "range")) [(.call (.con (.builtin "len")) [(.attr (.var 0) "at")])]) (.var 3) [(.base (.cmp .Eq (.sub (.attr (.var 0) "at") (.var 3)) (.var 1)))] [] (.var 3))]⟩
def qI:Fn:=⟨2,9,[.assign (.tup [(.var 2),(.var 3),(.var 4)]) (.tup [(.dict [] []),(.list []),(.int 0)]),.fors (.var 5) (.sub (.attr (.var 0) "able") (.var 1)) [.assign (.sub (.var 2) (.var 5)) (.tup [(.var 1),(.neg (.int 1))]),.expr (.meth (.var 3) "append" [(.var 5)])],.whil (.base (.cmp .Lt (.var 4) (.call (.con (.builtin "len")) [(.var 3)]))) [.assign (.tup [(.var 6),(.var 4)]) (.tup [(.sub (.var 3) (.var 4)),(.bin .Add (.var 4) (.int 1))]),.ifs (.base (.cmp .Lt (.sub (.attr (.var 0) "counts") (.var 6)) (.sub (.attr (.var 0) "highs") (.var 6)))) [.aug (.attr (.var 0) "counts") (.var 6) .Add (.int 1),.whil (.base (.cmp .GtE (.var 6) (.int 0))) [.assign (.tup [(.var 7),(.var 8)]) (.sub (.var 2) (.var 6)),.assign (.sub (.attr (.var 0) "at") (.var 7)) (.var 6),.assign (.var 6) (.var 8)],.ret .none] [],.fors (.var 7) (.meth (.var 0) "members_at" [(.var 6)]) [.fors (.var 5) (.sub (.attr (.var 0) "able") (.var 7)) [.ifs (.base (.cmp .NotIn (.var 5) (.var 2))) [.assign (.sub (.var 2) (.var 5)) (.tup [(.var 7),(.var 6)]),.expr (.meth (.var 3) "append" [(.var 5)])] []]]],.ret (.call (.con (.builtin "sorted")) [(.var 3)])]⟩
def tI:Fn:=⟨2,8,[.assign (.tup [(.var 2),(.var 3),(.var 4)]) (.tup [(.dict [(.var 1)] [(.tup [(.neg (.int 1)),(.neg (.int 1))])]),(.list [(.var 1)]),(.int 0)]),.whil (.base (.cmp .Lt (.var 4) (.call (.con (.builtin "len")) [(.var 3)]))) [.assign (.tup [(.var 5),(.var 4)]) (.tup [(.sub (.var 3) (.var 4)),(.bin .Add (.var 4) (.int 1))]),.fors (.var 6) (.call (.con (.type "range")) [(.call (.con (.builtin "len")) [(.attr (.var 0) "at")])]) [.assign (.var 7) (.sub (.attr (.var 0) "at") (.var 6)),.ifs (.and (.base (.cmp .In (.var 5) (.sub (.attr (.var 0) "able") (.var 6)))) (.base (.cmp .NotIn (.var 7) (.var 2)))) [.assign (.sub (.var 2) (.var 7)) (.tup [(.var 6),(.var 5)]),.expr (.meth (.var 3) "append" [(.var 7)]),.ifs (.base (.cmp .Gt (.sub (.attr (.var 0) "counts") (.var 7)) (.sub (.attr (.var 0) "lows") (.var 7)))) [.expr (.meth (.var 0) "move_along" [(.var 7),(.var 1),(.var 2)]),.ret .none] []] []]],.ret (.call (.con (.builtin "sorted")) [(.var 3)])]⟩
def uI:Fn:=⟨4,5,[.aug (.attr (.var 0) "counts") (.var 1) .Sub (.int 1),.aug (.attr (.var 0) "counts") (.var 2) .Add (.int 1),.whil (.base (.cmp .NotEq (.var 1) (.var 2))) [.assign (.tup [(.var 4),(.var 1)]) (.sub (.var 3) (.var 1)),.assign (.sub (.attr (.var 0) "at") (.var 4)) (.var 1)]]⟩
def vI:Fn:=⟨2,10,[.assign (.tup [(.var 2),(.var 3),(.var 4),(.var 5)]) (.tup [(.dict [(.var 1)] [(.bool true)]),(.list [(.var 1)]),(.int 0),(.bool false)]),.whil (.base (.cmp .Lt (.var 4) (.call (.con (.builtin "len")) [(.var 3)]))) [.assign (.tup [(.var 6),(.var 4),(.var 7)]) (.tup [(.sub (.var 3) (.var 4)),(.bin .Add (.var 4) (.int 1)),(.list [])]),.ifs (.and (.not (.base (.var 5))) (.base (.cmp .Lt (.sub (.attr (.var 0) "counts") (.var 6)) (.sub (.attr (.var 0) "highs") (.var 6))))) [.assign (.var 5) (.bool true),.expr (.meth (.var 7) "extend" [(.comp 2 (.call (.con (.type "range")) [(.call (.con (.builtin "len")) [(.attr (.var 0) "lows")])]) (.var 11) [(.base (.cmp .Gt (.sub (.attr (.var 0) "counts") (.var 11)) (.sub (.attr (.var 0) "lows") (.var 11))))] [] (.var 11))])] [],.fors (.var 9) (.meth (.var 0) "members_at" [(.var 6)]) [.expr (.meth (.var 7) "extend" [(.sub (.attr (.var 0) "able") (.var 9))])],.fors (.var 8) (.var 7) [.ifs (.base (.cmp .NotIn (.var 8) (.var 2))) [.assign (.sub (.var 2) (.var 8)) (.bool true),.expr (.meth (.var 3) "append" [(.var 8)])] []]],.ret (.tup [(.call (.con (.builtin "sorted")) [(.var 2)]),(.var 5)])]⟩
def wI:Fn:=⟨5,8,[.expr (.sup 0 274 [(.var 1),(.str "values")]),.assign (.attr (.var 0) "taken") (.call (.con (.type "tuple")) [(.var 1)]),.assign (.attr (.var 0) "rows") (.tup [(.call (.con (.type "tuple")) [(.var 2)]),(.call (.con (.type "tuple")) [(.var 3)]),(.call (.con (.type "tuple")) [(.var 4)])]),.assign (.attr (.var 0) "wanted") (.list []),.assign (.attr (.var 0) "lows") (.list []),.assign (.attr (.var 0) "highs") (.list []),.forz (.tup [5,6,7]) [(.var 2),(.var 3),(.var 4)] [.expr (.meth (.var 0) "want" [(.var 5),(.call (.con (.builtin "max")) [(.var 6),(.int 0)]),(.var 7)])],.assign (.attr (.var 0) "has_twins") (.cmp .Lt (.call (.con (.builtin "len")) [(.call (.con (.type "set")) [(.var 1)])]) (.call (.con (.builtin "len")) [(.attr (.var 0) "taken")]))]⟩
def mG:Fn:=⟨4,5,[.ifs (.base (.cmp .In (.var 1) (.attr (.var 0) "wanted"))) [.assign (.var 4) (.meth (.attr (.var 0) "wanted") "index" [(.var 1)]),.assign (.tup [(.sub (.attr (.var 0) "lows") (.var 4)),(.sub (.attr (.var 0) "highs") (.var 4))]) (.tup [(.call (.con (.builtin "max")) [(.sub (.attr (.var 0) "lows") (.var 4)),(.var 2)]),(.call (.con (.builtin "min")) [(.sub (.attr (.var 0) "highs") (.var 4)),(.var 3)])])] [.expr (.meth (.attr (.var 0) "wanted") "append" [(.var 1)]),.expr (.meth (.attr (.var 0) "lows") "append" [(.var 2)]),.expr (.meth (.attr (.var 0) "highs") "append" [(.var 3)])]]⟩
def eE:Fn:=⟨3,4,[.assign (.var 3) (.comp 2 (.call (.con (.type "range")) [(.call (.con (.builtin "len")) [(.attr (.var 0) "wanted")])]) (.var 5) [(.base (.meth (.var 1) "has" [(.var 2),(.sub (.attr (.var 0) "wanted") (.var 5))]))] [] (.var 5)),.ret (.ite (.base (.cmp .Gt (.meth (.var 1) "width" [(.var 2)]) (.call (.con (.builtin "len")) [(.var 3)]))) (.bin .Add (.var 3) (.list [(.call (.con (.builtin "len")) [(.attr (.var 0) "wanted")])])) (.var 3))]⟩
def fE:Fn:=⟨2,3,[.assign (.var 2) (.neg (.int 1)),.whil (.base (.cmp .Lt (.var 2) (.call (.con (.builtin "len")) [(.attr (.var 1) "trail")]))) [.assign (.var 2) (.call (.con (.builtin "len")) [(.attr (.var 1) "trail")]),.ifs (.not (.base (.meth (.var 0) "strike_once" [(.var 1)]))) [.ret (.bool false)] [],.ifs (.not (.base (.attr (.var 0) "has_twins"))) [.ret (.bool true)] []],.ret (.bool true)]⟩
def nG:Fn:=⟨2,9,[.ifs (.base (.cmp .NotEq (.comp 2 (.call (.con (.type "range")) [(.call (.con (.builtin "len")) [(.attr (.var 0) "wanted")])]) (.var 10) [(.base (.cmp .Gt (.sub (.attr (.var 0) "lows") (.var 10)) (.sub (.attr (.var 0) "highs") (.var 10))))] [] (.var 10)) (.list []))) [.ret (.meth (.var 1) "fail" [(.tup [])])] [],.assign (.var 3) (.comp 2 (.attr (.var 0) "taken") (.var 10) [] [] (.meth (.var 0) "options_of" [(.var 1),(.var 10)])),.assign (.var 4) (.call (.con (.ref 357)) [(.var 3),(.bin .Add (.attr (.var 0) "lows") (.list [(.int 0)])),(.bin .Add (.attr (.var 0) "highs") (.list [(.bin .Add (.call (.con (.builtin "len")) [(.attr (.var 0) "taken")]) (.int 1))]))]),.fors (.var 5) (.call (.con (.type "range")) [(.call (.con (.builtin "len")) [(.attr (.var 0) "taken")])]) [.assign (.var 6) (.meth (.var 4) "place" [(.var 5)]),.ifs (.base (.cmp .IsNot (.var 6) .none)) [.assign (.var 2) (.sub (.attr (.var 0) "taken") (.var 5)),.ret (.meth (.var 1) "fail" [(.bin .Add (.meth (.var 0) "confined" [(.var 1),(.var 4),(.var 6)]) (.call (.con (.ref 309)) [(.var 2),(.meth (.var 1) "dom" [(.var 2)])]))])] []],.fors (.var 7) (.call (.con (.type "range")) [(.call (.con (.builtin "len")) [(.attr (.var 0) "wanted")])]) [.whil (.base (.cmp .Lt (.sub (.attr (.var 4) "counts") (.var 7)) (.sub (.attr (.var 0) "lows") (.var 7)))) [.assign (.var 8) (.meth (.var 4) "fill" [(.var 7)]),.ifs (.base (.cmp .IsNot (.var 8) .none)) [.ret (.meth (.var 1) "fail" [(.meth (.var 0) "lacking" [(.var 4),(.var 8)])])] []]],.fors (.var 7) (.call (.con (.type "range")) [(.bin .Add (.call (.con (.builtin "len")) [(.attr (.var 0) "wanted")]) (.int 1))]) [.ifs (.not (.base (.meth (.var 0) "strike_option" [(.var 1),(.var 4),(.var 7)]))) [.ret (.bool false)] []],.ret (.bool true)]⟩
def xI:Fn:=⟨4,7,[.assign (.var 4) (.list []),.fors (.var 5) (.var 3) [.fors (.var 6) (.meth (.var 2) "members_at" [(.var 5)]) [.expr (.meth (.var 4) "extend" [(.call (.con (.ref 309)) [(.sub (.attr (.var 0) "taken") (.var 6)),(.meth (.var 1) "dom" [(.sub (.attr (.var 0) "taken") (.var 6))])])])]],.ret (.var 4)]⟩
def yI:Fn:=⟨3,5,[.assign (.var 3) (.list []),.fors (.var 4) (.call (.con (.type "range")) [(.call (.con (.builtin "len")) [(.attr (.var 0) "taken")])]) [.ifs (.base (.cmp .NotIn (.sub (.attr (.var 1) "at") (.var 4)) (.var 2))) [.expr (.meth (.var 3) "extend" [(.comp 2 (.var 2) (.var 6) [] [] (.tup [(.sub (.attr (.var 0) "taken") (.var 4)),(.str "!="),(.sub (.attr (.var 0) "wanted") (.var 6))]))])] []],.ret (.var 3)]⟩
def oG:Fn:=⟨4,13,[.assign (.tup [(.var 4),(.var 5)]) (.meth (.var 2) "reached" [(.var 3)]),.assign (.var 6) (.comp 2 (.call (.con (.type "range")) [(.call (.con (.builtin "len")) [(.attr (.var 0) "taken")])]) (.var 14) [(.and (.base (.cmp .In (.var 3) (.sub (.attr (.var 2) "able") (.var 14)))) (.base (.cmp .NotIn (.sub (.attr (.var 2) "at") (.var 14)) (.var 4))))] [] (.var 14)),.ifs (.base (.cmp .Eq (.var 6) (.list []))) [.ret (.bool true)] [],.ifs (.base (.var 5)) [.assign (.var 7) (.comp 2 (.call (.con (.type "range")) [(.call (.con (.builtin "len")) [(.attr (.var 0) "wanted")])]) (.var 14) [(.and (.base (.cmp .NotIn (.var 14) (.var 4))) (.base (.cmp .Gt (.sub (.attr (.var 0) "lows") (.var 14)) (.int 0))))] [] (.var 14)),.assign (.var 8) (.meth (.var 0) "lacking" [(.var 2),(.var 7)])] [.assign (.var 8) (.meth (.var 0) "confined" [(.var 1),(.var 2),(.var 4)])],.fors (.var 9) (.var 6) [.assign (.var 10) (.sub (.attr (.var 0) "taken") (.var 9)),.assign (.var 12) (.comp 2 (.call (.con (.ref 61)) [(.meth (.var 1) "dom" [(.var 10)])]) (.var 14) [(.base (.cmp .NotIn (.var 14) (.attr (.var 0) "wanted")))] [] (.var 14)),.fors (.var 11) (.ite (.base (.cmp .Lt (.var 3) (.call (.con (.builtin "len")) [(.attr (.var 0) "wanted")]))) (.list [(.sub (.attr (.var 0) "wanted") (.var 3))]) (.var 12)) [.ifs (.not (.base (.meth (.var 1) "strike" [(.tup [(.var 10),(.str "!="),(.var 11)]),(.var 8)]))) [.ret (.bool false)] []]],.ret (.bool true)]⟩
def pG:Fn:=⟨2,5,[.forz (.tup [2,3,4]) [(.sub (.attr (.var 0) "rows") (.int 0)),(.sub (.attr (.var 0) "rows") (.int 1)),(.sub (.attr (.var 0) "rows") (.int 2))] [.ifs (.not (.base (.cmp2 .LtE .LtE (.var 3) (.meth (.call (.con (.type "list")) [(.var 1)]) "count" [(.var 2)]) (.var 4)))) [.ret (.bool false)] []],.ret (.bool true)]⟩
def zI:Fn:=⟨1,1,[.ret (.bin .Add (.tup [(.str "cardinality"),(.attr (.var 0) "taken")]) (.attr (.var 0) "rows"))]⟩
def gE:Fn:=⟨2,2,[.assign (.sub (.var 0) (.str "at")) (.bin .Add (.sub (.var 0) (.str "at")) (.int 1)),.ifs (.base (.cmp .Gt (.sub (.var 0) (.str "at")) (.call (.con (.builtin "len")) [(.sub (.var 0) (.str "cells"))]))) [.ret (.int 0)] [],.ret (.bin .Mod (.sub (.sub (.var 0) (.str "cells")) (.bin .Sub (.sub (.var 0) (.str "at")) (.int 1))) (.var 1))]⟩
def fL:Fn:=⟨1,3,[.assign (.var 1) (.list []),.fors (.var 2) (.var 0) [.ifs (.and (.base (.cmp .NotEq (.var 1) (.list []))) (.base (.cmp .Eq (.sub (.sub (.var 1) (.neg (.int 1))) (.int 1)) (.bin .Sub (.var 2) (.int 1))))) [.assign (.sub (.var 1) (.neg (.int 1))) (.tup [(.sub (.sub (.var 1) (.neg (.int 1))) (.int 0)),(.var 2)])] [.expr (.meth (.var 1) "append" [(.tup [(.var 2),(.var 2)])])]],.ret (.call (.con (.type "tuple")) [(.var 1)])]⟩
def AI:Fn:=⟨1,3,[.assign (.var 1) (.list [(.tup [])]),.fors (.var 2) (.var 0) [.assign (.var 1) (.comp 3 (.var 1) (.var 4) [] [.mk (.var 2) (.var 5) []] (.bin .Add (.var 4) (.tup [(.var 5)])))],.ret (.var 1)]⟩
def BI:Fn:=⟨2,2,[.ret (.cmp .Eq (.comp 4 (.var 1) (.tup [3,4,5]) [(.not (.base (.cmp2 .LtE .LtE (.var 4) (.call (.con (.builtin "len")) [(.comp 2 (.var 0) (.var 7) [(.base (.cmp .Eq (.var 7) (.var 3)))] [] (.var 7))]) (.var 5))))] [] (.var 3)) (.list []))]⟩
def CI:Fn:=⟨2,5,[.assign (.var 2) (.call (.con (.ref 256)) []),.assign (.var 3) (.call (.con (.type "tuple")) [(.comp 2 (.var 0) (.var 6) [] [] (.meth (.var 2) "new_var" [(.call (.con (.ref 451)) [(.var 6)])]))]),.assign (.var 4) (.comp 2 (.call (.con (.type "range")) [(.int 3)]) (.var 6) [] [] (.call (.con (.type "tuple")) [(.comp 2 (.var 1) (.var 8) [] [] (.sub (.var 8) (.var 6)))])),.ret (.tup [(.var 2),(.call (.con (.ref 435)) [(.var 3),(.sub (.var 4) (.int 0)),(.sub (.var 4) (.int 1)),(.sub (.var 4) (.int 2))])])]⟩
def DI:Fn:=⟨1,1,[.ret (.comp 2 (.call (.con (.type "range")) [(.meth (.var 0) "size" [])]) (.var 2) [] [] (.comp 4 (.meth (.var 0) "dom" [(.var 2)]) (.tup [4,5]) [] [.mk (.call (.con (.type "range")) [(.var 4),(.bin .Add (.var 5) (.int 1))]) (.var 6) []] (.var 6)))]⟩
def GI:Fn:=⟨3,5,[.assign (.var 3) (.call (.con (.ref 471)) [(.var 0)]),.assign (.var 4) (.comp 2 (.var 2) (.var 6) [(.base (.cmp .Eq (.comp 2 (.call (.con (.type "range")) [(.call (.con (.builtin "len")) [(.var 6)])]) (.var 8) [(.base (.cmp .NotIn (.sub (.var 6) (.var 8)) (.sub (.var 3) (.var 8))))] [] (.var 8)) (.list [])))] [] (.var 6)),.ifs (.base (.cmp .IsNot (.meth (.var 1) "propagate" [(.var 0)]) (.cmp .NotEq (.var 4) (.list [])))) [.ret (.bool false)] [],.ifs (.base (.cmp .Eq (.var 4) (.list []))) [.ret (.attr (.var 0) "is_failed")] [],.ret (.cmp .Eq (.call (.con (.ref 471)) [(.var 0)]) (.comp 2 (.call (.con (.type "range")) [(.call (.con (.builtin "len")) [(.var 3)])]) (.var 6) [] [] (.call (.con (.builtin "sorted")) [(.call (.con (.type "set")) [(.comp 2 (.var 4) (.var 8) [] [] (.sub (.var 8) (.var 6)))])])))]⟩
def HI:Fn:=⟨1,16,[.assign (.var 1) (.dict [(.str "cells"),(.str "at")] [(.cut (.var 0) 16),(.int 0)]),.assign (.var 2) (.bin .Add (.int 1) (.call (.con (.ref 444)) [(.var 1),(.int 3)])),.assign (.var 3) (.comp 2 (.call (.con (.type "range")) [(.var 2)]) (.var 17) [] [] (.bin .Add (.int 1) (.call (.con (.ref 444)) [(.var 1),(.int 7)]))),.assign (.var 5) (.comp 2 (.var 3) (.var 17) [] [] (.comp 2 (.call (.con (.type "range")) [(.int 3)]) (.var 19) [(.base (.cmp .Eq (.bin .Mod (.bin .FloorDiv (.var 17) (.bin .Pow (.int 2) (.var 19))) (.int 2)) (.int 1)))] [] (.var 19))),.assign (.var 4) (.call (.con (.ref 444)) [(.var 1),(.int 3)]),.assign (.var 6) (.list []),.fors (.var 7) (.call (.con (.type "range")) [(.int 2)]) [.assign (.var 8) (.call (.con (.ref 444)) [(.var 1),(.int 3)]),.expr (.meth (.var 6) "append" [(.tup [(.var 4),(.var 8),(.bin .Add (.var 8) (.call (.con (.ref 444)) [(.var 1),(.int 3)]))])])],.assign (.var 9) (.list [(.tup [(.var 4),(.call (.con (.builtin "max")) [(.sub (.sub (.var 6) (.int 0)) (.int 1)),(.sub (.sub (.var 6) (.int 1)) (.int 1))]),(.call (.con (.builtin "min")) [(.sub (.sub (.var 6) (.int 0)) (.int 2)),(.sub (.sub (.var 6) (.int 1)) (.int 2))])])]),.ifs (.base (.cmp .Eq (.call (.con (.ref 444)) [(.var 1),(.int 2)]) (.int 1))) [.assign (.var 10) (.tup [(.bin .Mod (.bin .Add (.var 4) (.int 1)) (.int 3)),(.int 0),(.call (.con (.ref 444)) [(.var 1),(.int 3)])]),.expr (.meth (.var 6) "insert" [(.int 1),(.var 10)]),.expr (.meth (.var 9) "append" [(.var 10)])] [],.assign (.var 11) (.comp 2 (.call (.con (.ref 456)) [(.var 5)]) (.var 17) [(.base (.call (.con (.ref 461)) [(.var 17),(.var 6)]))] [] (.var 17)),.assign (.var 12) (.tup [(.call (.con (.ref 444)) [(.var 1),(.var 2)]),(.sub (.list [(.str "<="),(.str ">="),(.str "!="),(.str "=")]) (.call (.con (.ref 444)) [(.var 1),(.int 4)])),(.call (.con (.ref 444)) [(.var 1),(.int 3)])]),.fors (.var 13) (.tup [(.var 6),(.var 9)]) [.assign (.tup [(.var 14),(.var 15)]) (.call (.con (.ref 466)) [(.var 5),(.var 13)]),.ifs (.base (.cmp .NotEq (.meth (.var 15) "told" []) (.bin .Add (.tup [(.str "cardinality"),(.call (.con (.type "tuple")) [(.call (.con (.type "range")) [(.var 2)])])]) (.call (.con (.type "tuple")) [(.comp 2 (.call (.con (.type "range")) [(.int 3)]) (.var 17) [] [] (.call (.con (.type "tuple")) [(.comp 2 (.var 13) (.var 19) [] [] (.sub (.var 19) (.var 17)))]))])))) [.ret (.bool false)] [],.ifs (.base (.cmp .NotEq (.comp 2 (.call (.con (.ref 456)) [(.var 5)]) (.var 17) [(.base (.cmp .IsNot (.meth (.var 15) "check" [(.var 17)]) (.cmp .In (.var 17) (.var 11))))] [] (.var 17)) (.list []))) [.ret (.bool false)] [],.ifs (.not (.base (.call (.con (.ref 476)) [(.var 14),(.var 15),(.var 11)]))) [.ret (.bool false)] [],.ifs (.and (.not (.base (.attr (.var 14) "is_failed"))) (.base (.cmp .Eq (.meth (.var 14) "holds" [(.var 12)]) (.int 0)))) [.expr (.meth (.var 14) "push" []),.expr (.meth (.var 14) "decide" [(.var 12)]),.ifs (.not (.base (.call (.con (.ref 476)) [(.var 14),(.var 15),(.var 11)]))) [.ret (.bool false)] []] []],.ret (.bool true)]⟩
def BH:List (Nat×Fn):=[(28,AL),(35,BL),(40,CL),(47,DL),(54,EL),(61,FL),(66,GL),(71,HL),(78,IL),(85,JL),(92,KL),(99,LL),(106,dE),(120,ZH),(127,aI),(134,bI),(141,cI),(155,YK),(162,ZK),(169,dI),(183,aL),(190,eI),(197,fI),(204,lG),(211,gI),(218,iI),(225,jI),(232,kI),(274,lI),(288,bL),(295,cL),(309,eL),(323,mI),(328,pI),(335,qI),(342,tI),(349,uI),(354,vI),(377,wI),(384,mG),(389,eE),(396,fE),(401,nG),(408,xI),(413,yI),(418,oG),(425,pG),(432,zI),(444,gE),(451,fL),(456,AI),(461,BI),(466,CI),(471,DI),(476,GI),(481,HI)]
def yb (a:Nat):Option Fn:=BH.lookup a
def WJ:List (String×ya):=[("_wall",Ac 21),("least",Ac 28),("greatest",Ac 35),("size_domains",Ac 40),("next_from",Ac 47),("has_domains",Ac 54),("values",Ac 61),("up_to",Ac 66),("from_on",Ac 71),("without",Ac 78),("meet",Ac 85),("negation",Ac 92),("struck",Ac 99),("said_of",Ac 106),("Store",Ac 256),("Propagator",Ac 298),("standing",Ac 309),("Placing",Ac 357),("Cardinality",Ac 435),("_law_draw",Ac 444),("_law_domain",Ac 451),("_law_tuples",Ac 456),("_law_keeps",Ac 461),("_law_made",Ac 466),("_law_left",Ac 471),("_law_is_asked_right",Ac 476),
 ("len",cj "len"),("range",af "range"),("max",cj "max"),("min",cj "min"),("sum",cj "sum"),("tuple",af "tuple"),("list",af "list"),("set",af "set"),("sorted",cj "sorted"),("zip",af "zip"),("super",af "super")]
def kE:List (Rb×ya):=WJ.map λp=>(Jg p.1,p.2)
def gl:Gl:=⟨λx=>kE.lookup x,aa 274⟩
def dK:List (Nat×List (String×Nat)):=[(256,[("new_var",127),("size",134),("dom",141),("low",155),("high",162),("has",169),("value",183),("width",190),("holds",197),("enter",204),("strike",211),("decide",218),("fail",225),("push",232)]),(357,[("members_at",328),("place",335),("fill",342),("move_along",349),("reached",354)]),(435,[("want",384),("options_of",389),("propagate",396),("strike_once",401),("confined",408),("lacking",413),("strike_option",418),("check",425),("told",432)])]
def PJ:List (Nat×List String):=[(256,["domains","firsts","trail","marks","news","speaker","is_failed","clash"]),(357,["able","lows","highs","at","counts"]),(435,["number","scope","strength","taken","rows","wanted","lows","highs","has_twins"])]
def oE:List (Nat×Nat):=[(256,120),(357,323),(435,377)]
def cJ:List (Nat×Nat):=[(435,274)]
def FE:List (Nat×List (Rb×Nat)):=dK.map λp=>(p.1,p.2.map λq=>(Jg q.1,q.2))
def CD:List (Nat×List Rb):=PJ.map λp=>(p.1,p.2.map Jg)
def Ga (scr:Nat->Option (List Int)):gi where
 meth:=λc n=>match FE.lookup c with
  |some ms=>ms.lookup n
  |none=>ba
 init:=λc=>oE.lookup c
 attr:=λc n=>match CD.lookup c with
  |some ns=>ns.contains n
  |none=>false
 sup:=λc=>cJ.lookup c
 scr:=scr
def Lu:gi:=Ga λ_=>ba
end Mine
namespace Mine
def yB (as:List Qa) (h:Gb):Frag:=as.filterMap λa=>(h.get? a).map λo=>(a,o)
theorem et {h:Gb}:∀{as:List Qa},(yB as h).In h
 | [],a,o,e=>by cases e
 |b::as,a,o,e=>by
  unfold yB at e;rw[Fj]at e;cases q:h.get? b with
  |none=>rw[q]at e;exact et (as:=as) a o e
  |some x=>
   rw[q]at e;simp only[Se,Wd]at e
   split at e
   ·rename_i z;cases e;rw[beq_iff_eq.mp z];exact q
   ·exact et (as:=as) a o e
def pE (o:Option (Option ya)) (s:String):Bool:=match o with
 |some (aa (.builtin b))=>b==s
 |_=>false
def rE (o:Option (Option ya)) (a:Nat):Bool:=match o with
 |some (aa (.ref b))=>b==a
 |_=>false
def qE (o:Option (Option ya)):Bool:=match o with
 |some ba=>true
 |_=>false
def tE (o:Option ya) (s:String):Bool:=match o with
 |some (.type b)=>b==s
 |_=>false
theorem Aw {o s} (h:pE o s=true):o=aa (aa (.builtin s)):=by
 unfold pE at h;split at h
 ·rw[beq_iff_eq.mp h]
 ·cases h
theorem Dw {o a} (h:rE o a=true):o=aa (aa (.ref a)):=by
 unfold rE at h;split at h
 ·rw[beq_iff_eq.mp h]
 ·cases h
theorem Cw {o} (h:qE o=true):o=aa ba:=by
 unfold qE at h;split at h
 ·rfl
 ·cases h
theorem Fw {o s} (h:tE o s=true):o=aa (.type s):=by
 unfold tE at h;split at h
 ·rw[beq_iff_eq.mp h]
 ·cases h
def aw (K:Frag) (c:Nat) (n:Rb):Bool:=
 pE (findIn K (.ref c) "__getattribute__") "object.__getattribute__"&&hasDictIn K c&&(match findIn K (.ref c) n with|some a=>noGet K a|none=>false)
 &&pE (findIn K (.ref c) "__setattr__") "object.__setattr__"&&plainOver K c&&qE (takerIn K c n)
def DB (K:Frag) (c:Nat) (nm:Rb) (f:Nat):Bool:=
 pE (findIn K (.ref c) "__getattribute__") "object.__getattribute__"&&qE (findIn K (.ref c) "__getattr__")&&rE (findIn K (.ref c) nm) f&&tE (typeIn K (.ref f)) "function"&&keepIn K (.ref f)
def vB (K:Frag) (c f:Nat):Bool:=makesIn K c&&rE (findIn K (.ref c) "__init__") f&&tE (typeIn K (.ref f)) "function"
def KC (K:Frag) (a:Nat):Option (Array DictEntry):=match K.lookup a with
 |some ⟨_,_,.dict es _,_⟩=>if es.toList.all (λe=>match e.key with| .str _ _=>true|_=>false)then aa es else ba
 |_=>ba
theorem Mr {K:Frag} {h:Gb} (x:K.In h) {a:Nat} {es:Array DictEntry} (e:KC K a=aa es):h.Ns a (nsFind es):=by
 unfold KC at e
 split at e
 ·rename_i q
  split at e<;>cases e
  rename_i z;refine⟨_,_,_,x _ _ q,rfl,λd hd=> ?_,λ_=>rfl⟩;have:=Jb.mp z d (by simpa using hd)
  split at this
  ·rename_i k t hk;exact⟨k,t,hk⟩
  ·cases this
 ·cases e
def eB (K:Frag) (x:Rb) (v:ya):Bool:=dy K v&&(match KC K mainGlobals,KC K builtinsNs with
 |some es,aa eb=>decide (nsFind es x=aa v)||(decide (nsFind es x=ba)&&decide (nsFind eb x=aa v))
 |_,_=>false)
def wC (K:Frag) (a:Nat):Option FuncData:=match K.lookup a with
 |some ⟨_,_,.func fd,_⟩=>aa fd
 |_=>ba
def QA (K:Frag) (fd:FuncData):Bool:=match fd.code with
 | .ref c=>match K.lookup c with
  |some ⟨_,_,.fields vs,_⟩=>match(vs[1]? :Option ya)with
   |some (.str q _)=>q==fd.qualname
   |_=>false
  |_=>false
 |_=>false
def JD (K:Frag) (c:Nat):Bool:=match K.lookup c with
 |some ⟨_,_,.cell _,_⟩=>true
 |_=>false
def AH (K:Frag) (a:Nat):Bool:=match wC K a with
 |some fd=>QA K fd&&fd.closure.all λp=>JD K p.2
 |none=>false
def kF (K:Frag) (D:Nat) (c f:Nat):Bool:=(match mroIn K c (.ref D)with|some b=>b|none=>false)&&rE (ks_superIn K c D "__init__") f&&tE (typeIn K (.ref f)) "function"&&fnIn K f
def Pt (K:Frag) (g:Gl) (D:Nat) (fd:FuncData):Bool:=
 (match g.glob "super"with|some (.type t)=>t=="super"|_=>false)&&decide (fd.scope.names.lookup ("super":Rb)=aa .globalImplicit)&&decide (fd.scope.names.lookup ("__class__":Rb)=aa .free)
 &&(match(fd.params.posonlyargs++fd.params.args).head? with|some ar=>decide (fd.scope.names.lookup ar.arg=aa .local)&&decide (Jc (Kg fd).sl ar.arg=aa 0)|none=>false)
 &&(match fd.code with
  | .ref c=>match K.lookup c with
   |some ⟨_,_,.fields vs,_⟩=>match(vs[2]? :Option ya)with
    |some (.str file _)=>pg.main.file==file
    |_=>false
   |_=>false
  |_=>false)
 && !(pg.main.scope.names.lookup ("super":Rb)).isSome
 &&(match fd.closure.lookup ("__class__":Rb)with
  |some c=>match K.lookup c with
   |some ⟨_,_,.cell (aa (.ref d)),_⟩=>d==D
   |_=>false
  |none=>false)
def cH (K:Frag) (a:Nat):Option Fn:=(wC K a).bind λfd=>match gJ gl fd with
 |some fn=>aa fn
 |none=>if Pt K gl 435 fd then RB gl fd else ba
def ay (K:Frag):Bool:=
 CD.all (λp=>p.2.all λn=>aw K p.1 n)&&FE.all (λp=>p.2.all λq=>DB K p.1 q.1 q.2)&&oE.all (λp=>vB K p.1 p.2)
 &&kE.all (λp=>eB K p.1 p.2)&&BH.all (λp=>AH K p.1)
 &&(K.lookup sysModules).isSome&&(match KC K cStatics with|some es=>decide (nsFind es "sys.recursionlimit"=ba)|none=>false)
 &&cJ.all (λp=>kF K 435 p.1 p.2)&&(clsIn K 435).isSome&&qE (nsIn K cStatics "thirdparty.any")
 &&(match KC K mainGlobals with|some es=>decide (nsFind es "law"=aa (.ref 481))|none=>false)
theorem wg {α β:Type} [BEq α] [LawfulBEq α]:∀{l:List (α×β)} {a:α} {b:β},l.lookup a=aa b->(a,b)∈l
 |(k,v)::r,a,b,h=>by
  rw[Wd]at h
  split at h
  ·rename_i q;cases h;rw[beq_iff_eq.mp q];exact Ma
  ·exact Ia _ (wg h)
section
variable {K:Frag} {hb:Gb} {scr:Nat->Option (List Int)}
structure tm (K:Frag):Prop where
 chk:ay K=true
 fns:(BH.map λp=>cH K p.1)=BH.map λp=>aa p.2
theorem Qv {c:Nat} {n:Rb} (h:(Ga scr).attr c n=true):∃ns,(c,ns)∈CD/\n∈ns:=by
 simp only[Ga]at h
 split at h
 ·rename_i ns q;exact⟨ns,wg q,by simpa using h⟩
 ·cases h
theorem YC {c:Nat} {n:Rb} {f:Nat} (h:(Ga scr).meth c n=aa f):∃ns,(c,ns)∈FE/\(n,f)∈ns:=by
 simp only[Ga]at h
 split at h
 ·rename_i ns q;exact⟨ns,wg q,wg h⟩
 ·cases h
theorem ZF (x:K.In hb) (F:tm K) (hs:∀a xs,scr a=aa xs->xs.length<=4096/\∃vs,hb.IsList a vs.toArray/\IntsAre vs xs):gm hb K (Ga scr):=by
 have C:=F.chk;unfold ay at C;simp only[La,Jb]at C;obtain⟨⟨⟨⟨⟨⟨⟨⟨⟨⟨c1,c2⟩,c3⟩,c4⟩,c5⟩,c6⟩,c7⟩,c8⟩,c9⟩,c10⟩,c11⟩:=C;refine⟨x,λc n h=> ?_,λc n h=> ?_,?_,?_,hs⟩
 ·obtain⟨ns,m1,m2⟩:=Qv h
  have q:=c1 _ m1 _ m2;unfold aw at q;simp only[La]at q;obtain⟨⟨⟨⟨⟨q1,q2⟩,q3⟩,q4⟩,q5⟩,q6⟩:=q;refine⟨Aw q1,q2,?_⟩
  split at q3
  ·rename_i a e;exact⟨a,e,q3⟩
  ·cases q3
 ·obtain⟨ns,m1,m2⟩:=Qv h
  have q:=c1 _ m1 _ m2;unfold aw at q;simp only[La]at q;obtain⟨⟨⟨⟨⟨q1,q2⟩,q3⟩,q4⟩,q5⟩,q6⟩:=q;exact⟨Aw q4,q5,Cw q6⟩
 ·obtain⟨o,e⟩:=Ta.mp c6
  rw[x _ _ e];simp
 ·split at c7
  ·rename_i es e;exact⟨_,Mr x e,by simpa using c7⟩
  ·cases c7
theorem RH (F:tm K):Fq hb K (Ga scr):=by
 have C:=F.chk;unfold ay at C;simp only[La,Jb]at C;obtain⟨⟨⟨⟨⟨⟨⟨⟨⟨⟨c1,c2⟩,c3⟩,c4⟩,c5⟩,c6⟩,c7⟩,c8⟩,c9⟩,c10⟩,c11⟩:=C;refine⟨λc nm f h=> ?_,λc f h=> ?_⟩
 ·obtain⟨ns,m1,m2⟩:=YC h
  have q:=c2 _ m1 _ m2;unfold DB at q;simp only[La]at q;obtain⟨⟨⟨⟨q1,q2⟩,q3⟩,q4⟩,q5⟩:=q;exact⟨Aw q1,Cw q2,Dw q3,Fw q4,q5⟩
 ·have q:=c3 _ (wg (h:oE.lookup c=aa f))
  unfold vB at q;simp only[La]at q;obtain⟨⟨q1,q2⟩,q3⟩:=q;exact⟨q1,Dw q2,Fw q3⟩
theorem VJ (x:K.In hb) (F:tm K):Wv hb K gl:=by
 have C:=F.chk;unfold ay at C;simp only[La,Jb]at C;obtain⟨⟨⟨⟨⟨⟨⟨⟨⟨⟨c1,c2⟩,c3⟩,c4⟩,c5⟩,c6⟩,c7⟩,c8⟩,c9⟩,c10⟩,c11⟩:=C;refine⟨λn v h=> ?_⟩;have q:=c4 _ (wg (h:kE.lookup n=aa v));unfold eB at q;simp only[La]at q;refine⟨q.1,?_⟩;have q2:=q.2
 split at q2
 ·rename_i es eb e1 e2
  refine⟨_,Mr x e1,?_⟩;simp only[xj,La,decide_eq_true_eq]at q2;rcases q2 with q|⟨q,q'⟩
  ·exact .inl q
  ·exact .inr ⟨q,_,Mr x e2,q'⟩
 ·cases q2
theorem dJ (F:tm K):tx hb K (Ga scr) 435:=by
 have C:=F.chk;unfold ay at C;simp only[La,Jb]at C;obtain⟨⟨⟨⟨⟨⟨⟨⟨⟨⟨c1,c2⟩,c3⟩,c4⟩,c5⟩,c6⟩,c7⟩,c8⟩,c9⟩,c10⟩,c11⟩:=C;refine⟨Ta.mp c9,Cw c10,λc f h=> ?_⟩;have q:=c8 _ (wg (h:cJ.lookup c=aa f));unfold kF at q;simp only[La]at q;obtain⟨⟨⟨q1,q2⟩,q3⟩,q4⟩:=q;refine⟨?_,Dw q2,Fw q3,q4⟩
 split at q1
 ·rename_i b e;rw[e,q1]
 ·cases q1
theorem BE {α β:Type} {f g:α->β}:∀{l:List α},l.map f=l.map g->∀a∈l,f a=g a
 |x::l,h,a,ha=>by
  simp only[sa,Jf]at h;rcases Fa.mp ha with q|q
  ·subst q;exact h.1
  ·exact BE h.2 a q
theorem bB (x:K.In hb) {a:Nat} {fd:FuncData} (e:wC K a=aa fd):∃o,hb.get? a=aa o/\o.data=.func fd:=by
 unfold wC at e
 split at e
 ·rename_i q;cases e;exact⟨_,x _ _ q,rfl⟩
 ·cases e
theorem mF (x:K.In hb) {a:Nat} {fd:FuncData} (e:wC K a=aa fd) (h:Pt K gl 435 fd=true):KA hb gl a fd 435:=by
 unfold Pt at h;simp only[La,decide_eq_true_eq]at h;obtain⟨⟨⟨⟨⟨⟨h1,h2⟩,h3⟩,h4⟩,h5⟩,h6⟩,h7⟩:=h;refine⟨?_,h2,h3,?_,bB x e,?_,by simpa using h6,?_⟩
 ·split at h1
  ·rename_i t q;rw[q,beq_iff_eq.mp h1]
  ·cases h1
 ·split at h4
  ·rename_i ar q
   simp only[La,decide_eq_true_eq]at h4;exact⟨ar,q,h4.1,h4.2⟩
  ·cases h4
 ·split at h5<;>try (cases h5;done)
  rename_i c hc
  split at h5<;>try (cases h5;done)
  rename_i q
  split at h5<;>try (cases h5;done)
  rename_i q2;exact⟨c,_,_,_,_,hc,x _ _ q,rfl,q2,h5⟩
 ·split at h7<;>try (cases h7;done)
  rename_i c hc
  split at h7<;>try (cases h7;done)
  rename_i q;exact⟨c,hc,_,x _ _ q,by rw[beq_iff_eq.mp h7]⟩
theorem JI (x:K.In hb) (F:tm K):qD hb gl yb 435:=by
 have C:=F.chk;unfold ay at C;simp only[La,Jb]at C;obtain⟨⟨⟨⟨⟨⟨⟨⟨⟨⟨c1,c2⟩,c3⟩,c4⟩,c5⟩,c6⟩,c7⟩,c8⟩,c9⟩,c10⟩,c11⟩:=C;intro a fn h;have hm:=wg (h:BH.lookup a=aa fn);have ht:cH K a=aa fn:=BE F.fns _ hm;have hc:=c5 _ hm;unfold AH at hc;unfold cH at ht;cases e:wC K a with
 |none=>rw[e]at ht;cases ht
 |some fd=>
  rw[e]at ht;simp only[e,La,Jb]at hc;obtain⟨o,ho,hd⟩:=bB x e;refine⟨o,fd,ho,hd,?_,?_,λn c hl=> ?_⟩
  ·have:=hc.1
   unfold QA at this
   split at this<;>try (cases this;done)
   rename_i c hc'
   split at this<;>try (cases this;done)
   rename_i q
   split at this<;>try (cases this;done)
   rename_i q2;exact⟨c,_,_,_,hc',x _ _ q,rfl,by rw[q2,beq_iff_eq.mp this]⟩
  ·simp only[Lq]at ht
   split at ht
   ·rename_i fn' q;cases ht;exact .inl q
   ·split at ht
    ·rename_i q;exact .inr ⟨ht,mF x e q⟩
    ·cases ht
  ·have:=hc.2 _ (wg hl)
   unfold JD at this
   split at this<;>try (cases this;done)
   rename_i q;exact⟨_,_,x _ _ q,rfl⟩
theorem MI (x:K.In hb) (F:tm K) {mg:Rb->Option ya} (hg:hb.Ns mainGlobals mg):mg "law"=aa (.ref 481):=by
 have C:=F.chk;unfold ay at C;simp only[La,Jb]at C;obtain⟨⟨⟨⟨⟨⟨⟨⟨⟨⟨c1,c2⟩,c3⟩,c4⟩,c5⟩,c6⟩,c7⟩,c8⟩,c9⟩,c10⟩,c11⟩:=C
 split at c11
 ·rename_i es e
  obtain⟨o,es',ep,e1,e2,e3,e4⟩:=Mr x e;obtain⟨p,fs,eq,f1,f2,f3,f4⟩:=hg;rw[e1]at f1;cases f1;rw[e2]at f2;cases f2;rw[<-f4,e4]
  simpa using c11
 ·cases c11
end
end Mine
set_option maxHeartbeats 0
namespace Mine
theorem Wz {p q:Program} {loose:List Rb} {Xt:Sa->Bool} {α:Type} {Yf:Sa->α} {Ya:Lb->α} {N:Nat} {g0:Bool} {H₀:Params->Gb} {gs₀:Array GenState} {d₀:Drawn} {k₀ m₀ n:Nat} {ann:Option ya} {T:Params->BT} {life:Life}
 (open_:∀w:Lb,(fencedOpening treeTable p w N).map (λs=>(s.heap,s.gens,s.drawn,s.toks))=aa (H₀ w.params,gs₀,d₀,k₀))
 (hT:∀w:Lb,absHeap (T w.params) n life=H₀ w.params)
 (size:∀w:Lb,((H₀ w.params).isNs mainGlobals&&gs₀.size==0,(H₀ w.params).objs.size,(H₀ w.params).nsMap mainGlobals "__annotations__")=(true,m₀,ann))
 (chk:∀w:Lb,(λos=>(bn treeTable p w m₀ ann N ⟨T w.params,n,life,gs₀,d₀,k₀,os⟩ (topStub p)).map (λs=>
  ((staticsOk (importedModules p.main.body) (H₀ w.params) s.abs.heap&&namesBound p s.abs.heap&&gensDone s.abs&&laidKept (H₀ w.params) s.abs.heap),
   openSeen q loose (importedModules p.main.body) Xt g0 s.abs,Yf s.abs)))=λ_=>aa (true,openGood q loose,Ya w)):
 LeftO p q loose Xt Yf Ya N g0:=λw=>by
 obtain⟨⟨h,gs,d,k,os⟩,e,e'⟩:=gx.mp (open_ w);obtain⟨rfl,rfl,rfl,rfl⟩:h=H₀ w.params/\gs=gs₀/\d=d₀/\k=k₀:=by simpa using e'
 obtain⟨z1,z2,z3⟩:_/\_/\_:=by simpa only[Ak]using size w
 obtain⟨s',hr,hl⟩:=gx.mp (congrFun (chk w) os);obtain⟨l1,l2,l3⟩:_/\_/\_:=by simpa only[Ak]using hl
 have r:=Rv hr;have hs:(SharedT.abs ⟨T w.params,n,life,gs,d,k,os⟩)=⟨H₀ w.params,gs,d,k,os⟩:=by
  show Sa.mk _ _ _ _ _=_
  rw[hT w]
 rw[hs]at r;have t:topFrom treeTable p w N ⟨H₀ w.params,gs,d,k,os⟩=aa s'.abs:=by
  unfold topFrom
  dsimp only
  rw[z1,z2,z3,r]
  show(match staticsOk (importedModules p.main.body) (H₀ w.params) s'.abs.heap&&namesBound p s'.abs.heap&&gensDone s'.abs&&laidKept (H₀ w.params) s'.abs.heap with|true=>_|false=>_)=_
  rw[l1]
 unfold openEnds;rw[e]
 show(topFrom treeTable p w N _).map _=_
 rw[t];exact congrArg aa (Prod.ext l2 l3)
def nL:List Qa:=builtinsNs::cStatics::mainGlobals::sysModules::365::21::20::([256,298,357,435,255,297,356,434]++BH.flatMap λp=>[p.1,p.1 - 1])
def Kj:Hook where
 α:=Bool×List (Option Fn)
 obs:=λs=>(ay (yB nL s.heap),BH.map λp=>cH (yB nL s.heap) p.1)
 val:=λ_=>(true,BH.map λp=>aa p.2)
 says:=λ_ h=>∃K:Frag,K.In h/\tm K
 of:=λ_ s e=>⟨_,et,⟨congrArg Prod.fst e,congrArg Prod.snd e⟩⟩
 keeps:=λ_ _ _ ⟨K,x,f⟩ k=>⟨K,x.keeps k,f⟩
theorem ML:∀w:Lb,(fencedOpening treeTable P0 w 6000).map (λs=>(s.heap,s.gens,s.drawn,s.toks))=aa (boot_heap w.params,JF [],boot_drawn,boot_toks):=
 boot_open (by rfl) (by rfl) (λs=>by rfl)
theorem HD (w:Lb):absHeap (pH w.params) 11 {}=boot_heap w.params:=by kernel_rfl!
theorem eC (w:Lb):((boot_heap w.params).isNs mainGlobals&&(JF ([]:List GenState)).size==0,(boot_heap w.params).objs.size,(boot_heap w.params).nsMap mainGlobals "__annotations__")=(true,11,aa (.ref 6)):=by kernel_rfl!
theorem SK (w:Lb):(λos=>(Sr treeTable P0 w 11 (aa (.ref 6)) 6000 ⟨pH w.params,11,{},JF [],boot_drawn,boot_toks,os⟩ (topStub P0)).map (λs=>
 ((staticsOk (importedModules P0.main.body) (boot_heap w.params) s.abs.heap&&namesBound P0 s.abs.heap&&gensDone s.abs&&laidKept (boot_heap w.params) s.abs.heap),
  DK qv qq (importedModules P0.main.body) (λs=>xlAt qv [] s&&recOk (dz Hu.toRowW) s) true s.abs,(kH Kj) s.abs)))=λ_=>aa (true,openGood qv qq,(lH Kj) w):=by kernel_rfl!
theorem bK:LeftO P0 qv qq (λs=>xlAt qv [] s&&recOk (dz Hu.toRowW) s) (kH Kj) (lH Kj) 6000:=by
 refine Wz ML HD eC (λw=> ?_);have:=SK w;simp only[<-Tt,<-yK]at this;exact this
end Mine
set_option maxHeartbeats 200000
namespace Mine
section
variable {prog:Program} {w:Lb} {A:lc} {E:ya->Sa->Prop} {s:Sa}
theorem si {it t:Qa} {i:Nat} {items} {x:ya} {Q:ya->Sa->Prop} (ao:s.heap.IsTupleIter it t i)
 (ht:s.heap.IsTuple t items) (hx:items[i]? =aa x)
 (hQ:∀h',h'.IsTupleIter it t (i+1)->Hg it s.heap h'->Q x {s with heap:=h'}):
 Wa (Fb prog w) A (md (.ref it)) Q E s:=by
 obtain⟨o,ho,hc,hd⟩:=id ao;obtain⟨ol,Jr,_,nl,hdl⟩:=ht;unfold md;refine ia (wpAny_callSpecial?_slot (name:=Jg "__next__") ao.typeIs Pf
  (wpAny_call_entry Pf ao.typeIs Jo ?_ (Qn _)))
 show Wa _ _ (field (.ref it) 0>>=_) _ _ s
 refine ia (wpAny_field ho hd (x:=.ref t) rfl ?_)
 show Wa _ _ (if(Ac t==zg)=true then _ else _) _ _ s
 rw[if_neg (show¬((Ac t==zg)=true)from ke)]
 show Wa _ _ (field (.ref it) 1>>=_) _ _ s
 refine ia (wpAny_field ho hd (x:=.int i 0) rfl ?_)
 show Wa _ _ (seqItems? (.ref t)>>=_) _ _ s
 refine ia (wpAny_seqItems Jr hdl ?_);simp only[ze,hx];refine ia (wpAny_setField ho hd (by simp) (Ba ⟨x,rfl,Ba (hQ _ ?_ (pe ..))⟩));exact⟨_,qd _ ho (bj (ef hd _)),(lr ..).trans hc,by
  rw[ef hd];simp[rawInt]⟩
theorem uq {it t:Qa} {i:Nat} {items} {Q:ya->Sa->Prop} (hh:A.handled=ba)
 (ao:s.heap.IsTupleIter it t i) (ht:s.heap.IsTuple t items) (hx:items[i]? =ba)
 (hE:∀h' e,CA it s.heap h'->(∃o,h'.get? e=aa o/\o.cls=.type "StopIteration")->E (.ref e) {s with heap:=h'}):
 Wa (Fb prog w) A (md (.ref it)) Q E s:=by
 obtain⟨o,ho,hc,hd⟩:=id ao;obtain⟨ol,Jr,_,nl,hdl⟩:=ht;unfold md;refine ia (wpAny_callSpecial?_slot (name:=Jg "__next__") ao.typeIs Pf
  (wpAny_call_entry Pf ao.typeIs Jo ?_ (Qn _)))
 show Wa _ _ (field (.ref it) 0>>=_) _ _ s
 refine ia (wpAny_field ho hd (x:=.ref t) rfl ?_)
 show Wa _ _ (if(Ac t==zg)=true then _ else _) _ _ s
 rw[if_neg (show¬((Ac t==zg)=true)from ke)]
 show Wa _ _ (field (.ref it) 1>>=_) _ _ s
 refine ia (wpAny_field ho hd (x:=.int i 0) rfl ?_)
 show Wa _ _ (seqItems? (.ref t)>>=_) _ _ s
 refine ia (wpAny_seqItems Jr hdl ?_);simp only[ze,hx];refine ia (wpAny_rule (ia (wpAny_setField ho hd (by simp) ?_)))
 show Wa _ _ (newExc (.type "StopIteration") []>>=_) _ _ _
 refine ia ?_;simp only[newExc,newTuple];refine ia (wpAny_newObj_type ?_ (by size_fits));refine ia (m:=firstArgMember _ _) (wpAny_of_eq (a:=zg) (by first|rfl|(simp only[firstArgMember];rfl)) ?_);refine wpAny_newObj_type ?_ (by size_fits);simp only[raiseNew];refine ia (wpAny_handled ?_)
 first|rw[show A.in1.handled=ba from hh]|rw[hh]
 refine ia (Ba (wpAny_throw ?_));exact hE _ _ (((pe ..).extBut.push _).push _) ⟨_,Pa _ rfl,rfl⟩
abbrev mD (h:Gb) (T:Qa) (a b c:ya):Prop:=h.get? T=aa {cls:=.type "tuple",data:=.seq #[a,b,c]}
theorem Gk {T:Qa} {a b c x:ya} {k:Nat} {Q:Unit->Sa->Prop} (hT:mD s.heap T a b c)
 (h:∀h',h'.get? T=aa {cls:=.type "tuple",data:=.seq ((#[a,b,c]:Array ya).setIfInBounds k x)}->Hg T s.heap h'->Q () {s with heap:=h'}):
 Wa (Fb prog w) A (updateSeq T (·.setIfInBounds k x)) Q E s:=by
 refine wpAny_updateSeq hT rfl (h _ ?_ (pe ..));rw[qd _ hT rfl];simp[gj]
structure ym (h:Gb) (b t1 t2 t3:Nat) (f0:ya) (xs ys zs:Array ya) (i1 i2 i3:Nat):Prop where
 z:IsZip h (b+5) (b+3) (b+4) f0
 ti:mD h (b+3) (.ref b) (.ref (b+1)) (.ref (b+2))
 to_:∃u v x,mD h (b+4) u v x
 a1:h.IsTupleIter b t1 i1
 a2:h.IsTupleIter (b+1) t2 i2
 a3:h.IsTupleIter (b+2) t3 i3
 l1:h.IsTuple t1 xs
 l2:h.IsTuple t2 ys
 l3:h.IsTuple t3 zs
 d1:t1<b
 d2:t2<b
 d3:t3<b
theorem ji {a b:Nat} (h:a≠b):(show Qa from a)≠(show Qa from b):=h
def Ql (b a:Nat):Prop:=a=b\/a=b+1\/a=b+2\/a=b+4\/a=b+5
theorem nz {b a:Nat} (h:¬Ql b a):¬Ql b a:=h
theorem cD {b t1 t2 t3:Nat} {i:Nat} {xs ys zs:Array ya} {x y zv:ya} {f0:ya} {Q:ya->Sa->Prop} (Z:ym s.heap b t1 t2 t3 .none xs ys zs i i i) (hx:xs[i]? =aa x) (hy:ys[i]? =aa y) (hz:zs[i]? =aa zv)
 (hQ:∀h',ym h' b t1 t2 t3 (rawInt s.heap.objs.size) xs ys zs (i+1) (i+1) (i+1)->mD h' s.heap.objs.size x y zv->(∀(c:Nat) o,¬Ql b c->s.heap.get? c=aa o->h'.get? c=aa o)->Q (.ref s.heap.objs.size) {s with heap:=h'}):
 Wa (Fb prog w) A (Builtin.«zip.__next__» ⟨[.ref (b+5)],[]⟩) (λfin s'=>∃v,fin=.done (.ret v)/\Q v s') E s:=by
 obtain⟨hzz,hti,⟨u,v,t,hto⟩,h1,h2,h3,ku,jx,hl3,d1,d2,d3⟩:=Z
 show Wa _ _ (field (.ref (b+5)) 2>>=_) _ _ _
 refine ia (wpAny_field hzz rfl (x:=.bool false) rfl ?_)
 show Wa _ _ (field (.ref (b+5)) 3>>=_) _ _ _
 refine ia (wpAny_field hzz rfl (x:=.ref (b+3)) rfl ?_);refine ia (wpAny_seqItems hti rfl ?_)
 show Wa _ _ (Ze (.ref (b+5))>>=_) _ _ _
 refine ia ?_;unfold Ze;refine ia (wpAny_field hzz rfl (x:=.none) rfl (Ba ?_));simp only[if_true];refine ia (wpAny_rule ?_);refine ia (wpAny_field hzz rfl (x:=.ref (b+4)) rfl ?_);refine ia (wpAny_setField_rec hzz (by simp) λg1 hz1 rB=> ?_)
 replace hz1:IsZip g1 (b+5) (b+3) (b+4) .ellipsis:=hz1
 refine ia ?_;simp only[FF,TF,Aj,Bi];refine ia (ia (wpAny_onRaise ?_))
 show Wa _ _ (md (.ref b)>>=_) _ _ _
 have F1:∀(c:Nat) o,c≠b+5->s.heap.get? c=aa o->g1.get? c=aa o:=λc o n e=>rB.extBut _ _ n e;refine ia (si (h1.extBut rB.extBut (ji (by omega))) (ku.extBut rB.extBut (ji (by omega))) hx λg2 q2 hs2=>Ba ?_);have F2:∀(c:Nat) o,c≠b+5->c≠b->s.heap.get? c=aa o->g2.get? c=aa o:=λc o n m e=>hs2.extBut _ _ m (F1 c o n e);have to2:mD g2 (b+4) u v t:=F2 _ _ (ji (by omega)) (ji (by omega)) hto;refine ia (wpAny_seqItems to2 rfl ?_);refine ia (Gk to2 λg3 to3 sB=> ?_)
 replace to3:mD g3 (b+4) x v t:=to3
 refine ia (wpAny_letGo (Ba ?_));have F3:∀(c:Nat) o,c≠b+5->c≠b->c≠b+4->s.heap.get? c=aa o->g3.get? c=aa o:=λc o n m k e=>sB.extBut _ _ k (F2 c o n m e);refine ia (ia (wpAny_onRaise ?_))
 show Wa _ _ (md (.ref (b+1))>>=_) _ _ _
 refine ia (si (((h2.extBut rB.extBut (ji (by omega))).extBut hs2.extBut (ji (by omega))).extBut sB.extBut (ji (by omega))) (((jx.extBut rB.extBut (ji (by omega))).extBut hs2.extBut (ji (by omega))).extBut sB.extBut (ji (by omega))) hy λg4 q4 hs4=>Ba ?_);have to4:mD g4 (b+4) x v t:=hs4.extBut _ _ (ji (by omega)) to3;refine ia (wpAny_seqItems to4 rfl ?_);refine ia (Gk to4 λg5 to5 hs5=> ?_)
 replace to5:mD g5 (b+4) x y t:=to5
 refine ia (wpAny_letGo (Ba ?_));have F5:∀(c:Nat) o,c≠b+5->c≠b->c≠b+1->c≠b+4->s.heap.get? c=aa o->g5.get? c=aa o:=λc o n m m2 k e=>hs5.extBut _ _ k (hs4.extBut _ _ m2 (F3 c o n m k e));refine ia (ia (wpAny_onRaise ?_))
 show Wa _ _ (md (.ref (b+2))>>=_) _ _ _
 refine ia (si (((((h3.extBut rB.extBut (ji (by omega))).extBut hs2.extBut (ji (by omega))).extBut sB.extBut (ji (by omega))).extBut hs4.extBut (ji (by omega))).extBut hs5.extBut (ji (by omega))) (((((hl3.extBut rB.extBut (ji (by omega))).extBut hs2.extBut (ji (by omega))).extBut sB.extBut (ji (by omega))).extBut hs4.extBut (ji (by omega))).extBut hs5.extBut (ji (by omega))) hz λg6 q6 hs6=>Ba ?_);have to6:mD g6 (b+4) x y t:=hs6.extBut _ _ (ji (by omega)) to5;refine ia (wpAny_seqItems to6 rfl ?_);refine ia (Gk to6 λg7 to7 hs7=> ?_)
 replace to7:mD g7 (b+4) x y zv:=to7
 refine ia (wpAny_letGo (Ba (Ba ?_)));have F7:∀(c:Nat) o,¬Ql b c->s.heap.get? c=aa o->g7.get? c=aa o:=λ(c:Nat) o n e=>by
  unfold Ql at n;exact hs7.extBut _ _ (ji (by omega)) (hs6.extBut _ _ (ji (by omega)) (F5 c o (ji (by omega)) (ji (by omega)) (ji (by omega)) (ji (by omega)) e))
 refine ia (wpAny_seqItems to7 rfl ?_);refine ia (wpAny_newTuple ?_);have hsz:g7.objs.size=s.heap.objs.size:=by rw[hs7.1,hs6.1,hs5.1,hs4.1,sB.1,hs2.1,rB.1]
 have hz7:IsZip g7 (b+5) (b+3) (b+4) .ellipsis:=hs7.extBut _ _ (ji (by omega)) (hs6.extBut _ _ (ji (by omega)) (hs5.extBut _ _ (ji (by omega)) (hs4.extBut _ _ (ji (by omega)) (sB.extBut _ _ (ji (by omega)) (hs2.extBut _ _ (ji (by omega)) hz1)))));have q27:g7.IsTupleIter b t1 (i+1):=((((q2.extBut sB.extBut (ji (by omega))).extBut hs4.extBut (ji (by omega))).extBut hs5.extBut (ji (by omega))).extBut hs6.extBut (ji (by omega))).extBut hs7.extBut (ji (by omega));have q47:g7.IsTupleIter (b+1) t2 (i+1):=((q4.extBut hs5.extBut (ji (by omega))).extBut hs6.extBut (ji (by omega))).extBut hs7.extBut (ji (by omega));have q67:g7.IsTupleIter (b+2) t3 (i+1):=q6.extBut hs7.extBut (ji (by omega));have hzlt:b+5<g7.objs.size:=Wb hz7
 show Wa _ _ (ck (.ref (b+5)) (.ref g7.objs.size)>>=_) _ _ _
 refine ia ?_;unfold ck;have hz8:IsZip (g7.push {cls:=.type "tuple",data:=.seq #[x,y,zv]}) (b+5) (b+3) (b+4) .ellipsis:=Da _ hz7;refine ia (wpAny_setField_rec hz8 (by simp) λg9 hz9 hs9=> ?_)
 replace hz9:IsZip g9 (b+5) (b+3) (b+4) (rawInt g7.objs.size):=hz9
 refine wpAny_setField_rec hz9 (by simp) λg10 hz10 hs10=> ?_
 replace hz10:IsZip g10 (b+5) (b+3) (b+4) (rawInt g7.objs.size):=hz10
 have up:∀(c:Nat) o,c≠b+5->g7.get? c=aa o->g10.get? c=aa o:=λc o c1 e=>hs10.extBut _ _ c1 (hs9.extBut _ _ c1 (Da _ e));have hT:mD g10 g7.objs.size x y zv:=hs10.extBut _ _ (Ii hzlt) (hs9.extBut _ _ (Ii hzlt) (Pa _ rfl));rw[hsz]at hz10 hT;refine Ba ⟨_,rfl,?_⟩
 show Q (.ref g7.objs.size) _
 rw[hsz];refine hQ g10 ⟨hz10,up _ _ (ji (by omega)) (F7 _ _ (nz (by unfold Ql;omega)) hti),⟨_,_,_,up _ _ (ji (by omega)) to7⟩,?_,?_,?_,?_,?_,?_,d1,d2,d3⟩ hT λc o n e=>up c o (ji (by unfold Ql at n;omega)) (F7 c o n e)
 ·obtain⟨o,e,r⟩:=q27;exact⟨o,up _ _ (ji (by omega)) e,r⟩
 ·obtain⟨o,e,r⟩:=q47;exact⟨o,up _ _ (ji (by omega)) e,r⟩
 ·obtain⟨o,e,r⟩:=q67;exact⟨o,up _ _ (ji (by omega)) e,r⟩
 ·obtain⟨o,e,r⟩:=ku;exact⟨o,up _ _ (ji (by omega)) (F7 _ _ (nz (by unfold Ql;omega)) e),r⟩
 ·obtain⟨o,e,r⟩:=jx;exact⟨o,up _ _ (ji (by omega)) (F7 _ _ (nz (by unfold Ql;omega)) e),r⟩
 ·obtain⟨o,e,r⟩:=hl3;exact⟨o,up _ _ (ji (by omega)) (F7 _ _ (nz (by unfold Ql;omega)) e),r⟩
theorem xF {b t1 t2 t3:Nat} {i:Nat} {xs ys zs:Array ya} {Q:Fin->Sa->Prop} (hh:A.handled=ba) (Z:ym s.heap b t1 t2 t3 .none xs ys zs i i i) (hx:xs[i]? =ba)
 (hE:∀h' e,(∀(c:Nat) o,c≠b->c≠b+5->s.heap.get? c=aa o->h'.get? c=aa o)->(∃o,h'.get? e=aa o/\o.cls=.type "StopIteration")->E (.ref e) {s with heap:=h'}):
 Wa (Fb prog w) A (Builtin.«zip.__next__» ⟨[.ref (b+5)],[]⟩) Q E s:=by
 obtain⟨hzz,hti,⟨u,v,t,hto⟩,h1,h2,h3,ku,jx,hl3,d1,d2,d3⟩:=Z
 show Wa _ _ (field (.ref (b+5)) 2>>=_) _ _ _
 refine ia (wpAny_field hzz rfl (x:=.bool false) rfl ?_)
 show Wa _ _ (field (.ref (b+5)) 3>>=_) _ _ _
 refine ia (wpAny_field hzz rfl (x:=.ref (b+3)) rfl ?_);refine ia (wpAny_seqItems hti rfl ?_)
 show Wa _ _ (Ze (.ref (b+5))>>=_) _ _ _
 refine ia ?_;unfold Ze;refine ia (wpAny_field hzz rfl (x:=.none) rfl (Ba ?_));simp only[if_true];refine ia (wpAny_rule ?_);refine ia (wpAny_field hzz rfl (x:=.ref (b+4)) rfl ?_);refine ia (wpAny_setField_rec hzz (by simp) λg1 hz1 rB=> ?_)
 replace hz1:IsZip g1 (b+5) (b+3) (b+4) .ellipsis:=hz1
 refine ia ?_;simp only[FF,TF,Aj,Bi];refine ia (ia (wpAny_onRaise ?_))
 show Wa _ _ (md (.ref b)>>=_) _ _ _
 refine ia (uq hh (h1.extBut rB.extBut (ji (by omega))) (ku.extBut rB.extBut (ji (by omega))) hx λg2 e hs2 he=> ?_);obtain⟨oe,hoe,hce⟩:=he;have hz2:IsZip g2 (b+5) (b+3) (b+4) .ellipsis:=hs2 _ _ (ji (by omega)) hz1;have hez:e≠b+5:=λx=>by subst x;rw[hz2]at hoe;cases hoe;simp at hce
 refine wpAny_setField_rec hz2 (by simp) λg3 _ sB=>hE g3 e (λc o n m x=> ?_) ⟨oe,sB.extBut _ _ hez hoe,hce⟩;exact sB.extBut _ _ m (hs2 _ _ n (rB.extBut _ _ m x))
theorem Ay {b t1 t2 t3:Nat} {i:Nat} {xs ys zs:Array ya} {x y zv:ya} {Q:Option ya->Sa->Prop} (Z:ym s.heap b t1 t2 t3 .none xs ys zs i i i) (hx:xs[i]? =aa x) (hy:ys[i]? =aa y) (hz:zs[i]? =aa zv)
 (hQ:∀h',ym h' b t1 t2 t3 (rawInt s.heap.objs.size) xs ys zs (i+1) (i+1) (i+1)->mD h' s.heap.objs.size x y zv->(∀(c:Nat) o,¬Ql b c->s.heap.get? c=aa o->h'.get? c=aa o)->Q (aa (.ref s.heap.objs.size)) {s with heap:=h'}):
 Wa (Fb prog w) A (pyNext (.ref (b+5))) Q E s:=by
 have hT:s.TypeIs (.ref (b+5)) "zip":=⟨_,Z.z,rfl⟩;unfold pyNext;exact ia (wpAny_attempt (wpAny_callSpecial?_slot (name:=Jg "__next__") hT Di
  (wpAny_call_entry Di hT Yv
   (cD (f0:=.none) Z hx hy hz λh' a1 a2 a3=>Ba (hQ h' a1 a2 a3)) (Ru _))))
theorem yr {b t1 t2 t3:Nat} {i:Nat} {xs ys zs:Array ya} {Q:Option ya->Sa->Prop} (hh:A.handled=ba) (Z:ym s.heap b t1 t2 t3 .none xs ys zs i i i) (hx:xs[i]? =ba)
 (hQ:∀h',(∀(c:Nat) o,c≠b->c≠b+5->s.heap.get? c=aa o->h'.get? c=aa o)->Q ba {s with heap:=h'}):Wa (Fb prog w) A (pyNext (.ref (b+5))) Q E s:=by
 have hT:s.TypeIs (.ref (b+5)) "zip":=⟨_,Z.z,rfl⟩;unfold pyNext;refine ia (wpAny_attempt (wpAny_callSpecial?_slot (name:=Jg "__next__") hT Di
  (wpAny_call_entry Di hT Yv (xF hh Z hx λh' e hk he=> ?_) (Ru _))))
 obtain⟨o,ho,hc⟩:=he;refine ia (wpAny_isInstance (T:="StopIteration") (b:=true) ⟨o,ho,hc⟩ isSubtype_stop ?_);exact Ba (hQ _ hk)
end
end Mine
namespace Mine
theorem Yt (a b c:ya):checkTypeCall "zip" ⟨[a,b,c],[]⟩=pure ():=by kernel_rfl
theorem Du (a b c:ya):checkBuiltinCall "zip.__new__" ⟨[.type "zip",a,b,c],[]⟩=pure ():=by kernel_rfl
theorem Sn (a b c d:ya):argsOk "object.__init__" ⟨[a,b,c,d],[]⟩:=by
 unfold argsOk;rw[signature?_of (id:="object.__init__") (n:=['_','_','t','i','n','i','_','_']) (o:=['t','c','e','j','b','o']) (by kernel_rfl) PySem.F.owner_object];kernel_rfl
abbrev zJ (l:Qa):Obj:={cls:=.type "tuple_iterator",data:=.fields #[.ref l,.int 0 0]}
abbrev jJ (h:Gb) (l1:Qa):Gb:=h.push (zJ l1)
abbrev kJ (h:Gb) (l1 l2:Qa):Gb:=(jJ h l1).push (zJ l2)
abbrev lJ (h:Gb) (l1 l2 l3:Qa):Gb:=(kJ h l1 l2).push (zJ l3)
abbrev mJ (h:Gb) (l1 l2 l3:Qa):Gb:=(lJ h l1 l2 l3).push {cls:=.type "tuple",data:=.seq #[.ref h.objs.size,.ref (jJ h l1).objs.size,.ref (kJ h l1 l2).objs.size]}
abbrev nJ (h:Gb) (l1 l2 l3:Qa):Gb:=(mJ h l1 l2 l3).push {cls:=.type "tuple",data:=.seq #[.none,.none,.none]}
abbrev HK (h:Gb) (l1 l2 l3:Qa):Gb:=(nJ h l1 l2 l3).push {cls:=.type "zip",data:=.fields #[.none,.bool false,.bool false,.ref (lJ h l1 l2 l3).objs.size,.ref (mJ h l1 l2 l3).objs.size]}
set_option maxHeartbeats 4000000 in
theorem aA (l1 l2 l3:Qa) (xs ys zs:Array ya):
 Meets (Builtin.«zip.__new__» ⟨[.type "zip",.ref l1,.ref l2,.ref l3],[]⟩) (λ_ R s=>s.heap.IsTuple l1 xs/\s.heap.IsTuple l2 ys/\s.heap.IsTuple l3 zs/\
  R (.ok (.ret (.ref (nJ s.heap l1 l2 l3).objs.size))) {s with heap:=HK s.heap l1 l2 l3}):=
 .of_wp λprog w A R s h=>by
  obtain⟨hp,g,d,tk,os⟩:=s;obtain⟨ku,jx,hl3,h⟩:=h;have gp:=sub_zip;have hL1:Zy (ez ⟨hp,g,d,tk,os⟩) l1 xs:=ku;have hL2:Zy (ez ⟨hp.push {cls:=.type "tuple_iterator",data:=.fields #[.ref l1,.int 0 0]},g,d,tk,os⟩) l2 ys:=Pm jx _;have hL3:Zy (ez ⟨(hp.push {cls:=.type "tuple_iterator",data:=.fields #[.ref l1,.int 0 0]}).push {cls:=.type "tuple_iterator",data:=.fields #[.ref l2,.int 0 0]},g,d,tk,os⟩) l3 zs:=Pm (Pm hl3 _) _
  wp_walk using wpAny_pyIter_tuple hL1,wpAny_pyIter_tuple hL2,wpAny_pyIter_tuple hL3
  exact⟨_,rfl,h⟩
section
variable {prog:Program} {w:Lb} {A:lc} {E:ya->Sa->Prop} {s:Sa}
theorem iC {l1 l2 l3:Qa} {xs ys zs:Array ya} {Q:ya->Sa->Prop} (ku:s.heap.IsTuple l1 xs) (jx:s.heap.IsTuple l2 ys) (hl3:s.heap.IsTuple l3 zs)
 (h:∀h',ym h' s.heap.objs.size l1 l2 l3 .none xs ys zs 0 0 0->(∀c o,s.heap.get? c=aa o->h'.get? c=aa o)->Q (.ref (s.heap.objs.size+5)) {s with heap:=h'}):
 Wa (Fb prog w) A (call (.type "zip") [.ref l1,.ref l2,.ref l3]) Q E s:=by
 refine callType_new PySem.F.called_zip (by decide) (Yt _ _ _) (Du _ _ _) (λobj=>Sn obj _ _ _) PySem.F.entry_zip_new
  (aA l1 l2 l3 xs ys zs) ⟨ku,jx,hl3,?_⟩
 have z1:(jJ s.heap l1).objs.size=s.heap.objs.size+1:=Td ..;have z2:(kJ s.heap l1 l2).objs.size=s.heap.objs.size+2:=by rw[Td,z1]
 have z3:(lJ s.heap l1 l2 l3).objs.size=s.heap.objs.size+3:=by rw[Td,z2]
 have z4:(mJ s.heap l1 l2 l3).objs.size=s.heap.objs.size+4:=by rw[Td,z3]
 have z5:(nJ s.heap l1 l2 l3).objs.size=s.heap.objs.size+5:=by rw[Td,z4]
 have k1:∀c o,s.heap.get? c=aa o->(jJ s.heap l1).get? c=aa o:=λc o e=>Da _ e;have k2:∀c o,(jJ s.heap l1).get? c=aa o->(kJ s.heap l1 l2).get? c=aa o:=λc o e=>Da _ e;have k3:∀c o,(kJ s.heap l1 l2).get? c=aa o->(lJ s.heap l1 l2 l3).get? c=aa o:=λc o e=>Da _ e;have k4:∀c o,(lJ s.heap l1 l2 l3).get? c=aa o->(mJ s.heap l1 l2 l3).get? c=aa o:=λc o e=>Da _ e;have k5:∀c o,(mJ s.heap l1 l2 l3).get? c=aa o->(nJ s.heap l1 l2 l3).get? c=aa o:=λc o e=>Da _ e;have k6:∀c o,(nJ s.heap l1 l2 l3).get? c=aa o->(HK s.heap l1 l2 l3).get? c=aa o:=λc o e=>Da _ e;have g1:(jJ s.heap l1).get? s.heap.objs.size=aa (zJ l1):=Pa _ rfl;have g2:(kJ s.heap l1 l2).get? (jJ s.heap l1).objs.size=aa (zJ l2):=Pa _ rfl;have g3:(lJ s.heap l1 l2 l3).get? (kJ s.heap l1 l2).objs.size=aa (zJ l3):=Pa _ rfl;have g4:(mJ s.heap l1 l2 l3).get? (lJ s.heap l1 l2 l3).objs.size=aa _:=Pa _ rfl;have g5:(nJ s.heap l1 l2 l3).get? (mJ s.heap l1 l2 l3).objs.size=aa _:=Pa _ rfl;have g6:(HK s.heap l1 l2 l3).get? (nJ s.heap l1 l2 l3).objs.size=aa _:=Pa _ rfl;have h1:=k6 _ _ (k5 _ _ (k4 _ _ (k3 _ _ (k2 _ _ g1))));have h2:=k6 _ _ (k5 _ _ (k4 _ _ (k3 _ _ g2)));have h3:=k6 _ _ (k5 _ _ (k4 _ _ g3));have h4:=k6 _ _ (k5 _ _ g4);have h5:=k6 _ _ g5;rw[z1]at h2;rw[z2]at h3;rw[z3,z1,z2]at h4;rw[z4]at h5;rw[z5,z3,z4]at g6;have kk:∀c o,s.heap.get? c=aa o->(HK s.heap l1 l2 l3).get? c=aa o:=λc o e=>k6 _ _ (k5 _ _ (k4 _ _ (k3 _ _ (k2 _ _ (k1 _ _ e)))))
 show _/\_
 rw[z5];have lt:∀{t:Qa} {vs},s.heap.IsTuple t vs->t<s.heap.objs.size:=λx=>by obtain⟨o,e,_⟩:=x;exact Wb e
 refine⟨⟨_,g6,rfl⟩,h _ ⟨g6,h4,⟨_,_,_,h5⟩,⟨_,h1,rfl,rfl⟩,⟨_,h2,rfl,rfl⟩,⟨_,h3,rfl,rfl⟩,?_,?_,?_,lt ku,lt jx,lt hl3⟩ kk⟩
 ·obtain⟨o,e,r⟩:=ku;exact⟨o,kk _ _ e,r⟩
 ·obtain⟨o,e,r⟩:=jx;exact⟨o,kk _ _ e,r⟩
 ·obtain⟨o,e,r⟩:=hl3;exact⟨o,kk _ _ e,r⟩
end
end Mine
namespace Mine
section
variable {w:Lb} {hb h h':Gb} {ρ Zd:List Qa} [I:Av] {P':Qa->Prop} {σ:St}
abbrev Zv (P P':Qa->Prop) (h h':Gb):Prop:=∀a o,h.get? a=aa o->bh o->(∀vs n,o=Jp vs n->¬P a)->h'.get? a=aa o/\(∀vs n,o=Jp vs n->¬P' a)
mutual
theorem VR.tr (hp:ρ<+:Zd) (hi:Zv I.av P' h h'):∀{x:V} {v:ya},VR w ρ h x v-> @VR ⟨P'⟩ w Zd h' x v
 |_,_,.none=> @VR.none ⟨P'⟩ _ _ _
 |_,_,.bool b=> @VR.bool ⟨P'⟩ _ _ _ b
 |_,_,.int i t=> @VR.int ⟨P'⟩ _ _ _ i t
 |_,_,.str x t=> @VR.str ⟨P'⟩ _ _ _ x t
 |_,_,.ref e=> @VR.ref ⟨P'⟩ _ _ _ _ _ (by
  obtain⟨t,rfl⟩:=hp;rw[ta (ca.mp e).1];exact e)
 |_,_,.con v=> @VR.con ⟨P'⟩ _ _ _ v
 |_,_,.rng e=> @VR.rng ⟨P'⟩ _ _ _ _ _ _ _ _ _ (hi _ _ e rfl λvs n q=>absurd (congrArg QL q) (by simp)).1
 |_,_,.iset e0 e1 e2 e=> @VR.iset ⟨P'⟩ _ _ _ _ _ _ _ _ e0 e1 e2 (let ⟨ep,x⟩:=e;⟨ep,(hi _ _ x trivial λvs n q=>absurd (congrArg QL q) (by simp)).1⟩)
 |_,_,.tup na e l r=> @VR.tup ⟨P'⟩ _ _ _ _ _ _ _ ((hi _ _ e rfl λ_ _ _=>na).2 _ _ rfl) (hi _ _ e rfl λ_ _ _=>na).1 l (og.tr hp hi r)
theorem og.tr (hp:ρ<+:Zd) (hi:Zv I.av P' h h'):∀{xs:List V} {vs:List ya},og w ρ h xs vs-> @og ⟨P'⟩ w Zd h' xs vs
 |_,_,.nil=> @og.nil ⟨P'⟩ _ _ _
 |_,_,.cons x r=> @og.cons ⟨P'⟩ _ _ _ _ _ _ _ (VR.tr hp hi x) (og.tr hp hi r)
end
theorem SE.tr (hp:ρ<+:Zd) (hi:Zv I.av P' h h') {es:List (Rb×V)} {Rd:List DictEntry} (r:SE w ρ h es Rd): @SE ⟨P'⟩ w Zd h' es Rd:=by
 induction r with
 |nil=>exact @SE.nil ⟨P'⟩ _ _ _
 |cons a _ ih=>exact @SE.cons ⟨P'⟩ _ _ _ _ _ _ _ _ _ (a.tr hp hi) ih
theorem OR.tr (hp:ρ<+:Zd) (hi:Zv I.av P' h h') {o:O} {a:Qa} (hk:∀x,h.get? a=aa x->h'.get? a=aa x) (r:OR w ρ h o a): @OR ⟨P'⟩ w Zd h' o a:=by
 cases o with
 |list xs=>obtain⟨vs,n,e,l,q⟩:=r;exact⟨vs,n,hk _ e,l,q.tr hp hi⟩
 |idict es=>obtain⟨o,kvs,e,d,k,q,l⟩:=r;exact⟨o,kvs,hk _ e,d,k,q.tr hp hi,l⟩
 |sdict es=>obtain⟨Rd,n,e,q,d,l⟩:=r;exact⟨Rd,n,hk _ e,q.tr hp hi,d,l⟩
 |inst c d=>obtain⟨dx,e,q⟩:=r;exact⟨dx,yo hp e,hk _ q⟩
theorem R.tr (r:R w hb ρ σ h) (hi:Zv I.av P' h h') (hk:∀a∈ρ,∀o,h.get? a=aa o->h'.get? a=aa o) (hbk:∀a o,hb.get? a=aa o->h'.get? a=aa o) (hv:∀a,P' a->∃o,h'.get? a=aa o/\bh o): @R ⟨P'⟩ w hb ρ σ h':=
 @R.mk ⟨P'⟩ w hb ρ σ h' r.len r.nodup r.fresh hv hbk λi o a e1 e2=>(r.obj i o a e1 e2).tr (Ha _) hi λx e=>hk a (ma e2) x e
theorem wd.tr {env:Env} {eo:Qa->Prop} {sl:List Rb} {lo:Nat} {me:Me} (E:wd w hb env eo sl lo me ρ h) (hi:Zv I.av P' h h') (hL:∀o,h.get? env.locals=aa o->h'.get? env.locals=aa o) (hc:∀c v,h.IsCell c v->h'.IsCell c v) (hl:∀a,eo a->(h'.get? a).isSome=true): @wd ⟨P'⟩ w hb env eo sl lo me ρ h':=by
 obtain⟨m,hm,hv⟩:=E.ns;refine @wd.mk ⟨P'⟩ w hb env eo sl lo me ρ h' E.kind E.globals E.builtins E.len ⟨m,?_,λx i v a b c=> ?_⟩ (λx i v a b c=> ?_) E.loc (λx k a b=> ?_) E.apart (λx i a b=> ?_) E.eoh hl
 ·obtain⟨o,es,ep,e,q⟩:=hm
  exact⟨o,es,ep,hL _ e,q⟩
 ·obtain⟨val,q1,q2⟩:=hv x i v a b c
  exact⟨val,q1,q2.tr (Ha _) hi⟩
 ·obtain⟨c,val,q1,q2,q3⟩:=E.cells x i v a b c
  exact⟨c,val,q1,hc _ _ q2,q3.tr (Ha _) hi⟩
 ·obtain⟨c,v,q1,q2⟩:=E.has x k a b
  exact⟨c,v,q1,hc _ _ q2⟩
 ·rcases E.own x i a b with q|⟨q,c,v,q1,q2,q3⟩
  ·exact .inl q
  ·exact .inr ⟨q,c,v,q1,hc _ _ q2,q3⟩
end
section
variable {w:Lb} {hb:Gb} {A:lc} {env:Env} {eo:Qa->Prop} {sl:List Rb} {me Qb:Me} {n:Nat} {ρ bf:List Qa} {σ Ca:St} {s:Sa} {fl:Fl} {sc:Sc} {b t1 t2 t3:Nat} {vx vy vz:Array ya} {f0:ya} {i1 i2 i3:Nat} {h h':Gb}
theorem kq {h:Gb} {a t:Qa} {i:Nat} (x:h.IsTupleIter a t i):∃o,h.get? a=aa o/\¬bh o/\(∀v,o.data≠ .cell v):=by
 obtain⟨o,e,c,d⟩:=x;exact⟨o,e,by simp[bh,d,c],λv z=>by rw[d]at z;cases z⟩
theorem ym.data (Z:ym h b t1 t2 t3 f0 vx vy vz i1 i2 i3) {a:Nat} (ha:Ql b a):∃o,h.get? a=aa o/\(a≠b+4->¬bh o)/\(∀v,o.data≠ .cell v)/\(a=b+4->∃vs k,o=Jp vs k):=by
 rcases ha with rfl|rfl|rfl|rfl|rfl
 ·obtain⟨o,e,c,d⟩:=kq Z.a1;exact⟨o,e,λ_=>c,d,λz=>absurd z (by omega)⟩
 ·obtain⟨o,e,c,d⟩:=kq Z.a2;exact⟨o,e,λ_=>c,d,λz=>absurd z (by omega)⟩
 ·obtain⟨o,e,c,d⟩:=kq Z.a3;exact⟨o,e,λ_=>c,d,λz=>absurd z (by omega)⟩
 ·obtain⟨u,v,x,e⟩:=Z.to_;exact⟨_,e,λz=>absurd rfl z,(λv z=>nomatch z),λ_=>⟨[u,v,x],0,rfl⟩⟩
 ·exact⟨_,Z.z,λ_=>by simp[bh],(λv z=>nomatch z),λz=>absurd z (by omega)⟩
structure Vr (I:Av) (hb:Gb) (eo:Qa->Prop) (ρ:List Qa) (b:Nat):Prop where
 base:∀a,Ql b a->hb.get? a=ba
 eo:∀a,Ql b a->¬eo a
 av:I.av (b+4)
 out:∀a,Ql b a->a∉ρ
variable [I:Av]
theorem Mp (Z:ym h b t1 t2 t3 f0 vx vy vz i1 i2 i3) (hav:I.av (b+4)) (hk:∀(c:Nat) o,¬Ql b c->h.get? c=aa o->h'.get? c=aa o):Zv I.av I.av h h':=λa o e im ht=>by
 have hn:¬Ql b a:=λq=>by
  obtain⟨o',e',n1,_,n2⟩:=Z.data q;rw[e]at e';cases e'
  by_cases z:a=b+4
  ·obtain⟨vs,k,rfl⟩:=n2 z
   exact ht vs k rfl (z▸hav)
  ·exact n1 z im
 exact⟨hk a o hn e,ht⟩
theorem FH (r:R w hb ρ σ h) (D:Vr I hb eo ρ b) (Z:ym h b t1 t2 t3 f0 vx vy vz i1 i2 i3) (hk:∀(c:Nat) o,¬Ql b c->h.get? c=aa o->h'.get? c=aa o) (hT:∃o,h'.get? (b+4)=aa o/\bh o):R w hb ρ σ h':=by
 refine r.tr (P':=I.av) (Mp Z D.av hk) (λa ha o e=>hk a o (λq=>D.out a q ha) e) (λa o e=>hk a o (λq=>by rw[D.base a q]at e;cases e) (r.base a o e)) λa ha=> ?_;obtain⟨o,ho,io⟩:=r.avl a ha
 by_cases q:Ql b a
 ·obtain⟨o',e',n1,_,n2⟩:=Z.data q
  rw[ho]at e';cases e'
  by_cases z:a=b+4
  ·rw[z];exact hT
  ·exact absurd io (n1 z)
 ·exact⟨o,hk a o q ho,io⟩
theorem EH {sl:List Rb} {lo:Nat} (E:wd w hb env eo sl lo me ρ h) (D:Vr I hb eo ρ b) (Z:ym h b t1 t2 t3 f0 vx vy vz i1 i2 i3) (hk:∀(c:Nat) o,¬Ql b c->h.get? c=aa o->h'.get? c=aa o):wd w hb env eo sl lo me ρ h':=by
 refine E.tr (P':=I.av) (Mp Z D.av hk) (λo e=>hk _ o (λq=>D.eo _ q E.loc.2.2) e) (λc v x=> ?_) λa ha=> ?_
 ·obtain⟨o,e,d⟩:=x
  refine⟨o,hk c o (λq=> ?_) e,d⟩;obtain⟨o',e',_,n,_⟩:=Z.data q;rw[e]at e';cases e';exact n v d
 ·obtain⟨o,ho⟩:=Ta.mp (E.eol a ha)
  rw[hk a o (λq=>D.eo a q ha) ho];rfl
theorem ym.tri (Z:ym h b t1 t2 t3 f0 vx vy vz i1 i2 i3):∃o,h.get? (b+4)=aa o/\bh o:=by
 obtain⟨u,v,x,e⟩:=Z.to_;exact⟨_,e,rfl⟩
theorem ym.keep (Z:ym h b t1 t2 t3 f0 vx vy vz i1 i2 i3) (hz:∀(c:Nat) o,Ql b c->h.get? c=aa o->h'.get? c=aa o) (Sm:∀a o,h.get? a=aa o->bh o->h'.get? a=aa o):ym h' b t1 t2 t3 f0 vx vy vz i1 i2 i3:=by
 have tup:∀{t:Qa} {vs},h.IsTuple t vs->h'.IsTuple t vs:=λ⟨o,e,c,k,d⟩=>⟨o,Sm _ o e (by simp[bh,c,d]),c,k,d⟩;refine⟨hz _ _ (by unfold Ql;omega) Z.z,Sm _ _ Z.ti rfl,?_,?_,?_,?_,tup Z.l1,tup Z.l2,tup Z.l3,Z.d1,Z.d2,Z.d3⟩
 ·obtain⟨u,v,x,e⟩:=Z.to_;exact⟨u,v,x,Sm _ _ e rfl⟩
 ·obtain⟨o,e,r⟩:=Z.a1;exact⟨o,hz _ _ (by unfold Ql;omega) e,r⟩
 ·obtain⟨o,e,r⟩:=Z.a2;exact⟨o,hz _ _ (by unfold Ql;omega) e,r⟩
 ·obtain⟨o,e,r⟩:=Z.a3;exact⟨o,hz _ _ (by unfold Ql;omega) e,r⟩
def Uy (xs ys zs:List V):List V:=(xs.zip (ys.zip zs)).map λp=>V.tup [p.1,p.2.1,p.2.2]
theorem Vy:∀{xs ys zs:List V} (_:xs.length=ys.length) (_:ys.length=zs.length) {i:Nat} {v:V},(Uy xs ys zs)[i]? =aa v->∃x y z,xs[i]? =aa x/\ys[i]? =aa y/\zs[i]? =aa z/\v=V.tup [x,y,z]
 | [],_,_,_,_,i,v,h=>by simp[Uy]at h
 |x::xs,[],_,h1,_,_,_,_=>by simp at h1
 |x::xs,y::ys,[],_,h2,_,_,_=>by simp at h2
 |x::xs,y::ys,z::zs,h1,h2,0,v,h=>by simp[Uy]at h;exact⟨x,y,z,rfl,rfl,rfl,h.symm⟩
 |x::xs,y::ys,z::zs,h1,h2,i+1,v,h=>by
  obtain⟨a,b,c,q1,q2,q3,q4⟩:=Vy (xs:=xs) (ys:=ys) (zs:=zs) (by simpa using h1) (by simpa using h2) (i:=i) (v:=v) (by simpa [Uy]using h);exact⟨a,b,c,by simpa using q1,by simpa using q2,by simpa using q3,q4⟩
theorem dD:∀{xs ys zs:List V} (_:xs.length=ys.length) (_:ys.length=zs.length) {i:Nat},(Uy xs ys zs)[i]? =ba->xs[i]? =ba:=by
 intro xs ys zs h1 h2 i h;rw[Od]at h|-;simp only[Uy,ja,List.length_zip]at h;omega
theorem FC {tgt:Expr} {T:Nat} {M:Model} {E:ya->Sa->Prop} {Q:Unit->Sa->Prop} (ht:Hn tgt=true) (hz:IsZip s.heap (b+5) (b+3) (b+4) (rawInt T)) (hM:M=Fb pg w)
 (hQ:∀h',IsZip h' (b+5) (b+3) (b+4) .none->Hg (b+5) s.heap h'->Q () {s with heap:=h'}):Wa M A (letOwnedTupleGo tgt (.ref (b+5)) (.ref T)) Q E s:=by
 subst hM;cases tgt<;>first|(simp[Hn]at ht;done)|exact wpAny_letOwnedTupleGo_zip hz hQ
theorem xA {tgt:Expr} {bd:List Stmt} {t:CT} {xs ys zs:List V} {F:Me->St->Option (Fl×Me×St)} (AK:yi n A) (htt:Hn tgt=true) (ht:Do sc tgt=aa t) (hf:yg w hb A env eo sc.sl (execs bd env) F) (ku:xs.length=ys.length) (jx:ys.length=zs.length):
 ∀(fuel i:Nat) me ρ σ s fl Qb Ca vxs vys vzs,R w hb ρ σ s.heap->wd w hb env eo sc.sl 0 me ρ s.heap->ym s.heap b t1 t2 t3 .none (bz vxs) (bz vys) (bz vzs) i i i->Vr I hb eo ρ b->og w ρ s.heap xs vxs->og w ρ s.heap ys vys->og w ρ s.heap zs vzs->
  Ye fuel (.st (Uy xs ys zs)) i (λv me σ=>match dg t v me with
   |some Qd=>F Qd σ
   |none=>ba) me σ=aa (fl,Qb,Ca)->
  ai (Fb pg w) A (.forLoop tgt (.ref (b+5)) bd [] env) (λq s'=>∃f,q=.ok f/\∃Zd h' tk',s'={s with heap:=h',toks:=tk'}/\(∀(a:Nat) o,s.heap.get? a=aa o->a∉ρ->¬eo a->¬Ql b a->h'.get? a=aa o)/\ρ<+:Zd/\(∀a∈Zd,a∈ρ\/s.heap.get? a=ba)/\(∀a o,s.heap.get? a=aa o->bh o->¬Ql b a->h'.get? a=aa o)/\
   R w hb Zd Ca h'/\wd w hb env eo sc.sl 0 Qb Zd h'/\JK w Zd h' fl f) s:=by
 intro fuel
 induction fuel with
 |zero=>intro i me ρ σ s fl Qb Ca vxs vys vzs r E Z D x1 x2 x3 e;cases e
 |succ fuel ih=>
  intro i me ρ σ s fl Qb Ca vxs vys vzs r E Z D x1 x2 x3 e;refine codeAny_of_tree ?_
  show Wa _ A ((forTurn tgt (.ref (b+5)) bd [] env).onRaise (λx=>do noteFrame x env;theTreesLotGoes x)) _ _ s
  refine wpAny_noted ?_;simp only[forTurn];simp only[Ye,jg]at e;cases hi:(Uy xs ys zs)[i]? with
  |none=>
   simp only[hi]at e;cases e;have hx:=x1.none_of (dD ku jx hi);refine ia (fc (ia (wpAny_onRaise (yr AK.hh Z (by simpa using hx) λh1 k0=> ?_))));have hT:∃o,h1.get? (b+4)=aa o/\bh o:=by
    obtain⟨o,e,im⟩:=Z.tri;exact⟨o,k0 _ o (ji (by omega)) (ji (by omega)) e,im⟩
   have k1:∀(c:Nat) o,¬Ql b c->s.heap.get? c=aa o->h1.get? c=aa o:=λc o n e=>k0 c o (ji (by unfold Ql at n;omega)) (ji (by unfold Ql at n;omega)) e;refine Ba ⟨rfl,codeAny_block ?_⟩;rw[arm_execs_nil];exact Ba ⟨.next,rfl,ρ,h1,s.toks,rfl,λa o e _ _ n=>k1 a o n e,Ha _,λa h=>.inl h,λa o e _ n=>k1 a o n e,FH r D Z k1 hT,EH E D Z k1,trivial⟩
  |some v=>
   simp only[hi]at e;obtain⟨x,y,z,q1,q2,q3,rfl⟩:=Vy ku jx hi;obtain⟨vx,p1,u1⟩:=x1.get q1;obtain⟨vy,p2,u2⟩:=x2.get q2;obtain⟨vz,p3,u3⟩:=x3.get q3;refine ia (fc (ia (wpAny_onRaise (Ay (x:=vx) (y:=vy) (zv:=vz) Z (by simpa using p1) (by simpa using p2) (by simpa using p3) λh1 Z1 T1 k1=> ?_))));refine ia (FC htt Z1.z rfl λh2 z2 k2=> ?_);have Z2:ym h2 b t1 t2 t3 .none vxs.toArray vys.toArray vzs.toArray (i+1) (i+1) (i+1):=by
    have kk:∀(c:Nat) o,c≠b+5->h1.get? c=aa o->h2.get? c=aa o:=λc o n e=>k2.extBut _ _ n e;have d1:=Z1.d1;have d2:=Z1.d2;have d3:=Z1.d3;refine⟨z2,kk _ _ (by omega) Z1.ti,?_,?_,?_,?_,?_,?_,?_,d1,d2,d3⟩
    ·obtain⟨u,v,x,e⟩:=Z1.to_;exact⟨u,v,x,kk _ _ (by omega) e⟩
    ·obtain⟨o,e,r⟩:=Z1.a1;exact⟨o,kk _ _ (by omega) e,r⟩
    ·obtain⟨o,e,r⟩:=Z1.a2;exact⟨o,kk _ _ (by omega) e,r⟩
    ·obtain⟨o,e,r⟩:=Z1.a3;exact⟨o,kk _ _ (by omega) e,r⟩
    ·obtain⟨o,e,r⟩:=Z1.l1;exact⟨o,kk _ _ (by omega) e,r⟩
    ·obtain⟨o,e,r⟩:=Z1.l2;exact⟨o,kk _ _ (by omega) e,r⟩
    ·obtain⟨o,e,r⟩:=Z1.l3;exact⟨o,kk _ _ (by omega) e,r⟩
   have k12:∀(c:Nat) o,¬Ql b c->s.heap.get? c=aa o->h2.get? c=aa o:=λc o n e=>k2.extBut _ _ (ji (by unfold Ql at n;omega)) (k1 c o n e);have r2:=FH r D Z k12 Z2.tri;have E2:=EH E D Z k12;have tr:∀{x:V} {v:ya},VR w ρ s.heap x v->VR w ρ h2 x v:=λq=>q.tr (P':=I.av) (Ha _) (Mp Z D.av k12);have trs:∀{x:List V} {v:List ya},og w ρ s.heap x v->og w ρ h2 x v:=λq=>q.tr (P':=I.av) (Ha _) (Mp Z D.av k12);have hTn:¬I.av s.heap.objs.size:=r.notAv (Hb _);have T2:h2.get? s.heap.objs.size=aa (Jp [vx,vy,vz] 0):=k2.extBut _ _ (Ii (Wb Z.z)) T1;have xv:VR w ρ h2 (.tup [x,y,z]) (.ref s.heap.objs.size):=.tup hTn T2 (by simp) (.cons (tr u1) (.cons (tr u2) (.cons (tr u3) .nil)));cases Zn:dg t (.tup [x,y,z]) me with
   |none=>simp only[Zn]at e;cases e
   |some Qd=>
    simp only[Zn]at e;refine ia (Ea (TD (s:={s with heap:=h2}) AK ht (dv t) r2 E2 xv Zn) (λ_ s2 p2=> ?_) λ_ _ z=>z.elim);obtain⟨h3,OB,rfl,k3,r3,E3⟩:=p2;cases hF:F Qd σ with
    |none=>simp only[hF]at e;cases e
    |some p=>
     obtain⟨f0,Up,Cb⟩:=p;refine ia (Ea (hf Qd ρ σ _ f0 Up Cb r3 E3 hF) (λf s3 p3=> ?_) λ_ _ z=>z.elim);obtain⟨VB,h4,tk4,rfl,k4,r4,E4,q4⟩:=p3;have k34:Kp eo ρ h2 h4 VB:=k3.trans k4;have Z4:ym h4 b t1 t2 t3 .none vxs.toArray vys.toArray vzs.toArray (i+1) (i+1) (i+1):=Z2.keep (λc o q e=>k34.keep c o e (D.out c q) (D.eo c q)) k34.imm;have keep4:∀(a:Nat) o,s.heap.get? a=aa o->a∉ρ->¬eo a->¬Ql b a->h4.get? a=aa o:=λa o e n1 n2 n3=>k34.keep a o (k12 a o n3 e) n1 n2;have live2:∀a o,s.heap.get? a=aa o->(h2.get? a).isSome=true:=λa o e=>by
      by_cases q:Ql b a
      ·obtain⟨o,e,_⟩:=Z2.data q;rw[e];rfl
      ·rw[k12 a o q e];rfl
     have none4:∀a,h4.get? a=ba->s.heap.get? a=ba:=λa e=>by
      cases z:s.heap.get? a with
      |none=>rfl
      |some o=>have:=k34.live a (live2 a o z);rw[e]at this;cases this
     have Hz:∀a∈VB,a∈ρ\/s.heap.get? a=ba:=λa ha=>by
      rcases k34.fresh a ha with q|q
      ·exact .inl q
      ·right
       cases z:s.heap.get? a with
       |none=>rfl
       |some o=>have:=live2 a o z;rw[q]at this;cases this
     have imm4:∀(a:Nat) o,s.heap.get? a=aa o->bh o->¬Ql b a->h4.get? a=aa o:=λa o e im n=>k34.imm a o (k12 a o n e) im;have D4:Vr I hb eo VB b:=⟨D.base,D.eo,D.av,λa ha q=>by
      rcases k34.fresh a q with q|q
      ·exact D.out a ha q
      ·obtain⟨o,e,_⟩:=Z2.data ha;rw[q]at e;cases e⟩
     cases f0 with
     |next=>
      simp only[hF]at e;cases f<;>try exact q4.elim
      refine Ba ⟨rfl,Hc (ih (i+1) Up VB Cb {s with heap:=h4,toks:=tk4} fl Qb Ca vxs vys vzs r4 E4 Z4 D4 (k34.vrs (trs x1)) (k34.vrs (trs x2)) (k34.vrs (trs x3)) e) λq s4 p4=> ?_⟩;obtain⟨f,rfl,nu,h5,Mu,rfl,g1,g2,g3,g4,g5,g6,g7⟩:=p4;exact⟨f,rfl,nu,h5,Mu,rfl,λa o e n1 n2 n3=>g1 a o (keep4 a o e n1 n2 n3) (λq=>by
       rcases Hz a q with q|q
       ·exact n1 q
       ·rw[q]at e;cases e) n2 n3,k34.pre.trans g2,λa ha=>by
       rcases g3 a ha with q|q
       ·exact Hz a q
       ·exact .inr (none4 a q),λa o e im n=>g4 a o (imm4 a o e im n) im n,g5,g6,g7⟩
     |ret v=>
      simp only[hF]at e;cases e;cases f<;>try exact q4.elim
      exact Ba ⟨_,rfl,VB,h4,tk4,rfl,keep4,k34.pre,Hz,imm4,r4,E4,q4⟩
theorem Wt {x:V} {v:ya} {xs:List V} (e:x=.tup xs) (q:VR w ρ h x v):∃t vs k,v=.ref t/\h.get? t=aa (Jp vs k)/\og w ρ h xs vs:=by
 subst e;cases q with
 | @tup a _ vs m nav e l r=>exact⟨a,vs,m,rfl,e,r⟩
theorem kK {vs:List V} {vals:List ya} {xs ys zs:List V} (e:Xh vs=aa [xs,ys,zs]) (q:og w ρ h vs vals):∃a b c,vals=[a,b,c]/\(∃t vs k,a=.ref t/\h.get? t=aa (Jp vs k)/\og w ρ h xs vs)/\(∃t vs k,b=.ref t/\h.get? t=aa (Jp vs k)/\og w ρ h ys vs)/\(∃t vs k,c=.ref t/\h.get? t=aa (Jp vs k)/\og w ρ h zs vs):=by
 have cons:∀{vs:List V} {xs:List V} {r:List (List V)},Xh vs=aa (xs::r)->∃vs',vs=.tup xs::vs'/\Xh vs'=aa r:=by
  intro vs xs r h;cases vs with
  |nil=>simp[Xh]at h
  |cons v vs=>
   cases v<;>simp only[Xh]at h<;>try (cases h;done)
   split at h<;>cases h
   rename_i q;exact⟨vs,rfl,q⟩
 have nil:∀{vs:List V},Xh vs=aa []->vs=[]:=by
  intro vs h;cases vs with
  |nil=>rfl
  |cons v vs=>
   cases v<;>simp only[Xh]at h<;>try (cases h;done)
   split at h<;>cases h
 obtain⟨v1,rfl,e1⟩:=cons e;obtain⟨v2,rfl,e2⟩:=cons e1;obtain⟨v3,rfl,e3⟩:=cons e2;have:=nil e3;subst this;cases q with|cons q1 q=>
 cases q with|cons q2 q=>
 cases q with|cons q3 q=>
 cases q;exact⟨_,_,_,rfl,Wt rfl q1,Wt rfl q2,Wt rfl q3⟩
theorem oJ {K:Frag} {tab:gi} {g:Gl} (B:gm hb K tab) (GO:Wv hb K g):ux w hb K g:=by
 intro n A env eo sc z zp cp pos tgt args bd t G F AK hk hz hkz hoz htt ht hn hG hF me ρ σ s fl Qb Ca r E e;cases hq:G me σ with
 |none=>simp only[hq]at e;cases e
 |some q=>
  obtain⟨vs,Ja⟩:=q;simp only[hq]at e;cases htu:Xh vs with
  |none=>simp only[htu]at e;cases e
  |some xss=>
   simp only[htu]at e;cases hzv:zr xss with
   |none=>simp only[hzv]at e;cases e
   |some items=>
    simp only[hzv]at e;refine wpAny_For ?_ (λx=>Jw (by intro a b c q;cases q) env x);refine Call_Name rfl (Ea (tq (w:=w) GO hz hkz (Xm hoz).1 ρ σ s (.con (.type "zip")) σ r E rfl) (λfv s1 p1=> ?_) λ_ _ x=>x.elim);obtain⟨bf,h1,tk1,rfl,k1,r1,x1⟩:=p1;cases x1;have E1:=E.kx r k1;refine pl (GO.glob z _ hz).1 hn (Ea (hG me _ bf σ _ vs Ja r1 E1 hq) (λvals s2 p2=> ?_) λ_ _ x=>x.elim);obtain⟨zi,h2,Qh,rfl,k2,r2,x2⟩:=p2;have E2:=E1.kx r1 k2;refine⟨r2.kin B,?_⟩;unfold zr at hzv
    split at hzv
    ·rename_i xs ys zs
     split at hzv
     ·rename_i hl
      cases hzv;obtain⟨q1,q2,q3,rfl,a1,a2,a3⟩:=kK htu x2;obtain⟨t1,v1,n1,rfl,o1,b1⟩:=a1;obtain⟨t2,v2,n2,rfl,o2,b2⟩:=a2;obtain⟨t3,v3,n3,rfl,o3,b3⟩:=a3;refine iC (s:={s with heap:=h2,toks:=Qh}) (uf o1) (uf o2) (uf o3) λh3 Z3 k3=> ?_;refine wpAny_pyIter_zip Z3.z ?_;have hsz:(({s with heap:=h2,toks:=Qh}:Sa).heap.objs.size)=h2.objs.size:=rfl;rw[hsz]at Z3|-;have ge_none:∀a,h2.objs.size<=a->h2.get? a=ba:=λa h=>Ll h;have InGe:∀a,Ql h2.objs.size a->h2.objs.size<=a:=λa q=>by unfold Ql at q;omega
      let P':Qa->Prop:=λa=>I.av a\/a=h2.objs.size+4
      have hi:Zv I.av P' h2 h3:=λa o e im ht=>⟨k3 a o e,λvs n q z=>by
       rcases z with z|z
       ·exact ht vs n q z
       ·subst z;rw[ge_none _ (UF _ _)]at e;cases e⟩
      have rJ: @R ⟨P'⟩ w hb zi Ja h3:=r2.tr hi (λa _ o e=>k3 a o e) (λa o e=>k3 a o (r2.base a o e)) (λa z=>by
       rcases z with z|z
       ·obtain⟨o,ho,io⟩:=r2.avl a z;exact⟨o,k3 a o ho,io⟩
       ·subst z;exact Z3.tri)
      have EJ: @wd ⟨P'⟩ w hb env eo sc.sl 0 me zi h3:=E2.tr hi (λo e=>k3 _ o e) (λc v x=>by obtain⟨o,e,d⟩:=x;exact⟨o,k3 _ o e,d⟩) λa ha=>by
       obtain⟨o,ho⟩:=Ta.mp (E2.eol a ha);rw[k3 a o ho];rfl
      have D:Vr ⟨P'⟩ hb eo zi h2.objs.size:=⟨λa q=>Ge r2 (ge_none a (InGe a q)),λa q z=>(by
       have:=E2.eol a z;rw[ge_none a (InGe a q)]at this;cases this),.inr rfl,λa q=>yf r2 (ge_none a (InGe a q))⟩
      refine Hc (@xA w hb A env eo n sc h2.objs.size t1 t2 t3 ⟨P'⟩ tgt bd t xs ys zs F AK htt ht (hF ⟨P'⟩) hl.1 hl.2 5000 0 me zi Ja {s with heap:=h3,toks:=Qh} fl Qb Ca v1 v2 v3 rJ EJ Z3 D (b1.tr (Ha _) hi) (b2.tr (Ha _) hi) (b3.tr (Ha _) hi) e) λq s4 p4=> ?_;obtain⟨f,rfl,nu,h5,Mu,rfl,g1,g2,g3,g4,g5,g6,g7⟩:=p4;have notIn:∀a o,h2.get? a=aa o->¬Ql h2.objs.size a:=λa o e q=>by rw[ge_none a (InGe a q)]at e;cases e
      have hd:Zv P' I.av h5 h5:=λa o e im ht=>⟨e,λvs n q z=>ht vs n q (.inl z)⟩;have rI:R w hb nu Ca h5:= @R.tr w hb h5 h5 nu ⟨P'⟩ I.av Ca g5 hd (λ_ _ _ e=>e) (λa o e=>(@R.base ⟨P'⟩ _ _ _ _ _ g5) a o e) λa z=>(@R.avl ⟨P'⟩ _ _ _ _ _ g5) a (.inl z);have EI:wd w hb env eo sc.sl 0 Qb nu h5:= @wd.tr w hb h5 h5 nu ⟨P'⟩ I.av env eo sc.sl 0 Qb g6 hd (λ_ e=>e) (λ_ _ x=>x) λa z=>(@wd.eol ⟨P'⟩ _ _ _ _ _ _ _ _ _ g6) a z;have live5:∀a,(h2.get? a).isSome=true->(h5.get? a).isSome=true:=λa z=>by
       obtain⟨o,ho⟩:=Ta.mp z
       by_cases y1:a∈zi
       ·obtain⟨x,hx,_⟩:=rI.live (li g2 y1)
        rw[hx];rfl
       ·by_cases y2:eo a
        ·exact EI.eol a y2
        ·rw[g1 a o (k3 a o ho) y1 y2 (notIn a o ho)];rfl
      have kp:Kp eo zi h2 h5 nu:=⟨g2,λa ha=>(by
       rcases g3 a ha with y|y
       ·exact .inl y
       ·right
        cases z:h2.get? a with
        |none=>rfl
        |some o=>(rw[k3 a o z]at y;cases y)),λa o e n1 n2=>g1 a o (k3 a o e) n1 n2 (notIn a o e),λa o e im=>g4 a o (k3 a o e) im (notIn a o e),live5⟩
      refine⟨nu,h5,Mu,rfl,((k1.kp E).trans (k2.kp E1)).trans kp,rI,EI,?_⟩;cases fl<;>cases f<;>first|exact g7|exact @VR.tr w h5 h5 nu nu ⟨P'⟩ I.av (Ha _) hd _ _ g7
     ·cases hzv
    ·cases hzv
end
end Mine
namespace Mine
namespace SF
theorem entry_set_iter:entryFor table "set.__iter__"=aa Builtin.«frozenset.__iter__» :=
 entryFor_alias (id':="frozenset.__iter__") (by kernel_rfl) rfl (by decide+kernel) (by kernel_rfl)
theorem slot_set_iterator_next:Slot "set_iterator" "__next__" "set_iterator.__next__":=
 .of (owner:="set_iterator") (n:="__next__") (by rw[typeLookup_type,builtinLookup_eq_fast];kernel_rfl) (by decide+kernel) (by decide+kernel) (by decide+kernel)
  (by first|exact .inl (by decide+kernel)|exact .inr (by decide+kernel)) (by rw[isSubtype_type];kernel_rfl)
theorem entry_set_iterator_next:entryFor table "set_iterator.__next__"=aa Builtin.«set_iterator.__next__» :=entryFor_of_tree (by kernel_rfl)
theorem owner_set_iterator:NL.lookup (String.ofList ['r','o','t','a','r','e','t','i','_','t','e','s'].reverse)=aa OL:=by kernel_rfl
theorem args_set_iterator_next_1 (a:ya):argsOk "set_iterator.__next__" ⟨[a],[]⟩:=by
 unfold argsOk;rw[signature?_of (id:="set_iterator.__next__") (n:=['_','_','t','x','e','n','_','_']) (o:=['r','o','t','a','r','e','t','i','_','t','e','s']) (by kernel_rfl) owner_set_iterator];kernel_rfl
theorem slot_set_iterator_iter:Slot "set_iterator" "__iter__" "set_iterator.__iter__":=
 .of (owner:="set_iterator") (n:="__iter__") (by rw[typeLookup_type,builtinLookup_eq_fast];kernel_rfl) (by decide+kernel) (by decide+kernel) (by decide+kernel)
  (by first|exact .inl (by decide+kernel)|exact .inr (by decide+kernel)) (by rw[isSubtype_type];kernel_rfl)
theorem args_set_iterator_iter_1 (a:ya):argsOk "set_iterator.__iter__" ⟨[a],[]⟩:=by
 unfold argsOk;rw[signature?_of (id:="set_iterator.__iter__") (n:=['_','_','r','e','t','i','_','_']) (o:=['r','o','t','a','r','e','t','i','_','t','e','s']) (by kernel_rfl) owner_set_iterator];kernel_rfl
theorem entry_set_iterator_iter:entryFor table "set_iterator.__iter__"=aa Builtin.«dict_keyiterator.__iter__» :=
 entryFor_alias (id':="dict_keyiterator.__iter__") (by kernel_rfl) rfl (by decide+kernel) (by kernel_rfl)
end SF
theorem Cn {α:Type}:∀(l:List α) (i:Nat) (h:i<l.length),(l[i]::l.eraseIdx i).Perm l
 |x::l,0,_=>.refl _
 |x::l,i+1,h=>(wL x _ _).trans (uL x (Cn l i (by simpa using h)))
theorem Xq {α:Type} (next:Nat->Nat):∀(n k:Nat) (l:List α) (out:Array α),n=l.length->(pickOrder.go next n k l out).toList.Perm (out.toList++l)
 |0,k,l,out,e=>by
  have:l=[]:=Sl.mp e.symm;subst this;unfold pickOrder.go;simp
 |n+1,k,l,out,e=>by
  unfold pickOrder.go;have wh:next k%l.length<l.length:=Nat.mod_lt _ (by omega);rw[da wh]
  dsimp only
  refine(Xq next n (k+1) _ _ (by rw[List.length_eraseIdx];simp[wh];omega)).trans ?_;rw[Array.toList_push,Jq];refine tL _ ?_
  show(l[next k%l.length]::l.eraseIdx (next k%l.length)).Perm l
  exact Cn l _ wh
theorem LC {α:Type} (next:Nat->Nat) (xs:Array α):(pickOrder next xs).toList.Perm xs.toList:=by
 unfold pickOrder
 simpa using Xq next xs.size 0 xs.toList #[] (by simp)
def Zj (o0 o1 o2:Option Tok):List (Int×ya):=Xl 0 o0++(Xl 1 o1++Xl 2 o2)
def kz (o0 o1 o2:Option Tok):List Nat:=JG 0 o0++(JG 1 o1++JG 2 o2)
theorem ZA (o0 o1 o2:Option Tok):(Zj o0 o1 o2).length=(kz o0 o1 o2).length:=by cases o0<;>cases o1<;>cases o2<;>rfl
theorem pw (o0 o1 o2:Option Tok):(Zj o0 o1 o2).length<=3:=by cases o0<;>cases o1<;>cases o2<;>exact Nat.le_of_ble_eq_true rfl
theorem PE (o0 o1 o2:Option Tok):fi (kz o0 o1 o2).toArray 0=0:=by cases o0<;>cases o1<;>cases o2<;>simp only[kz,JG]<;>decide+kernel
theorem OE (o0 o1 o2:Option Tok) (i j:Nat) (e:(kz o0 o1 o2)[i]? =aa j):fi (kz o0 o1 o2).toArray (j+1)=i+1:=by
 have hi:i<3:=by
  have:=(ca.mp e).1;rw[<-ZA]at this;exact Zp this (pw _ _ _)
 have:i=0\/i=1\/i=2:=by omega
 rcases this with rfl|rfl|rfl<;>cases o0<;>cases o1<;>cases o2<;>simp[kz,JG]at e<;>subst e<;>simp only[kz,JG]<;>decide+kernel
theorem Bg (o0 o1 o2:Option Tok) (b:Bool):(⟨7,(kz o0 o1 o2).toArray,#[],0,b,0,true⟩:SetTable).fits (Zj o0 o1 o2).toArray.size=true:=by cases o0<;>cases o1<;>cases o2<;>rfl
def wk (w:Lb) (a:Qa) (ep:Nat) (o0 o1 o2:Option Tok):List (Int×ya):=
 if w.params.followText "set-order"then(pickOrder (w.params.setOrder a ep) (Zj o0 o1 o2).toArray).toList else Zj o0 o1 o2
theorem Fo (w:Lb) (a:Qa) (ep:Nat) (o0 o1 o2:Option Tok):(wk w a ep o0 o1 o2).Perm (Zj o0 o1 o2):=by
 unfold wk;split
 ·exact LC _ _
 ·exact .refl _
def S3 (w:Lb) (h:Gb) (a:Qa) (ep:Nat) (o0 o1 o2:Option Tok):Prop:=
 h.get? a=aa {cls:=.type "set",dict:=ba,data:=.set (Zj o0 o1 o2).toArray ep ⟨7,(kz o0 o1 o2).toArray,#[],0,!w.params.followText "set-order",0,true⟩,slots:= #[]}
def XB (w:Lb) (h:Gb) (it a:Qa) (i n ep:Nat) (o0 o1 o2:Option Tok):Prop:=
 ∃o slot,h.get? it=aa o/\o.cls=.type "set_iterator"/\o.data=.fields #[.int (slot:Nat) 0,.int (i:Nat) 0,.ref a,.int (n:Nat) 0,.int (ep:Nat) 0]/\(w.params.followText "set-order"=false->fi (kz o0 o1 o2).toArray slot=i)
section
variable {w:Lb} {A:lc} {E:ya->Sa->Prop} {s:Sa} {a it:Qa} {ep i:Nat} {o0 o1 o2:Option Tok}
theorem S3.typeIs (h:S3 w s.heap a ep o0 o1 o2):s.TypeIs (.ref a) "set":=⟨_,h,rfl⟩
theorem XB.typeIs {n:Nat} (h:XB w s.heap it a i n ep o0 o1 o2):s.TypeIs (.ref it) "set_iterator":=by obtain⟨o,sl,h1,h2,_⟩:=h;exact⟨_,h1,h2⟩
theorem eK (b:Bool):(!(⟨7,(kz o0 o1 o2).toArray,#[],0,b,0,true⟩:SetTable).plain&&(Zj o0 o1 o2).toArray.size>1)=false:=rfl
theorem OC {Q:ya->Sa->Prop} (hS:S3 w s.heap a ep o0 o1 o2)
 (hQ:Q (.ref s.heap.objs.size) {s with heap:=s.heap.push {cls:=.type "set_iterator",data:=.fields #[.int 0 0,.int 0 0,.ref a,.int ((Zj o0 o1 o2).length:Nat) 0,.int (ep:Nat) 0]}}):
 Wa (Fb pg w) A (pyIter (.ref a)) Q E s:=by
 refine wpAny_pyIter_slot hS.typeIs vJ (wpAny_call_entry vJ hS.typeIs SF.entry_set_iter ?_ (F.args_set_iter_1 _));unfold Builtin.«frozenset.__iter__» NF slotArgs;simp only[Rl,Zb,Nc,↓reduceIte,bind_assoc,bb,bne_self_eq_false];unfold KF MF;refine ia (Ba ?_)
 try dsimp only
 refine ia (Ba ?_);refine ia (ia (wpAny_setEntries_of hS rfl (Bg _ _ _ _) (Ba ?_)));unfold setDrawn;refine ia (ia (wpAny_setState_of hS rfl (Bg _ _ _ _) ?_))
 dsimp only
 unfold setsByText;refine ia (ia (wpAny_askSetting (Ba ?_)));refine Ba ?_
 show Wa _ _ (if(!w.params.followText "set-order"&&false)=true then _ else _) _ _ _
 rw[bk];rw[if_neg ke];refine ia (Ba ?_);refine ia (wpAny_setEpoch_of hS rfl (Bg _ _ _ _) ?_);refine ia (wpAny_newObj_type (Ba ⟨_,rfl,"set_iterator",_,⟨_,Pa _ rfl,rfl⟩,SF.slot_set_iterator_next.lookup,?_⟩))
 simpa [rawInt]using hQ
theorem Ft {slot:Nat} {Q:Option (ya×Nat)->Sa->Prop} (hS:S3 w s.heap a ep o0 o1 o2) (yw:w.params.followText "set-order"=false->fi (kz o0 o1 o2).toArray slot=i)
 (hQ:∀r:Option (ya×Nat),r.map (·.1)=(wk w a ep o0 o1 o2)[i]?.map (·.2)->(∀p,r=aa p->w.params.followText "set-order"=false->fi (kz o0 o1 o2).toArray p.2=i+1)->Q r s):
 Wa (Fb pg w) A (setNext a slot i ep) Q E s:=by
 unfold setNext;refine ia (wpAny_setState_of hS rfl (Bg _ _ _ _) ?_)
 dsimp only
 unfold setsByText;refine ia (ia (wpAny_askSetting (Ba ?_)))
 dsimp only
 cases hb:w.params.followText "set-order"with
 |true=>
  rw[if_pos (show(Fb pg w).w.params.followText "set-order"=true from hb)];rw[if_neg (by simp)];unfold setWalk;refine ia (ia (wpAny_setState_of hS rfl (Bg _ _ _ _) ?_))
  dsimp only
  unfold setsByText;refine ia (ia (wpAny_askSetting (Ba ?_)))
  dsimp only
  rw[if_pos (show(Fb pg w).w.params.followText "set-order"=true from hb)];refine ia (wpAny_askSetting (Ba ?_));refine Ba (hQ _ ?_ ?_)
  ·unfold wk;rw[if_pos hb,fm,Option.map_map];rfl
  ·intro p _ hf;rw[hb]at hf;cases hf
 |false=>
  rw[if_neg (show¬((Fb pg w).w.params.followText "set-order"=true)from by show¬(w.params.followText "set-order"=true);rw[hb];exact ke)];have hw:wk w a ep o0 o1 o2=Zj o0 o1 o2:=by unfold wk;rw[hb];rfl
  rw[hw]at hQ;have En:=yw hb;refine wpAny_ite_split (λh=>absurd (show false=true from h) ke) (λ_=> ?_);refine ia ?_
  show Wa _ _ (pure ()) _ _ _
  refine Ba ?_;rw[En];have hlen:=ZA o0 o1 o2;rw[pz,pz];cases he:(Zj o0 o1 o2)[i]? with
  |none=>
   refine Ba (hQ _ (by rw[he];rfl) ?_);intro p hp;cases hp
  |some e=>
   have hi:i<(kz o0 o1 o2).length:=by rw[<-hlen];exact(ca.mp he).1
   have hp:=da hi;rw[hp];obtain⟨k,x⟩:=e;refine Ba (hQ _ (by rw[he];rfl) ?_);intro p hp' _;cases hp';exact OE _ _ _ _ _ hp
theorem VF {n:Nat} {o:Obj} {slot Gy:Nat} (ho:s.heap.get? it=aa o) (hc:o.cls=.type "set_iterator") (hd:o.data=.fields #[.int (slot:Nat) 0,.int (i:Nat) 0,.ref a,.int (n:Nat) 0,.int (ep:Nat) 0])
 (yw:w.params.followText "set-order"=false->fi (kz o0 o1 o2).toArray Gy=i+1):
 XB w ((s.heap.update it (jl (·.setIfInBounds 0 (rawInt (Gy:Nat))))).update it (jl (·.setIfInBounds 1 (rawInt ((i:Int)+1))))) it a (i+1) n ep o0 o1 o2:=by
 have h1:=qd (jl (·.setIfInBounds 0 (rawInt (Gy:Nat)))) ho (bj (ef hd _));have hd1:=ef hd (·.setIfInBounds 0 (rawInt (Gy:Nat)));have h2:=qd (jl (·.setIfInBounds 1 (rawInt ((i:Int)+1)))) h1 (bj (ef hd1 _));refine⟨_,Gy,h2,(lr ..).trans ((lr ..).trans hc),?_,yw⟩;rw[ef hd1];simp[rawInt]
theorem xt {n:Nat} {e:Int×ya} {Q:Option ya->Sa->Prop} (ao:XB w s.heap it a i n ep o0 o1 o2) (hn:n=(Zj o0 o1 o2).length) (hS:S3 w s.heap a ep o0 o1 o2) (hx:(wk w a ep o0 o1 o2)[i]? =aa e)
 (hQ:∀h',XB w h' it a (i+1) n ep o0 o1 o2->Hg it s.heap h'->Q (aa e.2) {s with heap:=h'}):
 Wa (Fb pg w) A (pyNext (.ref it)) Q E s:=by
 have hT:=ao.typeIs;obtain⟨o,slot,ho,hc,hd,yw⟩:=id ao;unfold pyNext;refine ia (wpAny_attempt (wpAny_callSpecial?_slot (name:=Jg "__next__") hT SF.slot_set_iterator_next
  (wpAny_call_entry SF.slot_set_iterator_next hT SF.entry_set_iterator_next ?_ (SF.args_set_iterator_next_1 _))))
 unfold Builtin.«set_iterator.__next__» slotArgs;simp only[Rl,Zb,Nc,↓reduceIte,bind_assoc,bb,bne_self_eq_false];refine ia (Ba ?_)
 try dsimp only
 refine ia (wpAny_fieldsOf ho hd ?_)
 dsimp only
 refine ia (wpAny_setEntries_of hS rfl (Bg _ _ _ _) ?_);rw[if_neg (by rw[hn];simp)];refine ia ?_;simp only[ze];refine Ft hS yw λr hr hr2=> ?_;rw[hx]at hr;cases r with
 |none=>cases hr
 |some p=>
  obtain⟨x,sl⟩:=p;simp only[Se,Tc]at hr
  dsimp only
  refine ia (wpAny_setField ho hd (by simp) ?_);have h1:=qd (jl (·.setIfInBounds 0 (rawInt (sl:Nat)))) ho (bj (ef hd _));refine ia (wpAny_setField h1 (ef hd _) (by simp) ?_);subst hr;exact Ba ⟨_,rfl,Ba (hQ _ (VF ho hc hd λq=>hr2 _ rfl q) ((pe ..).trans (pe ..)))⟩
theorem Fu {n:Nat} {Q:Option ya->Sa->Prop} (hh:A.handled=ba) (ao:XB w s.heap it a i n ep o0 o1 o2) (hn:n=(Zj o0 o1 o2).length) (hS:S3 w s.heap a ep o0 o1 o2) (hx:(wk w a ep o0 o1 o2)[i]? =ba)
 (hQ:∀h',CA it s.heap h'->Q ba {s with heap:=h'}):Wa (Fb pg w) A (pyNext (.ref it)) Q E s:=by
 have hT:=ao.typeIs;obtain⟨o,slot,ho,hc,hd,yw⟩:=id ao;unfold pyNext;refine ia (wpAny_attempt (wpAny_callSpecial?_slot (name:=Jg "__next__") hT SF.slot_set_iterator_next
  (wpAny_call_entry SF.slot_set_iterator_next hT SF.entry_set_iterator_next ?_ (SF.args_set_iterator_next_1 _))))
 unfold Builtin.«set_iterator.__next__» slotArgs;simp only[Rl,Zb,Nc,↓reduceIte,bind_assoc,bb,bne_self_eq_false];refine ia (Ba ?_)
 try dsimp only
 refine ia (wpAny_fieldsOf ho hd ?_)
 dsimp only
 refine ia (wpAny_setEntries_of hS rfl (Bg _ _ _ _) ?_);rw[if_neg (by rw[hn];simp)];refine ia ?_;simp only[ze];refine Ft hS yw λr hr hr2=> ?_;rw[hx]at hr;cases r with
 |some p=>cases hr
 |none=>
  dsimp only
  refine ia (wpAny_setField ho hd (by simp) ?_)
  show Wa _ _ (newExc (.type "StopIteration") []>>=_) _ _ _
  refine ia ?_;simp only[newExc,newTuple];refine ia (wpAny_newObj_type ?_ (by size_fits));refine ia (m:=firstArgMember _ _) (wpAny_of_eq (a:=zg) (by first|rfl|(simp only[firstArgMember];rfl)) ?_);refine wpAny_newObj_type ?_ (by size_fits);simp only[raiseNew];refine ia (wpAny_handled ?_);rw[show A.in1.handled=ba from hh];refine ia (Ba (wpAny_throw ?_));refine ia (wpAny_isInstance (T:="StopIteration") (b:=true) ⟨_,Pa _ rfl,rfl⟩ isSubtype_stop ?_);exact Ba (hQ _ (((pe ..).extBut.push _).push _))
theorem Walks.s3 (hh:A.handled=ba) (I a:Qa) (hne:a≠I) (ep:Nat) (o0 o1 o2:Option Tok):
 Walks pg w A I [I,a] [I] (Zj o0 o1 o2).length (λi v=>∃e,(wk w a ep o0 o1 o2)[i]? =aa e/\v=e.2) (λi h=>XB w h I a i (Zj o0 o1 o2).length ep o0 o1 o2/\S3 w h a ep o0 o1 o2)where
 sub:=λb hb=>by simp at hb;simp[hb]
 frame:=λ_ _ _ st hk=>⟨(let ⟨o,sl,ho,r⟩:=st.1;⟨o,sl,hk I (by simp) o ho,r⟩),hk a (by simp) _ st.2⟩
 item:=λi s Q E hi st hQ=>by
  have hl:=(Fo w a ep o0 o1 o2).length_eq;obtain⟨e,hx⟩:∃e,(wk w a ep o0 o1 o2)[i]? =aa e:=⟨(wk w a ep o0 o1 o2)[i],by simp[hl,hi]⟩;refine xt st.1 rfl st.2 hx λh' hit' hs'=> ?_;exact hQ _ h' s.toks ⟨e,hx,rfl⟩ ⟨hit',hs'.extBut a _ hne st.2⟩ λb o hb e=>hs'.extBut b o (λh=>hb (by simp[h])) e
 done:=λs Q E st hQ=>Fu hh st.1 rfl st.2 (by rw[Od,(Fo w a ep o0 o1 o2).length_eq];exact Le _) λh' he'=>hQ h' s.toks λb o hb e=>he' b o (λh=>hb (by simp[h])) e
 self:=λi s Q E st hQ=>by
  refine wpAny_pyIter_slot st.1.typeIs SF.slot_set_iterator_iter (wpAny_call_entry SF.slot_set_iterator_iter st.1.typeIs SF.entry_set_iterator_iter ?_ (SF.args_set_iterator_iter_1 _))
  show Wa _ _ (ret (.ref I)) _ _ s
  exact Ba ⟨_,rfl,"set_iterator",_,st.1.typeIs,SF.slot_set_iterator_next.lookup,hQ⟩
end
end Mine
namespace Mine
section
variable {w:Lb} {A:lc} {E:ya->Sa->Prop} {s:Sa} {a:Qa} {ep:Nat} {o0 o1 o2:Option Tok}
theorem Qm (o0 o1 o2:Option Tok):ElemsOf (intKind pg w) (Zj o0 o1 o2).toArray.toList:=by
 intro e he;unfold Zj Xl at he;cases o0<;>cases o1<;>cases o2<;>simp at he<;>(try rcases he with rfl|rfl|rfl)<;>(try rcases he with rfl|rfl)<;>(try subst he)<;>exact⟨⟨_,intKind_is _ _ _ _,rfl⟩,rfl⟩
abbrev FK (b:Bool) (o0 o1 o2:Option Tok):SetTable:=⟨7,(kz o0 o1 o2).toArray,#[],0,b,0,true⟩
theorem Us (o0 o1 o2:Option Tok):(Zj o0 o1 o2).toArray.size<scanBound:=by
 have:=pw o0 o1 o2;rw[gb,show scanBound=4096 from rfl];omega
theorem Oj {k:Int} {t:Tok} {j:Nat} {Q:Bool->Sa->Prop} (hS:S3 w s.heap a ep o0 o1 o2) (hr:(Zj o0 o1 o2).toArray.toList.findIdx? (λe=>(intKind pg w).is k e.2)=aa j) (hQ:Q false s):
 Wa (Fb pg w) A (setAddHashed a (.int k t) (hashInt k)) Q E s:=by
 unfold setAddHashed setAddHashedIn;refine Xb (ia (wpAny_setState_of hS rfl (Bg _ _ _ _) ?_))
 dsimp only
 rw[byScan_of (knd:=intKind pg w) rfl (Us _ _ _) (Qm _ _ _)];simp only[↓reduceIte];unfold setAddByScan;refine ia ?_;refine ia (wpAny_rule ?_);refine ia (wpAny_setScan_of (knd:=intKind pg w) (intKind_is _ _ _ _) hS rfl (Bg _ _ _ _) (Qm _ _ _) ?_);rw[hr];exact Ba (Ba hQ)
theorem mA {k:Int} {t:Tok} {p0 p1 p2:Option Tok} {Q:Bool->Sa->Prop} (hS:S3 w s.heap a ep o0 o1 o2) (hr:(Zj o0 o1 o2).toArray.toList.findIdx? (λe=>(intKind pg w).is k e.2)=ba)
 (hL:∀b,layNew (FK b o0 o1 o2) (Zj o0 o1 o2).toArray (hashInt k) (.int k t)=((Zj p0 p1 p2).toArray,FK b p0 p1 p2,false,false)) (hF:∀b,(FK b p0 p1 p2).tooFull=false)
 (hQ:∀h',Hg a s.heap h'->S3 w h' a (ep+1) p0 p1 p2->Q true {s with heap:=h'}):
 Wa (Fb pg w) A (setAddHashed a (.int k t) (hashInt k)) Q E s:=by
 unfold setAddHashed setAddHashedIn;refine Xb (ia (wpAny_setState_of hS rfl (Bg _ _ _ _) ?_))
 dsimp only
 rw[byScan_of (knd:=intKind pg w) rfl (Us _ _ _) (Qm _ _ _)];simp only[↓reduceIte];unfold setAddByScan;refine ia ?_;refine ia (wpAny_rule ?_);refine ia (wpAny_setScan_of (knd:=intKind pg w) (intKind_is _ _ _ _) hS rfl (Bg _ _ _ _) (Qm _ _ _) ?_);rw[hr]
 dsimp only
 rw[hL]
 dsimp only
 refine ia (Ba ?_);rw[if_pos rfl];rw[hashByValue_scannable 8 (x:=.int k t) rfl];refine ia (Ba ?_);rw[if_pos (show plainKind (.int k t)=true from rfl)];refine ia (wpAny_storeSet_of hS rfl ?_ (fits_of_scanBound (Us _ _ _)));rw[hF];refine Ba (Ba (hQ _ (pe _ _ _) ?_));have:=qd (Obj.putSet (Zj p0 p1 p2).toArray (FK (!w.params.followText "set-order") p0 p1 p2)) hS (by rw[putSet_of _ _ rfl];rfl);rw[putSet_of _ _ rfl]at this;exact this
def wy (k:Int) (t:Tok) (j:Int) (o:Option Tok):Option Tok:=if k=j then aa (o.getD t)else o
theorem WI {k:Int} {t:Tok} {Q:Bool->Sa->Prop} (hk:k=0\/k=1\/k=2) (hS:S3 w s.heap a ep o0 o1 o2)
 (hQ:∀b ep' h',Hg a s.heap h'->S3 w h' a ep' (wy k t 0 o0) (wy k t 1 o1) (wy k t 2 o2)->Q b {s with heap:=h'}):
 Wa (Fb pg w) A (setAddHashed a (.int k t) (hashInt k)) Q E s:=by
 have e0:s={s with heap:=s.heap}:=rfl;have same:=λb h=>hQ b ep s.heap (nK a s.heap) h;have hi:∀(k j:Int) (u:Tok),(intKind pg w).is k (.int j u)=decide (j=k):=λk j u=>rfl;rcases hk with rfl|rfl|rfl
 ·cases o0 with
  |some u=>exact Oj (j:=0) hS (by simp[Zj,Xl,hi,qe]) (same false hS)
  |none=>
   cases o1<;>cases o2<;>exact mA (p0:=aa t) hS (by simp[Zj,Xl,hi]) (λb=>by kernel_rfl) (λb=>by kernel_rfl) λh' x y=>hQ true _ h' x y
 ·cases o1 with
  |some u=>
   cases o0
   ·exact Oj (j:=0) hS (by simp[Zj,Xl,hi,qe]) (same false hS)
   ·exact Oj (j:=1) hS (by simp[Zj,Xl,hi,qe]) (same false hS)
  |none=>
   cases o0<;>cases o2<;>exact mA (p1:=aa t) hS (by simp[Zj,Xl,hi]) (λb=>by kernel_rfl) (λb=>by kernel_rfl) λh' x y=>hQ true _ h' x y
 ·cases o2 with
  |some u=>
   cases o0<;>cases o1
   ·exact Oj (j:=0) hS (by simp[Zj,Xl,hi,qe]) (same false hS)
   ·exact Oj (j:=1) hS (by simp[Zj,Xl,hi,qe]) (same false hS)
   ·exact Oj (j:=1) hS (by simp[Zj,Xl,hi,qe]) (same false hS)
   ·exact Oj (j:=2) hS (by simp[Zj,Xl,hi,qe]) (same false hS)
  |none=>
   cases o0<;>cases o1<;>exact mA (p2:=aa t) hS (by simp[Zj,Xl,hi]) (λb=>by kernel_rfl) (λb=>by kernel_rfl) λh' x y=>hQ true _ h' x y
end
def Hq (ns:List Int) (o0 o1 o2:Option Tok):Prop:=o0.isSome=ns.contains 0/\o1.isSome=ns.contains 1/\o2.isSome=ns.contains 2
theorem Hq.step {ns:List Int} {o0 o1 o2:Option Tok} (h:Hq ns o0 o1 o2) (k:Int) (t:Tok):Hq (ns++[k]) (wy k t 0 o0) (wy k t 1 o1) (wy k t 2 o2):=by
 have key:∀(j:Int) (o:Option Tok),o.isSome=ns.contains j->(wy k t j o).isSome=(ns++[k]).contains j:=λj o e=>by
  unfold wy;rw[List.contains_eq_any_beq]at e|-;rw[List.any_append,<-e]
  by_cases q:k=j
  ·subst q;simp
  ·simp only[q,if_false];simp;exactλh=>absurd h.symm q
 exact⟨key _ _ h.1,key _ _ h.2.1,key _ _ h.2.2⟩
section
variable {w:Lb} {A:lc} {R:Result->Sa->Prop} {I:Qa} {fp wr:List Qa} {G:Array GenState->Array GenState->Prop} {n:Nat} {P:Nat->ya->Prop} {St:Nat->Sa->Prop}
theorem Dy (W:WalksS pg w A.in1 I fp wr G n P St) (S:Qa) (hSf:S∉fp) (ns:List Int) (hn:ns.length=n) (h3:∀k∈ns,k=0\/k=1\/k=2) (hval:∀i v,P i v->∃t,v=.int (ns.getD i 0) t):
 ∀(k i:Nat) (s:Sa) (ep:Nat) (o0 o1 o2:Option Tok),n - i=k->i<=n->St i s->S3 w s.heap S ep o0 o1 o2->Hq (ns.take i) o0 o1 o2->
  (∀s' ep' p0 p1 p2,Moved (S::wr) G s s'->S3 w s'.heap S ep' p0 p1 p2->Hq ns p0 p1 p2->R (.ok (.ret .none)) s')->
  ai (Fb pg w) A (.builtin "set.update.loop" ⟨[.ref S,.ref I],[]⟩) R s:=by
 have hSw:S∉wr:=λh=>hSf (W.sub _ h);have gp:∀b∈wr,b∈S::wr:=λb hb=>Ia _ hb;intro k
 induction k with
 |zero=>
  intro i s ep o0 o1 o2 hk hi xr hS hF hR;have hin:i=n:=by omega
  subst hin;refine codeAny_builtin BA ?_;rw[jf om _]
  show Wa _ A.in1 (pyNext (.ref I)>>=_) _ _ s
  refine ia (W.done s _ _ xr λs' hm=> ?_)
  show Wa _ A.in1 (ret zg) _ _ s'
  rw[<-hn,Xd]at hF;exact Ba (hR s' ep _ _ _ (hm.mono gp) (hm.heap S _ hSw hS) hF)
 |succ k ih=>
  intro i s ep o0 o1 o2 hk hi xr hS hF hR;have wh:i<n:=by omega
  refine codeAny_builtin BA ?_;rw[jf om _]
  show Wa _ A.in1 (pyNext (.ref I)>>=_) _ _ s
  refine ia (W.item i s _ _ wh xr λv s' hP hst' hm=> ?_);obtain⟨t,rfl⟩:=hval i v hP;have zu:=hm.heap S _ hSw hS;have hi':i<ns.length:=by omega
  have hget:ns.getD i 0=ns[i]:=by rw[Xa,da hi'];rfl
  show Wa _ A.in1 (holding [Wj (ns.getD i 0) t] (setAdd S (.int (ns.getD i 0) t))>>=_) _ _ s'
  refine ia (Xb ?_);unfold setAdd;refine Xb ?_;refine ia ((intKind pg w).pyHash (k:=ns.getD i 0) (intKind_is _ _ _ _) ?_);refine WI (s:={s' with toks:=s'.toks+1}) (h3 _ (by rw[hget];exact List.getElem_mem hi')) zu λb ep' h' hsb hS2=> ?_;refine Ba ⟨plainId_quiet om _,ih (i+1) _ ep' _ _ _ (by omega) wh (W.frame _ s' _ _ hst' (wi _) λb hb o e=> ?_) hS2 (by rw[List.take_succ_eq_append_getElem hi',<-hget];exact hF.step _ _) λs'' ep'' p0 p1 p2 hm'' hS'' hF''=> ?_⟩
  ·rw[hsb.2 b (λh:b=S=>hSf (by rw[<-h];exact hb))];exact e
  ·refine hR s'' ep'' p0 p1 p2 (Moved.trans W.gtrans ((hm.mono gp).then_heap (wi _) λb o hb e=> ?_) hm'') hS'' hF''
   rw[hsb.2 b (λh:b=S=>hb (by rw[h];exact Ma))];exact e
end
end Mine
namespace Mine
abbrev Vk (w:Lb):Obj:={cls:=.type "set",dict:=ba,data:=.set #[] 0 (.fresh 0 0 (!w.params.followText "set-order"))}
theorem fK {w:Lb} {h:Gb}:S3 w (h.push (Vk w)) h.objs.size 0 ba ba ba:=Pa _ rfl
theorem S3.keep {w:Lb} {h h':Gb} {a:Qa} {ep:Nat} {o0 o1 o2:Option Tok} (e:S3 w h a ep o0 o1 o2) (hk:∀x,h.get? a=aa x->h'.get? a=aa x):S3 w h' a ep o0 o1 o2:=hk _ e
section
variable {w:Lb} {A:lc} {E:ya->Sa->Prop} {s:Sa}
theorem Ey (a:ya) {Q₁:ya->Sa->Prop}
 (h:Q₁ (.ref s.heap.objs.size) {s with heap:=s.heap.push (Vk w)}):
 ai (Fb pg w) A (.call (.builtin "set.__new__") ⟨[.type "set",a],[]⟩) (wants Q₁ E) s:=by
 refine codeAny_of_tree ?_
 show Wa _ A.in1 (do checkBuiltinCall "set.__new__" ⟨[.type "set",a],[]⟩;again (.builtin "set.__new__" ⟨[.type "set",a],[]⟩)) _ _ s
 refine ia (wpAny_of_eq (F.newCall_set_1 a) (Ba ⟨plainId_quiet uJ _,codeAny_builtin F.entry_set_new ?_⟩));rw[jf uJ _];unfold Builtin.«set.__new__» LF;have gp:=sub_set_self;obtain⟨hp,g,d,tk,os⟩:=s
 dsimp only
 wp_walk
 refine wpAny_askSetting (Ba ?_)
 dsimp only
 simp only[newObj];refine ia (wpAny_alloc (Ba ?_));exact Ba h
set_option maxHeartbeats 3200000 in
theorem Fy {l:Qa} {items:Array ya} {ns:List Int} {Q:ya->Sa->Prop}
 (hh:A.handled=ba) (hl:s.heap.IsList l items) (hi:IntsAre items.toList ns) (h3:∀k∈ns,k=0\/k=1\/k=2)
 (h:∀(h':Gb) (tk:Nat) ep o0 o1 o2,S3 w h' s.heap.objs.size ep o0 o1 o2->Hq ns o0 o1 o2->
  (∀b o,s.heap.get? b=aa o->h'.get? b=aa o)->Q (.ref s.heap.objs.size) {s with heap:=h',toks:=tk}):
 Wa (Fb pg w) A (call (.type "set") [.ref l]) Q E s:=by
 obtain⟨c,tl,hmro⟩:=fe.mro;have hmade:=fe.made;have gp:=fe.sub;refine wpAny_call (codeAny_of_tree ?_)
 show Wa _ _ (callAny (.type "set") _) _ _ _
 refine Ba ⟨eD _ (by decide+kernel),codeAny_builtin jH ?_⟩;rw[yA (weight_type_call_type "set" [.ref l] []) rfl];have h1:=fe.notType;have h2:=fe.canCreate;have hct:=IH (.ref l)
 repeat (any_goals (first|assumption|wp_step))
 refine Hc (Ey (.ref l) (E:=E) (Q₁:=λobj s₁=>obj=.ref s.heap.objs.size/\s₁={s with heap:=s.heap.push (Vk w)}) ⟨rfl,rfl⟩) λr s₁ hr=> ?_;cases r with
 |error e=>exact hr
 |ok fl=>
  cases fl with
  |ret obj=>
   obtain⟨rfl,rfl⟩:=hr;have hS:(s.heap.push (Vk w)).get? s.heap.objs.size=aa (Vk w):=Pa _ rfl;have hT:XF {s with heap:=s.heap.push (Vk w)} (.ref s.heap.objs.size) "set":=⟨_,hS,rfl⟩;have hli:=fe.init.lookup;have el:=fe.init.bind (.ref s.heap.objs.size)
   repeat (any_goals (first|assumption|wp_step))
   refine Hc (codeAny_call_builtin (R:=wants (λr s₂=>r=.none/\∃h' tk,s₂={s with heap:=h',toks:=tk}/\
    (∃ep o0 o1 o2,S3 w h' s.heap.objs.size ep o0 o1 o2/\Hq ns o0 o1 o2)/\
    (∀b o,s.heap.get? b=aa o->h'.get? b=aa o)) E) fe.init.plain HH (check_set_init_1 hT ?_)) λr₂ s₂ hr₂=> ?_
   ·obtain⟨ol,Jr,hcl,nl,hdl⟩:=hl
    obtain⟨ocls,odict,odata,oslots⟩:=ol;simp only at hcl hdl;subst hcl;subst hdl;have hol':(s.heap.push (Vk w)).get? l=aa {cls:=.type "list",dict:=odict,data:=.seq items nl,slots:=oslots}:=Da _ Jr;have hsls:=F.sub_list_set;have hslf:=F.sub_list_frozenset;have hne:(af "list"==af "dict")=false:=by decide
    have ku:(s.heap.push (Vk w)).IsList l items:=⟨_,hol',rfl,nl,rfl⟩;unfold Builtin.«set.__init__» noKeywords jm
    generalize hPI:pyIter=PI
    wp_walk
    subst hPI;refine wpAny_pyIter_list ku ?_;refine ia (wpAny_runValue ?_);have hlS:l<s.heap.objs.size:=Wb Jr;have hh3:A.in1.in1.in1.handled=ba:=by simp[hh]
    have hneI:l≠(s.heap.push (Vk w)).objs.size:=by
     rw[Td];exact Bc (ch hlS)
    have hSf:s.heap.objs.size∉[(s.heap.push (Vk w)).objs.size,l]:=by
     rw[Td];simp only[Fa,Za,or_false,not_or];exact⟨Bc (ej _),Ii hlS⟩
    have hval:∀(i:Nat) (v:ya),items[i]? =aa v->∃t,v=.int (ns.getD i 0) t:=λi v hv=>
     rD hi i v (by rw[fm];exact hv)
    have ak:ns.length=items.size:=by rw[<-sD hi,zA]
    refine Dy ((Walks.list hh3 _ l hneI items).toS) s.heap.objs.size
     hSf ns ak h3 hval (items.size - 0) 0 _ 0 ba ba ba (by omega) (Ae _)
     ⟨⟨_,Pa _ rfl,rfl,rfl⟩,(ku.push _)⟩ (Da _ hS) ⟨rfl,rfl,rfl⟩ ?hR
    case hR=>
     intro s' ep' p0 p1 p2 hm zu hF';obtain⟨h',g',d',tk',os'⟩:=s';have eg:g'=s.gens:=hm.gens;have ed:d'=s.drawn:=hm.drawn;have eo:os'=s.os:=hm.os;subst eg;subst ed;subst eo
     show Wa _ _ _ _ _ _
     refine Ba ?_
     show Wa _ _ (ret zg) _ _ _
     refine Ba ⟨rfl,h',tk',rfl,⟨_,_,_,_,zu,hF'⟩,λb o e=> ?_⟩;have hb:=Wb e;have Zn:b≠s.heap.objs.size:=Bc hb;have hb2:b≠(s.heap.push (Vk w)).objs.size:=by
      rw[Td];exact Bc (ch hb)
     exact hm.heap b o (by simp only[Fa,Za,or_false,not_or];exact⟨Zn,hb2⟩) (Da _ (Da _ e))
   ·cases r₂ with
    |error e=>exact hr₂
    |ok fl₂=>
     cases fl₂ with
     |ret r=>
      obtain⟨rfl,h',tk,rfl,⟨ep,o0,o1,o2,zu,hF'⟩,hk'⟩:=hr₂
      repeat (any_goals (first|assumption|wp_step))
      exact h _ _ _ _ _ _ zu hF' hk'
     |_=>exact hr₂.elim
  |_=>exact hr.elim
set_option maxHeartbeats 3200000 in
theorem Tw {l:Qa} {items:Array ya} {ns:List Int} {Q:ya->Sa->Prop}
 (hh:A.handled=ba) (hl:s.heap.IsTuple l items) (hi:IntsAre items.toList ns) (h3:∀k∈ns,k=0\/k=1\/k=2)
 (h:∀(h':Gb) (tk:Nat) ep o0 o1 o2,S3 w h' s.heap.objs.size ep o0 o1 o2->Hq ns o0 o1 o2->
  (∀b o,s.heap.get? b=aa o->h'.get? b=aa o)->Q (.ref s.heap.objs.size) {s with heap:=h',toks:=tk}):
 Wa (Fb pg w) A (call (.type "set") [.ref l]) Q E s:=by
 obtain⟨c,tl,hmro⟩:=fe.mro;have hmade:=fe.made;have gp:=fe.sub;refine wpAny_call (codeAny_of_tree ?_)
 show Wa _ _ (callAny (.type "set") _) _ _ _
 refine Ba ⟨eD _ (by decide+kernel),codeAny_builtin jH ?_⟩;rw[yA (weight_type_call_type "set" [.ref l] []) rfl];have h1:=fe.notType;have h2:=fe.canCreate;have hct:=IH (.ref l)
 repeat (any_goals (first|assumption|wp_step))
 refine Hc (Ey (.ref l) (E:=E) (Q₁:=λobj s₁=>obj=.ref s.heap.objs.size/\s₁={s with heap:=s.heap.push (Vk w)}) ⟨rfl,rfl⟩) λr s₁ hr=> ?_;cases r with
 |error e=>exact hr
 |ok fl=>
  cases fl with
  |ret obj=>
   obtain⟨rfl,rfl⟩:=hr;have hS:(s.heap.push (Vk w)).get? s.heap.objs.size=aa (Vk w):=Pa _ rfl;have hT:XF {s with heap:=s.heap.push (Vk w)} (.ref s.heap.objs.size) "set":=⟨_,hS,rfl⟩;have hli:=fe.init.lookup;have el:=fe.init.bind (.ref s.heap.objs.size)
   repeat (any_goals (first|assumption|wp_step))
   refine Hc (codeAny_call_builtin (R:=wants (λr s₂=>r=.none/\∃h' tk,s₂={s with heap:=h',toks:=tk}/\
    (∃ep o0 o1 o2,S3 w h' s.heap.objs.size ep o0 o1 o2/\Hq ns o0 o1 o2)/\
    (∀b o,s.heap.get? b=aa o->h'.get? b=aa o)) E) fe.init.plain HH (check_set_init_1 hT ?_)) λr₂ s₂ hr₂=> ?_
   ·obtain⟨ol,Jr,hcl,nl,hdl⟩:=hl
    obtain⟨ocls,odict,odata,oslots⟩:=ol;simp only at hcl hdl;subst hcl;subst hdl;have hol':(s.heap.push (Vk w)).get? l=aa {cls:=.type "tuple",dict:=odict,data:=.seq items nl,slots:=oslots}:=Da _ Jr;have hsls:=F.sub_tuple_set;have hslf:=F.sub_tuple_frozenset;have hne:(af "tuple"==af "dict")=false:=by decide
    have ku:(s.heap.push (Vk w)).IsTuple l items:=⟨_,hol',rfl,nl,rfl⟩;unfold Builtin.«set.__init__» noKeywords jm
    generalize hPI:pyIter=PI
    wp_walk
    subst hPI;refine wpAny_pyIter_tuple ku ?_;refine ia (wpAny_runValue ?_);have hlS:l<s.heap.objs.size:=Wb Jr;have hh3:A.in1.in1.in1.handled=ba:=by simp[hh]
    have hneI:l≠(s.heap.push (Vk w)).objs.size:=by
     rw[Td];exact Bc (ch hlS)
    have hSf:s.heap.objs.size∉[(s.heap.push (Vk w)).objs.size,l]:=by
     rw[Td];simp only[Fa,Za,or_false,not_or];exact⟨Bc (ej _),Ii hlS⟩
    have hval:∀(i:Nat) (v:ya),items[i]? =aa v->∃t,v=.int (ns.getD i 0) t:=λi v hv=>
     rD hi i v (by rw[fm];exact hv)
    have ak:ns.length=items.size:=by rw[<-sD hi,zA]
    refine Dy ((Walks.tuple hh3 _ l hneI items).toS) s.heap.objs.size
     hSf ns ak h3 hval (items.size - 0) 0 _ 0 ba ba ba (by omega) (Ae _)
     ⟨⟨_,Pa _ rfl,rfl,rfl⟩,(ku.push _)⟩ (Da _ hS) ⟨rfl,rfl,rfl⟩ ?hR
    case hR=>
     intro s' ep' p0 p1 p2 hm zu hF';obtain⟨h',g',d',tk',os'⟩:=s';have eg:g'=s.gens:=hm.gens;have ed:d'=s.drawn:=hm.drawn;have eo:os'=s.os:=hm.os;subst eg;subst ed;subst eo
     show Wa _ _ _ _ _ _
     refine Ba ?_
     show Wa _ _ (ret zg) _ _ _
     refine Ba ⟨rfl,h',tk',rfl,⟨_,_,_,_,zu,hF'⟩,λb o e=> ?_⟩;have hb:=Wb e;have Zn:b≠s.heap.objs.size:=Bc hb;have hb2:b≠(s.heap.push (Vk w)).objs.size:=by
      rw[Td];exact Bc (ch hb)
     exact hm.heap b o (by simp only[Fa,Za,or_false,not_or];exact⟨Zn,hb2⟩) (Da _ (Da _ e))
   ·cases r₂ with
    |error e=>exact hr₂
    |ok fl₂=>
     cases fl₂ with
     |ret r=>
      obtain⟨rfl,h',tk,rfl,⟨ep,o0,o1,o2,zu,hF'⟩,hk'⟩:=hr₂
      repeat (any_goals (first|assumption|wp_step))
      exact h _ _ _ _ _ _ zu hF' hk'
     |_=>exact hr₂.elim
  |_=>exact hr.elim
end
end Mine
namespace Mine
theorem QG {w:Lb} {A:lc} {E:ya->Sa->Prop} {s:Sa} {r:Qa} {Q:Bool->Sa->Prop} (hT:s.TypeIs (.ref r) "set") (h:Q false s):Wa (Fb pg w) A (Oo (.ref r)) Q E s:=by
 unfold Oo;refine ia (wpAny_specialOf hT PySem.F.slot_set_len.lookup ?_)
 generalize hid:("set.__len__":String)=id0
 wp_delta
 rw[show splitId id0=aa ("set","__len__")from by subst hid;decide+kernel];subst hid;refine ia (wpAny_isInstance (T:="set") (b:=true) hT (by rw[isSubtype_type];kernel_rfl) ?_);refine wpAny_ite_split (λhab=>absurd hab (by decide)) (λ_=> ?_);refine wpAny_ite_split (λ_=> ?_) (λhab=>absurd (by decide+kernel) hab);refine ia (wpAny_typeOf hT ?_);exact Ba h
theorem XI {w:Lb} {a:Qa} {ep:Nat} {o0 o1 o2:Option Tok}:KdlSrc pg w "set" a a (Zj o0 o1 o2).length (λi v=>∃e,(wk w a ep o0 o1 o2)[i]? =aa e/\v=e.2) (λh=>S3 w h a ep o0 o1 o2)where
 type:=λ_ hm=>S3.typeIs hm
 there:=λ_ hm=>⟨Wb hm,Wb hm⟩
 keep:=λ_ _ hm hk=>hk a (.inl rfl) _ hm
 notList:=by decide
 notTuple:=by decide
 hint:=λ_ _ _ _ hm hq=>QG (S3.typeIs hm) hq
 iter:=λ_ s hh hm=>⟨_,_,(λ_ _ hq=>OC hm hq),Walks.s3 hh _ a (Bc (Wb hm)) ep o0 o1 o2,
  ⟨⟨_,0,Pa _ rfl,rfl,rfl,λ_=>PE _ _ _⟩,Da _ hm⟩⟩
theorem UJ (o0 o1 o2:Option Tok):(Zj o0 o1 o2).map (·.2)=((if o0.isSome then[Wj 0 (o0.getD 0)]else[])++((if o1.isSome then[Wj 1 (o1.getD 0)]else[])++(if o2.isSome then[Wj 2 (o2.getD 0)]else[]))):=by
 cases o0<;>cases o1<;>cases o2<;>rfl
theorem lv {xs:List Int} {o0 o1 o2:Option Tok} (h0:o0.isSome=xs.contains 0) (h1:o1.isSome=xs.contains 1) (h2:o2.isSome=xs.contains 2):(Zj o0 o1 o2).map (·.1)=Mf xs/\∀e∈Zj o0 o1 o2,∃t,e.2=.int e.1 t:=by
 unfold Mf;simp only[Vd,zj,<-h0,<-h1,<-h2];cases o0<;>cases o1<;>cases o2<;>refine⟨rfl,?_⟩<;>intro e he<;>simp[Zj,Xl]at he<;>(try rcases he with rfl|rfl|rfl)<;>(try rcases he with rfl|rfl)<;>(try subst he)<;>exact⟨_,rfl⟩
theorem wu (xs:List Int):(Mf xs).Pairwise (· <= ·):=FJ _ (by decide)
variable [Av]
section
variable {w:Lb} {hb:Gb} {L:Qa} {ρ:List Qa} {σ Ca:St} {s:Sa} {A:lc} {n:Nat}
theorem oA {xs:List Int} {o:ya} (r:R w hb ρ σ s.heap) (x:VR w ρ s.heap (.iset xs) o):Wa (Fb pg w) A (call (.builtin "len") [o]) (PV w hb L ρ s σ (.int (Mf xs).length)) No s:=by
 cases x with
 |iset h0 h1 h2 h=>
 rename_i a o0 o1 o2;obtain⟨ep,h⟩:=h;have h':S3 w s.heap a ep o0 o1 o2:=h;refine call_len_set (es:=(Zj o0 o1 o2).toArray) h' ⟨rfl,rfl,rfl⟩ rfl (Bg _ _ _ _) ?_ ?_
 ·have:=pw o0 o1 o2
  rw[gb];omega
 ·rw[gb,show(Zj o0 o1 o2).length=(Mf xs).length from by rw[<-(lv h0 h1 h2).1,ja]]
  exact PV.same r (.int _ _)
theorem Ju {xs:List Int} {o:ya} {v:V} (AK:yi n A) (r:R w hb ρ σ s.heap) (l:qu hb L ρ s.heap) (x:VR w ρ s.heap (.iset xs) o) (en:newL ((Mf xs).map V.int) σ=aa (v,Ca)):
 Wa (Fb pg w) A (call (.builtin "sorted") [o]) (PV w hb L ρ s Ca v) No s:=by
 cases x with
 |iset h0 h1 h2 h=>
 rename_i a o0 o1 o2;obtain⟨ep,h⟩:=h;have h':S3 w s.heap a ep o0 o1 o2:=h;have pB:=pw o0 o1 o2;obtain⟨hc,hk⟩:=lv h0 h1 h2;have hp:=Fo w a ep o0 o1 o2;obtain⟨mm,hn⟩:=l.ns;refine kdu_sorted (XI (w:=w) (a:=a) (ep:=ep) (o0:=o0) (o1:=o1) (o2:=o2)) AK.hh (oj hn) Dg h' (by rw[Mc];omega) λD h' tk vs F' N' hD hvl hv=> ?_;have hi:IntsAre vs ((wk w a ep o0 o1 o2).map (·.1)):=by
  refine ip (w:=w) (by rw[hvl,hp.length_eq]) λj v q=> ?_;obtain⟨e,e1,e2⟩:=hv j v q;obtain⟨t,e3⟩:=hk e (hp.mem_iff.mp (ma e1));refine⟨e.1,e.2,e1,?_⟩;rw[e2,e3];exact intKind_is _ _ _ _
 refine ksk_lsort (A:=A.in1) (s:={s with heap:=h',toks:=tk}) (news':=λo=>(D,o)::pj s.heap L) (its:=vs.toArray) F' N' (λo=>zL λp hp=>Bc (hD p hp)) rfl hi (by rw[ja,hp.length_eq];omega) λvs' ns' c h'' F'' N'' i' _ p' o'' _=> ?_;have e1:=Fp p' o'';have e2:Mf xs=Gg ((wk w a ep o0 o1 o2).map (·.1)):=Fp ((hc▸(hp.map (·.1)).symm:(Mf xs).Perm _)) (wu xs);rw[<-e2]at e1;subst e1;have hg:s.heap.get? D=ba:=by
  cases q:s.heap.get? D with
  |none=>rfl
  |some ob=>
   by_cases hDL:D=L
   ·exact absurd hDL (N'' _ Ma).2.1
   ·exact absurd (hD _ (Pe.mpr ⟨hDL,q⟩)) (Ed _)
 exact qp (tk':=tk) r l hn F''.ns (News.keepAll1 N'') hg (N'' _ Ma).1 (au i') en
theorem OJ {is:List Int} (h:is.all (λi=>decide (0<=i)&&decide (i<=2))=true):∀k∈is,k=0\/k=1\/k=2:=λk hk=>by
 have:=Jb.mp h k hk;simp at this;omega
theorem pA {xs:List V} {is:List Int} {o:ya} (AK:yi n A) (r:R w hb ρ σ s.heap) (x:VR w ρ s.heap (.tup xs) o) (ei:Qg xs=aa is) (h3:is.all (λi=>decide (0<=i)&&decide (i<=2))=true):
 Wa (Fb pg w) A (call (.type "set") [o]) (PV w hb L ρ s σ (.iset is)) No s:=by
 cases x with
 | @tup a _ vs m nav e' l q=>
 have hi:=Mi ei q;refine Tw (items:=vs.toArray) (ns:=is) AK.hh (uf e') (by simpa using hi) (OJ h3) λh' tk ep o0 o1 o2 hS hF hk=> ?_;exact PV.grow r hk (.iset hF.1 hF.2.1 hF.2.2 ⟨ep,hS⟩)
theorem Cy {i:Nat} {xs:List V} {is:List Int} {o:ya} (AK:yi n A) (r:R w hb ρ σ s.heap) (x:VR w ρ s.heap (.ref i) o) (e:listAt σ i=aa xs) (ei:Qg xs=aa is) (h3:is.all (λi=>decide (0<=i)&&decide (i<=2))=true):
 Wa (Fb pg w) A (call (.type "set") [o]) (PV w hb L ρ s σ (.iset is)) No s:=by
 obtain⟨a,vs,m,rfl,_,q1,q2,q3⟩:=r.list e x;have hi:=Mi ei q3;refine Fy (items:=vs.toArray) (ns:=is) AK.hh (He q1) (by simpa using hi) (OJ h3) λh' tk ep o0 o1 o2 hS hF hk=> ?_;exact PV.grow r hk (.iset hF.1 hF.2.1 hF.2.2 ⟨ep,hS⟩)
theorem RG:wm w hb where
 len:=λ_ r x=>oA r x
 sorted:=λAK r l x en=>Ju AK r l x en
 ofTup:=λAK r x ei h3=>pA AK r x ei h3
 ofList:=λAK r x e ei h3=>Cy AK r x e ei h3
end
end Mine
set_option maxHeartbeats 4000000
namespace Mine
theorem YJ (hc:WalkO qv qq (XL qv []) (zF Kj) Hu.toRowW (by exact((defOf qv Hu.name).get (by decide+kernel)).1) (by exact((defOf qv Hu.name).get (by decide+kernel)).2) λf vs=>LJ f vs):jn.Holds:=by
 w_on
 o_law
 refine holds_open (r:=Hu) (q:=qv) (loose:=qq) (Xt:=λs=>xlAt qv [] s&&recOk (dz Hu.toRowW) s) (XP:=XL qv []) (Yf:=kH Kj) (Ya:=lH Kj) (YP:=zF Kj) (N:=6000) bK (Hook.of Kj) (Hook.keeps Kj) (λs e=>xl_of s (AA.mp e).1) XL.keeps (by rfl) (by rfl) (by rfl) (λs e=>recFacts_of (AA.mp e).2) (by rfl) (by assumption) (by decide+kernel) ⟨rfl,rfl,rfl,rfl,rfl,by decide+kernel⟩ ?hw ?hc
 case hw=>w_witness2
 case hc=>exact hc
end Mine
namespace Mine
def LB (l:Nat) (xs:List Int) (a:Nat):Option (List Int):=if a=l then aa xs else ba
def EA:Prop:=∀(l:Nat) (xs:List Int),xs.length<=63->∃σ,Oa (Ga (LB l xs)) yb 12 481 [.con (.ref l)] []=aa (.bool true,σ)
theorem IC (H:EA) {w:Lb} {K:Frag} {s:Sa} (x:K.In s.heap) (F:tm K) {l:Qa} {vs:List ya} {xs:List Int} (hL:s.heap.IsList l vs.toArray) (hI:IntsAre vs xs) (hx:xs.length<=63):
 ai (Fb pg w) callerA (.call (.ref 481) ⟨[.ref l],[]⟩) (λq s'=>∃h' tk',q=.ok (.ret (.bool true))/\s'={s with heap:=h',toks:=tk'}/\∀b o,s.heap.get? b=aa o->h'.get? b=aa o) s:=by
 obtain⟨Ca,e⟩:=H l xs hx;have B:gm s.heap K (Ga (LB l xs)):=ZF x F λa ys q=>by
  unfold LB at q
  split at q<;>cases q
  rename_i z;subst z;exact⟨by omega,vs,hL,hI⟩
 have GO:=VJ x F;have C:=OA (w:=w) B (RH (scr:=LB l xs) F) GO (λI=>RG) (λI=>oJ B GO) (JI x F) (dJ F) 12 ⟨λ_=>False⟩;have AK: @yi 24 callerA:=⟨rfl,by decide+kernel,by decide+kernel⟩
 letI:Av:=⟨λ_=>False⟩
 have r:R w s.heap [] [] s.heap:=⟨rfl,.nil,λa h=>(Za h).elim,λa h=>h.elim,λ_ _ e=>e,λi o a e=>by simp at e⟩;refine Hc (C callerA AK 481 [.con (.ref l)] [.ref l] [] [] s (.bool true) Ca 0 r (by simp) (.cons (.con _) .nil) e) (λq s' p=> ?_);obtain⟨val,rfl,Zd,h',tk',rfl,k,r',xv⟩:=p;cases xv;exact⟨h',tk',rfl,rfl,λb o e=>r'.base b o e⟩
theorem lK (H:EA):WalkO qv qq (XL qv []) (zF Kj) Hu.toRowW (by exact((defOf qv Hu.name).get (by decide+kernel)).1) (by exact((defOf qv Hu.name).get (by decide+kernel)).2) λf vs=>LJ f vs:=by
 intro w s₀ s₁ mg mb G Y fa o pm cd doc dV kV ho hd hcd hD hmg hg args vals as Bl hlay hrd Ko hlo;obtain⟨K,x,F⟩:=Y;have T:=G.T
 clear ho hd hcd hD
 wrow_args Bl hlay hrd Ko hlo
 refine enter_call ?_;rename_i xs _ _ _ _ _ _ _ l vs _ hL _ _ _ hI _ hlen _;have hx:xs.length<=63:=by omega
 have hfa:fa=481:=by
  have q:=MI x F T.g;have q2:mg ("law":Rb)=aa (.ref fa):=hmg;rw[q]at q2;cases q2;rfl
 subst hfa;refine Hc (IC H x F hL hI hx) (λq s' p=> ?_);obtain⟨h',tk',rfl,rfl,hk⟩:=p;refine GoodW.toG ⟨.inl ⟨_,_,_,rfl,(raisesW_false ?_),.bool true,?_,unshared_nil⟩,hk,rfl,hg⟩
 ·wrow_none_raised
 ·wrow_post
end Mine
set_option maxHeartbeats 200000
namespace Mine
mutual
def rn (f:Nat->Nat):V->V
 | .tup xs=>.tup (VI f xs)
 | .ref i=>.ref (f i)
 | .none=>.none
 | .bool b=>.bool b
 | .int i=>.int i
 | .str s=>.str s
 | .con v=>.con v
 | .rng a b=>.rng a b
 | .iset xs=>.iset xs
def VI (f:Nat->Nat):List V->List V
 | []=>[]
 |x::xs=>rn f x::VI f xs
end
theorem Pr {f:Nat->Nat}:∀xs:List V,VI f xs=xs.map (rn f)
 | []=>rfl
 |x::xs=>by rw[VI,Pr xs];rfl
theorem Lg {f:Nat->Nat} (xs:List V):rn f (.tup xs)=.tup (xs.map (rn f)):=by rw[rn,Pr]
theorem Nd {f:Nat->Nat} (i:Nat):rn f (.ref i)=.ref (f i):=by rw[rn]
theorem Ph {f:Nat->Nat}:rn f .none=.none:=by rw[rn]
theorem Oh {f:Nat->Nat} (b:Bool):rn f (.bool b)=.bool b:=by rw[rn]
theorem Pc {f:Nat->Nat} (b:Int):rn f (.int b)=.int b:=by rw[rn]
theorem zo {f:Nat->Nat} (b:Rb):rn f (.str b)=.str b:=by rw[rn]
theorem yt {f:Nat->Nat} (b:ya):rn f (.con b)=.con b:=by rw[rn]
theorem xq {f:Nat->Nat} (a b:Int):rn f (.rng a b)=.rng a b:=by rw[rn]
theorem Dp {f:Nat->Nat} (xs:List Int):rn f (.iset xs)=.iset xs:=by rw[rn]
def Uk (f:Nat->Nat):O->O
 | .list xs=>.list (xs.map (rn f))
 | .idict es=>.idict (es.map λp=>(p.1,rn f p.2))
 | .sdict es=>.sdict (es.map λp=>(p.1,rn f p.2))
 | .inst c d=>.inst c (f d)
structure Ji (f:Nat->Nat) (σ τ:St):Prop where
 emb:∀(i:Nat) (o:O),σ[i]? =aa o->τ[f i]? =aa (Uk f o)
 inj:∀i j,f i=f j->i=j
 top:∀j,f (σ.length+j)=τ.length+j
def WB (f:Nat->Nat) (τ Yh:St):Prop:=∀i,(∀j,f j≠i)->Yh[i]? =τ[i]?
theorem WB.refl {f:Nat->Nat} {τ:St}:WB f τ τ:=λ_ _=>rfl
theorem WB.trans {f:Nat->Nat} {τ Yh τ'':St} (a:WB f τ Yh) (b:WB f Yh τ''):WB f τ τ'':=λi h=>(b i h).trans (a i h)
def Nk {α β:Type} (f:Nat->Nat) (r1:Option (α×St)) (r2:Option (β×St)) (g:α->β) (τ:St):Prop:=
 ∀v Ca,r1=aa (v,Ca)->∃Yh,r2=aa (g v,Yh)/\Ji f Ca Yh/\WB f τ Yh
section
variable {f:Nat->Nat} {σ Ca τ Yh:St}
theorem Ji.listAt (S:Ji f σ τ) {i:Nat} {xs:List V} (h:listAt σ i=aa xs):Mine.listAt τ (f i)=aa (xs.map (rn f)):=by
 unfold Mine.listAt at h|-
 split at h<;>cases h
 rename_i q;rw[S.emb _ _ q];rfl
theorem Ji.app (S:Ji f σ τ) (os:List O):Ji f (σ++os) (τ++os.map (Uk f))/\WB f τ (τ++os.map (Uk f)):=by
 refine⟨⟨λi o h=> ?_,S.inj,λj=> ?_⟩,λi h=> ?_⟩
 ·by_cases q:i<σ.length
  ·rw[ta q]at h
   have:=S.emb _ _ h;rw[ta (ca.mp this).1];exact this
  ·obtain⟨j,rfl⟩:=Wl (Ke q)
   rw[Ra (by omega)]at h;rw[S.top,Ra (by omega)];simp only[Vl]at h|-;rw[za,h];rfl
 ·rw[Ib,Ib,ja,qx,S.top];omega
 ·by_cases q:i<τ.length
  ·rw[ta q]
  ·obtain⟨j,rfl⟩:=Wl (Ke q)
   exact absurd (S.top j) (h _)
theorem Ji.app1 (S:Ji f σ τ) (o:O):Ji f (σ++[o]) (τ++[Uk f o])/\WB f τ (τ++[Uk f o]):=S.app [o]
theorem Ji.set (S:Ji f σ τ) {i:Nat} (o:O):Ji f (σ.set i o) (τ.set (f i) (Uk f o))/\WB f τ (τ.set (f i) (Uk f o)):=by
 refine⟨⟨λj p h=> ?_,S.inj,λj=> ?_⟩,λj h=> ?_⟩
 ·by_cases q:i=j
  ·subst q
   rw[Ci]at h;simp only[if_true]at h
   split at h<;>cases h
   rename_i hl;have:=S.emb _ _ (da hl);rw[Ci];simp[(ca.mp this).1]
  ·rw[Na q]at h
   rw[Na (λz=>q (S.inj _ _ z))];exact S.emb _ _ h
 ·rw[Mb,Mb];exact S.top j
 ·rw[Na (h i)]
theorem Ji.top0 (S:Ji f σ τ):f σ.length=τ.length:=S.top 0
theorem Ih (S:Ji f σ τ) {xs:List V}:Nk f (newL xs σ) (newL (xs.map (rn f)) τ) (rn f) τ:=by
 intro v Ca h;unfold newL at h|-
 split at h<;>cases h
 rename_i q;obtain⟨a,b⟩:=S.app1 (.list xs);exact⟨_,by rw[ja,if_pos q,Nd,S.top0];rfl,a,b⟩
theorem ot (S:Ji f σ τ) {xs:List V}:Nk f (uj xs σ) (uj (xs.map (rn f)) τ) (rn f) τ:=by
 intro v Ca h;unfold uj at h|-
 split at h<;>cases h
 rename_i q;exact⟨τ,by rw[ja,if_pos q,Lg],S,.refl⟩
theorem tB {xs:List V} {k:Int}:tG (xs.map (rn f)) k=(tG xs k).map (rn f):=by
 unfold tG;rw[ja]
 split
 ·rw[za]
 ·split
  ·rw[za]
  ·rfl
theorem Vm:∀{es:List (Int×V)} {k:Int},qg (es.map λp=>(p.1,rn f p.2)) k=(qg es k).map (rn f)
 | [],k=>rfl
 |(a,v)::es,k=>by
  simp only[sa,qg]
  split
  ·rfl
  ·exact Vm
theorem Wm:∀{es:List (Rb×V)} {k:Rb},Cg (es.map λp=>(p.1,rn f p.2)) k=(Cg es k).map (rn f)
 | [],k=>rfl
 |(a,v)::es,k=>by
  simp only[sa,Cg]
  split
  ·rfl
  ·exact Wm
theorem zy:∀{es:List (Int×V)} {k:Int} {w:V},Nl (es.map λp=>(p.1,rn f p.2)) k (rn f w)=(Nl es k w).map λp=>(p.1,rn f p.2)
 | [],k,w=>rfl
 |(a,v)::es,k,w=>by
  simp only[sa,Nl]
  split
  ·rfl
  ·rw[sa,zy]
theorem vt:∀{es:List (Rb×V)} {k:Rb} {w:V},Nj (es.map λp=>(p.1,rn f p.2)) k (rn f w)=(Nj es k w).map λp=>(p.1,rn f p.2)
 | [],k,w=>rfl
 |(a,v)::es,k,w=>by
  simp only[sa,Nj]
  split
  ·rfl
  ·rw[sa,vt]
theorem Oy (S:Ji f σ τ) {a b v:V} (h:Qe a b σ=aa v):Qe (rn f a) (rn f b) τ=aa (rn f v):=by
 unfold Qe at h
 split at h
 ·rw[Lg,Pc];unfold Qe;simp only[];rw[tB,h];rfl
 ·split at h
  ·rename_i q;rw[Nd,Pc];unfold Qe;simp only[];rw[S.emb _ _ q];simp only[Uk];rw[tB,h];rfl
  ·rename_i q;rw[Nd,Pc];unfold Qe;simp only[];rw[S.emb _ _ q];simp only[Uk];rw[Vm,h];rfl
  ·cases h
 ·split at h
  ·rename_i q;rw[Nd,zo];unfold Qe;simp only[];rw[S.emb _ _ q];simp only[Uk];rw[Wm,h];rfl
  ·cases h
 ·cases h
theorem Ao (S:Ji f σ τ) {a b v:V} (h:Cd a b v σ=aa Ca):∃Yh,Cd (rn f a) (rn f b) (rn f v) τ=aa Yh/\Ji f Ca Yh/\WB f τ Yh:=by
 unfold Cd at h
 split at h
 ·rename_i i k
  split at h
  ·rename_i xs q
   have e:=S.emb _ _ q;rw[Nd,Pc];unfold Cd;simp only[];rw[e];simp only[Uk,ja]
   split at h
   ·split at h<;>cases h
    rename_i h1 h2;rw[if_pos h1,if_pos h2,<-lf];exact⟨_,rfl,S.set (.list _)⟩
   ·split at h<;>cases h
    rename_i h1 h2;rw[if_neg h1,if_pos h2,<-lf];exact⟨_,rfl,S.set (.list _)⟩
  ·rename_i es q
   have e:=S.emb _ _ q;rw[Nd,Pc];unfold Cd;simp only[];rw[e];simp only[Uk,ja]
   split at h<;>cases h
   rename_i h1;rw[if_pos h1,zy];exact⟨_,rfl,S.set (.idict _)⟩
  ·cases h
 ·split at h
  ·rename_i es q
   have e:=S.emb _ _ q;rw[Nd,zo];unfold Cd;simp only[];rw[e];simp only[Uk,ja]
   split at h<;>cases h
   rename_i h1;rw[if_pos h1,vt];exact⟨_,rfl,S.set (.sdict _)⟩
  ·cases h
 ·cases h
structure Ei (t1 t2:gi):Prop where
 meth:t2.meth=t1.meth
 init:t2.init=t1.init
 attr:t2.attr=t1.attr
 sup:t2.sup=t1.sup
 scr:∀a xs,t1.scr a=aa xs->t2.scr a=aa xs
variable {t1 t2:gi}
theorem uw (T:Ei t1 t2) (S:Ji f σ τ) {a v:V} {n:Rb} (h:yc t1 a n σ=aa v):yc t2 (rn f a) n τ=aa (rn f v):=by
 unfold yc at h
 split at h
 ·split at h
  ·rename_i q
   split at h
   ·rename_i q2
    rw[Nd];unfold yc;simp only[];rw[S.emb _ _ q];simp only[Uk];rw[S.emb _ _ q2];simp only[Uk]
    split at h
    ·rename_i h1
     rw[T.attr,if_pos h1,Wm]
     split at h
     ·cases h
     ·rename_i r hr
      rw[h];cases v<;>simp[rn,Pr];rename_i z;exact hr z h
    ·cases h
   ·cases h
  ·cases h
 ·cases h
theorem Sw (T:Ei t1 t2) (S:Ji f σ τ) {a v:V} {n:Rb} (h:ye t1 a n v σ=aa Ca):∃Yh,ye t2 (rn f a) n (rn f v) τ=aa Yh/\Ji f Ca Yh/\WB f τ Yh:=by
 unfold ye at h
 split at h
 ·split at h
  ·rename_i q
   split at h
   ·rename_i q2
    rw[Nd];unfold ye;simp only[];rw[S.emb _ _ q];simp only[Uk];rw[S.emb _ _ q2];simp only[Uk]
    split at h<;>cases h
    rename_i h1;rw[T.attr,ja,if_pos h1,vt];exact⟨_,rfl,S.set (.sdict _)⟩
   ·cases h
  ·cases h
 ·cases h
theorem Il:∀{xs:List V} {is:List Int},Qg xs=aa is->xs.map (rn f)=xs
 | [],is,h=>rfl
 |x::xs,is,h=>by
  cases x<;>simp only[Qg]at h<;>try (cases h;done)
  split at h<;>cases h
  rename_i q;rw[sa,Il q,Pc]
theorem Rw {a b:Int}:(gd a b).map (rn f)=gd a b:=by
 unfold gd Jj;rw[Fc];exact Af λi _=>Pc _
def jA (f:Nat->Nat):It->It
 | .st xs=>.st (xs.map (rn f))
 | .dyn i=>.dyn (f i)
theorem mo (S:Ji f σ τ) {v:V} {it:It} (h:te v σ=aa it):te (rn f v) τ=aa (jA f it):=by
 unfold te at h
 split at h
 ·cases h;rw[Lg];rfl
 ·split at h<;>cases h
  rename_i q;rw[xq];unfold te;simp only[];rw[if_pos q];simp only[jA,Rw]
 ·split at h<;>cases h
  rename_i q;rw[Nd];unfold te;simp only[];rw[S.listAt q];rfl
 ·cases h
theorem Jl (S:Ji f σ τ) {it:It} {i:Nat} {o:Option V} (h:jg it i σ=aa o):jg (jA f it) i τ=aa (o.map (rn f)):=by
 unfold jg at h
 split at h
 ·cases h;unfold jA jg;simp only[];rw[za]
 ·split at h<;>cases h
  rename_i q;unfold jA jg;simp only[];rw[S.emb _ _ q];simp only[Uk];rw[za]
theorem ED (S:Ji f σ τ) {op:Operator} {a b:V}:Nk f (Cf op a b σ) (Cf op (rn f a) (rn f b) τ) (rn f) τ:=by
 intro v Ca h;unfold Cf at h
 split at h
 ·cases h;simp only[Pc,Cf];exact⟨τ,rfl,S,.refl⟩
 ·cases h;simp only[Pc,Cf];exact⟨τ,rfl,S,.refl⟩
 ·split at h<;>cases h
  rename_i q;simp only[Pc,Cf];exact⟨τ,by rw[if_pos q],S,.refl⟩
 ·split at h<;>cases h
  rename_i q;simp only[Pc,Cf];exact⟨τ,by rw[if_neg q],S,.refl⟩
 ·split at h<;>cases h
  rename_i q;simp only[Pc,Cf];exact⟨τ,by rw[if_pos q],S,.refl⟩
 ·simp only[Lg,Cf,<-bc];exact ot S _ _ h
 ·split at h<;>try (cases h;done)
  rename_i q1 q2;simp only[Nd,Cf,S.listAt q1,S.listAt q2,<-bc];exact Ih S _ _ h
 ·split at h<;>try (cases h;done)
  rename_i q1
  split at h<;>try (cases h;done)
  rename_i q2;simp only[Nd,Pc,Cf,S.listAt q1,sa,zb];rw[if_pos q2,<-gD];exact Ih S _ _ h
 ·cases h
theorem ul {g g':V->Option PyData}:∀{xs:List V} {ds:List PyData},(∀x d,g x=aa d->g' (rn f x)=aa d)->Dm g xs=aa ds->Dm g' (xs.map (rn f))=aa ds
 | [],ds,_,h=>h
 |x::xs,ds,hg,h=>by
  simp only[Dm]at h
  split at h<;>cases h
  rename_i q1 q2;rw[sa,Dm,hg _ _ q1,ul hg q2]
theorem Wi (S:Ji f σ τ):∀{n:Nat} {v:V} {d:PyData},Fh n v σ=aa d->Fh n (rn f v) τ=aa d
 |0,v,d,h=>by
  cases v<;>first|(cases h;done)|(simp only[Ph,Oh,Pc,zo];exact h)
 |n+1,v,d,h=>by
  cases v with
  |tup xs=>
   rw[Lg];rw[sd]at h|-;unfold Ng at h|-
   split at h<;>cases h
   rename_i q;rw[ul (λx d e=>Wi S e) q]
  |ref i=>
   rw[Nd];rw[Vc]at h|-;unfold Ng at h|-
   split at h<;>try (cases h;done)
   rename_i q0
   split at h<;>cases h
   rename_i q;rw[S.listAt q0];simp only[];rw[ul (λx d e=>Wi S e) q]
  |none=>rw[Ph];exact h
  |bool b=>rw[Oh];exact h
  |int b=>rw[Pc];exact h
  |str b=>rw[zo];exact h
  |con b=>rw[ge]at h;cases h
  |rng a b=>rw[ie]at h;cases h
  |iset b=>rw[rd]at h;cases h
theorem fq (S:Ji f σ τ) {n:Nat} {xs:List V} {ds:List PyData} (h:Ng n xs σ=aa ds):Ng n (xs.map (rn f)) τ=aa ds:=ul (λ_ _ e=>Wi S e) h
theorem Ro (S:Ji f σ τ) {op:CmpOp} {a b:V} {r:Bool} (h:Zc op a b σ=aa r):Zc op (rn f a) (rn f b) τ=aa r:=by
 unfold Zc at h
 split at h
 ·simp only[Pc,Zc];exact h
 ·simp only[Pc,Zc];exact h
 ·simp only[Pc,Zc];exact h
 ·simp only[Pc,Zc];exact h
 ·split at h<;>try (cases h;done)
  rename_i q1 q2;unfold Zc;simp only[];rw[Wi S q1,Wi S q2];exact h
 ·split at h<;>try (cases h;done)
  rename_i q1 q2;unfold Zc;simp only[];rw[Wi S q1,Wi S q2];exact h
 ·cases a<;>first|(cases h;done)|(simp only[Ph,Lg,Nd,Oh,Pc,Zc]at h|-;exact h)
 ·cases a<;>first|(cases h;done)|(simp only[Ph,Lg,Nd,Oh,Pc,Zc]at h|-;exact h)
 ·simp only[Oh,Zc];exact h
 ·split at h
  ·rename_i q
   simp only[Pc,Nd,Zc];rw[S.emb _ _ q];simp only[Uk,Vm,aC];exact h
  ·rename_i q
   split at h<;>try (cases h;done)
   rename_i q2;simp only[Pc,Nd,Zc];rw[S.emb _ _ q];simp only[Uk];rw[fq S q2];exact h
  ·cases h
 ·split at h
  ·rename_i q
   simp only[Pc,Nd,Zc];rw[S.emb _ _ q];simp only[Uk,Vm,aC];exact h
  ·rename_i q
   split at h<;>try (cases h;done)
   rename_i q2;simp only[Pc,Nd,Zc];rw[S.emb _ _ q];simp only[Uk];rw[fq S q2];exact h
  ·cases h
 ·split at h<;>try (cases h;done)
  rename_i q1 q2
  split at h<;>try (cases h;done)
  rename_i q3;have q2':=Wi S q2;rw[Lg]at q2';simp only[Lg,Nd,Zc];rw[S.listAt q1,q2'];simp only[];rw[fq S q3];exact h
 ·cases h
theorem TC (S:Ji f σ τ) {v:V} {xs:List V} (h:Pj v σ=aa xs):Pj (rn f v) τ=aa (xs.map (rn f)):=by
 cases v<;>simp only[Pj]at h<;>try (cases h;done)
 ·cases h;rw[Lg];rfl
 ·rw[Nd];exact S.listAt h
 ·split at h<;>cases h
  rename_i q;rw[xq,Rw];unfold Pj;simp only[];rw[if_pos q]
theorem vC (S:Ji f σ τ) {v:V} {xs:List V} (h:Wo v σ=aa xs):Wo (rn f v) τ=aa (xs.map (rn f)):=by
 cases v<;>simp only[Wo]at h<;>try (cases h;done)
 ·rw[Nd];exact S.listAt h
 ·split at h<;>cases h
  rename_i q;rw[xq,Rw];unfold Wo;simp only[];rw[if_pos q]
theorem Tm {is:List Int}:(is.map V.int).map (rn f)=is.map V.int:=by
 rw[Fc];exact Af λi _=>Pc _
theorem aG (S:Ji f σ τ) {g:ya} {args:List V}:Nk f (jh g args σ) (jh g (args.map (rn f)) τ) (rn f) τ:=by
 intro v Ca h;unfold jh at h
 split at h
 ·cases h;simp only[sa,zb,Lg,jh,ja,Pc];exact⟨τ,rfl,S,.refl⟩
 ·cases h;simp only[sa,zb,Dp,jh,Pc];exact⟨τ,rfl,S,.refl⟩
 ·split at h<;>cases h
  rename_i q;simp only[sa,zb,Nd,jh,S.listAt q,ja,Pc];exact⟨τ,rfl,S,.refl⟩
 ·split at h<;>cases h
  rename_i q;simp only[sa,zb,Pc,xq,jh];exact⟨τ,by rw[if_pos q],S,.refl⟩
 ·split at h<;>cases h
  rename_i q;simp only[sa,zb,Pc,xq,jh];exact⟨τ,by rw[if_pos q],S,.refl⟩
 ·cases h;simp only[sa,zb,Pc,jh];exact⟨τ,rfl,S,.refl⟩
 ·cases h;simp only[sa,zb,Pc,jh];exact⟨τ,rfl,S,.refl⟩
 ·split at h<;>try (cases h;done)
  rename_i q
  split at h<;>cases h
  rename_i q2;have:=S.listAt q;rw[Il q2]at this;simp only[sa,zb,Nd,jh,this,q2,Pc];exact⟨τ,rfl,S,.refl⟩
 ·split at h<;>try (cases h;done)
  rename_i q;simp only[sa,zb,jh,TC S q];exact ot S _ _ h
 ·simp only[sa,zb,Lg,jh]
  exact Ih S _ _ h
 ·rename_i v0
  split at h<;>try (cases h;done)
  ·split at h<;>try (cases h;done)
   rename_i q
   split at h<;>cases h
   rename_i q2;simp only[sa,zb,Lg,jh,Dp,Il q,q];exact⟨τ,by rw[if_pos q2],S,.refl⟩
  ·split at h<;>try (cases h;done)
   rename_i q0
   split at h<;>try (cases h;done)
   rename_i q
   split at h<;>cases h
   rename_i q2;have:=S.listAt q0;rw[Il q]at this;simp only[sa,zb,Nd,jh,Dp,this,q];exact⟨τ,by rw[if_pos q2],S,.refl⟩
 ·rename_i v0
  split at h<;>try (cases h;done)
  ·simp only[sa,zb,Dp,jh]
   have:=Ih S _ _ h;rw[Tm]at this;exact this
  ·split at h<;>try (cases h;done)
   ·rename_i q0
    split at h<;>try (cases h;done)
    rename_i q
    split at h<;>try (cases h;done)
    rename_i q2;have:=S.emb _ _ q0;simp only[Uk]at this;rw[Il q]at this;simp only[sa,zb,Nd,jh,this,q];rw[if_pos q2];have:=Ih S _ _ h;rw[Tm]at this;exact this
   ·rename_i q0
    split at h<;>try (cases h;done)
    rename_i q2;have:=S.emb _ _ q0;simp only[Uk]at this;simp only[sa,zb,Nd,jh,this,ja,Fc];rw[if_pos q2];have:=Ih S _ _ h;rw[Tm]at this;exact this
 ·cases h
end
end Mine
namespace Mine
def Ol (f:Nat->Nat) (me:Me):Me:=me.map (yJ (rn f))
section
variable {f:Nat->Nat} {σ Ca τ Yh:St} {t1 t2:gi} {c1 c2:Nat->List V->St->Option (V×St)}
def aq (f:Nat->Nat) (c1 c2:Nat->List V->St->Option (V×St)):Prop:=∀a args σ τ,Ji f σ τ->Nk f (c1 a args σ) (c2 a (args.map (rn f)) τ) (rn f) τ
theorem zG (S:Ji f σ τ) {i:Nat} {n:Rb} {args:List V}:Nk f (Lr i n args σ) (Lr (f i) n (args.map (rn f)) τ) (rn f) τ:=by
 intro v Ca h;unfold Lr at h|-
 split at h<;>try (cases h;done)
 rename_i xs q;rw[S.listAt q];simp only[]
 by_cases n1:n=("append":Rb)
 ·rw[if_pos n1]at h|-
  split at h<;>try (cases h;done)
  rename_i w
  split at h<;>cases h
  rename_i q2;simp only[sa,zb,ja];rw[if_pos q2,Ph];obtain⟨a,b⟩:=S.set (i:=i) (.list (xs++[w]));simp only[Uk,bc,sa,zb]at a b;exact⟨_,rfl,a,b⟩
 ·rw[if_neg n1]at h|-
  by_cases n2:n=("extend":Rb)
  ·rw[if_pos n2]at h|-
   split at h<;>try (cases h;done)
   rename_i w
   split at h<;>try (cases h;done)
   rename_i ys q1
   split at h<;>cases h
   rename_i q2;simp only[sa,zb,vC S q1,ja];rw[if_pos q2,Ph,<-bc];exact⟨_,rfl,S.set (.list _)⟩
  ·rw[if_neg n2]at h|-
   by_cases n3:n=("insert":Rb)
   ·rw[if_pos n3]at h|-
    split at h<;>try (cases h;done)
    rename_i k w
    split at h<;>cases h
    rename_i q2;simp only[sa,zb,Pc,ja];rw[if_pos q2,Ph];obtain⟨a,b⟩:=S.set (i:=i) (.list (xs.take k.toNat++w::xs.drop k.toNat));simp only[Uk,bc,sa,zb,fx,List.map_drop]at a b;exact⟨_,rfl,a,b⟩
   ·rw[if_neg n3]at h|-
    by_cases n4:n=("index":Rb)
    ·rw[if_pos n4]at h|-
     split at h<;>try (cases h;done)
     rename_i k
     split at h<;>try (cases h;done)
     rename_i is q1
     split at h<;>cases h
     rename_i q2;simp only[sa,zb,Pc,Il q1,q1];exact⟨τ,by rw[if_pos q2],S,.refl⟩
    ·rw[if_neg n4]at h|-
     by_cases n5:n=("count":Rb)
     ·rw[if_pos n5]at h|-
      split at h<;>try (cases h;done)
      rename_i k
      split at h<;>cases h
      rename_i is q1;simp only[sa,zb,Pc,Il q1,q1];exact⟨τ,rfl,S,.refl⟩
     ·rw[if_neg n5]at h;cases h
theorem fC (T:Ei t1 t2) (C:aq f c1 c2) (S:Ji f σ τ) {g:V} {args:List V}:Nk f (rh t1 c1 g args σ) (rh t2 c2 (rn f g) (args.map (rn f)) τ) (rn f) τ:=by
 intro v Ca h;unfold rh at h
 split at h
 ·rename_i a
  rw[yt];unfold rh;simp only[];rw[T.init]
  split at h
  ·rename_i i q
   split at h<;>cases h
   rename_i Ja q1;obtain⟨s1,b1⟩:=S.app [.sdict [],.inst a σ.length];simp only[sa,zb,Uk,S.top0]at s1 b1;obtain⟨Re,e1,s2,b2⟩:=C _ _ _ _ s1 _ _ q1;have e0:rn f (.ref (σ.length+1))=.ref (τ.length+1):=by rw[Nd,S.top]
   rw[sa,e0]at e1;rw[e1,Ph,e0];exact⟨Re,rfl,s2,b1.trans b2⟩
  ·exact C _ _ _ _ S _ _ h
 ·rename_i w hw
  rw[yt];unfold rh;simp only[];cases w<;>first|exact aG S _ _ h|exact absurd rfl (hw _)
 ·cases h
def UE (f:Nat->Nat):pJ->pJ
 | .fn g o=>.fn g (rn f o)
 | .lm i=>.lm (f i)
theorem TE (T:Ei t1 t2) (S:Ji f σ τ) {o:V} {n:Rb} {c:pJ} (h:kg t1 o n σ=aa c):kg t2 (rn f o) n τ=aa (UE f c):=by
 unfold kg at h
 split at h<;>try (cases h;done)
 split at h<;>try (cases h;done)
 ·rename_i q
  split at h<;>try (cases h;done)
  rename_i q2
  split at h<;>cases h
  rename_i q3 q4;rw[Nd];unfold kg;simp only[];rw[S.emb _ _ q];simp only[Uk];rw[S.emb _ _ q2];simp only[Uk];rw[Wm,q3,T.meth,q4];simp only[Option.map_none,UE,Nd]
 ·rename_i q
  cases h;rw[Nd];unfold kg;simp only[];rw[S.emb _ _ q];rfl
theorem sC (C:aq f c1 c2) (S:Ji f σ τ) {c:pJ} {n:Rb} {args:List V}:Nk f (Wc c1 c n args σ) (Wc c2 (UE f c) n (args.map (rn f)) τ) (rn f) τ:=by
 cases c with
 |fn g o=>exact C _ _ _ _ S
 |lm i=>exact zG S
theorem UD (T:Ei t1 t2) (S:Ji f σ τ) {o:V} {k:Int}:Nk f (pr t1 o k σ) (pr t2 (rn f o) k τ) (rn f) τ:=by
 intro v Ca h;unfold pr at h
 split at h<;>try (cases h;done)
 ·split at h<;>try (cases h;done)
  rename_i q
  split at h<;>try (cases h;done)
  rename_i hk;rw[yt];unfold pr;simp only[];rw[T.scr _ _ q];simp only[];rw[if_pos hk];have:=Ih S _ _ h;rw[Tm]at this;exact this
 ·split at h<;>try (cases h;done)
  rename_i q
  split at h<;>try (cases h;done)
  rename_i hk;rw[Nd];unfold pr;simp only[];rw[S.listAt q];simp only[];rw[if_pos hk,<-fx];exact Ih S _ _ h
theorem rC (S:Ji f σ τ) {ks vs:List V}:Nk f (th ks vs σ) (th (ks.map (rn f)) (vs.map (rn f)) τ) (rn f) τ:=by
 intro v Ca h;unfold th at h
 split at h<;>try (cases h;done)
 ·cases h
  simp only[zb,th,Nd,S.top0];exact⟨_,rfl,S.app1 (.idict [])⟩
 ·split at h<;>cases h
  rename_i q;simp only[zb,sa,th,Nd,zo,S.top0];rw[if_neg q];exact⟨_,rfl,S.app1 (.sdict _)⟩
 ·cases h
  simp only[zb,sa,th,Nd,Pc,S.top0];exact⟨_,rfl,S.app1 (.idict _)⟩
theorem Nr {me:Me} {i:Nat}:(Ol f me)[i]? =(me[i]?).map (yJ (rn f)):=by unfold Ol;rw[za]
theorem Cp {me:Me} {i:Nat} {v:V}:Ol f (me.set i (aa v))=(Ol f me).set i (aa (rn f v)):=by unfold Ol;rw[lf];rfl
theorem Qw {me:Me}:(Ol f me).length=me.length:=by unfold Ol;rw[ja]
theorem Et:∀{is:List Nat} {vs:List V} {me Qb:Me},Qc is vs me=aa Qb->Qc is (vs.map (rn f)) (Ol f me)=aa (Ol f Qb)
 | [],[],me,Qb,h=>by cases h;rfl
 |i::is,v::vs,me,Qb,h=>by
  simp only[Qc]at h
  split at h<;>try (cases h;done)
  rename_i q;simp only[sa,Qc];rw[Qw,if_pos q,<-Cp];exact Et h
theorem Wu {t:CT} {v:V} {me Qb:Me} (h:dg t v me=aa Qb):dg t (rn f v) (Ol f me)=aa (Ol f Qb):=by
 unfold dg at h
 split at h<;>try (cases h;done)
 ·split at h<;>cases h
  rename_i q;unfold dg;simp only[];rw[Qw,if_pos q,Cp]
 ·rw[Lg];exact Et h
theorem br:∀{is:List Nat} {vs:List V} {me Qb:Me},bg is vs me=aa Qb->bg is (vs.map (rn f)) (Ol f me)=aa (Ol f Qb)
 | [],[],me,Qb,h=>by cases h;rfl
 |i::is,v::vs,me,Qb,h=>by
  simp only[bg]at h
  split at h<;>try (cases h;done)
  rename_i q;simp only[sa,bg];rw[Nr,q,<-Cp];exact br h
theorem Vu {t:CT} {v:V} {me Qb:Me} (h:yd t v me=aa Qb):yd t (rn f v) (Ol f me)=aa (Ol f Qb):=by
 unfold yd at h
 split at h<;>try (cases h;done)
 ·split at h<;>cases h
  rename_i q;unfold yd;simp only[];rw[Nr,q,Cp];rfl
 ·rw[Lg];exact br h
theorem oq {F G:V->St->Option (List V×St)} (hF:∀v σ τ,Ji f σ τ->Nk f (F v σ) (G (rn f v) τ) (fk (rn f)) τ):
 ∀(n:Nat) (it:It) (i:Nat) (σ τ:St),Ji f σ τ->Nk f (re n it i F σ) (re n (jA f it) i G τ) (fk (rn f)) τ
 |0,it,i,σ,τ,S,v,Ca,h=>by cases h
 |n+1,it,i,σ,τ,S,v,Ca,h=>by
  unfold re at h|-
  split at h<;>try (cases h;done)
  ·rename_i q
   cases h;rw[Jl S q];exact⟨τ,rfl,S,.refl⟩
  ·rename_i x q
   rw[Jl S q];simp only[Se]
   split at h<;>try (cases h;done)
   rename_i a Ja q1;obtain⟨Re,e1,s1,b1⟩:=hF _ _ _ S _ _ q1;rw[e1];simp only[]
   split at h<;>cases h
   rename_i b q2;obtain⟨Of,e2,s2,b2⟩:=oq hF n it (i+1) Ja Re s1 _ _ q2;rw[e2,bc];exact⟨Of,rfl,s2,b1.trans b2⟩
def NG (f:Nat->Nat):Fl->Fl
 | .next=>.next
 | .ret v=>.ret (rn f v)
def bC (f:Nat->Nat) (r1 r2:Option (Fl×Me×St)) (τ:St):Prop:=
 ∀fl me Ca,r1=aa (fl,me,Ca)->∃Yh,r2=aa (NG f fl,Ol f me,Yh)/\Ji f Ca Yh/\WB f τ Yh
theorem pq {F G:V->Me->St->Option (Fl×Me×St)} (hF:∀v me σ τ,Ji f σ τ->bC f (F v me σ) (G (rn f v) (Ol f me) τ) τ):
 ∀(n:Nat) (it:It) (i:Nat) (me:Me) (σ τ:St),Ji f σ τ->bC f (Ye n it i F me σ) (Ye n (jA f it) i G (Ol f me) τ) τ
 |0,it,i,me,σ,τ,S,fl,Qb,Ca,h=>by cases h
 |n+1,it,i,me,σ,τ,S,fl,Qb,Ca,h=>by
  unfold Ye at h|-
  split at h<;>try (cases h;done)
  ·rename_i q
   cases h;rw[Jl S q];exact⟨τ,rfl,S,.refl⟩
  ·rename_i x q
   rw[Jl S q];simp only[Se]
   split at h
   ·rename_i Qd Ja q1
    obtain⟨Re,e1,s1,b1⟩:=hF _ _ _ _ S _ _ _ q1;rw[e1];simp only[NG];obtain⟨Of,e2,s2,b2⟩:=pq hF n it (i+1) Qd Ja Re s1 _ _ _ h;exact⟨Of,e2,s2,b1.trans b2⟩
   ·rename_i hn
    obtain⟨Re,e1,s1,b1⟩:=hF _ _ _ _ S _ _ _ h;rw[e1];cases fl with
    |next=>exact absurd h (hn _ _)
    |ret v=>exact⟨Re,rfl,s1,b1⟩
theorem Dv {P Q:Me->St->Option (Bool×St)} {F G:Me->St->Option (Fl×Me×St)} (hP:∀me σ τ,Ji f σ τ->Nk f (P me σ) (Q (Ol f me) τ) id τ) (hF:∀me σ τ,Ji f σ τ->bC f (F me σ) (G (Ol f me) τ) τ):
 ∀(n:Nat) (me:Me) (σ τ:St),Ji f σ τ->bC f (Gi n P F me σ) (Gi n Q G (Ol f me) τ) τ
 |0,me,σ,τ,S,fl,Qb,Ca,h=>by cases h
 |n+1,me,σ,τ,S,fl,Qb,Ca,h=>by
  unfold Gi at h|-
  split at h<;>try (cases h;done)
  ·rename_i Ja q
   obtain⟨Re,e1,s1,b1⟩:=hP _ _ _ S _ _ q;cases h;rw[e1];exact⟨Re,rfl,s1,b1⟩
  ·rename_i Ja q
   obtain⟨Re,e1,s1,b1⟩:=hP _ _ _ S _ _ q;rw[e1];simp only[id]
   split at h
   ·rename_i Qd Cb q1
    obtain⟨Of,e2,s2,b2⟩:=hF _ _ _ s1 _ _ _ q1;rw[e2];simp only[NG];obtain⟨Ej,e3,s3,b3⟩:=Dv hP hF n Qd Cb Of s2 _ _ _ h;exact⟨Ej,e3,s3,(b1.trans b2).trans b3⟩
   ·rename_i hn
    obtain⟨Of,e2,s2,b2⟩:=hF _ _ _ s1 _ _ _ h;rw[e2];cases fl with
    |next=>exact absurd h (hn _ _)
    |ret v=>exact⟨Of,rfl,s2,b1.trans b2⟩
theorem JB {me:Me} {k:Nat}:Ol f (me++Aa k ba)=Ol f me++Aa k ba:=by
 unfold Ol;rw[bc,gD];rfl
mutual
theorem zd (T:Ei t1 t2) (C:aq f c1 c2):∀(x:X) (me:Me) (σ τ:St),Ji f σ τ->Nk f (gc t1 c1 x me σ) (gc t2 c2 x (Ol f me) τ) (rn f) τ
 | .var i,me,σ,τ,S,v,Ca,h=>by
  simp only[gc]at h|-;rw[Nr]
  split at h<;>cases h
  rename_i q;rw[q];exact⟨τ,rfl,S,.refl⟩
 | .con w,me,σ,τ,S,v,Ca,h=>by simp only[gc]at h|-;cases h;rw[yt];exact⟨τ,rfl,S,.refl⟩
 | .none,me,σ,τ,S,v,Ca,h=>by simp only[gc]at h|-;cases h;rw[Ph];exact⟨τ,rfl,S,.refl⟩
 | .bool w,me,σ,τ,S,v,Ca,h=>by simp only[gc]at h|-;cases h;rw[Oh];exact⟨τ,rfl,S,.refl⟩
 | .int w,me,σ,τ,S,v,Ca,h=>by simp only[gc]at h|-;cases h;rw[Pc];exact⟨τ,rfl,S,.refl⟩
 | .str w,me,σ,τ,S,v,Ca,h=>by simp only[gc]at h|-;cases h;rw[zo];exact⟨τ,rfl,S,.refl⟩
 | .attr o n,me,σ,τ,S,v,Ca,h=>by
  simp only[gc]at h|-
  split at h<;>try (cases h;done)
  rename_i ov Ja q;obtain⟨Re,e1,s1,b1⟩:=zd T C o me σ τ S _ _ q;rw[e1];simp only[]
  split at h<;>cases h
  rename_i q2;rw[uw T s1 q2];exact⟨Re,rfl,s1,b1⟩
 | .sub o i,me,σ,τ,S,v,Ca,h=>by
  simp only[gc]at h|-
  split at h<;>try (cases h;done)
  rename_i ov Ja q;obtain⟨Re,e1,s1,b1⟩:=zd T C o me σ τ S _ _ q;rw[e1];simp only[]
  split at h<;>try (cases h;done)
  rename_i iv Cb q2;obtain⟨Of,e2,s2,b2⟩:=zd T C i me Ja Re s1 _ _ q2;rw[e2];simp only[]
  split at h<;>cases h
  rename_i q3;rw[Oy s2 q3];exact⟨Of,rfl,s2,b1.trans b2⟩
 | .cut o k,me,σ,τ,S,v,Ca,h=>by
  simp only[gc]at h|-
  split at h<;>try (cases h;done)
  rename_i ov Ja q;obtain⟨Re,e1,s1,b1⟩:=zd T C o me σ τ S _ _ q;rw[e1];simp only[];obtain⟨Of,e2,s2,b2⟩:=UD T s1 _ _ h;exact⟨Of,e2,s2,b1.trans b2⟩
 | .bin op a b,me,σ,τ,S,v,Ca,h=>by
  simp only[gc]at h|-
  split at h<;>try (cases h;done)
  rename_i av Ja q;obtain⟨Re,e1,s1,b1⟩:=zd T C a me σ τ S _ _ q;rw[e1];simp only[]
  split at h<;>try (cases h;done)
  rename_i bv Cb q2;obtain⟨Of,e2,s2,b2⟩:=zd T C b me Ja Re s1 _ _ q2;rw[e2];simp only[];obtain⟨Ej,e3,s3,b3⟩:=ED s2 _ _ h;exact⟨Ej,e3,s3,(b1.trans b2).trans b3⟩
 | .neg a,me,σ,τ,S,v,Ca,h=>by
  simp only[gc]at h|-
  split at h<;>cases h
  rename_i q;obtain⟨Re,e1,s1,b1⟩:=zd T C a me σ τ S _ _ q;rw[e1,Pc];simp only[Pc];exact⟨Re,rfl,s1,b1⟩
 | .cmp op a b,me,σ,τ,S,v,Ca,h=>by
  simp only[gc]at h|-
  split at h<;>try (cases h;done)
  rename_i av Ja q;obtain⟨Re,e1,s1,b1⟩:=zd T C a me σ τ S _ _ q;rw[e1];simp only[]
  split at h<;>try (cases h;done)
  rename_i bv Cb q2;obtain⟨Of,e2,s2,b2⟩:=zd T C b me Ja Re s1 _ _ q2;rw[e2];simp only[]
  split at h<;>cases h
  rename_i q3;rw[Ro s2 q3];simp only[Oh];exact⟨Of,rfl,s2,b1.trans b2⟩
 | .cmp2 op1 op2 a b c,me,σ,τ,S,v,Ca,h=>by
  simp only[gc]at h|-
  split at h<;>try (cases h;done)
  rename_i av Ja q;obtain⟨Re,e1,s1,b1⟩:=zd T C a me σ τ S _ _ q;rw[e1];simp only[]
  split at h<;>try (cases h;done)
  rename_i bv Cb q2;obtain⟨Of,e2,s2,b2⟩:=zd T C b me Ja Re s1 _ _ q2;rw[e2];simp only[]
  split at h<;>try (cases h;done)
  ·rename_i q3
   rw[Ro s2 q3];simp only[]
   split at h<;>try (cases h;done)
   rename_i cv ae q4;obtain⟨Ej,e3,s3,b3⟩:=zd T C c me Cb Of s2 _ _ q4;rw[e3];simp only[]
   split at h<;>cases h
   rename_i q5;rw[Ro s3 q5];simp only[Oh];exact⟨Ej,rfl,s3,(b1.trans b2).trans b3⟩
  ·rename_i q3
   cases h;rw[Ro s2 q3];simp only[Oh];exact⟨Of,rfl,s2,b1.trans b2⟩
 | .ite t a b,me,σ,τ,S,v,Ca,h=>by
  simp only[gc]at h|-
  split at h<;>try (cases h;done)
  ·rename_i Ja q
   obtain⟨Re,e1,s1,b1⟩:=Pg T C t me σ τ S _ _ q;rw[e1];simp only[id];obtain⟨Of,e2,s2,b2⟩:=zd T C a me Ja Re s1 _ _ h;exact⟨Of,e2,s2,b1.trans b2⟩
  ·rename_i Ja q
   obtain⟨Re,e1,s1,b1⟩:=Pg T C t me σ τ S _ _ q;rw[e1];simp only[id];obtain⟨Of,e2,s2,b2⟩:=zd T C b me Ja Re s1 _ _ h;exact⟨Of,e2,s2,b1.trans b2⟩
 | .tup xs,me,σ,τ,S,v,Ca,h=>by
  simp only[gc]at h|-
  split at h<;>try (cases h;done)
  rename_i vs Ja q;obtain⟨Re,e1,s1,b1⟩:=ri T C xs me σ τ S _ _ q;rw[e1];simp only[];obtain⟨Of,e2,s2,b2⟩:=ot s1 _ _ h;exact⟨Of,e2,s2,b1.trans b2⟩
 | .list xs,me,σ,τ,S,v,Ca,h=>by
  simp only[gc]at h|-
  split at h<;>try (cases h;done)
  rename_i vs Ja q;obtain⟨Re,e1,s1,b1⟩:=ri T C xs me σ τ S _ _ q;rw[e1];simp only[];obtain⟨Of,e2,s2,b2⟩:=Ih s1 _ _ h;exact⟨Of,e2,s2,b1.trans b2⟩
 | .dict ks vs,me,σ,τ,S,v,Ca,h=>by
  simp only[gc]at h|-
  split at h<;>try (cases h;done)
  rename_i kv Ja q;obtain⟨Re,e1,s1,b1⟩:=ri T C ks me σ τ S _ _ q;rw[e1];simp only[]
  split at h<;>try (cases h;done)
  rename_i vv Cb q2;obtain⟨Of,e2,s2,b2⟩:=ri T C vs me Ja Re s1 _ _ q2;rw[e2];simp only[];obtain⟨Ej,e3,s3,b3⟩:=rC s2 _ _ h;exact⟨Ej,e3,s3,(b1.trans b2).trans b3⟩
 | .comp k iter tgt ifs Md elt,me,σ,τ,S,v,Ca,h=>by
  simp only[gc]at h|-
  split at h<;>try (cases h;done)
  rename_i iv Ja q;obtain⟨Re,e1,s1,b1⟩:=zd T C iter me σ τ S _ _ q;rw[e1];simp only[]
  split at h<;>try (cases h;done)
  rename_i it q2;rw[mo s1 q2];simp only[]
  split at h<;>try (cases h;done)
  rename_i vs Cb q3;have L:=oq (f:=f)
   (G:=λv σ=>match yd tgt v (Ol f me++Aa k ba)with
    |some Qd=>match vh t2 c2 ifs Qd σ with
     |some (true,σ)=>Ef t2 c2 Md (λme σ=>gc t2 c2 elt me σ) Qd σ
     |some (false,σ)=>aa ([],σ)
     |ba=>ba
    |ba=>ba)
   (λv σ τ S w Ca h=>by
    split at h<;>try (cases h;done)
    rename_i Qd z1;have z1':=Vu (f:=f) z1;rw[JB]at z1';simp only[z1']
    split at h<;>try (cases h;done)
    ·rename_i ae z2
     obtain⟨Ej,e3,s3,b3⟩:=Pk T C ifs Qd σ τ S _ _ z2;rw[e3];simp only[id];obtain⟨du,e4,s4,b4⟩:=Vs T C Md _ _ (λme σ τ S=>zd T C elt me σ τ S) Qd ae Ej s3 _ _ h;exact⟨du,e4,s4,b3.trans b4⟩
    ·rename_i ae z2
     obtain⟨Ej,e3,s3,b3⟩:=Pk T C ifs Qd σ τ S _ _ z2;cases h;rw[e3];exact⟨Ej,rfl,s3,b3⟩) 5000 it 0 Ja Re s1 _ _ q3
  obtain⟨Of,e2,s2,b2⟩:=L
  erw [e2];simp only[]
  obtain⟨Ej,e3,s3,b3⟩:=Ih s2 _ _ h;exact⟨Ej,e3,s3,(b1.trans b2).trans b3⟩
 | .call g args,me,σ,τ,S,v,Ca,h=>by
  simp only[gc]at h|-
  split at h<;>try (cases h;done)
  rename_i fv Ja q;obtain⟨Re,e1,s1,b1⟩:=zd T C g me σ τ S _ _ q;rw[e1];simp only[]
  split at h<;>try (cases h;done)
  rename_i vs Cb q2;obtain⟨Of,e2,s2,b2⟩:=ri T C args me Ja Re s1 _ _ q2;rw[e2];simp only[];obtain⟨Ej,e3,s3,b3⟩:=fC T C s2 _ _ h;exact⟨Ej,e3,s3,(b1.trans b2).trans b3⟩
 | .meth o n args,me,σ,τ,S,v,Ca,h=>by
  simp only[gc]at h|-
  split at h<;>try (cases h;done)
  rename_i ov Ja q;obtain⟨Re,e1,s1,b1⟩:=zd T C o me σ τ S _ _ q;rw[e1];simp only[]
  split at h<;>try (cases h;done)
  rename_i c q0;rw[TE T s1 q0];simp only[]
  split at h<;>try (cases h;done)
  rename_i vs Cb q2;obtain⟨Of,e2,s2,b2⟩:=ri T C args me Ja Re s1 _ _ q2;rw[e2];simp only[];obtain⟨Ej,e3,s3,b3⟩:=sC C s2 _ _ h;exact⟨Ej,e3,s3,(b1.trans b2).trans b3⟩
 | .sup i g args,me,σ,τ,S,v,Ca,h=>by
  simp only[gc]at h|-
  split at h<;>try (cases h;done)
  rename_i j q;rw[Nr,q];simp only[Se,Nd]
  split at h<;>try (cases h;done)
  rename_i c d q1;rw[S.emb _ _ q1];simp only[Uk]
  split at h<;>try (cases h;done)
  rename_i q2;rw[S.emb _ _ q2];simp only[Uk]
  split at h<;>try (cases h;done)
  rename_i q3;rw[T.sup,if_pos q3]
  split at h<;>try (cases h;done)
  rename_i vs Ja q4;obtain⟨Re,e1,s1,b1⟩:=ri T C args me σ τ S _ _ q4;rw[e1];simp only[];obtain⟨Of,e2,s2,b2⟩:=C _ _ _ _ s1 _ _ h;rw[sa,Nd]at e2;exact⟨Of,e2,s2,b1.trans b2⟩
theorem ri (T:Ei t1 t2) (C:aq f c1 c2):∀(xs:List X) (me:Me) (σ τ:St),Ji f σ τ->Nk f (Gf t1 c1 xs me σ) (Gf t2 c2 xs (Ol f me) τ) (fk (rn f)) τ
 | [],me,σ,τ,S,v,Ca,h=>by simp only[Gf]at h|-;cases h;exact⟨τ,rfl,S,.refl⟩
 |x::xs,me,σ,τ,S,v,Ca,h=>by
  simp only[Gf]at h|-
  split at h<;>try (cases h;done)
  rename_i xv Ja q;obtain⟨Re,e1,s1,b1⟩:=zd T C x me σ τ S _ _ q;rw[e1];simp only[]
  split at h<;>cases h
  rename_i vs q2;obtain⟨Of,e2,s2,b2⟩:=ri T C xs me Ja Re s1 _ _ q2;rw[e2];exact⟨Of,rfl,s2,b1.trans b2⟩
theorem Pg (T:Ei t1 t2) (C:aq f c1 c2):∀(x:B) (me:Me) (σ τ:St),Ji f σ τ->Nk f (Ug t1 c1 x me σ) (Ug t2 c2 x (Ol f me) τ) id τ
 | .and a b,me,σ,τ,S,v,Ca,h=>by
  simp only[Ug]at h|-
  split at h<;>try (cases h;done)
  ·rename_i Ja q
   obtain⟨Re,e1,s1,b1⟩:=Pg T C a me σ τ S _ _ q;rw[e1];simp only[id];obtain⟨Of,e2,s2,b2⟩:=Pg T C b me Ja Re s1 _ _ h;exact⟨Of,e2,s2,b1.trans b2⟩
  ·rename_i Ja q
   obtain⟨Re,e1,s1,b1⟩:=Pg T C a me σ τ S _ _ q;cases h;rw[e1];exact⟨Re,rfl,s1,b1⟩
 | .or a b,me,σ,τ,S,v,Ca,h=>by
  simp only[Ug]at h|-
  split at h<;>try (cases h;done)
  ·rename_i Ja q
   obtain⟨Re,e1,s1,b1⟩:=Pg T C a me σ τ S _ _ q;cases h;rw[e1];exact⟨Re,rfl,s1,b1⟩
  ·rename_i Ja q
   obtain⟨Re,e1,s1,b1⟩:=Pg T C a me σ τ S _ _ q;rw[e1];simp only[id];obtain⟨Of,e2,s2,b2⟩:=Pg T C b me Ja Re s1 _ _ h;exact⟨Of,e2,s2,b1.trans b2⟩
 | .not a,me,σ,τ,S,v,Ca,h=>by
  simp only[Ug]at h|-
  split at h<;>cases h
  rename_i q;obtain⟨Re,e1,s1,b1⟩:=Pg T C a me σ τ S _ _ q;rw[e1];exact⟨Re,rfl,s1,b1⟩
 | .base x,me,σ,τ,S,v,Ca,h=>by
  simp only[Ug]at h|-
  split at h<;>cases h
  rename_i q;obtain⟨Re,e1,s1,b1⟩:=zd T C x me σ τ S _ _ q;rw[e1,Oh];exact⟨Re,rfl,s1,b1⟩
theorem Pk (T:Ei t1 t2) (C:aq f c1 c2):∀(xs:List B) (me:Me) (σ τ:St),Ji f σ τ->Nk f (vh t1 c1 xs me σ) (vh t2 c2 xs (Ol f me) τ) id τ
 | [],me,σ,τ,S,v,Ca,h=>by simp only[vh]at h|-;cases h;exact⟨τ,rfl,S,.refl⟩
 |x::xs,me,σ,τ,S,v,Ca,h=>by
  simp only[vh]at h|-
  split at h<;>try (cases h;done)
  ·rename_i Ja q
   obtain⟨Re,e1,s1,b1⟩:=Pg T C x me σ τ S _ _ q;rw[e1];simp only[id];obtain⟨Of,e2,s2,b2⟩:=Pk T C xs me Ja Re s1 _ _ h;exact⟨Of,e2,s2,b1.trans b2⟩
  ·rename_i Ja q
   obtain⟨Re,e1,s1,b1⟩:=Pg T C x me σ τ S _ _ q;cases h;rw[e1];exact⟨Re,rfl,s1,b1⟩
theorem Vs (T:Ei t1 t2) (C:aq f c1 c2):∀(gs:List G) (e1 e2:Me->St->Option (V×St)),(∀me σ τ,Ji f σ τ->Nk f (e1 me σ) (e2 (Ol f me) τ) (rn f) τ)->∀(me:Me) (σ τ:St),Ji f σ τ->
 Nk f (Ef t1 c1 gs e1 me σ) (Ef t2 c2 gs e2 (Ol f me) τ) (fk (rn f)) τ
 | [],e1,e2,he,me,σ,τ,S,v,Ca,h=>by
  simp only[Ef]at h|-
  split at h<;>cases h
  rename_i q;obtain⟨Re,z1,s1,b1⟩:=he me σ τ S _ _ q;rw[z1];exact⟨Re,rfl,s1,b1⟩
 | .mk iter tgt ifs::gs,e1,e2,he,me,σ,τ,S,v,Ca,h=>by
  simp only[Ef]at h|-
  split at h<;>try (cases h;done)
  rename_i iv Ja q;obtain⟨Re,z1,s1,b1⟩:=zd T C iter me σ τ S _ _ q;rw[z1];simp only[]
  split at h<;>try (cases h;done)
  rename_i it q2;rw[mo s1 q2];simp only[];have L:=oq (f:=f)
   (G:=λv σ=>match yd tgt v (Ol f me)with
    |some Qd=>match vh t2 c2 ifs Qd σ with
     |some (true,σ)=>Ef t2 c2 gs e2 Qd σ
     |some (false,σ)=>aa ([],σ)
     |ba=>ba
    |ba=>ba)
   (λv σ τ S w Ca h=>by
    split at h<;>try (cases h;done)
    rename_i Qd y1;have y1':=Vu (f:=f) y1;simp only[y1']
    split at h<;>try (cases h;done)
    ·rename_i ae y2
     obtain⟨Ej,z3,s3,b3⟩:=Pk T C ifs Qd σ τ S _ _ y2;rw[z3];simp only[id];obtain⟨du,z4,s4,b4⟩:=Vs T C gs e1 e2 he Qd ae Ej s3 _ _ h;exact⟨du,z4,s4,b3.trans b4⟩
    ·rename_i ae y2
     obtain⟨Ej,z3,s3,b3⟩:=Pk T C ifs Qd σ τ S _ _ y2;cases h;rw[z3];exact⟨Ej,rfl,s3,b3⟩) 5000 it 0 Ja Re s1 _ _ h
  obtain⟨Of,z2,s2,b2⟩:=L;exact⟨Of,z2,s2,b1.trans b2⟩
end
end
end Mine
namespace Mine
section
variable {f:Nat->Nat} {σ Ca τ Yh:St} {t1 t2:gi} {c1 c2:Nat->List V->St->Option (V×St)}
def MJ (f:Nat->Nat) (r1 r2:Option (Me×St)) (τ:St):Prop:=
 ∀me Ca,r1=aa (me,Ca)->∃Yh,r2=aa (Ol f me,Yh)/\Ji f Ca Yh/\WB f τ Yh
mutual
theorem MB (T:Ei t1 t2) (C:aq f c1 c2):∀(t:Mine.T) (v:V) (me:Me) (σ τ:St),Ji f σ τ->MJ f (Fk t1 c1 t v me σ) (Fk t2 c2 t (rn f v) (Ol f me) τ) τ
 | .var i,v,me,σ,τ,S,Qb,Ca,h=>by
  simp only[Fk]at h|-
  split at h<;>cases h
  rename_i q;rw[Qw,if_pos q,Cp];exact⟨τ,rfl,S,.refl⟩
 | .tup ts,v,me,σ,τ,S,Qb,Ca,h=>by
  simp only[Fk]at h|-
  split at h<;>try (cases h;done)
  rw[Lg];exact Ky T C ts _ me σ τ S _ _ h
 | .attr o n,v,me,σ,τ,S,Qb,Ca,h=>by
  simp only[Fk]at h|-
  split at h<;>try (cases h;done)
  rename_i ov Ja q;obtain⟨Re,e1,s1,b1⟩:=zd T C o me σ τ S _ _ q;rw[e1];simp only[]
  split at h<;>cases h
  rename_i q2;obtain⟨Of,e2,s2,b2⟩:=Sw T s1 q2;rw[e2];exact⟨Of,rfl,s2,b1.trans b2⟩
 | .sub o i,v,me,σ,τ,S,Qb,Ca,h=>by
  simp only[Fk]at h|-
  split at h<;>try (cases h;done)
  rename_i ov Ja q;obtain⟨Re,e1,s1,b1⟩:=zd T C o me σ τ S _ _ q;rw[e1];simp only[]
  split at h<;>try (cases h;done)
  rename_i iv Cb q2;obtain⟨Of,e2,s2,b2⟩:=zd T C i me Ja Re s1 _ _ q2;rw[e2];simp only[]
  split at h<;>cases h
  rename_i q3;obtain⟨Ej,e3,s3,b3⟩:=Ao s2 q3;rw[e3];exact⟨Ej,rfl,s3,(b1.trans b2).trans b3⟩
theorem Ky (T:Ei t1 t2) (C:aq f c1 c2):∀(ts:List Mine.T) (vs:List V) (me:Me) (σ τ:St),Ji f σ τ->MJ f (Lh t1 c1 ts vs me σ) (Lh t2 c2 ts (vs.map (rn f)) (Ol f me) τ) τ
 | [],[],me,σ,τ,S,Qb,Ca,h=>by simp only[Lh]at h;cases h;exact⟨τ,rfl,S,.refl⟩
 | [],v::vs,me,σ,τ,S,Qb,Ca,h=>by simp only[Lh]at h;cases h
 |t::ts,[],me,σ,τ,S,Qb,Ca,h=>by simp only[Lh]at h;cases h
 |t::ts,v::vs,me,σ,τ,S,Qb,Ca,h=>by
  simp only[Lh,sa]at h|-
  split at h<;>try (cases h;done)
  rename_i Qd Ja q;obtain⟨Re,e1,s1,b1⟩:=MB T C t v me σ τ S _ _ q;rw[e1];simp only[];obtain⟨Of,e2,s2,b2⟩:=Ky T C ts vs Qd Ja Re s1 _ _ h;exact⟨Of,e2,s2,b1.trans b2⟩
end
theorem SB:∀{vs:List V} {xss:List (List V)},Xh vs=aa xss->Xh (vs.map (rn f))=aa (xss.map (fk (rn f)))
 | [],xss,h=>by cases h;rfl
 |v::vs,xss,h=>by
  cases v<;>simp only[Xh]at h<;>try (cases h;done)
  split at h<;>cases h
  rename_i q;rw[sa,Lg,Xh,SB q];rfl
theorem gH {xss:List (List V)} {items:List V} (h:zr xss=aa items):zr (xss.map (fk (rn f)))=aa (items.map (rn f)):=by
 unfold zr at h
 split at h<;>try (cases h;done)
 split at h<;>cases h
 rename_i q;simp only[sa,zb,zr,ja];rw[if_pos q]
 congr 1
 rw[xJ,xJ,Fc,Fc];refine Af λp _=> ?_;simp only[gn,Lg,sa,zb,Prod.map]
mutual
theorem aB (T:Ei t1 t2) (C:aq f c1 c2):∀(s:S) (me:Me) (σ τ:St),Ji f σ τ->bC f (Vf t1 c1 s me σ) (Vf t2 c2 s (Ol f me) τ) τ
 | .assign t e,me,σ,τ,S,fl,Qb,Ca,h=>by
  simp only[Vf]at h|-
  split at h<;>try (cases h;done)
  rename_i v Ja q;obtain⟨Re,e1,s1,b1⟩:=zd T C e me σ τ S _ _ q;rw[e1];simp only[]
  split at h<;>cases h
  rename_i q2;obtain⟨Of,e2,s2,b2⟩:=MB T C t v me Ja Re s1 _ _ q2;rw[e2];exact⟨Of,rfl,s2,b1.trans b2⟩
 | .aug o i op e,me,σ,τ,S,fl,Qb,Ca,h=>by
  simp only[Vf]at h|-
  split at h<;>try (cases h;done)
  rename_i ov Ja q;obtain⟨Re,e1,s1,b1⟩:=zd T C o me σ τ S _ _ q;rw[e1];simp only[]
  split at h<;>try (cases h;done)
  rename_i iv Cb q2;obtain⟨Of,e2,s2,b2⟩:=zd T C i me Ja Re s1 _ _ q2;rw[e2];simp only[]
  split at h<;>try (cases h;done)
  rename_i old q3;rw[Oy s2 q3];simp only[]
  split at h<;>try (cases h;done)
  rename_i v ae q4;obtain⟨Ej,e3,s3,b3⟩:=zd T C e me Cb Of s2 _ _ q4;rw[e3];simp only[]
  split at h<;>try (cases h;done)
  ·split at h<;>cases h
   rename_i q5;obtain⟨du,e4,s4,b4⟩:=Ao s3 q5;rw[Pc]at e4;simp only[Pc,e4];exact⟨du,rfl,s4,((b1.trans b2).trans b3).trans b4⟩
  ·split at h<;>cases h
   rename_i q5;obtain⟨du,e4,s4,b4⟩:=Ao s3 q5;rw[Pc]at e4;simp only[Pc,e4];exact⟨du,rfl,s4,((b1.trans b2).trans b3).trans b4⟩
 | .expr e,me,σ,τ,S,fl,Qb,Ca,h=>by
  simp only[Vf]at h|-
  split at h<;>cases h
  ·rename_i q
   obtain⟨Re,e1,s1,b1⟩:=zd T C e me σ τ S _ _ q;rw[e1,Ph];exact⟨Re,rfl,s1,b1⟩
  ·rename_i q
   obtain⟨Re,e1,s1,b1⟩:=zd T C e me σ τ S _ _ q;rw[e1,Oh];exact⟨Re,rfl,s1,b1⟩
 | .ifs t a b,me,σ,τ,S,fl,Qb,Ca,h=>by
  simp only[Vf]at h|-
  split at h<;>try (cases h;done)
  ·rename_i Ja q
   obtain⟨Re,e1,s1,b1⟩:=Pg T C t me σ τ S _ _ q;rw[e1];simp only[id];obtain⟨Of,e2,s2,b2⟩:=Xi T C a me Ja Re s1 _ _ _ h;exact⟨Of,e2,s2,b1.trans b2⟩
  ·rename_i Ja q
   obtain⟨Re,e1,s1,b1⟩:=Pg T C t me σ τ S _ _ q;rw[e1];simp only[id];obtain⟨Of,e2,s2,b2⟩:=Xi T C b me Ja Re s1 _ _ _ h;exact⟨Of,e2,s2,b1.trans b2⟩
 | .whil t b,me,σ,τ,S,fl,Qb,Ca,h=>by
  simp only[Vf]at h|-;exact Dv (λme σ τ S=>Pg T C t me σ τ S) (λme σ τ S=>Xi T C b me σ τ S) 5000 me σ τ S _ _ _ h
 | .fors t e b,me,σ,τ,S,fl,Qb,Ca,h=>by
  simp only[Vf]at h|-
  split at h<;>try (cases h;done)
  rename_i v Ja q;obtain⟨Re,e1,s1,b1⟩:=zd T C e me σ τ S _ _ q;rw[e1];simp only[]
  split at h<;>try (cases h;done)
  rename_i it q2;rw[mo s1 q2];simp only[];have L:=pq (f:=f) (G:=λv me σ=>match dg t v me with
   |some Qd=>wf t2 c2 b Qd σ
   |ba=>ba) (λv me σ τ S fl Qb Ca h=>by
   split at h<;>try (cases h;done)
   rename_i Qd z;simp only[Wu (f:=f) z];exact Xi T C b Qd σ τ S _ _ _ h) 5000 it 0 me Ja Re s1 _ _ _ h
  obtain⟨Of,e2,s2,b2⟩:=L;exact⟨Of,e2,s2,b1.trans b2⟩
 | .forz t es b,me,σ,τ,S,fl,Qb,Ca,h=>by
  simp only[Vf]at h|-
  split at h<;>try (cases h;done)
  rename_i vs Ja q;obtain⟨Re,e1,s1,b1⟩:=ri T C es me σ τ S _ _ q;rw[e1];simp only[]
  split at h<;>try (cases h;done)
  rename_i xss q2;rw[SB q2];simp only[]
  split at h<;>try (cases h;done)
  rename_i items q3;rw[gH q3];simp only[];have L:=pq (f:=f) (G:=λv me σ=>match dg t v me with
   |some Qd=>wf t2 c2 b Qd σ
   |ba=>ba) (λv me σ τ S fl Qb Ca h=>by
   split at h<;>try (cases h;done)
   rename_i Qd z;simp only[Wu (f:=f) z];exact Xi T C b Qd σ τ S _ _ _ h) 5000 (.st items) 0 me Ja Re s1 _ _ _ h
  obtain⟨Of,e2,s2,b2⟩:=L;exact⟨Of,e2,s2,b1.trans b2⟩
 | .ret e,me,σ,τ,S,fl,Qb,Ca,h=>by
  simp only[Vf]at h|-
  split at h<;>cases h
  rename_i q;obtain⟨Re,e1,s1,b1⟩:=zd T C e me σ τ S _ _ q;rw[e1];exact⟨Re,rfl,s1,b1⟩
theorem Xi (T:Ei t1 t2) (C:aq f c1 c2):∀(ss:List S) (me:Me) (σ τ:St),Ji f σ τ->bC f (wf t1 c1 ss me σ) (wf t2 c2 ss (Ol f me) τ) τ
 | [],me,σ,τ,S,fl,Qb,Ca,h=>by simp only[wf]at h;cases h;exact⟨τ,rfl,S,.refl⟩
 |s::ss,me,σ,τ,S,fl,Qb,Ca,h=>by
  simp only[wf]at h|-
  split at h
  ·rename_i Qd Ja q
   obtain⟨Re,e1,s1,b1⟩:=aB T C s me σ τ S _ _ _ q;rw[e1];simp only[NG];obtain⟨Of,e2,s2,b2⟩:=Xi T C ss Qd Ja Re s1 _ _ _ h;exact⟨Of,e2,s2,b1.trans b2⟩
  ·rename_i hn
   obtain⟨Re,e1,s1,b1⟩:=aB T C s me σ τ S _ _ _ h;rw[e1];cases fl with
   |next=>exact absurd h (hn _ _)
   |ret v=>exact⟨Re,rfl,s1,b1⟩
end
theorem XE (T:Ei t1 t2) (C:aq f c1 c2) {fn:Fn} {args:List V} (S:Ji f σ τ):Nk f (Iu t1 c1 fn args σ) (Iu t2 c2 fn (args.map (rn f)) τ) (rn f) τ:=by
 intro v Ca h;unfold Iu at h|-;rw[ja]
 split at h<;>try (cases h;done)
 rename_i hl;rw[if_pos hl];have em:(args.map (rn f)).map aa++Aa (fn.slots - fn.params) ba=Ol f (args.map aa++Aa (fn.slots - fn.params) ba):=by
  rw[JB];unfold Ol;rw[Fc,Fc];rfl
 rw[em]
 split at h<;>cases h
 ·rename_i q
  obtain⟨Re,e1,s1,b1⟩:=Xi T C fn.body _ σ τ S _ _ _ q;rw[e1];exact⟨Re,rfl,s1,b1⟩
 ·rename_i q
  obtain⟨Re,e1,s1,b1⟩:=Xi T C fn.body _ σ τ S _ _ _ q;rw[e1,Ph];exact⟨Re,rfl,s1,b1⟩
theorem Xu (T:Ei t1 t2) {fns:Nat->Option Fn}:∀{n m:Nat},n<=m->aq f (Oa t1 fns n) (Oa t2 fns m)
 |0,m,_,a,args,σ,τ,S,v,Ca,h=>by simp only[Oa]at h;cases h
 |n+1,0,hm,_,_,_,_,_,_,_,_=>absurd hm (by omega)
 |n+1,m+1,hm,a,args,σ,τ,S,v,Ca,h=>by
  simp only[Oa]at h|-
  split at h<;>try (cases h;done)
  exact XE T (Xu T (Nat.le_of_succ_le_succ hm)) S _ _ h
end
def wq (as:List Nat) (n:Nat) (i:Nat):Nat:=match as[i]? with
 |some a=>a
 |none=>n+(i - as.length)
def Om:St->List Nat->List O->St
 |σ,a::as,o::os=>Om (σ.set a o) as os
 |σ,_,_=>σ
theorem Lp:∀{as:List Nat} {os:List O} {σ:St},(Om σ as os).length=σ.length
 | [],_,_=>by unfold Om;rfl
 |_::_,[],_=>by unfold Om;rfl
 |a::as,o::os,σ=>by rw[Om,Lp,Mb]
theorem Zt:∀{as:List Nat} {os:List O} {σ:St} {i:Nat},i∉as->(Om σ as os)[i]? =σ[i]?
 | [],_,_,_,_=>by unfold Om;rfl
 |_::_,[],_,_,_=>by unfold Om;rfl
 |a::as,o::os,σ,i,h=>by
  rw[Om,Zt (λq=>h (Ia _ q)),Na (λq=>h (by rw[q];exact Ma))]
theorem UB:∀{as:List Nat} {os:List O} {σ:St} {k a:Nat} {o:O},as.Nodup->(∀a∈as,a<σ.length)->as[k]? =aa a->os[k]? =aa o->(Om σ as os)[a]? =aa o
 |b::as,p::os,σ,0,a,o,hn,hl,h1,h2=>by
  simp only[sf,Tc]at h1 h2;subst h1;subst h2;rw[Om,Zt (Gc.mp hn).1,fb (hl _ Ma)]
 |b::as,p::os,σ,k+1,a,o,hn,hl,h1,h2=>by
  simp only[mi]at h1 h2;rw[Om];exact UB (Gc.mp hn).2 (λa ha=>by rw[Mb];exact hl a (Ia _ ha)) h1 h2
 | [],_,_,_,_,_,_,_,h,_=>by simp at h
 |_::_,[],_,_,_,_,_,_,_,h=>by simp at h
theorem MG {as:List Nat} {n:Nat} (hn:as.Nodup) (hl:∀a∈as,a<n):∀i j,wq as n i=wq as n j->i=j:=by
 intro i j h;unfold wq at h;cases hi:as[i]? with
 |none=>
  rw[hi]at h;have hi':=Od.mp hi;cases hj:as[j]? with
  |none=>
   rw[hj]at h;have hj':=Od.mp hj;simp only at h;omega
  |some b=>
   rw[hj]at h;have:=hl b (ma hj);simp only at h;omega
 |some a=>
  rw[hi]at h;have ha:=hl a (ma hi);cases hj:as[j]? with
  |none=>rw[hj]at h;simp only at h;omega
  |some b=>
   rw[hj]at h;simp only at h;subst h;exact(Ik (ca.mp hi).1 hn).mp (hi.trans hj.symm)
theorem YI {as:List Nat} {σ τ:St} (hn:as.Nodup) (hl:∀a∈as,a<τ.length) (he:as.length=σ.length) (hm:∀(k a:Nat) (o:O),as[k]? =aa a->σ[k]? =aa o->τ[a]? =aa (Uk (wq as τ.length) o)):Ji (wq as τ.length) σ τ:=by
 refine⟨λi o h=> ?_,MG hn hl,λj=> ?_⟩
 ·have hi:=(ca.mp h).1
  have hi':i<as.length:=by omega
  have e:as[i]? =aa as[i]:=da hi';have:wq as τ.length i=as[i]:=by unfold wq;rw[e]
  rw[this];exact hm _ _ _ e h
 ·unfold wq
  rw[Yd (by omega)];simp only;omega
theorem UG {as:List Nat} {σ Ca τ Yh:St} (hn:as.Nodup) (hl:∀a∈as,a<τ.length) (he:as.length=σ.length) (hlen:σ.length<=Ca.length) (S:Ji (wq as τ.length) Ca Yh) (F:WB (wq as τ.length) τ Yh):
 Yh=Om τ as ((Ca.take σ.length).map (Uk (wq as τ.length)))++(Ca.drop σ.length).map (Uk (wq as τ.length)):=by
 have wh:Yh.length=τ.length+(Ca.length - σ.length):=by
  have:=S.top 0;unfold wq at this;rw[Yd (by omega)]at this;simp only at this;omega
 apply Hk
 intro i
 by_cases h:i<τ.length
 ·rw[ta (by rw[Lp];exact h)]
  by_cases hm:i∈as
  ·obtain⟨k,hk,rfl⟩:=zf hm
   have ek:as[k]? =aa as[k]:=da hk;have hk':k<Ca.length:=by omega
   have e1:=S.emb k Ca[k] (da hk');have:wq as τ.length k=as[k]:=by unfold wq;rw[ek]
   rw[this]at e1;rw[e1];refine(UB hn hl ek ?_).symm;rw[za,List.getElem?_take,if_pos (by omega),da hk'];rfl
  ·rw[Zt hm]
   refine F i λj hj=> ?_;unfold wq at hj
   split at hj
   ·rename_i a e;subst hj;exact hm (ma e)
   ·omega
 ·obtain⟨j,rfl⟩:=Wl (Ke h)
  rw[Ra (by rw[Lp];omega),Lp,Vl,za,List.getElem?_drop]
  by_cases hj:σ.length+j<Ca.length
  ·rw[da hj]
   have e1:=S.emb _ _ (da hj);have:wq as τ.length (σ.length+j)=τ.length+j:=by
    unfold wq;rw[Yd (by omega)];simp only;omega
   rw[this]at e1;rw[e1];rfl
  ·rw[Yd (by omega),Yd (by omega)];rfl
def Holds (f:Nat->Nat) (τ:St):List Nat->List O->Prop
 |a::as,o::os=>τ[a]? =aa (Uk f o)/\Holds f τ as os
 | [],[]=>True
 |_,_=>False
theorem Holds.at {f:Nat->Nat} {τ:St}:∀{as:List Nat} {os:List O},Holds f τ as os->as.length=os.length/\∀(k a:Nat) (o:O),as[k]? =aa a->os[k]? =aa o->τ[a]? =aa (Uk f o)
 |a::as,o::os,h=>by
  have ih:=Holds.at h.2;refine⟨by simp[ih.1],λk b p h1 h2=> ?_⟩;cases k with
  |zero=>simp at h1 h2;subst h1;subst h2;exact h.1
  |succ k=>exact ih.2 k b p (by simpa using h1) (by simpa using h2)
 | [],[],h=>⟨rfl,λk a o h=>by simp at h⟩
 | [],_::_,h=>h.elim
 |_::_,[],h=>h.elim
theorem dw {t1 t2:gi} (T:Ei t1 t2) {fns:Nat->Option Fn} {n m a:Nat} {args:List V} {σ Ca τ:St} {v:V} (h:Oa t1 fns n a args σ=aa (v,Ca)) (hnm:n<=m) (as:List Nat) (hn:as.Nodup)
 (hm:Holds (wq as τ.length) τ as σ) (hlen:σ.length<=Ca.length):
 Oa t2 fns m a (args.map (rn (wq as τ.length))) τ=aa (rn (wq as τ.length) v,Om τ as ((Ca.take σ.length).map (Uk (wq as τ.length)))++(Ca.drop σ.length).map (Uk (wq as τ.length))):=by
 obtain⟨e,g⟩:=hm.at;have hl:∀a∈as,a<τ.length:=λa ha=>by
  obtain⟨k,hk,rfl⟩:=zf ha;have:=g k _ σ[k] (da hk) (da (by omega));exact(ca.mp this).1
 obtain⟨Yh,e1,s1,f1⟩:=Xu T hnm a args σ τ (YI hn hl e g) v Ca h;rw[e1,<-UG hn hl e hlen s1 f1]
end Mine
namespace Mine
section
variable {t:gi} {c:Nat->List V->St->Option (V×St)} {me:Me} {σ:St}
def Ec (t:gi) (c:Nat->List V->St->Option (V×St)) (k:Nat) (tgt:CT) (ifs:List B) (Md:List G) (elt:X) (me:Me) (v:V) (σ:St):Option (List V×St):=
 match yd tgt v (me++Aa k ba)with
 |some Qd=>(match vh t c ifs Qd σ with
  |some (true,σ)=>Ef t c Md (λme σ=>gc t c elt me σ) Qd σ
  |some (false,σ)=>aa ([],σ)
  |none=>ba)
 |none=>ba
def rG (t:gi) (c:Nat->List V->St->Option (V×St)) (tgt:CT) (ifs:List B) (gs:List G) (elt:Me->St->Option (V×St)) (me:Me) (v:V) (σ:St):Option (List V×St):=
 match yd tgt v me with
 |some Qd=>(match vh t c ifs Qd σ with
  |some (true,σ)=>Ef t c gs elt Qd σ
  |some (false,σ)=>aa ([],σ)
  |none=>ba)
 |none=>ba
def Ce (t:gi) (c:Nat->List V->St->Option (V×St)) (tgt:CT) (b:List S) (v:V) (me:Me) (σ:St):Option (Fl×Me×St):=
 match dg tgt v me with
 |some Qd=>wf t c b Qd σ
 |none=>ba
theorem Oe {i}:gc t c (.var i) me σ=match me[i]? with|some (aa v)=>aa (v,σ)|_=>ba:=by rw[gc]<;>rfl
theorem uh {v}:gc t c (.con v) me σ=aa (.con v,σ):=by rw[gc]
theorem VH:gc t c .none me σ=aa (.none,σ):=by rw[gc]
theorem TH {b}:gc t c (.bool b) me σ=aa (.bool b,σ):=by rw[gc]
theorem Fm {b}:gc t c (.int b) me σ=aa (.int b,σ):=by rw[gc]
theorem bE {b}:gc t c (.str b) me σ=aa (.str b,σ):=by rw[gc]
theorem Ks {o n}:gc t c (.attr o n) me σ=match gc t c o me σ with
 |some (ov,Ja)=>(match yc t ov n Ja with|some v=>aa (v,Ja)|none=>ba)
 |none=>ba:=by rw[gc]<;>rfl
theorem VA {o i}:gc t c (.sub o i) me σ=match gc t c o me σ with
 |some (ov,Ja)=>(match gc t c i me Ja with
  |some (iv,Cb)=>(match Qe ov iv Cb with|some v=>aa (v,Cb)|none=>ba)
  |none=>ba)
 |none=>ba:=by rw[gc]<;>rfl
theorem SJ {o k}:gc t c (.cut o k) me σ=match gc t c o me σ with
 |some (ov,Ja)=>pr t ov k Ja
 |none=>ba:=by rw[gc]<;>rfl
theorem YD {op a b}:gc t c (.bin op a b) me σ=match gc t c a me σ with
 |some (av,Ja)=>(match gc t c b me Ja with
  |some (bv,Cb)=>Cf op av bv Cb
  |none=>ba)
 |none=>ba:=by rw[gc]<;>rfl
theorem aE {a}:gc t c (.neg a) me σ=match gc t c a me σ with
 |some (.int i,Ja)=>aa (.int (-i),Ja)
 |_=>ba:=by rw[gc]<;>rfl
theorem Bn {op a b}:gc t c (.cmp op a b) me σ=match gc t c a me σ with
 |some (av,Ja)=>(match gc t c b me Ja with
  |some (bv,Cb)=>(match Zc op av bv Cb with|some r=>aa (.bool r,Cb)|none=>ba)
  |none=>ba)
 |none=>ba:=by rw[gc]<;>rfl
theorem Az {op1 op2 a b d}:gc t c (.cmp2 op1 op2 a b d) me σ=match gc t c a me σ with
 |some (av,Ja)=>(match gc t c b me Ja with
  |some (bv,Cb)=>(match Zc op1 av bv Cb with
   |some true=>(match gc t c d me Cb with
    |some (cv,ae)=>(match Zc op2 bv cv ae with|some r=>aa (.bool r,ae)|none=>ba)
    |none=>ba)
   |some false=>aa (.bool false,Cb)
   |none=>ba)
  |none=>ba)
 |none=>ba:=by rw[gc]<;>rfl
theorem TJ {tb a b}:gc t c (.ite tb a b) me σ=match Ug t c tb me σ with
 |some (true,Ja)=>gc t c a me Ja
 |some (false,Ja)=>gc t c b me Ja
 |none=>ba:=by rw[gc]<;>rfl
theorem Vo {xs}:gc t c (.tup xs) me σ=match Gf t c xs me σ with
 |some (vs,Ja)=>uj vs Ja
 |none=>ba:=by rw[gc]<;>rfl
theorem Gm {xs}:gc t c (.list xs) me σ=match Gf t c xs me σ with
 |some (vs,Ja)=>newL vs Ja
 |none=>ba:=by rw[gc]<;>rfl
theorem UH {ks vs}:gc t c (.dict ks vs) me σ=match Gf t c ks me σ with
 |some (kv,Ja)=>(match Gf t c vs me Ja with
  |some (vv,Cb)=>th kv vv Cb
  |none=>ba)
 |none=>ba:=by rw[gc]<;>rfl
theorem ig {k iter tgt ifs Md elt}:gc t c (.comp k iter tgt ifs Md elt) me σ=match gc t c iter me σ with
 |some (v,Ja)=>(match te v Ja with
  |some it=>(match re 5000 it 0 (Ec t c k tgt ifs Md elt me) Ja with
   |some (vs,Cb)=>newL vs Cb
   |none=>ba)
  |none=>ba)
 |none=>ba:=by rw[gc]<;>rfl
theorem Nf {f args}:gc t c (.call f args) me σ=match gc t c f me σ with
 |some (fv,Ja)=>(match Gf t c args me Ja with
  |some (vs,Cb)=>rh t c fv vs Cb
  |none=>ba)
 |none=>ba:=by rw[gc]<;>rfl
theorem Wn {o n args}:gc t c (.meth o n args) me σ=match gc t c o me σ with
 |some (ov,Ja)=>(match kg t ov n Ja with
  |some k=>(match Gf t c args me Ja with
   |some (vs,Cb)=>Wc c k n vs Cb
   |none=>ba)
  |none=>ba)
 |none=>ba:=by rw[gc]<;>rfl
theorem tH {i f args}:gc t c (.sup i f args) me σ=match me[i]? with
 |some (aa (.ref j))=>(match σ[j]? with
  |some (.inst cl d)=>(match σ[d]? with
   |some (.sdict _)=>if t.sup cl=aa f then(match Gf t c args me σ with
    |some (vs,Ja)=>c f (.ref j::vs) Ja
    |none=>ba)
    else ba
   |_=>ba)
  |_=>ba)
 |_=>ba:=by rw[gc]<;>rfl
theorem Qf:Gf t c [] me σ=aa ([],σ):=by rw[Gf]
theorem Te {x xs}:Gf t c (x::xs) me σ=match gc t c x me σ with
 |some (v,Ja)=>(match Gf t c xs me Ja with
  |some (vs,Cb)=>aa (v::vs,Cb)
  |none=>ba)
 |none=>ba:=by rw[Gf]<;>rfl
theorem TA {a b}:Ug t c (.and a b) me σ=match Ug t c a me σ with
 |some (true,Ja)=>Ug t c b me Ja
 |some (false,Ja)=>aa (false,Ja)
 |none=>ba:=by rw[Ug]<;>rfl
theorem VK {a b}:Ug t c (.or a b) me σ=match Ug t c a me σ with
 |some (true,Ja)=>aa (true,Ja)
 |some (false,Ja)=>Ug t c b me Ja
 |none=>ba:=by rw[Ug]<;>rfl
theorem Ms {a}:Ug t c (.not a) me σ=match Ug t c a me σ with
 |some (b,Ja)=>aa (!b,Ja)
 |none=>ba:=by rw[Ug]<;>rfl
theorem lj {x}:Ug t c (.base x) me σ=match gc t c x me σ with
 |some (.bool b,Ja)=>aa (b,Ja)
 |_=>ba:=by rw[Ug]<;>rfl
theorem mj:vh t c [] me σ=aa (true,σ):=by rw[vh]
theorem Ls {b bs}:vh t c (b::bs) me σ=match Ug t c b me σ with
 |some (true,Ja)=>vh t c bs me Ja
 |some (false,Ja)=>aa (false,Ja)
 |none=>ba:=by rw[vh]<;>rfl
theorem Og {elt}:Ef t c [] elt me σ=match elt me σ with
 |some (v,Ja)=>aa ([v],Ja)
 |none=>ba:=by rw[Ef]<;>rfl
theorem UA {iter tgt ifs gs elt}:Ef t c (.mk iter tgt ifs::gs) elt me σ=match gc t c iter me σ with
 |some (v,Ja)=>(match te v Ja with
  |some it=>re 5000 it 0 (rG t c tgt ifs gs elt me) Ja
  |none=>ba)
 |none=>ba:=by rw[Ef]<;>rfl
theorem nj {i v}:Fk t c (.var i) v me σ=if i<me.length then aa (me.set i (aa v),σ)else ba:=by rw[Fk]
theorem YH {ts xs}:Fk t c (.tup ts) (.tup xs) me σ=Lh t c ts xs me σ:=by rw[Fk]
theorem WA {o n v}:Fk t c (.attr o n) v me σ=match gc t c o me σ with
 |some (ov,Ja)=>(match ye t ov n v Ja with
  |some Cb=>aa (me,Cb)
  |none=>ba)
 |none=>ba:=by rw[Fk]<;>rfl
theorem XH {o i v}:Fk t c (.sub o i) v me σ=match gc t c o me σ with
 |some (ov,Ja)=>(match gc t c i me Ja with
  |some (iv,Cb)=>(match Cd ov iv v Cb with
   |some ae=>aa (me,ae)
   |none=>ba)
  |none=>ba)
 |none=>ba:=by rw[Fk]<;>rfl
theorem WK:Lh t c [] [] me σ=aa (me,σ):=by rw[Lh]
theorem XK {x xs v vs}:Lh t c (x::xs) (v::vs) me σ=match Fk t c x v me σ with
 |some (Qd,Ja)=>Lh t c xs vs Qd Ja
 |none=>ba:=by rw[Lh]<;>rfl
theorem gg {x e}:Vf t c (.assign x e) me σ=match gc t c e me σ with
 |some (v,Ja)=>(match Fk t c x v me Ja with
  |some (Up,Cb)=>aa (.next,Up,Cb)
  |none=>ba)
 |none=>ba:=by rw[Vf]<;>rfl
theorem RJ {o i op e}:Vf t c (.aug o i op e) me σ=match gc t c o me σ with
 |some (ov,Ja)=>(match gc t c i me Ja with
  |some (iv,Cb)=>(match Qe ov iv Cb with
   |some old=>(match gc t c e me Cb with
    |some (v,ae)=>(match old,v,op with
     | .int x,.int y,.Add=>(match Cd ov iv (.int (x+y)) ae with
      |some dh=>aa (.next,me,dh)
      |none=>ba)
     | .int x,.int y,.Sub=>(match Cd ov iv (.int (x - y)) ae with
      |some dh=>aa (.next,me,dh)
      |none=>ba)
     |_,_,_=>ba)
    |none=>ba)
   |none=>ba)
  |none=>ba)
 |none=>ba:=by rw[Vf]<;>rfl
theorem Bz {e}:Vf t c (.expr e) me σ=match gc t c e me σ with
 |some (.none,Ja)=>aa (.next,me,Ja)
 |some (.bool _,Ja)=>aa (.next,me,Ja)
 |_=>ba:=by rw[Vf]<;>rfl
theorem Cz {b x y}:Vf t c (.ifs b x y) me σ=match Ug t c b me σ with
 |some (true,Ja)=>wf t c x me Ja
 |some (false,Ja)=>wf t c y me Ja
 |none=>ba:=by rw[Vf]<;>rfl
theorem Os {b x}:Vf t c (.whil b x) me σ=Gi 5000 (Ug t c b) (wf t c x) me σ:=by rw[Vf]
theorem Ij {x e b}:Vf t c (.fors x e b) me σ=match gc t c e me σ with
 |some (v,Ja)=>(match te v Ja with
  |some it=>Ye 5000 it 0 (Ce t c x b) me Ja
  |none=>ba)
 |none=>ba:=by rw[Vf]<;>rfl
theorem ZD {x es b}:Vf t c (.forz x es b) me σ=match Gf t c es me σ with
 |some (vs,Ja)=>(match Xh vs with
  |some xss=>(match zr xss with
   |some items=>Ye 5000 (.st items) 0 (Ce t c x b) me Ja
   |none=>ba)
  |none=>ba)
 |none=>ba:=by rw[Vf]<;>rfl
theorem gv {e}:Vf t c (.ret e) me σ=match gc t c e me σ with
 |some (v,Ja)=>aa (.ret v,me,Ja)
 |none=>ba:=by rw[Vf]<;>rfl
theorem qj:wf t c [] me σ=aa (.next,me,σ):=by rw[wf]
theorem Ud {s ss}:wf t c (s::ss) me σ=match Vf t c s me σ with
 |some (.next,Qd,Ja)=>wf t c ss Qd Ja
 |r=>r:=by rw[wf]<;>rfl
theorem Dc {fns:Nat->Option Fn} {n a:Nat} {fn:Fn} {args:List V} (h:fns a=aa fn):Oa t fns (n+1) a args σ=Iu t (Oa t fns n) fn args σ:=by simp only[Oa,h]
end
theorem Dj {F:V->Me->St->Option (Fl×Me×St)} {it:It} {xs:List V} (I:Nat->Me->St->Prop) (P:V->Me->St->Prop)
 (ao:∀k me σ,I k me σ->k<=xs.length->jg it k σ=aa xs[k]?)
 (step:∀k v me σ,xs[k]? =aa v->I k me σ->(∃Qb Ca,F v me σ=aa (.next,Qb,Ca)/\I (k+1) Qb Ca)\/(∃r Qb Ca,F v me σ=aa (.ret r,Qb,Ca)/\P r Qb Ca)):
 ∀n k me σ,xs.length - k<n->k<=xs.length->I k me σ->(∃Qb Ca,Ye n it k F me σ=aa (.next,Qb,Ca)/\I xs.length Qb Ca)\/(∃r Qb Ca,Ye n it k F me σ=aa (.ret r,Qb,Ca)/\P r Qb Ca)
 |0,k,me,σ,h,_,_=>absurd h (Fe _)
 |n+1,k,me,σ,h,hk,i=>by
  unfold Ye;rw[ao k me σ i hk];cases e:xs[k]? with
  |none=>
   have:k=xs.length:=mH hk (Od.mp e);exact .inl ⟨me,σ,rfl,this▸i⟩
  |some v=>
   have hk':=(ca.mp e).1;rcases step k v me σ e i with⟨Qb,Ca,q,i'⟩|⟨r,Qb,Ca,q,p⟩
   ·simp only[q]
    exact Dj I P ao step n (k+1) Qb Ca (by omega) (by omega) i'
   ·simp only[q]
    exact .inr ⟨r,Qb,Ca,rfl,p⟩
theorem Xe {F:V->Me->St->Option (Fl×Me×St)} {it:It} {xs:List V} (I:Nat->Me->St->Prop)
 (ao:∀k me σ,I k me σ->k<=xs.length->jg it k σ=aa xs[k]?)
 (step:∀k v me σ,xs[k]? =aa v->I k me σ->(∃Qb Ca,F v me σ=aa (.next,Qb,Ca)/\I (k+1) Qb Ca)) {me:Me} {σ:St} (hl:xs.length<5000) (h:I 0 me σ):
 ∃Qb Ca,Ye 5000 it 0 F me σ=aa (.next,Qb,Ca)/\I xs.length Qb Ca:=by
 rcases Dj I (λ_ _ _=>False) ao (λk v me σ e i=>.inl (step k v me σ e i)) 5000 0 me σ (by omega) (by omega) h with q|⟨_,_,_,_,q⟩
 ·exact q
 ·exact q.elim
theorem Bv {F:V->St->Option (List V×St)} {it:It} {xs:List V} (I:Nat->List V->St->Prop)
 (ao:∀k Cc σ,I k Cc σ->k<=xs.length->jg it k σ=aa xs[k]?)
 (step:∀k v Cc σ,xs[k]? =aa v->I k Cc σ->∃out Ca,F v σ=aa (out,Ca)/\I (k+1) (Cc++out) Ca):
 ∀n k Cc σ,xs.length - k<n->k<=xs.length->I k Cc σ->∃out Ca,re n it k F σ=aa (out,Ca)/\I xs.length (Cc++out) Ca
 |0,k,Cc,σ,h,_,_=>absurd h (Fe _)
 |n+1,k,Cc,σ,h,hk,i=>by
  unfold re;rw[ao k Cc σ i hk];cases e:xs[k]? with
  |none=>
   have:k=xs.length:=mH hk (Od.mp e);exact⟨[],σ,rfl,by rw[um];exact this▸i⟩
  |some v=>
   have hk':=(ca.mp e).1;obtain⟨out,Ca,q,i'⟩:=step k v Cc σ e i;simp only[q];obtain⟨out2,Cb,q2,i2⟩:=Bv I ao step n (k+1) _ Ca (by omega) (by omega) i';simp only[q2];exact⟨_,_,rfl,by rw[<-Jq];exact i2⟩
theorem pf {F:V->St->Option (List V×St)} {it:It} {xs:List V} (I:Nat->List V->St->Prop)
 (ao:∀k Cc σ,I k Cc σ->k<=xs.length->jg it k σ=aa xs[k]?)
 (step:∀k v Cc σ,xs[k]? =aa v->I k Cc σ->∃out Ca,F v σ=aa (out,Ca)/\I (k+1) (Cc++out) Ca) {σ:St} (hl:xs.length<5000) (h:I 0 [] σ):
 ∃out Ca,re 5000 it 0 F σ=aa (out,Ca)/\I xs.length out Ca:=by
 obtain⟨o,s,q,i⟩:=Bv I ao step 5000 0 [] σ (by omega) (by omega) h;exact⟨o,s,q,by simpa using i⟩
theorem We {F:V->St->Option (List V×St)} {it:It} {xs:List V} {σ:St} (g:V->List V) (ao:∀k,jg it k σ=aa xs[k]?) (hF:∀v∈xs,F v σ=aa (g v,σ)) (hl:xs.length<5000):
 re 5000 it 0 F σ=aa (xs.flatMap g,σ):=by
 obtain⟨out,Ca,q,i1,i2⟩:=pf (F:=F) (it:=it) (xs:=xs) (λk Cc τ=>τ=σ/\Cc=(xs.take k).flatMap g) (λk Cc τ h _=>by rw[h.1];exact ao k)
  (λk v Cc τ e h=>⟨g v,σ,by rw[h.1];exact hF v (ma e),rfl,by
   have hk:=(ca.mp e);rw[h.2,Yb,e];simp⟩) hl (σ:=σ) ⟨rfl,by simp⟩
 rw[q,i1,i2,Xd]
theorem Oi {P:Me->St->Option (Bool×St)} {F:Me->St->Option (Fl×Me×St)} (I:Nat->Me->St->Prop) (D:Me->St->Prop) (Q:V->Me->St->Prop)
 (step:∀k me σ,I k me σ->(∃Ja,P me σ=aa (false,Ja)/\D me Ja)\/(∃Ja,P me σ=aa (true,Ja)/\
  ((∃Qb Ca k',F me Ja=aa (.next,Qb,Ca)/\I k' Qb Ca/\k'<k)\/(∃r Qb Ca,F me Ja=aa (.ret r,Qb,Ca)/\Q r Qb Ca)))):
 ∀n k me σ,k<n->I k me σ->(∃Qb Ca,Gi n P F me σ=aa (.next,Qb,Ca)/\D Qb Ca)\/(∃r Qb Ca,Gi n P F me σ=aa (.ret r,Qb,Ca)/\Q r Qb Ca)
 |0,k,me,σ,h,_=>absurd h (Fe _)
 |n+1,k,me,σ,h,i=>by
  unfold Gi;rcases step k me σ i with⟨Ja,q,d⟩|⟨Ja,q,⟨Qb,Ca,k',q2,i',hk⟩|⟨r,Qb,Ca,q2,p⟩⟩
  ·simp only[q];exact .inl ⟨me,Ja,rfl,d⟩
  ·simp only[q,q2]
   exact Oi I D Q step n k' Qb Ca (by omega) i'
  ·simp only[q,q2]
   exact .inr ⟨r,Qb,Ca,rfl,p⟩
theorem ub {σ:St} {os:List O} {i:Nat} {o:O} (h:σ[i]? =aa o):(σ++os)[i]? =aa o:=by
 rw[ta (ca.mp h).1];exact h
theorem vb {σ:St} {o:O}:(σ++[o])[σ.length]? =aa o:=by simp
theorem Ic {σ:St} {i:Nat} {o:O} (h:σ[i]? =aa o):i<σ.length:=(ca.mp h).1
theorem ua {σ:St} {i j:Nat} {o p:O} (h:σ[i]? =aa o) (hn:j≠i):(σ.set j p)[i]? =aa o:=by rw[Na hn];exact h
theorem Ob {σ:St} {i:Nat} {o p:O} (h:σ[i]? =aa o):(σ.set i p)[i]? =aa p:=by
 rw[fb (Ic h)]
structure ib (W:List Nat) (σ Ca:St):Prop where
 len:σ.length<=Ca.length
 old:∀i o,σ[i]? =aa o->i∉W->Ca[i]? =aa o
theorem ib.refl {W:List Nat} {σ:St}:ib W σ σ:=⟨Le _,λ_ _ h _=>h⟩
theorem ib.trans {W:List Nat} {σ Ca σ'':St} (a:ib W σ Ca) (b:ib W Ca σ''):ib W σ σ'':=⟨Eb a.len b.len,λi o h n=>b.old i o (a.old i o h n) n⟩
theorem ib.app {W:List Nat} {σ:St} (os:List O):ib W σ (σ++os):=⟨by simp,λ_ _ h _=>ub h⟩
theorem ib.set {W:List Nat} {σ:St} {i:Nat} (o:O) (h:i∈W):ib W σ (σ.set i o):=⟨by simp,λj p e n=>ua e (λq=>n (q▸h))⟩
theorem ib.mono {W W':List Nat} {σ Ca:St} (a:ib W σ Ca) (h:∀i∈W,i∈W'\/σ.length<=i):ib W' σ Ca:=⟨a.len,λi o e n=>a.old i o e λq=>(h i q).elim n λz=>by have:=Ic e;omega⟩
theorem td {t:gi} {σ:St} {i c d:Nat} {es:List (Rb×V)} {n:Rb} {v:V} (h0:σ[i]? =aa (.inst c d)) (h1:σ[d]? =aa (.sdict es)) (ha:t.attr c n=true) (hl:Cg es n=aa v) (hv:∀w,v≠ .con w):yc t (.ref i) n σ=aa v:=by
 unfold yc;simp only[h0,h1,ha,hl,if_true];cases v<;>first|rfl|exact absurd rfl (hv _)
theorem Zg {t:gi} {σ:St} {i c d:Nat} {es:List (Rb×V)} {n:Rb} {v:V} (h0:σ[i]? =aa (.inst c d)) (h1:σ[d]? =aa (.sdict es)) (ha:t.attr c n=true) (hl:es.length<900):ye t (.ref i) n v σ=aa (σ.set d (.sdict (Nj es n v))):=by
 unfold ye;simp only[h0,h1,ha];rw[if_pos (by simp[yh,hl])]
theorem De {t:gi} {σ:St} {i c d f:Nat} {es:List (Rb×V)} {n:Rb} (h0:σ[i]? =aa (.inst c d)) (h1:σ[d]? =aa (.sdict es)) (hl:Cg es n=ba) (ha:t.meth c n=aa f):kg t (.ref i) n σ=aa (.fn f (.ref i)):=by
 unfold kg;simp only[h0,h1,hl,ha]
theorem Ld {t:gi} {σ:St} {i:Nat} {xs:List V} {n:Rb} (h0:σ[i]? =aa (.list xs)):kg t (.ref i) n σ=aa (.lm i):=by
 unfold kg;simp only[h0]
theorem Pb {σ:St} {i:Nat} {xs:List V} (h:σ[i]? =aa (.list xs)):listAt σ i=aa xs:=by unfold listAt;rw[h]
theorem Lj {n:Nat} (h:n<4096):xh n=true:=by unfold xh;simpa [yh]using h
theorem Ab {xs:List V} {σ:St} (h:xs.length<4096):newL xs σ=aa (.ref σ.length,σ++[.list xs]):=by unfold newL;rw[Lj h]<;>rfl
theorem ac {xs:List V} {σ:St} (h:xs.length<4096):uj xs σ=aa (.tup xs,σ):=by unfold uj;rw[Lj h]<;>rfl
theorem cg {σ:St} {i:Nat} {xs:List V} {v:V} (h:σ[i]? =aa (.list xs)) (hl:xs.length<4096):Lr i "append" [v] σ=aa (.none,σ.set i (.list (xs++[v]))):=by
 unfold Lr;rw[Pb h];simp only[Lj hl,if_true]
theorem Rm {σ:St} {i:Nat} {xs ys:List V} {v:V} (h:σ[i]? =aa (.list xs)) (hv:Wo v σ=aa ys) (hl:xs.length+ys.length<4096):Lr i "extend" [v] σ=aa (.none,σ.set i (.list (xs++ys))):=by
 unfold Lr;rw[Pb h];simp only[hv,Lj hl,if_true];rw[if_neg (by decide)]
theorem Tf {σ:St} {i:Nat} {xs:List V} {k:Nat} {v:V} (h:σ[i]? =aa (.list xs)) (hk:xs[k]? =aa v):Qe (.ref i) (.int k) σ=aa v:=by
 unfold Qe;simp only[h];unfold tG;rw[if_pos (by omega)];simpa using hk
theorem Vw {σ:St} {xs:List V} {k:Nat} {v:V} (hk:xs[k]? =aa v):Qe (.tup xs) (.int k) σ=aa v:=by
 unfold Qe;simp only[];unfold tG;rw[if_pos (by omega)];simpa using hk
theorem Yi {σ:St} {i:Nat} {xs:List V} {k:Nat} {v:V} (h:σ[i]? =aa (.list xs)) (hk:k<xs.length):Cd (.ref i) (.int k) v σ=aa (σ.set i (.list (xs.set k v))):=by
 unfold Cd;simp only[h];rw[if_pos (by omega),if_pos (by omega)];simp
theorem Xw {scr:Nat->Option (List Int)}:Ei Lu (Ga scr):=⟨rfl,rfl,rfl,rfl,λ_ _ h=>by cases h⟩
mutual
def nr:V->Bool
 | .tup xs=>Lw xs
 | .ref _=>false
 |_=>true
def Lw:List V->Bool
 | []=>true
 |x::xs=>nr x&&Lw xs
end
mutual
theorem VE {f:Nat->Nat}:∀{v:V},nr v=true->rn f v=v
 | .tup xs,h=>by rw[nr]at h;rw[rn,lA h]
 | .ref _,h=>by simp[nr]at h
 | .none,_=>Ph
 | .bool _,_=>Oh _
 | .int _,_=>Pc _
 | .str _,_=>zo _
 | .con _,_=>yt _
 | .rng _ _,_=>xq _ _
 | .iset _,_=>Dp _
theorem lA {f:Nat->Nat}:∀{xs:List V},Lw xs=true->VI f xs=xs
 | [],_=>by rw[VI]
 |x::xs,h=>by
  simp only[Lw,La]at h;rw[VI,VE h.1,lA h.2]
end
theorem zt {f:Nat->Nat} {xs:List V} (h:Lw xs=true):xs.map (rn f)=xs:=by rw[<-Pr,lA h]
theorem gt {scr:Nat->Option (List Int)} {n m a:Nat} {args:List V} {v:V} {E:St} (h:Oa Lu yb n a args []=aa (v,E)) (hnm:n<=m) (ha:Lw args=true) (hv:nr v=true) (σ:St):
 ∃E',Oa (Ga scr) yb m a args σ=aa (v,σ++E'):=by
 have:=dw (t2:=Ga scr) Xw h hnm [] .nil (τ:=σ) trivial (Ae _);rw[zt ha,VE hv]at this;simp only[Om]at this;exact⟨_,this⟩
theorem wv {scr:Nat->Option (List Int)} {n m a l:Nat} {args xs:List V} {E:St} (h:Oa Lu yb n a args []=aa (.ref l,E)) (hnm:n<=m) (ha:Lw args=true) (hl:E[l]? =aa (.list xs)) (hx:Lw xs=true) (σ:St):
 ∃E',Oa (Ga scr) yb m a args σ=aa (.ref (σ.length+l),σ++E')/\(σ++E')[σ.length+l]? =aa (.list xs):=by
 have:=dw (t2:=Ga scr) Xw h hnm [] .nil (τ:=σ) trivial (Ae _);rw[zt ha,Nd]at this;simp only[Om,bb,List.drop_zero]at this;have e:wq [] σ.length l=σ.length+l:=by simp[wq]
 rw[e]at this;refine⟨_,this,?_⟩;rw[Ra (by omega),Vl,za,hl];simp only[Se,Uk,zt hx]
end Mine
namespace Mine
theorem EV {t:gi} {c:Nat->List V->St->Option (V×St)} {me:Me} {σ:St}:
 (∀{i},gc t c (.var i) me σ=match me[i]? with|some (aa v)=>aa (v,σ)|_=>ba)/\
 (∀{v},gc t c (.con v) me σ=aa (.con v,σ))/\
 (gc t c .none me σ=aa (.none,σ))/\
 (∀{b},gc t c (.bool b) me σ=aa (.bool b,σ))/\
 (∀{b},gc t c (.int b) me σ=aa (.int b,σ))/\
 (∀{b},gc t c (.str b) me σ=aa (.str b,σ))/\
 (∀{o n},gc t c (.attr o n) me σ=match gc t c o me σ with
 |some (ov,Ja)=>(match yc t ov n Ja with|some v=>aa (v,Ja)|none=>ba)
 |none=>ba)/\
 (∀{o i},gc t c (.sub o i) me σ=match gc t c o me σ with
 |some (ov,Ja)=>(match gc t c i me Ja with
  |some (iv,Cb)=>(match Qe ov iv Cb with|some v=>aa (v,Cb)|none=>ba)
  |none=>ba)
 |none=>ba)/\
 (∀{o k},gc t c (.cut o k) me σ=match gc t c o me σ with
 |some (ov,Ja)=>pr t ov k Ja
 |none=>ba)/\
 (∀{op a b},gc t c (.bin op a b) me σ=match gc t c a me σ with
 |some (av,Ja)=>(match gc t c b me Ja with
  |some (bv,Cb)=>Cf op av bv Cb
  |none=>ba)
 |none=>ba)/\
 (∀{a},gc t c (.neg a) me σ=match gc t c a me σ with
 |some (.int i,Ja)=>aa (.int (-i),Ja)
 |_=>ba)/\
 (∀{op a b},gc t c (.cmp op a b) me σ=match gc t c a me σ with
 |some (av,Ja)=>(match gc t c b me Ja with
  |some (bv,Cb)=>(match Zc op av bv Cb with|some r=>aa (.bool r,Cb)|none=>ba)
  |none=>ba)
 |none=>ba)/\
 (∀{op1 op2 a b d},gc t c (.cmp2 op1 op2 a b d) me σ=match gc t c a me σ with
 |some (av,Ja)=>(match gc t c b me Ja with
  |some (bv,Cb)=>(match Zc op1 av bv Cb with
   |some true=>(match gc t c d me Cb with
    |some (cv,ae)=>(match Zc op2 bv cv ae with|some r=>aa (.bool r,ae)|none=>ba)
    |none=>ba)
   |some false=>aa (.bool false,Cb)
   |none=>ba)
  |none=>ba)
 |none=>ba)/\
 (∀{tb a b},gc t c (.ite tb a b) me σ=match Ug t c tb me σ with
 |some (true,Ja)=>gc t c a me Ja
 |some (false,Ja)=>gc t c b me Ja
 |none=>ba)/\
 (∀{xs},gc t c (.tup xs) me σ=match Gf t c xs me σ with
 |some (vs,Ja)=>uj vs Ja
 |none=>ba)/\
 (∀{xs},gc t c (.list xs) me σ=match Gf t c xs me σ with
 |some (vs,Ja)=>newL vs Ja
 |none=>ba)/\
 (∀{ks vs},gc t c (.dict ks vs) me σ=match Gf t c ks me σ with
 |some (kv,Ja)=>(match Gf t c vs me Ja with
  |some (vv,Cb)=>th kv vv Cb
  |none=>ba)
 |none=>ba)/\
 (∀{k iter tgt ifs Md elt},gc t c (.comp k iter tgt ifs Md elt) me σ=match gc t c iter me σ with
 |some (v,Ja)=>(match te v Ja with
  |some it=>(match re 5000 it 0 (Ec t c k tgt ifs Md elt me) Ja with
   |some (vs,Cb)=>newL vs Cb
   |none=>ba)
  |none=>ba)
 |none=>ba)/\
 (∀{f args},gc t c (.call f args) me σ=match gc t c f me σ with
 |some (fv,Ja)=>(match Gf t c args me Ja with
  |some (vs,Cb)=>rh t c fv vs Cb
  |none=>ba)
 |none=>ba)/\
 (∀{o n args},gc t c (.meth o n args) me σ=match gc t c o me σ with
 |some (ov,Ja)=>(match kg t ov n Ja with
  |some k=>(match Gf t c args me Ja with
   |some (vs,Cb)=>Wc c k n vs Cb
   |none=>ba)
  |none=>ba)
 |none=>ba)/\
 (∀{i f args},gc t c (.sup i f args) me σ=match me[i]? with
 |some (aa (.ref j))=>(match σ[j]? with
  |some (.inst cl d)=>(match σ[d]? with
   |some (.sdict _)=>if t.sup cl=aa f then(match Gf t c args me σ with
    |some (vs,Ja)=>c f (.ref j::vs) Ja
    |none=>ba)
    else ba
   |_=>ba)
  |_=>ba)
 |_=>ba)/\
 (Gf t c [] me σ=aa ([],σ))/\
 (∀{x xs},Gf t c (x::xs) me σ=match gc t c x me σ with
 |some (v,Ja)=>(match Gf t c xs me Ja with
  |some (vs,Cb)=>aa (v::vs,Cb)
  |none=>ba)
 |none=>ba)/\
 (∀{a b},Ug t c (.and a b) me σ=match Ug t c a me σ with
 |some (true,Ja)=>Ug t c b me Ja
 |some (false,Ja)=>aa (false,Ja)
 |none=>ba)/\
 (∀{a b},Ug t c (.or a b) me σ=match Ug t c a me σ with
 |some (true,Ja)=>aa (true,Ja)
 |some (false,Ja)=>Ug t c b me Ja
 |none=>ba)/\
 (∀{a},Ug t c (.not a) me σ=match Ug t c a me σ with
 |some (b,Ja)=>aa (!b,Ja)
 |none=>ba)/\
 (∀{x},Ug t c (.base x) me σ=match gc t c x me σ with
 |some (.bool b,Ja)=>aa (b,Ja)
 |_=>ba)/\
 (vh t c [] me σ=aa (true,σ))/\
 (∀{b bs},vh t c (b::bs) me σ=match Ug t c b me σ with
 |some (true,Ja)=>vh t c bs me Ja
 |some (false,Ja)=>aa (false,Ja)
 |none=>ba)/\
 (∀{elt},Ef t c [] elt me σ=match elt me σ with
 |some (v,Ja)=>aa ([v],Ja)
 |none=>ba)/\
 (∀{iter tgt ifs gs elt},Ef t c (.mk iter tgt ifs::gs) elt me σ=match gc t c iter me σ with
 |some (v,Ja)=>(match te v Ja with
  |some it=>re 5000 it 0 (rG t c tgt ifs gs elt me) Ja
  |none=>ba)
 |none=>ba)/\
 (∀{i v},Fk t c (.var i) v me σ=if i<me.length then aa (me.set i (aa v),σ)else ba)/\
 (∀{ts xs},Fk t c (.tup ts) (.tup xs) me σ=Lh t c ts xs me σ)/\
 (∀{o n v},Fk t c (.attr o n) v me σ=match gc t c o me σ with
 |some (ov,Ja)=>(match ye t ov n v Ja with
  |some Cb=>aa (me,Cb)
  |none=>ba)
 |none=>ba)/\
 (∀{o i v},Fk t c (.sub o i) v me σ=match gc t c o me σ with
 |some (ov,Ja)=>(match gc t c i me Ja with
  |some (iv,Cb)=>(match Cd ov iv v Cb with
   |some ae=>aa (me,ae)
   |none=>ba)
  |none=>ba)
 |none=>ba)/\
 (Lh t c [] [] me σ=aa (me,σ))/\
 (∀{x xs v vs},Lh t c (x::xs) (v::vs) me σ=match Fk t c x v me σ with
 |some (Qd,Ja)=>Lh t c xs vs Qd Ja
 |none=>ba)/\
 (∀{x e},Vf t c (.assign x e) me σ=match gc t c e me σ with
 |some (v,Ja)=>(match Fk t c x v me Ja with
  |some (Up,Cb)=>aa (.next,Up,Cb)
  |none=>ba)
 |none=>ba)/\
 (∀{o i op e},Vf t c (.aug o i op e) me σ=match gc t c o me σ with
 |some (ov,Ja)=>(match gc t c i me Ja with
  |some (iv,Cb)=>(match Qe ov iv Cb with
   |some old=>(match gc t c e me Cb with
    |some (v,ae)=>(match old,v,op with
     | .int x,.int y,.Add=>(match Cd ov iv (.int (x+y)) ae with
      |some dh=>aa (.next,me,dh)
      |none=>ba)
     | .int x,.int y,.Sub=>(match Cd ov iv (.int (x - y)) ae with
      |some dh=>aa (.next,me,dh)
      |none=>ba)
     |_,_,_=>ba)
    |none=>ba)
   |none=>ba)
  |none=>ba)
 |none=>ba)/\
 (∀{e},Vf t c (.expr e) me σ=match gc t c e me σ with
 |some (.none,Ja)=>aa (.next,me,Ja)
 |some (.bool _,Ja)=>aa (.next,me,Ja)
 |_=>ba)/\
 (∀{b x y},Vf t c (.ifs b x y) me σ=match Ug t c b me σ with
 |some (true,Ja)=>wf t c x me Ja
 |some (false,Ja)=>wf t c y me Ja
 |none=>ba)/\
 (∀{b x},Vf t c (.whil b x) me σ=Gi 5000 (Ug t c b) (wf t c x) me σ)/\
 (∀{x e b},Vf t c (.fors x e b) me σ=match gc t c e me σ with
 |some (v,Ja)=>(match te v Ja with
  |some it=>Ye 5000 it 0 (Ce t c x b) me Ja
  |none=>ba)
 |none=>ba)/\
 (∀{x es b},Vf t c (.forz x es b) me σ=match Gf t c es me σ with
 |some (vs,Ja)=>(match Xh vs with
  |some xss=>(match zr xss with
   |some items=>Ye 5000 (.st items) 0 (Ce t c x b) me Ja
   |none=>ba)
  |none=>ba)
 |none=>ba)/\
 (∀{e},Vf t c (.ret e) me σ=match gc t c e me σ with
 |some (v,Ja)=>aa (.ret v,me,Ja)
 |none=>ba)/\
 (wf t c [] me σ=aa (.next,me,σ))/\
 (∀{s ss},wf t c (s::ss) me σ=match Vf t c s me σ with
 |some (.next,Qd,Ja)=>wf t c ss Qd Ja
 |r=>r):=
 ⟨Oe,uh,VH,TH,Fm,bE,Ks,VA,SJ,YD,aE,Bn,Az,TJ,Vo,Gm,UH,ig,Nf,Wn,tH,Qf,Te,TA,VK,Ms,lj,mj,Ls,Og,UA,nj,YH,WA,XH,WK,XK,gg,RJ,Bz,Cz,Os,Ij,ZD,gv,qj,Ud⟩
end Mine
namespace Mine
structure Mq where
 i:Nat
 d:Nat
 ab:Nat
 lo:Nat
 hi:Nat
 at_:Nat
 co:Nat
 rows:List Nat
abbrev iL (xs:List Int):List V:=xs.map V.int
def pL (A:Mq):List (Rb×V):=[("able",.ref A.ab),("lows",.ref A.lo),("highs",.ref A.hi),("at",.ref A.at_),("counts",.ref A.co)]
structure ij (A:Mq) (σ:St) (able:List (List Int)) (lows highs ats counts:List Int):Prop where
 hin:σ[A.i]? =aa (.inst 357 A.d)
 hdi:σ[A.d]? =aa (.sdict (pL A))
 hab:σ[A.ab]? =aa (.list (A.rows.map V.ref))
 hlo:σ[A.lo]? =aa (.list (iL lows))
 hhi:σ[A.hi]? =aa (.list (iL highs))
 hat:σ[A.at_]? =aa (.list (iL ats))
 hco:σ[A.co]? =aa (.list (iL counts))
 rlen:A.rows.length=able.length
 row:∀(k:Nat) (r:List Int),able[k]? =aa r->∃a,A.rows[k]? =aa a/\σ[a]? =aa (.list (iL r))
 apart:A.at_∉A.ab::A.lo::A.hi::A.co::A.rows/\A.co∉A.ab::A.lo::A.hi::A.at_::A.rows
def Mq.all (A:Mq):List Nat:=A.i::A.d::A.ab::A.lo::A.hi::A.at_::A.co::A.rows
section
variable {A:Mq} {σ Ca:St} {able:List (List Int)} {lows highs ats counts ats' Vb:List Int} {scr:Nat->Option (List Int)} {n m:Nat}
theorem ij.keep (P:ij A σ able lows highs ats counts) {W:List Nat} (k:ib W σ Ca) (h:∀a∈A.all,a∉W):ij A Ca able lows highs ats counts:=by
 have g:∀a o,a∈A.all->σ[a]? =aa o->Ca[a]? =aa o:=λa o m e=>k.old a o e (h a m);refine⟨g _ _ (by simp[Mq.all]) P.hin,g _ _ (by simp[Mq.all]) P.hdi,g _ _ (by simp[Mq.all]) P.hab,g _ _ (by simp[Mq.all]) P.hlo,g _ _ (by simp[Mq.all]) P.hhi,g _ _ (by simp[Mq.all]) P.hat,g _ _ (by simp[Mq.all]) P.hco,P.rlen,λi r e=> ?_,P.apart⟩;obtain⟨a,e1,e2⟩:=P.row i r e;exact⟨a,e1,g _ _ (by simp[Mq.all,ma e1]) e2⟩
theorem ij.app (P:ij A σ able lows highs ats counts) (os:List O):ij A (σ++os) able lows highs ats counts:=P.keep (ib.app (W:=[]) os) (λ_ _ h=>by cases h)
theorem ij.lt (P:ij A σ able lows highs ats counts):∀a∈A.all,a<σ.length:=by
 intro a h;simp only[Mq.all,Fa]at h;rcases h with rfl|rfl|rfl|rfl|rfl|rfl|rfl|h
 ·exact Ic P.hin
 ·exact Ic P.hdi
 ·exact Ic P.hab
 ·exact Ic P.hlo
 ·exact Ic P.hhi
 ·exact Ic P.hat
 ·exact Ic P.hco
 ·obtain⟨k,hk,rfl⟩:=zf h
  have hk':k<able.length:=by rw[<-P.rlen];exact hk
  obtain⟨a,e1,e2⟩:=P.row k able[k] (da hk');rw[da hk]at e1;cases e1;exact Ic e2
theorem Lc {i j:Nat} {o p:O} (h1:σ[i]? =aa o) (h2:σ[j]? =aa p) (h:o≠p):i≠j:=λq=>by subst q;rw[h1]at h2;cases h2;exact h rfl
theorem ij.setAt (P:ij A σ able lows highs ats counts):ij A (σ.set A.at_ (.list (iL ats'))) able lows highs ats' counts:=by
 have h:=P.apart.1;simp only[Fa,not_or]at h;obtain⟨h1,h2,h3,h4,h5⟩:=h;refine⟨ua P.hin (Lc P.hat P.hin (by simp)),ua P.hdi (Lc P.hat P.hdi (by simp)),ua P.hab h1,ua P.hlo h2,ua P.hhi h3,Ob P.hat,ua P.hco h4,P.rlen,λi r e=> ?_,P.apart⟩;obtain⟨a,e1,e2⟩:=P.row i r e;exact⟨a,e1,ua e2 (λq=>h5 (q▸ma e1))⟩
theorem ij.setCo (P:ij A σ able lows highs ats counts):ij A (σ.set A.co (.list (iL Vb))) able lows highs ats Vb:=by
 have h:=P.apart.2;simp only[Fa,not_or]at h;obtain⟨h1,h2,h3,h4,h5⟩:=h;refine⟨ua P.hin (Lc P.hco P.hin (by simp)),ua P.hdi (Lc P.hco P.hdi (by simp)),ua P.hab h1,ua P.hlo h2,ua P.hhi h3,ua P.hat h4,Ob P.hco,P.rlen,λi r e=> ?_,P.apart⟩;obtain⟨a,e1,e2⟩:=P.row i r e;exact⟨a,e1,ua e2 (λq=>h5 (q▸ma e1))⟩
theorem ij.setOut (P:ij A σ able lows highs ats counts) {a:Nat} {o:O} (h:a∉A.all):ij A (σ.set a o) able lows highs ats counts:=P.keep (W:=[a]) (ib.set o (by simp)) (λb hb q=>h (by rw[jb]at q;exact q▸hb))
theorem ij.gAble (P:ij A σ able lows highs ats counts):yc (Ga scr) (.ref A.i) "able" σ=aa (.ref A.ab):=td P.hin P.hdi (by rfl) (by rfl) (by simp)
theorem ij.gLows (P:ij A σ able lows highs ats counts):yc (Ga scr) (.ref A.i) "lows" σ=aa (.ref A.lo):=td P.hin P.hdi (by rfl) (by rfl) (by simp)
theorem ij.gHighs (P:ij A σ able lows highs ats counts):yc (Ga scr) (.ref A.i) "highs" σ=aa (.ref A.hi):=td P.hin P.hdi (by rfl) (by rfl) (by simp)
theorem ij.gAt (P:ij A σ able lows highs ats counts):yc (Ga scr) (.ref A.i) "at" σ=aa (.ref A.at_):=td P.hin P.hdi (by rfl) (by rfl) (by simp)
theorem ij.gCo (P:ij A σ able lows highs ats counts):yc (Ga scr) (.ref A.i) "counts" σ=aa (.ref A.co):=td P.hin P.hdi (by rfl) (by rfl) (by simp)
theorem ij.rMem (P:ij A σ able lows highs ats counts):kg (Ga scr) (.ref A.i) "members_at" σ=aa (.fn 328 (.ref A.i)):=De P.hin P.hdi (by rfl) (by rfl)
theorem ij.rPlace (P:ij A σ able lows highs ats counts):kg (Ga scr) (.ref A.i) "place" σ=aa (.fn 335 (.ref A.i)):=De P.hin P.hdi (by rfl) (by rfl)
theorem ij.rFill (P:ij A σ able lows highs ats counts):kg (Ga scr) (.ref A.i) "fill" σ=aa (.fn 342 (.ref A.i)):=De P.hin P.hdi (by rfl) (by rfl)
theorem ij.rMove (P:ij A σ able lows highs ats counts):kg (Ga scr) (.ref A.i) "move_along" σ=aa (.fn 349 (.ref A.i)):=De P.hin P.hdi (by rfl) (by rfl)
theorem ij.rReach (P:ij A σ able lows highs ats counts):kg (Ga scr) (.ref A.i) "reached" σ=aa (.fn 354 (.ref A.i)):=De P.hin P.hdi (by rfl) (by rfl)
theorem Rc {a k:Nat} {xs:List Int} {x:Int} (h:σ[a]? =aa (.list (iL xs))) (hk:xs[k]? =aa x):Qe (.ref a) (.int k) σ=aa (.int x):=Tf h (by rw[za,hk]<;>rfl)
theorem ij.sRow (P:ij A σ able lows highs ats counts) {k:Nat} {r:List Int} (h:able[k]? =aa r):∃a,Qe (.ref A.ab) (.int k) σ=aa (.ref a)/\σ[a]? =aa (.list (iL r))/\a∈A.rows:=by
 obtain⟨a,e1,e2⟩:=P.row k r h;exact⟨a,Tf P.hab (by rw[za,e1]<;>rfl),e2,ma e1⟩
theorem wc {i:Nat} {xs:List V} (h:σ[i]? =aa (.list xs)):jh (.builtin "len") [.ref i] σ=aa (.int xs.length,σ):=by unfold jh;simp only[Pb h]
theorem xe {b:Int} (h: -1000<b/\b<1000):jh (.type "range") [.int b] σ=aa (.rng 0 b,σ):=by unfold jh;simp only[h,and_self,if_true]
theorem Nb {t:gi} {c:Nat->List V->St->Option (V×St)} {b:String} {args:List V}:rh t c (.con (.builtin b)) args σ=jh (.builtin b) args σ:=rfl
theorem vc {t:gi} {c:Nat->List V->St->Option (V×St)} {b:String} {args:List V}:rh t c (.con (.type b)) args σ=jh (.type b) args σ:=rfl
theorem gf {n k:Nat}:(gd 0 n)[k]? =if k<n then aa (.int k)else ba:=by
 unfold gd Jj;rw[za]
 split
 ·rename_i h;rw[Nh (by omega)];simp
 ·rename_i h;rw[Yd (by simp;omega)]<;>rfl
theorem jd {n:Nat}:(gd 0 n).length=n:=by unfold gd Jj;simp
theorem Ie {b:Int} (h: -1000<b/\b<1000):te (.rng 0 b) σ=aa (.st (gd 0 b)):=by unfold te;simp only[];rw[if_pos (by omega)]
theorem Oc {i:Nat} {xs:List V} (h:σ[i]? =aa (.list xs)):te (.ref i) σ=aa (.dyn i):=by unfold te;simp only[Pb h]
theorem se {i k:Nat} {xs:List V} (h:σ[i]? =aa (.list xs)):jg (.dyn i) k σ=aa xs[k]? :=by unfold jg;simp only[h]
theorem Ki {a b:Int}:Zc .Eq (.int a) (.int b) σ=aa (decide (a=b)):=by
 unfold Zc;simp only[Pd,ud];congr 1
theorem Bs {a b:Int}:Zc .NotEq (.int a) (.int b) σ=aa (decide (a≠b)):=by
 unfold Zc;simp only[Pd,ud];congr 1;by_cases h:a=b<;>simp[h]
theorem Bd {t:gi} {c:Nat->List V->St->Option (V×St)} {fn:Fn} {args:List V} (me:Me) (hl:args.length=fn.params) (hm:args.map aa++Aa (fn.slots - fn.params) ba=me):
 Iu t c fn args σ=match wf t c fn.body me σ with
  |some (.ret v,_,Ja)=>aa (v,Ja)
  |some (.next,_,Ja)=>aa (.none,Ja)
  |none=>ba:=by
 subst hm;unfold Iu;rw[if_pos hl]<;>rfl
def Sb (ats:List Int) (o:Int):List Nat:=(Ua ats.length).filter λk=>decide (ats[k]? =aa o)
theorem Hh {ats:List Int} {o:Int} {k:Nat}:k∈Sb ats o↔ats[k]? =aa o:=by
 unfold Sb;rw[jc];simp only[ng,decide_eq_true_eq];exact⟨λh=>h.2,λh=>⟨(ca.mp h).1,h⟩⟩
def pd (xs:List Nat):List V:=xs.map λ(k:Nat)=>V.int (k:Int)
theorem Iw {ats:List Int} {o:Int}:(gd 0 (ats.length:Nat)).flatMap (λv=>match v with| .int i=>if ats[i.toNat]? =aa o then[v]else[]|_=>[])=pd (Sb ats o):=by
 unfold gd Jj Sb pd;have:((ats.length:Nat) - 0:Int).toNat=ats.length:=by omega
 rw[this]
 generalize Ua ats.length=l
 induction l with
 |nil=>rfl
 |cons k l ih=>
  simp only[sa,Dd,ih,Vd]
  by_cases q:ats[k]? =aa o<;>simp[q]
theorem rg {ats:List Int} {o:Int}:(Sb ats o).length<=ats.length:=by
 unfold Sb;have:=Ub (λk=>decide (ats[k]? =aa o)) (Ua ats.length)
 simpa using this
theorem ro (P:ij A σ able lows highs ats counts) (hl:ats.length<=20) {o:Int} (hn:1<=n):
 Oa (Ga scr) yb n 328 [.ref A.i,.int o] σ=aa (.ref σ.length,σ++[.list (pd (Sb ats o))]):=by
 obtain⟨n,rfl⟩:∃m,n=m+1:=⟨n - 1,by omega⟩;have hln:(iL ats).length=ats.length:=by simp
 rw[Dc (fn:=pI) rfl,Bd [aa (.ref A.i),aa (.int o)] rfl rfl];simp only[pI];have hL:re 5000 (.st (gd 0 (ats.length:Nat))) 0 (Ec (Ga scr) (Oa (Ga scr) yb n) 2 (.var 3) [(.base (.cmp .Eq (.sub (.attr (.var 0) "at") (.var 3)) (.var 1)))] [] (.var 3) [aa (.ref A.i),aa (.int o)]) σ
  =aa ((gd 0 (ats.length:Nat)).flatMap (λv=>match v with| .int i=>if ats[i.toNat]? =aa o then[v]else[]|_=>[]),σ):=by
  refine We _ (λk=>rfl) (λv hv=> ?_) (by rw[jd];omega);obtain⟨k,hk⟩:=ic hv;rw[gf]at hk
  split at hk<;>cases hk
  rename_i hk;have e:ats[k]? =aa ats[k]:=da hk;simp only[Ec,yd,Aa,wb,Db,mi,sf,iD,jD,EV,P.gAt,Rc P.hat e,Ki,ze,e]
  by_cases q:ats[k]=o
  ·simp[q,Og,Oe]
  ·simp[q]
 simp only[EV,P.gAt,Nb,vc,wc P.hat,hln,xe (σ:=σ) (b:=(ats.length:Nat)) (by omega),Ie (σ:=σ) (b:=(ats.length:Nat)) (by omega),sf,hL,Iw];rw[Ab (by have:=rg (ats:=ats) (o:=o);unfold pd;rw[ja];omega)]
end
end Mine
namespace Mine
abbrev E3:=Int×Int×Int
def Xg (b:List E3):List (Int×V):=b.map λe=>(e.1,V.tup [.int e.2.1,.int e.2.2])
def Tb (b:List E3):List Int:=b.map (·.1)
theorem mq:∀{b:List E3} {o:Int},o∉Tb b->qg (Xg b) o=ba
 | [],_,_=>rfl
 |e::b,o,h=>by
  simp only[Tb,sa,Fa,not_or]at h;simp only[Xg,sa,qg];rw[if_neg (λq=>h.1 q.symm)];exact mq h.2
theorem nq:∀{b:List E3} {i:Nat} {o m l:Int},(Tb b).Nodup->b[i]? =aa (o,m,l)->qg (Xg b) o=aa (.tup [.int m,.int l])
 |e::b,0,o,m,l,_,h=>by
  simp only[sf,Tc]at h;subst h;simp only[Xg,sa,qg,if_true]
 |e::b,i+1,o,m,l,hn,h=>by
  simp only[mi]at h;simp only[Tb,sa,Gc]at hn;simp only[Xg,sa,qg];rw[if_neg (λq=>hn.1 (Bb.mpr ⟨_,ma h,q.symm⟩))];exact nq hn.2 h
 | [],_,_,_,_,_,h=>by simp at h
theorem AE {b:List E3} {o:Int} (h:o∈Tb b):(qg (Xg b) o).isSome=true:=by
 induction b with
 |nil=>simp[Tb]at h
 |cons e b ih=>
  simp only[Xg,sa,qg]
  split
  ·rfl
  ·rename_i q
   refine ih ?_;simp only[Tb,sa,Fa]at h;rcases h with h|h
   ·exact absurd h.symm q
   ·exact h
theorem Ow:∀{es:List (Int×V)} {o:Int} {v:V},qg es o=ba->Nl es o v=es++[(o,v)]
 | [],_,_,_=>rfl
 |(k,w)::es,o,v,h=>by
  simp only[qg]at h
  split at h
  ·cases h
  ·rename_i q
   simp only[Nl];rw[if_neg q,Ow h]<;>rfl
theorem Li:∀{xs:List Int} {k:Nat} {old v o:Int},xs[k]? =aa old->((xs.set k v).count o:Int)+(if old=o then 1 else 0)=xs.count o+(if v=o then 1 else 0)
 |x::xs,0,old,v,o,h=>by
  simp only[sf,Tc]at h;subst h;simp only[jD,Zh,beq_iff_eq]
  split<;>split<;>omega
 |x::xs,k+1,old,v,o,h=>by
  simp only[mi]at h;have ih:=Li (v:=v) (o:=o) h;simp only[iD,Zh,beq_iff_eq]
  split<;>omega
 | [],_,_,_,_,h=>by simp at h
theorem Hv {b:List E3} (hn:(Tb b).Nodup) {i j:Nat} {o m l m' l':Int} (h1:b[i]? =aa (o,m,l)) (h2:b[j]? =aa (o,m',l')):i=j:=by
 have e1:(Tb b)[i]? =aa o:=by unfold Tb;rw[za,h1]<;>rfl
 have e2:(Tb b)[j]? =aa o:=by unfold Tb;rw[za,h2]<;>rfl
 exact(Ik (ca.mp e1).1 hn).mp (e1.trans e2.symm)
structure Wf (able:List (List Int)) (ats:List Int) (M:Nat):Prop where
 len:ats.length=able.length
 rng:∀(k:Nat) r,able[k]? =aa r->∀o∈r,0<=o/\o<M
 nd:∀(k:Nat) r,able[k]? =aa r->r.Nodup
 ok:∀(k:Nat) a,ats[k]? =aa a->a= -1\/∃r,able[k]? =aa r/\a∈r
structure On (able:List (List Int)) (ats:List Int) (member:Nat) (M:Nat) (b:List E3):Prop where
 nd:(Tb b).Nodup
 rng:∀o∈Tb b,0<=o/\o<M
 ent:∀(i:Nat) o m l,b[i]? =aa (o,m,l)->(l= -1/\m=(member:Int)/\∃r,able[member]? =aa r/\o∈r)\/
  (∃(j k:Nat) (m' l':Int),j<i/\b[j]? =aa (l,m',l')/\m=(k:Int)/\ats[k]? =aa l/\∃r,able[k]? =aa r/\o∈r)
theorem On.push {able:List (List Int)} {ats:List Int} {member M:Nat} {b:List E3} (B:On able ats member M b) {o m l:Int} (hn:o∉Tb b) (hr:0<=o/\o<M)
 (he:(l= -1/\m=(member:Int)/\∃r,able[member]? =aa r/\o∈r)\/(∃(j k:Nat) (m' l':Int),j<b.length/\b[j]? =aa (l,m',l')/\m=(k:Int)/\ats[k]? =aa l/\∃r,able[k]? =aa r/\o∈r)):
 On able ats member M (b++[(o,m,l)]):=by
 refine⟨?_,?_,?_⟩
 ·unfold Tb;rw[bc,Zf]
  refine⟨B.nd,by simp,λx hx y hy=> ?_⟩;simp only[sa,zb,jb]at hy;subst hy;exactλq=>hn (q▸hx)
 ·intro x hx
  unfold Tb at hx;rw[bc,db]at hx;rcases hx with hx|hx
  ·exact B.rng x hx
  ·simp only[sa,zb,jb]at hx;subst hx;exact hr
 ·intro i o' m' l' h
  by_cases q:i<b.length
  ·rw[ta q]at h
   rcases B.ent i o' m' l' h with z|⟨j,k,m2,l2,z1,z2,z3⟩
   ·exact .inl z
   ·exact .inr ⟨j,k,m2,l2,z1,by rw[ta (by omega)];exact z2,z3⟩
  ·have hi:i=b.length:=by
    have:=(ca.mp h).1;simp at this;omega
   subst hi;simp only[Vj,Tc,Ak]at h;obtain⟨rfl,rfl,rfl⟩:=h;rcases he with z|⟨j,k,m2,l2,z1,z2,z3⟩
   ·exact .inl z
   ·exact .inr ⟨j,k,m2,l2,z1,by rw[ta (by omega)];exact z2,z3⟩
theorem jt:∀{xs ys:List Nat},xs.Nodup->xs⊆ys->xs.length<=ys.length
 | [],_,_,_=>Ae _
 |x::xs,ys,hn,h=>by
  have hx:=h Ma;have ih:=jt (xs:=xs) (ys:=ys.erase x) (Gc.mp hn).2 (λy hy=>by
   have hne:y≠x:=λq=>by subst q;exact(Gc.mp hn).1 hy
   exact(List.mem_erase_of_ne hne).mpr (h (Ia _ hy)))
  rw[List.length_erase_of_mem hx]at ih;have:=List.length_pos_of_mem hx;simp only[cb];omega
theorem we:∀{xs:List Int} {M:Nat},xs.Nodup->(∀o∈xs,0<=o/\o<M)->xs.length<=M:=by
 intro xs M hn hr;have h1:(xs.map kL).Nodup:=by
  refine yD.mpr (HJ ?_ hn);intro a b ha hb hne q;have:=hr a ha;have:=hr b hb;omega
 have h2:(xs.map kL)⊆Ua M:=by
  intro x hx;obtain⟨o,ho,rfl⟩:=Bb.mp hx;have:=hr o ho;simp;omega
 have:=jt h1 h2
 simpa using this
structure GH (able:List (List Int)) (ats:List Int) (member:Nat) (b:List E3) (start:Int) (ats':List Int) (here:Int) (k:Nat):Prop where
 len:ats'.length=ats.length
 ok:∀(j:Nat) a,ats'[j]? =aa a->a= -1\/∃r,able[j]? =aa r/\a∈r
 stay:∀(j:Nat) a,ats[j]? =aa a->a≠ -1->∃a',ats'[j]? =aa a'/\a'≠ -1
 idle:∀j:Nat,j≠member->ats[j]? =aa (-1)->ats'[j]? =aa (-1)
 cnt:∀o:Int,0<=o->(ats'.count o:Int)+(if here=o then 1 else 0)=ats.count o+(if start=o then 1 else 0)
 cur:(k=0/\here= -1/\∃a,ats'[member]? =aa a/\a≠ -1)\/(∃(i:Nat) (m l:Int),k=i+1/\b[i]? =aa (here,m,l)/\ats'[member]? =aa (-1)/\
  ∀j≤i,∀o m l,b[j]? =aa (o,m,l)->0<=l->∃k':Nat,m=(k':Int)/\ats'[k']? =aa l)
theorem GH.step {able:List (List Int)} {ats:List Int} {member M:Nat} {b:List E3} {start:Int} {ats':List Int} {here:Int} {k:Nat} (B:On able ats member M b) (C:GH able ats member b start ats' here k) (hk:0<=here):
 ∃(i mm:Nat) (l:Int),b[i]? =aa (here,(mm:Int),l)/\mm<ats'.length/\∃k',k'<k/\GH able ats member b start (ats'.set mm here) l k':=by
 rcases C.cur with⟨_,h,_⟩|⟨i,m,l,rfl,hb,hm,xr⟩
 ·omega
 have kn:∀{mm:Nat} {old:Int},ats'[mm]? =aa old->(∃r,able[mm]? =aa r/\here∈r)->
  (ats'.set mm here).length=ats.length/\(∀(j:Nat) a,(ats'.set mm here)[j]? =aa a->a= -1\/∃r,able[j]? =aa r/\a∈r)/\(∀(j:Nat) a,ats[j]? =aa a->a≠ -1->∃a',(ats'.set mm here)[j]? =aa a'/\a'≠ -1):=by
  intro mm old ho hr;have hl:=(ca.mp ho).1;refine⟨by rw[Mb];exact C.len,λj a h=> ?_,λj a h hne=> ?_⟩
  ·by_cases q:mm=j
   ·subst q
    rw[fb hl]at h;cases h;exact .inr hr
   ·rw[Na q]at h;exact C.ok j a h
  ·by_cases q:mm=j
   ·subst q;exact⟨here,fb hl,by omega⟩
   ·rw[Na q];exact C.stay j a h hne
 rcases B.ent i here m l hb with⟨rfl,rfl,hr⟩|⟨j,kk,m',l',hj,hbj,rfl,hat,hr⟩
 ·have dp:=(ca.mp hm).1
  obtain⟨s1,s2,s3⟩:=kn hm hr;refine⟨i,member,-1,hb,dp,0,by omega,s1,s2,s3,λj hj h=>by rw[Na (de hj)];exact C.idle j hj h,λo ho=> ?_,.inl ⟨rfl,rfl,here,fb dp,by omega⟩⟩;have c1:=Li (v:=here) (o:=o) hm;have c2:=C.cnt o ho;rw[if_neg (by omega)]at c1;rw[if_neg (by omega)];omega
 ·have hl0:0<=l:=(B.rng l (Bb.mpr ⟨_,ma hbj,rfl⟩)).1
  obtain⟨k2,hk2,sr⟩:=xr i (Le _) _ _ _ hb hl0;have:k2=kk:=by omega
  subst this;have dp:=(ca.mp sr).1;obtain⟨s1,s2,s3⟩:=kn sr hr;have hne:k2≠member:=λq=>by subst q;rw[hm]at sr;cases sr;omega
  refine⟨i,k2,l,hb,dp,j+1,by omega,s1,s2,s3,λj hj h=>by
   have h2:=C.idle j hj h;have:k2≠j:=λq=>by subst q;rw[h2]at sr;cases sr;omega
   rw[Na this];exact h2,λo ho=> ?_,.inr ⟨j,m',l',rfl,hbj,by rw[Na hne];exact hm,λj' hj' o' m2 l2 hb2 jx=> ?_⟩⟩
  ·have c1:=Li (v:=here) (o:=o) sr
   have c2:=C.cnt o ho
   by_cases q:here=o<;>by_cases q2:l=o<;>simp only[q,q2,if_true,if_false]at c1 c2|- <;>omega
  ·obtain⟨k3,hk3,Kz⟩:=xr j' (by omega) _ _ _ hb2 jx
   refine⟨k3,hk3,?_⟩;have:k2≠k3:=λq=>by
    subst q;rw[sr]at Kz;cases Kz;rcases B.ent j' o' m2 l hb2 with⟨h,_⟩|⟨j2,_,m3,l3,hj2,hb3,_⟩
    ·omega
    ·have:=Hv B.nd hb3 hbj;omega
   rw[Na this];exact Kz
end Mine
namespace Mine
theorem LS:(∀(a:Option V) l,(a::l)[0]? =aa a)/\(∀(a:Option V) l i,(a::l)[i+1]? =l[i]?)/\(∀(a b:Option V) l,(a::l).set 0 b=b::l)/\(∀(a b:Option V) l i,(a::l).set (i+1) b=a::l.set i b)/\
 (∀(a:Option V) l,(a::l).length=l.length+1)/\([]:List (Option V)).length=0:=
 ⟨λ_ _=>rfl,λ_ _ _=>by simp,λ_ _ _=>rfl,λ_ _ _ _=>rfl,λ_ _=>rfl,rfl⟩
theorem be {i:Nat} {v:V} {me:Me} (h:i<me.length):dg (.var i) v me=aa (me.set i (aa v)):=by unfold dg;simp only[h,if_true]
structure Bf (A:Mq) (c r:Nat) (σ:St) (able:List (List Int)) (lows highs ats counts:List Int) (b:List E3):Prop where
 P:ij A σ able lows highs ats counts
 hc:σ[c]? =aa (.idict (Xg b))
 hr:σ[r]? =aa (.list (iL (Tb b)))
 nc:c∉A.all
 nr:r∉A.all
section
variable {A:Mq} {c r:Nat} {σ Ca:St} {able:List (List Int)} {lows highs ats counts ats' Vb:List Int} {b:List E3} {scr:Nat->Option (List Int)} {n m:Nat}
theorem Bf.ne (B:Bf A c r σ able lows highs ats counts b):c≠r:=Lc B.hc B.hr (by simp)
theorem Bf.app (B:Bf A c r σ able lows highs ats counts b) (os:List O):Bf A c r (σ++os) able lows highs ats counts b:=⟨B.P.app os,ub B.hc,ub B.hr,B.nc,B.nr⟩
theorem Bf.push (B:Bf A c r σ able lows highs ats counts b) (e:E3):Bf A c r ((σ.set c (.idict (Xg (b++[e])))).set r (.list (iL (Tb (b++[e]))))) able lows highs ats counts (b++[e]):=
 ⟨(B.P.setOut B.nc).setOut B.nr,ua (Ob B.hc) (de B.ne),Ob (ua B.hr B.ne),B.nc,B.nr⟩
theorem Bf.store (B:Bf A c r σ able lows highs ats counts b) {o x l:Int} (h:o∉Tb b) (hl:b.length<4000):Cd (.ref c) (.int o) (.tup [.int x,.int l]) σ=aa (σ.set c (.idict (Xg (b++[(o,x,l)])))):=by
 unfold Cd;simp only[B.hc];rw[Lj (by unfold Xg;rw[ja];omega)];rw[Ow (mq h)];simp[Xg]
theorem Bf.append (B:Bf A c r σ able lows highs ats counts b) {o x l:Int} (hl:b.length<4000):
 Lr r "append" [.int o] (σ.set c (.idict (Xg (b++[(o,x,l)]))))=aa (.none,(σ.set c (.idict (Xg (b++[(o,x,l)])))).set r (.list (iL (Tb (b++[(o,x,l)]))))):=by
 rw[cg (ua B.hr B.ne) (by simp[Tb];omega)];simp[Tb]
theorem xB {W:List Nat} {c r:Nat} {o p:O} (h:c∈W) (h2:r∈W):ib W σ ((σ.set c o).set r p):=(ib.set o h).trans (ib.set p h2)
theorem sy {cf:Nat->List V->St->Option (V×St)} {member:Nat} {row:List Int} {s:V} {o6 o7 o8:Option V} {a:Nat} {W:List Nat} (B:Bf A c r σ able lows highs ats counts []) (qf:able[member]? =aa row) (hn:row.Nodup) (hl:row.length<100) (ha:a∈A.rows) (hra:σ[a]? =aa (.list (iL row))) (hc:c∈W) (hr:r∈W):
 ∀o5,∃jz Ca,Ye 5000 (.dyn a) 0 (Ce (Ga scr) cf (.var 5) [.assign (.sub (.var 2) (.var 5)) (.tup [(.var 1),(.neg (.int 1))]),.expr (.meth (.var 3) "append" [(.var 5)])]) [aa (.ref A.i),aa (.int member),aa (.ref c),aa (.ref r),aa s,o5,o6,o7,o8] σ
  =aa (.next,[aa (.ref A.i),aa (.int member),aa (.ref c),aa (.ref r),aa s,jz,o6,o7,o8],Ca)/\Bf A c r Ca able lows highs ats counts (row.map λo=>(o,(member:Int),-1))/\ib W σ Ca:=by
 intro o5;have Xn:a∈A.all:=by simp[Mq.all,ha]
 obtain⟨Qb,Ca,e,jz,rfl,B',K',_⟩:=Xe (xs:=iL row) (it:=.dyn a) (me:=[aa (.ref A.i),aa (.int member),aa (.ref c),aa (.ref r),aa s,o5,o6,o7,o8]) (σ:=σ)
  (F:=Ce (Ga scr) cf (.var 5) [.assign (.sub (.var 2) (.var 5)) (.tup [(.var 1),(.neg (.int 1))]),.expr (.meth (.var 3) "append" [(.var 5)])])
  (λk me τ=>∃o5,me=[aa (.ref A.i),aa (.int member),aa (.ref c),aa (.ref r),aa s,o5,o6,o7,o8]/\Bf A c r τ able lows highs ats counts ((row.take k).map λo=>(o,(member:Int),-1))/\ib W σ τ/\τ[a]? =aa (.list (iL row)))
  (λk me τ ⟨_,_,_,_,h⟩ _=>se h)
  (λk v me τ hv ⟨o5,Wg,B,K,hra⟩=>by
   subst Wg;rw[za]at hv;cases ho:row[k]? with
   |none=>rw[ho]at hv;cases hv
   |some o=>
    rw[ho]at hv;cases hv;have hk:=(ca.mp ho).1;have Ux:o∉Tb ((row.take k).map λo=>(o,(member:Int),(-1:Int))):=by
     unfold Tb;rw[Fc];intro q;have q':o∈row.take k:=by simpa [di]using q
     obtain⟨j,hj,hjo⟩:=zf q';simp only[lg]at hj;rw[xD]at hjo;have hj':j<row.length:=by omega
     have e1:row[j]? =aa o:=by rw[da hj',hjo]
     have:=(Ik hj' hn).mp (e1.trans ho.symm);omega
    have fz:((row.take k).map λo=>(o,(member:Int),(-1:Int))).length<4000:=by simp;omega
    have hne:c≠r:=B.ne;refine⟨_,_,?_,aa (.int o),rfl,by
     have:=B.push (o,(member:Int),-1);rw[Yb,ho,bc];exact this,K.trans (xB hc hr),ua (ua hra (λq=>B.nc (q▸Xn))) (λq=>B.nr (q▸Xn))⟩
    unfold Ce;rw[be (by simp)];simp only[EV,LS,Vg,ac,cb,bb,Nat.reduceAdd,Nat.reduceLT,B.store Ux fz,Ld (ua B.hr hne),Wc,B.append fz])
  (by simp;omega) ⟨o5,rfl,by simpa using B,.refl,hra⟩
 refine⟨jz,Ca,e,?_,K'⟩
 simpa using B'
theorem yq {b b':List E3}:Tb (b++b')=Tb b++Tb b':=by unfold Tb;rw[bc]
theorem Zm {b b':List E3} (h:b<+:b') {o:Int} (ho:o∈Tb b):o∈Tb b':=by obtain⟨t,rfl⟩:=h;rw[yq,db];exact .inl ho
theorem xp {b b':List E3} (h:b<+:b') {i:Nat} {e:E3} (he:b[i]? =aa e):b'[i]? =aa e:=by
 obtain⟨t,rfl⟩:=h;rw[ta (ca.mp he).1];exact he
theorem On.len {member M:Nat} (B:On able ats member M b):b.length<=M:=by
 have:=we B.nd B.rng
 simpa [Tb]using this
theorem Bf.notIn (B:Bf A c r σ able lows highs ats counts b) {o:Int}:Zc .NotIn (.int o) (.ref c) σ=aa (!decide (o∈Tb b)):=by
 unfold Zc;simp only[B.hc]
 by_cases h:o∈Tb b
 ·rw[AE h];simp[h]
 ·rw[mq h];simp[h]
theorem NC {cf:Nat->List V->St->Option (V×St)} {member M j k0:Nat} {here m0 l0:Int} {row:List Int} {s v1:V} {o8:Option V} {a:Nat} {W:List Nat} (hM:M<100) (B:Bf A c r σ able lows highs ats counts b) (BB:On able ats member M b) (hb:b[j]? =aa (here,m0,l0)) (iu:ats[k0]? =aa here)
 (qf:able[k0]? =aa row) (fo:∀o∈row,0<=o/\o<M) (hl:row.length<100) (ha:a∈A.rows) (hra:σ[a]? =aa (.list (iL row))) (hc:c∈W) (hr:r∈W):
 ∀o5,∃jz Ca b',Ye 5000 (.dyn a) 0 (Ce (Ga scr) cf (.var 5) [.ifs (.base (.cmp .NotIn (.var 5) (.var 2))) [.assign (.sub (.var 2) (.var 5)) (.tup [(.var 7),(.var 6)]),.expr (.meth (.var 3) "append" [(.var 5)])] []]) [aa (.ref A.i),aa v1,aa (.ref c),aa (.ref r),aa s,o5,aa (.int here),aa (.int k0),o8] σ
  =aa (.next,[aa (.ref A.i),aa v1,aa (.ref c),aa (.ref r),aa s,jz,aa (.int here),aa (.int k0),o8],Ca)/\b<+:b'/\Bf A c r Ca able lows highs ats counts b'/\On able ats member M b'/\(∀o∈row,o∈Tb b')/\ib W σ Ca:=by
 intro o5;have Xn:a∈A.all:=by simp[Mq.all,ha]
 obtain⟨Qb,Ca,e,jz,b',rfl,Bl,B',BB',hin,K',_⟩:=Xe (xs:=iL row) (it:=.dyn a) (me:=[aa (.ref A.i),aa v1,aa (.ref c),aa (.ref r),aa s,o5,aa (.int here),aa (.int k0),o8]) (σ:=σ)
  (F:=Ce (Ga scr) cf (.var 5) [.ifs (.base (.cmp .NotIn (.var 5) (.var 2))) [.assign (.sub (.var 2) (.var 5)) (.tup [(.var 7),(.var 6)]),.expr (.meth (.var 3) "append" [(.var 5)])] []])
  (λk me τ=>∃o5 b',me=[aa (.ref A.i),aa v1,aa (.ref c),aa (.ref r),aa s,o5,aa (.int here),aa (.int k0),o8]/\b<+:b'/\Bf A c r τ able lows highs ats counts b'/\On able ats member M b'/\(∀o∈row.take k,o∈Tb b')/\ib W σ τ/\τ[a]? =aa (.list (iL row)))
  (λk me τ ⟨_,_,_,_,_,_,_,_,h⟩ _=>se h)
  (λk v me τ hv ⟨o5,b',Wg,Bl,B,BB,hin,K,hra⟩=>by
   subst Wg;rw[za]at hv;cases ho:row[k]? with
   |none=>rw[ho]at hv;cases hv
   |some o=>
    rw[ho]at hv;cases hv;have hom:=ma ho;have fz:b'.length<4000:=by have:=BB.len;omega
    have hne:c≠r:=B.ne;have hbj:=xp Bl hb;unfold Ce;rw[be (by simp)]
    by_cases q:o∈Tb b'
    ·refine⟨_,τ,?_,aa (.int o),b',rfl,Bl,B,BB,?_,K,hra⟩
     ·simp only[EV,LS,B.notIn,q,decide_true,Zb]
     ·intro x hx
      rw[Yb,ho,db]at hx;rcases hx with hx|hx
      ·exact hin x hx
      ·simp at hx;subst hx;exact q
    ·refine⟨_,_,?_,aa (.int o),b'++[(o,(k0:Int),here)],rfl,Bl.trans (dc _ _),B.push (o,(k0:Int),here),BB.push q (fo o hom) (.inr ⟨j,k0,m0,l0,(ca.mp hbj).1,hbj,rfl,iu,row,qf,hom⟩),?_,K.trans (xB hc hr),ua (ua hra (λq=>B.nc (q▸Xn))) (λq=>B.nr (q▸Xn))⟩
     ·simp only[EV,LS,B.notIn,q,decide_false,qc,ac,cb,bb,Nat.reduceAdd,Nat.reduceLT,B.store q fz,Ld (ua B.hr hne),Wc,B.append fz]
     ·intro x hx
      rw[Yb,ho,db]at hx;rw[yq,db];rcases hx with hx|hx
      ·exact .inl (hin x hx)
      ·simp at hx;subst hx;right;simp[Tb])
  (by simp;omega) ⟨o5,b,rfl,Ha _,B,BB,by simp,.refl,hra⟩
 refine⟨jz,Ca,b',e,Bl,B',BB',λo ho=>hin o ?_,K'⟩
 simpa using ho
theorem Mw {cf:Nat->List V->St->Option (V×St)} {member M j:Nat} {here m0 l0:Int} {s v1:V} {o8:Option V} {g:Nat} {W:List Nat} (hM:M<100) (WF:Wf able ats M) (B:Bf A c r σ able lows highs ats counts b) (BB:On able ats member M b) (hb:b[j]? =aa (here,m0,l0))
 (hg:σ[g]? =aa (.list (pd (Sb ats here)))) (hgc:g≠c) (hgr:g≠r) (Sx:ats.length<100) (hc:c∈W) (hr:r∈W):
 ∀o5 o7,∃jz Wq Ca b',Ye 5000 (.dyn g) 0 (Ce (Ga scr) cf (.var 7) [.fors (.var 5) (.sub (.attr (.var 0) "able") (.var 7)) [.ifs (.base (.cmp .NotIn (.var 5) (.var 2))) [.assign (.sub (.var 2) (.var 5)) (.tup [(.var 7),(.var 6)]),.expr (.meth (.var 3) "append" [(.var 5)])] []]]) [aa (.ref A.i),aa v1,aa (.ref c),aa (.ref r),aa s,o5,aa (.int here),o7,o8] σ
  =aa (.next,[aa (.ref A.i),aa v1,aa (.ref c),aa (.ref r),aa s,jz,aa (.int here),Wq,o8],Ca)/\b<+:b'/\Bf A c r Ca able lows highs ats counts b'/\On able ats member M b'/\(∀(k:Nat) row,ats[k]? =aa here->able[k]? =aa row->∀o∈row,o∈Tb b')/\ib W σ Ca:=by
 intro o5 o7;obtain⟨Qb,Ca,e,jz,Wq,b',rfl,Bl,B',BB',hin,K',_⟩:=Xe (xs:=pd (Sb ats here)) (it:=.dyn g) (me:=[aa (.ref A.i),aa v1,aa (.ref c),aa (.ref r),aa s,o5,aa (.int here),o7,o8]) (σ:=σ)
  (F:=Ce (Ga scr) cf (.var 7) [.fors (.var 5) (.sub (.attr (.var 0) "able") (.var 7)) [.ifs (.base (.cmp .NotIn (.var 5) (.var 2))) [.assign (.sub (.var 2) (.var 5)) (.tup [(.var 7),(.var 6)]),.expr (.meth (.var 3) "append" [(.var 5)])] []]])
  (λk me τ=>∃o5 o7 b',me=[aa (.ref A.i),aa v1,aa (.ref c),aa (.ref r),aa s,o5,aa (.int here),o7,o8]/\b<+:b'/\Bf A c r τ able lows highs ats counts b'/\On able ats member M b'/\(∀kk∈(Sb ats here).take k,∀row,able[kk]? =aa row->∀o∈row,o∈Tb b')/\ib W σ τ/\τ[g]? =aa (.list (pd (Sb ats here))))
  (λk me τ ⟨_,_,_,_,_,_,_,_,_,h⟩ _=>se h)
  (λk v me τ hv ⟨o5,o7,b',Wg,Bl,B,BB,hin,K,hg⟩=>by
   subst Wg;unfold pd at hv;rw[za]at hv;cases ho:(Sb ats here)[k]? with
   |none=>rw[ho]at hv;cases hv
   |some k0=>
    rw[ho]at hv;cases hv;have iu:=Hh.mp (ma ho);have hka:k0<able.length:=by rw[<-WF.len];exact(ca.mp iu).1
    have qf:able[k0]? =aa able[k0]:=da hka;obtain⟨a,e1,e2,ha⟩:=B.P.sRow qf;have Gn:(able[k0]).length<100:=by have:=we (WF.nd _ _ qf) (WF.rng _ _ qf);omega
    obtain⟨jz,Ca,b2,e3,hp2,B2,BB2,hin2,K2⟩:=NC (scr:=scr) (cf:=cf) (W:=[c,r]) (s:=s) (v1:=v1) (o8:=o8) hM B BB (xp Bl hb) iu qf (WF.rng _ _ qf) Gn ha e2 (by simp) (by simp) o5;refine⟨_,Ca,?_,jz,aa (.int k0),b2,rfl,Bl.trans hp2,B2,BB2,?_,K.trans (K2.mono λi hi=>.inl (by simp at hi;rcases hi with rfl|rfl<;>assumption)),K2.old _ _ hg (by simp[hgc,hgr])⟩
    ·unfold Ce
     rw[be (by simp)];simp only[EV,LS,B.P.gAble,e1,Oc e2,e3]
    ·intro kk ju row hr o ho2
     rw[Yb,ho,db]at ju;rcases ju with ju|ju
     ·exact Zm hp2 (hin kk ju row hr o ho2)
     ·simp at ju;subst ju
      rw[qf]at hr;cases hr;exact hin2 o ho2)
  (by unfold pd;rw[ja];have:=rg (ats:=ats) (o:=here);omega) ⟨o5,o7,b,rfl,Ha _,B,BB,by simp,.refl,hg⟩
 refine⟨jz,Wq,Ca,b',e,Bl,B',BB',λk row hk hr o ho=>hin k ?_ row hr o ho,K'⟩;have:k∈Sb ats here:=Hh.mpr hk;have hlen:(pd (Sb ats here)).length=(Sb ats here).length:=by unfold pd;simp
 rw[hlen,Xd];exact this
theorem ry {cf:Nat->List V->St->Option (V×St)} {member M:Nat} {start here:Int} {s v1:V} {k:Nat} {o5:Option V} {W:List Nat} (hM:M<100) (BB:On able ats member M b) (B:Bf A c r σ able lows highs ats' counts b) (C:GH able ats member b start ats' here k) (hkM:k<=M) (hc:A.at_∈W):
 ∀o7 o8,∃Iv Wq Eu Ca ats'',Gi 5000 (Ug (Ga scr) cf (.base (.cmp .GtE (.var 6) (.int 0)))) (wf (Ga scr) cf [.assign (.tup [(.var 7),(.var 8)]) (.sub (.var 2) (.var 6)),.assign (.sub (.attr (.var 0) "at") (.var 7)) (.var 6),.assign (.var 6) (.var 8)]) [aa (.ref A.i),aa v1,aa (.ref c),aa (.ref r),aa s,o5,aa (.int here),o7,o8] σ
  =aa (.next,[aa (.ref A.i),aa v1,aa (.ref c),aa (.ref r),aa s,o5,Iv,Wq,Eu],Ca)/\Bf A c r Ca able lows highs ats'' counts b/\GH able ats member b start ats'' (-1) 0/\ib W σ Ca:=by
 intro o7 o8;have L:=Oi (P:=Ug (Ga scr) cf (.base (.cmp .GtE (.var 6) (.int 0)))) (F:=wf (Ga scr) cf [.assign (.tup [(.var 7),(.var 8)]) (.sub (.var 2) (.var 6)),.assign (.sub (.attr (.var 0) "at") (.var 7)) (.var 6),.assign (.var 6) (.var 8)])
  (λk me τ=>∃here o7 o8 ats',me=[aa (.ref A.i),aa v1,aa (.ref c),aa (.ref r),aa s,o5,aa (.int here),o7,o8]/\Bf A c r τ able lows highs ats' counts b/\GH able ats member b start ats' here k/\ib W σ τ)
  (λme τ=>∃o6 o7 o8 ats',me=[aa (.ref A.i),aa v1,aa (.ref c),aa (.ref r),aa s,o5,o6,o7,o8]/\Bf A c r τ able lows highs ats' counts b/\GH able ats member b start ats' (-1) 0/\ib W σ τ)
  (λ_ _ _=>False)
  (λk me τ ⟨here,o7,o8,ats',Wg,B,C,K⟩=>by
   subst Wg
   by_cases h0:0<=here
   ·refine .inr ⟨τ,by simp only[EV,LS,Zc,h0,decide_true],.inl ?_⟩
    obtain⟨i,mm,l,hb,ww,k',hk',C'⟩:=C.step BB h0;refine⟨_,_,k',?_,⟨l,aa (.int mm),aa (.int l),ats'.set mm here,rfl,⟨B.P.setAt,ua B.hc (λq=>B.nc (q▸by simp[Mq.all])),ua B.hr (λq=>B.nr (q▸by simp[Mq.all])),B.nc,B.nr⟩,C',K.trans (ib.set _ hc)⟩,hk'⟩;have e1:Qe (.ref c) (.int here) τ=aa (.tup [.int mm,.int l]):=by
     unfold Qe;simp only[B.hc];exact nq BB.nd hb
    have e2:Cd (.ref A.at_) (.int mm) (.int here) τ=aa (τ.set A.at_ (.list (iL (ats'.set mm here)))):=by
     rw[Yi B.P.hat (by simpa using ww),<-lf]
    simp only[EV,LS,e1,Nat.reduceAdd,Nat.reduceLT,if_true,B.P.gAt,e2]
   ·refine .inl ⟨τ,by simp only[EV,LS,Zc,h0,decide_false],?_⟩
    rcases C.cur with⟨rfl,rfl,h⟩|⟨i,m,l,rfl,hb,_⟩
    ·exact⟨_,o7,o8,ats',rfl,B,C,K⟩
    ·have:=(BB.rng here (Bb.mpr ⟨_,ma hb,rfl⟩)).1
     omega)
  5000 k _ σ (by omega) ⟨here,o7,o8,ats',rfl,B,C,.refl⟩
 rcases L with⟨Qb,Ca,e,Iv,Wq,Eu,ats'',rfl,B',C',K'⟩|⟨_,_,_,_,h⟩
 ·exact⟨Iv,Wq,Eu,Ca,ats'',e,B',C',K'⟩
 ·exact h.elim
end
end Mine
namespace Mine
structure Gq (ats counts lows highs:List Int) (M:Nat):Prop where
 len:counts.length=M
 cnt:∀o:Nat,o<M->counts[o]? =aa (ats.count (o:Int):Int)
 llen:lows.length=M
 hlen:highs.length=M
 hi:∀(o:Nat) (c h:Int),counts[o]? =aa c->highs[o]? =aa h->c<=h
structure BJ (able:List (List Int)) (ats counts highs:List Int) (M:Nat) (F:List Int):Prop where
 nd:F.Nodup
 rng:∀o∈F,0<=o/\o<M
 full:∀(o:Nat) (c h:Int),(o:Int)∈F->counts[o]? =aa c->highs[o]? =aa h->h<=c
 stay:∀(k:Nat) o row,ats[k]? =aa o->o∈F->able[k]? =aa row->∀p∈row,p∈F
theorem Km {x y:Int}:∀{l:List Int},y∈vg x l↔y=x\/y∈l
 | []=>by simp[vg]
 |z::l=>by
  unfold vg
  split
  ·simp
  ·simp only[Fa,Km (l:=l)]
   constructor
   ·rintro(h|h|h)
    ·exact .inr (.inl h)
    ·exact .inl h
    ·exact .inr (.inr h)
   ·rintro(h|h|h)
    ·exact .inr (.inl h)
    ·exact .inl h
    ·exact .inr (.inr h)
theorem Sd {y:Int}:∀{l:List Int},y∈Gg l↔y∈l
 | []=>by simp[Gg]
 |x::l=>by rw[Gg,Km,Sd (l:=l)];simp
theorem Vq {x:Int}:∀{l:List Int},(vg x l).length=l.length+1
 | []=>rfl
 |z::l=>by
  unfold vg
  split
  ·rfl
  ·simp[Vq (l:=l)]
theorem lq:∀{l:List Int},(Gg l).length=l.length
 | []=>rfl
 |x::l=>by rw[Gg,Vq,lq];rfl
theorem Jn {x:Int}:∀{l:List Int},x∉l->l.Nodup->(vg x l).Nodup
 | [],_,_=>by simp[vg]
 |z::l,h,hn=>by
  unfold vg;simp only[Fa,not_or]at h
  split
  ·rw[Gc];exact⟨by simp[h],hn⟩
  ·rw[Gc]at hn|-
   refine⟨λq=> ?_,Jn h.2 hn.2⟩;rcases Km.mp q with q|q
   ·exact h.1 q.symm
   ·exact hn.1 q
theorem nk:∀{l:List Int},l.Nodup->(Gg l).Nodup
 | [],_=>by simp[Gg]
 |x::l,h=>by
  rw[Gc]at h;rw[Gg];exact Jn (λq=>h.1 (Sd.mp q)) (nk h.2)
theorem Um:∀xs:List Int,Qg (iL xs)=aa xs
 | []=>rfl
 |x::xs=>by
  have:=Um xs;unfold iL at this|-;rw[sa,Qg,this]
theorem Nv {σ:St} {i:Nat} {xs:List Int} (h:σ[i]? =aa (.list (iL xs))) (hl:xs.length<60):jh (.builtin "sorted") [.ref i] σ=aa (.ref σ.length,σ++[.list (iL (Gg xs))]):=by
 unfold jh;simp only[h,Um];rw[if_pos (by simpa [yh]using hl)];exact Ab (by rw[ja,lq];omega)
section
variable {A:Mq} {σ:St} {able:List (List Int)} {lows highs ats counts:List Int} {scr:Nat->Option (List Int)} {n M:Nat}
theorem GH.start {member s:Nat} {b:List E3} {here m0 l0:Int} (WF:Wf able ats M) (BB:On able ats member M b) (hm:ats[member]? =aa (-1)) (hb:b[s]? =aa (here,m0,l0)):GH able ats member b here ats here (s+1):=
 ⟨rfl,WF.ok,λj a h hne=>⟨a,h,hne⟩,λ_ _ h=>h,λo _=>rfl,.inr ⟨s,m0,l0,rfl,hb,hm,λj _ o m l hj hl=>by
  rcases BB.ent j o m l hj with⟨h,_⟩|⟨_,k,_,_,_,_,rfl,h,_⟩
  ·omega
  ·exact⟨k,rfl,h⟩⟩⟩
def sx (A:Mq) (able:List (List Int)) (lows highs ats counts:List Int) (M member:Nat) (σ Ca:St):Prop:=
 ∃ats' Vb,ij A Ca able lows highs ats' Vb/\Wf able ats' M/\Gq ats' Vb lows highs M/\(∃a,ats'[member]? =aa a/\a≠ -1)/\(∀(j:Nat) a,ats[j]? =aa a->a≠ -1->∃a',ats'[j]? =aa a'/\a'≠ -1)/\(∀j:Nat,j≠member->ats[j]? =aa (-1)->ats'[j]? =aa (-1))
theorem NE {member:Nat} (hM:M<50) (Sx:ats.length<20) (P:ij A σ able lows highs ats counts) (WF:Wf able ats M) (C:Gq ats counts lows highs M) (hm:ats[member]? =aa (-1)) (hn:2<=n):
 (∃Ca,Oa (Ga scr) yb n 335 [.ref A.i,.int member] σ=aa (.none,Ca)/\ib [A.at_,A.co] σ Ca/\sx A able lows highs ats counts M member σ Ca)\/
 (∃Ca l F,Oa (Ga scr) yb n 335 [.ref A.i,.int member] σ=aa (.ref l,Ca)/\ib [A.at_,A.co] σ Ca/\ij A Ca able lows highs ats counts/\Ca[l]? =aa (.list (iL F))/\BJ able ats counts highs M F/\(∀row,able[member]? =aa row->∀o∈row,o∈F)):=by
 obtain⟨n,rfl⟩:∃m,n=m+1:=⟨n - 1,by omega⟩;have ur:member<able.length:=by rw[<-WF.len];exact(ca.mp hm).1
 have qf:able[member]? =aa able[member]:=da ur;have Gn:(able[member]).length<100:=by have:=we (WF.nd _ _ qf) (WF.rng _ _ qf);omega
 rw[Dc (fn:=qI) rfl,Bd [aa (.ref A.i),aa (.int member),ba,ba,ba,ba,ba,ba,ba] rfl rfl];simp only[qI];have wh:=P.lt;have lB:σ.length∉A.all:=λq=>Ed _ (wh _ q);have hr0:σ.length+1∉A.all:=λq=>by have:=wh _ q;omega
 have B0:Bf A σ.length (σ.length+1) (σ++[.idict []]++[.list []]) able lows highs ats counts []:=by
  refine⟨(P.app _).app _,ub vb,?_,lB,hr0⟩;have:=vb (σ:=σ++[.idict []]) (o:=.list [])
  simpa [Tb]using this
 obtain⟨a,e1,e2,ha⟩:=B0.P.sRow qf;obtain⟨o5,Ja,e3,B1,K1⟩:=sy (scr:=scr) (cf:=Oa (Ga scr) yb n) (W:=[σ.length,σ.length+1]) (s:=.int 0) (o6:=ba) (o7:=ba) (o8:=ba) B0 qf (WF.nd _ _ qf) Gn ha e2 (by simp) (by simp) ba;have K1':ib [σ.length,σ.length+1,A.at_,A.co] σ Ja:=((ib.app _).trans (ib.app _)).trans (K1.mono λi hi=>by simp at hi;rcases hi with rfl|rfl<;>simp);have BB1:On able ats member M ((able[member]).map λo=>(o,(member:Int),-1)):=by
  refine⟨?_,?_,λi o m l h=>.inl ?_⟩
  ·unfold Tb;rw[Fc];simpa [di]using WF.nd _ _ qf
  ·unfold Tb;rw[Fc];simpa [di]using WF.rng _ _ qf
  ·rw[za]at h
   cases ho:(able[member])[i]? with
   |none=>rw[ho]at h;cases h
   |some x=>rw[ho]at h;cases h;exact⟨rfl,rfl,_,qf,ma ho⟩
 generalize Px:σ.length=c at*
 generalize hrN:c+1=r at*
 have L:=Oi (P:=Ug (Ga scr) (Oa (Ga scr) yb n) (.base (.cmp .Lt (.var 4) (.call (.con (.builtin "len")) [(.var 3)])))) (F:=wf (Ga scr) (Oa (Ga scr) yb n) [.assign (.tup [(.var 6),(.var 4)]) (.tup [(.sub (.var 3) (.var 4)),(.bin .Add (.var 4) (.int 1))]),.ifs (.base (.cmp .Lt (.sub (.attr (.var 0) "counts") (.var 6)) (.sub (.attr (.var 0) "highs") (.var 6)))) [.aug (.attr (.var 0) "counts") (.var 6) .Add (.int 1),.whil (.base (.cmp .GtE (.var 6) (.int 0))) [.assign (.tup [(.var 7),(.var 8)]) (.sub (.var 2) (.var 6)),.assign (.sub (.attr (.var 0) "at") (.var 7)) (.var 6),.assign (.var 6) (.var 8)],.ret .none] [],.fors (.var 7) (.meth (.var 0) "members_at" [(.var 6)]) [.fors (.var 5) (.sub (.attr (.var 0) "able") (.var 7)) [.ifs (.base (.cmp .NotIn (.var 5) (.var 2))) [.assign (.sub (.var 2) (.var 5)) (.tup [(.var 7),(.var 6)]),.expr (.meth (.var 3) "append" [(.var 5)])] []]]])
  (λk me τ=>∃b sI s o5 o6 o7 o8,me=[aa (.ref A.i),aa (.int member),aa (.ref c),aa (.ref r),aa (.int sI),o5,o6,o7,o8]/\sI=((s:Nat):Int)/\k=M - s/\s<=b.length/\Bf A c r τ able lows highs ats counts b/\On able ats member M b/\(∀o∈able[member],o∈Tb b)/\
   (∀i<s,∀o m l,b[i]? =aa (o,m,l)->(∀(oN:Nat) (x h:Int),(oN:Int)=o->counts[oN]? =aa x->highs[oN]? =aa h->h<=x)/\∀(k:Nat) row,ats[k]? =aa o->able[k]? =aa row->∀p∈row,p∈Tb b)/\ib [c,r,A.at_,A.co] σ τ)
  (λme τ=>∃b sI o5 o6 o7 o8,me=[aa (.ref A.i),aa (.int member),aa (.ref c),aa (.ref r),aa (.int sI),o5,o6,o7,o8]/\Bf A c r τ able lows highs ats counts b/\On able ats member M b/\(∀o∈able[member],o∈Tb b)/\
   (∀(i:Nat) o m l,b[i]? =aa (o,m,l)->(∀(oN:Nat) (x h:Int),(oN:Int)=o->counts[oN]? =aa x->highs[oN]? =aa h->h<=x)/\∀(k:Nat) row,ats[k]? =aa o->able[k]? =aa row->∀p∈row,p∈Tb b)/\ib [c,r,A.at_,A.co] σ τ)
  (λv me τ=>v=.none/\ib [c,r,A.at_,A.co] σ τ/\sx A able lows highs ats counts M member σ τ)
  (λk me τ ⟨b,sI,s,o5,o6,o7,o8,Wg,hs,hk,hsb,B,BB,hmb,hcl,K⟩=>by
   subst Wg;have hlen:(iL (Tb b)).length=b.length:=by simp[Tb]
   have hbM:=BB.len
   by_cases wh:s<b.length
   ·right
    refine⟨τ,by simp only[EV,LS,Nb,wc B.hr,Zc,hlen];rw[decide_eq_true (by omega)],?_⟩;have hbs:b[s]? =aa b[s]:=da wh;rcases hq:b[s]with⟨here,m0,l0⟩
    rw[hq]at hbs;have hrs:(Tb b)[s]? =aa here:=by unfold Tb;rw[za,hbs];rfl
    have fo:=BB.rng here (ma hrs);obtain⟨hN,rfl⟩:=pc fo.1;have hNM:hN<M:=by omega
    have Px:=C.cnt hN hNM;have hhl:hN<highs.length:=by rw[C.hlen];exact hNM
    obtain⟨hv,hhN⟩:∃hv,highs[hN]? =aa hv:=⟨highs[hN],da hhl⟩;have s1:=Rc B.hr hrs;have s2:=Rc B.P.hco Px;have s3:=Rc B.P.hhi hhN;subst hs
    by_cases hroom:(ats.count (hN:Int):Int)<hv
    ·right
     have kn:Cd (.ref A.co) (.int hN) (.int (ats.count (hN:Int)+1)) τ=aa (τ.set A.co (.list (iL (counts.set hN (ats.count (hN:Int)+1))))):=by
      rw[Yi B.P.hco (by rw[ja,C.len];exact hNM),<-lf]
     have B':Bf A c r (τ.set A.co (.list (iL (counts.set hN (ats.count (hN:Int)+1))))) able lows highs ats (counts.set hN (ats.count (hN:Int)+1)) b:=
      ⟨B.P.setCo,ua B.hc (λq=>B.nc (q▸by simp[Mq.all])),ua B.hr (λq=>B.nr (q▸by simp[Mq.all])),B.nc,B.nr⟩
     obtain⟨Iv,Wq,Eu,Cb,vu,e4,B2,C2,K2⟩:=ry (scr:=scr) (cf:=Oa (Ga scr) yb n) (W:=[c,r,A.at_,A.co]) (s:=.int (s+1)) (v1:=.int member) (o5:=o5) (M:=M) (by omega) BB B' (GH.start WF BB hm hbs) (by omega) (by simp) o7 o8;refine⟨.none,[aa (.ref A.i),aa (.int member),aa (.ref c),aa (.ref r),aa (.int (s+1)),o5,Iv,Wq,Eu],Cb,?_,rfl,(K.trans (ib.set _ (by simp))).trans K2,vu,counts.set hN (ats.count (hN:Int)+1),B2.P,⟨C2.len.trans WF.len,WF.rng,WF.nd,C2.ok⟩,⟨by rw[Mb];exact C.len,λo ho=> ?_,C.llen,C.hlen,λo x h hx hh=> ?_⟩,?_,C2.stay,C2.idle⟩
     ·simp only[EV,LS,s1,Cf,ac,cb,bb,Nat.reduceAdd,Nat.reduceLT,if_true,B.P.gCo,B.P.gHighs,s2,s3,Zc,hroom,decide_true,kn,e4]
     ·have:=C2.cnt o (by omega)
      rw[if_neg (by omega)]at this
      by_cases q:hN=o
      ·subst q
       rw[fb (by rw[C.len];exact hNM)];simp at this;simp;omega
      ·rw[Na q,C.cnt o ho]
       rw[if_neg (by omega)]at this;simp;omega
     ·by_cases q:hN=o
      ·subst q
       rw[fb (by rw[C.len];exact hNM)]at hx;rw[hhN]at hh;cases hx;cases hh;omega
      ·rw[Na q]at hx;exact C.hi o x h hx hh
     ·rcases C2.cur with⟨_,_,h⟩|⟨_,_,_,h,_⟩
      ·exact h
      ·omega
    ·left
     have B2:=B.app [.list (pd (Sb ats (hN:Int)))];have hg:=vb (σ:=τ) (o:=.list (pd (Sb ats (hN:Int))));have hcτ:=Ic B.hc;have hrτ:=Ic B.hr;obtain⟨jz,Wq,ae,b',e4,hp,B3,BB3,hin,K3⟩:=Mw (scr:=scr) (cf:=Oa (Ga scr) yb n) (W:=[c,r,A.at_,A.co]) (s:=.int (s+1)) (v1:=.int member) (o8:=o8) (M:=M) (by omega) WF B2 BB hbs hg (by omega) (by omega) (by omega) (by simp) (by simp) o5 o7;have hpl:b.length<=b'.length:=hp.length_le;refine⟨_,ae,M - (s+1),?_,⟨b',(s:Int)+1,s+1,jz,aa (.int hN),Wq,o8,rfl,by omega,rfl,(by have:=(ca.mp hbs).1;omega),B3,BB3,λo ho=>Zm hp (hmb o ho),λi hi o m l hb=> ?_,(K.trans (ib.app _)).trans K3⟩,by omega⟩
     ·simp only[EV,LS,s1,Cf,ac,cb,bb,Nat.reduceAdd,Nat.reduceLT,if_true,B.P.gCo,B.P.gHighs,s2,s3,Zc,hroom,decide_false,B.P.rMem,Wc,ro B.P (o:=(hN:Int)) (by omega) (by omega:1<=n),Oc hg,e4]
     ·by_cases q:i<s
      ·have el:b[i]? =aa (o,m,l):=by
        obtain⟨t,rfl⟩:=hp;rw[ta (by omega)]at hb;exact hb
       obtain⟨h1,h2⟩:=hcl i q o m l el;exact⟨h1,λk row hk hr p hp'=>Zm hp (h2 k row hk hr p hp')⟩
      ·have:i=s:=by omega
       subst this;rw[xp hp hbs]at hb;cases hb;refine⟨λoN x h ho hx hh=> ?_,λk row hk hr p hp'=>hin k row hk hr p hp'⟩;have:oN=hN:=by omega
       subst this;rw[Px]at hx;rw[hhN]at hh;cases hx;cases hh;omega
   ·left
    refine⟨τ,by simp only[EV,LS,Nb,wc B.hr,Zc,hlen];rw[decide_eq_false (by omega)],b,sI,o5,o6,o7,o8,rfl,B,BB,hmb,λi o m l hb=>hcl i (by have:=(ca.mp hb).1;omega) o m l hb,K⟩)
  5000 M _ Ja (by omega) ⟨_,0,0,o5,ba,ba,ba,rfl,rfl,rfl,by omega,B1,BB1,λo ho=>by unfold Tb;rw[Fc];simpa [di]using ho,λi hi=>absurd hi (Fe _),K1'⟩
 have hW:∀i∈[c,r,A.at_,A.co],i∈[A.at_,A.co]\/σ.length<=i:=by
  intro i hi;simp at hi;rcases hi with rfl|rfl|rfl|rfl
  ·right;omega
  ·right;omega
  ·left;simp
  ·left;simp
 have Tx:(σ++[O.idict []]).length=r:=by rw[Ib,Px,<-hrN];rfl
 have ak:newL [] (σ++[O.idict []])=aa (.ref r,σ++[O.idict []]++[O.list []]):=by rw[Ab (by simp),Tx]
 rcases L with⟨Qb,Ca,e,b,sI,o5,o6,o7,o8,rfl,B,BB,hmb,hcl,K⟩|⟨v,Qb,Ca,e,rfl,K,Q⟩
 ·right
  have hlen:(Tb b).length<60:=by have:=BB.len;simp[Tb];omega
  refine⟨Ca++[.list (iL (Gg (Tb b)))],Ca.length,Gg (Tb b),?_,(K.mono hW).trans (ib.app _),B.P.app _,vb,⟨nk BB.nd,λo ho=>BB.rng o (Sd.mp ho),λo x h ho hx hh=> ?_,λk o row hk ho hr p hp=> ?_⟩,λrow hr o ho=> ?_⟩
  ·simp only[EV,LS,th,ak,Px,ac,cb,bb,Nat.reduceAdd,Nat.reduceLT,if_true,B0.P.gAble,e1,Oc e2,e3,e,Nb,Nv B.hr hlen]
  ·obtain⟨i,hi⟩:=ic (Sd.mp ho)
   unfold Tb at hi;rw[za]at hi;cases el:b[i]? with
   |none=>rw[el]at hi;cases hi
   |some t=>
    obtain⟨o',m,l⟩:=t;rw[el]at hi;cases hi;exact(hcl i _ _ _ el).1 o x h rfl hx hh
  ·obtain⟨i,hi⟩:=ic (Sd.mp ho)
   unfold Tb at hi;rw[za]at hi;cases el:b[i]? with
   |none=>rw[el]at hi;cases hi
   |some t=>
    obtain⟨o',m,l⟩:=t;rw[el]at hi;cases hi;exact Sd.mpr ((hcl i _ _ _ el).2 k row hk hr p hp)
  ·rw[qf]at hr;cases hr
   exact Sd.mpr (hmb o ho)
 ·left
  refine⟨Ca,?_,K.mono hW,Q⟩;simp only[EV,LS,th,ak,Px,ac,cb,bb,Nat.reduceAdd,Nat.reduceLT,if_true,B0.P.gAble,e1,Oc e2,e3,e]
end
end Mine
namespace Mine
def Wh (able:List (List Int)) (ats:List Int):Prop:=∀(k:Nat) a,ats[k]? =aa a->∃r,able[k]? =aa r/\a∈r
structure Vp (able:List (List Int)) (ats:List Int) (wanted:Int) (M:Nat) (b:List E3):Prop where
 nd:(Tb b).Nodup
 rng:∀o∈Tb b,0<=o/\o<M
 head:b[0]? =aa (wanted,-1,-1)
 ent:∀(i:Nat) o m l,b[i]? =aa (o,m,l)->0<i->∃(j k:Nat) (m' l':Int),j<i/\b[j]? =aa (l,m',l')/\m=(k:Int)/\ats[k]? =aa o/\∃r,able[k]? =aa r/\l∈r
theorem Vp.pos {able ats wanted M b} (B:Vp able ats wanted M b):0<b.length:=(ca.mp B.head).1
theorem Vp.len {able ats wanted M b} (B:Vp able ats wanted M b):b.length<=M:=by
 have:=we B.nd B.rng
 simpa [Tb]using this
theorem Vp.push {able:List (List Int)} {ats:List Int} {wanted:Int} {M:Nat} {b:List E3} (B:Vp able ats wanted M b) {o l:Int} {k j:Nat} {m' l':Int} {r:List Int} (hn:o∉Tb b) (hr:0<=o/\o<M)
 (hj:b[j]? =aa (l,m',l')) (hk:ats[k]? =aa o) (qf:able[k]? =aa r) (hl:l∈r):Vp able ats wanted M (b++[(o,(k:Int),l)]):=by
 have hp:=B.pos;refine⟨?_,?_,by rw[ta hp];exact B.head,?_⟩
 ·unfold Tb;rw[bc,Zf]
  refine⟨B.nd,by simp,λx hx y hy=> ?_⟩;simp only[sa,zb,jb]at hy;subst hy;exactλq=>hn (q▸hx)
 ·intro x hx
  unfold Tb at hx;rw[bc,db]at hx;rcases hx with hx|hx
  ·exact B.rng x hx
  ·simp only[sa,zb,jb]at hx;subst hx;exact hr
 ·intro i o' m2 l2 h hi
  by_cases q:i<b.length
  ·rw[ta q]at h
   obtain⟨j,k,m3,l3,z1,z2,z3⟩:=B.ent i o' m2 l2 h hi;exact⟨j,k,m3,l3,z1,by rw[ta (by omega)];exact z2,z3⟩
  ·have hi:i=b.length:=by
    have:=(ca.mp h).1;simp at this;omega
   subst hi;simp only[Vj,Tc,Ak]at h;obtain⟨rfl,rfl,rfl⟩:=h;have hjl:=(ca.mp hj).1;exact⟨j,k,m',l',hjl,by rw[ta hjl];exact hj,rfl,hk,r,qf,hl⟩
structure qJ (able:List (List Int)) (ats:List Int) (b:List E3) (start:Int) (ats':List Int) (cur:Int) (i:Nat):Prop where
 len:ats'.length=ats.length
 whole:Wh able ats'
 cnt:∀o:Int,(ats'.count o:Int)+(if start=o then 1 else 0)=ats.count o+(if cur=o then 1 else 0)
 cur:∃m l,b[i]? =aa (cur,m,l)
 stay:∀j≤i,0<j->∀o m l,b[j]? =aa (o,m,l)->∃k:Nat,m=(k:Int)/\ats'[k]? =aa o
theorem qJ.start {able:List (List Int)} {ats:List Int} {wanted:Int} {M i:Nat} {b:List E3} {o m l:Int} (B:Vp able ats wanted M b) (W:Wh able ats) (h:b[i]? =aa (o,m,l)):qJ able ats b o ats o i:=
 ⟨rfl,W,λ_=>rfl,⟨m,l,h⟩,λj _ hj o m l hb=>by obtain⟨_,k,_,_,_,_,h1,h2,_⟩:=B.ent j o m l hb hj;exact⟨k,h1,h2⟩⟩
theorem qJ.step {able:List (List Int)} {ats:List Int} {wanted:Int} {M i:Nat} {b:List E3} {start cur:Int} {ats':List Int} (B:Vp able ats wanted M b) (C:qJ able ats b start ats' cur i) (hne:cur≠wanted):
 ∃(mm:Nat) (l:Int) (j:Nat),b[i]? =aa (cur,(mm:Int),l)/\mm<ats'.length/\j<i/\qJ able ats b start (ats'.set mm l) l j:=by
 obtain⟨m,l,hb⟩:=C.cur;have hi:0<i:=by
  rcases Xp i with h|h
  ·subst h;rw[B.head]at hb;cases hb;exact absurd rfl hne
  ·exact h
 obtain⟨j,k,m',l',hj,hbj,rfl,hat,r,hr,hl⟩:=B.ent i cur m l hb hi;obtain⟨k2,hk2,sr⟩:=C.stay i (Le _) hi _ _ _ hb;have:k2=k:=by omega
 subst this;have dp:=(ca.mp sr).1;refine⟨k2,l,j,hb,dp,hj,by rw[Mb];exact C.len,λq a ha=> ?_,λo=> ?_,⟨m',l',hbj⟩,λj' hj' h0 o m2 l2 hb2=> ?_⟩
 ·by_cases z:k2=q
  ·subst z;rw[fb dp]at ha;cases ha;exact⟨r,hr,hl⟩
  ·rw[Na z]at ha;exact C.whole q a ha
 ·have c1:=Li (v:=l) (o:=o) sr
  have c2:=C.cnt o;omega
 ·obtain⟨k3,hk3,Kz⟩:=C.stay j' (by omega) h0 _ _ _ hb2
  refine⟨k3,hk3,?_⟩;have:k2≠k3:=λq=>by
   subst q;rw[sr]at Kz;cases Kz;have:=Hv B.nd hb2 hb;omega
  rw[Na this];exact Kz
section
variable {A:Mq} {c r:Nat} {σ Ca:St} {able:List (List Int)} {lows highs ats counts ats' Vb:List Int} {b:List E3} {scr:Nat->Option (List Int)} {n M:Nat} {wanted:Nat}
theorem qi {n:Nat}:∀xs:List Int,Ng n (iL xs) σ=aa (xs.map vd)
 | []=>rfl
 |x::xs=>by
  have:=qi (n:=n) xs;unfold iL at this|-;rw[sa,Uh,Pd,this];rfl
theorem NA {xs:List Int} {x:Int}:((xs.map vd).any λd=>ud d (.int x))=decide (x∈xs):=by
 induction xs with
 |nil=>simp
 |cons y xs ih=>
  simp only[sa,Po,ih,ud]
  by_cases h:y=x
  ·subst h;simp
  ·have h':x≠y:=λq=>h q.symm
   simp[h,h']
theorem Dl {a:Nat} {xs:List Int} {x:Int} (h:σ[a]? =aa (.list (iL xs))):Zc .In (.int x) (.ref a) σ=aa (decide (x∈xs)):=by
 unfold Zc;simp only[h,qi,NA]
theorem Pi {a:Nat} {xs:List Int} {x:Int} (h:σ[a]? =aa (.list (iL xs))):Zc .NotIn (.int x) (.ref a) σ=aa (!decide (x∈xs)):=by
 unfold Zc;simp only[h,qi,NA]
theorem BG {s:Nat} {i:Nat} (hM:M<100) (BB:Vp able ats wanted M b) (B:Bf A c r σ able lows highs ats counts b) (C:qJ able ats b (s:Int) ats (s:Int) i) {cs cw:Int} (hs:counts[s]? =aa cs) (hw:counts[wanted]? =aa cw) (hne:s≠wanted) (hn:1<=n):
 ∃Ca ats',Oa (Ga scr) yb n 349 [.ref A.i,.int s,.int wanted,.ref c] σ=aa (.none,Ca)/\ij A Ca able lows highs ats' ((counts.set s (cs - 1)).set wanted (cw+1))/\ib [A.at_,A.co] σ Ca/\ats'.length=ats.length/\Wh able ats'/\
  ∀o:Int,(ats'.count o:Int)+(if(s:Int)=o then 1 else 0)=ats.count o+(if(wanted:Int)=o then 1 else 0):=by
 obtain⟨n,rfl⟩:∃m,n=m+1:=⟨n - 1,by omega⟩;rw[Dc (fn:=uI) rfl,Bd [aa (.ref A.i),aa (.int s),aa (.int wanted),aa (.ref c),ba] rfl rfl];simp only[uI];have yw:=(ca.mp hs).1;have Ko:=(ca.mp hw).1;have s1:=Rc B.P.hco hs;have t1:Cd (.ref A.co) (.int s) (.int (cs - 1)) σ=aa (σ.set A.co (.list (iL (counts.set s (cs - 1))))):=by
  rw[Yi B.P.hco (by simpa using yw),<-lf]
 have hco:A.co∈A.all:=by simp[Mq.all]
 have hat:A.at_∈A.all:=by simp[Mq.all]
 have B1:Bf A c r (σ.set A.co (.list (iL (counts.set s (cs - 1))))) able lows highs ats (counts.set s (cs - 1)) b:=
  ⟨B.P.setCo,ua B.hc (λq=>B.nc (q▸hco)),ua B.hr (λq=>B.nr (q▸hco)),B.nc,B.nr⟩
 have hw1:(counts.set s (cs - 1))[wanted]? =aa cw:=by rw[Na hne];exact hw
 have s2:=Rc B1.P.hco hw1
 generalize hσ1:σ.set A.co (.list (iL (counts.set s (cs - 1))))=Ja at*
 have t2:Cd (.ref A.co) (.int wanted) (.int (cw+1)) Ja=aa (Ja.set A.co (.list (iL ((counts.set s (cs - 1)).set wanted (cw+1))))):=by
  rw[Yi B1.P.hco (by rw[ja,Mb];exact Ko),<-lf]
 have B2:Bf A c r (Ja.set A.co (.list (iL ((counts.set s (cs - 1)).set wanted (cw+1))))) able lows highs ats ((counts.set s (cs - 1)).set wanted (cw+1)) b:=
  ⟨B1.P.setCo,ua B1.hc (λq=>B.nc (q▸hco)),ua B1.hr (λq=>B.nr (q▸hco)),B.nc,B.nr⟩
 have K1:ib [A.at_,A.co] σ Ja:=hσ1▸ib.set _ (by simp);have K2:ib [A.at_,A.co] σ (Ja.set A.co (.list (iL ((counts.set s (cs - 1)).set wanted (cw+1))))):=K1.trans (ib.set _ (by simp))
 generalize Bu:Ja.set A.co (.list (iL ((counts.set s (cs - 1)).set wanted (cw+1))))=Cb at*
 generalize hcc:(counts.set s (cs - 1)).set wanted (cw+1)=cc at*
 have L:=Oi (P:=Ug (Ga scr) (Oa (Ga scr) yb n) (.base (.cmp .NotEq (.var 1) (.var 2)))) (F:=wf (Ga scr) (Oa (Ga scr) yb n) [.assign (.tup [(.var 4),(.var 1)]) (.sub (.var 3) (.var 1)),.assign (.sub (.attr (.var 0) "at") (.var 4)) (.var 1)])
  (λk me τ=>∃cur ats' o4,me=[aa (.ref A.i),aa (.int cur),aa (.int wanted),aa (.ref c),o4]/\Bf A c r τ able lows highs ats' cc b/\qJ able ats b (s:Int) ats' cur k/\ib [A.at_,A.co] σ τ)
  (λme τ=>∃ats' k,Bf A c r τ able lows highs ats' cc b/\qJ able ats b (s:Int) ats' wanted k/\ib [A.at_,A.co] σ τ)
  (λ_ _ _=>False)
  (λk me τ ⟨cur,ats',o4,Wg,B,C,K⟩=>by
   subst Wg
   by_cases hcw:cur=(wanted:Int)
   ·subst hcw
    exact .inl ⟨τ,by simp only[EV,LS,Bs,ne_eq,not_true_eq_false,decide_false],ats',k,B,C,K⟩
   ·refine .inr ⟨τ,by simp only[EV,LS,Bs,ne_eq,hcw,not_false_eq_true,decide_true],.inl ?_⟩
    obtain⟨mm,l,j,hb,ww,hj,C'⟩:=C.step BB hcw;have e1:Qe (.ref c) (.int cur) τ=aa (.tup [.int mm,.int l]):=by
     unfold Qe;simp only[B.hc];exact nq BB.nd hb
    have e2:Cd (.ref A.at_) (.int mm) (.int l) τ=aa (τ.set A.at_ (.list (iL (ats'.set mm l)))):=by
     rw[Yi B.P.hat (by simpa using ww),<-lf]
    refine⟨[aa (.ref A.i),aa (.int l),aa (.int wanted),aa (.ref c),aa (.int mm)],τ.set A.at_ (.list (iL (ats'.set mm l))),j,?_,⟨l,ats'.set mm l,aa (.int mm),rfl,⟨B.P.setAt,ua B.hc (λq=>B.nc (q▸hat)),ua B.hr (λq=>B.nr (q▸hat)),B.nc,B.nr⟩,C',K.trans (ib.set _ (by simp))⟩,hj⟩;simp only[EV,LS,e1,Nat.reduceAdd,Nat.reduceLT,if_true,B.P.gAt,e2])
  5000 i _ Cb (by obtain⟨m,l,h⟩:=C.cur;have:=(ca.mp h).1;have:=BB.len;omega) ⟨(s:Int),ats,ba,rfl,B2,C,K2⟩
 rcases L with⟨Qb,Ca,e,ats',k,B',C',K'⟩|⟨_,_,_,_,h⟩
 ·refine⟨Ca,ats',?_,B'.P,K',C'.len,C'.whole,C'.cnt⟩
  simp only[EV,LS,B.P.gCo,B1.P.gCo,s1,s2,t1,t2,e]
 ·exact h.elim
end
end Mine
namespace Mine
structure JH (able:List (List Int)) (ats counts lows:List Int) (M:Nat) (F:List Int):Prop where
 nd:F.Nodup
 rng:∀o∈F,0<=o/\o<M
 spare:∀(o:Nat) (c l:Int),(o:Int)∈F->counts[o]? =aa c->lows[o]? =aa l->c<=l
 stay:∀(k:Nat) o row,ats[k]? =aa o->able[k]? =aa row->∀p∈row,p∈F->o∈F
section
variable {A:Mq} {c r:Nat} {σ Ca:St} {able:List (List Int)} {lows highs ats counts ats' Vb:List Int} {b:List E3} {scr:Nat->Option (List Int)} {n M:Nat} {wanted:Nat}
theorem Ck {a b:Int}:Zc .Lt (.int a) (.int b) σ=aa (decide (a<b)):=rfl
theorem As {a b:Int}:Zc .LtE (.int a) (.int b) σ=aa (decide (a<=b)):=rfl
theorem rl {a b:Int}:Zc .Gt (.int a) (.int b) σ=aa (decide (b<a)):=rfl
theorem TK {a b:Int}:Zc .GtE (.int a) (.int b) σ=aa (decide (b<=a)):=rfl
def qm (A:Mq) (able:List (List Int)) (lows highs counts:List Int) (M wanted:Nat) (Ca:St):Prop:=
 ∃ats' Vb,ij A Ca able lows highs ats' Vb/\Wf able ats' M/\Wh able ats'/\Gq ats' Vb lows highs M/\(∀x,counts[wanted]? =aa x->Vb[wanted]? =aa (x+1))/\
  (∀(o:Nat) x l,counts[o]? =aa x->lows[o]? =aa l->l<=x->∃y,Vb[o]? =aa y/\l<=y)
theorem xC {s:Nat} (WF:Wf able ats M) (C:Gq ats counts lows highs M) {cs cw lw ls:Int} (hs:counts[s]? =aa cs) (hw:counts[wanted]? =aa cw) (Ir:lows[wanted]? =aa lw) (hls:lows[s]? =aa ls) (Ko:cw<lw) (hlh:∀(o:Nat) l h,lows[o]? =aa l->highs[o]? =aa h->l<=h) (yw:ls<cs) (hne:s≠wanted)
 (P:ij A Ca able lows highs ats' ((counts.set s (cs - 1)).set wanted (cw+1))) (hl:ats'.length=ats.length) (W:Wh able ats') (hc:∀o:Int,(ats'.count o:Int)+(if(s:Int)=o then 1 else 0)=ats.count o+(if(wanted:Int)=o then 1 else 0)):
 qm A able lows highs counts M wanted Ca:=by
 have hsM:=(ca.mp hs).1;have hwM:=(ca.mp hw).1;have e1:((counts.set s (cs - 1)).set wanted (cw+1))[wanted]? =aa (cw+1):=fb (by rw[Mb];exact hwM);have e2:((counts.set s (cs - 1)).set wanted (cw+1))[s]? =aa (cs - 1):=by rw[Na (de hne),fb hsM]
 have e3:∀o,o≠s->o≠wanted->((counts.set s (cs - 1)).set wanted (cw+1))[o]? =counts[o]? :=λo h1 h2=>by rw[Na (de h2),Na (de h1)]
 refine⟨ats',_,P,⟨hl.trans WF.len,WF.rng,WF.nd,λk a h=>.inr (W k a h)⟩,W,⟨by rw[Mb,Mb];exact C.len,λo ho=> ?_,C.llen,C.hlen,λo x h hx hh=> ?_⟩,λx hx=> ?_,λo x l hx bo pB=> ?_⟩
 ·have h1:=C.cnt o ho
  have h2:=hc o
  by_cases q:o=wanted
  ·subst q
   rw[e1];rw[hw]at h1;cases h1;rw[if_neg (by omega),if_pos rfl]at h2
   congr 1;omega
  ·by_cases q2:o=s
   ·subst q2
    rw[e2];rw[hs]at h1;cases h1;rw[if_pos rfl,if_neg (by omega)]at h2
    congr 1;omega
   ·rw[e3 o q2 q,h1]
    rw[if_neg (by omega),if_neg (by omega)]at h2
    congr 1;omega
 ·by_cases q:o=wanted
  ·subst q
   rw[e1]at hx;cases hx;have:=hlh _ _ _ Ir hh;omega
  ·by_cases q2:o=s
   ·subst q2
    rw[e2]at hx;cases hx;have:=C.hi _ _ _ hs hh;omega
   ·rw[e3 o q2 q]at hx;exact C.hi o x h hx hh
 ·rw[hw]at hx;cases hx;exact e1
 ·by_cases q:o=wanted
  ·subst q
   rw[hw]at hx;cases hx;exact⟨_,e1,by omega⟩
  ·by_cases q2:o=s
   ·subst q2
    rw[hs]at hx;cases hx;rw[hls]at bo;cases bo;exact⟨_,e2,by omega⟩
   ·exact⟨x,by rw[e3 o q2 q];exact hx,pB⟩
def pD (able:List (List Int)) (ats counts lows:List Int) (wanted:Nat) (b:List E3):Prop:=∀(i o:Nat) m l x lo,b[i]? =aa ((o:Int),m,l)->o≠wanted->counts[o]? =aa x->lows[o]? =aa lo->x<=lo
theorem Lx {j:Nat} {here m0 l0:Int} {s:V} {o7:Option V} (hM:M<50) (Sx:ats.length<20) (WF:Wf able ats M) (WH:Wh able ats) (C:Gq ats counts lows highs M) (B:Bf A c r σ able lows highs ats counts b) (BB:Vp able ats wanted M b) (hb:b[j]? =aa (here,m0,l0)) (FI:pD able ats counts lows wanted b)
 {cw lw:Int} (hw:counts[wanted]? =aa cw) (Ir:lows[wanted]? =aa lw) (Ko:cw<lw) (hlh:∀(o:Nat) l h,lows[o]? =aa l->highs[o]? =aa h->l<=h) (hn:1<=n):
 ∀o6,(∃Iv Wq Ca b',Ye 5000 (.st (gd 0 (ats.length:Nat))) 0 (Ce (Ga scr) (Oa (Ga scr) yb n) (.var 6) [.assign (.var 7) (.sub (.attr (.var 0) "at") (.var 6)),.ifs (.and (.base (.cmp .In (.var 5) (.sub (.attr (.var 0) "able") (.var 6)))) (.base (.cmp .NotIn (.var 7) (.var 2)))) [.assign (.sub (.var 2) (.var 7)) (.tup [(.var 6),(.var 5)]),.expr (.meth (.var 3) "append" [(.var 7)]),.ifs (.base (.cmp .Gt (.sub (.attr (.var 0) "counts") (.var 7)) (.sub (.attr (.var 0) "lows") (.var 7)))) [.expr (.meth (.var 0) "move_along" [(.var 7),(.var 1),(.var 2)]),.ret .none] []] []]) [aa (.ref A.i),aa (.int wanted),aa (.ref c),aa (.ref r),aa s,aa (.int here),o6,o7] σ
  =aa (.next,[aa (.ref A.i),aa (.int wanted),aa (.ref c),aa (.ref r),aa s,aa (.int here),Iv,Wq],Ca)/\b<+:b'/\Bf A c r Ca able lows highs ats counts b'/\Vp able ats wanted M b'/\pD able ats counts lows wanted b'/\(∀(k:Nat) o row,ats[k]? =aa o->able[k]? =aa row->here∈row->o∈Tb b')/\ib [c,r,A.at_,A.co] σ Ca)\/
  (∃Qb Ca,Ye 5000 (.st (gd 0 (ats.length:Nat))) 0 (Ce (Ga scr) (Oa (Ga scr) yb n) (.var 6) [.assign (.var 7) (.sub (.attr (.var 0) "at") (.var 6)),.ifs (.and (.base (.cmp .In (.var 5) (.sub (.attr (.var 0) "able") (.var 6)))) (.base (.cmp .NotIn (.var 7) (.var 2)))) [.assign (.sub (.var 2) (.var 7)) (.tup [(.var 6),(.var 5)]),.expr (.meth (.var 3) "append" [(.var 7)]),.ifs (.base (.cmp .Gt (.sub (.attr (.var 0) "counts") (.var 7)) (.sub (.attr (.var 0) "lows") (.var 7)))) [.expr (.meth (.var 0) "move_along" [(.var 7),(.var 1),(.var 2)]),.ret .none] []] []]) [aa (.ref A.i),aa (.int wanted),aa (.ref c),aa (.ref r),aa s,aa (.int here),o6,o7] σ
  =aa (.ret .none,Qb,Ca)/\qm A able lows highs counts M wanted Ca/\ib [c,r,A.at_,A.co] σ Ca):=by
 intro o6;have L:=Dj (xs:=gd 0 (ats.length:Nat)) (it:=.st (gd 0 (ats.length:Nat)))
  (F:=Ce (Ga scr) (Oa (Ga scr) yb n) (.var 6) [.assign (.var 7) (.sub (.attr (.var 0) "at") (.var 6)),.ifs (.and (.base (.cmp .In (.var 5) (.sub (.attr (.var 0) "able") (.var 6)))) (.base (.cmp .NotIn (.var 7) (.var 2)))) [.assign (.sub (.var 2) (.var 7)) (.tup [(.var 6),(.var 5)]),.expr (.meth (.var 3) "append" [(.var 7)]),.ifs (.base (.cmp .Gt (.sub (.attr (.var 0) "counts") (.var 7)) (.sub (.attr (.var 0) "lows") (.var 7)))) [.expr (.meth (.var 0) "move_along" [(.var 7),(.var 1),(.var 2)]),.ret .none] []] []])
  (λk me τ=>∃o6 o7 b',me=[aa (.ref A.i),aa (.int wanted),aa (.ref c),aa (.ref r),aa s,aa (.int here),o6,o7]/\b<+:b'/\Bf A c r τ able lows highs ats counts b'/\Vp able ats wanted M b'/\pD able ats counts lows wanted b'/\(∀kk<k,∀o row,ats[kk]? =aa o->able[kk]? =aa row->here∈row->o∈Tb b')/\ib [c,r,A.at_,A.co] σ τ)
  (λv _ τ=>v=.none/\qm A able lows highs counts M wanted τ/\ib [c,r,A.at_,A.co] σ τ)
  (λk me τ _ _=>rfl)
  (λk v me τ hv ⟨o6,o7,b',Wg,Bl,B,BB,FI,hin,K⟩=>by
   subst Wg;rw[gf]at hv
   split at hv<;>cases hv
   rename_i hk;obtain⟨o,ho⟩:∃o,ats[k]? =aa o:=⟨ats[k],da hk⟩;obtain⟨row,qf,hor⟩:=WH k o ho;have fo:=WF.rng k row qf o hor;obtain⟨oN,rfl⟩:=pc fo.1;have hoM:oN<M:=by omega
   obtain⟨a,e1,e2,ha⟩:=B.P.sRow qf;have s1:=Rc B.P.hat ho;have fz:b'.length<4000:=by have:=BB.len;omega
   have hne:c≠r:=B.ne;have hbj:=xp Bl hb;unfold Ce;rw[be (by simp)]
   by_cases q1:here∈row
   ·by_cases q2:(oN:Int)∈Tb b'
    ·left
     refine⟨[aa (.ref A.i),aa (.int wanted),aa (.ref c),aa (.ref r),aa s,aa (.int here),aa (.int k),aa (.int oN)],τ,?_,aa (.int k),aa (.int oN),b',rfl,Bl,B,BB,FI,λkk ju o row' hko hkr hh=> ?_,K⟩
     ·simp only[EV,LS,B.P.gAt,s1,Nat.reduceAdd,Nat.reduceLT,if_true,B.P.gAble,e1,Dl e2,q1,decide_true,B.notIn,q2,Zb]
     ·by_cases z:kk<k
      ·exact hin kk z o row' hko hkr hh
      ·have:kk=k:=by omega
       subst this;rw[ho]at hko;cases hko;exact q2
    ·have Px:=C.cnt oN hoM
     have hll:oN<lows.length:=by rw[C.llen];exact hoM
     obtain⟨lo,hlo⟩:∃lo,lows[oN]? =aa lo:=⟨lows[oN],da hll⟩;have B':=B.push ((oN:Int),(k:Int),here);have BB':=BB.push q2 fo hbj ho qf q1;have K':ib [c,r,A.at_,A.co] σ ((τ.set c (.idict (Xg (b'++[((oN:Int),(k:Int),here)])))).set r (.list (iL (Tb (b'++[((oN:Int),(k:Int),here)]))))):=K.trans (xB (by simp) (by simp));have s3:=Rc B'.P.hco Px;have s4:=Rc B'.P.hlo hlo;have hap:=B.append (o:=(oN:Int)) (x:=(k:Int)) (l:=here) fz;have xr:=B.store (o:=(oN:Int)) (x:=(k:Int)) (l:=here) q2 fz;have hres:=Ld (t:=Ga scr) (n:="append") (ua B.hr hne (p:=.idict (Xg (b'++[((oN:Int),(k:Int),here)]))))
     generalize Bu:(τ.set c (.idict (Xg (b'++[((oN:Int),(k:Int),here)])))).set r (.list (iL (Tb (b'++[((oN:Int),(k:Int),here)]))))=Cb at*
     have hlen':b'.length<(b'++[((oN:Int),(k:Int),here)]).length:=by simp
     by_cases q3:lo<(ats.count (oN:Int):Int)
     ·right
      have hnw:oN≠wanted:=λz=>by
       subst z;exact q2 (Bb.mpr ⟨_,ma BB.head,rfl⟩)
      have el:(b'++[((oN:Int),(k:Int),here)])[b'.length]? =aa ((oN:Int),(k:Int),here):=by simp
      obtain⟨ae,ats3,e5,P3,K3,hl3,W3,hc3⟩:=BG (scr:=scr) (n:=n) (s:=oN) (M:=M) (by omega) BB' B' (qJ.start BB' WH el) Px hw hnw hn;refine⟨.none,[aa (.ref A.i),aa (.int wanted),aa (.ref c),aa (.ref r),aa s,aa (.int here),aa (.int k),aa (.int oN)],ae,?_,rfl,xC WF C Px hw Ir hlo Ko hlh q3 hnw P3 hl3 W3 hc3,K'.trans (K3.mono λi hi=>.inl (by simp at hi|-;omega))⟩;simp only[EV,LS,B.P.gAt,s1,Nat.reduceAdd,Nat.reduceLT,if_true,B.P.gAble,e1,Dl e2,q1,decide_true,B.notIn,q2,decide_false,qc,ac,cb,bb,xr,hres,Wc,hap,B'.P.gCo,B'.P.gLows,s3,s4,rl,q3,B'.P.rMove,e5]
     ·left
      refine⟨[aa (.ref A.i),aa (.int wanted),aa (.ref c),aa (.ref r),aa s,aa (.int here),aa (.int k),aa (.int oN)],Cb,?_,aa (.int k),aa (.int oN),b'++[((oN:Int),(k:Int),here)],rfl,Bl.trans (dc _ _),B',BB',λi o2 m l x lo' hi hne' hx hlo'=> ?_,λkk ju o2 row' hko hkr hh=> ?_,K'⟩
      ·simp only[EV,LS,B.P.gAt,s1,Nat.reduceAdd,Nat.reduceLT,if_true,B.P.gAble,e1,Dl e2,q1,decide_true,B.notIn,q2,decide_false,qc,ac,cb,bb,xr,hres,Wc,hap,B'.P.gCo,B'.P.gLows,s3,s4,rl,q3]
      ·by_cases z:i<b'.length
       ·rw[ta z]at hi
        exact FI i o2 m l x lo' hi hne' hx hlo'
       ·have:i=b'.length:=by
         have:=(ca.mp hi).1;simp at this;omega
        subst this;simp only[Vj,Tc,Ak]at hi;have:o2=oN:=by omega
        subst this;rw[Px]at hx;cases hx;rw[hlo]at hlo';cases hlo';omega
      ·rw[yq,db]
       by_cases z:kk<k
       ·exact .inl (hin kk z o2 row' hko hkr hh)
       ·have:kk=k:=by omega
        subst this;rw[ho]at hko;cases hko;right;simp[Tb]
   ·left
    refine⟨[aa (.ref A.i),aa (.int wanted),aa (.ref c),aa (.ref r),aa s,aa (.int here),aa (.int k),aa (.int oN)],τ,?_,aa (.int k),aa (.int oN),b',rfl,Bl,B,BB,FI,λkk ju o row' hko hkr hh=> ?_,K⟩
    ·simp only[EV,LS,B.P.gAt,s1,Nat.reduceAdd,Nat.reduceLT,if_true,B.P.gAble,e1,Dl e2,q1,decide_false]
    ·by_cases z:kk<k
     ·exact hin kk z o row' hko hkr hh
     ·have:kk=k:=by omega
      subst this;rw[qf]at hkr;cases hkr;exact absurd hh q1)
  5000 0 [aa (.ref A.i),aa (.int wanted),aa (.ref c),aa (.ref r),aa s,aa (.int here),o6,o7] σ (by rw[jd];omega) (Ae _) ⟨o6,o7,b,rfl,Ha _,B,BB,FI,λkk h=>absurd h (Fe _),.refl⟩
 rcases L with⟨Qb,Ca,e,Iv,Wq,b',rfl,Bl,B',BB',FI',hin,K⟩|⟨v,Qb,Ca,e,rfl,Q,K⟩
 ·left
  rw[jd]at hin;exact⟨Iv,Wq,Ca,b',e,Bl,B',BB',FI',λk o row hk hr hh=>hin k (ca.mp hk).1 o row hk hr hh,K⟩
 ·right;exact⟨Qb,Ca,e,Q,K⟩
theorem qG (hM:M<50) (Sx:ats.length<20) (P:ij A σ able lows highs ats counts) (WF:Wf able ats M) (WH:Wh able ats) (C:Gq ats counts lows highs M) {cw lw:Int} (hw:counts[wanted]? =aa cw) (Ir:lows[wanted]? =aa lw) (Ko:cw<lw) (hlh:∀(o:Nat) l h,lows[o]? =aa l->highs[o]? =aa h->l<=h) (hn:2<=n):
 (∃Ca,Oa (Ga scr) yb n 342 [.ref A.i,.int wanted] σ=aa (.none,Ca)/\ib [A.at_,A.co] σ Ca/\qm A able lows highs counts M wanted Ca)\/
 (∃Ca l F,Oa (Ga scr) yb n 342 [.ref A.i,.int wanted] σ=aa (.ref l,Ca)/\ib [A.at_,A.co] σ Ca/\ij A Ca able lows highs ats counts/\Ca[l]? =aa (.list (iL F))/\JH able ats counts lows M F/\(wanted:Int)∈F/\(∀o∈F,o≠(wanted:Int)->∃k:Nat,ats[k]? =aa o)):=by
 obtain⟨n,rfl⟩:∃m,n=m+1:=⟨n - 1,by omega⟩;rw[Dc (fn:=tI) rfl,Bd [aa (.ref A.i),aa (.int wanted),ba,ba,ba,ba,ba,ba] rfl rfl];simp only[tI];have hwM:wanted<M:=by rw[<-C.len];exact(ca.mp hw).1
 have wh:=P.lt;have lB:σ.length∉A.all:=λq=>Ed _ (wh _ q);have hr0:σ.length+1∉A.all:=λq=>by have:=wh _ q;omega
 have B0:Bf A σ.length (σ.length+1) (σ++[.idict [((wanted:Int),.tup [.int (-1),.int (-1)])]]++[.list [.int wanted]]) able lows highs ats counts [((wanted:Int),-1,-1)]:=by
  refine⟨(P.app _).app _,ub vb,?_,lB,hr0⟩;have:=vb (σ:=σ++[.idict [((wanted:Int),.tup [.int (-1),.int (-1)])]]) (o:=.list [.int wanted])
  simpa [Tb]using this
 have K0:ib [σ.length,σ.length+1,A.at_,A.co] σ (σ++[.idict [((wanted:Int),.tup [.int (-1),.int (-1)])]]++[.list [.int wanted]]):=(ib.app _).trans (ib.app _);have BB0:Vp able ats wanted M [((wanted:Int),-1,-1)]:=⟨by simp[Tb],λo ho=>by simp[Tb]at ho;omega,rfl,λi o m l h hi=>by
  cases i with
  |zero=>omega
  |succ i=>simp at h⟩
 have Tx:(σ++[O.idict [((wanted:Int),V.tup [.int (-1),.int (-1)])]]).length=σ.length+1:=by simp
 have ak:newL [.int wanted] (σ++[O.idict [((wanted:Int),V.tup [.int (-1),.int (-1)])]])=aa (.ref (σ.length+1),σ++[O.idict [((wanted:Int),V.tup [.int (-1),.int (-1)])]]++[O.list [.int wanted]]):=by rw[Ab (by simp),Tx]
 generalize Px:σ.length=c at*
 generalize hrN:c+1=r at*
 generalize hσ0:σ++[O.idict [((wanted:Int),V.tup [.int (-1),.int (-1)])]]++[O.list [.int wanted]]=σ0 at*
 have L:=Oi (P:=Ug (Ga scr) (Oa (Ga scr) yb n) (.base (.cmp .Lt (.var 4) (.call (.con (.builtin "len")) [(.var 3)])))) (F:=wf (Ga scr) (Oa (Ga scr) yb n) [.assign (.tup [(.var 5),(.var 4)]) (.tup [(.sub (.var 3) (.var 4)),(.bin .Add (.var 4) (.int 1))]),.fors (.var 6) (.call (.con (.type "range")) [(.call (.con (.builtin "len")) [(.attr (.var 0) "at")])]) [.assign (.var 7) (.sub (.attr (.var 0) "at") (.var 6)),.ifs (.and (.base (.cmp .In (.var 5) (.sub (.attr (.var 0) "able") (.var 6)))) (.base (.cmp .NotIn (.var 7) (.var 2)))) [.assign (.sub (.var 2) (.var 7)) (.tup [(.var 6),(.var 5)]),.expr (.meth (.var 3) "append" [(.var 7)]),.ifs (.base (.cmp .Gt (.sub (.attr (.var 0) "counts") (.var 7)) (.sub (.attr (.var 0) "lows") (.var 7)))) [.expr (.meth (.var 0) "move_along" [(.var 7),(.var 1),(.var 2)]),.ret .none] []] []]])
  (λk me τ=>∃b sI s o5 o6 o7,me=[aa (.ref A.i),aa (.int wanted),aa (.ref c),aa (.ref r),aa (.int sI),o5,o6,o7]/\sI=((s:Nat):Int)/\k=M - s/\s<=b.length/\Bf A c r τ able lows highs ats counts b/\Vp able ats wanted M b/\pD able ats counts lows wanted b/\
   (∀i<s,∀o m l,b[i]? =aa (o,m,l)->∀(k:Nat) o' row,ats[k]? =aa o'->able[k]? =aa row->o∈row->o'∈Tb b)/\ib [c,r,A.at_,A.co] σ τ)
  (λme τ=>∃b sI o5 o6 o7,me=[aa (.ref A.i),aa (.int wanted),aa (.ref c),aa (.ref r),aa (.int sI),o5,o6,o7]/\Bf A c r τ able lows highs ats counts b/\Vp able ats wanted M b/\pD able ats counts lows wanted b/\
   (∀o∈Tb b,∀(k:Nat) o' row,ats[k]? =aa o'->able[k]? =aa row->o∈row->o'∈Tb b)/\ib [c,r,A.at_,A.co] σ τ)
  (λv me τ=>v=.none/\ib [c,r,A.at_,A.co] σ τ/\qm A able lows highs counts M wanted τ)
  (λk me τ ⟨b,sI,s,o5,o6,o7,Wg,hs,hk,hsb,B,BB,FI,hcl,K⟩=>by
   subst Wg;have hlen:(iL (Tb b)).length=b.length:=by simp[Tb]
   have hlna:(iL ats).length=ats.length:=by simp
   have hbM:=BB.len
   by_cases wh:s<b.length
   ·right
    refine⟨τ,by simp only[EV,LS,Nb,wc B.hr,Zc,hlen];rw[decide_eq_true (by omega)],?_⟩;have hbs:b[s]? =aa b[s]:=da wh;rcases hq:b[s]with⟨here,m0,l0⟩
    rw[hq]at hbs;have hrs:(Tb b)[s]? =aa here:=by unfold Tb;rw[za,hbs];rfl
    have s1:=Rc B.hr hrs;subst hs;rcases Lx (scr:=scr) (n:=n) (s:=.int (s+1)) (o7:=o7) hM Sx WF WH C B BB hbs FI hw Ir Ko hlh (by omega) o6 with⟨Iv,Wq,ae,b',e4,hp,B3,BB3,FI3,hin,K3⟩|⟨me3,ae,e4,Q,K3⟩
    ·left
     have hpl:b.length<=b'.length:=hp.length_le;refine⟨[aa (.ref A.i),aa (.int wanted),aa (.ref c),aa (.ref r),aa (.int (s+1)),aa (.int here),Iv,Wq],ae,M - (s+1),?_,⟨b',(s:Int)+1,s+1,aa (.int here),Iv,Wq,rfl,by omega,rfl,by omega,B3,BB3,FI3,λi hi o m l hb k' o' row hk' hr Xj=> ?_,K.trans K3⟩,by omega⟩
     ·simp only[EV,LS,s1,Cf,ac,cb,bb,Nat.reduceAdd,Nat.reduceLT,if_true,B.P.gAt,Nb,vc,wc B.P.hat,hlna,xe (σ:=τ) (b:=(ats.length:Nat)) (by omega),Ie (σ:=τ) (b:=(ats.length:Nat)) (by omega),e4]
     ·by_cases q:i<s
      ·have el:b[i]? =aa (o,m,l):=by
        obtain⟨t,rfl⟩:=hp;rw[ta (by omega)]at hb;exact hb
       exact Zm hp (hcl i q o m l el k' o' row hk' hr Xj)
      ·have:i=s:=by omega
       subst this;rw[xp hp hbs]at hb;cases hb;exact hin k' o' row hk' hr Xj
    ·right
     refine⟨.none,me3,ae,?_,rfl,K.trans K3,Q⟩;simp only[EV,LS,s1,Cf,ac,cb,bb,Nat.reduceAdd,Nat.reduceLT,if_true,B.P.gAt,Nb,vc,wc B.P.hat,hlna,xe (σ:=τ) (b:=(ats.length:Nat)) (by omega),Ie (σ:=τ) (b:=(ats.length:Nat)) (by omega),e4]
   ·left
    refine⟨τ,by simp only[EV,LS,Nb,wc B.hr,Zc,hlen];rw[decide_eq_false (by omega)],b,sI,o5,o6,o7,rfl,B,BB,FI,λo ho=> ?_,K⟩;obtain⟨i,hi⟩:=ic ho;unfold Tb at hi;rw[za]at hi;cases el:b[i]? with
    |none=>rw[el]at hi;cases hi
    |some t=>
     obtain⟨o',m,l⟩:=t;rw[el]at hi;cases hi;exact hcl i (by have:=(ca.mp el).1;omega) _ m l el)
  5000 M _ σ0 (by omega) ⟨[((wanted:Int),-1,-1)],0,0,ba,ba,ba,rfl,rfl,rfl,by simp,B0,BB0,λi o m l x lo hi hne=>by
   cases i with
   |zero=>simp at hi;omega
   |succ i=>simp at hi,λi hi=>absurd hi (Fe _),K0⟩
 have hW:∀i∈[c,r,A.at_,A.co],i∈[A.at_,A.co]\/σ.length<=i:=by
  intro i hi;simp at hi;rcases hi with rfl|rfl|rfl|rfl
  ·right;omega
  ·right;omega
  ·left;simp
  ·left;simp
 rcases L with⟨Qb,Ca,e,b,sI,o5,o6,o7,rfl,B,BB,FI,hcl,K⟩|⟨v,Qb,Ca,e,rfl,K,Q⟩
 ·right
  have hlen:(Tb b).length<60:=by have:=BB.len;simp[Tb];omega
  have ur:∀o,o∈Tb b->∃(i:Nat) (m l:Int),b[i]? =aa (o,m,l):=λo ho=>by
   obtain⟨i,hi⟩:=ic ho;unfold Tb at hi;rw[za]at hi;cases el:b[i]? with
   |none=>rw[el]at hi;cases hi
   |some t=>
    obtain⟨o',m,l⟩:=t;rw[el]at hi;cases hi;exact⟨i,m,l,el⟩
  refine⟨Ca++[.list (iL (Gg (Tb b)))],Ca.length,Gg (Tb b),?_,(K.mono hW).trans (ib.app _),B.P.app _,vb,⟨nk BB.nd,λo ho=>BB.rng o (Sd.mp ho),λo x lo ho hx hlo=> ?_,λk o row hk hr p hp hpF=>Sd.mpr (hcl p (Sd.mp hpF) k o row hk hr hp)⟩,Sd.mpr (Bb.mpr ⟨_,ma BB.head,rfl⟩),λo ho hne=> ?_⟩
  ·simp only[EV,LS,th,ak,Px,hσ0,Vg,ac,cb,bb,Nat.reduceAdd,Nat.reduceLT,if_true,e,Nb,Nv B.hr hlen]
  ·obtain⟨i,m,l,el⟩:=ur _ (Sd.mp ho)
   by_cases q:o=wanted
   ·subst q;rw[hw]at hx;cases hx;rw[Ir]at hlo;cases hlo;omega
   ·exact FI i o m l x lo el q hx hlo
  ·obtain⟨i,m,l,el⟩:=ur _ (Sd.mp ho)
   have hi:0<i:=by
    rcases Xp i with h|h
    ·subst h;rw[BB.head]at el;cases el;exact absurd rfl hne
    ·exact h
   obtain⟨_,k,_,_,_,_,_,h,_⟩:=BB.ent i o m l el hi;exact⟨k,h⟩
 ·left
  refine⟨Ca,?_,K.mono hW,Q⟩;simp only[EV,LS,th,ak,Px,hσ0,Vg,ac,cb,bb,Nat.reduceAdd,Nat.reduceLT,if_true,e]
end
end Mine
namespace Mine
structure Uv (able:List (List Int)) (ats counts lows highs:List Int) (S:Int->Prop):Prop where
 move:∀(k:Nat) o row,ats[k]? =aa o->S o->able[k]? =aa row->∀p∈row,S p
 room:∀(o:Nat) c h,S o->counts[o]? =aa c->highs[o]? =aa h->c<h->∀(q:Nat) x l,counts[q]? =aa x->lows[q]? =aa l->l<x->S q
structure HA (able:List (List Int)) (ats counts lows highs:List Int) (M:Nat) (option:Int) (F:List Int) (room:Bool):Prop where
 nd:F.Nodup
 rng:∀o∈F,0<=o/\o<M
 opt:option∈F
 move:∀(k:Nat) o row,ats[k]? =aa o->o∈F->able[k]? =aa row->∀p∈row,p∈F
 roomT:room=true->(∃(o:Nat) (c h:Int),(o:Int)∈F/\counts[o]? =aa c/\highs[o]? =aa h/\c<h)/\∀(q:Nat) x l,counts[q]? =aa x->lows[q]? =aa l->l<x->(q:Int)∈F
 roomF:room=false->∀(o:Nat) (c h:Int),(o:Int)∈F->counts[o]? =aa c->highs[o]? =aa h->h<=c
 least:∀S,Uv able ats counts lows highs S->S option->∀o∈F,S o
def jk (xs:List Int):List (Int×V):=xs.map λo=>(o,V.bool true)
theorem Xs:∀{xs:List Int} {o:Int},(qg (jk xs) o).isSome=decide (o∈xs)
 | [],o=>rfl
 |x::xs,o=>by
  simp only[jk,sa,qg]
  by_cases h:x=o
  ·rw[if_pos h];subst h;simp
  ·rw[if_neg h]
   have:=Xs (xs:=xs) (o:=o);unfold jk at this;rw[this];have h':o≠x:=λq=>h q.symm;simp[h']
structure Rf (A:Mq) (f r:Nat) (σ:St) (able:List (List Int)) (lows highs ats counts xs:List Int):Prop where
 P:ij A σ able lows highs ats counts
 hf:σ[f]? =aa (.idict (jk xs))
 hr:σ[r]? =aa (.list (iL xs))
 nf:f∉A.all
 nr:r∉A.all
section
variable {A:Mq} {f r g:Nat} {σ Ca:St} {able:List (List Int)} {lows highs ats counts xs fr:List Int} {scr:Nat->Option (List Int)} {n M:Nat} {option:Nat}
theorem Rf.ne (B:Rf A f r σ able lows highs ats counts xs):f≠r:=Lc B.hf B.hr (by simp)
theorem Rf.app (B:Rf A f r σ able lows highs ats counts xs) (os:List O):Rf A f r (σ++os) able lows highs ats counts xs:=⟨B.P.app os,ub B.hf,ub B.hr,B.nf,B.nr⟩
theorem Rf.setOut (B:Rf A f r σ able lows highs ats counts xs) {a:Nat} {o:O} (h1:a∉A.all) (h2:a≠f) (h3:a≠r):Rf A f r (σ.set a o) able lows highs ats counts xs:=⟨B.P.setOut h1,ua B.hf h2,ua B.hr h3,B.nf,B.nr⟩
theorem Rf.push (B:Rf A f r σ able lows highs ats counts xs) (x:Int):Rf A f r ((σ.set f (.idict (jk (xs++[x])))).set r (.list (iL (xs++[x])))) able lows highs ats counts (xs++[x]):=
 ⟨(B.P.setOut B.nf).setOut B.nr,ua (Ob B.hf) (de B.ne),Ob (ua B.hr B.ne),B.nf,B.nr⟩
theorem Rf.notIn (B:Rf A f r σ able lows highs ats counts xs) {o:Int}:Zc .NotIn (.int o) (.ref f) σ=aa (!decide (o∈xs)):=by
 unfold Zc;simp only[B.hf,Xs]
theorem Rf.store (B:Rf A f r σ able lows highs ats counts xs) {x:Int} (h:x∉xs) (hl:xs.length<4000):Cd (.ref f) (.int x) (.bool true) σ=aa (σ.set f (.idict (jk (xs++[x])))):=by
 unfold Cd;simp only[B.hf];rw[Lj (by unfold jk;rw[ja];omega)];have hn:qg (jk xs) x=ba:=by
  have:=Xs (xs:=xs) (o:=x);rw[decide_eq_false h]at this;exact Option.not_isSome_iff_eq_none.mp (by rw[this];simp)
 rw[Ow hn];simp[jk]
theorem Rf.append (B:Rf A f r σ able lows highs ats counts xs) {x:Int} (hl:xs.length<4000):
 Lr r "append" [.int x] (σ.set f (.idict (jk (xs++[x]))))=aa (.none,(σ.set f (.idict (jk (xs++[x])))).set r (.list (iL (xs++[x])))):=by
 rw[cg (ua B.hr B.ne) (by simp;omega)];simp
theorem Al {a:Nat} {xs:List V} (h:σ[a]? =aa (.list xs)):Wo (.ref a) σ=aa xs:=by unfold Wo;exact Pb h
def su (able:List (List Int)) (ats counts lows highs:List Int) (M option:Nat) (o:Int):Prop:=(0<=o/\o<M)/\∀S,Uv able ats counts lows highs S->S option->S o
theorem Pw {here:Int} {g2:Nat} {v1 v2 v3 v5 v8:Option V} {s:V} {cf:Nat->List V->St->Option (V×St)} (hM:M<50) (Sx:ats.length<20) (WF:Wf able ats M) (B:Rf A f r σ able lows highs ats counts xs) (hg:σ[g]? =aa (.list (iL fr))) (Tp:σ[g2]? =aa (.list (pd (Sb ats here)))) (hn1:g∉A.all) (hn2:g≠f) (hn3:g≠r) (hn4:g≠g2)
 (hfl:fr.length<=60) (hmay:∀o∈fr,su able ats counts lows highs M option o) (hhere:∀S,Uv able ats counts lows highs S->S option->S here):
 ∀o9,∃o9' Ca ix,Ye 5000 (.dyn g2) 0 (Ce (Ga scr) cf (.var 9) [.expr (.meth (.var 7) "extend" [(.sub (.attr (.var 0) "able") (.var 9))])]) [aa (.ref A.i),v1,v2,v3,aa s,v5,aa (.int here),aa (.ref g),v8,o9] σ
  =aa (.next,[aa (.ref A.i),v1,v2,v3,aa s,v5,aa (.int here),aa (.ref g),v8,o9'],Ca)/\Rf A f r Ca able lows highs ats counts xs/\Ca[g]? =aa (.list (iL ix))/\ix.length<=1100/\(∀o∈ix,su able ats counts lows highs M option o)/\(∀o∈fr,o∈ix)/\
   (∀(k:Nat) row,ats[k]? =aa here->able[k]? =aa row->∀p∈row,p∈ix)/\ib [g] σ Ca:=by
 intro o9;obtain⟨Qb,Ca,e,o9',ix,rfl,B',hg',bo,Xj,hfr,hin,K',_⟩:=Xe (xs:=pd (Sb ats here)) (it:=.dyn g2) (me:=[aa (.ref A.i),v1,v2,v3,aa s,v5,aa (.int here),aa (.ref g),v8,o9]) (σ:=σ)
  (F:=Ce (Ga scr) cf (.var 9) [.expr (.meth (.var 7) "extend" [(.sub (.attr (.var 0) "able") (.var 9))])])
  (λk me τ=>∃o9 ix,me=[aa (.ref A.i),v1,v2,v3,aa s,v5,aa (.int here),aa (.ref g),v8,o9]/\Rf A f r τ able lows highs ats counts xs/\τ[g]? =aa (.list (iL ix))/\ix.length<=60+50*k/\(∀o∈ix,su able ats counts lows highs M option o)/\(∀o∈fr,o∈ix)/\
   (∀kk∈(Sb ats here).take k,∀row,able[kk]? =aa row->∀p∈row,p∈ix)/\ib [g] σ τ/\τ[g2]? =aa (.list (pd (Sb ats here))))
  (λk me τ ⟨_,_,_,_,_,_,_,_,_,_,h⟩ _=>se h)
  (λk v me τ hv ⟨o9,ix,Wg,B,hg,hl,hm,hfr,hin,K,Tp⟩=>by
   subst Wg;unfold pd at hv;rw[za]at hv;cases ho:(Sb ats here)[k]? with
   |none=>rw[ho]at hv;cases hv
   |some k0=>
    rw[ho]at hv;cases hv;have iu:=Hh.mp (ma ho);have hka:k0<able.length:=by rw[<-WF.len];exact(ca.mp iu).1
    have qf:able[k0]? =aa able[k0]:=da hka;obtain⟨a,e1,e2,ha⟩:=B.P.sRow qf;have Gn:(able[k0]).length<=50:=by have:=we (WF.nd _ _ qf) (WF.rng _ _ qf);omega
    have hkm:k<(Sb ats here).length:=(ca.mp ho).1;have dp:=rg (ats:=ats) (o:=here);have iq:Lr g "extend" [.ref a] τ=aa (.none,τ.set g (.list (iL (ix++able[k0])))):=by
     rw[Rm hg (ys:=iL able[k0]) (Al e2) (by simp;omega)];simp
    refine⟨[aa (.ref A.i),v1,v2,v3,aa s,v5,aa (.int here),aa (.ref g),v8,aa (.int k0)],τ.set g (.list (iL (ix++able[k0]))),?_,aa (.int k0),ix++able[k0],rfl,B.setOut hn1 hn2 hn3,Ob hg,by simp;omega,λo Qz=> ?_,λo Qz=>Xf _ (hfr o Qz),λkk ju row hr p hp=> ?_,K.trans (ib.set _ (by simp)),ua Tp hn4⟩
    ·unfold Ce
     rw[be (by simp)];simp only[EV,LS,B.P.gAble,e1,Ld hg,Wc,iq]
    ·rcases db.mp Qz with h|h
     ·exact hm o h
     ·exact⟨WF.rng _ _ qf o h,λS hS hs=>hS.move k0 here _ iu (hhere S hS hs) qf o h⟩
    ·rw[Yb,ho,db]at ju
     rcases ju with ju|ju
     ·exact Xf _ (hin kk ju row hr p hp)
     ·simp at ju;subst ju
      rw[qf]at hr;cases hr;exact Vi _ hp)
  (by unfold pd;rw[ja];have:=rg (ats:=ats) (o:=here);omega) ⟨o9,fr,rfl,B,hg,by omega,hmay,λ_ h=>h,by simp,.refl,Tp⟩
 have hlen:(pd (Sb ats here)).length=(Sb ats here).length:=by unfold pd;simp
 rw[hlen]at bo hin;refine⟨o9',Ca,ix,e,B',hg',by have:=rg (ats:=ats) (o:=here);omega,Xj,hfr,λk row hk hr p hp=>hin k ?_ row hr p hp,K'⟩;rw[Xd];exact Hh.mpr hk
theorem By {v1 v5 v6 v9:Option V} {s:V} {cf:Nat->List V->St->Option (V×St)} (hM:M<50) (B:Rf A f r σ able lows highs ats counts xs) (sv:xs.Nodup) (Pz:∀o∈xs,su able ats counts lows highs M option o) (hg:σ[g]? =aa (.list (iL fr))) (hn2:g≠f) (hn3:g≠r) (hfl:fr.length<=1100) (hmay:∀o∈fr,su able ats counts lows highs M option o):
 ∀o8,∃Eu Ca wj,Ye 5000 (.dyn g) 0 (Ce (Ga scr) cf (.var 8) [.ifs (.base (.cmp .NotIn (.var 8) (.var 2))) [.assign (.sub (.var 2) (.var 8)) (.bool true),.expr (.meth (.var 3) "append" [(.var 8)])] []]) [aa (.ref A.i),v1,aa (.ref f),aa (.ref r),aa s,v5,v6,aa (.ref g),o8,v9] σ
  =aa (.next,[aa (.ref A.i),v1,aa (.ref f),aa (.ref r),aa s,v5,v6,aa (.ref g),Eu,v9],Ca)/\xs<+:wj/\Rf A f r Ca able lows highs ats counts wj/\wj.Nodup/\(∀o∈wj,su able ats counts lows highs M option o)/\(∀o∈fr,o∈wj)/\ib [f,r] σ Ca:=by
 intro o8;obtain⟨Qb,Ca,e,Eu,wj,rfl,hp,B',hnd',Xj,hin,K',_⟩:=Xe (xs:=iL fr) (it:=.dyn g) (me:=[aa (.ref A.i),v1,aa (.ref f),aa (.ref r),aa s,v5,v6,aa (.ref g),o8,v9]) (σ:=σ)
  (F:=Ce (Ga scr) cf (.var 8) [.ifs (.base (.cmp .NotIn (.var 8) (.var 2))) [.assign (.sub (.var 2) (.var 8)) (.bool true),.expr (.meth (.var 3) "append" [(.var 8)])] []])
  (λk me τ=>∃o8 wj,me=[aa (.ref A.i),v1,aa (.ref f),aa (.ref r),aa s,v5,v6,aa (.ref g),o8,v9]/\xs<+:wj/\Rf A f r τ able lows highs ats counts wj/\wj.Nodup/\(∀o∈wj,su able ats counts lows highs M option o)/\(∀o∈fr.take k,o∈wj)/\ib [f,r] σ τ/\τ[g]? =aa (.list (iL fr)))
  (λk me τ ⟨_,_,_,_,_,_,_,_,_,h⟩ _=>se h)
  (λk v me τ hv ⟨o8,wj,Wg,hp,B,sv,hm,hin,K,hg⟩=>by
   subst Wg;rw[za]at hv;cases ho:fr[k]? with
   |none=>rw[ho]at hv;cases hv
   |some o=>
    rw[ho]at hv;cases hv;have hom:=hmay o (ma ho);have gz:wj.length<4000:=by have:=we sv (λo h=>(hm o h).1);omega
    unfold Ce;rw[be (by simp)]
    by_cases q:o∈wj
    ·refine⟨[aa (.ref A.i),v1,aa (.ref f),aa (.ref r),aa s,v5,v6,aa (.ref g),aa (.int o),v9],τ,?_,aa (.int o),wj,rfl,hp,B,sv,hm,λx hx=> ?_,K,hg⟩
     ·simp only[EV,LS,B.notIn,q,decide_true,Zb]
     ·rw[Yb,ho,db]at hx
      rcases hx with hx|hx
      ·exact hin x hx
      ·simp at hx;subst hx;exact q
    ·refine⟨[aa (.ref A.i),v1,aa (.ref f),aa (.ref r),aa s,v5,v6,aa (.ref g),aa (.int o),v9],_,?_,aa (.int o),wj++[o],rfl,hp.trans (dc _ _),B.push o,?_,λx hx=> ?_,λx hx=> ?_,K.trans (xB (by simp) (by simp)),ua (ua hg (de hn2)) (de hn3)⟩
     ·simp only[EV,LS,B.notIn,q,decide_false,qc,B.store q gz,Ld (ua B.hr B.ne),Wc,B.append gz]
     ·rw[Zf]
      exact⟨sv,by simp,λx hx y hy=>by simp at hy;subst hy;exactλz=>q (z▸hx)⟩
     ·rcases db.mp hx with h|h
      ·exact hm x h
      ·simp at h;subst h;exact hom
     ·rw[Yb,ho,db]at hx
      rcases hx with hx|hx
      ·exact Xf _ (hin x hx)
      ·simp at hx;subst hx;simp)
  (by simp;omega) ⟨o8,xs,rfl,Ha _,B,sv,Pz,by simp,.refl,hg⟩
 have hlen:(iL fr).length=fr.length:=by simp
 rw[hlen,Xd]at hin;exact⟨Eu,Ca,wj,e,hp,B',hnd',Xj,hin,K'⟩
def ue (counts lows:List Int):List Nat:=(Ua lows.length).filter λk=>match counts[k]?,lows[k]? with
 |some c,aa l=>decide (l<c)
 |_,_=>false
theorem sq {q:Nat}:q∈ue counts lows↔∃x l,counts[q]? =aa x/\lows[q]? =aa l/\l<x:=by
 unfold ue;rw[jc]
 constructor
 ·rintro⟨_,h⟩
  split at h
  ·rename_i c l h1 h2;exact⟨c,l,h1,h2,by simpa using h⟩
  ·cases h
 ·rintro⟨x,l,h1,h2,h3⟩
  refine⟨by simpa using(ca.mp h2).1,?_⟩;rw[h1,h2];simpa using h3
theorem qA:(gd 0 (lows.length:Nat)).flatMap (λv=>match v with| .int i=>if i.toNat∈ue counts lows then[v]else[]|_=>[])=pd (ue counts lows):=by
 have h:∀l:List Nat,(∀x∈l,x∈Ua lows.length)->(l.map λ(i:Nat)=>V.int (0+(i:Int))).flatMap (λv=>match v with| .int i=>if i.toNat∈ue counts lows then[v]else[]|_=>[])=pd (l.filter λk=>decide (k∈ue counts lows)):=by
  intro l
  induction l with
  |nil=>intro _;rfl
  |cons k l ih=>
   intro hl;simp only[sa,Dd,ih (λx hx=>hl x (Ia _ hx)),Vd]
   by_cases q:k∈ue counts lows<;>simp[q,pd]
 unfold gd Jj;have:((lows.length:Nat) - 0:Int).toNat=lows.length:=by omega
 rw[this,h _ (λ_ h=>h)]
 congr 1
 conv=>rhs;unfold ue
 refine vD λk hk=> ?_
 by_cases q:k∈ue counts lows
 ·rw[decide_eq_true q]
  unfold ue at q;rw[jc]at q;exact q.2.symm
 ·rw[decide_eq_false q]
  unfold ue at q;rw[jc]at q;simp only[not_and,zh]at q;exact(q hk).symm
theorem UC:(ue counts lows).length<=lows.length:=by
 unfold ue;have:=Ub (λk=>match counts[k]?,lows[k]? with|some c,aa l=>decide (l<c)|_,_=>false) (Ua lows.length)
 simpa using this
theorem Ti (l:List Nat):pd l=iL (l.map λ(k:Nat)=>(k:Int)):=by simp only[pd,iL,Fc];rfl
theorem eA (hM:M<50) (Sx:ats.length<20) (P:ij A σ able lows highs ats counts) (WF:Wf able ats M) (C:Gq ats counts lows highs M) (ho:option<M) (hn:2<=n):
 ∃Ca l F room,Oa (Ga scr) yb n 354 [.ref A.i,.int option] σ=aa (.tup [.ref l,.bool room],Ca)/\ib [] σ Ca/\Ca[l]? =aa (.list (iL F))/\HA able ats counts lows highs M option F room:=by
 obtain⟨n,rfl⟩:∃m,n=m+1:=⟨n - 1,by omega⟩;rw[Dc (fn:=vI) rfl,Bd [aa (.ref A.i),aa (.int option),ba,ba,ba,ba,ba,ba,ba,ba] rfl rfl];simp only[vI];have wh:=P.lt;have lB:σ.length∉A.all:=λq=>Ed _ (wh _ q);have hr0:σ.length+1∉A.all:=λq=>by have:=wh _ q;omega
 have Xn:∀τ:St,σ.length<=τ.length->τ.length∉A.all:=λτ h q=>by have:=wh _ q;omega
 have B0:Rf A σ.length (σ.length+1) (σ++[.idict [((option:Int),.bool true)]]++[O.list [.int option]]) able lows highs ats counts [(option:Int)]:=by
  refine⟨(P.app _).app _,ub vb,?_,lB,hr0⟩;have:=vb (σ:=σ++[.idict [((option:Int),.bool true)]]) (o:=.list [.int option])
  simpa using this
 have K0:ib [σ.length,σ.length+1] σ (σ++[.idict [((option:Int),.bool true)]]++[O.list [.int option]]):=(ib.app _).trans (ib.app _);have Tx:(σ++[O.idict [((option:Int),V.bool true)]]).length=σ.length+1:=by simp
 have ak:newL [.int option] (σ++[O.idict [((option:Int),V.bool true)]])=aa (.ref (σ.length+1),σ++[O.idict [((option:Int),V.bool true)]]++[O.list [.int option]]):=by rw[Ab (by simp),Tx]
 generalize Px:σ.length=f at*
 generalize hrN:f+1=r at*
 generalize hσ0:σ++[O.idict [((option:Int),V.bool true)]]++[O.list [.int option]]=σ0 at*
 have hlnl:(iL lows).length=lows.length:=by simp
 have L:=Oi (P:=Ug (Ga scr) (Oa (Ga scr) yb n) (.base (.cmp .Lt (.var 4) (.call (.con (.builtin "len")) [(.var 3)])))) (F:=wf (Ga scr) (Oa (Ga scr) yb n) [.assign (.tup [(.var 6),(.var 4),(.var 7)]) (.tup [(.sub (.var 3) (.var 4)),(.bin .Add (.var 4) (.int 1)),(.list [])]),.ifs (.and (.not (.base (.var 5))) (.base (.cmp .Lt (.sub (.attr (.var 0) "counts") (.var 6)) (.sub (.attr (.var 0) "highs") (.var 6))))) [.assign (.var 5) (.bool true),.expr (.meth (.var 7) "extend" [(.comp 2 (.call (.con (.type "range")) [(.call (.con (.builtin "len")) [(.attr (.var 0) "lows")])]) (.var 11) [(.base (.cmp .Gt (.sub (.attr (.var 0) "counts") (.var 11)) (.sub (.attr (.var 0) "lows") (.var 11))))] [] (.var 11))])] [],.fors (.var 9) (.meth (.var 0) "members_at" [(.var 6)]) [.expr (.meth (.var 7) "extend" [(.sub (.attr (.var 0) "able") (.var 9))])],.fors (.var 8) (.var 7) [.ifs (.base (.cmp .NotIn (.var 8) (.var 2))) [.assign (.sub (.var 2) (.var 8)) (.bool true),.expr (.meth (.var 3) "append" [(.var 8)])] []]])
  (λk me τ=>∃xs sI s room o6 o7 o8 o9,me=[aa (.ref A.i),aa (.int option),aa (.ref f),aa (.ref r),aa (.int sI),aa (.bool room),o6,o7,o8,o9]/\sI=((s:Nat):Int)/\k=M - s/\s<=xs.length/\Rf A f r τ able lows highs ats counts xs/\xs.Nodup/\(∀o∈xs,su able ats counts lows highs M option o)/\(option:Int)∈xs/\
   (∀i<s,∀o,xs[i]? =aa o->∀(k:Nat) row,ats[k]? =aa o->able[k]? =aa row->∀p∈row,p∈xs)/\(room=true->(∃(o:Nat) (c h:Int),(o:Int)∈xs/\counts[o]? =aa c/\highs[o]? =aa h/\c<h)/\∀(q:Nat) x l,counts[q]? =aa x->lows[q]? =aa l->l<x->(q:Int)∈xs)/\
   (room=false->∀i<s,∀(o:Nat) (c h:Int),xs[i]? =aa (o:Int)->counts[o]? =aa c->highs[o]? =aa h->h<=c)/\ib [f,r] σ τ)
  (λme τ=>∃xs sI room o6 o7 o8 o9,me=[aa (.ref A.i),aa (.int option),aa (.ref f),aa (.ref r),aa (.int sI),aa (.bool room),o6,o7,o8,o9]/\Rf A f r τ able lows highs ats counts xs/\xs.Nodup/\(∀o∈xs,su able ats counts lows highs M option o)/\(option:Int)∈xs/\
   (∀o∈xs,∀(k:Nat) row,ats[k]? =aa o->able[k]? =aa row->∀p∈row,p∈xs)/\(room=true->(∃(o:Nat) (c h:Int),(o:Int)∈xs/\counts[o]? =aa c/\highs[o]? =aa h/\c<h)/\∀(q:Nat) x l,counts[q]? =aa x->lows[q]? =aa l->l<x->(q:Int)∈xs)/\
   (room=false->∀(o:Nat) (c h:Int),(o:Int)∈xs->counts[o]? =aa c->highs[o]? =aa h->h<=c)/\ib [f,r] σ τ)
  (λ_ _ _=>False)
  (λk me τ ⟨xs,sI,s,room,o6,o7,o8,o9,Wg,hs,hk,hsb,B,sv,Pz,hopt,hcl,hT,hF,K⟩=>by
   subst Wg;have hxM:xs.length<=M:=we sv (λo h=>(Pz o h).1);have hlen:(iL xs).length=xs.length:=by simp
   by_cases wh:s<xs.length
   ·right
    refine⟨τ,by simp only[EV,LS,Nb,wc B.hr,Ck,hlen];rw[decide_eq_true (by omega)],.inl ?_⟩;obtain⟨here,hrs⟩:∃here,xs[s]? =aa here:=⟨xs[s],da wh⟩;have hhm:=Pz here (ma hrs);obtain⟨hN,rfl⟩:=pc hhm.1.1;have hNM:hN<M:=by have:=hhm.1.2;omega
    have hcN':=C.cnt hN hNM;have hhl:hN<highs.length:=by rw[C.hlen];exact hNM
    obtain⟨hv,hhN⟩:∃hv,highs[hN]? =aa hv:=⟨highs[hN],da hhl⟩;have s1:=Rc B.hr hrs;subst hs;have hτ:f<τ.length/\r<τ.length:=⟨Ic B.hf,Ic B.hr⟩;have B1:=B.app [O.list []];have hg1:=vb (σ:=τ) (o:=.list []);have hgall:=Xn τ (Px▸K.len);have s2:=Rc B1.P.hco hcN';have s3:=Rc B1.P.hhi hhN;have K1:ib [f,r] σ (τ++[O.list []]):=K.trans (ib.app _);have hgl:(τ++[O.list []]).length=τ.length+1:=by simp
    have mid:∃Cb fr Zq,Vf (Ga scr) (Oa (Ga scr) yb n) (.ifs (.and (.not (.base (.var 5))) (.base (.cmp .Lt (.sub (.attr (.var 0) "counts") (.var 6)) (.sub (.attr (.var 0) "highs") (.var 6))))) [.assign (.var 5) (.bool true),.expr (.meth (.var 7) "extend" [(.comp 2 (.call (.con (.type "range")) [(.call (.con (.builtin "len")) [(.attr (.var 0) "lows")])]) (.var 11) [(.base (.cmp .Gt (.sub (.attr (.var 0) "counts") (.var 11)) (.sub (.attr (.var 0) "lows") (.var 11))))] [] (.var 11))])] [])
     [aa (.ref A.i),aa (.int option),aa (.ref f),aa (.ref r),aa (.int (s+1)),aa (.bool room),aa (.int hN),aa (.ref τ.length),o8,o9] (τ++[O.list []])
     =aa (.next,[aa (.ref A.i),aa (.int option),aa (.ref f),aa (.ref r),aa (.int (s+1)),aa (.bool Zq),aa (.int hN),aa (.ref τ.length),o8,o9],Cb)/\Rf A f r Cb able lows highs ats counts xs/\Cb[τ.length]? =aa (.list (iL fr))/\fr.length<=60/\(∀o∈fr,su able ats counts lows highs M option o)/\ib [f,r] σ Cb/\τ.length<Cb.length/\
     (Zq=true->room=true\/(((ats.count (hN:Int):Int)<hv)/\∀(q:Nat) x l,counts[q]? =aa x->lows[q]? =aa l->l<x->(q:Int)∈fr))/\(Zq=false->room=false/\hv<=(ats.count (hN:Int):Int)):=by
     cases room with
     |true=>
      refine⟨τ++[O.list []],[],true,?_,B1,hg1,by simp,by simp,K1,by simp,λ_=>.inl rfl,λh=>(by cases h)⟩;simp only[EV,LS,Zb]
     |false=>
      by_cases q:(ats.count (hN:Int):Int)<hv
      ·have hcomp:re 5000 (.st (gd 0 (lows.length:Nat))) 0 (Ec (Ga scr) (Oa (Ga scr) yb n) 2 (.var 11) [(.base (.cmp .Gt (.sub (.attr (.var 0) "counts") (.var 11)) (.sub (.attr (.var 0) "lows") (.var 11))))] [] (.var 11) [aa (.ref A.i),aa (.int option),aa (.ref f),aa (.ref r),aa (.int (s+1)),aa (.bool true),aa (.int hN),aa (.ref τ.length),o8,o9]) (τ++[O.list []])
        =aa ((gd 0 (lows.length:Nat)).flatMap (λv=>match v with| .int i=>if i.toNat∈ue counts lows then[v]else[]|_=>[]),τ++[O.list []]):=by
        refine We _ (λk=>rfl) (λv hv=> ?_) (by rw[jd,C.llen];omega);obtain⟨k,hk⟩:=ic hv;rw[gf]at hk
        split at hk<;>cases hk
        rename_i hk;have hkM:k<M:=by rw[<-C.llen];exact hk
        have e1:=C.cnt k hkM;obtain⟨lo,e2⟩:∃lo,lows[k]? =aa lo:=⟨lows[k],da hk⟩;have hms:k∈ue counts lows↔lo<(ats.count (k:Int):Int):=by
         rw[sq]
         constructor
         ·rintro⟨x,l,h1,h2,h3⟩;rw[e1]at h1;rw[e2]at h2;cases h1;cases h2;exact h3
         ·intro h;exact⟨_,_,e1,e2,h⟩
        simp only[Ec,yd,Aa,wb,Db,EV,LS,B1.P.gCo,B1.P.gLows,Rc B1.P.hco e1,Rc B1.P.hlo e2,rl,ze,hms]
        by_cases q:lo<(ats.count (k:Int):Int)
        ·simp[q,Og,Oe]
        ·simp[q]
       have yw:=UC (counts:=counts) (lows:=lows);have hll:=C.llen;rw[qA,Ti]at hcomp;have Dk:=Ab (xs:=iL ((ue counts lows).map λ(k:Nat)=>(k:Int))) (σ:=τ++[O.list []]) (by rw[ja,ja];omega);have B2:=B1.app [O.list (iL ((ue counts lows).map λ(k:Nat)=>(k:Int)))];have Tp:=ub (os:=[O.list (iL ((ue counts lows).map λ(k:Nat)=>(k:Int)))]) hg1;have oB:=vb (σ:=τ++[O.list []]) (o:=.list (iL ((ue counts lows).map λ(k:Nat)=>(k:Int))));have iq:Lr τ.length "extend" [.ref (τ++[O.list []]).length] (τ++[O.list []]++[O.list (iL ((ue counts lows).map λ(k:Nat)=>(k:Int)))])=aa (.none,(τ++[O.list []]++[O.list (iL ((ue counts lows).map λ(k:Nat)=>(k:Int)))]).set τ.length (.list (iL ((ue counts lows).map λ(k:Nat)=>(k:Int))))):=by
        rw[Rm Tp (ys:=iL ((ue counts lows).map λ(k:Nat)=>(k:Int))) (Al oB) (by simp;omega)];simp
       refine⟨(τ++[O.list []]++[O.list (iL ((ue counts lows).map λ(k:Nat)=>(k:Int)))]).set τ.length (.list (iL ((ue counts lows).map λ(k:Nat)=>(k:Int)))),(ue counts lows).map λ(k:Nat)=>(k:Int),true,?_,B2.setOut hgall (by omega) (by omega),Ob Tp,by rw[ja];omega,λo Qz=> ?_,(((K1.trans (ib.app _)).mono (W':=[τ.length,f,r]) (λi hi=>.inl (Ia _ hi))).trans (ib.set _ (by simp))).mono (λi hi=>by rcases Fa.mp hi with h|h;exact .inr (by have:=K.len;omega);exact .inl h),by simp,λ_=>.inr ⟨q,λx y l h1 h2 h3=>Bb.mpr ⟨x,sq.mpr ⟨y,l,h1,h2,h3⟩,rfl⟩⟩,λh=>(by cases h)⟩
       ·simp only[EV,LS,qc,B1.P.gCo,B1.P.gHighs,s2,s3,Ck,q,decide_true,Nat.reduceAdd,Nat.reduceLT,if_true,Ld hg1,B1.P.gLows,Nb,vc,wc B1.P.hlo,hlnl,xe (σ:=τ++[O.list []]) (b:=(lows.length:Nat)) (by omega),Ie (σ:=τ++[O.list []]) (b:=(lows.length:Nat)) (by omega),hcomp,Dk,Wc,iq]
       ·obtain⟨k,hk,rfl⟩:=Bb.mp Qz
        obtain⟨x,l,h1,h2,h3⟩:=sq.mp hk;have:k<M:=by rw[<-C.len];exact(ca.mp h1).1
        exact⟨by omega,λS hS hs=>hS.room hN _ _ (hhm.2 S hS hs) hcN' hhN q k x l h1 h2 h3⟩
      ·refine⟨τ++[O.list []],[],false,?_,B1,hg1,by simp,by simp,K1,by simp,(λh=>(by cases h)),λ_=>⟨rfl,by omega⟩⟩
       simp only[EV,LS,qc,B1.P.gCo,B1.P.gHighs,s2,s3,Ck,q,decide_false]
    obtain⟨Cb,fr,Zq,e2,B2,Tp,hfl,hmf,K2,hgl2,hT2,hF2⟩:=mid;have B3:=B2.app [O.list (pd (Sb ats (hN:Int)))];have hgm:=vb (σ:=Cb) (o:=.list (pd (Sb ats (hN:Int))));have hmo:=ro (scr:=scr) B2.P (o:=(hN:Int)) (by omega) (by omega:1<=n);obtain⟨o9',ae,ix,e3,B3',oB,hfl3,hmf3,hfr3,hin3,K3⟩:=Pw (scr:=scr) (cf:=Oa (Ga scr) yb n) (option:=option) (v1:=aa (.int option)) (v2:=aa (.ref f)) (v3:=aa (.ref r)) (v5:=aa (.bool Zq)) (v8:=o8) (s:=.int (s+1)) (here:=(hN:Int)) (g:=τ.length) hM Sx WF B3 (ub Tp) hgm hgall (by omega) (by omega) (by omega) hfl hmf hhm.2 o9;obtain⟨Eu,dh,wj,e4,hp4,B4,hnd4,hmx4,hin4,K4⟩:=By (scr:=scr) (cf:=Oa (Ga scr) yb n) (option:=option) (v1:=aa (.int option)) (v5:=aa (.bool Zq)) (v6:=aa (.int hN)) (v9:=o9') (s:=.int (s+1)) (g:=τ.length) hM B3' sv Pz oB (by omega) (by omega) hfl3 hmf3 o8;have hpm:∀o,o∈xs->o∈wj:=λo h=>hp4.subset h;have hpl:=hp4.length_le;have hpg:∀i<s,wj[i]? =xs[i]? :=λi hi=>by obtain⟨t,rfl⟩:=hp4;rw[ta (by omega)]
    have hps:wj[s]? =aa (hN:Int):=by obtain⟨t,rfl⟩:=hp4;rw[ta wh];exact hrs
    refine⟨[aa (.ref A.i),aa (.int option),aa (.ref f),aa (.ref r),aa (.int (s+1)),aa (.bool Zq),aa (.int hN),aa (.ref τ.length),Eu,o9'],dh,M - (s+1),?_,⟨wj,(s:Int)+1,s+1,Zq,aa (.int hN),aa (.ref τ.length),Eu,o9',rfl,by omega,rfl,by omega,B4,hnd4,hmx4,hpm _ hopt,λi hi o Au k row hk hr p hp=> ?_,λh=> ?_,λh i hi o c hh Au hc hhh=> ?_,?_⟩,by omega⟩
    ·rw[Ud]
     have e1:Vf (Ga scr) (Oa (Ga scr) yb n) (.assign (.tup [(.var 6),(.var 4),(.var 7)]) (.tup [(.sub (.var 3) (.var 4)),(.bin .Add (.var 4) (.int 1)),(.list [])])) [aa (.ref A.i),aa (.int option),aa (.ref f),aa (.ref r),aa (.int s),aa (.bool room),o6,o7,o8,o9] τ
      =aa (.next,[aa (.ref A.i),aa (.int option),aa (.ref f),aa (.ref r),aa (.int (s+1)),aa (.bool room),aa (.int hN),aa (.ref τ.length),o8,o9],τ++[O.list []]):=by
      simp only[EV,LS,s1,Cf,Ab (σ:=τ) (xs:=[]) (by simp),ac,cb,bb,Nat.reduceAdd,Nat.reduceLT,if_true]
     rw[e1];simp only[];rw[Ud,e2];simp only[];rw[Ud,Ij];simp only[EV,LS,B2.P.rMem,Wc,hmo,Oc hgm,e3,Oc oB,e4]
    ·by_cases q:i<s
     ·rw[hpg i q]at Au
      exact hpm _ (hcl i q o Au k row hk hr p hp)
     ·have:i=s:=by omega
      subst this;rw[hps]at Au;cases Au;exact hin4 _ (hin3 k row hk hr p hp)
    ·rcases hT2 h with h|⟨h1,h2⟩
     ·obtain⟨⟨o,c,hh,z1,z2,z3,z4⟩,z5⟩:=hT h
      exact⟨⟨o,c,hh,hpm _ z1,z2,z3,z4⟩,λq x l a1 a2 a3=>hpm _ (z5 q x l a1 a2 a3)⟩
     ·exact⟨⟨hN,_,_,ma hps,hcN',hhN,h1⟩,λq x l a1 a2 a3=>hin4 _ (hfr3 _ (h2 q x l a1 a2 a3))⟩
    ·obtain⟨h1,h2⟩:=hF2 h
     by_cases q:i<s
     ·rw[hpg i q]at Au
      exact hF h1 i q o c hh Au hc hhh
     ·have:i=s:=by omega
      subst this;rw[hps]at Au;have:o=hN:=by simp at Au;omega
      subst this;rw[hcN']at hc;rw[hhN]at hhh;cases hc;cases hhh;exact h2
    ·exact((((K2.trans (ib.app _)).mono (W':=[τ.length,f,r]) (λi hi=>.inl (Ia _ hi))).trans (K3.mono λi hi=>.inl (by simp at hi;simp[hi]))).trans (K4.mono λi hi=>.inl (Ia _ hi))).mono (λi hi=>by rcases Fa.mp hi with h|h;exact .inr (by have:=K.len;omega);exact .inl h)
   ·left
    refine⟨τ,by simp only[EV,LS,Nb,wc B.hr,Ck,hlen];rw[decide_eq_false (by omega)],xs,sI,room,o6,o7,o8,o9,rfl,B,sv,Pz,hopt,λo Qz=> ?_,hT,λh o c hh Qz=> ?_,K⟩
    ·obtain⟨i,hi⟩:=ic Qz
     exact hcl i (by have:=(ca.mp hi).1;omega) o hi
    ·obtain⟨i,hi⟩:=ic Qz
     exact hF h i (by have:=(ca.mp hi).1;omega) o c hh hi)
  5000 M _ σ0 (by omega) ⟨[(option:Int)],0,0,false,ba,ba,ba,ba,rfl,rfl,rfl,by simp,B0,by simp,λo h=>by simp at h;subst h;exact⟨by omega,λS _ hs=>hs⟩,by simp,λi hi=>absurd hi (Fe _),λh=>(by cases h),λ_ i hi=>absurd hi (Fe _),K0⟩
 rcases L with⟨Qb,Ca,e,xs,sI,room,o6,o7,o8,o9,rfl,B,sv,Pz,hopt,hcl,hT,hF,K⟩|⟨_,_,_,_,h⟩
 ·have hxM:xs.length<=M:=we sv (λo h=>(Pz o h).1)
  have hsrt:jh (.builtin "sorted") [.ref f] Ca=aa (.ref Ca.length,Ca++[O.list (iL (Gg xs))]):=by
   unfold jh;simp only[B.hf];rw[if_pos (by unfold jk;rw[ja];simp[yh];omega)];have:(jk xs).map (·.1)=xs:=by unfold jk;rw[Fc];simp[di]
   rw[this];exact Ab (by rw[ja,lq];omega)
  refine⟨Ca++[O.list (iL (Gg xs))],Ca.length,Gg xs,room,?_,(K.mono λi hi=>by simp at hi;right;omega).trans (ib.app _),vb,⟨nk sv,λo h=>(Pz o (Sd.mp h)).1,Sd.mpr hopt,λk o row hk h hr p hp=>Sd.mpr (hcl o (Sd.mp h) k row hk hr p hp),λh=> ?_,λh o c hh z=>hF h o c hh (Sd.mp z),λS hS hs o h=>(Pz o (Sd.mp h)).2 S hS hs⟩⟩
  ·simp only[EV,LS,th,ak,Px,hσ0,ac,cb,bb,Nat.reduceAdd,Nat.reduceLT,if_true,e,Nb,hsrt]
  ·obtain⟨⟨o,c,hh,z1,z2,z3,z4⟩,z5⟩:=hT h
   exact⟨⟨o,c,hh,Sd.mpr z1,z2,z3,z4⟩,λq x l a1 a2 a3=>Sd.mpr (z5 q x l a1 a2 a3)⟩
 ·exact h.elim
end
end Mine
namespace Mine
structure Sp (able:List (List Int)) (lows highs:List Int) (a:List Int):Prop where
 len:a.length=able.length
 whole:Wh able a
 lo:∀(o:Nat) l,lows[o]? =aa l->l<=(a.count (o:Int):Int)
 hi:∀(o:Nat) h,highs[o]? =aa h->(a.count (o:Int):Int)<=h
theorem pC {a:List Int} {o:Int} {F:List Int} (h:o∉F):a.countP (λx=>decide (x∈o::F))=a.count o+a.countP (λx=>decide (x∈F)):=by
 induction a with
 |nil=>rfl
 |cons x a ih=>
  rw[Ah,Ah,Zh,ih]
  by_cases q:x=o
  ·subst q;simp[h];omega
  ·by_cases q2:x∈F
   ·simp[q,q2];omega
   ·simp[q,q2]
theorem Qi {a:List Int}:∀{F:List Int},F.Nodup->(F.map λo=>(a.count o:Int)).sum=(a.countP (λx=>decide (x∈F)):Int)
 | [],_=>by simp
 |o::F,h=>by
  rw[Gc]at h;rw[sa,Zk,Qi h.2,pC h.1];omega
theorem Ww {f g:Int->Int}:∀{F:List Int},(∀o∈F,f o<=g o)->(F.map f).sum<=(F.map g).sum
 | [],_=>by simp
 |o::F,h=>by
  have h1:=h o Ma;have h2:=Ww (F:=F) λx hx=>h x (Ia _ hx);rw[sa,sa,Zk,Zk];omega
theorem jF {f g:Int->Int}:∀{F:List Int},(∀o∈F,f o<=g o)->(∃o∈F,f o<g o)->(F.map f).sum<(F.map g).sum
 | [],_,h=>by obtain⟨o,h,_⟩:=h;cases h
 |o::F,h,h'=>by
  have h1:=h o Ma;have h2:=Ww (F:=F) λx hx=>h x (Ia _ hx);rw[sa,sa,Zk,Zk];obtain⟨p,hp,wh⟩:=h';rcases Fa.mp hp with rfl|hp
  ·omega
  ·have:=jF (F:=F) (λx hx=>h x (Ia _ hx)) ⟨p,hp,wh⟩
   omega
theorem Cm {p q:Int->Bool}:∀{a b:List Int},a.length=b.length->(∀(k:Nat) x y,a[k]? =aa x->b[k]? =aa y->p x=true->q y=true)->a.countP p<=b.countP q
 | [],[],_,_=>Le _
 |x::a,y::b,hl,h=>by
  have ih:=Cm (a:=a) (b:=b) (by simpa using hl) λk x y h1 h2=>h (k+1) x y (by simpa using h1) (by simpa using h2);have h0:=h 0 x y rfl rfl;rw[Ah,Ah]
  by_cases z:p x=true
  ·rw[if_pos z,if_pos (h0 z)];omega
  ·rw[if_neg z];omega
 | [],_::_,hl,_=>by simp at hl
 |_::_,[],hl,_=>by simp at hl
theorem Hj {p q:Int->Bool}:∀{a b:List Int},a.length=b.length->(∀(k:Nat) x y,a[k]? =aa x->b[k]? =aa y->p x=true->q y=true)->(∃(k:Nat) (x y:Int),a[k]? =aa x/\b[k]? =aa y/\p x=false/\q y=true)->a.countP p+1<=b.countP q
 | [],[],_,_,h=>by obtain⟨k,x,y,h,_⟩:=h;simp at h
 |x::a,y::b,hl,h,⟨k,x',y',e1,e2,h1,h2⟩=>by
  have bo:a.length=b.length:=by simpa using hl
  have ht:∀(k:Nat) x y,a[k]? =aa x->b[k]? =aa y->p x=true->q y=true:=λk x y h1 h2=>h (k+1) x y (by simpa using h1) (by simpa using h2);have h0:=h 0 x y rfl rfl;rw[Ah,Ah];cases k with
  |zero=>
   simp only[sf,Tc]at e1 e2;subst e1;subst e2;have:=Cm bo ht;rw[if_pos h2,h1];simp;omega
  |succ k=>
   have:=Hj bo ht ⟨k,x',y',by simpa using e1,by simpa using e2,h1,h2⟩
   by_cases z:p x=true
   ·rw[if_pos z,if_pos (h0 z)];omega
   ·rw[if_neg z];omega
 | [],_::_,hl,_,_=>by simp at hl
 |_::_,[],hl,_,_=>by simp at hl
section
variable {able:List (List Int)} {lows highs ats counts F a:List Int} {M:Nat}
theorem dB (WF:Wf able ats M) (C:Gq ats counts lows highs M) (H:BJ able ats counts highs M F) (V:Sp able lows highs a) {k0:Nat} {o p:Int} (h1:ats[k0]? =aa o) (h2:o∉F) (h3:a[k0]? =aa p) (h4:p∈F):False:=by
 have wh:=Hj (p:=λx=>decide (x∈F)) (q:=λx=>decide (x∈F)) (a:=ats) (b:=a) (WF.len.trans V.len.symm)
  (λk x y hx hy hd=>by
   obtain⟨r,hr,hyr⟩:=V.whole k y hy;exact decide_eq_true (H.stay k x r hx (of_decide_eq_true hd) hr y hyr))
  ⟨k0,o,p,h1,h3,decide_eq_false h2,decide_eq_true h4⟩
 have hs:=Ww (F:=F) (f:=λo=>(a.count o:Int)) (g:=λo=>(ats.count o:Int)) λo ho=>by
  have hr:=H.rng o ho;obtain⟨oN,rfl⟩:=pc hr.1;have hc:=C.cnt oN (by omega);have hl:oN<highs.length:=by rw[C.hlen];omega
  have hh:highs[oN]? =aa highs[oN]:=da hl;have e1:=H.full oN _ _ ho hc hh;have e2:=V.hi oN _ hh;omega
 rw[Qi H.nd,Qi H.nd]at hs;omega
theorem wG (WF:Wf able ats M) (C:Gq ats counts lows highs M) (H:JH able ats counts lows M F) (V:Sp able lows highs a) {o:Nat} {x l:Int} (h1:(o:Int)∈F) (h2:counts[o]? =aa x) (h3:lows[o]? =aa l) (h4:x<l):False:=by
 have pB:=Cm (p:=λx=>decide (x∈F)) (q:=λx=>decide (x∈F)) (a:=a) (b:=ats) (V.len.trans WF.len.symm)
  (λk x y hx hy hd=>by
   obtain⟨r,hr,hxr⟩:=V.whole k x hx;exact decide_eq_true (H.stay k y r hy hr x hxr (of_decide_eq_true hd)))
 have hcount:∀o∈F,∀oN:Nat,o=(oN:Int)->counts[oN]? =aa (ats.count o:Int):=λo ho oN e=>by
  subst e;have:=H.rng _ ho;exact C.cnt oN (by omega)
 have hs:=jF (F:=F) (f:=λo=>(ats.count o:Int)) (g:=λo=>(a.count o:Int)) (λo ho=>by
  have hr:=H.rng o ho;obtain⟨oN,rfl⟩:=pc hr.1;have hc:=C.cnt oN (by omega);have hl:oN<lows.length:=by rw[C.llen];omega
  have hh:lows[oN]? =aa lows[oN]:=da hl;have e1:=H.spare oN _ _ ho hc hh;have e2:=V.lo oN _ hh;omega) ⟨o,h1,by
   have hc:=C.cnt o (by have:=H.rng _ h1;omega);rw[h2]at hc;cases hc;have e2:=V.lo o _ h3;omega⟩
 rw[Qi H.nd,Qi H.nd]at hs;omega
theorem QE {option:Nat} {room:Bool} (WF:Wf able ats M) (WH:Wh able ats) (C:Gq ats counts lows highs M) (H:HA able ats counts lows highs M option F room) (V:Sp able lows highs a) {k0:Nat} {o:Int} (h1:ats[k0]? =aa o) (h2:o∉F) (h3:a[k0]? =aa (option:Int)):False:=by
 cases room with
 |false=>exact dB WF C ⟨H.nd,H.rng,λo c h=>H.roomF rfl o c h,H.move⟩ V h1 h2 h3 H.opt
 |true=>
  have hG:∀x:Int,x∈((Ua M).map λ(k:Nat)=>(k:Int)).filter (λx=>decide (x∉F))↔(0<=x/\x<M)/\x∉F:=by
   intro x;rw[jc];simp only[Bb,ng,decide_eq_true_eq]
   constructor
   ·rintro⟨⟨k,hk,rfl⟩,h⟩;exact⟨by omega,h⟩
   ·rintro⟨h,h'⟩;exact⟨⟨x.toNat,by omega,by omega⟩,h'⟩
  have hGn:(((Ua M).map λ(k:Nat)=>(k:Int)).filter (λx=>decide (x∉F))).Nodup:=by
   refine bx YB ?_;refine yD.mpr (GJ ?_ Br);intro x y h;omega
  generalize ((Ua M).map λ(k:Nat)=>(k:Int)).filter (λx=>decide (x∉F))=G at hG hGn
  have fo:∀(k:Nat) x,ats[k]? =aa x->0<=x/\x<M:=λk x hx=>by
   obtain⟨r,hr,hxr⟩:=WH k x hx;exact WF.rng k r hr x hxr
  have wh:=Hj (p:=λx=>decide (x∈G)) (q:=λx=>decide (x∈G)) (a:=a) (b:=ats) (V.len.trans WF.len.symm)
   (λk x y hx hy hd=>by
    obtain⟨r,hr,hxr⟩:=V.whole k x hx;have hd:=(hG x).mp (of_decide_eq_true hd);refine decide_eq_true ((hG y).mpr ⟨fo k y hy,λq=>hd.2 (H.move k y r hy q hr x hxr)⟩))
   ⟨k0,option,o,h3,h1,decide_eq_false λq=>((hG _).mp q).2 H.opt,decide_eq_true ((hG _).mpr ⟨fo k0 o h1,h2⟩)⟩
  have hs:=Ww (F:=G) (f:=λo=>(ats.count o:Int)) (g:=λo=>(a.count o:Int)) λo ho=>by
   obtain⟨hr,hn⟩:=(hG o).mp ho;obtain⟨oN,rfl⟩:=pc hr.1;have hc:=C.cnt oN (by omega);have hl:oN<lows.length:=by rw[C.llen];omega
   have hh:lows[oN]? =aa lows[oN]:=da hl;have e2:=V.lo oN _ hh;have:¬lows[oN]<(ats.count (oN:Int):Int):=λq=>hn ((H.roomT rfl).2 oN _ _ hc hh q);omega
  rw[Qi hGn,Qi hGn]at hs;omega
theorem Uj (V:Sp able lows highs ats) (C:Gq ats counts lows highs M) {a:List Int} {x y:Int} (hl:a.length=ats.length) (hw:Wh able a) (hc:∀o:Int,(a.count o:Int)+(if y=o then 1 else 0)=ats.count o+(if x=o then 1 else 0))
 (h:x=y\/((∃(n:Nat) (c h:Int),x=(n:Int)/\counts[n]? =aa c/\highs[n]? =aa h/\c<h)/\(∃(n:Nat) (c l:Int),y=(n:Int)/\counts[n]? =aa c/\lows[n]? =aa l/\l<c))):Sp able lows highs a:=by
 refine⟨hl.trans V.len,hw,λo l e=> ?_,λo hh e=> ?_⟩
 ·have h1:=V.lo o l e
  have h2:=hc o;rcases h with rfl|⟨_,n,c,l',rfl,e1,e2,e3⟩
  ·omega
  ·by_cases q:n=o
   ·subst q
    have hm:n<M:=by rw[<-C.len];exact(ca.mp e1).1
    have:=C.cnt n hm;rw[e1]at this;cases this;rw[e]at e2;cases e2;rw[if_pos rfl]at h2
    split at h2<;>omega
   ·rw[if_neg (by omega)]at h2
    split at h2<;>omega
 ·have h1:=V.hi o hh e
  have h2:=hc o;rcases h with rfl|⟨⟨n,c,h',rfl,e1,e2,e3⟩,_⟩
  ·omega
  ·by_cases q:n=o
   ·subst q
    have hm:n<M:=by rw[<-C.len];exact(ca.mp e1).1
    have:=C.cnt n hm;rw[e1]at this;cases this;rw[e]at e2;cases e2;rw[if_pos rfl]at h2
    split at h2<;>omega
   ·rw[if_neg (c:=(n:Int)=o) (by omega)]at h2
    split at h2<;>omega
theorem Bq {a:List Int} {k:Nat} {q:Int} {row:List Int} (W:Wh able a) (hk:k<a.length) (hr:able[k]? =aa row) (hq:q∈row):Wh able (a.set k q):=λj x hx=>by
 by_cases z:k=j
 ·subst z;rw[fb hk]at hx;cases hx;exact⟨row,hr,hq⟩
 ·rw[Na z]at hx;exact W j x hx
theorem RC {option:Nat} {room:Bool} (hM:M<=3) (WF:Wf able ats M) (C:Gq ats counts lows highs M) (V:Sp able lows highs ats) (H:HA able ats counts lows highs M option F room) {k0:Nat} {t:Int} {row:List Int} (h1:ats[k0]? =aa t) (h2:t∈F) (h3:able[k0]? =aa row) (h4:(option:Int)∈row):
 ∃a,Sp able lows highs a/\a[k0]? =aa (option:Int):=by
 by_cases ht:t=(option:Int)
 ·subst ht;exact⟨ats,V,h1⟩
 refine qL λYs=> ?_;have iu:=(ca.mp h1).1;have fo:∀(k:Nat) x,ats[k]? =aa x->0<=x/\x<M:=λk x hx=>by
  obtain⟨r,hr,hxr⟩:=V.whole k x hx;exact WF.rng k r hr x hxr
 have hrt:=fo k0 t h1;have hro:=WF.rng k0 row h3 _ h4
 let E:Int->Int->Prop:=λp q=>∃(j:Nat) (r:List Int),ats[j]? =aa p/\able[j]? =aa r/\q∈r
 let rm:Int->Prop:=λx=>∃(n:Nat) (c h:Int),x=(n:Int)/\counts[n]? =aa c/\highs[n]? =aa h/\c<h
 let sl:Int->Prop:=λy=>∃(n:Nat) (c l:Int),y=(n:Int)/\counts[n]? =aa c/\lows[n]? =aa l/\l<c
 have w0:=Bq V.whole iu h3 h4;have c0:=λo=>Li (v:=(option:Int)) (o:=o) h1;have l0:(ats.set k0 (option:Int)).length=ats.length:=Mb;have g0:(ats.set k0 (option:Int))[k0]? =aa (option:Int):=fb iu;have S1:rm option->sl t->False:=λhr hs=>Ys ⟨_,Uj V C l0 w0 c0 (.inr ⟨hr,hs⟩),g0⟩;have mv:∀{p q:Int} {j:Nat} {r:List Int},p≠t->ats[j]? =aa p->able[j]? =aa r->q∈r->j≠k0/\((ats.set k0 (option:Int)).set j q).length=ats.length/\Wh able ((ats.set k0 (option:Int)).set j q)/\(∀o:Int,(((ats.set k0 (option:Int)).set j q).count o:Int)+(if p=o then 1 else 0)=(ats.set k0 (option:Int)).count o+(if q=o then 1 else 0))/\((ats.set k0 (option:Int)).set j q)[k0]? =aa (option:Int):=by
  intro p q j r hp hj hr hq;have hne:j≠k0:=λz=>by subst z;rw[h1]at hj;cases hj;exact hp rfl
  have hj':(ats.set k0 (option:Int))[j]? =aa p:=by rw[Na (de hne)];exact hj
  have hjl:=(ca.mp hj').1;exact⟨hne,by rw[Mb,Mb],Bq w0 hjl hr hq,λo=>Li hj',by rw[Na hne];exact g0⟩
 have hot:(option:Int)≠t:=λq=>ht q.symm;have S2:E option t->False:=λ⟨j,r,hj,hr,hq⟩=>by
  obtain⟨_,e2,e3,e4,e5⟩:=mv hot hj hr hq;refine Ys ⟨_,Uj (x:=t) (y:=t) V C e2 e3 (λo=> ?_) (.inl rfl),e5⟩;have:=c0 o;have:=e4 o;omega
 have S4:∀u:Int,E option u->rm u->sl t->False:=λu ⟨j,r,hj,hr,hq⟩ hu hs=>by
  obtain⟨_,e2,e3,e4,e5⟩:=mv hot hj hr hq;refine Ys ⟨_,Uj (x:=u) (y:=t) V C e2 e3 (λo=> ?_) (.inr ⟨hu,hs⟩),e5⟩;have:=c0 o;have:=e4 o;omega
 have S5:∀u:Int,u≠t->rm option->sl u->E u t->False:=λu hut hr hs ⟨j,r,hj,hr',hq⟩=>by
  obtain⟨_,e2,e3,e4,e5⟩:=mv hut hj hr' hq;refine Ys ⟨_,Uj (x:=option) (y:=u) V C e2 e3 (λo=> ?_) (.inr ⟨hr,hs⟩),e5⟩;have:=c0 o;have:=e4 o;omega
 have S3:∀u:Int,u≠t->u≠option->E option u->E u t->False:=λu hut huo ⟨j,r,hj,hr,hq⟩ ⟨j2,r2,hj2,hr2,hq2⟩=>by
  obtain⟨n1,e2,e3,e4,e5⟩:=mv hot hj hr hq;obtain⟨n2,_⟩:=mv hut hj2 hr2 hq2;have hne:j≠j2:=λz=>by subst z;rw[hj]at hj2;cases hj2;exact huo rfl
  have hj3:((ats.set k0 (option:Int)).set j u)[j2]? =aa u:=by rw[Na hne,Na (de n2)];exact hj2
  have hl3:=(ca.mp hj3).1;have c3:=λo=>Li (v:=t) (o:=o) hj3;refine Ys ⟨((ats.set k0 (option:Int)).set j u).set j2 t,Uj (x:=t) (y:=t) V C (by rw[Mb];exact e2) (Bq e3 hl3 hr2 hq2) (λo=> ?_) (.inl rfl),by rw[Na n2];exact e5⟩;have:=c0 o;have:=e4 o;have:=c3 o;omega
 let S:Int->Prop:=λo=>o=(option:Int)\/(o≠t/\o≠(option:Int)/\(0<=o/\o<M)/\(E option o\/(rm option/\sl o)))
 have hS:Uv able ats counts lows highs S:=by
  refine⟨λk o r hk ho hr p hp=> ?_,λo c h ho hc hh wh q x l hx hl hlx=> ?_⟩
  ·have hpr:=WF.rng k r hr p hp
   have hEop:E o p:=⟨k,r,hk,hr,hp⟩
   by_cases hpo:p=(option:Int)
   ·exact .inl hpo
   by_cases hpt:p=t
   ·subst hpt
    rcases ho with rfl|⟨h1',h2',_,h3'|⟨h3',h4'⟩⟩
    ·exact(S2 hEop).elim
    ·exact(S3 o h1' h2' h3' hEop).elim
    ·exact(S5 o h1' h3' h4' hEop).elim
   ·rcases ho with rfl|⟨h1',h2',h5',h3'⟩
    ·exact .inr ⟨hpt,hpo,hpr,.inl hEop⟩
    ·have:p=o:=by omega
     subst this;exact .inr ⟨h1',h2',h5',h3'⟩
  ·have hqM:q<M:=by rw[<-C.len];exact(ca.mp hx).1
   have hro':rm (o:Int):=⟨o,c,h,rfl,hc,hh,wh⟩;have hsq:sl (q:Int):=⟨q,x,l,rfl,hx,hl,hlx⟩
   by_cases hqo:(q:Int)=(option:Int)
   ·exact .inl hqo
   by_cases hqt:(q:Int)=t
   ·rw[hqt]at hsq
    rcases ho with h|⟨h1',h2',_,h3'|⟨h3',h4'⟩⟩
    ·rw[h]at hro';exact(S1 hro' hsq).elim
    ·exact(S4 o h3' hro' hsq).elim
    ·exact(S1 h3' hsq).elim
   ·rcases ho with h|⟨h1',h2',h5',h3'⟩
    ·rw[h]at hro';exact .inr ⟨hqt,hqo,by omega,.inr ⟨hro',hsq⟩⟩
    ·have:(q:Int)=o:=by omega
     rw[this];exact .inr ⟨h1',h2',h5',h3'⟩
 rcases H.least S hS (.inl rfl) t h2 with h|⟨h,_⟩
 ·exact ht h
 ·exact h rfl
end
end Mine
namespace Mine
mutual
def bv:V->V->Bool
 | .none,.none=>true
 | .bool a,.bool b=>a==b
 | .int a,.int b=>a==b
 | .str a,.str b=>decide (a=b)
 | .tup xs,.tup ys=>rH xs ys
 | .ref a,.ref b=>a==b
 |_,_=>false
def rH:List V->List V->Bool
 | [],[]=>true
 |x::xs,y::ys=>bv x y&&rH xs ys
 |_,_=>false
end
mutual
theorem qH:∀{a b:V},bv a b=true->a=b
 |a,b,h=>by
  cases a<;>cases b<;>simp only[bv]at h<;>try (exact absurd h (by decide))
  ·rfl
  ·rw[beq_iff_eq.mp h]
  ·rw[beq_iff_eq.mp h]
  ·rw[of_decide_eq_true h]
  ·rw[bw h]
  ·rw[beq_iff_eq.mp h]
theorem bw:∀{a b:List V},rH a b=true->a=b
 | [],[],_=>rfl
 |x::xs,y::ys,h=>by
  simp only[rH,La]at h;rw[qH h.1,bw h.2]
 | [],_::_,h=>by simp[rH]at h
 |_::_,[],h=>by simp[rH]at h
end
def Ve (m:Nat):V:=match m with
 |1=>.tup [.tup [.int 0,.int 0]]
 |2=>.tup [.tup [.int 1,.int 1]]
 |3=>.tup [.tup [.int 0,.int 1]]
 |4=>.tup [.tup [.int 2,.int 2]]
 |5=>.tup [.tup [.int 0,.int 0],.tup [.int 2,.int 2]]
 |6=>.tup [.tup [.int 1,.int 2]]
 |7=>.tup [.tup [.int 0,.int 2]]
 |_=>.tup []
def xf (m:Nat) (v:Int):Bool:=decide (0<=v)&&m.testBit v.toNat
def vals (m:Nat):List Int:=([0,1,2]:List Int).filter λv=>xf m v
def tc (sign:Nat) (k:Int) (m:Nat):Nat:=(if xf m 0&&keeps3 sign k 0 then 1 else 0)+(if xf m 1&&keeps3 sign k 1 then 2 else 0)+(if xf m 2&&keeps3 sign k 2 then 4 else 0)
where keeps3 (sign:Nat) (k v:Int):Bool:=match sign with
 |0=>decide (v<=k)
 |1=>decide (k<=v)
 |2=>decide (v≠k)
 |_=>decide (v=k)
def ZE (sign:Nat):Rb:=match sign with
 |0=>"<="
 |1=>">="
 |2=>"!="
 |_=>"="
def Vh (x:Int) (sign:Nat) (k:Int):V:=.tup [.int x,.str (ZE sign),.int k]
def SC (r:Option (V×St)) (v:V):Bool:=match r with
 |some (w,_)=>bv w v
 |none=>false
theorem Qr {r:Option (V×St)} {v:V} (h:SC r v=true):∃E,r=aa (v,E):=by
 unfold SC at h
 split at h
 ·rename_i w E;exact⟨E,by rw[qH h]⟩
 ·cases h
def PG (r:Option (V×St)) (p:List V->Bool):Bool:=match r with
 |some (.ref l,E)=>match E[l]? with
  |some (.list xs)=>Lw xs&&p xs
  |_=>false
 |_=>false
theorem KB {r:Option (V×St)} {p:List V->Bool} (h:PG r p=true):∃l E xs,r=aa (.ref l,E)/\E[l]? =aa (.list xs)/\Lw xs=true/\p xs=true:=by
 unfold PG at h
 split at h<;>try (cases h;done)
 rename_i l E
 split at h<;>try (cases h;done)
 rename_i xs q;simp only[La]at h;exact⟨l,E,xs,rfl,q,h.1,h.2⟩
def nD (p:Int->Bool):Bool:=p 0&&p 1&&p 2
theorem ml {p:Int->Bool} (h:nD p=true) {v:Int} (hv:0<=v/\v<3):p v=true:=by
 unfold nD at h;simp only[La]at h;have:v=0\/v=1\/v=2:=by omega
 rcases this with rfl|rfl|rfl
 ·exact h.1.1
 ·exact h.1.2
 ·exact h.2
def Rn (p:Nat->Bool):Bool:=p 0&&p 1&&p 2&&p 3&&p 4&&p 5&&p 6&&p 7
theorem gh {p:Nat->Bool} (h:Rn p=true) {m:Nat} (hm:m<8):p m=true:=by
 unfold Rn at h;simp only[La]at h;obtain⟨⟨⟨⟨⟨⟨⟨h0,h1⟩,h2⟩,h3⟩,h4⟩,h5⟩,h6⟩,h7⟩:=h;have:m=0\/m=1\/m=2\/m=3\/m=4\/m=5\/m=6\/m=7:=by omega
 rcases this with rfl|rfl|rfl|rfl|rfl|rfl|rfl|rfl<;>assumption
def YF (p:Nat->Bool):Bool:=p 0&&p 1&&p 2&&p 3
theorem LA {p:Nat->Bool} (h:YF p=true) {m:Nat} (hm:m<4):p m=true:=by
 unfold YF at h;simp only[La]at h;obtain⟨⟨⟨h0,h1⟩,h2⟩,h3⟩:=h;have:m=0\/m=1\/m=2\/m=3:=by omega
 rcases this with rfl|rfl|rfl|rfl<;>assumption
theorem oF:(Rn λm=>YF λs=>nD λx=>nD λk=>SC (Oa Lu yb 3 99 [Vh x s k,Ve m] []) (Ve (tc s k m)))=true:=by decide+kernel
theorem jK:(Rn λm=>nD λv=>SC (Oa Lu yb 2 54 [Ve m,.int v] []) (.bool (xf m v)))=true:=by decide+kernel
theorem fJ:(Rn λm=>SC (Oa Lu yb 1 40 [Ve m] []) (.int (vals m).length))=true:=by decide+kernel
theorem pF:(Rn λm=>PG (Oa Lu yb 1 61 [Ve m] []) (λxs=>rH xs (iL (vals m))))=true:=by decide+kernel
theorem vA:(Rn λm=>decide (m=0)||nD λx=>PG (Oa Lu yb 2 309 [.int x,Ve m] []) (λxs=>kr xs.length 8))=true:=by decide+kernel
theorem nF:(Rn λm=>SC (Oa Lu yb 1 451 [.ref 0] [.list (iL (vals m))]) (Ve m))=true:=by decide+kernel
theorem jL:(Rn λm=>nr (Ve m))=true:=by decide+kernel
theorem Ml {m:Nat} (hm:m<8):nr (Ve m)=true:=gh jL hm
theorem GG {x:Int} {s:Nat} {k:Int}:nr (Vh x s k)=true:=by simp[Vh,nr,Lw]
theorem Sj (s:Nat) (k:Int) (m:Nat):tc s k m<8:=by unfold tc;split<;>split<;>split<;>omega
section
variable {scr:Nat->Option (List Int)} {n m:Nat} {σ:St}
theorem Pv {s:Nat} {x k:Int} (hm:m<8) (hs:s<4) (hx:0<=x/\x<3) (hk:0<=k/\k<3) (hn:3<=n):∃E,Oa (Ga scr) yb n 99 [Vh x s k,Ve m] σ=aa (Ve (tc s k m),σ++E):=by
 obtain⟨E,h⟩:=Qr (ml (ml (LA (gh oF hm) hs) hx) hk);exact gt h hn (by simp[Lw,GG,Ml hm]) (Ml (Sj s k m)) σ
theorem sG {v:Int} (hm:m<8) (hv:0<=v/\v<3) (hn:2<=n):∃E,Oa (Ga scr) yb n 54 [Ve m,.int v] σ=aa (.bool (xf m v),σ++E):=by
 obtain⟨E,h⟩:=Qr (ml (gh jK hm) hv);exact gt h hn (by simp[Lw,nr,Ml hm]) (by simp[nr]) σ
theorem aF (hm:m<8) (hn:1<=n):∃E,Oa (Ga scr) yb n 40 [Ve m] σ=aa (.int (vals m).length,σ++E):=by
 obtain⟨E,h⟩:=Qr (gh fJ hm);exact gt h hn (by simp[Lw,Ml hm]) (by simp[nr]) σ
theorem aD (hm:m<8) (hn:1<=n):∃l E,Oa (Ga scr) yb n 61 [Ve m] σ=aa (.ref l,σ++E)/\(σ++E)[l]? =aa (.list (iL (vals m))):=by
 obtain⟨l,E,xs,h,e,hx,hp⟩:=KB (gh pF hm);obtain⟨E',h1,h2⟩:=wv (scr:=scr) h hn (by simp[Lw,Ml hm]) e hx σ;rw[bw hp]at h2;exact⟨_,E',h1,h2⟩
theorem gr {x:Int} (hm:m<8) (h0:m≠0) (hx:0<=x/\x<3) (hn:2<=n):∃l E xs,Oa (Ga scr) yb n 309 [.int x,Ve m] σ=aa (.ref l,σ++E)/\(σ++E)[l]? =aa (.list xs)/\xs.length<8/\Lw xs=true:=by
 have:=gh vA hm;rw[decide_eq_false h0,Zw]at this;obtain⟨l,E,xs,h,e,hx',hp⟩:=KB (ml this hx);obtain⟨E',h1,h2⟩:=wv (scr:=scr) h hn (by simp[Lw,nr,Ml hm]) e hx' σ;exact⟨_,E',xs,h1,h2,by simpa [yh]using hp,hx'⟩
theorem tC {a:Nat} (hm:m<8) (ha:σ[a]? =aa (.list (iL (vals m)))) (hn:1<=n):∃Ca,Oa (Ga scr) yb n 451 [.ref a] σ=aa (Ve m,Ca)/\ib [] σ Ca:=by
 obtain⟨E,h⟩:=Qr (gh nF hm);have hnv:Lw (iL (vals m))=true:=by
  generalize vals m=l
  induction l with
  |nil=>rfl
  |cons x l ih=>unfold iL at ih|-;rw[sa,Lw,ih];rfl
 have hE:∃E',E=.list (iL (vals m))::E':=by
  have key:(Rn λm=>match Oa Lu yb 1 451 [.ref 0] [.list (iL (vals m))]with|some (_,.list xs::_)=>rH xs (iL (vals m))|_=>false)=true:=by decide+kernel
  have:=gh key hm;rw[h]at this;cases E with
  |nil=>cases this
  |cons o E=>
   cases o<;>simp only at this<;>try (cases this;done)
   rw[bw this];exact⟨E,rfl⟩
 obtain⟨E',rfl⟩:=hE;have Dn:=Ic ha;have:=dw (t2:=Ga scr) Xw h hn [a] (by simp) (τ:=σ) ⟨by rw[Uk,zt hnv];exact ha,trivial⟩ (by simp);rw[VE (Ml hm)]at this;have e1:[V.ref 0].map (rn (wq [a] σ.length))=[.ref a]:=by simp[Nd,wq]
 rw[e1]at this;simp only[cb,bb,Nat.zero_add,List.take_succ_cons,List.take_zero,sa,zb,Om,Uk,zt hnv]at this;refine⟨_,this,⟨by simp,λi o e _=> ?_⟩⟩;refine ub ?_
 by_cases q:a=i
 ·subst q;rw[ha]at e;cases e;exact Ob ha
 ·exact ua e q
theorem Ix {m':Nat} (hm:m<8) (Xj:m'<8):Zc .Eq (Ve m) (Ve m') σ=aa (decide (m=m')):=by
 have h1:m=0\/m=1\/m=2\/m=3\/m=4\/m=5\/m=6\/m=7:=by omega
 have h2:m'=0\/m'=1\/m'=2\/m'=3\/m'=4\/m'=5\/m'=6\/m'=7:=by omega
 rcases h1 with rfl|rfl|rfl|rfl|rfl|rfl|rfl|rfl<;>rcases h2 with rfl|rfl|rfl|rfl|rfl|rfl|rfl|rfl<;>rfl
end
end Mine
namespace Mine
structure Dr where
 i:Nat
 d:Nat
 dom:Nat
 fir:Nat
 tra:Nat
 mar:Nat
 nes:Nat
def Iy (A:Dr) (failed:Bool) (clash:V):List (Rb×V):=[("domains",.ref A.dom),("firsts",.ref A.fir),("trail",.ref A.tra),("marks",.ref A.mar),("news",.ref A.nes),("speaker",.int (-1)),("is_failed",.bool failed),("clash",clash)]
structure Tg (A:Dr) (σ:St) (ms:List Nat) (failed:Bool) (tl:Nat):Prop where
 hin:σ[A.i]? =aa (.inst 256 A.d)
 hdi:∃clash,σ[A.d]? =aa (.sdict (Iy A failed clash))
 hdo:σ[A.dom]? =aa (.list (ms.map Ve))
 hfi:∃xs,σ[A.fir]? =aa (.list xs)/\xs.length<=tl
 htr:∃xs,σ[A.tra]? =aa (.list xs)/\xs.length<=tl
 hma:∃xs,σ[A.mar]? =aa (.list xs)/\xs.length<=tl
 hne:∃es,σ[A.nes]? =aa (.idict es)/\es.length<=tl
 ap1:A.dom≠A.fir/\A.dom≠A.tra/\A.dom≠A.mar
 ap2:A.fir≠A.tra/\A.fir≠A.mar/\A.tra≠A.mar
def Dr.all (A:Dr):List Nat:=[A.i,A.d,A.dom,A.fir,A.tra,A.mar,A.nes]
section
variable {A:Dr} {σ Ca:St} {ms:List Nat} {failed:Bool} {tl:Nat} {scr:Nat->Option (List Int)} {n m x:Nat}
theorem Tg.keep (P:Tg A σ ms failed tl) {W:List Nat} (k:ib W σ Ca) (h:∀a∈A.all,a∉W):Tg A Ca ms failed tl:=by
 have g:∀a o,a∈A.all->σ[a]? =aa o->Ca[a]? =aa o:=λa o m e=>k.old a o e (h a m);obtain⟨c,hdi⟩:=P.hdi;obtain⟨x1,f1,f2⟩:=P.hfi;obtain⟨x2,t1,t2⟩:=P.htr;obtain⟨x3,m1,m2⟩:=P.hma;obtain⟨x4,n1,n2⟩:=P.hne;exact⟨g _ _ (by simp[Dr.all]) P.hin,⟨c,g _ _ (by simp[Dr.all]) hdi⟩,g _ _ (by simp[Dr.all]) P.hdo,⟨x1,g _ _ (by simp[Dr.all]) f1,f2⟩,⟨x2,g _ _ (by simp[Dr.all]) t1,t2⟩,⟨x3,g _ _ (by simp[Dr.all]) m1,m2⟩,⟨x4,g _ _ (by simp[Dr.all]) n1,n2⟩,P.ap1,P.ap2⟩
theorem Tg.app (P:Tg A σ ms failed tl) (os:List O):Tg A (σ++os) ms failed tl:=P.keep (ib.app (W:=[]) os) (λ_ _ h=>by cases h)
theorem Tg.lt (P:Tg A σ ms failed tl):∀a∈A.all,a<σ.length:=by
 obtain⟨c,hdi⟩:=P.hdi;obtain⟨x1,f1,f2⟩:=P.hfi;obtain⟨x2,t1,t2⟩:=P.htr;obtain⟨x3,m1,m2⟩:=P.hma;obtain⟨x4,n1,n2⟩:=P.hne;intro a h;simp only[Dr.all,Fa,Za,or_false]at h;rcases h with rfl|rfl|rfl|rfl|rfl|rfl|rfl
 ·exact Ic P.hin
 ·exact Ic hdi
 ·exact Ic P.hdo
 ·exact Ic f1
 ·exact Ic t1
 ·exact Ic m1
 ·exact Ic n1
theorem Tg.more {tl':Nat} (P:Tg A σ ms failed tl) (h:tl<=tl'):Tg A σ ms failed tl':=by
 obtain⟨x1,f1,f2⟩:=P.hfi;obtain⟨x2,t1,t2⟩:=P.htr;obtain⟨x3,m1,m2⟩:=P.hma;obtain⟨x4,n1,n2⟩:=P.hne;exact⟨P.hin,P.hdi,P.hdo,⟨x1,f1,by omega⟩,⟨x2,t1,by omega⟩,⟨x3,m1,by omega⟩,⟨x4,n1,by omega⟩,P.ap1,P.ap2⟩
theorem Tg.attr (P:Tg A σ ms failed tl):yc (Ga scr) (.ref A.i) "domains" σ=aa (.ref A.dom)/\yc (Ga scr) (.ref A.i) "firsts" σ=aa (.ref A.fir)/\yc (Ga scr) (.ref A.i) "trail" σ=aa (.ref A.tra)/\yc (Ga scr) (.ref A.i) "marks" σ=aa (.ref A.mar)/\
 yc (Ga scr) (.ref A.i) "news" σ=aa (.ref A.nes)/\yc (Ga scr) (.ref A.i) "speaker" σ=aa (.int (-1))/\yc (Ga scr) (.ref A.i) "is_failed" σ=aa (.bool failed):=by
 obtain⟨c,hdi⟩:=P.hdi;exact⟨td P.hin hdi (by rfl) (by rfl) (by simp),td P.hin hdi (by rfl) (by rfl) (by simp),td P.hin hdi (by rfl) (by rfl) (by simp),td P.hin hdi (by rfl) (by rfl) (by simp),td P.hin hdi (by rfl) (by rfl) (by simp),td P.hin hdi (by rfl) (by rfl) (by simp),td P.hin hdi (by rfl) (by rfl) (by simp)⟩
theorem Tg.meth (P:Tg A σ ms failed tl):kg (Ga scr) (.ref A.i) "new_var" σ=aa (.fn 127 (.ref A.i))/\kg (Ga scr) (.ref A.i) "size" σ=aa (.fn 134 (.ref A.i))/\kg (Ga scr) (.ref A.i) "dom" σ=aa (.fn 141 (.ref A.i))/\kg (Ga scr) (.ref A.i) "has" σ=aa (.fn 169 (.ref A.i))/\kg (Ga scr) (.ref A.i) "width" σ=aa (.fn 190 (.ref A.i))/\
 kg (Ga scr) (.ref A.i) "holds" σ=aa (.fn 197 (.ref A.i))/\kg (Ga scr) (.ref A.i) "enter" σ=aa (.fn 204 (.ref A.i))/\kg (Ga scr) (.ref A.i) "strike" σ=aa (.fn 211 (.ref A.i))/\kg (Ga scr) (.ref A.i) "decide" σ=aa (.fn 218 (.ref A.i))/\kg (Ga scr) (.ref A.i) "fail" σ=aa (.fn 225 (.ref A.i))/\kg (Ga scr) (.ref A.i) "push" σ=aa (.fn 232 (.ref A.i)):=by
 obtain⟨c,hdi⟩:=P.hdi;exact⟨De P.hin hdi (by rfl) (by rfl),De P.hin hdi (by rfl) (by rfl),De P.hin hdi (by rfl) (by rfl),De P.hin hdi (by rfl) (by rfl),De P.hin hdi (by rfl) (by rfl),De P.hin hdi (by rfl) (by rfl),De P.hin hdi (by rfl) (by rfl),De P.hin hdi (by rfl) (by rfl),De P.hin hdi (by rfl) (by rfl),De P.hin hdi (by rfl) (by rfl),De P.hin hdi (by rfl) (by rfl)⟩
theorem Uc {c:Nat->List V->St->Option (V×St)} {a:Nat} {args:List V} (h:(Ga scr).init a=ba):rh (Ga scr) c (.con (.ref a)) args σ=c a args σ:=by unfold rh;simp only[h]
theorem Js (P:Tg A σ ms failed tl) (hm:ms[x]? =aa m) (hn:1<=n):Oa (Ga scr) yb n 141 [.ref A.i,.int x] σ=aa (Ve m,σ):=by
 obtain⟨n,rfl⟩:∃m,n=m+1:=⟨n - 1,by omega⟩;have e:Qe (.ref A.dom) (.int x) σ=aa (Ve m):=Tf P.hdo (by rw[za,hm];rfl);rw[Dc (fn:=cI) rfl,Bd [aa (.ref A.i),aa (.int x)] rfl rfl];simp only[cI,EV,LS,P.attr (scr:=scr),e]
theorem VG (P:Tg A σ ms failed tl) (hn:1<=n):Oa (Ga scr) yb n 134 [.ref A.i] σ=aa (.int ms.length,σ):=by
 obtain⟨n,rfl⟩:∃m,n=m+1:=⟨n - 1,by omega⟩;rw[Dc (fn:=bI) rfl,Bd [aa (.ref A.i)] rfl rfl];simp only[bI,EV,LS,P.attr (scr:=scr),Nb,wc P.hdo,ja]
theorem KI {v:Int} (P:Tg A σ ms failed tl) (hm:ms[x]? =aa m) (h8:m<8) (hv:0<=v/\v<3) (hn:3<=n):∃E,Oa (Ga scr) yb n 169 [.ref A.i,.int x,.int v] σ=aa (.bool (xf m v),σ++E):=by
 obtain⟨n,rfl⟩:∃m,n=m+1:=⟨n - 1,by omega⟩;have e:Qe (.ref A.dom) (.int x) σ=aa (Ve m):=Tf P.hdo (by rw[za,hm];rfl);obtain⟨E,h⟩:=sG (scr:=scr) (n:=n) (σ:=σ) h8 hv (by omega);refine⟨E,?_⟩;rw[Dc (fn:=dI) rfl,Bd [aa (.ref A.i),aa (.int x),aa (.int v)] rfl rfl];simp only[dI,EV,LS,P.attr (scr:=scr),e,Uc (scr:=scr) (a:=54) rfl,h]
theorem wF (P:Tg A σ ms failed tl) (hm:ms[x]? =aa m) (h8:m<8) (hn:2<=n):∃E,Oa (Ga scr) yb n 190 [.ref A.i,.int x] σ=aa (.int (vals m).length,σ++E):=by
 obtain⟨n,rfl⟩:∃m,n=m+1:=⟨n - 1,by omega⟩;have e:Qe (.ref A.dom) (.int x) σ=aa (Ve m):=Tf P.hdo (by rw[za,hm];rfl);obtain⟨E,h⟩:=aF (scr:=scr) (n:=n) (σ:=σ) h8 (by omega);refine⟨E,?_⟩;rw[Dc (fn:=eI) rfl,Bd [aa (.ref A.i),aa (.int x)] rfl rfl];simp only[eI,EV,LS,P.attr (scr:=scr),e,Uc (scr:=scr) (a:=40) rfl,h]
theorem sw {r:V} {xs:List V} (P:Tg A σ ms failed tl) (hr:Pj r σ=aa xs) (hl:xs.length<4096) (hn:1<=n):∃Ca,Oa (Ga scr) yb n 225 [.ref A.i,r] σ=aa (.bool false,Ca)/\Tg A Ca ms true tl/\ib [A.d] σ Ca:=by
 obtain⟨n,rfl⟩:∃m,n=m+1:=⟨n - 1,by omega⟩;obtain⟨c,hdi⟩:=P.hdi;have e1:ye (Ga scr) (.ref A.i) "is_failed" (.bool true) σ=aa (σ.set A.d (.sdict (Iy A true c))):=by
  rw[Zg P.hin hdi (by rfl) (by simp[Iy])];rfl
 have hne:∀{a:Nat} {o:O},σ[a]? =aa o->(∀es,o≠ .sdict es)->A.d≠a:=λh1 h2 q=>by subst q;rw[hdi]at h1;cases h1;exact h2 _ rfl
 have hin':=ua (p:=.sdict (Iy A true c)) P.hin (hne P.hin (by simp));have hdi':=Ob (p:=.sdict (Iy A true c)) hdi;have e2:ye (Ga scr) (.ref A.i) "clash" (.tup xs) (σ.set A.d (.sdict (Iy A true c)))=aa ((σ.set A.d (.sdict (Iy A true c))).set A.d (.sdict (Iy A true (.tup xs)))):=by
  rw[Zg hin' hdi' (by rfl) (by simp[Iy])];rfl
 have hr':Pj r (σ.set A.d (.sdict (Iy A true c)))=aa xs:=by
  unfold Pj at hr|-
  split at hr
  ·exact hr
  ·exact hr
  ·unfold listAt at hr|-
   split at hr<;>cases hr
   rename_i q;rw[ua q (hne q (by simp))]
  ·cases hr
 have e3:jh (.type "tuple") [r] (σ.set A.d (.sdict (Iy A true c)))=aa (.tup xs,σ.set A.d (.sdict (Iy A true c))):=by
  unfold jh;simp only[hr'];exact ac hl
 refine⟨(σ.set A.d (.sdict (Iy A true c))).set A.d (.sdict (Iy A true (.tup xs))),?_,?_,(ib.set _ (by simp)).trans (ib.set _ (by simp))⟩
 ·rw[Dc (fn:=jI) rfl,Bd [aa (.ref A.i),aa r] rfl rfl]
  simp only[jI,EV,LS,e1,vc,e3,e2]
 ·obtain⟨x1,f1,f2⟩:=P.hfi
  obtain⟨x2,t1,t2⟩:=P.htr;obtain⟨x3,m1,m2⟩:=P.hma;obtain⟨x4,n1,n2⟩:=P.hne;have g:∀{a:Nat} {o:O},σ[a]? =aa o->(∀es,o≠ .sdict es)->((σ.set A.d (.sdict (Iy A true c))).set A.d (.sdict (Iy A true (.tup xs))))[a]? =aa o:=λh1 h2=>ua (ua h1 (hne h1 h2)) (hne h1 h2);exact⟨g P.hin (by simp),⟨_,Ob hdi'⟩,g P.hdo (by simp),⟨x1,g f1 (by simp),f2⟩,⟨x2,g t1 (by simp),t2⟩,⟨x3,g m1 (by simp),m2⟩,⟨x4,g n1 (by simp),n2⟩,P.ap1,P.ap2⟩
theorem LG (P:Tg A σ ms failed tl) (lu:tl<1000) (hn:1<=n):∃Ca,Oa (Ga scr) yb n 232 [.ref A.i] σ=aa (.none,Ca)/\Tg A Ca ms failed (tl+1)/\ib [A.mar] σ Ca:=by
 obtain⟨n,rfl⟩:∃m,n=m+1:=⟨n - 1,by omega⟩;obtain⟨x1,f1,f2⟩:=P.hfi;obtain⟨x2,t1,t2⟩:=P.htr;obtain⟨x3,m1,m2⟩:=P.hma;obtain⟨x4,n1,n2⟩:=P.hne;obtain⟨c,hdi⟩:=P.hdi;refine⟨σ.set A.mar (.list (x3++[.int x2.length])),?_,⟨ua P.hin (Lc m1 P.hin (by simp)),⟨c,ua hdi (Lc m1 hdi (by simp))⟩,ua P.hdo (de P.ap1.2.2),⟨x1,ua f1 (de P.ap2.2.1),by omega⟩,⟨x2,ua t1 (de P.ap2.2.2),by omega⟩,⟨_,Ob m1,by simp;omega⟩,⟨x4,ua n1 (Lc m1 n1 (by simp)),by omega⟩,P.ap1,P.ap2⟩,ib.set _ (by simp)⟩;rw[Dc (fn:=kI) rfl,Bd [aa (.ref A.i)] rfl rfl];simp only[kI,EV,LS,P.attr (scr:=scr),Ld m1,Nb,wc t1,Wc,cg m1 (v:=.int x2.length) (by omega)]
theorem yy:∀{es:List (Int×V)} {k:Int} {v:V},(Nl es k v).length<=es.length+1
 | [],_,_=>by simp[Nl]
 |(a,w)::es,k,v=>by
  simp only[Nl]
  split
  ·simp
  ·have:=yy (es:=es) (k:=k) (v:=v);simp;omega
theorem Jx {s:Nat} {k:Int} {rs sp:V} (P:Tg A σ ms failed tl) (hm:ms[x]? =aa m) (h8:m<8) (hs:s<4) (hx:x<3) (hk:0<=k/\k<3) (h0:tc s k m≠0) (lu:tl<1000) (hn:4<=n):
 ∃Ca,Oa (Ga scr) yb n 204 [.ref A.i,Vh x s k,rs,sp] σ=aa (.bool true,Ca)/\Tg A Ca (ms.set x (tc s k m)) failed (tl+1)/\ib [A.dom,A.tra,A.nes] σ Ca:=by
 obtain⟨n,rfl⟩:∃m,n=m+1:=⟨n - 1,by omega⟩;have e1:Qe (.ref A.dom) (.int x) σ=aa (Ve m):=Tf P.hdo (by rw[za,hm];rfl);have e0:Qe (Vh x s k) (.int 0) σ=aa (.int x):=rfl;obtain⟨E,e2⟩:=Pv (scr:=scr) (n:=n) (σ:=σ) (x:=(x:Int)) (k:=k) h8 hs (by omega) hk (by omega);have P1:=P.app E;have hM:=Sj s k m;have e3:Zc .Eq (Ve (tc s k m)) (.tup []) (σ++E)=aa false:=by
  have:=Ix (σ:=σ++E) hM (show 0<8 by omega);rw[decide_eq_false h0]at this;exact this
 have e4:=Ix (σ:=σ++E) hM h8;rw[Dc (fn:=lG) rfl,Bd [aa (.ref A.i),aa (Vh x s k),aa rs,aa sp,ba,ba,ba] rfl rfl]
 by_cases q:tc s k m=m
 ·refine⟨σ++E,?_,?_,ib.app _⟩
  ·rw[decide_eq_true q]at e4
   simp only[lG,EV,LS,e0,P.attr (scr:=scr),e1,e2,Nat.reduceAdd,Nat.reduceLT,if_true,Uc (scr:=scr) (a:=99) rfl,ac,bb,Nat.reduceLT,e3,e4]
  ·rw[q]
   have:ms.set x m=ms:=by
    apply Hk
    intro i
    by_cases z:x=i
    ·subst z;rw[fb (ca.mp hm).1,hm]
    ·rw[Na z]
   rw[this];exact P1.more (by omega)
 ·rw[decide_eq_false q]at e4
  obtain⟨x1,f1,f2⟩:=P1.hfi;obtain⟨x2,t1,t2⟩:=P1.htr;obtain⟨x3,m1,m2⟩:=P1.hma;obtain⟨x4,n1,n2⟩:=P1.hne;obtain⟨c,hdi⟩:=P1.hdi;have a1:=cg t1 (v:=.tup [.int x,Ve m,Vh x s k,rs,sp]) (by omega);have hrt:=Ld (t:=Ga scr) (n:="append") t1
  generalize hw:V.tup [.int x,Ve m,Vh x s k,rs,sp]=w at*
  have P2:Tg A ((σ++E).set A.tra (.list (x2++[w]))) ms failed (tl+1):=
   ⟨ua P1.hin (Lc t1 P1.hin (by simp)),⟨c,ua hdi (Lc t1 hdi (by simp))⟩,ua P1.hdo (de P.ap1.2.1),⟨x1,ua f1 (de P.ap2.1),by omega⟩,⟨_,Ob t1,by simp;omega⟩,⟨x3,ua m1 P.ap2.2.2,by omega⟩,⟨x4,ua n1 (Lc t1 n1 (by simp)),by omega⟩,P.ap1,P.ap2⟩
  have K2:ib [A.dom,A.tra,A.nes] σ ((σ++E).set A.tra (.list (x2++[w]))):=(ib.app _).trans (ib.set _ (by simp));have n1a:((σ++E).set A.tra (.list (x2++[w])))[A.nes]? =aa (.idict x4):=ua n1 (Lc t1 n1 (by simp))
  generalize (σ++E).set A.tra (.list (x2++[w]))=Cb at*
  have gz:x<ms.length:=(ca.mp hm).1;have a2:Cd (.ref A.dom) (.int x) (Ve (tc s k m)) Cb=aa (Cb.set A.dom (.list ((ms.set x (tc s k m)).map Ve))):=by
   rw[Yi P2.hdo (by simpa using gz),<-lf]
  have P3:Tg A (Cb.set A.dom (.list ((ms.set x (tc s k m)).map Ve))) (ms.set x (tc s k m)) failed (tl+1):=by
   obtain⟨x1,f1,f2⟩:=P2.hfi;obtain⟨x2,t1,t2⟩:=P2.htr;obtain⟨x3,m1,m2⟩:=P2.hma;obtain⟨x4,n1,n2⟩:=P2.hne;obtain⟨c,hdi⟩:=P2.hdi;exact⟨ua P2.hin (Lc P2.hdo P2.hin (by simp)),⟨c,ua hdi (Lc P2.hdo hdi (by simp))⟩,Ob P2.hdo,⟨x1,ua f1 P.ap1.1,f2⟩,⟨x2,ua t1 P.ap1.2.1,t2⟩,⟨x3,ua m1 P.ap1.2.2,m2⟩,⟨x4,ua n1 (Lc P2.hdo n1 (by simp)),n2⟩,P.ap1,P.ap2⟩
  have K3:ib [A.dom,A.tra,A.nes] σ (Cb.set A.dom (.list ((ms.set x (tc s k m)).map Ve))):=K2.trans (ib.set _ (by simp));have n3:(Cb.set A.dom (.list ((ms.set x (tc s k m)).map Ve)))[A.nes]? =aa (.idict x4):=ua n1a (Lc P2.hdo n1a (by simp))
  generalize Cb.set A.dom (.list ((ms.set x (tc s k m)).map Ve))=ae at*
  have a3:Cd (.ref A.nes) (.int x) (.bool true) ae=aa (ae.set A.nes (.idict (Nl x4 x (.bool true)))):=by
   unfold Cd;simp only[n3];rw[Lj (by omega)];rfl
  refine⟨ae.set A.nes (.idict (Nl x4 x (.bool true))),?_,?_,K3.trans (ib.set _ (by simp))⟩
  ·simp only[lG,EV,LS,e0,P.attr (scr:=scr),e1,e2,Nat.reduceAdd,Nat.reduceLT,if_true,Uc (scr:=scr) (a:=99) rfl,ac,bb,cb,Nat.reduceLT,e3,e4,P1.attr (scr:=scr),hw,hrt,Wc,a1,P2.attr (scr:=scr),a2,P3.attr (scr:=scr),a3]
  ·obtain⟨x1,f1,f2⟩:=P3.hfi
   obtain⟨x2,t1,t2⟩:=P3.htr;obtain⟨x3,m1,m2⟩:=P3.hma;obtain⟨c,hdi⟩:=P3.hdi;have hpl:=yy (es:=x4) (k:=(x:Int)) (v:=.bool true);exact⟨ua P3.hin (Lc n3 P3.hin (by simp)),⟨c,ua hdi (Lc n3 hdi (by simp))⟩,ua P3.hdo (Lc n3 P3.hdo (by simp)),⟨x1,ua f1 (Lc n3 f1 (by simp)),f2⟩,⟨x2,ua t1 (Lc n3 t1 (by simp)),t2⟩,⟨x3,ua m1 (Lc n3 m1 (by simp)),m2⟩,⟨_,Ob n3,by omega⟩,P.ap1,P.ap2⟩
end
end Mine
namespace Mine
section
variable {A:Dr} {σ Ca:St} {ms:List Nat} {failed:Bool} {tl:Nat} {scr:Nat->Option (List Int)} {n m x:Nat}
theorem WC {v:Int} {r:Nat} {xs:List V} (P:Tg A σ ms failed tl) (hm:ms[x]? =aa m) (h8:m<8) (hx:x<3) (hv:0<=v/\v<3) (h0:tc 2 v m≠0) (hr:σ[r]? =aa (.list xs)) (hl:xs.length<4096) (lu:tl<1000) (hn:5<=n):
 ∃Ca,Oa (Ga scr) yb n 211 [.ref A.i,Vh x 2 v,.ref r] σ=aa (.bool true,Ca)/\Tg A Ca (ms.set x (tc 2 v m)) failed (tl+1)/\ib [A.dom,A.tra,A.nes] σ Ca:=by
 obtain⟨n,rfl⟩:∃m,n=m+1:=⟨n - 1,by omega⟩;obtain⟨Ca,e,P',K⟩:=Jx (scr:=scr) (n:=n) (s:=2) (k:=v) (rs:=.tup xs) (sp:=.int (-1)) P hm h8 (by omega) hx hv h0 lu (by omega);refine⟨Ca,?_,P',K⟩;have e3:jh (.type "tuple") [.ref r] σ=aa (.tup xs,σ):=by
  unfold jh;simp only[Pj,Pb hr];exact ac hl
 rw[Dc (fn:=gI) rfl,Bd [aa (.ref A.i),aa (Vh x 2 v),aa (.ref r)] rfl rfl];simp only[gI,EV,LS,P.attr (scr:=scr),P.meth (scr:=scr),vc,e3,Wc,e]
theorem qC {s:Nat} {k:Int} (P:Tg A σ ms failed tl) (hm:ms[x]? =aa m) (h8:m<8) (hs:s<4) (hx:x<3) (hk:0<=k/\k<3) (h0:tc s k m≠0) (lu:tl<1000) (hn:5<=n):
 ∃Ca,Oa (Ga scr) yb n 218 [.ref A.i,Vh x s k] σ=aa (.bool true,Ca)/\Tg A Ca (ms.set x (tc s k m)) failed (tl+1)/\ib [A.dom,A.tra,A.nes] σ Ca:=by
 obtain⟨n,rfl⟩:∃m,n=m+1:=⟨n - 1,by omega⟩;obtain⟨Ca,e,P',K⟩:=Jx (scr:=scr) (n:=n) (s:=s) (k:=k) (rs:=.none) (sp:=.int (-1)) P hm h8 hs hx hk h0 lu (by omega);refine⟨Ca,?_,P',K⟩;rw[Dc (fn:=iI) rfl,Bd [aa (.ref A.i),aa (Vh x s k)] rfl rfl];simp only[iI,EV,LS,P.meth (scr:=scr),Wc,e]
theorem lE {s:Nat} {k:Int} (P:Tg A σ ms failed tl) (hm:ms[x]? =aa m) (h8:m<8) (hs:s<4) (hx:x<3) (hk:0<=k/\k<3) (hn:5<=n):
 ∃E,Oa (Ga scr) yb n 197 [.ref A.i,Vh x s k] σ=aa (.int (if tc s k m=m then 1 else if tc s k m=0 then -1 else 0),σ++E):=by
 obtain⟨n,rfl⟩:∃m,n=m+2:=⟨n - 2,by omega⟩;have e1:Qe (.ref A.dom) (.int x) σ=aa (Ve m):=Tf P.hdo (by rw[za,hm];rfl);have e0:Qe (Vh x s k) (.int 0) σ=aa (.int x):=rfl;obtain⟨E,e2⟩:=Pv (scr:=scr) (n:=n) (σ:=σ) (x:=(x:Int)) (k:=k) h8 hs (by omega) hk (by omega);have hM:=Sj s k m;have e3:Zc .Eq (Ve (tc s k m)) (.tup []) (σ++E)=aa (decide (tc s k m=0)):=Ix (σ:=σ++E) hM (show 0<8 by omega);have e4:=Ix (σ:=σ++E) hM h8;have h106:Oa (Ga scr) yb (n+1) 106 [Vh x s k,Ve m] σ=aa (.int (if tc s k m=m then 1 else if tc s k m=0 then -1 else 0),σ++E):=by
  rw[Dc (fn:=dE) rfl,Bd [aa (Vh x s k),aa (Ve m),ba] rfl rfl]
  by_cases q:tc s k m=m
  ·rw[decide_eq_true q]at e4
   rw[if_pos q];simp only[dE,EV,LS,Uc (scr:=scr) (a:=99) rfl,e2,Nat.reduceAdd,Nat.reduceLT,if_true,e4]
  ·rw[decide_eq_false q]at e4
   by_cases q2:tc s k m=0
   ·rw[decide_eq_true q2]at e3
    rw[if_neg q,if_pos q2];simp only[dE,EV,LS,Uc (scr:=scr) (a:=99) rfl,e2,Nat.reduceAdd,Nat.reduceLT,if_true,e4,ac,bb,Nat.reduceLT,e3]
   ·rw[decide_eq_false q2]at e3
    rw[if_neg q,if_neg q2];simp only[dE,EV,LS,Uc (scr:=scr) (a:=99) rfl,e2,Nat.reduceAdd,Nat.reduceLT,if_true,e4,ac,bb,Nat.reduceLT,e3]
 refine⟨E,?_⟩;rw[Dc (fn:=fI) rfl,Bd [aa (.ref A.i),aa (Vh x s k)] rfl rfl];simp only[fI,EV,LS,P.attr (scr:=scr),e0,e1,Uc (scr:=scr) (a:=106) rfl,h106]
theorem Tg.k0 (P:Tg A σ ms failed tl) (k:ib [] σ Ca):Tg A Ca ms failed tl:=P.keep k (λ_ _ h=>by cases h)
theorem ij.k0 {A:Mq} {able:List (List Int)} {lows highs ats counts:List Int} (P:ij A σ able lows highs ats counts) (k:ib [] σ Ca):ij A Ca able lows highs ats counts:=P.keep k (λ_ _ h=>by cases h)
end
structure pu where
 i:Nat
 d:Nat
 wa:Nat
 lo:Nat
 hi:Nat
def Ad (nv:Nat):V:=.tup (pd (Ua nv))
def mL (A:pu) (nv:Nat) (rows:V):List (Rb×V):=[("number",.int (-1)),("scope",Ad nv),("strength",.str "values"),("taken",Ad nv),("rows",rows),("wanted",.ref A.wa),("lows",.ref A.lo),("highs",.ref A.hi),("has_twins",.bool false)]
structure cn (A:pu) (σ:St) (nv:Nat) (ws ls hs:List Int) (rows:V):Prop where
 hin:σ[A.i]? =aa (.inst 435 A.d)
 hdi:σ[A.d]? =aa (.sdict (mL A nv rows))
 hwa:σ[A.wa]? =aa (.list (iL ws))
 hlo:σ[A.lo]? =aa (.list (iL ls))
 hhi:σ[A.hi]? =aa (.list (iL hs))
def pu.all (A:pu):List Nat:=[A.i,A.d,A.wa,A.lo,A.hi]
def wo (m:Nat) (ws:List Int):List Nat:=(Ua ws.length).filter λk=>match ws[k]? with
 |some w=>xf m w
 |none=>false
def Sh (m:Nat) (ws:List Int):List Int:=(wo m ws).map (λ(k:Nat)=>(k:Int))++(if(wo m ws).length<(vals m).length then[(ws.length:Int)]else[])
theorem cA {m:Nat} {ws:List Int}:(wo m ws).length<=ws.length:=by
 unfold wo;have:=Ub (λk=>match ws[k]? with|some w=>xf m w|none=>false) (Ua ws.length)
 simpa using this
section
variable {S:Dr} {A:pu} {P:Mq} {σ Ca:St} {ms:List Nat} {failed:Bool} {tl nv:Nat} {ws ls hs:List Int} {rows:V} {scr:Nat->Option (List Int)} {n m x M:Nat} {able:List (List Int)} {lows highs ats counts:List Int}
theorem cn.keep (C:cn A σ nv ws ls hs rows) {W:List Nat} (k:ib W σ Ca) (h:∀a∈A.all,a∉W):cn A Ca nv ws ls hs rows:=by
 have g:∀a o,a∈A.all->σ[a]? =aa o->Ca[a]? =aa o:=λa o m e=>k.old a o e (h a m);exact⟨g _ _ (by simp[pu.all]) C.hin,g _ _ (by simp[pu.all]) C.hdi,g _ _ (by simp[pu.all]) C.hwa,g _ _ (by simp[pu.all]) C.hlo,g _ _ (by simp[pu.all]) C.hhi⟩
theorem cn.k0 (C:cn A σ nv ws ls hs rows) (k:ib [] σ Ca):cn A Ca nv ws ls hs rows:=C.keep k (λ_ _ h=>by cases h)
theorem cn.lt (C:cn A σ nv ws ls hs rows):∀a∈A.all,a<σ.length:=by
 intro a h;simp only[pu.all,Fa,Za,or_false]at h;rcases h with rfl|rfl|rfl|rfl|rfl
 ·exact Ic C.hin
 ·exact Ic C.hdi
 ·exact Ic C.hwa
 ·exact Ic C.hlo
 ·exact Ic C.hhi
theorem cn.attr (C:cn A σ nv ws ls hs rows):yc (Ga scr) (.ref A.i) "taken" σ=aa (Ad nv)/\yc (Ga scr) (.ref A.i) "wanted" σ=aa (.ref A.wa)/\yc (Ga scr) (.ref A.i) "lows" σ=aa (.ref A.lo)/\yc (Ga scr) (.ref A.i) "highs" σ=aa (.ref A.hi)/\yc (Ga scr) (.ref A.i) "has_twins" σ=aa (.bool false):=
 ⟨td C.hin C.hdi (by rfl) (by rfl) (by simp[Ad]),td C.hin C.hdi (by rfl) (by rfl) (by simp),td C.hin C.hdi (by rfl) (by rfl) (by simp),td C.hin C.hdi (by rfl) (by rfl) (by simp),td C.hin C.hdi (by rfl) (by rfl) (by simp)⟩
theorem cn.meth (C:cn A σ nv ws ls hs rows):kg (Ga scr) (.ref A.i) "options_of" σ=aa (.fn 389 (.ref A.i))/\kg (Ga scr) (.ref A.i) "propagate" σ=aa (.fn 396 (.ref A.i))/\kg (Ga scr) (.ref A.i) "strike_once" σ=aa (.fn 401 (.ref A.i))/\kg (Ga scr) (.ref A.i) "confined" σ=aa (.fn 408 (.ref A.i))/\
 kg (Ga scr) (.ref A.i) "lacking" σ=aa (.fn 413 (.ref A.i))/\kg (Ga scr) (.ref A.i) "strike_option" σ=aa (.fn 418 (.ref A.i))/\kg (Ga scr) (.ref A.i) "check" σ=aa (.fn 425 (.ref A.i))/\kg (Ga scr) (.ref A.i) "told" σ=aa (.fn 432 (.ref A.i)):=
 ⟨De C.hin C.hdi (by rfl) (by rfl),De C.hin C.hdi (by rfl) (by rfl),De C.hin C.hdi (by rfl) (by rfl),De C.hin C.hdi (by rfl) (by rfl),De C.hin C.hdi (by rfl) (by rfl),De C.hin C.hdi (by rfl) (by rfl),De C.hin C.hdi (by rfl) (by rfl),De C.hin C.hdi (by rfl) (by rfl)⟩
theorem Wk {k:Nat} (h:k<nv):Qe (Ad nv) (.int k) σ=aa (.int k):=Vw (by unfold pd;rw[za,Nh h];rfl)
theorem AB {xs:List V}:jh (.builtin "len") [.tup xs] σ=aa (.int xs.length,σ):=rfl
theorem Ni:jh (.builtin "len") [Ad nv] σ=aa (.int nv,σ):=by unfold Ad;rw[AB];simp[pd]
theorem bA (SS:Tg S σ ms failed tl) (CS:cn A σ nv ws ls hs rows) (hm:ms[x]? =aa m) (h8:m<8) (hw:∀w∈ws,0<=w/\w<3) (Ko:ws.length<=3) (hn:4<=n):
 ∃Ca l,Oa (Ga scr) yb n 389 [.ref A.i,.ref S.i,.int x] σ=aa (.ref l,Ca)/\ib [] σ Ca/\Ca[l]? =aa (.list (iL (Sh m ws)))/\σ.length<=l:=by
 obtain⟨n,rfl⟩:∃m,n=m+1:=⟨n - 1,by omega⟩;have Ir:(iL ws).length=ws.length:=by simp
 obtain⟨out,Ja,e1,Yl,K1⟩:=pf (xs:=gd 0 (ws.length:Nat)) (it:=.st (gd 0 (ws.length:Nat))) (σ:=σ)
  (F:=Ec (Ga scr) (Oa (Ga scr) yb n) 2 (.var 5) [(.base (.meth (.var 1) "has" [(.var 2),(.sub (.attr (.var 0) "wanted") (.var 5))]))] [] (.var 5) [aa (.ref A.i),aa (.ref S.i),aa (.int x),ba])
  (λk Cc τ=>Cc=pd ((Ua k).filter λk=>match ws[k]? with|some w=>xf m w|none=>false)/\ib [] σ τ)
  (λ_ _ _ _ _=>rfl)
  (λk v Cc τ hv ⟨lh,K⟩=>by
   rw[gf]at hv
   split at hv<;>cases hv
   rename_i hk;obtain⟨w,hwk⟩:∃w,ws[k]? =aa w:=⟨ws[k],da hk⟩;have Rp:=SS.k0 K;have CS':=CS.k0 K;obtain⟨E,eh⟩:=KI (scr:=scr) (n:=n) Rp hm h8 (hw w (ma hwk)) (by omega);refine⟨if xf m w then[.int k]else[],τ++E,?_,?_,K.trans (ib.app _)⟩
   ·simp only[Ec,yd,Aa,wb,Db,EV,LS,Rp.meth (scr:=scr),CS'.attr (scr:=scr),Rc CS'.hwa hwk,Wc,eh]
    cases xf m w
    ·rfl
    ·simp[Og,Oe]
   ·rw[lh,vm,dk]
    simp only[Vd,zj,hwk,pd,bc];cases xf m w<;>rfl)
  (by rw[jd];omega) ⟨rfl,.refl⟩
 rw[jd]at Yl;have Vx:out=iL ((wo m ws).map λ(k:Nat)=>(k:Int)):=by rw[Yl,Ti];rfl
 have Jr:=cA (m:=m) (ws:=ws);have Oq:=(SS.k0 K1).app [.list out];have Op:=(CS.k0 K1).k0 (ib.app [.list out]);have ak:=Ab (xs:=out) (σ:=Ja) (by rw[Vx,ja,ja];omega);have hg:=vb (σ:=Ja) (o:=.list out);obtain⟨E,ew⟩:=wF (scr:=scr) (n:=n) Oq hm h8 (by omega);have hlo:(out.length:Int)=((wo m ws).length:Nat):=by rw[Vx,ja,ja]
 have oB:=ub (os:=E) hg;have lz:=Op.k0 (ib.app E);have vw:=Ie (σ:=σ) (b:=(ws.length:Nat)) (by omega);have xw:=xe (σ:=σ) (b:=(ws.length:Nat)) (by omega)
 generalize hσ3:Ja++[O.list out]++E=ae at*
 have K3:ib [] σ ae:=hσ3▸(K1.trans (ib.app _)).trans (ib.app _)
 by_cases q:(wo m ws).length<(vals m).length
 ·have hnl3:=Ab (xs:=[.int ws.length]) (σ:=ae) (by simp)
  have Nz:=ub (os:=[O.list [V.int ws.length]]) oB;have hg5:=vb (σ:=ae) (o:=.list [.int ws.length]);have hnl4:=Ab (xs:=out++[.int ws.length]) (σ:=ae++[.list [.int ws.length]]) (by rw[Vx];simp;omega);refine⟨_,(ae++[O.list [V.int ws.length]]).length,?_,(K3.trans (ib.app [O.list [V.int ws.length]])).trans (ib.app [O.list (out++[V.int ws.length])]),?_⟩
  rotate_left
  ·have:=vb (σ:=ae++[.list [.int ws.length]]) (o:=.list (out++[.int ws.length]))
   rw[this];unfold Sh;rw[if_pos q,Vx];exact⟨by simp,Eb K3.len (by simp)⟩
  ·rw[Dc (fn:=eE) rfl,Bd [aa (.ref A.i),aa (.ref S.i),aa (.int x),ba] rfl rfl]
   simp only[eE,EV,LS,CS.attr (scr:=scr),Nb,vc,wc CS.hwa,Ir,xw,vw,e1,ak,Nat.reduceAdd,Nat.reduceLT,if_true,Oq.meth (scr:=scr),Wc,ew,wc oB,rl,hlo,jr,q,decide_true,lz.attr (scr:=scr),wc lz.hwa,hnl3,Cf,Pb Nz,Pb hg5,hnl4]
 ·refine⟨ae,Ja.length,?_,K3,?_⟩
  ·rw[Dc (fn:=eE) rfl,Bd [aa (.ref A.i),aa (.ref S.i),aa (.int x),ba] rfl rfl]
   simp only[eE,EV,LS,CS.attr (scr:=scr),Nb,vc,wc CS.hwa,Ir,xw,vw,e1,ak,Nat.reduceAdd,Nat.reduceLT,if_true,Oq.meth (scr:=scr),Wc,ew,wc oB,rl,hlo,jr,q,decide_false]
  ·rw[oB]
   unfold Sh;rw[if_neg q,um,Vx];exact⟨rfl,K1.len⟩
end
end Mine
namespace Mine
section
variable {S:Dr} {A:pu} {P:Mq} {σ Ca:St} {ms:List Nat} {failed:Bool} {tl nv:Nat} {ws ls hs:List Int} {rows:V} {scr:Nat->Option (List Int)} {n m x M:Nat} {able:List (List Int)} {lows highs ats counts:List Int}
theorem ib.new {W:List Nat} {σ Ca:St} {f:Nat} (k:ib (f::W) σ Ca) (h:σ.length<=f):ib W σ Ca:=k.mono λi hi=>by
 rcases Fa.mp hi with q|q
 ·subst q;exact .inr h
 ·exact .inl q
theorem OD {cf:Nat} {f g:Nat} {xs:List V} {o:Int} {v3 v5:Option V} (SS:Tg S σ ms failed tl) (CS:cn A σ nv ws ls hs rows) (hms:ms.length=nv) (hm:∀m∈ms,0<m/\m<8) (hnv:nv<=3) (Sx:ats.length=nv) (hf:σ[f]? =aa (.list xs)) (hg:σ[g]? =aa (.list (pd (Sb ats o)))) (hfg:f≠g) (hfS:f∉S.all) (hfA:f∉A.all) (gz:xs.length<=200) (hn:2<=cf):
 ∀o6,∃Iv Ca wj,Ye 5000 (.dyn g) 0 (Ce (Ga scr) (Oa (Ga scr) yb cf) (.var 6) [.expr (.meth (.var 4) "extend" [(.call (.con (.ref 309)) [(.sub (.attr (.var 0) "taken") (.var 6)),(.meth (.var 1) "dom" [(.sub (.attr (.var 0) "taken") (.var 6))])])])]) [aa (.ref A.i),aa (.ref S.i),aa (.ref P.i),v3,aa (.ref f),v5,o6] σ
  =aa (.next,[aa (.ref A.i),aa (.ref S.i),aa (.ref P.i),v3,aa (.ref f),v5,Iv],Ca)/\ib [f] σ Ca/\Ca[f]? =aa (.list wj)/\wj.length<=xs.length+24:=by
 intro o6;obtain⟨Qb,Ca,e,Iv,wj,rfl,K',hf',bo,_⟩:=Xe (xs:=pd (Sb ats o)) (it:=.dyn g) (me:=[aa (.ref A.i),aa (.ref S.i),aa (.ref P.i),v3,aa (.ref f),v5,o6]) (σ:=σ)
  (F:=Ce (Ga scr) (Oa (Ga scr) yb cf) (.var 6) [.expr (.meth (.var 4) "extend" [(.call (.con (.ref 309)) [(.sub (.attr (.var 0) "taken") (.var 6)),(.meth (.var 1) "dom" [(.sub (.attr (.var 0) "taken") (.var 6))])])])])
  (λk me τ=>∃o6 wj,me=[aa (.ref A.i),aa (.ref S.i),aa (.ref P.i),v3,aa (.ref f),v5,o6]/\ib [f] σ τ/\τ[f]? =aa (.list wj)/\wj.length<=xs.length+8*k/\τ[g]? =aa (.list (pd (Sb ats o))))
  (λk me τ ⟨_,_,_,_,_,_,h⟩ _=>se h)
  (λk v me τ hv ⟨o6,wj,Wg,K,hf,hl,hg⟩=>by
   subst Wg;unfold pd at hv;rw[za]at hv;cases ho:(Sb ats o)[k]? with
   |none=>rw[ho]at hv;cases hv
   |some k0=>
    rw[ho]at hv;cases hv;have iu:=Hh.mp (ma ho);have hkn:k0<nv:=by rw[<-Sx];exact(ca.mp iu).1
    obtain⟨m,hm0⟩:∃m,ms[k0]? =aa m:=⟨ms[k0],da (by omega)⟩;have ww:=hm m (ma hm0);have Rp:=SS.keep K (λa ha q=>hfS (by simp at q;exact q▸ha));have CS':=CS.keep K (λa ha q=>hfA (by simp at q;exact q▸ha));obtain⟨l,E,ys,e1,e2,e3,_⟩:=gr (scr:=scr) (n:=cf) (σ:=τ) (x:=(k0:Int)) ww.2 (by omega) (by omega) hn;have hkm:k<(Sb ats o).length:=(ca.mp ho).1;have dp:=rg (ats:=ats) (o:=o);have hf2:=ub (os:=E) hf;have iq:=Rm hf2 (Al e2) (by omega);refine⟨[aa (.ref A.i),aa (.ref S.i),aa (.ref P.i),v3,aa (.ref f),v5,aa (.int k0)],(τ++E).set f (.list (wj++ys)),?_,aa (.int k0),wj++ys,rfl,(K.trans (ib.app _)).trans (ib.set _ (by simp)),Ob hf2,by simp;omega,ua (ub hg) hfg⟩;unfold Ce;rw[be (by simp)];simp only[EV,LS,Ld hf,CS'.attr (scr:=scr),Wk hkn,Rp.meth (scr:=scr),Wc,Js Rp hm0 (by omega:1<=cf),Uc (scr:=scr) (a:=309) rfl,e1,iq])
  (by unfold pd;rw[ja];have:=rg (ats:=ats) (o:=o);omega) ⟨o6,xs,rfl,.refl,hf,by omega,hg⟩
 refine⟨Iv,Ca,wj,e,K',hf',?_⟩;have h1:(pd (Sb ats o)).length=(Sb ats o).length:=by unfold pd;simp
 have:=rg (ats:=ats) (o:=o);omega
theorem Rq {o:Nat} {F:List Int} (SS:Tg S σ ms failed tl) (CS:cn A σ nv ws ls hs rows) (PP:ij P σ able lows highs ats counts) (hms:ms.length=nv) (hm:∀m∈ms,0<m/\m<8) (hnv:nv<=3) (Sx:ats.length=nv) (ho:σ[o]? =aa (.list (iL F))) (hF:F.length<=4) (hn:3<=n):
 ∃Ca l xs,Oa (Ga scr) yb n 408 [.ref A.i,.ref S.i,.ref P.i,.ref o] σ=aa (.ref l,Ca)/\ib [] σ Ca/\Ca[l]? =aa (.list xs)/\xs.length<=100/\σ.length<=l:=by
 obtain⟨n,rfl⟩:∃m,n=m+1:=⟨n - 1,by omega⟩;have hfS:σ.length∉S.all:=λq=>Ed _ (SS.lt _ q);have hfA:σ.length∉A.all:=λq=>Ed _ (CS.lt _ q);have hfP:σ.length∉P.all:=λq=>Ed _ (PP.lt _ q);have Jr:=Ic ho;have hg0:=vb (σ:=σ) (o:=.list []);obtain⟨Qb,Ca,e,jz,Iv,wj,rfl,K',hf',bo⟩:=Xe (xs:=iL F) (it:=.dyn o) (me:=[aa (.ref A.i),aa (.ref S.i),aa (.ref P.i),aa (.ref o),aa (.ref σ.length),ba,ba]) (σ:=σ++[.list []])
  (F:=Ce (Ga scr) (Oa (Ga scr) yb n) (.var 5) [.fors (.var 6) (.meth (.var 2) "members_at" [(.var 5)]) [.expr (.meth (.var 4) "extend" [(.call (.con (.ref 309)) [(.sub (.attr (.var 0) "taken") (.var 6)),(.meth (.var 1) "dom" [(.sub (.attr (.var 0) "taken") (.var 6))])])])]])
  (λk me τ=>∃o5 o6 wj,me=[aa (.ref A.i),aa (.ref S.i),aa (.ref P.i),aa (.ref o),aa (.ref σ.length),o5,o6]/\ib [σ.length] σ τ/\τ[σ.length]? =aa (.list wj)/\wj.length<=24*k)
  (λk me τ ⟨_,_,_,_,K,_⟩ _=>se (K.old _ _ ho (by simp;omega)))
  (λk v me τ hv ⟨o5,o6,wj,Wg,K,hf,hl⟩=>by
   subst Wg;rw[za]at hv;cases hq:F[k]? with
   |none=>rw[hq]at hv;cases hv
   |some op=>
    rw[hq]at hv;cases hv;have hkF:k<F.length:=(ca.mp hq).1;have Rp:=SS.keep K (λa ha q=>hfS (by simp at q;exact q▸ha));have CS':=CS.keep K (λa ha q=>hfA (by simp at q;exact q▸ha));have PP':=PP.keep K (λa ha q=>hfP (by simp at q;exact q▸ha));have hmo:=ro (scr:=scr) PP' (o:=op) (by omega) (by omega:1<=n);have hgm:=vb (σ:=τ) (o:=.list (pd (Sb ats op)));have hfl:=Ic hf;obtain⟨Iv,Cb,xs2,e1,K2,hf2,jx⟩:=OD (scr:=scr) (cf:=n) (P:=P) (f:=σ.length) (v3:=aa (.ref o)) (v5:=aa (.int op)) (Rp.app [.list (pd (Sb ats op))]) (CS'.k0 (ib.app [.list (pd (Sb ats op))])) hms hm hnv Sx (ub hf) hgm (by omega) hfS hfA (by omega) (by omega) o6;refine⟨[aa (.ref A.i),aa (.ref S.i),aa (.ref P.i),aa (.ref o),aa (.ref σ.length),aa (.int op),Iv],Cb,?_,aa (.int op),Iv,xs2,rfl,(K.trans (ib.app _)).trans K2,hf2,by omega⟩;unfold Ce;rw[be (by simp)];simp only[EV,LS,PP'.rMem,Wc,hmo,Oc hgm,e1])
  (by simp;omega) ⟨ba,ba,[],rfl,ib.app _,hg0,by simp⟩
 refine⟨Ca,σ.length,wj,?_,K'.new (Le _),hf',by simp at bo;omega,Le _⟩;rw[Dc (fn:=xI) rfl,Bd [aa (.ref A.i),aa (.ref S.i),aa (.ref P.i),aa (.ref o),ba,ba,ba] rfl rfl];simp only[xI,EV,LS,Ab (σ:=σ) (xs:=[]) (by simp),Nat.reduceAdd,Nat.reduceLT,if_true,Oc (ub (os:=[O.list []]) ho),e]
theorem ft {o:Nat} {F:List Int} (CS:cn A σ nv ws ls hs rows) (PP:ij P σ able lows highs ats counts) (hnv:nv<=3) (Sx:ats.length=nv) (ho:σ[o]? =aa (.list (iL F))) (hF:F.length<=4) (hFr:∀p∈F,0<=p/\p<ws.length) (hn:1<=n):
 ∃Ca l xs,Oa (Ga scr) yb n 413 [.ref A.i,.ref P.i,.ref o] σ=aa (.ref l,Ca)/\ib [] σ Ca/\Ca[l]? =aa (.list xs)/\xs.length<=100/\σ.length<=l:=by
 obtain⟨n,rfl⟩:∃m,n=m+1:=⟨n - 1,by omega⟩;have hfA:σ.length∉A.all:=λq=>Ed _ (CS.lt _ q);have hfP:σ.length∉P.all:=λq=>Ed _ (PP.lt _ q);have Jr:=Ic ho;have hg0:=vb (σ:=σ) (o:=.list []);obtain⟨Qb,Ca,e,o4',wj,rfl,K',hf',bo⟩:=Xe (xs:=gd 0 (nv:Nat)) (it:=.st (gd 0 (nv:Nat))) (me:=[aa (.ref A.i),aa (.ref P.i),aa (.ref o),aa (.ref σ.length),ba]) (σ:=σ++[.list []])
  (F:=Ce (Ga scr) (Oa (Ga scr) yb n) (.var 4) [.ifs (.base (.cmp .NotIn (.sub (.attr (.var 1) "at") (.var 4)) (.var 2))) [.expr (.meth (.var 3) "extend" [(.comp 2 (.var 2) (.var 6) [] [] (.tup [(.sub (.attr (.var 0) "taken") (.var 4)),(.str "!="),(.sub (.attr (.var 0) "wanted") (.var 6))]))])] []])
  (λk me τ=>∃o4 wj,me=[aa (.ref A.i),aa (.ref P.i),aa (.ref o),aa (.ref σ.length),o4]/\ib [σ.length] σ τ/\τ[σ.length]? =aa (.list wj)/\wj.length<=4*k)
  (λk me τ _ _=>rfl)
  (λk v me τ hv ⟨o4,wj,Wg,K,hf,hl⟩=>by
   subst Wg;rw[gf]at hv
   split at hv<;>cases hv
   rename_i hk;have CS':=CS.keep K (λa ha q=>hfA (by simp at q;exact q▸ha));have PP':=PP.keep K (λa ha q=>hfP (by simp at q;exact q▸ha));have Qz:=K.old _ _ ho (by simp;omega);obtain⟨a,hat⟩:∃a,ats[k]? =aa a:=⟨ats[k],da (by omega)⟩;have s1:=Rc PP'.hat hat
   by_cases q:a∈F
   ·refine⟨[aa (.ref A.i),aa (.ref P.i),aa (.ref o),aa (.ref σ.length),aa (.int k)],τ,?_,aa (.int k),wj,rfl,K,hf,by omega⟩
    unfold Ce;rw[be (by simp)];simp only[EV,LS,PP'.gAt,s1,Pi Qz,q,decide_true,Zb]
   ·have hc:re 5000 (.dyn o) 0 (Ec (Ga scr) (Oa (Ga scr) yb n) 2 (.var 6) [] [] (.tup [(.sub (.attr (.var 0) "taken") (.var 4)),(.str "!="),(.sub (.attr (.var 0) "wanted") (.var 6))]) [aa (.ref A.i),aa (.ref P.i),aa (.ref o),aa (.ref σ.length),aa (.int k)]) τ
     =aa ((iL F).flatMap (λv=>match v with| .int p=>[.tup [.int k,.str "!=",.int (ws.getD p.toNat 0)]]|_=>[]),τ):=by
     refine We _ (λk=>se Qz) (λv hv=> ?_) (by simp;omega);obtain⟨p,hp,rfl⟩:=Bb.mp hv;have hr:=hFr p hp;obtain⟨pN,rfl⟩:=pc hr.1;have hw:ws[pN]? =aa (ws.getD pN 0):=by rw[Xa,da (by omega)];rfl
     simp only[Ec,yd,Aa,wb,Db,EV,LS,CS'.attr (scr:=scr),Wk hk,Rc CS'.hwa hw,ac,cb,bb,Nat.reduceAdd,Nat.reduceLT,ze]
    have hlen:((iL F).flatMap (λv=>match v with| .int p=>[V.tup [.int k,.str "!=",.int (ws.getD p.toNat 0)]]|_=>[])).length=F.length:=by
     clear hc ho Qz hFr hF q
     induction F with
     |nil=>rfl
     |cons p F ih=>simp only[iL,sa,Dd,Ib,cb,bb]at ih|-;rw[ih];omega
    generalize (iL F).flatMap (λv=>match v with| .int p=>[V.tup [.int k,.str "!=",.int (ws.getD p.toNat 0)]]|_=>[])=ys at hc hlen
    have ak:=Ab (xs:=ys) (σ:=τ) (by omega);have hf2:=ub (os:=[O.list ys]) hf;have Tp:=vb (σ:=τ) (o:=.list ys);have iq:=Rm hf2 (Al Tp) (by omega);refine⟨[aa (.ref A.i),aa (.ref P.i),aa (.ref o),aa (.ref σ.length),aa (.int k)],(τ++[O.list ys]).set σ.length (.list (wj++ys)),?_,aa (.int k),wj++ys,rfl,(K.trans (ib.app _)).trans (ib.set _ (by simp)),Ob hf2,by simp;omega⟩;unfold Ce;rw[be (by simp)];simp only[EV,LS,PP'.gAt,s1,Pi Qz,q,decide_false,qc,Ld hf,Oc Qz,hc,ak,Wc,iq])
  (by rw[jd];omega) ⟨ba,[],rfl,ib.app _,hg0,by simp⟩
 rw[jd]at bo;refine⟨Ca,σ.length,wj,?_,K'.new (Le _),hf',by omega,Le _⟩;rw[Dc (fn:=yI) rfl,Bd [aa (.ref A.i),aa (.ref P.i),aa (.ref o),ba,ba] rfl rfl];simp only[yI,EV,LS,Ab (σ:=σ) (xs:=[]) (by simp),Nat.reduceAdd,Nat.reduceLT,if_true,(CS.k0 (ib.app [O.list []])).attr (scr:=scr),Nb,vc,Ni,xe (σ:=σ++[O.list []]) (b:=(nv:Nat)) (by omega),Ie (σ:=σ++[O.list []]) (b:=(nv:Nat)) (by omega),e]
theorem dA {ab lo hi:Nat} {rowsA:List Nat} (hab:σ[ab]? =aa (.list (rowsA.map V.ref))) (hlo:σ[lo]? =aa (.list (iL lows))) (hhi:σ[hi]? =aa (.list (iL highs))) (ku:rowsA.length=able.length) (Dn:able.length<=20) (Ir:lows.length<=20) (qf:∀(k:Nat) (r:List Int),able[k]? =aa r->∃a,rowsA[k]? =aa a/\σ[a]? =aa (.list (iL r))) (hn:1<=n):
 ∃Ca P,rh (Ga scr) (Oa (Ga scr) yb n) (.con (.ref 357)) [.ref ab,.ref lo,.ref hi] σ=aa (.ref P.i,Ca)/\ib [] σ Ca/\P.rows=rowsA/\σ.length<=P.at_/\σ.length<=P.co/\(∀a∈P.all,σ.length<=a\/a∈ab::lo::hi::rowsA)/\ij P Ca able lows highs (Aa able.length (-1)) (Aa lows.length 0):=by
 obtain⟨n,rfl⟩:∃m,n=m+1:=⟨n - 1,by omega⟩;have hb:∀a:Nat,(∃o,σ[a]? =aa o)->a<σ.length:=λa ⟨o,h⟩=>Ic h;have abl:=Ic hab;have lol:=Ic hlo;have hil:=Ic hhi
 let d:=σ.length
 let σ0:=σ++[.sdict [],.inst 357 d]
 have hd0:σ0[d]? =aa (.sdict []):=by simp[σ0,d]
 have hi0:σ0[d+1]? =aa (.inst 357 d):=by simp[σ0,d]
 have old:∀a o,σ[a]? =aa o->σ0[a]? =aa o:=λa o h=>ub h
 let es1:List (Rb×V):=[("able",.ref ab)]
 let es2:List (Rb×V):=[("able",.ref ab),("lows",.ref lo)]
 let Zj:List (Rb×V):=[("able",.ref ab),("lows",.ref lo),("highs",.ref hi)]
 let Ja:=σ0.set d (.sdict es1)
 let Cb:=Ja.set d (.sdict es2)
 let ae:=Cb.set d (.sdict Zj)
 have hd1:Ja[d]? =aa (.sdict es1):=Ob hd0;have hd2:Cb[d]? =aa (.sdict es2):=Ob hd1;have hd3:ae[d]? =aa (.sdict Zj):=Ob hd2;have hi1:Ja[d+1]? =aa (.inst 357 d):=ua hi0 (by omega);have hi2:Cb[d+1]? =aa (.inst 357 d):=ua hi1 (by omega);have hi3:ae[d+1]? =aa (.inst 357 d):=ua hi2 (by omega);have old3:∀a o,σ[a]? =aa o->ae[a]? =aa o:=λa o h=>by
  have:d≠a:=by have:=Ic h;simp[d];omega
  exact ua (ua (ua (old a o h) this) this) this
 have a1:ye (Ga scr) (.ref (d+1)) "able" (.ref ab) σ0=aa Ja:=Zg hi0 hd0 (by rfl) (by simp);have a2:ye (Ga scr) (.ref (d+1)) "lows" (.ref lo) Ja=aa Cb:=Zg hi1 hd1 (by rfl) (by simp[es1]);have a3:ye (Ga scr) (.ref (d+1)) "highs" (.ref hi) Cb=aa ae:=Zg hi2 hd2 (by rfl) (by simp[es2]);have len3:ae.length=d+2:=by simp[ae,Cb,Ja,σ0,d]
 have hlab:jh (.builtin "len") [.ref ab] (ae++[O.list [V.int (-1)]])=aa (.int able.length,ae++[O.list [V.int (-1)]]):=by
  rw[wc (ub (old3 _ _ hab))];rw[ja,ku]
 have nl1:=Ab (xs:=[.int (-1)]) (σ:=ae) (by simp);have b1:Cf .Mult (.ref ae.length) (.int able.length) (ae++[.list [.int (-1)]])=aa (.ref (ae++[O.list [V.int (-1)]]).length,ae++[.list [.int (-1)]]++[.list (iL (Aa able.length (-1)))]):=by
  unfold Cf;simp only[Pb (vb (σ:=ae) (o:=.list [.int (-1)]))];rw[if_pos (by omega),Ab (by simp;omega)];simp
 let dh:=ae++[.list [.int (-1)]]++[.list (iL (Aa able.length (-1)))]
 have hd4:dh[d]? =aa (.sdict Zj):=ub (ub hd3);have hi4:dh[d+1]? =aa (.inst 357 d):=ub (ub hi3);have at4:dh[d+3]? =aa (.list (iL (Aa able.length (-1)))):=by
  have:=vb (σ:=ae++[.list [.int (-1)]]) (o:=.list (iL (Aa able.length (-1))));rw[Ib,len3]at this;exact this
 let es4:List (Rb×V):=[("able",.ref ab),("lows",.ref lo),("highs",.ref hi),("at",.ref (d+3))]
 let ci:=dh.set d (.sdict es4)
 have a4:ye (Ga scr) (.ref (d+1)) "at" (.ref (ae++[O.list [V.int (-1)]]).length) dh=aa ci:=by
  rw[Zg hi4 hd4 (by rfl) (by simp[Zj])];rw[Ib,len3];rfl
 have hd5:ci[d]? =aa (.sdict es4):=Ob hd4;have hi5:ci[d+1]? =aa (.inst 357 d):=ua hi4 (by omega);have at5:ci[d+3]? =aa (.list (iL (Aa able.length (-1)))):=ua at4 (by omega);have old5:∀a o,σ[a]? =aa o->ci[a]? =aa o:=λa o h=>by
  have:d≠a:=by have:=Ic h;simp[d];omega
  exact ua (ub (ub (old3 a o h))) this
 have len5:ci.length=d+4:=by simp[ci,dh,len3]
 have nl2:=Ab (xs:=[.int 0]) (σ:=ci) (by simp);have hllo:jh (.builtin "len") [.ref lo] (ci++[O.list [V.int 0]])=aa (.int lows.length,ci++[O.list [V.int 0]]):=by
  rw[wc (ub (old5 _ _ hlo))];simp
 have b2:Cf .Mult (.ref ci.length) (.int lows.length) (ci++[.list [.int 0]])=aa (.ref (ci++[O.list [V.int 0]]).length,ci++[.list [.int 0]]++[.list (iL (Aa lows.length 0))]):=by
  unfold Cf;simp only[Pb (vb (σ:=ci) (o:=.list [.int 0]))];rw[if_pos (by omega),Ab (by simp;omega)];simp
 let Io:=ci++[.list [.int 0]]++[.list (iL (Aa lows.length 0))]
 have hd6:Io[d]? =aa (.sdict es4):=ub (ub hd5);have hi6:Io[d+1]? =aa (.inst 357 d):=ub (ub hi5);have at6:Io[d+3]? =aa (.list (iL (Aa able.length (-1)))):=ub (ub at5);have co6:Io[d+5]? =aa (.list (iL (Aa lows.length 0))):=by
  have:=vb (σ:=ci++[.list [.int 0]]) (o:=.list (iL (Aa lows.length 0)));rw[Ib,len5]at this;exact this
 have old6:∀a o,σ[a]? =aa o->Io[a]? =aa o:=λa o h=>ub (ub (old5 a o h))
 let Q:Mq:=⟨d+1,d,ab,lo,hi,d+3,d+5,rowsA⟩
 let Nn:=Io.set d (.sdict (pL Q))
 have a5:ye (Ga scr) (.ref (d+1)) "counts" (.ref (ci++[O.list [V.int 0]]).length) Io=aa Nn:=by
  rw[Zg hi6 hd6 (by rfl) (by simp[es4])];rw[Ib,len5];rfl
 have old7:∀a o,σ[a]? =aa o->Nn[a]? =aa o:=λa o h=>by
  have:d≠a:=by have:=Ic h;simp[d];omega
  exact ua (old6 a o h) this
 have Gn:∀a∈rowsA,a<d:=λa ha=>by
  obtain⟨k,hk,rfl⟩:=zf ha;obtain⟨a,e1,e2⟩:=qf k able[k] (da (by omega));rw[da hk]at e1;cases e1;exact Ic e2
 refine⟨Nn,Q,?_,⟨by simp[Nn,Io,len5,d]<;>omega,λi o h _=>old7 i o h⟩,rfl,(show d<=d+3 by omega),(show d<=d+5 by omega),(λa ha=>by
  simp only[Mq.all,Q,Fa]at ha|-;rcases ha with h|h|h|h|h|h|h|h
  ·left;omega
  ·left;omega
  ·right;exact .inl h
  ·right;exact .inr (.inl h)
  ·right;exact .inr (.inr (.inl h))
  ·left;omega
  ·left;omega
  ·right;exact .inr (.inr (.inr h))),⟨ua hi6 (show d≠d+1 by omega),Ob hd6,old7 _ _ hab,old7 _ _ hlo,old7 _ _ hhi,ua at6 (show d≠d+3 by omega),ua co6 (show d≠d+5 by omega),ku,λk r h=> ?_,?_⟩⟩
 ·unfold rh
  have hin:(Ga scr).init 357=aa 323:=by rfl
  simp only[hin];rw[Dc (fn:=mI) rfl,Bd [aa (.ref (d+1)),aa (.ref ab),aa (.ref lo),aa (.ref hi)] rfl rfl];have h0:(σ++[O.sdict [],O.inst 357 σ.length])=σ0:=rfl;rw[h0];simp only[mI,EV,LS,a1,a2,a3,Vg,nl1,Nb,hlab,b1];simp only[show ae++[O.list [V.int (-1)]]++[O.list (iL (Aa able.length (-1)))]=dh from rfl,a4,LS,nl2,hllo,b2];simp only[show ci++[O.list [V.int 0]]++[O.list (iL (Aa lows.length 0))]=Io from rfl,a5,EV]
  rfl
 ·obtain⟨a,e1,e2⟩:=qf k r h
  exact⟨a,e1,old7 _ _ e2⟩
 ·simp only[Q,Fa,not_or]
  refine⟨⟨by omega,by omega,by omega,by omega,λq=>by have:=Gn _ q;omega⟩,⟨by omega,by omega,by omega,by omega,λq=>by have:=Gn _ q;omega⟩⟩
end
end Mine
namespace Mine
theorem iK:(Rn λm=>Rn λm'=>decide (m=m')|| !(nD λv=>xf m v==xf m' v))=true:=by decide+kernel
theorem CE {m m':Nat} (h:m<8) (h':m'<8) (e:∀v:Int,0<=v/\v<3->xf m v=xf m' v):m=m':=by
 have:=gh (gh iK h) h';rw[xj]at this;rcases this with q|q
 ·exact of_decide_eq_true q
 ·exfalso
  simp only[nD,e 0 (by omega),e 1 (by omega),e 2 (by omega),beq_self_eq_true,Lo,Zb]at q;cases q
theorem XC:(Rn λm=>YF λs=>nD λk=>nD λv=>xf (tc s k m) v==(xf m v&&tc.keeps3 s k v))=true:=by decide+kernel
theorem Yn {m s:Nat} {k v:Int} (h:m<8) (hs:s<4) (hk:0<=k/\k<3) (hv:0<=v/\v<3):xf (tc s k m) v=(xf m v&&tc.keeps3 s k v):=
 beq_iff_eq.mp (ml (ml (LA (gh XC h) hs) hk) hv)
theorem jB {m:Nat} {v:Int} (h:xf m v=true):0<m:=by
 rcases Xp m with q|q
 ·subst q;unfold xf at h;simp at h
 ·exact q
theorem Lm {m:Nat} {v:Int}:v∈vals m↔(0<=v/\v<3)/\xf m v=true:=by
 unfold vals;rw[jc];simp only[Fa,Za,or_false]
 constructor
 ·rintro⟨h,h'⟩;exact⟨by omega,h'⟩
 ·rintro⟨h,h'⟩;exact⟨by omega,h'⟩
theorem Mh {m:Nat}:(vals m).length<=3:=by
 unfold vals;exact Ub (λv=>xf m v) [0,1,2]
section
variable {S:Dr} {A:pu} {P:Mq} {σ Ca:St} {ms:List Nat} {failed:Bool} {tl nv:Nat} {ws ls hs:List Int} {rows:V} {scr:Nat->Option (List Int)} {n m x M:Nat} {able:List (List Int)} {lows highs ats counts:List Int}
theorem Qs {f:Int->PyData}:∀{xs:List Int},Be (xs.map f) []=decide (xs=[])
 | []=>rfl
 |x::xs=>by simp[Be]
theorem Dz {a b:Nat} {xs:List Int} (ha:σ[a]? =aa (.list (iL xs))) (hb:σ[b]? =aa (.list [])):Zc .Eq (.ref a) (.ref b) σ=aa (decide (xs=[])):=by
 unfold Zc;simp only[Vc,Pb ha,Pb hb,qi,kh,ud,Qs]
theorem HE {a b:Nat} {xs:List Int} (ha:σ[a]? =aa (.list (iL xs))) (hb:σ[b]? =aa (.list [])):Zc .NotEq (.ref a) (.ref b) σ=aa (decide (xs≠[])):=by
 unfold Zc;simp only[Vc,Pb ha,Pb hb,qi,kh,ud,Qs]
 by_cases h:xs=[]<;>simp[h]
theorem yG {x:Nat} {v:Int}:V.tup [.int x,.str "!=",.int v]=Vh x 2 v:=rfl
def Ur (S:Dr):List Nat:=[S.dom,S.tra,S.nes]
theorem Ny {cf b r:Nat} {vs:List Int} {rs:List V} {v2 v3 v4 v5 v6 v7 v9 v12:Option V} {v0 v1:V} (hv1:v1=.ref S.i) (SS:Tg S σ ms failed tl) (hm:ms[x]? =aa m) (h8:m<8) (hx:x<3) (hb:σ[b]? =aa (.list (iL vs))) (hbS:b∉Ur S) (hr:σ[r]? =aa (.list rs)) (hrS:r∉Ur S) (Gn:rs.length<4096) (hvs:∀v∈vs,0<=v/\v<3) (hvl:vs.length<=3) (lu:tl<900)
 {u0:Int} (hu:0<=u0/\u0<3) (hu1:xf m u0=true) (hu2:u0∉vs) (hn:5<=cf):
 ∀nx,∃mn Ca Sf m',Ye 5000 (.dyn b) 0 (Ce (Ga scr) (Oa (Ga scr) yb cf) (.var 11) [.ifs (.not (.base (.meth (.var 1) "strike" [(.tup [(.var 10),(.str "!="),(.var 11)]),(.var 8)]))) [.ret (.bool false)] []]) [aa v0,aa v1,v2,v3,v4,v5,v6,v7,aa (.ref r),v9,aa (.int x),nx,v12] σ
  =aa (.next,[aa v0,aa v1,v2,v3,v4,v5,v6,v7,aa (.ref r),v9,aa (.int x),mn,v12],Ca)/\Tg S Ca Sf failed (tl+3)/\ib (Ur S) σ Ca/\Sf.length=ms.length/\(∀j,j≠x->Sf[j]? =ms[j]?)/\Sf[x]? =aa m'/\m'<8/\(∀u:Int,0<=u/\u<3->xf m' u=(xf m u&&decide (u∉vs))):=by
 intro nx;subst hv1;obtain⟨Qb,Ca,e,mn,Sf,m',rfl,Rp,K',dp,hmj,Pz,hm8,hmu⟩:=Xe (xs:=iL vs) (it:=.dyn b) (me:=[aa v0,aa (.ref S.i),v2,v3,v4,v5,v6,v7,aa (.ref r),v9,aa (.int x),nx,v12]) (σ:=σ)
  (F:=Ce (Ga scr) (Oa (Ga scr) yb cf) (.var 11) [.ifs (.not (.base (.meth (.var 1) "strike" [(.tup [(.var 10),(.str "!="),(.var 11)]),(.var 8)]))) [.ret (.bool false)] []])
  (λk me τ=>∃nx Sf m',me=[aa v0,aa (.ref S.i),v2,v3,v4,v5,v6,v7,aa (.ref r),v9,aa (.int x),nx,v12]/\Tg S τ Sf failed (tl+k)/\ib (Ur S) σ τ/\Sf.length=ms.length/\(∀j,j≠x->Sf[j]? =ms[j]?)/\Sf[x]? =aa m'/\m'<8/\(∀u:Int,0<=u/\u<3->xf m' u=(xf m u&&decide (u∉vs.take k))))
  (λk me τ ⟨_,_,_,_,_,K,_⟩ _=>se (K.old _ _ hb hbS))
  (λk v me τ hv ⟨nx,Sf,m',Wg,SS,K,dp,hmj,Pz,hm8,hmu⟩=>by
   subst Wg;rw[za]at hv;cases hq:vs[k]? with
   |none=>rw[hq]at hv;cases hv
   |some w=>
    rw[hq]at hv;cases hv;have hk:k<vs.length:=(ca.mp hq).1;have hw:=hvs w (ma hq);have hu3:xf (tc 2 w m') u0=true:=by
     rw[Yn hm8 (by omega) hw hu,hmu u0 hu,hu1];have h1:u0∉vs.take k:=λz=>hu2 (yn z);have h2:u0≠w:=λz=>hu2 (z▸ma hq);simp[h1,h2,tc.keeps3]
    obtain⟨Cb,e1,Oq,K2⟩:=WC (scr:=scr) (n:=cf) SS Pz hm8 hx hw (Ii (jB hu3)) (K.old _ _ hr hrS) Gn (by omega) hn;refine⟨[aa v0,aa (.ref S.i),v2,v3,v4,v5,v6,v7,aa (.ref r),v9,aa (.int x),aa (.int w),v12],Cb,?_,aa (.int w),Sf.set x (tc 2 w m'),tc 2 w m',rfl,Oq,K.trans K2,by rw[Mb];exact dp,λj hj=>by rw[Na (de hj)];exact hmj j hj,fb (ca.mp Pz).1,Sj _ _ _,λu hu'=> ?_⟩
    ·unfold Ce
     rw[be (by simp)];simp only[EV,LS,SS.meth (scr:=scr),ac,cb,bb,Nat.reduceAdd,Nat.reduceLT,yG,Wc,e1,Zb]
    ·rw[Yn hm8 (by omega) hw hu',hmu u hu',Yb,hq]
     simp only[tc.keeps3,Ff,db,jb,not_or]
     by_cases h1:u∈vs.take k<;>by_cases h2:u=w<;>simp[h1,h2])
  (by simp;omega) ⟨nx,ms,m,rfl,SS,.refl,rfl,λ_ _=>rfl,hm,h8,λu _=>by simp⟩
 have hlen:(iL vs).length=vs.length:=by simp
 rw[hlen,Xd]at hmu;rw[hlen]at Rp;exact⟨mn,Ca,Sf,m',e,Rp.more (by omega),K',dp,hmj,Pz,hm8,hmu⟩
def Eg (ws:List Int) (o m:Nat):List Int:=match ws[o]? with
 |some w=>[w]
 |none=>(vals m).filter λv=>decide (v∉ws)
theorem Gv {ws:List Int} (hn:ws.Nodup) {k:Nat} {w:Int} (h:ws[k]? =aa w):ws.idxOf w=k:=by
 obtain⟨hk,rfl⟩:=ca.mp h;exact lL hn k hk
theorem rp {o m:Nat} {u:Int} (hn:ws.Nodup) (ho:o<=ws.length) (hu:0<=u/\u<3) (hm:xf m u=true):u∈Eg ws o m↔ws.idxOf u=o:=by
 unfold Eg;cases h:ws[o]? with
 |some w=>
  have hi:=Gv hn h;simp only[jb]
  constructor
  ·rintro rfl;exact hi
  ·intro q
   have wh:ws.idxOf u<ws.length:=by rw[q];exact(ca.mp h).1
   have e1:=fD wh;have e2:ws[ws.idxOf u]? =aa u:=by rw[da wh,e1]
   rw[q,h]at e2;exact(qh e2).symm
 |none=>
  have:o=ws.length:=by have:=Od.mp h;omega
  subst this;simp only[jc,decide_eq_true_eq];rw[Lm]
  constructor
  ·rintro⟨_,q⟩;exact List.idxOf_eq_length q
  ·intro q
   exact⟨⟨hu,hm⟩,λz=>by have:=ru z;omega⟩
end
end Mine
namespace Mine
def Th (able:List (List Int)) (ats F:List Int) (o k:Nat):Bool:=match able[k]?,ats[k]? with
 |some row,aa a=>decide ((o:Int)∈row)&&decide (a∉F)
 |_,_=>false
def Bo (F ls:List Int) (k:Nat):Bool:=decide ((k:Int)∉F)&&decide (0<ls.getD k 0)
def QK (able:List (List Int)) (ats F:List Int) (o nv:Nat):List Nat:=(Ua nv).filter λk=>Th able ats F o k
theorem rv {nv:Nat} {p:Nat->Bool}:(gd 0 (nv:Nat)).flatMap (λv=>match v with| .int i=>if p i.toNat then[v]else[]|_=>[])=pd ((Ua nv).filter p):=by
 unfold gd Jj pd;have:((nv:Nat) - 0:Int).toNat=nv:=by omega
 rw[this]
 generalize Ua nv=l
 induction l with
 |nil=>rfl
 |cons k l ih=>
  simp only[sa,Dd,ih,Vd]
  by_cases q:p k=true<;>simp[q]
theorem Fz {xs:List Int} {p:Int->Bool}:(iL xs).flatMap (λv=>match v with| .int i=>if p i then[v]else[]|_=>[])=iL (xs.filter p):=by
 unfold iL
 induction xs with
 |nil=>rfl
 |cons k l ih=>
  simp only[sa,Dd,ih,Vd]
  by_cases q:p k=true<;>simp[q]
section
variable {S:Dr} {A:pu} {P:Mq} {σ Ca:St} {ms:List Nat} {failed:Bool} {tl nv:Nat} {ws ls hs:List Int} {rows:V} {scr:Nat->Option (List Int)} {n m x M o:Nat} {able:List (List Int)} {lows highs ats counts:List Int}
def xm (ws:List Int) (o:Nat) (b:Bool) (m m':Nat):Prop:=m'<8/\∀u:Int,0<=u/\u<3->xf m' u=(xf m u&& !(decide (ws.idxOf u=o)&&b))
theorem xm.no {ws:List Int} {o m:Nat} (h:m<8):xm ws o false m m:=⟨h,λu _=>by simp⟩
def DJ (ws ats:List Int) (ms:List Nat):Prop:=∀(k m:Nat) a,ms[k]? =aa m->ats[k]? =aa a->∃u:Int,(0<=u/\u<3)/\xf m u=true/\((ws.idxOf u:Nat):Int)=a
theorem Ku {cf r k:Nat} {rs:List V} {v2 v4 v5 v6 v7 v9:Option V} (SS:Tg S σ ms failed tl) (CS:cn A σ nv ws ls hs rows) (hms:ms.length=nv) (hnv:nv<=3) (hk:k<nv) (hm:ms[k]? =aa m) (h8:m<8) (hwn:ws.Nodup) (hwr:∀w∈ws,0<=w/\w<3) (ho:o<=ws.length) (Ko:ws.length<=3) (hr:σ[r]? =aa (.list rs)) (hrS:r∉Ur S) (Gn:rs.length<4096) (lu:tl<900)
 {u0:Int} (hu:0<=u0/\u0<3) (hu1:xf m u0=true) (hu2:ws.idxOf u0≠o) (hn:5<=cf):
 ∀o10 nx o12,∃o10' mn o12' Ca Sf m',Ce (Ga scr) (Oa (Ga scr) yb cf) (.var 9) [.assign (.var 10) (.sub (.attr (.var 0) "taken") (.var 9)),.assign (.var 12) (.comp 2 (.call (.con (.ref 61)) [(.meth (.var 1) "dom" [(.var 10)])]) (.var 14) [(.base (.cmp .NotIn (.var 14) (.attr (.var 0) "wanted")))] [] (.var 14)),.fors (.var 11) (.ite (.base (.cmp .Lt (.var 3) (.call (.con (.builtin "len")) [(.attr (.var 0) "wanted")]))) (.list [(.sub (.attr (.var 0) "wanted") (.var 3))]) (.var 12)) [.ifs (.not (.base (.meth (.var 1) "strike" [(.tup [(.var 10),(.str "!="),(.var 11)]),(.var 8)]))) [.ret (.bool false)] []]] (.int k)
  [aa (.ref A.i),aa (.ref S.i),v2,aa (.int o),v4,v5,v6,v7,aa (.ref r),v9,o10,nx,o12] σ
  =aa (.next,[aa (.ref A.i),aa (.ref S.i),v2,aa (.int o),v4,v5,v6,v7,aa (.ref r),aa (.int k),o10',mn,o12'],Ca)/\Tg S Ca Sf failed (tl+3)/\ib (Ur S) σ Ca/\Sf.length=ms.length/\(∀j,j≠k->Sf[j]? =ms[j]?)/\Sf[k]? =aa m'/\xm ws o true m m':=by
 intro o10 nx o12;have hkx:k<3:=by omega
 obtain⟨l,E,ev,hl⟩:=aD (scr:=scr) (n:=cf) (σ:=σ) h8 (by omega);have CS1:=CS.k0 (ib.app E);have SS1:=SS.app E;have hc:re 5000 (.dyn l) 0 (Ec (Ga scr) (Oa (Ga scr) yb cf) 2 (.var 14) [(.base (.cmp .NotIn (.var 14) (.attr (.var 0) "wanted")))] [] (.var 14) [aa (.ref A.i),aa (.ref S.i),v2,aa (.int o),v4,v5,v6,v7,aa (.ref r),aa (.int k),aa (.int k),nx,o12]) (σ++E)
  =aa ((iL (vals m)).flatMap (λv=>match v with| .int u=>if decide (u∉ws)then[v]else[]|_=>[]),σ++E):=by
  refine We _ (λk=>se hl) (λv hv=> ?_) (by have:=Mh (m:=m);simp;omega);obtain⟨u,hu,rfl⟩:=Bb.mp hv;simp only[Ec,yd,Aa,wb,Db,EV,LS,CS1.attr (scr:=scr),Pi CS1.hwa]
  by_cases q:u∈ws
  ·simp[q]
  ·simp[q,Og,Oe]
 rw[Fz]at hc;have hfl:((vals m).filter λu=>decide (u∉ws)).length<=3:=by
  have:=Ub (λu=>decide (u∉ws)) (vals m);have:=Mh (m:=m);omega
 have ak:=Ab (xs:=iL ((vals m).filter λu=>decide (u∉ws))) (σ:=σ++E) (by rw[ja];omega);have hb:=vb (σ:=σ++E) (o:=.list (iL ((vals m).filter λu=>decide (u∉ws))));have Oq:=SS1.app [.list (iL ((vals m).filter λu=>decide (u∉ws)))];have Op:=CS1.k0 (ib.app [.list (iL ((vals m).filter λu=>decide (u∉ws)))]);have hr2:=ub (os:=[.list (iL ((vals m).filter λu=>decide (u∉ws)))]) (ub (os:=E) hr);have hSl:∀a:Nat,(σ++E).length<=a->a∉Ur S:=λa ha q=>by
  have:=SS1.lt a (by simp only[Ur,Fa,Za,or_false]at q;simp only[Dr.all,Fa,Za,or_false];rcases q with h|h|h<;>simp[h]);omega
 have Ir:(iL ws).length=ws.length:=by simp
 generalize Bu:σ++E++[.list (iL ((vals m).filter λu=>decide (u∉ws)))]=Cb at*
 have K2:ib (Ur S) σ Cb:=Bu▸(ib.app _).trans (ib.app _);have len2:(σ++E).length+1=Cb.length:=by rw[<-Bu];simp[qx]
 have fin:∀(b:Nat) (ae:St),ib (Ur S) Cb ae->Tg S ae ms failed tl->ae[b]? =aa (.list (iL (Eg ws o m)))->b∉Ur S->ae[r]? =aa (.list rs)->
  ∃mn Ca Sf m',Ye 5000 (.dyn b) 0 (Ce (Ga scr) (Oa (Ga scr) yb cf) (.var 11) [.ifs (.not (.base (.meth (.var 1) "strike" [(.tup [(.var 10),(.str "!="),(.var 11)]),(.var 8)]))) [.ret (.bool false)] []]) [aa (.ref A.i),aa (.ref S.i),v2,aa (.int o),v4,v5,v6,v7,aa (.ref r),aa (.int k),aa (.int k),nx,aa (.ref (σ++E).length)] ae
   =aa (.next,[aa (.ref A.i),aa (.ref S.i),v2,aa (.int o),v4,v5,v6,v7,aa (.ref r),aa (.int k),aa (.int k),mn,aa (.ref (σ++E).length)],Ca)/\Tg S Ca Sf failed (tl+3)/\ib (Ur S) σ Ca/\Sf.length=ms.length/\(∀j,j≠k->Sf[j]? =ms[j]?)/\Sf[k]? =aa m'/\xm ws o true m m':=by
  intro b ae K3 sz hb3 hbS hr3;have hvr:∀v∈Eg ws o m,0<=v/\v<3:=by
   intro v hv;unfold Eg at hv
   split at hv
   ·rename_i w hw
    simp at hv;subst hv;exact hwr _ (ma hw)
   ·exact(Lm.mp (jc.mp hv).1).1
  have hvl:(Eg ws o m).length<=3:=by
   unfold Eg
   split
   ·simp
   ·exact hfl
  have hu2':u0∉Eg ws o m:=λz=>hu2 ((rp hwn ho hu hu1).mp z);obtain⟨mn,Ca,Sf,m',e,Rp,K',h1,h2,h3,h4,h5⟩:=Ny (scr:=scr) (cf:=cf) (v0:=.ref A.i) (v1:=.ref S.i) (v2:=v2) (v3:=aa (.int o)) (v4:=v4) (v5:=v5) (v6:=v6) (v7:=v7) (v9:=aa (.int k)) (v12:=aa (.ref (σ++E).length)) rfl sz hm h8 hkx hb3 hbS hr3 hrS Gn hvr hvl lu hu hu1 hu2' hn nx;refine⟨mn,Ca,Sf,m',e,Rp,(K2.trans K3).trans K',h1,h2,h3,h4,λu hu'=> ?_⟩;rw[h5 u hu']
  by_cases q:xf m u=true
  ·have:=rp hwn ho hu' q
   by_cases q2:ws.idxOf u=o
   ·simp[q,q2,this.mpr q2]
   ·simp[q,q2,mt this.mp q2]
  ·simp[q]
 unfold Ce;rw[be (by simp)]
 by_cases wh:o<ws.length
 ·obtain⟨w,hw⟩:∃w,ws[o]? =aa w:=⟨ws[o],da wh⟩
  have hof:Eg ws o m=[w]:=by unfold Eg;rw[hw]
  have Dk:=Ab (xs:=[.int w]) (σ:=Cb) (by simp);have hb2:=vb (σ:=Cb) (o:=.list [.int w]);obtain⟨mn,Ca,Sf,m',e,Md⟩:=fin Cb.length (Cb++[.list [.int w]]) (ib.app _) (Oq.app _) (by rw[hof];exact hb2) (hSl _ (by omega)) (ub hr2);refine⟨aa (.int k),mn,aa (.ref (σ++E).length),Ca,Sf,m',?_,Md⟩;simp only[EV,LS,CS.attr (scr:=scr),Wk hk,Nat.reduceAdd,Nat.reduceLT,if_true,SS.meth (scr:=scr),Wc,Js SS hm (by omega:1<=cf),Uc (scr:=scr) (a:=61) rfl,ev,Oc hl,hc,ak,Bu,Op.attr (scr:=scr),Nb,wc Op.hwa,Ir,Ck,jr,wh,decide_true,Rc Op.hwa hw,Dk,Oc hb2,e]
 ·have hof:Eg ws o m=(vals m).filter λu=>decide (u∉ws):=by
   unfold Eg;rw[Yd (by omega)]
  obtain⟨mn,Ca,Sf,m',e,Md⟩:=fin (σ++E).length Cb .refl Oq (by rw[hof];exact hb) (hSl _ (Le _)) hr2;refine⟨aa (.int k),mn,aa (.ref (σ++E).length),Ca,Sf,m',?_,Md⟩;simp only[EV,LS,CS.attr (scr:=scr),Wk hk,Nat.reduceAdd,Nat.reduceLT,if_true,SS.meth (scr:=scr),Wc,Js SS hm (by omega:1<=cf),Uc (scr:=scr) (a:=61) rfl,ev,Oc hl,hc,ak,Bu,Op.attr (scr:=scr),Nb,wc Op.hwa,Ir,Ck,jr,wh,decide_false,Oc hb,e]
theorem Aq (SS:Tg S σ ms failed tl) (CS:cn A σ nv ws ls hs rows) (PP:ij P σ able lows highs ats counts) (hms:ms.length=nv) (Sx:ats.length=nv) (hnv:nv<=3) (hm8:∀m∈ms,0<m/\m<8) (hwn:ws.Nodup) (hwr:∀w∈ws,0<=w/\w<3) (ho:o<=ws.length) (Ko:ws.length<=2) (hll:ls.length=ws.length)
 (WF:Wf able ats (ws.length+1)) (C:Gq ats counts lows highs (ws.length+1)) (HM:DJ ws ats ms) (hSA:∀a∈Ur S,a∉A.all) (lu:tl<500) (hn:6<=n):
 ∃Ca Sf F room,Oa (Ga scr) yb n 418 [.ref A.i,.ref S.i,.ref P.i,.int o] σ=aa (.bool true,Ca)/\Tg S Ca Sf failed (tl+9)/\ib (Ur S) σ Ca/\HA able ats counts lows highs (ws.length+1) o F room/\Sf.length=ms.length/\
  (∀k m,ms[k]? =aa m->∃m',Sf[k]? =aa m'/\xm ws o (Th able ats F o k) m m'):=by
 obtain⟨n,rfl⟩:∃m,n=m+1:=⟨n - 1,by omega⟩;obtain⟨Ja,lF,F,room,e1,K1,hF,RE⟩:=eA (scr:=scr) (n:=n) (option:=o) (M:=ws.length+1) (by omega) (by omega) PP WF C (by omega) (by omega);have hFl:F.length<=3:=by have:=we RE.nd RE.rng;omega
 have SS1:=SS.k0 K1;have CS1:=CS.k0 K1;have PP1:=PP.k0 K1;have hc:re 5000 (.st (gd 0 (nv:Nat))) 0 (Ec (Ga scr) (Oa (Ga scr) yb n) 2 (.var 14) [(.and (.base (.cmp .In (.var 3) (.sub (.attr (.var 2) "able") (.var 14)))) (.base (.cmp .NotIn (.sub (.attr (.var 2) "at") (.var 14)) (.var 4))))] [] (.var 14) [aa (.ref A.i),aa (.ref S.i),aa (.ref P.i),aa (.int o),aa (.ref lF),aa (.bool room),ba,ba,ba,ba,ba,ba,ba]) Ja
  =aa ((gd 0 (nv:Nat)).flatMap (λv=>match v with| .int i=>if Th able ats F o i.toNat then[v]else[]|_=>[]),Ja):=by
  refine We _ (λk=>rfl) (λv hv=> ?_) (by rw[jd];omega);obtain⟨k,hk⟩:=ic hv;rw[gf]at hk
  split at hk<;>cases hk
  rename_i hk;obtain⟨a,ha⟩:∃a,ats[k]? =aa a:=⟨ats[k],da (by omega)⟩;obtain⟨row,qf⟩:∃row,able[k]? =aa row:=⟨able[k]'(by rw[<-WF.len];omega),da _⟩;obtain⟨ra,er1,er2,_⟩:=PP1.sRow qf
  by_cases q1:(o:Int)∈row<;>by_cases q2:a∈F<;>simp only[Ec,yd,Aa,wb,Db,EV,LS,PP1.gAble,er1,Dl er2,PP1.gAt,Rc PP1.hat ha,Pi hF,ze,Th,ha,qf,q1,q2,decide_true,decide_false,Zb,qc,Rg,bk,Lo,not_true_eq_false,not_false_eq_true,if_true,Nc,if_false]
 rw[rv]at hc;have hapl:((Ua nv).filter λk=>Th able ats F o k).length<=nv:=by
  have:=Ub (λk=>Th able ats F o k) (Ua nv)
  simpa using this
 generalize hap:(Ua nv).filter (λk=>Th able ats F o k)=ap at*
 have hapm:∀k,k∈ap↔k<nv/\Th able ats F o k=true:=λk=>by rw[<-hap];simp
 have hapn:ap.Nodup:=by rw[<-hap];exact bx YB Br
 have hnl1:=Ab (xs:=pd ap) (σ:=Ja) (by unfold pd;rw[ja];omega);have hg1:=vb (σ:=Ja) (o:=.list (pd ap));rw[Ti]at hnl1 hg1;have Dk:=Ab (xs:=[]) (σ:=Ja++[.list (iL (ap.map λ(k:Nat)=>(k:Int)))]) (by simp);have Tp:=vb (σ:=Ja++[.list (iL (ap.map λ(k:Nat)=>(k:Int)))]) (o:=.list []);have hg1':=ub (os:=[O.list []]) hg1;have heq:=Dz hg1' Tp;have K2:ib [] σ (Ja++[.list (iL (ap.map λ(k:Nat)=>(k:Int)))]++[.list []]):=(K1.trans (ib.app _)).trans (ib.app _);have hF2:=ub (os:=[O.list []]) (ub (os:=[O.list (iL (ap.map λ(k:Nat)=>(k:Int)))]) hF);have hap0:(ap.map λ(k:Nat)=>(k:Int))=[]↔ap=[]:=by simp
 have ha1:σ.length<=Ja.length:=K1.len
 generalize Bu:Ja++[.list (iL (ap.map λ(k:Nat)=>(k:Int)))]++[.list []]=Cb at*
 rw[Dc (fn:=oG) rfl,Bd [aa (.ref A.i),aa (.ref S.i),aa (.ref P.i),aa (.int o),ba,ba,ba,ba,ba,ba,ba,ba,ba] rfl rfl];have xw:=xe (σ:=Ja) (b:=(nv:Nat)) (by omega);have vw:=Ie (σ:=Ja) (b:=(nv:Nat)) (by omega)
 by_cases Mz:ap=[]
 ·refine⟨Cb,ms,F,room,?_,(SS.k0 K2).more (by omega),K2.mono (λi hi=>by cases hi),RE,rfl,λk m hk=>⟨m,hk,?_⟩⟩
  ·rw[decide_eq_true (hap0.mpr Mz)]at heq
   simp only[oG,EV,LS,PP.rReach,Wc,e1,Nat.reduceAdd,Nat.reduceLT,if_true,CS1.attr (scr:=scr),Nb,vc,Ni,xw,vw,hc,Ti,hnl1,Dk,Bu,heq]
  ·have:Th able ats F o k=false:=by
    by_cases q:Th able ats F o k=true
    ·have:=(hapm k).mpr ⟨by rw[<-hms];exact(ca.mp hk).1,q⟩
     rw[Mz]at this;cases this
    ·simpa using q
   rw[this];exact .no (hm8 m (ma hk)).2
 ·rw[decide_eq_false (mt hap0.mp Mz)]at heq
  have Oq:=SS.k0 K2;have Op:=CS.k0 K2;have PP2:=PP.k0 K2;have reasons:∃ae r rs o7,Vf (Ga scr) (Oa (Ga scr) yb n) (.ifs (.base (.var 5)) [.assign (.var 7) (.comp 2 (.call (.con (.type "range")) [(.call (.con (.builtin "len")) [(.attr (.var 0) "wanted")])]) (.var 14) [(.and (.base (.cmp .NotIn (.var 14) (.var 4))) (.base (.cmp .Gt (.sub (.attr (.var 0) "lows") (.var 14)) (.int 0))))] [] (.var 14)),.assign (.var 8) (.meth (.var 0) "lacking" [(.var 2),(.var 7)])] [.assign (.var 8) (.meth (.var 0) "confined" [(.var 1),(.var 2),(.var 4)])])
   [aa (.ref A.i),aa (.ref S.i),aa (.ref P.i),aa (.int o),aa (.ref lF),aa (.bool room),aa (.ref Ja.length),ba,ba,ba,ba,ba,ba] Cb
   =aa (.next,[aa (.ref A.i),aa (.ref S.i),aa (.ref P.i),aa (.int o),aa (.ref lF),aa (.bool room),aa (.ref Ja.length),o7,aa (.ref r),ba,ba,ba,ba],ae)/\ib [] Cb ae/\ae[r]? =aa (.list rs)/\rs.length<=100/\Cb.length<=r:=by
   cases room with
   |true=>
    have Ir:(iL ws).length=ws.length:=by simp
    have hc2:re 5000 (.st (gd 0 (ws.length:Nat))) 0 (Ec (Ga scr) (Oa (Ga scr) yb n) 2 (.var 14) [(.and (.base (.cmp .NotIn (.var 14) (.var 4))) (.base (.cmp .Gt (.sub (.attr (.var 0) "lows") (.var 14)) (.int 0))))] [] (.var 14) [aa (.ref A.i),aa (.ref S.i),aa (.ref P.i),aa (.int o),aa (.ref lF),aa (.bool true),aa (.ref Ja.length),ba,ba,ba,ba,ba,ba]) Cb
     =aa ((gd 0 (ws.length:Nat)).flatMap (λv=>match v with| .int i=>if Bo F ls i.toNat then[v]else[]|_=>[]),Cb):=by
     refine We _ (λk=>rfl) (λv hv=> ?_) (by rw[jd];omega);obtain⟨k,hk⟩:=ic hv;rw[gf]at hk
     split at hk<;>cases hk
     rename_i hk;have hlk:ls[k]? =aa (ls.getD k 0):=by rw[Xa,da (by omega)];rfl
     by_cases q1:(k:Int)∈F<;>by_cases q2:0<ls.getD k 0<;>simp only[Ec,yd,Aa,wb,Db,EV,LS,Pi hF2,Op.attr (scr:=scr),Rc Op.hlo hlk,rl,ze,Bo,q1,q2,decide_true,decide_false,Zb,qc,Rg,bk,Lo,not_true_eq_false,not_false_eq_true,if_true,Nc,if_false]
    rw[rv,Ti]at hc2;have yw:((Ua ws.length).filter (Bo F ls)).length<=ws.length:=by
     have:=Ub (Bo F ls) (Ua ws.length)
     simpa using this
    have hsr:∀p∈((Ua ws.length).filter (Bo F ls)).map (λ(k:Nat)=>(k:Int)),0<=p/\p<ws.length:=by
     intro p hp;obtain⟨k,hk,rfl⟩:=Bb.mp hp;have:=ng.mp (jc.mp hk).1;omega
    have hshl:(((Ua ws.length).filter (Bo F ls)).map (λ(k:Nat)=>(k:Int))).length<=2:=by rw[ja];omega
    generalize ((Ua ws.length).filter (Bo F ls)).map (λ(k:Nat)=>(k:Int))=sh at hc2 hsr hshl
    have hnl3:=Ab (xs:=iL sh) (σ:=Cb) (by rw[ja];omega);have oB:=vb (σ:=Cb) (o:=.list (iL sh));have lz:=Op.k0 (ib.app [.list (iL sh)]);obtain⟨ae,r,rs,e3,K3,hr3,Gn,hrσ⟩:=ft (scr:=scr) (n:=n) lz (PP2.app [.list (iL sh)]) hnv Sx oB (by omega) hsr (by omega);refine⟨ae,r,rs,aa (.ref Cb.length),?_,(ib.app _).trans K3,hr3,Gn,by simp at hrσ;omega⟩;simp only[EV,LS,Op.attr (scr:=scr),Nb,vc,wc Op.hwa,Ir,xe (σ:=Cb) (b:=(ws.length:Nat)) (by omega),Ie (σ:=Cb) (b:=(ws.length:Nat)) (by omega),hc2,hnl3,lz.meth (scr:=scr),Wc,e3,Nat.reduceAdd,Nat.reduceLT,if_true]
   |false=>
    obtain⟨ae,r,rs,e3,K3,hr3,Gn,hrσ⟩:=Rq (scr:=scr) (n:=n) Oq Op PP2 hms hm8 hnv Sx hF2 (by omega) (by omega);refine⟨ae,r,rs,ba,?_,K3,hr3,Gn,hrσ⟩;simp only[EV,LS,Op.meth (scr:=scr),Wc,e3,Nat.reduceAdd,Nat.reduceLT,if_true]
  obtain⟨ae,r,rs,o7,e3,K3,hr3,Gn,hrσ⟩:=reasons;have sz:=Oq.k0 K3;have lz:=Op.k0 K3;have hSl:∀a:Nat,σ.length<=a->a∉Ur S:=λa ha q=>by
   have:=SS.lt a (by simp only[Ur,Fa,Za,or_false]at q;simp only[Dr.all,Fa,Za,or_false];rcases q with h|h|h<;>simp[h]);omega
  have hrS:r∉Ur S:=hSl r (by have:=K2.len;omega);have oB:=K3.old _ _ hg1' (by simp);obtain⟨Qb,Ca,e4,o9,o10,nx,o12,Sf,rfl,Rp,K',dp,xr⟩:=Xe (xs:=iL (ap.map λ(k:Nat)=>(k:Int))) (it:=.dyn Ja.length) (me:=[aa (.ref A.i),aa (.ref S.i),aa (.ref P.i),aa (.int o),aa (.ref lF),aa (.bool room),aa (.ref Ja.length),o7,aa (.ref r),ba,ba,ba,ba]) (σ:=ae)
   (F:=Ce (Ga scr) (Oa (Ga scr) yb n) (.var 9) [.assign (.var 10) (.sub (.attr (.var 0) "taken") (.var 9)),.assign (.var 12) (.comp 2 (.call (.con (.ref 61)) [(.meth (.var 1) "dom" [(.var 10)])]) (.var 14) [(.base (.cmp .NotIn (.var 14) (.attr (.var 0) "wanted")))] [] (.var 14)),.fors (.var 11) (.ite (.base (.cmp .Lt (.var 3) (.call (.con (.builtin "len")) [(.attr (.var 0) "wanted")]))) (.list [(.sub (.attr (.var 0) "wanted") (.var 3))]) (.var 12)) [.ifs (.not (.base (.meth (.var 1) "strike" [(.tup [(.var 10),(.str "!="),(.var 11)]),(.var 8)]))) [.ret (.bool false)] []]])
   (λk me τ=>∃o9 o10 nx o12 Sf,me=[aa (.ref A.i),aa (.ref S.i),aa (.ref P.i),aa (.int o),aa (.ref lF),aa (.bool room),aa (.ref Ja.length),o7,aa (.ref r),o9,o10,nx,o12]/\Tg S τ Sf failed (tl+3*k)/\ib (Ur S) ae τ/\Sf.length=ms.length/\
    (∀j m,ms[j]? =aa m->∃m',Sf[j]? =aa m'/\xm ws o (decide (j∈ap.take k)) m m'))
   (λk me τ ⟨_,_,_,_,_,_,_,K,_⟩ _=>se (K.old _ _ oB (hSl _ ha1)))
   (λk v me τ hv ⟨o9,o10,nx,o12,Sf,Wg,SSt,K,dp,xr⟩=>by
    subst Wg;rw[za,za]at hv;cases hq:ap[k]? with
    |none=>rw[hq]at hv;cases hv
    |some k0=>
     rw[hq]at hv;cases hv;have hkl:k<ap.length:=(ca.mp hq).1;obtain⟨iu,hab⟩:=(hapm k0).mp (ma hq);obtain⟨m,hm⟩:∃m,ms[k0]? =aa m:=⟨ms[k0]'(by omega),da _⟩;obtain⟨m',Xj,hsa⟩:=xr k0 m hm;have Ux:k0∉ap.take k:=λq=>by
      obtain⟨j,hj,hjo⟩:=zf q;simp only[lg]at hj;rw[xD]at hjo;have hj':j<ap.length:=by omega
      have e1:ap[j]? =aa k0:=by rw[da hj',hjo]
      have:=(Ik hj' hapn).mp (e1.trans hq.symm);omega
     rw[decide_eq_false Ux]at hsa;have ww:m'=m:=CE hsa.1 (hm8 m (ma hm)).2 (λu hu=>by rw[hsa.2 u hu];simp);subst ww;obtain⟨a,ha⟩:∃a,ats[k0]? =aa a:=⟨ats[k0]'(by omega),da _⟩;obtain⟨u0,hu,hu1,hu2⟩:=HM k0 m' a hm ha;have haF:a∉F:=by
      unfold Th at hab;rw[ha]at hab
      split at hab
      ·rename_i row a' _ h2
       cases h2;simp only[La,decide_eq_true_eq]at hab;exact hab.2
      ·cases hab
     have hu3:ws.idxOf u0≠o:=λq=>haF (by rw[<-hu2,q];exact RE.opt);have mz:cn A τ nv ws ls hs rows:=lz.keep K (λa ha q=>hSA a q ha);obtain⟨o10',mn,o12',dh,ms4,m4,e5,SS4,K4,h1,h2,h3,h4⟩:=Ku (scr:=scr) (cf:=n) (v2:=aa (.ref P.i)) (v4:=aa (.ref lF)) (v5:=aa (.bool room)) (v6:=aa (.ref Ja.length)) (v7:=o7) (v9:=o9) SSt mz (by omega) hnv iu Xj hsa.1 hwn hwr ho (by omega) (K.old _ _ hr3 hrS) hrS (by omega) (by omega) hu hu1 hu3 (by omega) o10 nx o12;refine⟨[aa (.ref A.i),aa (.ref S.i),aa (.ref P.i),aa (.int o),aa (.ref lF),aa (.bool room),aa (.ref Ja.length),o7,aa (.ref r),aa (.int k0),o10',mn,o12'],dh,e5,aa (.int k0),o10',mn,o12',ms4,rfl,SS4.more (by omega),K.trans K4,by omega,λj m hj=> ?_⟩
     by_cases q:j=k0
     ·subst q
      rw[hm]at hj;cases hj;refine⟨m4,h3,?_⟩;have:j∈ap.take (k+1):=by rw[Yb,hq];simp
      rw[decide_eq_true this];exact h4
     ·obtain⟨m5,hm5,hs5⟩:=xr j m hj
      refine⟨m5,by rw[h2 j q];exact hm5,?_⟩;have:decide (j∈ap.take (k+1))=decide (j∈ap.take k):=by
       rw[Yb,hq];simp[q]
      rw[this];exact hs5)
   (by rw[ja,ja];omega) ⟨ba,ba,ba,ba,ms,rfl,sz,.refl,rfl,λj m hj=>⟨m,hj,by simpa using xm.no (hm8 m (ma hj)).2⟩⟩
  rw[ja,ja,Xd]at xr;rw[ja,ja]at Rp;refine⟨Ca,Sf,F,room,?_,Rp.more (by omega),((K2.trans K3).mono (λi hi=>by cases hi)).trans K',RE,dp,λj m hj=> ?_⟩
  ·have h1:Vf (Ga scr) (Oa (Ga scr) yb n) (.assign (.tup [(.var 4),(.var 5)]) (.meth (.var 2) "reached" [(.var 3)])) [aa (.ref A.i),aa (.ref S.i),aa (.ref P.i),aa (.int o),ba,ba,ba,ba,ba,ba,ba,ba,ba] σ
    =aa (.next,[aa (.ref A.i),aa (.ref S.i),aa (.ref P.i),aa (.int o),aa (.ref lF),aa (.bool room),ba,ba,ba,ba,ba,ba,ba],Ja):=by
    simp only[EV,LS,PP.rReach,Wc,e1,Nat.reduceAdd,Nat.reduceLT,if_true]
   have h2:Vf (Ga scr) (Oa (Ga scr) yb n) (.assign (.var 6) (.comp 2 (.call (.con (.type "range")) [(.call (.con (.builtin "len")) [(.attr (.var 0) "taken")])]) (.var 14) [(.and (.base (.cmp .In (.var 3) (.sub (.attr (.var 2) "able") (.var 14)))) (.base (.cmp .NotIn (.sub (.attr (.var 2) "at") (.var 14)) (.var 4))))] [] (.var 14))) [aa (.ref A.i),aa (.ref S.i),aa (.ref P.i),aa (.int o),aa (.ref lF),aa (.bool room),ba,ba,ba,ba,ba,ba,ba] Ja
    =aa (.next,[aa (.ref A.i),aa (.ref S.i),aa (.ref P.i),aa (.int o),aa (.ref lF),aa (.bool room),aa (.ref Ja.length),ba,ba,ba,ba,ba,ba],Ja++[.list (iL (ap.map λ(k:Nat)=>(k:Int)))]):=by
    simp only[EV,LS,Nat.reduceAdd,Nat.reduceLT,if_true,CS1.attr (scr:=scr),Nb,vc,Ni,xw,vw,hc,Ti,hnl1]
   have h3:Vf (Ga scr) (Oa (Ga scr) yb n) (.ifs (.base (.cmp .Eq (.var 6) (.list []))) [.ret (.bool true)] []) [aa (.ref A.i),aa (.ref S.i),aa (.ref P.i),aa (.int o),aa (.ref lF),aa (.bool room),aa (.ref Ja.length),ba,ba,ba,ba,ba,ba] (Ja++[.list (iL (ap.map λ(k:Nat)=>(k:Int)))])
    =aa (.next,[aa (.ref A.i),aa (.ref S.i),aa (.ref P.i),aa (.int o),aa (.ref lF),aa (.bool room),aa (.ref Ja.length),ba,ba,ba,ba,ba,ba],Cb):=by
    simp only[EV,LS,Dk,Bu,heq]
   simp only[oG];rw[Ud,h1];simp only[];rw[Ud,h2];simp only[];rw[Ud,h3];simp only[];rw[Ud,e3];simp only[];simp only[Ud,Ij,EV,LS,Oc oB,e4]
  ·obtain⟨m',Xj,hs'⟩:=xr j m hj
   refine⟨m',Xj,?_⟩;have:decide (j∈ap)=Th able ats F o j:=by
    have hjl:j<nv:=by rw[<-hms];exact(ca.mp hj).1
    by_cases q:Th able ats F o j=true
    ·rw[q];exact decide_eq_true ((hapm j).mpr ⟨hjl,q⟩)
    ·rw[zh]at q
     rw[q];exact decide_eq_false λz=>by rw[((hapm j).mp z).2]at q;cases q
   rw[this]at hs';exact hs'
end
end Mine
namespace Mine
def qy (p:Nat->Bool):V->List V
 | .int i=>if p i.toNat then[.int i]else[]
 |_=>[]
theorem Ym {p:Nat->Bool} {k:Nat}:qy p (.int k)=if p k then[.int k]else[]:=by unfold qy;simp only[ze]
theorem yH {nv:Nat} {p:Nat->Bool}:(gd 0 (nv:Nat)).flatMap (qy p)=pd ((Ua nv).filter p):=by
 unfold gd Jj pd;have:((nv:Nat) - 0:Int).toNat=nv:=by omega
 rw[this]
 generalize Ua nv=l
 induction l with
 |nil=>rfl
 |cons k l ih=>
  have e:(0:Int)+(k:Int)=(k:Int):=by omega
  simp only[sa,Dd,ih,Vd,e,Ym]
  by_cases q:p k=true<;>simp[q]
def MA (p:List Int->Bool):Bool:=nD λa=>p [a]&&nD λb=>decide (a=b)||p [a,b]
theorem wx {p:List Int->Bool} (h:MA p=true) {ws:List Int} (hn:ws.Nodup) (hr:∀w∈ws,0<=w/\w<3) (h1:1<=ws.length) (h2:ws.length<=2):p ws=true:=by
 unfold MA at h
 match ws,h1,h2 with
 | [a],_,_=>
  have:=ml h (hr a (by simp));rw[La]at this;exact this.1
 | [a,b],_,_=>
  have:=ml h (hr a (by simp));rw[La]at this;have:=ml this.2 (hr b (by simp));rw[xj]at this;rcases this with q|q
  ·simp at hn;exact absurd (of_decide_eq_true q) hn
  ·exact q
theorem eJ:(Rn λm=>MA λws=>(Ua 3).all λo=>decide ((o:Int)∈Sh m ws)==([0,1,2].any λu=>xf m u&&decide (ws.idxOf u=o)))=true:=by decide+kernel
theorem ZG:(Rn λm=>MA λws=>decide (Sh m ws).Nodup&&(Sh m ws).all λo=>decide (0<=o)&&decide (o<(ws.length:Int)+1))=true:=by decide+kernel
section
variable {ws:List Int} {m:Nat}
theorem pp (h8:m<8) (hn:ws.Nodup) (hr:∀w∈ws,0<=w/\w<3) (h1:1<=ws.length) (h2:ws.length<=2) {o:Nat} (ho:o<3):(o:Int)∈Sh m ws↔∃u:Int,(0<=u/\u<3)/\xf m u=true/\ws.idxOf u=o:=by
 have:=wx (gh eJ h8) hn hr h1 h2;rw[Jb]at this;have:=beq_iff_eq.mp (this o (by simpa using ho));have h:(o:Int)∈Sh m ws↔([0,1,2].any λu=>xf m u&&decide (ws.idxOf u=o))=true:=by rw[<-this];simp
 rw[h];simp only[AF,La,decide_eq_true_eq,Fa,Za,or_false]
 constructor
 ·rintro⟨u,hu,h1,h2⟩;exact⟨u,by omega,h1,h2⟩
 ·rintro⟨u,hu,h1,h2⟩;exact⟨u,by omega,h1,h2⟩
theorem Er (h8:m<8) (hn:ws.Nodup) (hr:∀w∈ws,0<=w/\w<3) (h1:1<=ws.length) (h2:ws.length<=2):(Sh m ws).Nodup/\∀o∈Sh m ws,0<=o/\o<((ws.length+1:Nat):Int):=by
 have:=wx (gh ZG h8) hn hr h1 h2;simp only[La,decide_eq_true_eq,Jb]at this;exact⟨this.1,λo ho=>by have:=this.2 o ho;omega⟩
end
section
variable {S:Dr} {A:pu} {P:Mq} {σ Ca:St} {ms:List Nat} {failed:Bool} {tl nv:Nat} {ws ls hs:List Int} {rows:V} {scr:Nat->Option (List Int)} {n m x M o:Nat} {able:List (List Int)} {lows highs ats counts:List Int}
structure Ch (S:Dr) (A:pu) (ms:List Nat) (nv:Nat) (ws ls hs:List Int):Prop where
 hms:ms.length=nv
 hnv:1<=nv/\nv<=3
 hm8:∀m∈ms,0<m/\m<8
 wn:ws.Nodup
 wr:∀w∈ws,0<=w/\w<3
 wl:1<=ws.length/\ws.length<=2
 ll:ls.length=ws.length
 hl:hs.length=ws.length
 h0:∀h∈hs,0<=h
 apart:∀a∈S.all,a∉A.all
abbrev xd (ms:List Nat) (ws:List Int):List (List Int):=ms.map λm=>Sh m ws
abbrev xc (ls:List Int):List Int:=ls++[0]
abbrev Ue (hs:List Int) (nv:Nat):List Int:=hs++[(nv:Int)+1]
theorem Ch.rowAt {k:Nat} {r:List Int} (U:Ch S A ms nv ws ls hs) (h:(xd ms ws)[k]? =aa r):∃m,ms[k]? =aa m/\r=Sh m ws/\m<8:=by
 rw[za]at h;cases hm:ms[k]? with
 |none=>rw[hm]at h;cases h
 |some m=>rw[hm]at h;cases h;exact⟨m,rfl,rfl,(U.hm8 m (ma hm)).2⟩
theorem AD (SS:Tg S σ ms failed tl) (CS:cn A σ nv ws ls hs rows) (U:Ch S A ms nv ws ls hs) (hn:4<=n):
 ∃(Ca:St) (as:List Nat),re 5000 (.st (pd (Ua nv))) 0 (Ec (Ga scr) (Oa (Ga scr) yb n) 2 (.var 10) [] [] (.meth (.var 0) "options_of" [(.var 1),(.var 10)]) [aa (.ref A.i),aa (.ref S.i),ba,ba,ba,ba,ba,ba,ba]) σ=aa (as.map V.ref,Ca)/\ib [] σ Ca/\as.length=nv/\(∀a∈as,σ.length<=a)/\
  (∀(k:Nat) r,(xd ms ws)[k]? =aa r->∃a,as[k]? =aa a/\Ca[a]? =aa (.list (iL r))):=by
 obtain⟨out,Ca,e,as,rfl,Dn,K,hge,qf⟩:=pf (xs:=pd (Ua nv)) (it:=.st (pd (Ua nv))) (σ:=σ)
  (F:=Ec (Ga scr) (Oa (Ga scr) yb n) 2 (.var 10) [] [] (.meth (.var 0) "options_of" [(.var 1),(.var 10)]) [aa (.ref A.i),aa (.ref S.i),ba,ba,ba,ba,ba,ba,ba])
  (λk Cc τ=>∃as:List Nat,Cc=as.map V.ref/\as.length=k/\ib [] σ τ/\(∀a∈as,σ.length<=a)/\(∀(j:Nat) r,j<k->(xd ms ws)[j]? =aa r->∃a,as[j]? =aa a/\τ[a]? =aa (.list (iL r))))
  (λ_ _ _ _ _=>rfl)
  (λk v Cc τ hv ⟨as,lh,Dn,K,hge,qf⟩=>by
   unfold pd at hv;rw[za]at hv;cases hk:(Ua nv)[k]? with
   |none=>rw[hk]at hv;cases hv
   |some k'=>
    rw[hk]at hv;cases hv;have hkn:=(ca.mp hk).1;rw[Lk]at hkn;rw[Nh hkn]at hk;cases hk;obtain⟨m,hm⟩:∃m,ms[k]? =aa m:=⟨ms[k]'(by have:=U.hms;omega),da _⟩;obtain⟨Cb,l,e1,K1,hl,hlg⟩:=bA (scr:=scr) (n:=n) (SS.k0 K) (CS.k0 K) hm (U.hm8 m (ma hm)).2 U.wr (by have:=U.wl;omega) hn;refine⟨[.ref l],Cb,?_,as++[l],by rw[lh];simp,by simp[Dn],K.trans K1,λa ha=>(by
     rcases db.mp ha with h|h
     ·exact hge a h
     ·simp at h;subst h;exact Eb K.len hlg),λj r hj hr=> ?_⟩
    ·simp only[Ec,yd,Aa,wb,Db,EV,LS,(CS.k0 K).meth (scr:=scr),Wc,e1]
    ·by_cases q:j<k
     ·obtain⟨a,h1,h2⟩:=qf j r q hr
      exact⟨a,by rw[ta (by omega)];exact h1,K1.old _ _ h2 (by simp)⟩
     ·have:j=k:=by omega
      subst this;obtain⟨m',Xj,rfl,_⟩:=U.rowAt hr;rw[hm]at Xj;cases Xj;exact⟨l,by rw[Ra (by omega),Dn];simp,hl⟩)
  (by unfold pd;have:=U.hnv;rw[ja,Lk];omega) ⟨[],rfl,rfl,.refl,(λa h=>(Za h).elim),λj r h=>absurd h (Fe _)⟩
 have hlen:(pd (Ua nv)).length=nv:=by unfold pd;simp
 rw[hlen]at Dn qf;refine⟨Ca,as,e,K,Dn,hge,λk r h=>qf k r ?_ h⟩;have:=(ca.mp h).1;rw[ja,U.hms]at this;exact this
def dq (ls hs:List Int) (k:Nat):Bool:=decide (hs.getD k 0<ls.getD k 0)
def ug (ls hs:List Int):List Nat:=(Ua ls.length).filter (dq ls hs)
theorem SD (CS:cn A σ nv ws ls hs rows) (U:Ch S A ms nv ws ls hs) {me:Me} (h0:me=[aa (.ref A.i),aa (.ref S.i),ba,ba,ba,ba,ba,ba,ba]):
 re 5000 (.st (gd 0 (ws.length:Nat))) 0 (Ec (Ga scr) (Oa (Ga scr) yb n) 2 (.var 10) [(.base (.cmp .Gt (.sub (.attr (.var 0) "lows") (.var 10)) (.sub (.attr (.var 0) "highs") (.var 10))))] [] (.var 10) me) σ=aa (iL ((ug ls hs).map λ(k:Nat)=>(k:Int)),σ):=by
 subst h0;have hc:re 5000 (.st (gd 0 (ws.length:Nat))) 0 (Ec (Ga scr) (Oa (Ga scr) yb n) 2 (.var 10) [(.base (.cmp .Gt (.sub (.attr (.var 0) "lows") (.var 10)) (.sub (.attr (.var 0) "highs") (.var 10))))] [] (.var 10) [aa (.ref A.i),aa (.ref S.i),ba,ba,ba,ba,ba,ba,ba]) σ
  =aa ((gd 0 (ws.length:Nat)).flatMap (qy (dq ls hs)),σ):=by
  refine We _ (λk=>rfl) (λv hv=> ?_) (by rw[jd];have:=U.wl;omega);obtain⟨k,hk⟩:=ic hv;rw[gf]at hk
  split at hk<;>cases hk
  rename_i hk;have hlk:ls[k]? =aa (ls.getD k 0):=by rw[Xa,da (by have:=U.ll;omega)];rfl
  have hhk:hs[k]? =aa (hs.getD k 0):=by rw[Xa,da (by have:=U.hl;omega)];rfl
  by_cases q:hs.getD k 0<ls.getD k 0<;>simp only[Ec,yd,Aa,wb,Db,EV,LS,CS.attr (scr:=scr),Rc CS.hlo hlk,Rc CS.hhi hhk,rl,Ym,dq,q,decide_true,decide_false,if_true,Nc,if_false]
 rw[yH,Ti]at hc;unfold ug;rw[U.ll];exact hc
theorem Zo {k:Nat} (h:k<ls.length):(xc ls)[k]? =aa (ls.getD k 0):=by
 rw[ta h,Xa,da h];rfl
theorem gq {k:Nat} (h:k<hs.length):(Ue hs nv)[k]? =aa (hs.getD k 0):=by
 rw[ta h,Xa,da h];rfl
theorem RD (U:Ch S A ms nv ws ls hs) {able:List (List Int)} {a:List Int} (h:ug ls hs≠[]) (V:Sp able (xc ls) (Ue hs nv) a):False:=by
 obtain⟨k,hk⟩:=List.exists_mem_of_ne_nil _ h;unfold ug dq at hk;simp only[jc,ng,decide_eq_true_eq]at hk;have h1:=V.lo k _ (Zo hk.1);have h2:=V.hi k _ (gq (by have:=U.ll;have:=U.hl;omega));omega
theorem QD (U:Ch S A ms nv ws ls hs) (h:ug ls hs=[]):∀(o:Nat) l hh,(xc ls)[o]? =aa l->(Ue hs nv)[o]? =aa hh->l<=hh:=by
 intro o l hh h1 h2
 by_cases q:o<ls.length
 ·rw[Zo q]at h1;cases h1
  rw[gq (by have:=U.ll;have:=U.hl;omega)]at h2;cases h2;have:o∉ug ls hs:=by rw[h];simp
  unfold ug dq at this;simp only[jc,ng,decide_eq_true_eq,not_and]at this;have:=this q;omega
 ·have hlen:=(ca.mp h1).1
  have:o=ls.length:=by simp at hlen;omega
  subst this;simp at h1;have e:ls.length=hs.length:=by have:=U.ll;have:=U.hl;omega
  rw[e]at h2;simp at h2;omega
end
end Mine
namespace Mine
section
variable {S:Dr} {A:pu} {P:Mq} {σ Ca:St} {ms:List Nat} {failed:Bool} {tl nv:Nat} {ws ls hs:List Int} {rows:V} {scr:Nat->Option (List Int)} {n m x M o:Nat} {able:List (List Int)} {lows highs ats counts:List Int}
theorem tv {i:Nat}:Zc .IsNot (.ref i) .none σ=aa true:=rfl
theorem isNot_none:Zc .IsNot .none .none σ=aa false:=rfl
def LH (S:Dr) (A:pu) (P:Mq):Prop:=∀a∈P.all,a∉S.all/\a∉A.all
theorem LH.k (h:LH S A P) (SS:Tg S σ ms failed tl) (K:ib [P.at_,P.co] σ Ca):Tg S Ca ms failed tl:=SS.keep K (λa ha q=>by
 simp only[Fa,Za,or_false]at q;rcases q with rfl|rfl
 ·exact(h _ (by simp[Mq.all])).1 ha
 ·exact(h _ (by simp[Mq.all])).1 ha)
theorem LH.kA (h:LH S A P) (CS:cn A σ nv ws ls hs rows) (K:ib [P.at_,P.co] σ Ca):cn A Ca nv ws ls hs rows:=CS.keep K (λa ha q=>by
 simp only[Fa,Za,or_false]at q;rcases q with rfl|rfl
 ·exact(h _ (by simp[Mq.all])).2 ha
 ·exact(h _ (by simp[Mq.all])).2 ha)
theorem MC {cf:Nat} {v3:V} (SS:Tg S σ ms failed tl) (CS:cn A σ nv ws ls hs rows) (U:Ch S A ms nv ws ls hs) (hO:LH S A P) (Dn:able.length=nv) (PP:ij P σ able lows highs ats counts) (WF:Wf able ats M) (C:Gq ats counts lows highs M) (h0:∀j,j<nv->ats[j]? =aa (-1)) (hM:M<4) (hn:4<=cf):
 (∃o2 o5 o6 Ca ats' Vb,Ye 5000 (.st (gd 0 (nv:Nat))) 0 (Ce (Ga scr) (Oa (Ga scr) yb cf) (.var 5) [.assign (.var 6) (.meth (.var 4) "place" [(.var 5)]),.ifs (.base (.cmp .IsNot (.var 6) .none)) [.assign (.var 2) (.sub (.attr (.var 0) "taken") (.var 5)),.ret (.meth (.var 1) "fail" [(.bin .Add (.meth (.var 0) "confined" [(.var 1),(.var 4),(.var 6)]) (.call (.con (.ref 309)) [(.var 2),(.meth (.var 1) "dom" [(.var 2)])]))])] []]) [aa (.ref A.i),aa (.ref S.i),ba,aa v3,aa (.ref P.i),ba,ba,ba,ba] σ
  =aa (.next,[aa (.ref A.i),aa (.ref S.i),o2,aa v3,aa (.ref P.i),o5,o6,ba,ba],Ca)/\ib [P.at_,P.co] σ Ca/\ij P Ca able lows highs ats' Vb/\Wf able ats' M/\Gq ats' Vb lows highs M/\Wh able ats')\/
 (∃Qb Ca,Ye 5000 (.st (gd 0 (nv:Nat))) 0 (Ce (Ga scr) (Oa (Ga scr) yb cf) (.var 5) [.assign (.var 6) (.meth (.var 4) "place" [(.var 5)]),.ifs (.base (.cmp .IsNot (.var 6) .none)) [.assign (.var 2) (.sub (.attr (.var 0) "taken") (.var 5)),.ret (.meth (.var 1) "fail" [(.bin .Add (.meth (.var 0) "confined" [(.var 1),(.var 4),(.var 6)]) (.call (.con (.ref 309)) [(.var 2),(.meth (.var 1) "dom" [(.var 2)])]))])] []]) [aa (.ref A.i),aa (.ref S.i),ba,aa v3,aa (.ref P.i),ba,ba,ba,ba] σ
  =aa (.ret (.bool false),Qb,Ca)/\ib [P.at_,P.co,S.d] σ Ca/\Tg S Ca ms true tl/\∀a,¬Sp able lows highs a):=by
 have hnv:=U.hnv;have L:=Dj (xs:=gd 0 (nv:Nat)) (it:=.st (gd 0 (nv:Nat)))
  (F:=Ce (Ga scr) (Oa (Ga scr) yb cf) (.var 5) [.assign (.var 6) (.meth (.var 4) "place" [(.var 5)]),.ifs (.base (.cmp .IsNot (.var 6) .none)) [.assign (.var 2) (.sub (.attr (.var 0) "taken") (.var 5)),.ret (.meth (.var 1) "fail" [(.bin .Add (.meth (.var 0) "confined" [(.var 1),(.var 4),(.var 6)]) (.call (.con (.ref 309)) [(.var 2),(.meth (.var 1) "dom" [(.var 2)])]))])] []])
  (λk me τ=>∃o2 o5 o6 ats' Vb,me=[aa (.ref A.i),aa (.ref S.i),o2,aa v3,aa (.ref P.i),o5,o6,ba,ba]/\ib [P.at_,P.co] σ τ/\ij P τ able lows highs ats' Vb/\Wf able ats' M/\Gq ats' Vb lows highs M/\(∀j,j<k->∃a,ats'[j]? =aa a/\a≠ -1)/\(∀j,k<=j->j<nv->ats'[j]? =aa (-1)))
  (λv me τ=>v=.bool false/\ib [P.at_,P.co,S.d] σ τ/\Tg S τ ms true tl/\∀a,¬Sp able lows highs a)
  (λk me τ _ _=>rfl)
  (λk v me τ hv ⟨o2,o5,o6,ats',Vb,Wg,K,PP,WF,C,hlo,hhi⟩=>by
   subst Wg;rw[gf]at hv
   split at hv<;>cases hv
   rename_i hk;have SSt:=hO.k SS K;have mz:=hO.kA CS K;have hal':ats'.length=nv:=by rw[WF.len];exact Dn
   rcases NE (scr:=scr) (n:=cf) (member:=k) (by omega) (by omega) PP WF C (hhi k (Le _) hk) (by omega)with⟨Cb,e1,K1,vu,To,PP2,WF2,C2,hm2,xr,hid⟩|⟨Cb,l,F,e1,K1,PP2,hF,FU,qf⟩
   ·left
    refine⟨[aa (.ref A.i),aa (.ref S.i),o2,aa v3,aa (.ref P.i),aa (.int k),aa .none,ba,ba],Cb,?_,o2,aa (.int k),aa .none,vu,To,rfl,K.trans K1,PP2,WF2,C2,λj hj=> ?_,λj hj hjn=> ?_⟩
    ·unfold Ce
     rw[be (by simp)];simp only[EV,LS,PP.rPlace,Wc,e1,Nat.reduceAdd,Nat.reduceLT,if_true,isNot_none]
    ·by_cases q:j=k
     ·subst q;exact hm2
     ·obtain⟨a,h1,h2⟩:=hlo j (by omega)
      exact xr j a h1 h2
    ·exact hid j (by omega) (hhi j (by omega) hjn)
   ·right
    have Oq:=hO.k SSt K1;have Op:=hO.kA mz K1;have hFl:F.length<=4:=by have:=we FU.nd FU.rng;omega
    obtain⟨ae,r1,xs1,e2,K2,hx1,hxl1,_⟩:=Rq (scr:=scr) (n:=cf) Oq Op PP2 U.hms U.hm8 hnv.2 hal' hF hFl (by omega);have sz:=Oq.k0 K2;have lz:=Op.k0 K2;obtain⟨m,hm⟩:∃m,ms[k]? =aa m:=⟨ms[k]'(by have:=U.hms;omega),da _⟩;have hm8:=U.hm8 m (ma hm);obtain⟨r2,E,xs2,e3,hx2,hxl2,_⟩:=gr (scr:=scr) (n:=cf) (σ:=ae) (x:=(k:Int)) hm8.2 (by omega) (by omega) (by omega);have hx1':=ub (os:=E) hx1;have ak:=Ab (xs:=xs1++xs2) (σ:=ae++E) (by rw[Ib];omega);have hg:=vb (σ:=ae++E) (o:=.list (xs1++xs2));obtain⟨dh,e4,SS4,K4⟩:=sw (scr:=scr) (n:=cf) (r:=.ref (ae++E).length) ((sz.app E).app [.list (xs1++xs2)]) (Pb hg) (by rw[Ib];omega) (by omega);have K':ib [P.at_,P.co,S.d] σ dh:=by
     have k1:ib [P.at_,P.co,S.d] σ ae:=((K.trans K1).trans (K2.mono (λi hi=>by cases hi))).mono (λi hi=>.inl (by simp only[Fa,Za,or_false]at hi|-;rcases hi with h|h<;>simp[h]));exact((k1.trans (ib.app E)).trans (ib.app [.list (xs1++xs2)])).trans (K4.mono (λi hi=>.inl (by simp only[Fa,Za,or_false]at hi|-;simp[hi])))
    refine⟨.bool false,[aa (.ref A.i),aa (.ref S.i),aa (.int k),aa v3,aa (.ref P.i),aa (.int k),aa (.ref l),ba,ba],dh,?_,rfl,K',SS4,λa V=> ?_⟩
    ·unfold Ce
     rw[be (by simp)];simp only[EV,LS,PP.rPlace,Wc,e1,Nat.reduceAdd,Nat.reduceLT,if_true,tv,Op.attr (scr:=scr),Wk hk,Oq.meth (scr:=scr),Op.meth (scr:=scr),e2,sz.meth (scr:=scr),Js sz hm (by omega:1<=cf),Uc (scr:=scr) (a:=309) rfl,e3,Cf,Pb hx1',Pb hx2,ak,e4]
    ·have hka:k<a.length:=by rw[V.len,Dn];exact hk
     obtain⟨p,hp⟩:∃p,a[k]? =aa p:=⟨a[k],da hka⟩;obtain⟨row,hr,hpr⟩:=V.whole k p hp;exact dB WF C FU V (hhi k (Le _) hk) (λq=>by have:=FU.rng _ q;omega) hp (qf row hr p hpr))
  5000 0 [aa (.ref A.i),aa (.ref S.i),ba,aa v3,aa (.ref P.i),ba,ba,ba,ba] σ (by rw[jd];omega) (Ae _) ⟨ba,ba,ba,ats,counts,rfl,.refl,PP,WF,C,λj hj=>absurd hj (Fe _),λj _ hj=>h0 j hj⟩
 rcases L with⟨Qb,Ca,e,o2,o5,o6,ats',Vb,rfl,K,PP,WF,C,hlo,_⟩|⟨v,Qb,Ca,e,rfl,K,Rp,Ys⟩
 ·left
  refine⟨o2,o5,o6,Ca,ats',Vb,e,K,PP,WF,C,λk a ha=> ?_⟩;rw[jd]at hlo;have hkn:k<nv:=by rw[<-Dn,<-WF.len];exact(ca.mp ha).1
  obtain⟨a',h1,h2⟩:=hlo k hkn;rw[ha]at h1;cases h1;rcases WF.ok k a ha with q|q
  ·exact absurd q h2
  ·exact q
 ·right;exact⟨Qb,Ca,e,K,Rp,Ys⟩
theorem ZJ {F:List Int} {wanted:Nat} (LK:JH able ats counts (xc ls) (ls.length+1) F) (C:Gq ats counts (xc ls) highs (ls.length+1)) (hwan:wanted<ls.length) (hsome:∀o∈F,o≠(wanted:Int)->∃k:Nat,ats[k]? =aa o):∀p∈F,0<=p/\p<ls.length:=by
 intro p hp;have hr:=LK.rng p hp;obtain⟨pN,rfl⟩:=pc hr.1;refine⟨by omega,?_⟩
 by_cases q:pN<ls.length
 ·omega
 ·exfalso
  have e:pN=ls.length:=by omega
  subst e;have hc:=C.cnt ls.length (by omega);have:=LK.spare ls.length _ 0 hp hc (by simp);obtain⟨k,hk⟩:=hsome _ hp (by omega);have:=List.count_pos_iff.mpr (ma hk);omega
theorem Ez {cf wanted:Nat} {o2 o5 o6 o8:Option V} {v3:V} (SS:Tg S σ ms failed tl) (CS:cn A σ nv ws ls hs rows) (U:Ch S A ms nv ws ls hs) (hO:LH S A P) (Dn:able.length=nv) (PP:ij P σ able (xc ls) highs ats counts) (WF:Wf able ats (ws.length+1)) (WH:Wh able ats) (C:Gq ats counts (xc ls) highs (ws.length+1)) (hlh:∀(o:Nat) l h,(xc ls)[o]? =aa l->highs[o]? =aa h->l<=h) (hw:wanted<ws.length)
 (mB:∀(j:Nat) x l,j<wanted->counts[j]? =aa x->(xc ls)[j]? =aa l->l<=x) (hn:4<=cf):
 (∃Eu Ca ats' Vb,Gi 5000 (Ug (Ga scr) (Oa (Ga scr) yb cf) (.base (.cmp .Lt (.sub (.attr (.var 4) "counts") (.var 7)) (.sub (.attr (.var 0) "lows") (.var 7))))) (wf (Ga scr) (Oa (Ga scr) yb cf) [.assign (.var 8) (.meth (.var 4) "fill" [(.var 7)]),.ifs (.base (.cmp .IsNot (.var 8) .none)) [.ret (.meth (.var 1) "fail" [(.meth (.var 0) "lacking" [(.var 4),(.var 8)])])] []]) [aa (.ref A.i),aa (.ref S.i),o2,aa v3,aa (.ref P.i),o5,o6,aa (.int wanted),o8] σ
  =aa (.next,[aa (.ref A.i),aa (.ref S.i),o2,aa v3,aa (.ref P.i),o5,o6,aa (.int wanted),Eu],Ca)/\ib [P.at_,P.co] σ Ca/\ij P Ca able (xc ls) highs ats' Vb/\Wf able ats' (ws.length+1)/\Wh able ats'/\Gq ats' Vb (xc ls) highs (ws.length+1)/\(∀(j:Nat) x l,j<wanted+1->Vb[j]? =aa x->(xc ls)[j]? =aa l->l<=x))\/
 (∃Qb Ca,Gi 5000 (Ug (Ga scr) (Oa (Ga scr) yb cf) (.base (.cmp .Lt (.sub (.attr (.var 4) "counts") (.var 7)) (.sub (.attr (.var 0) "lows") (.var 7))))) (wf (Ga scr) (Oa (Ga scr) yb cf) [.assign (.var 8) (.meth (.var 4) "fill" [(.var 7)]),.ifs (.base (.cmp .IsNot (.var 8) .none)) [.ret (.meth (.var 1) "fail" [(.meth (.var 0) "lacking" [(.var 4),(.var 8)])])] []]) [aa (.ref A.i),aa (.ref S.i),o2,aa v3,aa (.ref P.i),o5,o6,aa (.int wanted),o8] σ
  =aa (.ret (.bool false),Qb,Ca)/\ib [P.at_,P.co,S.d] σ Ca/\Tg S Ca ms true tl/\∀a,¬Sp able (xc ls) highs a):=by
 have hnv:=U.hnv;have hll:=U.ll;have Ko:=U.wl;have Ir:ls[wanted]? =aa (ls.getD wanted 0):=by rw[Xa,da (by omega)];rfl
 have hlw2:=Zo (ls:=ls) (k:=wanted) (by omega);obtain⟨c0,lB⟩:∃c0,counts[wanted]? =aa c0:=⟨counts[wanted]'(by rw[C.len];omega),da _⟩;have hc0':=C.cnt wanted (by omega);have hc0n:0<=c0:=by rw[lB]at hc0';have:=qh hc0';omega
 have L:=Oi (P:=Ug (Ga scr) (Oa (Ga scr) yb cf) (.base (.cmp .Lt (.sub (.attr (.var 4) "counts") (.var 7)) (.sub (.attr (.var 0) "lows") (.var 7))))) (F:=wf (Ga scr) (Oa (Ga scr) yb cf) [.assign (.var 8) (.meth (.var 4) "fill" [(.var 7)]),.ifs (.base (.cmp .IsNot (.var 8) .none)) [.ret (.meth (.var 1) "fail" [(.meth (.var 0) "lacking" [(.var 4),(.var 8)])])] []])
  (λk me τ=>∃o8 ats' Vb x,me=[aa (.ref A.i),aa (.ref S.i),o2,aa v3,aa (.ref P.i),o5,o6,aa (.int wanted),o8]/\ib [P.at_,P.co] σ τ/\ij P τ able (xc ls) highs ats' Vb/\Wf able ats' (ws.length+1)/\Wh able ats'/\Gq ats' Vb (xc ls) highs (ws.length+1)/\Vb[wanted]? =aa x/\k+x=4/\(∀(j:Nat) x l,j<wanted->Vb[j]? =aa x->(xc ls)[j]? =aa l->l<=x))
  (λme τ=>∃o8 ats' Vb,me=[aa (.ref A.i),aa (.ref S.i),o2,aa v3,aa (.ref P.i),o5,o6,aa (.int wanted),o8]/\ib [P.at_,P.co] σ τ/\ij P τ able (xc ls) highs ats' Vb/\Wf able ats' (ws.length+1)/\Wh able ats'/\Gq ats' Vb (xc ls) highs (ws.length+1)/\(∀(j:Nat) x l,j<wanted+1->Vb[j]? =aa x->(xc ls)[j]? =aa l->l<=x))
  (λv me τ=>v=.bool false/\ib [P.at_,P.co,S.d] σ τ/\Tg S τ ms true tl/\∀a,¬Sp able (xc ls) highs a)
  (λk me τ ⟨o8,ats',Vb,x,Wg,K,PP,WF,WH,C,hx,hkx,mB⟩=>by
   subst Wg;have SSt:=hO.k SS K;have mz:=hO.kA CS K;have hal':ats'.length=nv:=by rw[WF.len];exact Dn
   by_cases wh:x<ls.getD wanted 0
   ·right
    refine⟨τ,by simp only[EV,LS,PP.gCo,Rc PP.hco hx,mz.attr (scr:=scr),Rc mz.hlo Ir,Ck,wh,decide_true],?_⟩;rcases qG (scr:=scr) (n:=cf) (wanted:=wanted) (by omega) (by omega) PP WF WH C hx hlw2 wh hlh (by omega)with⟨Cb,e1,K1,vu,To,PP2,WF2,WH2,C2,hx2,hmono⟩|⟨Cb,l,F,e1,K1,PP2,hF,LK,hwF,hsome⟩
    ·left
     have hx2':=hx2 x hx;have hcnt2:=C2.cnt wanted (by omega);have hcl:(vu.count (wanted:Int))<=vu.length:=vn;have jx:vu.length=nv:=by rw[WF2.len];exact Dn
     have hxx:x+1<=3:=by rw[hx2']at hcnt2;have:=qh hcnt2;omega
     refine⟨[aa (.ref A.i),aa (.ref S.i),o2,aa v3,aa (.ref P.i),o5,o6,aa (.int wanted),aa .none],Cb,k - 1,?_,⟨aa .none,vu,To,x+1,rfl,K.trans K1,PP2,WF2,WH2,C2,hx2',by omega,λj y l hj hy hl=> ?_⟩,by omega⟩
     ·simp only[EV,LS,PP.rFill,Wc,e1,Nat.reduceAdd,Nat.reduceLT,if_true,isNot_none]
     ·obtain⟨y0,hy0⟩:∃y0,Vb[j]? =aa y0:=⟨Vb[j]'(by rw[C.len];omega),da _⟩
      obtain⟨y1,hy1,pB⟩:=hmono j y0 l hy0 hl (mB j y0 l hj hy0 hl);rw[hy]at hy1;cases hy1;exact pB
    ·right
     have Oq:=hO.k SSt K1;have Op:=hO.kA mz K1;have hFl:F.length<=4:=by have:=we LK.nd LK.rng;omega
     have hFr:=ZJ (ls:=ls) (wanted:=wanted) (by rw[hll];exact LK) (by rw[hll];exact C) (by omega) hsome;obtain⟨ae,r1,xs1,e2,K2,hx1,hxl1,_⟩:=ft (scr:=scr) (n:=cf) Op PP2 hnv.2 hal' hF hFl (λp hp=>by have:=hFr p hp;omega) (by omega);have sz:=Oq.k0 K2;obtain⟨dh,e4,SS4,K4⟩:=sw (scr:=scr) (n:=cf) (r:=.ref r1) sz (Pb hx1) (by omega) (by omega);have K':ib [P.at_,P.co,S.d] σ dh:=by
      have k1:ib [P.at_,P.co,S.d] σ ae:=((K.trans K1).trans (K2.mono (λi hi=>by cases hi))).mono (λi hi=>.inl (by simp only[Fa,Za,or_false]at hi|-;rcases hi with h|h<;>simp[h]));exact k1.trans (K4.mono (λi hi=>.inl (by simp only[Fa,Za,or_false]at hi|-;simp[hi])))
     refine⟨.bool false,[aa (.ref A.i),aa (.ref S.i),o2,aa v3,aa (.ref P.i),o5,o6,aa (.int wanted),aa (.ref l)],dh,?_,rfl,K',SS4,λa V=>wG WF C LK V hwF hx hlw2 wh⟩;simp only[EV,LS,PP.rFill,Wc,e1,Nat.reduceAdd,Nat.reduceLT,if_true,tv,Oq.meth (scr:=scr),Op.meth (scr:=scr),e2,e4]
   ·left
    refine⟨τ,by simp only[EV,LS,PP.gCo,Rc PP.hco hx,mz.attr (scr:=scr),Rc mz.hlo Ir,Ck,wh,decide_false],o8,ats',Vb,rfl,K,PP,WF,WH,C,λj y l hj hy hl=> ?_⟩
    by_cases q:j<wanted
    ·exact mB j y l q hy hl
    ·have:j=wanted:=by omega
     subst this;rw[hx]at hy;cases hy;rw[hlw2]at hl;cases hl;omega)
  5000 (4 - c0).toNat [aa (.ref A.i),aa (.ref S.i),o2,aa v3,aa (.ref P.i),o5,o6,aa (.int wanted),o8] σ (by omega) ⟨o8,ats,counts,c0,rfl,.refl,PP,WF,WH,C,lB,by
   rw[lB]at hc0';have:=qh hc0';have hcl:(ats.count (wanted:Int))<=ats.length:=vn;have:ats.length=nv:=by rw[WF.len];exact Dn
   omega,mB⟩
 rcases L with⟨Qb,Ca,e,Eu,ats',Vb,rfl,K,PP,WF,WH,C,hd⟩|⟨v,Qb,Ca,e,rfl,K,Rp,Ys⟩
 ·left;exact⟨Eu,Ca,ats',Vb,e,K,PP,WF,WH,C,hd⟩
 ·right;exact⟨Qb,Ca,e,K,Rp,Ys⟩
end
end Mine
namespace Mine
section
variable {S:Dr} {A:pu} {P:Mq} {σ Ca:St} {ms:List Nat} {failed:Bool} {tl nv:Nat} {ws ls hs:List Int} {rows:V} {scr:Nat->Option (List Int)} {n m x M o:Nat} {able:List (List Int)} {lows highs ats counts:List Int}
theorem iE {cf:Nat} {o2 o5 o6:Option V} {v3:V} (SS:Tg S σ ms failed tl) (CS:cn A σ nv ws ls hs rows) (U:Ch S A ms nv ws ls hs) (hO:LH S A P) (Dn:able.length=nv) (PP:ij P σ able (xc ls) highs ats counts) (WF:Wf able ats (ws.length+1)) (WH:Wh able ats) (C:Gq ats counts (xc ls) highs (ws.length+1)) (hlh:∀(o:Nat) l h,(xc ls)[o]? =aa l->highs[o]? =aa h->l<=h) (hn:4<=cf):
 (∃Wq Eu Ca ats' Vb,Ye 5000 (.st (gd 0 (ws.length:Nat))) 0 (Ce (Ga scr) (Oa (Ga scr) yb cf) (.var 7) [.whil (.base (.cmp .Lt (.sub (.attr (.var 4) "counts") (.var 7)) (.sub (.attr (.var 0) "lows") (.var 7)))) [.assign (.var 8) (.meth (.var 4) "fill" [(.var 7)]),.ifs (.base (.cmp .IsNot (.var 8) .none)) [.ret (.meth (.var 1) "fail" [(.meth (.var 0) "lacking" [(.var 4),(.var 8)])])] []]]) [aa (.ref A.i),aa (.ref S.i),o2,aa v3,aa (.ref P.i),o5,o6,ba,ba] σ
  =aa (.next,[aa (.ref A.i),aa (.ref S.i),o2,aa v3,aa (.ref P.i),o5,o6,Wq,Eu],Ca)/\ib [P.at_,P.co] σ Ca/\ij P Ca able (xc ls) highs ats' Vb/\Wf able ats' (ws.length+1)/\Gq ats' Vb (xc ls) highs (ws.length+1)/\Sp able (xc ls) highs ats')\/
 (∃Qb Ca,Ye 5000 (.st (gd 0 (ws.length:Nat))) 0 (Ce (Ga scr) (Oa (Ga scr) yb cf) (.var 7) [.whil (.base (.cmp .Lt (.sub (.attr (.var 4) "counts") (.var 7)) (.sub (.attr (.var 0) "lows") (.var 7)))) [.assign (.var 8) (.meth (.var 4) "fill" [(.var 7)]),.ifs (.base (.cmp .IsNot (.var 8) .none)) [.ret (.meth (.var 1) "fail" [(.meth (.var 0) "lacking" [(.var 4),(.var 8)])])] []]]) [aa (.ref A.i),aa (.ref S.i),o2,aa v3,aa (.ref P.i),o5,o6,ba,ba] σ
  =aa (.ret (.bool false),Qb,Ca)/\ib [P.at_,P.co,S.d] σ Ca/\Tg S Ca ms true tl/\∀a,¬Sp able (xc ls) highs a):=by
 have Ko:=U.wl;have L:=Dj (xs:=gd 0 (ws.length:Nat)) (it:=.st (gd 0 (ws.length:Nat)))
  (F:=Ce (Ga scr) (Oa (Ga scr) yb cf) (.var 7) [.whil (.base (.cmp .Lt (.sub (.attr (.var 4) "counts") (.var 7)) (.sub (.attr (.var 0) "lows") (.var 7)))) [.assign (.var 8) (.meth (.var 4) "fill" [(.var 7)]),.ifs (.base (.cmp .IsNot (.var 8) .none)) [.ret (.meth (.var 1) "fail" [(.meth (.var 0) "lacking" [(.var 4),(.var 8)])])] []]])
  (λk me τ=>∃o7 o8 ats' Vb,me=[aa (.ref A.i),aa (.ref S.i),o2,aa v3,aa (.ref P.i),o5,o6,o7,o8]/\ib [P.at_,P.co] σ τ/\ij P τ able (xc ls) highs ats' Vb/\Wf able ats' (ws.length+1)/\Wh able ats'/\Gq ats' Vb (xc ls) highs (ws.length+1)/\(∀(j:Nat) x l,j<k->Vb[j]? =aa x->(xc ls)[j]? =aa l->l<=x))
  (λv me τ=>v=.bool false/\ib [P.at_,P.co,S.d] σ τ/\Tg S τ ms true tl/\∀a,¬Sp able (xc ls) highs a)
  (λk me τ _ _=>rfl)
  (λk v me τ hv ⟨o7,o8,ats',Vb,Wg,K,PP,WF,WH,C,hd⟩=>by
   subst Wg;rw[gf]at hv
   split at hv<;>cases hv
   rename_i hk;rcases Ez (scr:=scr) (cf:=cf) (o2:=o2) (o5:=o5) (o6:=o6) (o8:=o8) (v3:=v3) (hO.k SS K) (hO.kA CS K) U hO Dn PP WF WH C hlh hk hd hn with⟨Eu,Cb,vu,To,e1,K1,PP2,WF2,WH2,C2,hd2⟩|⟨Up,Cb,e1,K1,Oq,Ys⟩
   ·left
    refine⟨[aa (.ref A.i),aa (.ref S.i),o2,aa v3,aa (.ref P.i),o5,o6,aa (.int k),Eu],Cb,?_,aa (.int k),Eu,vu,To,rfl,K.trans K1,PP2,WF2,WH2,C2,hd2⟩;unfold Ce;rw[be (by simp)];simp only[Ud,qj,Os,LS,e1]
   ·right
    refine⟨.bool false,Up,Cb,?_,rfl,(K.mono (λi hi=>.inl (by simp only[Fa,Za,or_false]at hi|-;rcases hi with h|h<;>simp[h]))).trans K1,Oq,Ys⟩;unfold Ce;rw[be (by simp)];simp only[Ud,qj,Os,LS,e1])
  5000 0 [aa (.ref A.i),aa (.ref S.i),o2,aa v3,aa (.ref P.i),o5,o6,ba,ba] σ (by rw[jd];omega) (Ae _) ⟨ba,ba,ats,counts,rfl,.refl,PP,WF,WH,C,λj _ _ hj=>absurd hj (Fe _)⟩
 rcases L with⟨Qb,Ca,e,o7,o8,ats',Vb,rfl,K,PP,WF,WH,C,hd⟩|⟨v,Qb,Ca,e,rfl,K,Rp,Ys⟩
 ·left
  rw[jd]at hd;refine⟨o7,o8,Ca,ats',Vb,e,K,PP,WF,C,WF.len,WH,λo l h=> ?_,λo h hh=> ?_⟩
  ·have Jr:=(ca.mp h).1
   rw[C.llen]at Jr;have hc:=C.cnt o Jr
   by_cases q:o<ws.length
   ·exact hd o _ l q hc h
   ·have:o=ls.length:=by have:=U.ll;omega
    subst this;simp at h;omega
  ·have Jr:=(ca.mp hh).1
   rw[C.hlen]at Jr;exact C.hi o _ h (C.cnt o Jr) hh
 ·right;exact⟨Qb,Ca,e,K,Rp,Ys⟩
def Pu (able:List (List Int)) (lows highs:List Int) (ws:List Int) (ms Sf:List Nat) (k:Nat):Prop:=
 Sf.length=ms.length/\∀(j m:Nat),ms[j]? =aa m->∃m',Sf[j]? =aa m'/\m'<8/\∀u:Int,0<=u/\u<3->(xf m' u=true↔(xf m u=true/\(ws.idxOf u<k->∃a,Sp able lows highs a/\a[j]? =aa ((ws.idxOf u:Nat):Int))))
theorem Pu.home {k:Nat} {Sf:List Nat} (U:Ch S A ms nv ws ls hs) (V:Sp (xd ms ws) lows highs ats) (L:Pu (xd ms ws) lows highs ws ms Sf k):DJ ws ats Sf:=by
 intro j m' a Xj ha;have hj:j<ms.length:=by rw[<-L.1];exact(ca.mp Xj).1
 obtain⟨m,hm⟩:∃m,ms[j]? =aa m:=⟨ms[j],da hj⟩;have h8:=(U.hm8 m (ma hm)).2;obtain⟨m2,h1,_,h2⟩:=L.2 j m hm;rw[Xj]at h1;cases h1;obtain⟨r,hr,har⟩:=V.whole j a ha;obtain⟨m3,hm3,rfl,_⟩:=U.rowAt hr;rw[hm]at hm3;cases hm3;have fo:=(Er h8 U.wn U.wr U.wl.1 U.wl.2).2 a har;obtain⟨aN,rfl⟩:=pc fo.1;obtain⟨u,hu,hu1,hu2⟩:=(pp h8 U.wn U.wr U.wl.1 U.wl.2 (by have:=U.wl;omega)).mp har;exact⟨u,hu,(h2 u hu).mpr ⟨hu1,λ_=>⟨ats,V,by rw[hu2];exact ha⟩⟩,by rw[hu2]⟩
theorem Pu.pos {k:Nat} {Sf:List Nat} (U:Ch S A ms nv ws ls hs) (V:Sp (xd ms ws) lows highs ats) (L:Pu (xd ms ws) lows highs ws ms Sf k):∀m'∈Sf,0<m'/\m'<8:=by
 intro m' Xj;obtain⟨j,hj⟩:=ic Xj;have hjl:j<ms.length:=by rw[<-L.1];exact(ca.mp hj).1
 obtain⟨m,hm⟩:∃m,ms[j]? =aa m:=⟨ms[j],da hjl⟩;obtain⟨m2,h1,h8,_⟩:=L.2 j m hm;rw[hj]at h1;cases h1;have hjt:j<ats.length:=by rw[V.len];simpa using hjl
 obtain⟨u,_,hu1,_⟩:=L.home U V j m' ats[j] hj (da hjt);exact⟨jB hu1,h8⟩
theorem tA {cf:Nat} {o2 o5 o6 o7 o8:Option V} {v3:V} (SS:Tg S σ ms failed tl) (CS:cn A σ nv ws ls hs rows) (U:Ch S A ms nv ws ls hs) (hO:LH S A P) (PP:ij P σ (xd ms ws) lows highs ats counts) (WF:Wf (xd ms ws) ats (ws.length+1)) (C:Gq ats counts lows highs (ws.length+1)) (V:Sp (xd ms ws) lows highs ats) (lu:tl<400) (hn:6<=cf):
 ∃Wq Ca Sf,Ye 5000 (.st (gd 0 ((ws.length+1:Nat):Int))) 0 (Ce (Ga scr) (Oa (Ga scr) yb cf) (.var 7) [.ifs (.not (.base (.meth (.var 0) "strike_option" [(.var 1),(.var 4),(.var 7)]))) [.ret (.bool false)] []]) [aa (.ref A.i),aa (.ref S.i),o2,aa v3,aa (.ref P.i),o5,o6,o7,o8] σ
  =aa (.next,[aa (.ref A.i),aa (.ref S.i),o2,aa v3,aa (.ref P.i),o5,o6,Wq,o8],Ca)/\Tg S Ca Sf failed (tl+27)/\ib (Ur S) σ Ca/\Pu (xd ms ws) lows highs ws ms Sf (ws.length+1):=by
 have Ko:=U.wl;have hnv:=U.hnv;have Xn:∀a∈Ur S,a∈S.all:=λa q=>by
  simp only[Ur,Fa,Za,or_false]at q;simp only[Dr.all,Fa,Za,or_false];rcases q with h|h|h<;>simp[h]
 obtain⟨Qb,Ca,e,Wq,Sf,rfl,Rp,K',L'⟩:=Xe (xs:=gd 0 ((ws.length+1:Nat):Int)) (it:=.st (gd 0 ((ws.length+1:Nat):Int))) (me:=[aa (.ref A.i),aa (.ref S.i),o2,aa v3,aa (.ref P.i),o5,o6,o7,o8]) (σ:=σ)
  (F:=Ce (Ga scr) (Oa (Ga scr) yb cf) (.var 7) [.ifs (.not (.base (.meth (.var 0) "strike_option" [(.var 1),(.var 4),(.var 7)]))) [.ret (.bool false)] []])
  (λk me τ=>∃o7 Sf,me=[aa (.ref A.i),aa (.ref S.i),o2,aa v3,aa (.ref P.i),o5,o6,o7,o8]/\Tg S τ Sf failed (tl+9*k)/\ib (Ur S) σ τ/\Pu (xd ms ws) lows highs ws ms Sf k)
  (λk me τ _ _=>rfl)
  (λk v me τ hv ⟨o7,Sf,Wg,SSt,K,L⟩=>by
   subst Wg;rw[gf]at hv
   split at hv<;>cases hv
   rename_i hk;have mz:=CS.keep K (λa ha q=>U.apart a (Xn a q) ha);have PPt:=PP.keep K (λa ha q=>(hO a ha).1 (Xn a q));have dp:Sf.length=nv:=by rw[L.1];exact U.hms
   obtain⟨Cb,ms2,F,room,e1,Oq,K2,RE,hml2,xr⟩:=Aq (scr:=scr) (n:=cf) (o:=k) SSt mz PPt dp (by rw[WF.len,ja];exact U.hms) hnv.2 (L.pos U V) U.wn U.wr (by omega) Ko.2 U.ll WF C (L.home U V) (λa q=>U.apart a (Xn a q)) (by omega) hn;refine⟨[aa (.ref A.i),aa (.ref S.i),o2,aa v3,aa (.ref P.i),o5,o6,aa (.int k),o8],Cb,?_,aa (.int k),ms2,rfl,Oq.more (by omega),K.trans K2,by rw[hml2];exact L.1,λj m hm=> ?_⟩
   ·unfold Ce
    rw[be (by simp)];simp only[EV,LS,mz.meth (scr:=scr),Wc,e1,Zb]
   ·obtain⟨m',Xj,h8',hu'⟩:=L.2 j m hm
    obtain⟨m2,hm2,hs2⟩:=xr j m' Xj;refine⟨m2,hm2,hs2.1,λu hu=> ?_⟩;rw[hs2.2 u hu,La,hu' u hu];have h8:=(U.hm8 m (ma hm)).2
    by_cases q:ws.idxOf u=k
    ·have wh:¬ws.idxOf u<k:=by omega
     have hlt2:ws.idxOf u<k+1:=by omega
     simp only[q,Ed,Nat.lt_add_one,false_implies,and_true,true_implies,decide_true,Mo];refine and_congr_right λhmu=> ?_;have qf:(xd ms ws)[j]? =aa (Sh m ws):=by rw[za,hm];rfl
     have ur:(k:Int)∈Sh m ws:=(pp h8 U.wn U.wr Ko.1 Ko.2 (by omega)).mpr ⟨u,hu,hmu,q⟩;have hjt:j<ats.length:=by rw[V.len,ja];exact(ca.mp hm).1
     have hat:ats[j]? =aa ats[j]:=da hjt;have hab:Th (xd ms ws) ats F k j=decide (ats[j]∉F):=by unfold Th;rw[qf,hat];simp[ur]
     rw[hab]
     by_cases hF:ats[j]∈F
     ·simp only[hF,not_true_eq_false,decide_false,qc,true_iff]
      exact RC (by omega) WF C V RE hat hF qf ur
     ·simp only[hF,not_false_eq_true,decide_true,Zb,Nc,false_iff]
      rintro⟨a,Va,ha⟩
      exact QE WF V.whole C RE Va hat hF ha
    ·have:ws.idxOf u<k+1↔ws.idxOf u<k:=by omega
     simp only[q,decide_false,Ou,qc,and_true,this])
  (by rw[jd];omega) ⟨o7,ms,rfl,SS,.refl,rfl,λj m hm=>⟨m,hm,(U.hm8 m (ma hm)).2,λu _=>by simp⟩⟩
 rw[jd]at L' Rp;exact⟨Wq,Ca,Sf,e,Rp.more (by omega),K',L'⟩
theorem Vz:te (Ad nv) σ=aa (.st (pd (Ua nv))):=rfl
theorem Ot (SS:Tg S σ ms false tl) (CS:cn A σ nv ws ls hs rows) (U:Ch S A ms nv ws ls hs) (lu:tl<400) (hn:7<=n):
 (∃Ca,Oa (Ga scr) yb n 401 [.ref A.i,.ref S.i] σ=aa (.bool false,Ca)/\Tg S Ca ms true tl/\ib S.all σ Ca/\∀a,¬Sp (xd ms ws) (xc ls) (Ue hs nv) a)\/
 (∃Ca Sf,Oa (Ga scr) yb n 401 [.ref A.i,.ref S.i] σ=aa (.bool true,Ca)/\Tg S Ca Sf false (tl+27)/\ib S.all σ Ca/\(∃a,Sp (xd ms ws) (xc ls) (Ue hs nv) a)/\Pu (xd ms ws) (xc ls) (Ue hs nv) ws ms Sf (ws.length+1)):=by
 obtain⟨n,rfl⟩:∃m,n=m+1:=⟨n - 1,by omega⟩;have hnv:=U.hnv;have Ko:=U.wl;have hll:=U.ll;have hhl:=U.hl;have Ir:(iL ws).length=ws.length:=by simp
 rw[Dc (fn:=nG) rfl,Bd [aa (.ref A.i),aa (.ref S.i),ba,ba,ba,ba,ba,ba,ba] rfl rfl];have hc1:=SD (scr:=scr) (n:=n) CS U (me:=[aa (.ref A.i),aa (.ref S.i),ba,ba,ba,ba,ba,ba,ba]) rfl;have hcl:(ug ls hs).length<=2:=by
  have:=Ub (dq ls hs) (Ua ls.length);rw[Lk]at this;unfold ug;omega
 have hnl1:=Ab (xs:=iL ((ug ls hs).map λ(k:Nat)=>(k:Int))) (σ:=σ) (by rw[ja,ja];omega);have hg1:=vb (σ:=σ) (o:=.list (iL ((ug ls hs).map λ(k:Nat)=>(k:Int))));have Dk:=Ab (xs:=[]) (σ:=σ++[.list (iL ((ug ls hs).map λ(k:Nat)=>(k:Int)))]) (by simp);have Tp:=vb (σ:=σ++[.list (iL ((ug ls hs).map λ(k:Nat)=>(k:Int)))]) (o:=.list []);have hne:=HE (ub (os:=[O.list []]) hg1) Tp;have hcr0:((ug ls hs).map λ(k:Nat)=>(k:Int))≠[]↔ug ls hs≠[]:=by simp
 have K0:ib [] σ (σ++[.list (iL ((ug ls hs).map λ(k:Nat)=>(k:Int)))]++[.list []]):=(ib.app _).trans (ib.app _);have xw:=xe (σ:=σ) (b:=(ws.length:Nat)) (by omega);have vw:=Ie (σ:=σ) (b:=(ws.length:Nat)) (by omega)
 generalize hσ0:σ++[O.list (iL ((ug ls hs).map λ(k:Nat)=>(k:Int)))]++[O.list []]=σ0 at*
 have SS0:=SS.k0 K0;have CS0:=CS.k0 K0
 by_cases hcr:ug ls hs≠[]
 ·left
  rw[decide_eq_true (hcr0.mpr hcr)]at hne;obtain⟨Ja,e1,SS1,K1⟩:=sw (scr:=scr) (n:=n) (r:=.tup []) SS0 rfl (by simp) (by omega);refine⟨Ja,?_,SS1,(K0.mono (λi hi=>by cases hi)).trans (K1.mono (λi hi=>.inl (by simp at hi;simp[Dr.all,hi]))),λa V=>RD U hcr V⟩;simp only[nG,EV,LS,CS.attr (scr:=scr),Nb,vc,wc CS.hwa,Ir,xw,vw,hc1,hnl1,Dk,hσ0,hne,SS0.meth (scr:=scr),ac,bb,Nat.reduceLT,Wc,e1]
 ·rw[decide_eq_false (mt hcr0.mp hcr)]at hne
  have hcr':ug ls hs=[]:=by simpa using hcr
  have hlh:=QD (nv:=nv) U hcr';obtain⟨Ja,as,e1,K1,hasl,hage,qf⟩:=AD (scr:=scr) (n:=n) SS0 CS0 U (by omega);have hnl3:=Ab (xs:=as.map V.ref) (σ:=Ja) (by rw[ja];omega);have hab:=vb (σ:=Ja) (o:=.list (as.map V.ref));have Op:=(CS0.k0 K1).k0 (ib.app [.list (as.map V.ref)]);have K2:ib [] σ (Ja++[.list (as.map V.ref)]):=(K0.trans K1).trans (ib.app _);have hrow2:∀(k:Nat) r,(xd ms ws)[k]? =aa r->∃a,as[k]? =aa a/\(Ja++[.list (as.map V.ref)])[a]? =aa (.list (iL r)):=λk r h=>by obtain⟨a,h1,h2⟩:=qf k r h;exact⟨a,h1,ub h2⟩
  have hσ1:σ.length<=Ja.length:=Eb K0.len K1.len;have hasg:∀a∈as,σ.length<=a:=λa ha=>Eb K0.len (hage a ha)
  generalize Bu:Ja++[O.list (as.map V.ref)]=Cb at*
  have hnl4:=Ab (xs:=[.int 0]) (σ:=Cb) (by simp);have Nz:=vb (σ:=Cb) (o:=.list [.int 0]);have hnl5:=Ab (xs:=iL ls++[.int 0]) (σ:=Cb++[.list [.int 0]]) (by simp;omega);have hb5:Cf .Add (.ref A.lo) (.ref Cb.length) (Cb++[.list [.int 0]])=aa (.ref (Cb++[O.list [V.int 0]]).length,Cb++[.list [.int 0]]++[.list (iL (xc ls))]):=by
   unfold Cf;simp only[Pb (ub Op.hlo),Pb Nz,hnl5];simp[iL,xc]
  have hlo:=vb (σ:=Cb++[.list [.int 0]]) (o:=.list (iL (xc ls)));have CS5:=(Op.k0 (ib.app [.list [.int 0]])).k0 (ib.app [.list (iL (xc ls))]);have K5:ib [] Cb (Cb++[.list [.int 0]]++[.list (iL (xc ls))]):=(ib.app _).trans (ib.app _);have l5:Cb.length<=(Cb++[O.list [V.int 0]]).length:=by simp
  generalize hσ5:Cb++[O.list [V.int 0]]++[O.list (iL (xc ls))]=ci at*
  generalize hloA:(Cb++[O.list [V.int 0]]).length=loA at*
  have hnl6:=Ab (xs:=[.int (nv+1)]) (σ:=ci) (by simp);have hg6:=vb (σ:=ci) (o:=.list [.int (nv+1)]);have hnl7:=Ab (xs:=iL hs++[.int (nv+1)]) (σ:=ci++[.list [.int (nv+1)]]) (by simp;omega);have hb7:Cf .Add (.ref A.hi) (.ref ci.length) (ci++[.list [.int (nv+1)]])=aa (.ref (ci++[O.list [V.int (nv+1)]]).length,ci++[.list [.int (nv+1)]]++[.list (iL (Ue hs nv))]):=by
   unfold Cf;simp only[Pb (ub CS5.hhi),Pb hg6,hnl7];simp[iL,Ue]
  have hhi:=vb (σ:=ci++[.list [.int (nv+1)]]) (o:=.list (iL (Ue hs nv)));have K7:ib [] ci (ci++[.list [.int (nv+1)]]++[.list (iL (Ue hs nv))]):=(ib.app _).trans (ib.app _);have l7:ci.length<=(ci++[O.list [V.int (nv+1)]]).length:=by simp
  generalize hσ7:ci++[O.list [V.int (nv+1)]]++[O.list (iL (Ue hs nv))]=Nn at*
  generalize hhiA:(ci++[O.list [V.int (nv+1)]]).length=hiA at*
  have Dn:(xd ms ws).length=nv:=by rw[ja];exact U.hms
  have K27:ib [] Cb Nn:=K5.trans K7;obtain⟨ou,P,e8,K8,_,_,_,hP,PP⟩:=dA (scr:=scr) (n:=n) (ab:=Ja.length) (lo:=loA) (hi:=hiA) (rowsA:=as) (able:=xd ms ws) (lows:=xc ls) (highs:=Ue hs nv) (K27.old _ _ hab (by simp)) (K7.old _ _ hlo (by simp)) hhi (by omega) (by omega) (by simp;omega) (λk r h=>by obtain⟨a,h1,h2⟩:=hrow2 k r h;exact⟨a,h1,K27.old _ _ h2 (by simp)⟩) (by omega);have K28:ib [] σ ou:=(K2.trans K27).trans K8;have SS8:=SS.k0 K28;have CS8:=CS.k0 K28;have hPg:∀a∈P.all,σ.length<=a:=λa ha=>by
   have h2:=K2.len;have h27:=K27.len;have h5:=K5.len;rcases hP a ha with h|h
   ·omega
   ·simp only[Fa]at h
    rcases h with rfl|rfl|rfl|h
    ·exact hσ1
    ·omega
    ·omega
    ·exact hasg a h
  have hO:LH S A P:=λa ha=>⟨λq=>by have:=SS.lt a q;have:=hPg a ha;omega,λq=>by have:=CS.lt a q;have:=hPg a ha;omega⟩;have WF0:Wf (xd ms ws) (Aa (xd ms ws).length (-1)) (ws.length+1):=⟨by simp,λk r h o ho=>by
   obtain⟨m,_,rfl,h8⟩:=U.rowAt h;exact(Er h8 U.wn U.wr Ko.1 Ko.2).2 o ho,λk r h=>by
   obtain⟨m,_,rfl,h8⟩:=U.rowAt h;exact(Er h8 U.wn U.wr Ko.1 Ko.2).1,λk a h=>.inl (cx (ma h))⟩
  have hlol:(xc ls).length=ws.length+1:=by simp[hll]
  have hhil:(Ue hs nv).length=ws.length+1:=by simp[hhl]
  have C0:Gq (Aa (xd ms ws).length (-1)) (Aa (xc ls).length 0) (xc ls) (Ue hs nv) (ws.length+1):=by
   refine⟨by rw[List.length_replicate,hlol],λo ho=> ?_,hlol,hhil,λo c h h1 h2=> ?_⟩
   ·rw[oi,if_pos (by omega),List.count_replicate]
    rw[if_neg (by simp)];rfl
   ·have hc:c=0:=cx (ma h1)
    subst hc;rcases db.mp (ma h2)with q|q
    ·exact U.h0 h q
    ·simp at q;omega
  have hstart:∀j,j<nv->(Aa (xd ms ws).length (-1:Int))[j]? =aa (-1):=λj hj=>by
   rw[oi,if_pos (by omega)]
  have hA:Vf (Ga scr) (Oa (Ga scr) yb n) (.ifs (.base (.cmp .NotEq (.comp 2 (.call (.con (.type "range")) [(.call (.con (.builtin "len")) [(.attr (.var 0) "wanted")])]) (.var 10) [(.base (.cmp .Gt (.sub (.attr (.var 0) "lows") (.var 10)) (.sub (.attr (.var 0) "highs") (.var 10))))] [] (.var 10)) (.list []))) [.ret (.meth (.var 1) "fail" [(.tup [])])] []) [aa (.ref A.i),aa (.ref S.i),ba,ba,ba,ba,ba,ba,ba] σ
   =aa (.next,[aa (.ref A.i),aa (.ref S.i),ba,ba,ba,ba,ba,ba,ba],σ0):=by
   simp only[EV,LS,CS.attr (scr:=scr),Nb,vc,wc CS.hwa,Ir,xw,vw,hc1,hnl1,Dk,hσ0,hne]
  have hB:Vf (Ga scr) (Oa (Ga scr) yb n) (.assign (.var 3) (.comp 2 (.attr (.var 0) "taken") (.var 10) [] [] (.meth (.var 0) "options_of" [(.var 1),(.var 10)]))) [aa (.ref A.i),aa (.ref S.i),ba,ba,ba,ba,ba,ba,ba] σ0
   =aa (.next,[aa (.ref A.i),aa (.ref S.i),ba,aa (.ref Ja.length),ba,ba,ba,ba,ba],Cb):=by
   simp only[EV,LS,CS0.attr (scr:=scr),Vz,e1,hnl3,Nat.reduceAdd,Nat.reduceLT,if_true]
  have hC:Vf (Ga scr) (Oa (Ga scr) yb n) (.assign (.var 4) (.call (.con (.ref 357)) [(.var 3),(.bin .Add (.attr (.var 0) "lows") (.list [(.int 0)])),(.bin .Add (.attr (.var 0) "highs") (.list [(.bin .Add (.call (.con (.builtin "len")) [(.attr (.var 0) "taken")]) (.int 1))]))])) [aa (.ref A.i),aa (.ref S.i),ba,aa (.ref Ja.length),ba,ba,ba,ba,ba] Cb
   =aa (.next,[aa (.ref A.i),aa (.ref S.i),ba,aa (.ref Ja.length),aa (.ref P.i),ba,ba,ba,ba],ou):=by
   have bp:Cf .Add (.int nv) (.int 1) ci=aa (.int (nv+1),ci):=rfl;simp only[EV,LS,Op.attr (scr:=scr),hnl4,hb5,CS5.attr (scr:=scr),Nb,Ni,bp,hnl6,hb7,e8,Nat.reduceAdd,Nat.reduceLT,if_true]
  have hrgn:=xe (σ:=ou) (b:=(nv:Nat)) (by omega);have hirn:=Ie (σ:=ou) (b:=(nv:Nat)) (by omega);have Kpc:∀{τ Yh:St} {W:List Nat},ib W τ Yh->(∀a∈W,a∈S.all\/a∈P.all)->ib [] σ τ->ib S.all σ Yh:=λ{τ Yh W} k h k0=>⟨Eb k0.len k.len,λi o e hi=>k.old i o (k0.old i o e (by simp)) λq=>by
   rcases h i q with z|z
   ·exact hi z
   ·have:=hPg i z;have:=Ic e;omega⟩
  have hwp:∀a∈[P.at_,P.co],a∈S.all\/a∈P.all:=λa ha=>.inr (by simp only[Fa,Za,or_false]at ha;rcases ha with h|h<;>simp[Mq.all,h]);have hwpd:∀a∈[P.at_,P.co,S.d],a∈S.all\/a∈P.all:=λa ha=>by
   simp only[Fa,Za,or_false]at ha;rcases ha with h|h|h
   ·right;simp[Mq.all,h]
   ·right;simp[Mq.all,h]
   ·left;simp[Dr.all,h]
  have Kpc2:∀{τ Yh:St} {W:List Nat},ib W τ Yh->(∀a∈W,a∈S.all\/a∈P.all)->ib S.all σ τ->ib S.all σ Yh:=λ{τ Yh W} k h k0=>⟨Eb k0.len k.len,λi o e hi=>k.old i o (k0.old i o e hi) λq=>by
   rcases h i q with z|z
   ·exact hi z
   ·have:=hPg i z;have:=Ic e;omega⟩
  simp only[nG];rw[Ud,hA];simp only[];rw[Ud,hB];simp only[];rw[Ud,hC];simp only[];rcases MC (scr:=scr) (cf:=n) (v3:=.ref Ja.length) SS8 CS8 U hO Dn PP WF0 C0 hstart (by omega) (by omega)with⟨o2,o5,o6,Ar,ats9,counts9,e9,K9,PP9,WF9,C9,WH9⟩|⟨me9,Ar,e9,K9,SS9,Ys⟩
  ·have SS9:=hO.k SS8 K9
   have CS9:=hO.kA CS8 K9;have hD:Vf (Ga scr) (Oa (Ga scr) yb n) (.fors (.var 5) (.call (.con (.type "range")) [(.call (.con (.builtin "len")) [(.attr (.var 0) "taken")])]) [.assign (.var 6) (.meth (.var 4) "place" [(.var 5)]),.ifs (.base (.cmp .IsNot (.var 6) .none)) [.assign (.var 2) (.sub (.attr (.var 0) "taken") (.var 5)),.ret (.meth (.var 1) "fail" [(.bin .Add (.meth (.var 0) "confined" [(.var 1),(.var 4),(.var 6)]) (.call (.con (.ref 309)) [(.var 2),(.meth (.var 1) "dom" [(.var 2)])]))])] []]) [aa (.ref A.i),aa (.ref S.i),ba,aa (.ref Ja.length),aa (.ref P.i),ba,ba,ba,ba] ou
    =aa (.next,[aa (.ref A.i),aa (.ref S.i),o2,aa (.ref Ja.length),aa (.ref P.i),o5,o6,ba,ba],Ar):=by
    rw[Ij];simp only[EV,LS,CS8.attr (scr:=scr),Nb,vc,Ni,hrgn,hirn,e9]
   rw[Ud,hD];simp only[];have hrgw:=xe (σ:=Ar) (b:=(ws.length:Nat)) (by omega);have hirw:=Ie (σ:=Ar) (b:=(ws.length:Nat)) (by omega);rcases iE (scr:=scr) (cf:=n) (o2:=o2) (o5:=o5) (o6:=o6) (v3:=.ref Ja.length) SS9 CS9 U hO Dn PP9 WF9 WH9 C9 hlh (by omega)with⟨o7,o8,Np,ats10,counts10,e10,K10,PP10,WF10,C10,V10⟩|⟨me10,Np,e10,K10,SS10,Ys⟩
   ·have SS10:=hO.k SS9 K10
    have CS10:=hO.kA CS9 K10;have hE:Vf (Ga scr) (Oa (Ga scr) yb n) (.fors (.var 7) (.call (.con (.type "range")) [(.call (.con (.builtin "len")) [(.attr (.var 0) "wanted")])]) [.whil (.base (.cmp .Lt (.sub (.attr (.var 4) "counts") (.var 7)) (.sub (.attr (.var 0) "lows") (.var 7)))) [.assign (.var 8) (.meth (.var 4) "fill" [(.var 7)]),.ifs (.base (.cmp .IsNot (.var 8) .none)) [.ret (.meth (.var 1) "fail" [(.meth (.var 0) "lacking" [(.var 4),(.var 8)])])] []]]) [aa (.ref A.i),aa (.ref S.i),o2,aa (.ref Ja.length),aa (.ref P.i),o5,o6,ba,ba] Ar
     =aa (.next,[aa (.ref A.i),aa (.ref S.i),o2,aa (.ref Ja.length),aa (.ref P.i),o5,o6,o7,o8],Np):=by
     rw[Ij];simp only[EV,LS,CS9.attr (scr:=scr),Nb,vc,wc CS9.hwa,Ir,hrgw,hirw,e10]
    rw[Ud,hE];simp only[];obtain⟨Wq,Cq,ms11,e11,SS11,K11,L11⟩:=tA (scr:=scr) (cf:=n) (o2:=o2) (o5:=o5) (o6:=o6) (o7:=o7) (o8:=o8) (v3:=.ref Ja.length) SS10 CS10 U hO PP10 WF10 C10 V10 lu (by omega);have bp:Cf .Add (.int ws.length) (.int 1) Np=aa (.int ((ws.length+1:Nat):Int),Np):=rfl;have hrg1:=xe (σ:=Np) (b:=((ws.length+1:Nat):Int)) (by omega);have hir1:=Ie (σ:=Np) (b:=((ws.length+1:Nat):Int)) (by omega);have hF:Vf (Ga scr) (Oa (Ga scr) yb n) (.fors (.var 7) (.call (.con (.type "range")) [(.bin .Add (.call (.con (.builtin "len")) [(.attr (.var 0) "wanted")]) (.int 1))]) [.ifs (.not (.base (.meth (.var 0) "strike_option" [(.var 1),(.var 4),(.var 7)]))) [.ret (.bool false)] []]) [aa (.ref A.i),aa (.ref S.i),o2,aa (.ref Ja.length),aa (.ref P.i),o5,o6,o7,o8] Np
     =aa (.next,[aa (.ref A.i),aa (.ref S.i),o2,aa (.ref Ja.length),aa (.ref P.i),o5,o6,Wq,o8],Cq):=by
     rw[Ij];simp only[EV,LS,CS10.attr (scr:=scr),Nb,vc,wc CS10.hwa,Ir,bp,hrg1,hir1,e11]
    rw[Ud,hF];simp only[]
    right
    refine⟨Cq,ms11,by simp only[EV],SS11,?_,⟨ats10,V10⟩,L11⟩;have k9:=Kpc K9 hwp K28;have k10:=Kpc2 K10 hwp k9;exact Kpc2 K11 (λa ha=>.inl (by simp only[Ur,Fa,Za,or_false]at ha;simp only[Dr.all,Fa,Za,or_false];rcases ha with h|h|h<;>simp[h])) k10
   ·left
    have hE:Vf (Ga scr) (Oa (Ga scr) yb n) (.fors (.var 7) (.call (.con (.type "range")) [(.call (.con (.builtin "len")) [(.attr (.var 0) "wanted")])]) [.whil (.base (.cmp .Lt (.sub (.attr (.var 4) "counts") (.var 7)) (.sub (.attr (.var 0) "lows") (.var 7)))) [.assign (.var 8) (.meth (.var 4) "fill" [(.var 7)]),.ifs (.base (.cmp .IsNot (.var 8) .none)) [.ret (.meth (.var 1) "fail" [(.meth (.var 0) "lacking" [(.var 4),(.var 8)])])] []]]) [aa (.ref A.i),aa (.ref S.i),o2,aa (.ref Ja.length),aa (.ref P.i),o5,o6,ba,ba] Ar
     =aa (.ret (.bool false),me10,Np):=by
     rw[Ij];simp only[EV,LS,CS9.attr (scr:=scr),Nb,vc,wc CS9.hwa,Ir,hrgw,hirw,e10]
    refine⟨Np,by rw[Ud,hE],SS10,Kpc2 K10 hwpd (Kpc K9 hwp K28),Ys⟩
  ·left
   have hD:Vf (Ga scr) (Oa (Ga scr) yb n) (.fors (.var 5) (.call (.con (.type "range")) [(.call (.con (.builtin "len")) [(.attr (.var 0) "taken")])]) [.assign (.var 6) (.meth (.var 4) "place" [(.var 5)]),.ifs (.base (.cmp .IsNot (.var 6) .none)) [.assign (.var 2) (.sub (.attr (.var 0) "taken") (.var 5)),.ret (.meth (.var 1) "fail" [(.bin .Add (.meth (.var 0) "confined" [(.var 1),(.var 4),(.var 6)]) (.call (.con (.ref 309)) [(.var 2),(.meth (.var 1) "dom" [(.var 2)])]))])] []]) [aa (.ref A.i),aa (.ref S.i),ba,aa (.ref Ja.length),aa (.ref P.i),ba,ba,ba,ba] ou
    =aa (.ret (.bool false),me9,Ar):=by
    rw[Ij];simp only[EV,LS,CS8.attr (scr:=scr),Nb,vc,Ni,hrgn,hirn,e9]
   refine⟨Ar,by rw[Ud,hD],SS9,Kpc K9 hwpd K28,Ys⟩
end
end Mine
namespace Mine
theorem Cv {n:Nat} {P:Me->St->Option (Bool×St)} {F:Me->St->Option (Fl×Me×St)} {me Qb:Me} {σ Ja Ca:St} {r:V} (h1:P me σ=aa (true,Ja)) (h2:F me Ja=aa (.ret r,Qb,Ca)):Gi (n+1) P F me σ=aa (.ret r,Qb,Ca):=by
 unfold Gi;simp only[h1,h2]
abbrev fh:=Int×Int×Int
def Yg (rs:List fh):V:=.tup [.tup (iL (rs.map (·.1))),.tup (iL (rs.map (·.2.1))),.tup (iL (rs.map (·.2.2)))]
def Je (one:List Int) (rs:List fh):Bool:=rs.all λr=>decide (r.2.1<=(one.count r.1:Int))&&decide ((one.count r.1:Int)<=r.2.2)
section
variable {S:Dr} {A:pu} {P:Mq} {σ Ca:St} {ms:List Nat} {failed:Bool} {tl nv:Nat} {ws ls hs:List Int} {rows:V} {scr:Nat->Option (List Int)} {n m x M o:Nat} {able:List (List Int)} {lows highs ats counts:List Int} {rs:List fh}
theorem Nw (SS:Tg S σ ms false tl) (CS:cn A σ nv ws ls hs rows) (U:Ch S A ms nv ws ls hs) (lu:tl<400) (hn:8<=n):
 (∃Ca,Oa (Ga scr) yb n 396 [.ref A.i,.ref S.i] σ=aa (.bool false,Ca)/\Tg S Ca ms true tl/\ib S.all σ Ca/\∀a,¬Sp (xd ms ws) (xc ls) (Ue hs nv) a)\/
 (∃Ca Sf,Oa (Ga scr) yb n 396 [.ref A.i,.ref S.i] σ=aa (.bool true,Ca)/\Tg S Ca Sf false (tl+27)/\ib S.all σ Ca/\(∃a,Sp (xd ms ws) (xc ls) (Ue hs nv) a)/\Pu (xd ms ws) (xc ls) (Ue hs nv) ws ms Sf (ws.length+1)):=by
 obtain⟨n,rfl⟩:∃m,n=m+1:=⟨n - 1,by omega⟩;obtain⟨xs,t1,_⟩:=SS.htr;have hP:Ug (Ga scr) (Oa (Ga scr) yb n) (.base (.cmp .Lt (.var 2) (.call (.con (.builtin "len")) [(.attr (.var 1) "trail")]))) [aa (.ref A.i),aa (.ref S.i),aa (.int (-1))] σ=aa (true,σ):=by
  simp only[EV,LS,SS.attr (scr:=scr),Nb,wc t1,Ck];rw[decide_eq_true (by omega)]
 rcases Ot (scr:=scr) (n:=n) SS CS U lu (by omega)with⟨Ca,e,Rp,K,Ys⟩|⟨Ca,Sf,e,Rp,K,hv,L⟩
 ·left
  refine⟨Ca,?_,Rp,K,Ys⟩;have hF:wf (Ga scr) (Oa (Ga scr) yb n) [.assign (.var 2) (.call (.con (.builtin "len")) [(.attr (.var 1) "trail")]),.ifs (.not (.base (.meth (.var 0) "strike_once" [(.var 1)]))) [.ret (.bool false)] [],.ifs (.not (.base (.attr (.var 0) "has_twins"))) [.ret (.bool true)] []] [aa (.ref A.i),aa (.ref S.i),aa (.int (-1))] σ
   =aa (.ret (.bool false),[aa (.ref A.i),aa (.ref S.i),aa (.int xs.length)],Ca):=by
   simp only[EV,LS,SS.attr (scr:=scr),Nb,wc t1,Nat.reduceAdd,Nat.reduceLT,if_true,CS.meth (scr:=scr),Wc,e,qc]
  have hL:=Cv (n:=4999) hP hF;rw[Dc (fn:=fE) rfl,Bd [aa (.ref A.i),aa (.ref S.i),ba] rfl rfl];simp only[fE,Ud,qj,gg,aE,Fm,nj,LS,Vg,Nat.reduceAdd,Nat.reduceLT,if_true,Os];rw[show(5000:Nat)=4999+1 from rfl,hL]
 ·right
  refine⟨Ca,Sf,?_,Rp,K,hv,L⟩;have CS':=CS.keep K (λa ha q=>U.apart a q ha);have hF:wf (Ga scr) (Oa (Ga scr) yb n) [.assign (.var 2) (.call (.con (.builtin "len")) [(.attr (.var 1) "trail")]),.ifs (.not (.base (.meth (.var 0) "strike_once" [(.var 1)]))) [.ret (.bool false)] [],.ifs (.not (.base (.attr (.var 0) "has_twins"))) [.ret (.bool true)] []] [aa (.ref A.i),aa (.ref S.i),aa (.int (-1))] σ
   =aa (.ret (.bool true),[aa (.ref A.i),aa (.ref S.i),aa (.int xs.length)],Ca):=by
   simp only[EV,LS,SS.attr (scr:=scr),Nb,wc t1,Nat.reduceAdd,Nat.reduceLT,if_true,CS.meth (scr:=scr),Wc,e,Zb,CS'.attr (scr:=scr),qc]
  have hL:=Cv (n:=4999) hP hF;rw[Dc (fn:=fE) rfl,Bd [aa (.ref A.i),aa (.ref S.i),ba] rfl rfl];simp only[fE,Ud,qj,gg,aE,Fm,nj,LS,Vg,Nat.reduceAdd,Nat.reduceLT,if_true,Os];rw[show(5000:Nat)=4999+1 from rfl,hL]
theorem cn.gRows (C:cn A σ nv ws ls hs (Yg rs)):yc (Ga scr) (.ref A.i) "rows" σ=aa (Yg rs):=td C.hin C.hdi (by rfl) (by rfl) (by simp[Yg])
def rc (rs:List fh):List V:=rs.map λr=>.tup [.int r.1,.int r.2.1,.int r.2.2]
theorem Tv:∀rs:List fh,((iL (rs.map (·.1))).zip ((iL (rs.map (·.2.1))).zip (iL (rs.map (·.2.2))))).map (λp=>V.tup [p.1,p.2.1,p.2.2])=rc rs
 | []=>rfl
 |r::rs=>by
  have ih:=Tv rs;unfold iL rc at ih|-;simp only[sa,Pp,ih]
theorem bu:zr [iL (rs.map (·.1)),iL (rs.map (·.2.1)),iL (rs.map (·.2.2))]=aa (rc rs):=by
 unfold zr;simp only[];rw[if_pos (by simp),Tv]
theorem Cs {i:Nat} {xs:List Int} {k:Int} (h:σ[i]? =aa (.list (iL xs))):Lr i "count" [.int k] σ=aa (.int (xs.count k),σ):=by
 unfold Lr;rw[Pb h];simp only[Um];rw[if_neg (by decide),if_neg (by decide),if_neg (by decide),if_neg (by decide),if_pos trivial]
theorem KD {one:List Int} (CS:cn A σ nv ws ls hs (Yg rs)) (hl:one.length<=10) (Gn:rs.length<=10) (hn:1<=n):
 ∃Ca,Oa (Ga scr) yb n 425 [.ref A.i,.tup (iL one)] σ=aa (.bool (Je one rs),Ca)/\ib [] σ Ca:=by
 obtain⟨n,rfl⟩:∃m,n=m+1:=⟨n - 1,by omega⟩;have e0:∀τ,Qe (Yg rs) (.int 0) τ=aa (.tup (iL (rs.map (·.1)))):=λ_=>rfl;have e1:∀τ,Qe (Yg rs) (.int 1) τ=aa (.tup (iL (rs.map (·.2.1)))):=λ_=>rfl;have e2:∀τ,Qe (Yg rs) (.int 2) τ=aa (.tup (iL (rs.map (·.2.2)))):=λ_=>rfl;have L:=Dj (xs:=rc rs) (it:=.st (rc rs))
  (F:=Ce (Ga scr) (Oa (Ga scr) yb n) (.tup [2,3,4]) [.ifs (.not (.base (.cmp2 .LtE .LtE (.var 3) (.meth (.call (.con (.type "list")) [(.var 1)]) "count" [(.var 2)]) (.var 4)))) [.ret (.bool false)] []])
  (λk me τ=>∃o2 o3 o4,me=[aa (.ref A.i),aa (.tup (iL one)),o2,o3,o4]/\ib [] σ τ/\Je one (rs.take k)=true)
  (λv me τ=>v=.bool false/\ib [] σ τ/\Je one rs=false)
  (λ_ _ _ _ _=>rfl)
  (λk v me τ hv ⟨o2,o3,o4,Wg,K,hk⟩=>by
   subst Wg;unfold rc at hv;rw[za]at hv;cases hr:rs[k]? with
   |none=>rw[hr]at hv;cases hv
   |some r=>
    rw[hr]at hv;cases hv;have ak:=Ab (xs:=iL one) (σ:=τ) (by simp;omega);have hg:=vb (σ:=τ) (o:=.list (iL one));have el:jh (.type "list") [.tup (iL one)] τ=aa (.ref τ.length,τ++[.list (iL one)]):=ak;have ur:r∈rs:=ma hr;have htk:Je one (rs.take (k+1))=(Je one (rs.take k)&&(decide (r.2.1<=(one.count r.1:Int))&&decide ((one.count r.1:Int)<=r.2.2))):=by
     unfold Je;rw[Yb,hr,List.all_append];simp
    by_cases q1:r.2.1<=(one.count r.1:Int)
    ·by_cases q2:(one.count r.1:Int)<=r.2.2
     ·left
      refine⟨[aa (.ref A.i),aa (.tup (iL one)),aa (.int r.1),aa (.int r.2.1),aa (.int r.2.2)],τ++[.list (iL one)],?_,aa (.int r.1),aa (.int r.2.1),aa (.int r.2.2),rfl,K.trans (ib.app _),by rw[htk,hk];simp[q1,q2]⟩;unfold Ce;simp only[dg,Qc,EV,LS,Nat.reduceAdd,Nat.reduceLT,if_true,vc,el,Ld hg,Wc,Cs hg,As,q1,q2,decide_true,Zb]
     ·right
      refine⟨.bool false,[aa (.ref A.i),aa (.tup (iL one)),aa (.int r.1),aa (.int r.2.1),aa (.int r.2.2)],τ++[.list (iL one)],?_,rfl,K.trans (ib.app _),?_⟩
      ·unfold Ce
       simp only[dg,Qc,EV,LS,Nat.reduceAdd,Nat.reduceLT,if_true,vc,el,Ld hg,Wc,Cs hg,As,q1,q2,decide_true,decide_false,qc]
      ·unfold Je
       rw[uD];exact⟨r,ur,by simp[q2]⟩
    ·right
     refine⟨.bool false,[aa (.ref A.i),aa (.tup (iL one)),aa (.int r.1),aa (.int r.2.1),aa (.int r.2.2)],τ++[.list (iL one)],?_,rfl,K.trans (ib.app _),?_⟩
     ·unfold Ce
      simp only[dg,Qc,EV,LS,Nat.reduceAdd,Nat.reduceLT,if_true,vc,el,Ld hg,Wc,Cs hg,As,q1,decide_false,qc]
     ·unfold Je
      rw[uD];exact⟨r,ur,by simp[q1]⟩)
  5000 0 [aa (.ref A.i),aa (.tup (iL one)),ba,ba,ba] σ (by unfold rc;rw[ja];omega) (Ae _) ⟨ba,ba,ba,rfl,.refl,by simp[Je]⟩
 rw[Dc (fn:=pG) rfl,Bd [aa (.ref A.i),aa (.tup (iL one)),ba,ba,ba] rfl rfl];rcases L with⟨Qb,Ca,e,o2,o3,o4,rfl,K,hk⟩|⟨v,Qb,Ca,e,rfl,K,hk⟩
 ·have hlen:(rc rs).length=rs.length:=by unfold rc;simp
  rw[hlen,Xd]at hk;refine⟨Ca,?_,K⟩;rw[hk];simp only[pG,EV,LS,CS.gRows (scr:=scr),e0,e1,e2,Xh,bu,e]
 ·refine⟨Ca,?_,K⟩
  rw[hk];simp only[pG,EV,LS,CS.gRows (scr:=scr),e0,e1,e2,Xh,bu,e]
def Rt (nv:Nat) (rs:List fh):V:=.tup [.str "cardinality",Ad nv,.tup (iL (rs.map (·.1))),.tup (iL (rs.map (·.2.1))),.tup (iL (rs.map (·.2.2)))]
theorem bH (CS:cn A σ nv ws ls hs (Yg rs)) (hn:1<=n):Oa (Ga scr) yb n 432 [.ref A.i] σ=aa (Rt nv rs,σ):=by
 obtain⟨n,rfl⟩:∃m,n=m+1:=⟨n - 1,by omega⟩;have hb:Cf .Add (.tup [.str "cardinality",Ad nv]) (Yg rs) σ=aa (Rt nv rs,σ):=rfl;rw[Dc (fn:=zI) rfl,Bd [aa (.ref A.i)] rfl rfl];simp only[zI,EV,LS,CS.attr (scr:=scr),ac,cb,bb,Nat.reduceAdd,Nat.reduceLT,CS.gRows (scr:=scr),hb]
def zc (t:List Int×List Int×List Int) (r:fh):List Int×List Int×List Int:=
 if r.1∈t.1 then(t.1,t.2.1.set (t.1.idxOf r.1) (max (t.2.1.getD (t.1.idxOf r.1) 0) (max r.2.1 0)),t.2.2.set (t.1.idxOf r.1) (min (t.2.2.getD (t.1.idxOf r.1) 0) r.2.2))
 else(t.1++[r.1],t.2.1++[max r.2.1 0],t.2.2++[r.2.2])
theorem mE {i:Nat} {xs:List Int} {k:Int} (h:σ[i]? =aa (.list (iL xs))) (hk:k∈xs) (hr:∀x∈xs,-1000<x/\x<1000) (hl:xs.length<60):Lr i "index" [.int k] σ=aa (.int (xs.idxOf k),σ):=by
 unfold Lr;rw[Pb h];simp only[Um];rw[if_neg (by decide),if_neg (by decide),if_neg (by decide),if_pos trivial,if_pos];simp only[La,un,decide_eq_true_eq,Jb,yh];exact⟨⟨hk,hr⟩,hl⟩
theorem fH {i d wa lo hi:Nat} {es:List (Rb×V)} {v low high:Int} (hin:σ[i]? =aa (.inst 435 d)) (hdi:σ[d]? =aa (.sdict es)) (l1:Cg es "wanted"=aa (.ref wa)) (l2:Cg es "lows"=aa (.ref lo)) (l3:Cg es "highs"=aa (.ref hi))
 (hwa:σ[wa]? =aa (.list (iL ws))) (hlo:σ[lo]? =aa (.list (iL ls))) (hhi:σ[hi]? =aa (.list (iL hs))) (n1:wa≠lo) (n2:wa≠hi) (n3:lo≠hi) (hll:ls.length=ws.length) (hhl:hs.length=ws.length) (hr:∀x∈ws,-1000<x/\x<1000) (hl:ws.length<60) (hn:1<=n):
 ∃Ca,Oa (Ga scr) yb n 384 [.ref i,.int v,.int (max low 0),.int high] σ=aa (.none,Ca)/\ib [wa,lo,hi] σ Ca/\Ca[wa]? =aa (.list (iL (zc (ws,ls,hs) (v,low,high)).1))/\Ca[lo]? =aa (.list (iL (zc (ws,ls,hs) (v,low,high)).2.1))/\Ca[hi]? =aa (.list (iL (zc (ws,ls,hs) (v,low,high)).2.2)):=by
 obtain⟨n,rfl⟩:∃m,n=m+1:=⟨n - 1,by omega⟩;have ga:∀{τ:St} {nm:Rb} {a:Nat},τ[i]? =aa (.inst 435 d)->τ[d]? =aa (.sdict es)->(Ga scr).attr 435 nm=true->Cg es nm=aa (.ref a)->yc (Ga scr) (.ref i) nm τ=aa (.ref a):=λh1 h2 h3 h4=>td h1 h2 h3 h4 (by simp);have a1:=ga hin hdi (nm:="wanted") (by rfl) l1;have a2:=ga hin hdi (nm:="lows") (by rfl) l2;have a3:=ga hin hdi (nm:="highs") (by rfl) l3;rw[Dc (fn:=mG) rfl,Bd [aa (.ref i),aa (.int v),aa (.int (max low 0)),aa (.int high),ba] rfl rfl]
 by_cases q:v∈ws
 ·have hx:=mE hwa q hr hl
  have hkl:ws.idxOf v<ws.length:=ru q
  generalize hk:ws.idxOf v=k at*
  have hlk:ls[k]? =aa (ls.getD k 0):=by rw[Xa,da (by omega)];rfl
  have hhk:hs[k]? =aa (hs.getD k 0):=by rw[Xa,da (by omega)];rfl
  have s1:Cd (.ref lo) (.int k) (.int (max (ls.getD k 0) (max low 0))) σ=aa (σ.set lo (.list (iL (ls.set k (max (ls.getD k 0) (max low 0)))))):=by
   rw[Yi hlo (by rw[ja];omega),<-lf]
  have hin1:=ua (p:=.list (iL (ls.set k (max (ls.getD k 0) (max low 0))))) hin (Lc hlo hin (by simp));have hdi1:=ua (p:=.list (iL (ls.set k (max (ls.getD k 0) (max low 0))))) hdi (Lc hlo hdi (by simp));have hhi1:=ua (p:=.list (iL (ls.set k (max (ls.getD k 0) (max low 0))))) hhi n3;have Oz:=Ob (p:=.list (iL (ls.set k (max (ls.getD k 0) (max low 0))))) hlo;have hwa1:=ua (p:=.list (iL (ls.set k (max (ls.getD k 0) (max low 0))))) hwa (de n1);have K1:ib [wa,lo,hi] σ (σ.set lo (.list (iL (ls.set k (max (ls.getD k 0) (max low 0)))))):=ib.set _ (by simp)
  generalize σ.set lo (.list (iL (ls.set k (max (ls.getD k 0) (max low 0)))))=Ja at*
  have b3:=ga hin1 hdi1 (nm:="highs") (by rfl) l3;have s2:Cd (.ref hi) (.int k) (.int (min (hs.getD k 0) high)) Ja=aa (Ja.set hi (.list (iL (hs.set k (min (hs.getD k 0) high))))):=by
   rw[Yi hhi1 (by rw[ja];omega),<-lf]
  have hstep:zc (ws,ls,hs) (v,low,high)=(ws,ls.set k (max (ls.getD k 0) (max low 0)),hs.set k (min (hs.getD k 0) high)):=by
   unfold zc;rw[if_pos q,hk]
  rw[hstep];refine⟨Ja.set hi (.list (iL (hs.set k (min (hs.getD k 0) high)))),?_,K1.trans (ib.set _ (by simp)),ua hwa1 (de n2),ua Oz (de n3),Ob hhi1⟩;have m1:∀a b:Int,∀τ,jh (.builtin "max") [.int a,.int b] τ=aa (.int (max a b),τ):=λ_ _ _=>rfl;have m2:∀a b:Int,∀τ,jh (.builtin "min") [.int a,.int b] τ=aa (.int (min a b),τ):=λ_ _ _=>rfl;simp only[mG,EV,LS,a1,a2,a3,Dl hwa,q,decide_true,Ld hwa,Wc,hx,Nat.reduceAdd,Nat.reduceLT,if_true,Rc hlo hlk,Rc hhi hhk,Nb,m1,m2,ac,cb,bb,s1,b3,s2]
 ·have hstep:zc (ws,ls,hs) (v,low,high)=(ws++[v],ls++[max low 0],hs++[high]):=by
   unfold zc;rw[if_neg q]
  rw[hstep];have p1:Lr wa "append" [.int v] σ=aa (.none,σ.set wa (.list (iL (ws++[v])))):=by rw[cg hwa (by simp;omega)];simp
  have hin1:=ua (p:=.list (iL (ws++[v]))) hin (Lc hwa hin (by simp));have hdi1:=ua (p:=.list (iL (ws++[v]))) hdi (Lc hwa hdi (by simp));have Oz:=ua (p:=.list (iL (ws++[v]))) hlo n1;have hhi1:=ua (p:=.list (iL (ws++[v]))) hhi n2;have hwa1:=Ob (p:=.list (iL (ws++[v]))) hwa;have K1:ib [wa,lo,hi] σ (σ.set wa (.list (iL (ws++[v])))):=ib.set _ (by simp)
  generalize σ.set wa (.list (iL (ws++[v])))=Ja at*
  have b2:=ga hin1 hdi1 (nm:="lows") (by rfl) l2;have p2:Lr lo "append" [.int (max low 0)] Ja=aa (.none,Ja.set lo (.list (iL (ls++[max low 0])))):=by rw[cg Oz (by simp;omega)];simp
  have hin2:=ua (p:=.list (iL (ls++[max low 0]))) hin1 (Lc Oz hin1 (by simp));have hdi2:=ua (p:=.list (iL (ls++[max low 0]))) hdi1 (Lc Oz hdi1 (by simp));have hwa2:=ua (p:=.list (iL (ls++[max low 0]))) hwa1 (de n1);have hhi2:=ua (p:=.list (iL (ls++[max low 0]))) hhi1 n3;have hlo2:=Ob (p:=.list (iL (ls++[max low 0]))) Oz;have K2:ib [wa,lo,hi] σ (Ja.set lo (.list (iL (ls++[max low 0])))):=K1.trans (ib.set _ (by simp));have r1:=Ld (t:=Ga scr) (n:="append") Oz
  generalize Ja.set lo (.list (iL (ls++[max low 0])))=Cb at*
  have b3:=ga hin2 hdi2 (nm:="highs") (by rfl) l3;have p3:Lr hi "append" [.int high] Cb=aa (.none,Cb.set hi (.list (iL (hs++[high])))):=by rw[cg hhi2 (by simp;omega)];simp
  refine⟨Cb.set hi (.list (iL (hs++[high]))),?_,K2.trans (ib.set _ (by simp)),ua hwa2 (de n2),ua hlo2 (de n3),Ob hhi2⟩;simp only[mG,EV,LS,a1,Dl hwa,q,decide_false,Ld hwa,Wc,p1,b2,r1,p2,b3,Ld hhi2,p3]
end
end Mine
namespace Mine
structure tu (τ:St) (i c d:Nat) (es:List (Rb×V)):Prop where
 hin:τ[i]? =aa (.inst c d)
 hdi:τ[d]? =aa (.sdict es)
section
variable {S:Dr} {A:pu} {P:Mq} {σ Ca τ:St} {ms:List Nat} {failed:Bool} {tl nv:Nat} {ws ls hs:List Int} {rows:V} {scr:Nat->Option (List Int)} {n m x M o i c d:Nat} {es es':List (Rb×V)} {rs:List fh}
theorem tu.put {nm:Rb} {v:V} (h:tu τ i c d es) (ha:(Ga scr).attr c nm=true) (hl:es.length<900) (he:Nj es nm v=es'):∃Yh,ye (Ga scr) (.ref i) nm v τ=aa Yh/\tu Yh i c d es'/\ib [d] τ Yh/\Yh.length=τ.length:=
 ⟨τ.set d (.sdict es'),by rw[Zg h.hin h.hdi ha hl,he],⟨ua h.hin (Lc h.hdi h.hin (by simp)),Ob h.hdi⟩,ib.set _ (by simp),Mb⟩
theorem tu.app (h:tu τ i c d es) (os:List O):tu (τ++os) i c d es:=⟨ub h.hin,ub h.hdi⟩
theorem tu.k (h:tu τ i c d es) {W:List Nat} {Yh:St} (k:ib W τ Yh) (h1:i∉W) (h2:d∉W):tu Yh i c d es:=⟨k.old _ _ h.hin h1,k.old _ _ h.hdi h2⟩
theorem YG {xs:List V} (hx:xs.length<4096) (h:tu τ i 435 d []) (hn:1<=n):∃Yh,Oa (Ga scr) yb n 274 [.ref i,.tup xs,.str "values"] τ=aa (.none,Yh)/\tu Yh i 435 d [("number",.int (-1)),("scope",.tup xs),("strength",.str "values")]/\ib [d] τ Yh/\Yh.length=τ.length:=by
 obtain⟨n,rfl⟩:∃m,n=m+1:=⟨n - 1,by omega⟩;obtain⟨Re,e1,o1,k1,l1⟩:=h.put (scr:=scr) (nm:="number") (v:=.int (-1)) (by rfl) (by simp) (es':=[("number",.int (-1))]) (by rfl);obtain⟨Of,e2,o2,k2,l2⟩:=o1.put (scr:=scr) (nm:="scope") (v:=.tup xs) (by rfl) (by simp) (es':=[("number",.int (-1)),("scope",.tup xs)]) (by rfl);obtain⟨Ej,e3,o3,k3,l3⟩:=o2.put (scr:=scr) (nm:="strength") (v:=.str "values") (by rfl) (by simp) (es':=[("number",.int (-1)),("scope",.tup xs),("strength",.str "values")]) (by rfl);have ht:jh (.type "tuple") [.tup xs] Re=aa (.tup xs,Re):=ac hx;refine⟨Ej,?_,o3,(k1.trans k2).trans k3,by omega⟩;rw[Dc (fn:=lI) rfl,Bd [aa (.ref i),aa (.tup xs),aa (.str "values")] rfl rfl];simp only[lI,EV,LS,Vg,e1,vc,ht,e2,e3]
theorem zx:∀nv≤3,(Mf ((Ua nv).map λ(k:Nat)=>(k:Int))).length=nv:=by decide
theorem BC (l:List Nat):Qg (pd l)=aa (l.map λ(k:Nat)=>(k:Int)):=by rw[Ti,Um]
theorem eG (hnv:nv<=3) (Gn:rs.length<=10) (hr:∀r∈rs,0<=r.1/\r.1<3) (hn:2<=n):
 ∃Ca A,rh (Ga scr) (Oa (Ga scr) yb n) (.con (.ref 435)) [Ad nv,.tup (iL (rs.map (·.1))),.tup (iL (rs.map (·.2.1))),.tup (iL (rs.map (·.2.2)))] σ=aa (.ref A.i,Ca)/\ib [] σ Ca/\(∀a∈A.all,σ.length<=a)/\
  cn A Ca nv (rs.foldl zc ([],[],[])).1 (rs.foldl zc ([],[],[])).2.1 (rs.foldl zc ([],[],[])).2.2 (Yg rs):=by
 obtain⟨n,rfl⟩:∃m,n=m+1:=⟨n - 1,by omega⟩
 generalize hd:σ.length=d
 have o0:tu (σ++[.sdict [],.inst 435 d]) (d+1) 435 d []:=⟨by rw[<-hd];simp,by rw[<-hd];simp⟩;have len0:(σ++[O.sdict [],O.inst 435 d]).length=d+2:=by rw[Ib,hd];rfl
 have K0:ib [] σ (σ++[.sdict [],.inst 435 d]):=ib.app _;have Xx:(pd (Ua nv)).length=nv:=by simp[pd]
 have gz:(pd (Ua nv)).length<4096:=by omega
 have hrt:Ad nv=.tup (pd (Ua nv)):=rfl;obtain⟨Re,e1,o1,k1,l1⟩:=YG (scr:=scr) (n:=n) gz o0 (by omega);obtain⟨Of,e2,o2,k2,l2⟩:=o1.put (scr:=scr) (nm:="taken") (v:=Ad nv) (by rfl) (by simp) (es':=[("number",.int (-1)),("scope",Ad nv),("strength",.str "values"),("taken",Ad nv)]) (by rfl);obtain⟨Ej,e3,o3,k3,l3⟩:=o2.put (scr:=scr) (nm:="rows") (v:=Yg rs) (by rfl) (by simp) (es':=[("number",.int (-1)),("scope",Ad nv),("strength",.str "values"),("taken",Ad nv),("rows",Yg rs)]) (by rfl);have nl4:=Ab (xs:=[]) (σ:=Ej) (by simp);obtain⟨du,e4,o4,k4,l4⟩:=(o3.app [.list []]).put (scr:=scr) (nm:="wanted") (v:=.ref Ej.length) (by rfl) (by simp) (es':=[("number",.int (-1)),("scope",Ad nv),("strength",.str "values"),("taken",Ad nv),("rows",Yg rs),("wanted",.ref Ej.length)]) (by rfl);have g4:=k4.old _ _ (vb (σ:=Ej) (o:=.list [])) (by simp;omega);have nl5:=Ab (xs:=[]) (σ:=du) (by simp);obtain⟨τ5,e5,o5,k5,l5⟩:=(o4.app [.list []]).put (scr:=scr) (nm:="lows") (v:=.ref du.length) (by rfl) (by simp) (es':=[("number",.int (-1)),("scope",Ad nv),("strength",.str "values"),("taken",Ad nv),("rows",Yg rs),("wanted",.ref Ej.length),("lows",.ref du.length)]) (by rfl);simp only[Ib,cb,bb]at l4 l5;have g5:=k5.old _ _ (vb (σ:=du) (o:=.list [])) (by simp;omega);have g45:=k5.old _ _ (ub (os:=[O.list []]) g4) (by simp;omega);have nl6:=Ab (xs:=[]) (σ:=τ5) (by simp);obtain⟨τ6,e6,o6,k6,l6⟩:=(o5.app [.list []]).put (scr:=scr) (nm:="highs") (v:=.ref τ5.length) (by rfl) (by simp) (es':=[("number",.int (-1)),("scope",Ad nv),("strength",.str "values"),("taken",Ad nv),("rows",Yg rs),("wanted",.ref Ej.length),("lows",.ref du.length),("highs",.ref τ5.length)]) (by rfl);simp only[Ib,cb,bb]at l6;have g6:=k6.old _ _ (vb (σ:=τ5) (o:=.list [])) (by simp;omega);have g56:=k6.old _ _ (ub (os:=[O.list []]) g5) (by simp;omega);have g456:=k6.old _ _ (ub (os:=[O.list []]) g45) (by simp;omega);have Kd:∀{a b:St},ib [d] a b->d<=a.length->ib [] σ a->ib [] σ b:=λk h k0=>⟨Eb k0.len k.len,λj o e hj=>k.old j o (k0.old j o e hj) (by simp;have:=Ic e;omega)⟩;have K6:ib [] σ τ6:=by
  have a1:=Kd k1 (by omega) K0;have a2:=Kd k2 (by omega) a1;have a3:=Kd k3 (by omega) a2;have a4:=Kd k4 (by simp;omega) (a3.trans (ib.app _));have a5:=Kd k5 (by simp;omega) (a4.trans (ib.app _));exact Kd k6 (by simp;omega) (a5.trans (ib.app _))
 generalize hwa:Ej.length=wa at*
 generalize hlo:du.length=lo at*
 generalize hhi:τ5.length=hi at*
 let Inv:Nat->Me->St->Prop:=λk me τ=>∃q5 q6 q7,me=[aa (.ref (d+1)),aa (Ad nv),aa (.tup (iL (rs.map (·.1)))),aa (.tup (iL (rs.map (·.2.1)))),aa (.tup (iL (rs.map (·.2.2)))),q5,q6,q7]/\ib [wa,lo,hi] τ6 τ/\
  τ[wa]? =aa (.list (iL ((rs.take k).foldl zc ([],[],[])).1))/\τ[lo]? =aa (.list (iL ((rs.take k).foldl zc ([],[],[])).2.1))/\τ[hi]? =aa (.list (iL ((rs.take k).foldl zc ([],[],[])).2.2))/\
  ((rs.take k).foldl zc ([],[],[])).2.1.length=((rs.take k).foldl zc ([],[],[])).1.length/\((rs.take k).foldl zc ([],[],[])).2.2.length=((rs.take k).foldl zc ([],[],[])).1.length/\
  ((rs.take k).foldl zc ([],[],[])).1.length<=k/\∀x∈((rs.take k).foldl zc ([],[],[])).1,0<=x/\x<3
 obtain⟨Qb,τ7,e7,q5,q6,q7,rfl,K7,w1,w2,w3,_⟩:=Xe (xs:=rc rs) (it:=.st (rc rs)) (me:=[aa (.ref (d+1)),aa (Ad nv),aa (.tup (iL (rs.map (·.1)))),aa (.tup (iL (rs.map (·.2.1)))),aa (.tup (iL (rs.map (·.2.2)))),ba,ba,ba]) (σ:=τ6)
  (F:=Ce (Ga scr) (Oa (Ga scr) yb n) (.tup [5,6,7]) [.expr (.meth (.var 0) "want" [(.var 5),(.call (.con (.builtin "max")) [(.var 6),(.int 0)]),(.var 7)])]) Inv
  (λ_ _ _ _ _=>rfl)
  (λk v me τ hv ⟨q5,q6,q7,Wg,K,w1,w2,w3,h1,h2,h3,h4⟩=>by
   subst Wg;unfold rc at hv;rw[za]at hv;cases hq:rs[k]? with
   |none=>rw[hq]at hv;cases hv
   |some r=>
    rw[hq]at hv;cases hv;have hk:k<rs.length:=(ca.mp hq).1;have oo:=o6.k K (by simp;omega) (by simp;omega);obtain⟨Yh,ew,Kw,v1,v2,v3⟩:=fH (scr:=scr) (n:=n) (v:=r.1) (low:=r.2.1) (high:=r.2.2) oo.hin oo.hdi (by rfl) (by rfl) (by rfl) w1 w2 w3 (by omega) (by omega) (by omega) h1 h2 (λx hx=>by have:=h4 x hx;omega) (by omega) (by omega);have nB:(rs.take (k+1)).foldl zc ([],[],[])=zc ((rs.take k).foldl zc ([],[],[])) r:=by
     rw[Yb,hq,wD];rfl
    have hres:kg (Ga scr) (.ref (d+1)) "want" τ=aa (.fn 384 (.ref (d+1))):=De oo.hin oo.hdi (by rfl) (by rfl);have m1:∀a b:Int,∀τ,jh (.builtin "max") [.int a,.int b] τ=aa (.int (max a b),τ):=λ_ _ _=>rfl;refine⟨[aa (.ref (d+1)),aa (Ad nv),aa (.tup (iL (rs.map (·.1)))),aa (.tup (iL (rs.map (·.2.1)))),aa (.tup (iL (rs.map (·.2.2)))),aa (.int r.1),aa (.int r.2.1),aa (.int r.2.2)],Yh,?_,aa (.int r.1),aa (.int r.2.1),aa (.int r.2.2),rfl,K.trans Kw,by rw[nB];exact v1,by rw[nB];exact v2,by rw[nB];exact v3,?_⟩
    ·unfold Ce
     simp only[dg,Qc,EV,LS,Nat.reduceAdd,Nat.reduceLT,if_true,hres,Nb,m1,Wc,ew]
    ·rw[nB]
     generalize (rs.take k).foldl zc ([],[],[])=t at*
     obtain⟨tw,tlo,thi⟩:=t;simp only at h1 h2 h3 h4|-;have hrr:=hr r (ma hq);unfold zc
     by_cases q:r.1∈tw
     ·simp only[q,if_true]
      exact⟨by simp[h1],by simp[h2],by omega,h4⟩
     ·simp only[q,if_false]
      refine⟨by simp[h1],by simp[h2],by simp;omega,λx hx=> ?_⟩;rcases db.mp hx with z|z
      ·exact h4 x z
      ·simp at z;subst z;exact hrr)
  (by unfold rc;rw[ja];omega) ⟨ba,ba,ba,rfl,.refl,by simpa using g456,by simpa using g56,by simpa using g6,by simp,by simp,by simp,by simp⟩
 have hlen:(rc rs).length=rs.length:=by unfold rc;simp
 rw[hlen,Xd]at w1 w2 w3;have o7:=o6.k K7 (by simp;omega) (by simp;omega);obtain⟨τ8,e8,o8,k8,l8⟩:=o7.put (scr:=scr) (nm:="has_twins") (v:=.bool false) (by rfl) (by simp) (es':=mL ⟨d+1,d,wa,lo,hi⟩ nv (Yg rs)) (by rfl);have kn:jh (.type "set") [Ad nv] τ7=aa (.iset ((Ua nv).map λ(k:Nat)=>(k:Int)),τ7):=by
  unfold jh;simp only[hrt,BC];rw[if_pos];simp only[Jb,Bb,ng,La,decide_eq_true_eq]
  rintro _ ⟨k,hk,rfl⟩
  omega
 have hlen2:jh (.builtin "len") [.iset ((Ua nv).map λ(k:Nat)=>(k:Int))] τ7=aa (.int nv,τ7):=by
  show aa (V.int (Mf ((Ua nv).map λ(k:Nat)=>(k:Int))).length,τ7)=_
  rw[zx nv hnv]
 have gtk:yc (Ga scr) (.ref (d+1)) "taken" τ7=aa (Ad nv):=td o7.hin o7.hdi (by rfl) (by rfl) (by simp[Ad]);refine⟨τ8,⟨d+1,d,wa,lo,hi⟩,?_,?_,λa ha=> ?_,⟨o8.hin,o8.hdi,k8.old _ _ w1 (by simp;omega),k8.old _ _ w2 (by simp;omega),k8.old _ _ w3 (by simp;omega)⟩⟩
 ·unfold rh
  have hin:(Ga scr).init 435=aa 377:=by rfl
  simp only[hin,hd];rw[Dc (fn:=wI) rfl,Bd [aa (.ref (d+1)),aa (Ad nv),aa (.tup (iL (rs.map (·.1)))),aa (.tup (iL (rs.map (·.2.1)))),aa (.tup (iL (rs.map (·.2.2)))),ba,ba,ba] rfl rfl];have Sz:(Ga scr).sup 435=aa 274:=by rfl
  have t1:∀τ,jh (.type "tuple") [Ad nv] τ=aa (Ad nv,τ):=λτ=>ac gz;have t2:∀τ,jh (.type "tuple") [.tup (iL (rs.map (·.1)))] τ=aa (.tup (iL (rs.map (·.1))),τ):=λτ=>ac (by simp;omega);have t3:∀τ,jh (.type "tuple") [.tup (iL (rs.map (·.2.1)))] τ=aa (.tup (iL (rs.map (·.2.1))),τ):=λτ=>ac (by simp;omega);have t4:∀τ,jh (.type "tuple") [.tup (iL (rs.map (·.2.2)))] τ=aa (.tup (iL (rs.map (·.2.2))),τ):=λτ=>ac (by simp;omega);have t5:∀τ:St,uj [.tup (iL (rs.map (·.1))),.tup (iL (rs.map (·.2.1))),.tup (iL (rs.map (·.2.2)))] τ=aa (Yg rs,τ):=λτ=>ac (by simp);have s0:gc (Ga scr) (Oa (Ga scr) yb n) (.sup 0 274 [(.var 1),(.str "values")]) [aa (.ref (d+1)),aa (Ad nv),aa (.tup (iL (rs.map (·.1)))),aa (.tup (iL (rs.map (·.2.1)))),aa (.tup (iL (rs.map (·.2.2)))),ba,ba,ba] (σ++[O.sdict [],O.inst 435 d])=aa (.none,Re):=by
   rw[tH];simp only[LS,o0.hin,o0.hdi,Sz,if_true,EV];exact e1
  simp only[wI,Ud,qj,Bz,s0,gg,Nf,uh,Te,Qf,Oe,LS,vc,Nb,t1,WA,e2,Vo,t2,t3,t4,t5,e3,Gm,nl4,e4,nl5,e5,nl6,e6,ZD,Xh,bu,e7,Bn,Ks,gtk,kn,hlen2,Ni,Ck,Int.lt_irrefl,decide_false,e8]
 ·have a7:ib [] σ τ7:=⟨Eb K6.len K7.len,λj o e hj=>K7.old j o (K6.old j o e hj) (by simp;have:=Ic e;omega)⟩
  exact Kd k8 (by have:=K6.len;have:=K7.len;omega) a7
 ·simp only[pu.all,Fa,Za,or_false]at ha
  rcases ha with rfl|rfl|rfl|rfl|rfl<;>omega
end
end Mine
namespace Mine
section
variable {S:Dr} {A:pu} {P:Mq} {σ Ca τ:St} {ms:List Nat} {failed:Bool} {tl nv:Nat} {ws ls hs:List Int} {rows:V} {scr:Nat->Option (List Int)} {n m x M o i c d:Nat} {es es':List (Rb×V)} {rs:List fh}
theorem Ly (hn:1<=n):∃Ca S,rh (Ga scr) (Oa (Ga scr) yb n) (.con (.ref 256)) [] σ=aa (.ref (Dr.i S),Ca)/\ib [] σ Ca/\(∀a∈S.all,σ.length<=a)/\Tg S Ca [] false 0:=by
 obtain⟨n,rfl⟩:∃m,n=m+1:=⟨n - 1,by omega⟩
 generalize hd:σ.length=d
 have o0:tu (σ++[.sdict [],.inst 256 d]) (d+1) 256 d []:=⟨by rw[<-hd];simp,by rw[<-hd];simp⟩;have len0:(σ++[O.sdict [],O.inst 256 d]).length=d+2:=by rw[Ib,hd];rfl
 generalize hτ0:σ++[O.sdict [],O.inst 256 d]=Yy at*
 have K0:ib [] σ Yy:=hτ0▸ib.app _;have nl1:=Ab (xs:=[]) (σ:=Yy) (by simp);have g1:=vb (σ:=Yy) (o:=.list []);obtain⟨Re,e1,o1,k1,l1⟩:=(o0.app [.list []]).put (scr:=scr) (nm:="domains") (v:=.ref Yy.length) (by rfl) (by simp) (es':=[("domains",.ref Yy.length)]) (by rfl);have nl2:=Ab (xs:=[]) (σ:=Re) (by simp);have g2:=vb (σ:=Re) (o:=.list []);obtain⟨Of,e2,o2,k2,l2⟩:=(o1.app [.list []]).put (scr:=scr) (nm:="firsts") (v:=.ref Re.length) (by rfl) (by simp) (es':=[("domains",.ref Yy.length),("firsts",.ref Re.length)]) (by rfl);have nl3:=Ab (xs:=[]) (σ:=Of) (by simp);have g3:=vb (σ:=Of) (o:=.list []);obtain⟨Ej,e3,o3,k3,l3⟩:=(o2.app [.list []]).put (scr:=scr) (nm:="trail") (v:=.ref Of.length) (by rfl) (by simp) (es':=[("domains",.ref Yy.length),("firsts",.ref Re.length),("trail",.ref Of.length)]) (by rfl);have nl4:=Ab (xs:=[]) (σ:=Ej) (by simp);have g4:=vb (σ:=Ej) (o:=.list []);obtain⟨du,e4,o4,k4,l4⟩:=(o3.app [.list []]).put (scr:=scr) (nm:="marks") (v:=.ref Ej.length) (by rfl) (by simp) (es':=[("domains",.ref Yy.length),("firsts",.ref Re.length),("trail",.ref Of.length),("marks",.ref Ej.length)]) (by rfl);have g5:=vb (σ:=du) (o:=.idict []);obtain⟨τ5,e5,o5,k5,l5⟩:=(o4.app [.idict []]).put (scr:=scr) (nm:="news") (v:=.ref du.length) (by rfl) (by simp) (es':=[("domains",.ref Yy.length),("firsts",.ref Re.length),("trail",.ref Of.length),("marks",.ref Ej.length),("news",.ref du.length)]) (by rfl);obtain⟨τ6,e6,o6,k6,l6⟩:=o5.put (scr:=scr) (nm:="speaker") (v:=.int (-1)) (by rfl) (by simp) (es':=[("domains",.ref Yy.length),("firsts",.ref Re.length),("trail",.ref Of.length),("marks",.ref Ej.length),("news",.ref du.length),("speaker",.int (-1))]) (by rfl);obtain⟨τ7,e7,o7,k7,l7⟩:=o6.put (scr:=scr) (nm:="is_failed") (v:=.bool false) (by rfl) (by simp) (es':=[("domains",.ref Yy.length),("firsts",.ref Re.length),("trail",.ref Of.length),("marks",.ref Ej.length),("news",.ref du.length),("speaker",.int (-1)),("is_failed",.bool false)]) (by rfl);obtain⟨τ8,e8,o8,k8,l8⟩:=o7.put (scr:=scr) (nm:="clash") (v:=.tup []) (by rfl) (by simp) (es':=Iy ⟨d+1,d,Yy.length,Re.length,Of.length,Ej.length,du.length⟩ false (.tup [])) (by rfl);simp only[Ib,cb,bb]at l1 l2 l3 l4 l5;have Kd:∀{a b:St},ib [d] a b->ib [] σ a->ib [] σ b:=λk k0=>⟨Eb k0.len k.len,λj o e hj=>k.old j o (k0.old j o e hj) (by simp;have:=Ic e;omega)⟩;have a1:=Kd k1 (K0.trans (ib.app _));have a2:=Kd k2 (a1.trans (ib.app _));have a3:=Kd k3 (a2.trans (ib.app _));have a4:=Kd k4 (a3.trans (ib.app _));have a5:=Kd k5 (a4.trans (ib.app _));have a8:=Kd k8 (Kd k7 (Kd k6 a5));have g68:∀{a:Nat} {o:O},τ5[a]? =aa o->a≠d->τ8[a]? =aa o:=λh hne=>k8.old _ _ (k7.old _ _ (k6.old _ _ h (by simpa using hne)) (by simpa using hne)) (by simpa using hne);have h5:=k5.old _ _ g5 (by simp;omega);have h4:=k5.old _ _ (ub (os:=[O.idict []]) (k4.old _ _ g4 (by simp;omega))) (by simp;omega);have h3':=k4.old _ _ (ub (os:=[O.list []]) (k3.old _ _ g3 (by simp;omega))) (by simp;omega);have h3:=k5.old _ _ (ub (os:=[O.idict []]) h3') (by simp;omega);have h2'':=k3.old _ _ (ub (os:=[O.list []]) (k2.old _ _ g2 (by simp;omega))) (by simp;omega);have h2':=k4.old _ _ (ub (os:=[O.list []]) h2'') (by simp;omega);have h2:=k5.old _ _ (ub (os:=[O.idict []]) h2') (by simp;omega);have h1c:=k2.old _ _ (ub (os:=[O.list []]) (k1.old _ _ g1 (by simp;omega))) (by simp;omega);have h1'':=k3.old _ _ (ub (os:=[O.list []]) h1c) (by simp;omega);have h1':=k4.old _ _ (ub (os:=[O.list []]) h1'') (by simp;omega);have h1:=k5.old _ _ (ub (os:=[O.idict []]) h1') (by simp;omega);refine⟨τ8,⟨d+1,d,Yy.length,Re.length,Of.length,Ej.length,du.length⟩,?_,a8,λa ha=> ?_,⟨o8.hin,⟨_,o8.hdi⟩,g68 h1 (show Yy.length≠d by omega),⟨[],g68 h2 (show Re.length≠d by omega),by simp⟩,⟨[],g68 h3 (show Of.length≠d by omega),by simp⟩,⟨[],g68 h4 (show Ej.length≠d by omega),by simp⟩,⟨[],g68 h5 (show du.length≠d by omega),by simp⟩,⟨show Yy.length≠Re.length by omega,show Yy.length≠Of.length by omega,show Yy.length≠Ej.length by omega⟩,⟨show Re.length≠Of.length by omega,show Re.length≠Ej.length by omega,show Of.length≠Ej.length by omega⟩⟩⟩
 ·unfold rh
  have hin:(Ga scr).init 256=aa 120:=by rfl
  simp only[hin,hd];rw[Dc (fn:=ZH) rfl,Bd [aa (.ref (d+1))] rfl rfl];simp only[ZH,EV,LS,hτ0,nl1,e1,nl2,e2,nl3,e3,nl4,e4,th,e5,Vg,e6,e7,ac,bb,Nat.reduceLT,e8]
 ·simp only[Dr.all,Fa,Za,or_false]at ha
  rcases ha with rfl|rfl|rfl|rfl|rfl|rfl|rfl<;>omega
theorem JC (SS:Tg S σ ms failed tl) (h0:m≠0) (h8:m<8) (dp:ms.length<1000) (lu:tl<1000) (hn:1<=n):
 ∃Ca,Oa (Ga scr) yb n 127 [.ref S.i,Ve m] σ=aa (.int ms.length,Ca)/\Tg S Ca (ms++[m]) failed (tl+1)/\ib [S.dom,S.fir] σ Ca:=by
 obtain⟨n,rfl⟩:∃m,n=m+1:=⟨n - 1,by omega⟩;obtain⟨c,hdi⟩:=SS.hdi;obtain⟨x1,f1,f2⟩:=SS.hfi;obtain⟨x2,t1,t2⟩:=SS.htr;obtain⟨x3,m1,m2⟩:=SS.hma;obtain⟨x4,n1,n2⟩:=SS.hne;have p1:=cg SS.hdo (v:=Ve m) (by simp;omega);have r1:=Ld (t:=Ga scr) (n:="append") SS.hdo;have S1:Tg S (σ.set S.dom (.list (ms.map Ve++[Ve m]))) (ms++[m]) failed tl:=
  ⟨ua SS.hin (Lc SS.hdo SS.hin (by simp)),⟨c,ua hdi (Lc SS.hdo hdi (by simp))⟩,by rw[Ob SS.hdo];simp,⟨x1,ua f1 SS.ap1.1,f2⟩,⟨x2,ua t1 SS.ap1.2.1,t2⟩,⟨x3,ua m1 SS.ap1.2.2,m2⟩,⟨x4,ua n1 (Lc SS.hdo n1 (by simp)),n2⟩,SS.ap1,SS.ap2⟩
 have f1':=ua (p:=.list (ms.map Ve++[Ve m])) f1 SS.ap1.1;have K1:ib [S.dom,S.fir] σ (σ.set S.dom (.list (ms.map Ve++[Ve m]))):=ib.set _ (by simp)
 generalize σ.set S.dom (.list (ms.map Ve++[Ve m]))=Ja at*
 have p2:=cg f1' (v:=Ve m) (by omega);have r2:=Ld (t:=Ga scr) (n:="append") f1';obtain⟨c,hdi⟩:=S1.hdi;obtain⟨x2,t1,t2⟩:=S1.htr;obtain⟨x3,m1,m2⟩:=S1.hma;obtain⟨x4,n1,n2⟩:=S1.hne;have S2:Tg S (Ja.set S.fir (.list (x1++[Ve m]))) (ms++[m]) failed (tl+1):=
  ⟨ua S1.hin (Lc f1' S1.hin (by simp)),⟨c,ua hdi (Lc f1' hdi (by simp))⟩,ua S1.hdo (de SS.ap1.1),⟨_,Ob f1',by simp;omega⟩,⟨x2,ua t1 SS.ap2.1,by omega⟩,⟨x3,ua m1 SS.ap2.2.1,by omega⟩,⟨x4,ua n1 (Lc f1' n1 (by simp)),by omega⟩,SS.ap1,SS.ap2⟩
 have K2:ib [S.dom,S.fir] σ (Ja.set S.fir (.list (x1++[Ve m]))):=K1.trans (ib.set _ (by simp))
 generalize Ja.set S.fir (.list (x1++[Ve m]))=Cb at*
 have heq:Zc .Eq (Ve m) (.tup []) Cb=aa false:=by
  have:=Ix (σ:=Cb) h8 (show 0<8 by omega);rw[decide_eq_false h0]at this;exact this
 have gp:Cf .Sub (.int ((fk Ve (ms++[m])).length:Nat)) (.int 1) Cb=aa (.int ms.length,Cb):=by
  show aa (V.int _,Cb)=_
  rw[ja,Ib]
  congr 3
  simp
 refine⟨Cb,?_,S2,K2⟩;rw[Dc (fn:=aI) rfl,Bd [aa (.ref S.i),aa (Ve m)] rfl rfl];simp only[aI,EV,LS,SS.attr (scr:=scr),r1,Wc,p1,S1.attr (scr:=scr),r2,p2,ac,bb,Nat.reduceLT,heq,S2.attr (scr:=scr),Nb,wc S2.hdo,gp]
def Ag (rs:List fh) (k:Nat):List Int:=rs.map λr=>match k with
 |0=>r.1
 |1=>r.2.1
 |_=>r.2.2
def DH (k:Nat):V->List V
 | .tup [a,b,c]=>match k with
  |0=>[a]
  |1=>[b]
  |_=>[c]
 |_=>[]
theorem vH {k:Nat}:∀rs:List fh,(rc rs).flatMap (DH k)=iL (Ag rs k)
 | []=>rfl
 |r::rs=>by
  have ih:=vH (k:=k) rs;unfold rc Ag iL at ih|-;simp only[sa,Dd,ih]
  match k with
  |0=>rfl
  |1=>rfl
  |k+2=>rfl
theorem vE {v:V} (h:v∈rc rs):∃a b c:Int,v=.tup [.int a,.int b,.int c]:=by
 unfold rc at h;obtain⟨r,_,rfl⟩:=Bb.mp h;exact⟨_,_,_,rfl⟩
theorem ND {t:gi} {cf:Nat->List V->St->Option (V×St)} {j p:Nat} {me:Me} {k:Nat} {R:Nat} (Wg:me.length=p) (hk:k<3) (hj:me[j]? =aa (aa (.int (k:Int)))) (hR:σ[R]? =aa (.list (rc rs))) (Gn:rs.length<=10):
 re 5000 (.dyn R) 0 (Ec t cf 2 (.var (p+1)) [] [] (.sub (.var (p+1)) (.var j)) me) σ=aa (iL (Ag rs k),σ):=by
 have h:=We (σ:=σ) (it:=.dyn R) (xs:=rc rs) (F:=Ec t cf 2 (.var (p+1)) [] [] (.sub (.var (p+1)) (.var j)) me) (DH k) (λq=>se hR) (λv hv=>by
  obtain⟨a,b,c,rfl⟩:=vE hv;have hjl:j<me.length:=(ca.mp hj).1;have g1:(me++[ba,ba])[p+1]? =aa ba:=by
   rw[Ra (by omega),Wg];simp
  have g2:((me++[ba,ba]).set (p+1) (aa (V.tup [.int a,.int b,.int c])))[p+1]? =aa (aa (.tup [.int a,.int b,.int c])):=by
   rw[fb (by simp;omega)]
  have g3:((me++[ba,ba]).set (p+1) (aa (V.tup [.int a,.int b,.int c])))[j]? =aa (aa (.int (k:Int))):=by
   rw[Na (by omega),ta hjl];exact hj
  have s:Qe (.tup [.int a,.int b,.int c]) (.int (k:Int)) σ=aa (match k with|0=>.int a|1=>.int b|_=>.int c):=by
   have:k=0\/k=1\/k=2:=by omega
   rcases this with rfl|rfl|rfl<;>rfl
  simp only[Ec,yd,Aa,g1,EV,g2,g3,s];have:k=0\/k=1\/k=2:=by omega
  rcases this with rfl|rfl|rfl<;>rfl) (by unfold rc;rw[ja];omega)
 rw[vH]at h;exact h
theorem AG {L R:Nat} {il:List Nat} (hL:σ[L]? =aa (.list (il.map V.ref))) (hll:il.length=ms.length) (Sx:∀(k a m:Nat),il[k]? =aa a->ms[k]? =aa m->σ[a]? =aa (.list (iL (vals m)))) (hm8:∀m∈ms,0<m/\m<8) (hR:σ[R]? =aa (.list (rc rs))) (hnv:ms.length=nv) (hnv3:nv<=3) (Gn:rs.length<=10) (hr:∀r∈rs,0<=r.1/\r.1<3) (hn:4<=n):
 ∃Ca S A,Oa (Ga scr) yb n 466 [.ref L,.ref R] σ=aa (.tup [.ref (Dr.i S),.ref (pu.i A)],Ca)/\ib [] σ Ca/\(∀a∈S.all,σ.length<=a)/\(∀a∈A.all,σ.length<=a)/\(∀a∈S.all,a∉A.all)/\Tg S Ca ms false 3/\
  cn A Ca nv (rs.foldl zc ([],[],[])).1 (rs.foldl zc ([],[],[])).2.1 (rs.foldl zc ([],[],[])).2.2 (Yg rs):=by
 obtain⟨n,rfl⟩:∃m,n=m+1:=⟨n - 1,by omega⟩;obtain⟨Ja,S,e1,K1,hSg,SS1⟩:=Ly (scr:=scr) (n:=n) (σ:=σ) (by omega);obtain⟨out,Cb,e2,Yl,Oq,K2⟩:=pf (xs:=il.map V.ref) (it:=.dyn L) (σ:=Ja)
  (F:=Ec (Ga scr) (Oa (Ga scr) yb n) 2 (.var 6) [] [] (.meth (.var 2) "new_var" [(.call (.con (.ref 451)) [(.var 6)])]) [aa (.ref L),aa (.ref R),aa (.ref S.i),ba,ba])
  (λk Cc τ=>Cc=pd (Ua k)/\Tg S τ (ms.take k) false k/\ib [] σ τ)
  (λk Cc τ ⟨_,_,K⟩ _=>se (K.old _ _ hL (by simp)))
  (λk v Cc τ hv ⟨lh,SSt,K⟩=>by
   rw[za]at hv;cases ha:il[k]? with
   |none=>rw[ha]at hv;cases hv
   |some a=>
    rw[ha]at hv;cases hv;have hkl:k<il.length:=(ca.mp ha).1;obtain⟨m,hm⟩:∃m,ms[k]? =aa m:=⟨ms[k]'(by omega),da _⟩;have ww:=hm8 m (ma hm);obtain⟨Re,ed,Kd⟩:=tC (scr:=scr) (n:=n) (σ:=τ) (a:=a) ww.2 (K.old _ _ (Sx k a m ha hm) (by simp)) (by omega);have SSt1:=SSt.k0 Kd;obtain⟨Of,en,SSn,Kn⟩:=JC (scr:=scr) (n:=n) (m:=m) SSt1 (by omega) ww.2 (by rw[lg];omega) (by omega) (by omega);refine⟨[.int k],Of,?_,?_,?_,?_⟩
    ·have wh:(ms.take k).length=k:=by rw[lg];omega
     rw[wh]at en;simp only[Ec,yd,Aa,wb,Db,EV,LS,SSt.meth (scr:=scr),Uc (scr:=scr) (a:=451) rfl,ed,Wc,en]
    ·rw[lh,vm];simp[pd]
    ·rw[Yb,hm];exact SSn
    ·refine⟨Eb (K.trans Kd).len Kn.len,λj o e hj=>Kn.old j o ((K.trans Kd).old j o e hj) ?_⟩
     have:=Ic e;have h1:=hSg S.dom (by simp[Dr.all]);have h2:=hSg S.fir (by simp[Dr.all]);simp;omega)
  (by rw[ja];omega) ⟨rfl,by simpa using SS1,K1⟩
 rw[ja,hll,hnv]at Yl Oq;rw[dm (by omega)]at Oq;have Dk:=Ab (xs:=out) (σ:=Cb) (by rw[Yl];simp[pd];omega);have ht2:jh (.type "tuple") [.ref Cb.length] (Cb++[.list out])=aa (Ad nv,Cb++[.list out]):=by
  have hg:=vb (σ:=Cb) (o:=.list out);unfold jh;simp only[Pj,Pb hg];rw[ac (by rw[Yl];simp[pd];omega),Yl];rfl
 have K3:ib [] σ (Cb++[.list out]):=K2.trans (ib.app _);have sz:=Oq.app [.list out];have hR1:=K1.old _ _ hR (by simp)
 generalize hσ3:Cb++[O.list out]=ae at*
 have ao:=Oc (K1.old _ _ hL (by simp));obtain⟨cols,dh,e4,Qx,K4⟩:=pf (xs:=gd 0 ((3:Nat):Int)) (it:=.st (gd 0 ((3:Nat):Int))) (σ:=ae)
  (F:=Ec (Ga scr) (Oa (Ga scr) yb n) 2 (.var 6) [] [] (.call (.con (.type "tuple")) [(.comp 2 (.var 1) (.var 8) [] [] (.sub (.var 8) (.var 6)))]) [aa (.ref L),aa (.ref R),aa (.ref S.i),aa (Ad nv),ba])
  (λk Cc τ=>Cc=((Ua k).map λk=>V.tup (iL (Ag rs k)))/\ib [] ae τ)
  (λ_ _ _ _ _=>rfl)
  (λk v Cc τ hv ⟨lh,K⟩=>by
   rw[gf]at hv
   split at hv<;>cases hv
   rename_i hk;have hRt:=K.old _ _ (K3.old _ _ hR (by simp)) (by simp);have hc:=ND (t:=Ga scr) (cf:=Oa (Ga scr) yb n) (j:=6) (p:=7) (me:=[aa (.ref L),aa (.ref R),aa (.ref S.i),aa (Ad nv),ba,ba,aa (.int k)]) (k:=k) (by rfl) hk (by rfl) hRt Gn;have hcl:(iL (Ag rs k)).length<=10:=by simp[Ag];omega
   have ak:=Ab (xs:=iL (Ag rs k)) (σ:=τ) (by omega);have ht:jh (.type "tuple") [.ref τ.length] (τ++[.list (iL (Ag rs k))])=aa (.tup (iL (Ag rs k)),τ++[.list (iL (Ag rs k))]):=by
    unfold jh;simp only[Pj,Pb (vb (σ:=τ) (o:=.list (iL (Ag rs k))))];exact ac (by omega)
   refine⟨[.tup (iL (Ag rs k))],τ++[.list (iL (Ag rs k))],?_,?_,K.trans (ib.app _)⟩
   ·simp only[Ec,yd,Aa,wb,Db,LS,mj,Og,Nf,uh,Te,Qf,ig,Oe,Oc hRt]
    simp only[Nat.reduceAdd]at hc;simp only[hc,ak,vc,ht]
   ·rw[lh,vm,bc];rfl)
  (by rw[jd];omega) ⟨rfl,.refl⟩
 rw[jd]at Qx;have Lz:cols=[.tup (iL (rs.map (·.1))),.tup (iL (rs.map (·.2.1))),.tup (iL (rs.map (·.2.2)))]:=by rw[Qx];rfl
 have hnl4:=Ab (xs:=cols) (σ:=dh) (by rw[Lz];simp);have Nz:=vb (σ:=dh) (o:=.list cols);have SS5:=(sz.k0 K4).app [.list cols];have K5:ib [] σ (dh++[.list cols]):=(K3.trans K4).trans (ib.app _);rw[Lz]at Nz;have s0:=Tf (k:=0) Nz rfl;have s1:=Tf (k:=1) Nz rfl;have s2:=Tf (k:=2) Nz rfl;rw[<-Lz]at s0 s1 s2;have hσ5l:dh.length<(dh++[O.list cols]).length:=by simp
 generalize hσ5:dh++[O.list cols]=ci at*
 obtain⟨Io,A,e6,K6,hAg,CS6⟩:=eG (scr:=scr) (n:=n) (σ:=ci) (nv:=nv) (rs:=rs) hnv3 Gn hr (by omega);have SS6:=SS5.k0 K6;refine⟨Io,S,A,?_,K5.trans K6,hSg,λa ha=>Eb K5.len (hAg a ha),λa ha hb=>by have:=SS5.lt a ha;have:=hAg a hb;omega,SS6.more (by omega),CS6⟩;rw[Dc (fn:=CI) rfl,Bd [aa (.ref L),aa (.ref R),ba,ba,ba] rfl rfl];have xw:=xe (σ:=ae) (b:=((3:Nat):Int)) (by omega);have vw:=Ie (σ:=ae) (b:=((3:Nat):Int)) (by omega);have c0:((0:Nat):Int)=0:=rfl;have c1:((1:Nat):Int)=1:=rfl;have c2:((2:Nat):Int)=2:=rfl;have c3:((3:Nat):Int)=3:=rfl;rw[c0]at s0;rw[c1]at s1;rw[c2]at s2;rw[c3]at xw vw e4;simp only[CI,Ud,qj,gg,Nf,uh,Te,Qf,e1,nj,LS,Nat.reduceAdd,Nat.reduceLT,if_true,ig,Oe,ao,e2,Dk,vc,ht2,Fm,xw,vw,e4,hnl4,hσ5,gv,Vo,VA,s0,s1,s2,e6,ac,cb,bb]
end
end Mine
namespace Mine
def sm (ms:List Nat) (one:List Int):Prop:=one.length=ms.length/\∀(k m:Nat) (v:Int),ms[k]? =aa m->one[k]? =aa v->(0<=v/\v<3)/\xf m v=true
def HF (ws ls hs:List Int) (one:List Int):Prop:=∀(k:Nat) w l h,ws[k]? =aa w->ls[k]? =aa l->hs[k]? =aa h->l<=(one.count w:Int)/\(one.count w:Int)<=h
def Zl (ws one:List Int):List Int:=one.map λv=>((ws.idxOf v:Nat):Int)
theorem Ri {f:Int->Int} {w p:Int}:∀{xs:List Int},(∀v∈xs,f v=p↔v=w)->(xs.map f).count p=xs.count w
 | [],_=>rfl
 |x::xs,h=>by
  have ih:=Ri (xs:=xs) λv hv=>h v (Ia _ hv);rw[sa,Zh,Zh,ih];have:=h x Ma
  by_cases q:x=w
  ·simp[q,this.mpr q,(h x Ma)]
   rw[<-q];simp[this.mpr q]
  ·have q':f x≠p:=λz=>q (this.mp z)
   simp[q,q']
section
variable {S:Dr} {A:pu} {σ Ca:St} {ms:List Nat} {nv tl:Nat} {ws ls hs one a:List Int} {scr:Nat->Option (List Int)} {n:Nat} {failed:Bool}
theorem zw (hn:ws.Nodup) {k:Nat} {w v:Int} (h:ws[k]? =aa w):((ws.idxOf v:Nat):Int)=(k:Int)↔v=w:=by
 constructor
 ·intro q
  have q':ws.idxOf v=k:=by omega
  have hk:=(ca.mp h).1;have wh:ws.idxOf v<ws.length:=by omega
  have e1:=fD wh;have e2:ws[ws.idxOf v]? =aa v:=by rw[da wh,e1]
  rw[q',h]at e2;exact(qh e2).symm
 ·rintro rfl
  have:=Gv hn h;omega
theorem Eo (U:Ch S A ms nv ws ls hs) (D:sm ms one) (T:HF ws ls hs one):Sp (xd ms ws) (xc ls) (Ue hs nv) (Zl ws one):=by
 have Ko:=U.wl;refine⟨by simp[Zl,D.1],λk x hx=> ?_,λo l hl=> ?_,λo h hh=> ?_⟩
 ·unfold Zl at hx
  rw[za]at hx;cases hv:one[k]? with
  |none=>rw[hv]at hx;cases hx
  |some v=>
   rw[hv]at hx;cases hx;have hkl:k<ms.length:=by rw[<-D.1];exact(ca.mp hv).1
   have hm:ms[k]? =aa ms[k]:=da hkl;obtain⟨h1,h2⟩:=D.2 k _ v hm hv;have h8:=(U.hm8 _ (ma hm)).2;refine⟨Sh ms[k] ws,by rw[za,hm];rfl,(pp h8 U.wn U.wr Ko.1 Ko.2 ?_).mpr ⟨v,h1,h2,rfl⟩⟩;have:=DA (l:=ws) (a:=v);omega
 ·by_cases q:o<ls.length
  ·rw[Zo q]at hl;cases hl
   have hw:ws[o]? =aa (ws.getD o 0):=by rw[Xa,da (by have:=U.ll;omega)];rfl
   have hh:hs[o]? =aa (hs.getD o 0):=by rw[Xa,da (by have:=U.ll;have:=U.hl;omega)];rfl
   have bo:ls[o]? =aa (ls.getD o 0):=by rw[Xa,da q];rfl
   unfold Zl;rw[Ri (w:=ws.getD o 0) λv _=>zw U.wn hw];exact(T o _ _ _ hw bo hh).1
  ·have hlen:=(ca.mp hl).1
   have:o=ls.length:=by simp at hlen;omega
   subst this;simp at hl;omega
 ·by_cases q:o<hs.length
  ·rw[gq q]at hh;cases hh
   have hw:ws[o]? =aa (ws.getD o 0):=by rw[Xa,da (by have:=U.hl;omega)];rfl
   have hh':hs[o]? =aa (hs.getD o 0):=by rw[Xa,da q];rfl
   have bo:ls[o]? =aa (ls.getD o 0):=by rw[Xa,da (by have:=U.ll;have:=U.hl;omega)];rfl
   unfold Zl;rw[Ri (w:=ws.getD o 0) λv _=>zw U.wn hw];exact(T o _ _ _ hw bo hh').2
  ·have hlen:=(ca.mp hh).1
   have:o=hs.length:=by simp at hlen;omega
   subst this;simp at hh;have:(Zl ws one).count (hs.length:Int)<=(Zl ws one).length:=vn;have h2:(Zl ws one).length=nv:=by simp[Zl,D.1,U.hms]
   omega
theorem At (U:Ch S A ms nv ws ls hs) (V:Sp (xd ms ws) (xc ls) (Ue hs nv) (Zl ws one)):HF ws ls hs one:=by
 intro k w l h hw hl hh;have h1:=V.lo k l (by rw[ta (ca.mp hl).1];exact hl);have h2:=V.hi k h (by rw[ta (ca.mp hh).1];exact hh);unfold Zl at h1 h2;rw[Ri (w:=w) λv _=>zw U.wn hw]at h1 h2;exact⟨h1,h2⟩
theorem qt (U:Ch S A ms nv ws ls hs) (V:Sp (xd ms ws) (xc ls) (Ue hs nv) a):∃one,sm ms one/\Zl ws one=a:=by
 have Ko:=U.wl;have key:∀k:Nat,k<ms.length->∃u:Int,(0<=u/\u<3)/\(∀m,ms[k]? =aa m->xf m u=true)/\a[k]? =aa ((ws.idxOf u:Nat):Int):=by
  intro k hk;have hka:k<a.length:=by rw[V.len,ja];exact hk
  obtain⟨p,hp⟩:∃p,a[k]? =aa p:=⟨a[k],da hka⟩;obtain⟨r,hr,hpr⟩:=V.whole k p hp;obtain⟨m,hm,rfl,h8⟩:=U.rowAt hr;have fo:=(Er h8 U.wn U.wr Ko.1 Ko.2).2 p hpr;obtain⟨pN,rfl⟩:=pc fo.1;obtain⟨u,hu,hu1,hu2⟩:=(pp h8 U.wn U.wr Ko.1 Ko.2 (by omega)).mp hpr;exact⟨u,hu,λm' Xj=>by rw[hm]at Xj;cases Xj;exact hu1,by rw[hp,hu2]⟩
 let f:Nat->Int:=λk=>if h:k<ms.length then rL (key k h)else 0
 have hf:∀k (h:k<ms.length),(0<=f k/\f k<3)/\(∀m,ms[k]? =aa m->xf m (f k)=true)/\a[k]? =aa ((ws.idxOf (f k):Nat):Int):=by
  intro k h;have:=sL (key k h);simp only[f,h,dif_pos];exact this
 refine⟨(Ua ms.length).map f,⟨by simp,λk m v hm hv=> ?_⟩,?_⟩
 ·rw[za]at hv
  have hk:=(ca.mp hm).1;rw[Nh hk]at hv;cases hv;exact⟨(hf k hk).1,(hf k hk).2.1 m hm⟩
 ·apply Hk
  intro k;unfold Zl;rw[za,za]
  by_cases hk:k<ms.length
  ·rw[Nh hk,(hf k hk).2.2];rfl
  ·rw[Yd (by simpa using hk),Yd (by rw[V.len,ja];omega)];rfl
theorem uy (U:Ch S A ms nv ws ls hs) {x m:Nat} {v:Int} (hm:ms[x]? =aa m) (hv:0<=v/\v<3) (h3:xf m v=true):
 (∃a,Sp (xd ms ws) (xc ls) (Ue hs nv) a/\a[x]? =aa ((ws.idxOf v:Nat):Int))↔∃one,sm ms one/\HF ws ls hs one/\one[x]? =aa v:=by
 constructor
 ·rintro⟨a,V,ha⟩
  obtain⟨one,D,rfl⟩:=qt U V;have gz:x<one.length:=by rw[D.1];exact(ca.mp hm).1
  have hidx:Zl ws (one.set x v)=Zl ws one:=by
   unfold Zl;rw[lf]
   apply Hk
   intro j
   by_cases q:x=j
   ·subst q
    rw[fb (by simpa using gz)];unfold Zl at ha;exact ha.symm
   ·rw[Na q]
  refine⟨one.set x v,⟨by rw[Mb];exact D.1,λk m' u Xj hu=> ?_⟩,At U (by rw[hidx];exact V),fb gz⟩
  by_cases q:x=k
  ·subst q
   rw[fb gz]at hu;cases hu;rw[hm]at Xj;cases Xj;exact⟨hv,h3⟩
  ·rw[Na q]at hu
   exact D.2 k m' u Xj hu
 ·rintro⟨one,D,T,ho⟩
  exact⟨_,Eo U D T,by unfold Zl;rw[za,ho];rfl⟩
theorem bF (U:Ch S A ms nv ws ls hs):(∃a,Sp (xd ms ws) (xc ls) (Ue hs nv) a)↔∃one,sm ms one/\HF ws ls hs one:=by
 constructor
 ·rintro⟨a,V⟩
  obtain⟨one,D,rfl⟩:=qt U V;exact⟨one,D,At U V⟩
 ·rintro⟨one,D,T⟩;exact⟨_,Eo U D T⟩
theorem yE {cf:Nat->List V->St->Option (V×St)} {m:Nat} {p0 p1 p2:Option V} (hm:m<8) (h0:m≠0):
 ∃xs,Ve m=.tup xs/\re 5000 (.st xs) 0 (Ec (Ga scr) cf 4 (.tup [4,5]) [] [.mk (.call (.con (.type "range")) [(.var 4),(.bin .Add (.var 5) (.int 1))]) (.var 6) []] (.var 6) [p0,p1,p2]) σ=aa (iL (vals m),σ):=by
 have h1:m=1\/m=2\/m=3\/m=4\/m=5\/m=6\/m=7:=by omega
 rcases h1 with rfl|rfl|rfl|rfl|rfl|rfl|rfl<;>exact⟨_,rfl,by rfl⟩
end
end Mine
namespace Mine
def Xc (ans:List (List Int)):List V:=ans.map λone=>V.tup (iL one)
section
variable {S:Dr} {A:pu} {σ Ca:St} {ms:List Nat} {nv tl:Nat} {ws ls hs one a:List Int} {scr:Nat->Option (List Int)} {n:Nat} {failed:Bool} {rows:V} {ans:List (List Int)}
structure tn (σ:St) (l:Nat) (as:List Nat) (ms:List Nat):Prop where
 hl:σ[l]? =aa (.list (as.map V.ref))
 len:as.length=ms.length
 at_:∀(k a m:Nat),as[k]? =aa a->ms[k]? =aa m->σ[a]? =aa (.list (iL (vals m)))
theorem tn.k0 {l:Nat} {as:List Nat} (L:tn σ l as ms) (k:ib [] σ Ca):tn Ca l as ms:=⟨k.old _ _ L.hl (by simp),L.len,λi a m h1 h2=>k.old _ _ (L.at_ i a m h1 h2) (by simp)⟩
theorem zB (SS:Tg S σ ms failed tl) (hm8:∀m∈ms,0<m/\m<8) (dp:ms.length<=3) (hn:2<=n):
 ∃Ca l as,Oa (Ga scr) yb n 471 [.ref S.i] σ=aa (.ref l,Ca)/\ib [] σ Ca/\tn Ca l as ms/\σ.length<=l:=by
 obtain⟨n,rfl⟩:∃m,n=m+1:=⟨n - 1,by omega⟩;obtain⟨out,Ja,e1,as,rfl,Dn,K,hat⟩:=pf (xs:=gd 0 (ms.length:Nat)) (it:=.st (gd 0 (ms.length:Nat))) (σ:=σ)
  (F:=Ec (Ga scr) (Oa (Ga scr) yb n) 2 (.var 2) [] [] (.comp 4 (.meth (.var 0) "dom" [(.var 2)]) (.tup [4,5]) [] [.mk (.call (.con (.type "range")) [(.var 4),(.bin .Add (.var 5) (.int 1))]) (.var 6) []] (.var 6)) [aa (.ref S.i)])
  (λk Cc τ=>∃as:List Nat,Cc=as.map V.ref/\as.length=k/\ib [] σ τ/\∀(j a m:Nat),as[j]? =aa a->ms[j]? =aa m->τ[a]? =aa (.list (iL (vals m))))
  (λ_ _ _ _ _=>rfl)
  (λk v Cc τ hv ⟨as,lh,Dn,K,hat⟩=>by
   rw[gf]at hv
   split at hv<;>cases hv
   rename_i hk;have hm:ms[k]? =aa ms[k]:=da hk;have ww:=hm8 _ (ma hm);have SSt:=SS.k0 K;obtain⟨xs,Xx,hL⟩:=yE (scr:=scr) (cf:=Oa (Ga scr) yb n) (σ:=τ) (p0:=aa (.ref S.i)) (p1:=ba) (p2:=aa (.int k)) ww.2 (by omega:ms[k]≠0);have hvl:=Mh (m:=ms[k]);have ak:=Ab (xs:=iL (vals ms[k])) (σ:=τ) (by rw[ja];omega);have hd:=Js (scr:=scr) (n:=n) SSt hm (by omega);rw[Xx]at hd;refine⟨[.ref τ.length],τ++[.list (iL (vals ms[k]))],?_,as++[τ.length],by rw[lh];simp,by simp[Dn],K.trans (ib.app _),λj a m h1 h2=> ?_⟩
   ·have:∀(h:Option (List V×St)),h=aa (iL (vals ms[k]),τ)->(match h with|some (vs,Cb)=>newL vs Cb|none=>ba)=aa (.ref τ.length,τ++[.list (iL (vals ms[k]))]):=λh e=>by rw[e];exact ak
    unfold Ec;simp only[yd,Aa,wb,Db,LS,mj,Og,ig,Wn,Oe,SSt.meth (scr:=scr),Te,Qf,Wc,hd,te,hL,ak]
   ·by_cases q:j<as.length
    ·rw[ta q]at h1
     exact ub (hat j a m h1 h2)
    ·have hj:j=k:=by
      have:=(ca.mp h1).1;simp at this;omega
     subst hj;rw[Ra (by omega)]at h1;rw[Dn]at h1;simp at h1;subst h1;rw[hm]at h2;cases h2;exact vb)
  (by rw[jd];omega) ⟨[],rfl,rfl,.refl,λj a m h=>by simp at h⟩
 rw[jd]at Dn;have ak:=Ab (xs:=as.map V.ref) (σ:=Ja) (by rw[ja];omega);refine⟨_,Ja.length,as,?_,K.trans (ib.app [.list (as.map V.ref)]),⟨vb,Dn,λk a m h1 h2=>ub (hat k a m h1 h2)⟩,K.len⟩;have xw:=xe (σ:=σ) (b:=(ms.length:Nat)) (by omega);have vw:=Ie (σ:=σ) (b:=(ms.length:Nat)) (by omega);rw[Dc (fn:=DI) rfl,Bd [aa (.ref S.i)] rfl rfl];simp only[DI,Ud,gv,ig,Nf,uh,Te,Qf,Wn,Oe,LS,SS.meth (scr:=scr),Wc,VG SS (by omega:1<=n),vc,xw,vw,e1,ak]
theorem zl {k:Nat}:∀ans:List (List Int),Ng (k+1) (Xc ans) σ=aa (ans.map λone=>oH (one.map vd))
 | []=>rfl
 |one::ans=>by
  have ih:=zl (k:=k) ans;unfold Xc at ih|-;rw[sa,Uh,ih,sd,qi];rfl
theorem Rs {f:List Int->PyData}:∀{xs:List (List Int)},Be (xs.map f) []=decide (xs=[])
 | []=>rfl
 |x::xs=>by simp[Be]
theorem YA {p q:Nat} (hp:σ[p]? =aa (.list (Xc ans))) (hq:σ[q]? =aa (.list [])):Zc .Eq (.ref p) (.ref q) σ=aa (decide (ans=[])):=by
 unfold Zc;simp only[Vc,Pb hp,Pb hq,zl,kh,ud,Rs]
theorem EB {p q:Nat} (hp:σ[p]? =aa (.list (Xc ans))) (hq:σ[q]? =aa (.list [])):Zc .NotEq (.ref p) (.ref q) σ=aa (decide (ans≠[])):=by
 unfold Zc;simp only[Vc,Pb hp,Pb hq,zl,kh,ud,Rs]
 by_cases h:ans=[]<;>simp[h]
theorem Em {k:Nat}:∀{as:List Nat} {rs:List (List Int)},as.length=rs.length->(∀(j a:Nat) r,as[j]? =aa a->rs[j]? =aa r->σ[a]? =aa (.list (iL r)))->Ng (k+1) (as.map V.ref) σ=aa (rs.map λr=>cz (r.map vd))
 | [],[],_,_=>rfl
 |a::as,r::rs,hl,h=>by
  have ih:=Em (k:=k) (as:=as) (rs:=rs) (by simpa using hl) λj a r h1 h2=>h (j+1) a r (by simpa using h1) (by simpa using h2);have h0:=h 0 a r rfl rfl;rw[sa,Uh,ih,Vc,Pb h0];simp only[qi];rfl
 | [],_::_,hl,_=>by simp at hl
 |_::_,[],hl,_=>by simp at hl
theorem Ss:∀{xs:List Int},Be (xs.map vd) (xs.map vd)=true
 | []=>rfl
 |x::xs=>by simp[Be,ud,Ss]
theorem jv:∀{rs:List (List Int)},Be (rs.map λr=>cz (r.map vd)) (rs.map λr=>cz (r.map vd))=true
 | []=>rfl
 |r::rs=>by simp[Be,ud,Ss,jv]
theorem cE {p q:Nat} {as bs:List Nat} {rs:List (List Int)} (hp:σ[p]? =aa (.list (as.map V.ref))) (hq:σ[q]? =aa (.list (bs.map V.ref))) (ha:as.length=rs.length) (hb:bs.length=rs.length) (h1:∀(j a:Nat) r,as[j]? =aa a->rs[j]? =aa r->σ[a]? =aa (.list (iL r))) (h2:∀(j a:Nat) r,bs[j]? =aa a->rs[j]? =aa r->σ[a]? =aa (.list (iL r))):Zc .Eq (.ref p) (.ref q) σ=aa true:=by
 unfold Zc;simp only[Vc,Pb hp,Pb hq];rw[Em ha h1,Em hb h2];simp only[ud,jv]
def iz (ms:List Nat) (one:List Int):Bool:=(Ua one.length).all λk=>match one[k]?,ms[k]? with
 |some v,aa m=>decide (v∈vals m)
 |_,_=>false
def vp (ms:List Nat) (one:List Int) (k:Nat):Bool:=match one[k]?,ms[k]? with
 |some v,aa m=> !decide (v∈vals m)
 |_,_=>true
theorem IG {ms:List Nat} {one:List Int}:(Ua one.length).filter (vp ms one)=[]↔iz ms one=true:=by
 unfold iz vp;rw[cm,Jb];refine forall_congr' λk=>forall_congr' λhk=> ?_
 split<;>simp
theorem uB {ms:List Nat} {one:List Int} (h:one.length=ms.length):iz ms one=true↔sm ms one:=by
 unfold iz sm;rw[Jb]
 constructor
 ·intro H
  refine⟨h,λk m v hm hv=> ?_⟩;have:=H k (by simpa using(ca.mp hv).1);rw[hv,hm]at this;exact Lm.mp (of_decide_eq_true this)
 ·rintro⟨_,H⟩ k hk
  rw[ng]at hk;have e1:one[k]? =aa one[k]:=da hk;have e2:ms[k]? =aa (ms[k]'(by omega)):=da _;rw[e1,e2];exact decide_eq_true (Lm.mpr (H k _ _ e2 e1))
theorem vG {cf:Nat->List V->St->Option (V×St)} {AN l:Nat} {as:List Nat} {v0 v1:V} (L:tn σ l as ms) (hAN:σ[AN]? =aa (.list (Xc ans))) (dp:ms.length<=3) (hans:∀one∈ans,one.length=ms.length) (Dn:ans.length<=100):
 ∃Ca,re 5000 (.dyn AN) 0 (Ec (Ga scr) cf 2 (.var 6) [(.base (.cmp .Eq (.comp 2 (.call (.con (.type "range")) [(.call (.con (.builtin "len")) [(.var 6)])]) (.var 8) [(.base (.cmp .NotIn (.sub (.var 6) (.var 8)) (.sub (.var 3) (.var 8))))] [] (.var 8)) (.list [])))] [] (.var 6) [aa v0,aa v1,aa (.ref AN),aa (.ref l),ba]) σ
  =aa (Xc (ans.filter (iz ms)),Ca)/\ib [] σ Ca:=by
 obtain⟨out,Ja,e1,Yl,K⟩:=pf (xs:=Xc ans) (it:=.dyn AN) (σ:=σ)
  (F:=Ec (Ga scr) cf 2 (.var 6) [(.base (.cmp .Eq (.comp 2 (.call (.con (.type "range")) [(.call (.con (.builtin "len")) [(.var 6)])]) (.var 8) [(.base (.cmp .NotIn (.sub (.var 6) (.var 8)) (.sub (.var 3) (.var 8))))] [] (.var 8)) (.list [])))] [] (.var 6) [aa v0,aa v1,aa (.ref AN),aa (.ref l),ba])
  (λk Cc τ=>Cc=Xc ((ans.take k).filter (iz ms))/\ib [] σ τ)
  (λk Cc τ ⟨_,K⟩ _=>se (K.old _ _ hAN (by simp)))
  (λk v Cc τ hv ⟨lh,K⟩=>by
   unfold Xc at hv;rw[za]at hv;cases ho:ans[k]? with
   |none=>rw[ho]at hv;cases hv
   |some one=>
    rw[ho]at hv;cases hv;have Jr:=hans one (ma ho);have Lt:=L.k0 K;have hin:re 5000 (.st (gd 0 (one.length:Nat))) 0 (Ec (Ga scr) cf 2 (.var 8) [(.base (.cmp .NotIn (.sub (.var 6) (.var 8)) (.sub (.var 3) (.var 8))))] [] (.var 8) [aa v0,aa v1,aa (.ref AN),aa (.ref l),ba,ba,aa (.tup (iL one))]) τ
     =aa ((gd 0 (one.length:Nat)).flatMap (qy (vp ms one)),τ):=by
     refine We _ (λk=>rfl) (λv hv=> ?_) (by rw[jd];omega);obtain⟨j,hj⟩:=ic hv;rw[gf]at hj
     split at hj<;>cases hj
     rename_i hj;have hoj:one[j]? =aa one[j]:=da hj;have hmj:ms[j]? =aa (ms[j]'(by omega)):=da _;obtain⟨aj,haj⟩:∃aj,as[j]? =aa aj:=⟨as[j]'(by have:=L.len;omega),da _⟩;have s1:Qe (.tup (iL one)) (.int j) τ=aa (.int one[j]):=Vw (by rw[za,hoj];rfl);have s2:Qe (.ref l) (.int j) τ=aa (.ref aj):=Tf Lt.hl (by rw[za,haj];rfl);have Ux:=Pi (x:=one[j]) (Lt.at_ j aj _ haj hmj);have hob:vp ms one j= !decide (one[j]∈vals (ms[j]'(by omega))):=by unfold vp;rw[hoj,hmj]
     by_cases q:one[j]∈vals (ms[j]'(by omega))
     ·rw[decide_eq_true q]at Ux hob
      simp only[Ec,yd,Aa,wb,Db,EV,LS,s1,s2,Ux,Ym,hob,Zb,Nc,if_false]
     ·rw[decide_eq_false q]at Ux hob
      simp only[Ec,yd,Aa,wb,Db,EV,LS,s1,s2,Ux,Ym,hob,qc,if_true]
    rw[yH,Ti]at hin;have hfl:((Ua one.length).filter (vp ms one)).length<=3:=by
     have:=Ub (vp ms one) (Ua one.length);rw[Lk]at this;omega
    have ak:=Ab (xs:=iL (((Ua one.length).filter (vp ms one)).map λ(k:Nat)=>(k:Int))) (σ:=τ) (by rw[ja,ja];omega);have hg:=vb (σ:=τ) (o:=.list (iL (((Ua one.length).filter (vp ms one)).map λ(k:Nat)=>(k:Int))));have Dk:=Ab (xs:=[]) (σ:=τ++[.list (iL (((Ua one.length).filter (vp ms one)).map λ(k:Nat)=>(k:Int)))]) (by simp);have Tp:=vb (σ:=τ++[.list (iL (((Ua one.length).filter (vp ms one)).map λ(k:Nat)=>(k:Int)))]) (o:=.list []);have heq:=Dz (ub (os:=[O.list []]) hg) Tp;have hd:decide ((((Ua one.length).filter (vp ms one)).map λ(k:Nat)=>(k:Int))=[])=iz ms one:=by
     have h1:(((Ua one.length).filter (vp ms one)).map λ(k:Nat)=>(k:Int))=[]↔iz ms one=true:=by rw[ZB];exact IG
     by_cases q:iz ms one=true
     ·rw[q];exact decide_eq_true (h1.mpr q)
     ·rw[zh]at q
      rw[q];exact decide_eq_false (λz=>by rw[h1.mp z]at q;cases q)
    rw[hd]at heq;have wh:jh (.builtin "len") [.tup (iL one)] τ=aa (.int one.length,τ):=by rw[AB];simp
    have xw:=xe (σ:=τ) (b:=(one.length:Nat)) (by omega);have vw:=Ie (σ:=τ) (b:=(one.length:Nat)) (by omega)
    generalize hτ2:τ++[O.list (iL (((Ua one.length).filter (vp ms one)).map λ(k:Nat)=>(k:Int)))]++[O.list []]=Of at*
    have K2:ib [] τ Of:=hτ2▸(ib.app _).trans (ib.app _);refine⟨if iz ms one then[.tup (iL one)]else[],Of,?_,?_,K.trans K2⟩
    ·have hT:Ug (Ga scr) cf (.base (.cmp .Eq (.comp 2 (.call (.con (.type "range")) [(.call (.con (.builtin "len")) [(.var 6)])]) (.var 8) [(.base (.cmp .NotIn (.sub (.var 6) (.var 8)) (.sub (.var 3) (.var 8))))] [] (.var 8)) (.list []))) [aa v0,aa v1,aa (.ref AN),aa (.ref l),ba,ba,aa (.tup (iL one))] τ=aa (iz ms one,Of):=by
      simp only[lj,Bn,ig,Nf,uh,Te,Qf,Oe,LS,Nb,vc,wh,xw,vw,hin,ak,Gm,Dk,heq]
     unfold Ec;simp only[yd,Aa,wb,Db,LS,Ls,mj,hT];cases iz ms one
     ·rfl
     ·simp only[Og,Oe,LS,if_true]
    ·rw[lh,Yb,ho]
     simp only[Ff,dk,Vd,zj,Xc,bc];cases iz ms one<;>rfl)
  (by unfold Xc;rw[ja];omega) ⟨rfl,.refl⟩
 have hlen:(Xc ans).length=ans.length:=by unfold Xc;simp
 rw[hlen,Xd]at Yl;exact⟨Ja,by rw[e1,Yl],K⟩
end
end Mine
namespace Mine
section
variable {S:Dr} {A:pu} {σ Ca:St} {ms:List Nat} {nv tl:Nat} {ws ls hs one a:List Int} {scr:Nat->Option (List Int)} {n:Nat} {failed:Bool} {rows:V} {ans:List (List Int)}
def IB (k:Nat):V->List V
 | .tup xs=>[xs.getD k .none]
 |_=>[]
theorem xH {k:Nat}:∀{kept:List (List Int)},(∀one∈kept,k<one.length)->(Xc kept).flatMap (IB k)=iL (kept.map λone=>one.getD k 0)
 | [],_=>rfl
 |one::kept,h=>by
  have ih:=xH (kept:=kept) λo ho=>h o (Ia _ ho);have hk:=h one Ma;have hok:one[k]? =aa one[k]:=da hk;have hik:(iL one)[k]? =aa (.int one[k]):=by rw[za,hok];rfl
  have hg:(iL one).getD k V.none=.int one[k]:=by rw[Xa,hik];rfl
  have Tp:one.getD k 0=one[k]:=by rw[Xa,hok];rfl
  unfold Xc iL at ih|-;unfold iL at hg;simp only[sa,Dd,ih,IB,hg,Tp,List.singleton_append]
theorem KG {cf:Nat->List V->St->Option (V×St)} {AN l kl:Nat} {v0 v1:V} {kept:List (List Int)} (hk:σ[kl]? =aa (.list (Xc kept))) (hlen:∀one∈kept,one.length=nv) (hnv:nv<=3) (hkl:kept.length<=100) (hr:∀one∈kept,∀v∈one,0<=v/\v<3):
 ∃Ca bs,re 5000 (.st (gd 0 (nv:Nat))) 0 (Ec (Ga scr) cf 2 (.var 6) [] [] (.call (.con (.builtin "sorted")) [(.call (.con (.type "set")) [(.comp 2 (.var 4) (.var 8) [] [] (.sub (.var 8) (.var 6)))])]) [aa v0,aa v1,aa (.ref AN),aa (.ref l),aa (.ref kl)]) σ=aa (fk V.ref bs,Ca)/\ib [] σ Ca/\bs.length=nv/\
  ∀(x b:Nat),bs[x]? =aa b->Ca[b]? =aa (.list (iL (Mf (kept.map λone=>one.getD x 0)))):=by
 obtain⟨out,Ja,e1,bs,rfl,fz,K,hb⟩:=pf (xs:=gd 0 (nv:Nat)) (it:=.st (gd 0 (nv:Nat))) (σ:=σ)
  (F:=Ec (Ga scr) cf 2 (.var 6) [] [] (.call (.con (.builtin "sorted")) [(.call (.con (.type "set")) [(.comp 2 (.var 4) (.var 8) [] [] (.sub (.var 8) (.var 6)))])]) [aa v0,aa v1,aa (.ref AN),aa (.ref l),aa (.ref kl)])
  (λk Cc τ=>∃bs:List Nat,Cc=bs.map V.ref/\bs.length=k/\ib [] σ τ/\∀(x b:Nat),bs[x]? =aa b->τ[b]? =aa (.list (iL (Mf (kept.map λone=>one.getD x 0)))))
  (λ_ _ _ _ _=>rfl)
  (λk v Cc τ hv ⟨bs,lh,fz,K,hb⟩=>by
   rw[gf]at hv
   split at hv<;>cases hv
   rename_i hkn;have hkt:=K.old _ _ hk (by simp);have hc:re 5000 (.dyn kl) 0 (Ec (Ga scr) cf 2 (.var 8) [] [] (.sub (.var 8) (.var 6)) [aa v0,aa v1,aa (.ref AN),aa (.ref l),aa (.ref kl),ba,aa (.int k)]) τ
    =aa ((Xc kept).flatMap (IB k),τ):=by
    refine We _ (λk=>se hkt) (λv hv=> ?_) (by unfold Xc;rw[ja];omega);obtain⟨one,ho,rfl⟩:=Bb.mp hv;have Jr:=hlen one ho;have hok:one[k]? =aa one[k]:=da (by omega);have hik:(iL one)[k]? =aa (.int one[k]):=by rw[za,hok];rfl
    have s1:Qe (.tup (iL one)) (.int k) τ=aa (.int one[k]):=Vw hik;have hg:(iL one).getD k V.none=.int one[k]:=by rw[Xa,hik];rfl
    simp only[Ec,yd,Aa,wb,Db,EV,LS,s1,IB,hg]
   have hfl:=xH (k:=k) (kept:=kept) λone ho=>by rw[hlen one ho];exact hkn
   rw[hfl]at hc;have ak:=Ab (xs:=iL (kept.map λone=>one.getD k 0)) (σ:=τ) (by rw[ja,ja];omega);have hg:=vb (σ:=τ) (o:=.list (iL (kept.map λone=>one.getD k 0)));have kn:jh (.type "set") [.ref τ.length] (τ++[.list (iL (kept.map λone=>one.getD k 0))])=aa (.iset (kept.map λone=>one.getD k 0),τ++[.list (iL (kept.map λone=>one.getD k 0))]):=by
    unfold jh;simp only[Pb hg,Um];rw[if_pos];simp only[Jb,Bb,La,decide_eq_true_eq]
    rintro _ ⟨one,ho,rfl⟩
    have hok:one[k]? =aa (one[k]'(by have:=hlen one ho;omega)):=da _;have:one.getD k 0=one[k]'(by have:=hlen one ho;omega):=by rw[Xa,hok];rfl
    rw[this];have:=hr one ho _ (ma hok);omega
   have hcl:(Mf (kept.map λone=>one.getD k 0)).length<=3:=Ub _ [0,1,2];have hsrt:jh (.builtin "sorted") [.iset (kept.map λone=>one.getD k 0)] (τ++[.list (iL (kept.map λone=>one.getD k 0))])=aa (.ref (τ++[O.list (iL (kept.map λone=>one.getD k 0))]).length,τ++[.list (iL (kept.map λone=>one.getD k 0))]++[.list (iL (Mf (kept.map λone=>one.getD k 0)))]):=Ab (by rw[ja];omega);have Tp:=vb (σ:=τ++[.list (iL (kept.map λone=>one.getD k 0))]) (o:=.list (iL (Mf (kept.map λone=>one.getD k 0))));have K2:ib [] τ (τ++[.list (iL (kept.map λone=>one.getD k 0))]++[.list (iL (Mf (kept.map λone=>one.getD k 0)))]):=(ib.app _).trans (ib.app _);refine⟨[.ref (τ++[O.list (iL (kept.map λone=>one.getD k 0))]).length],_,?_,bs++[(τ++[O.list (iL (kept.map λone=>one.getD k 0))]).length],by rw[lh];simp,by simp[fz],K.trans K2,λx b hx=> ?_⟩
   ·unfold Ec
    simp only[yd,Aa,wb,Db,LS,mj,Og,Nf,uh,Te,Qf,ig,Oe,Oc hkt,hc,ak,Nb,vc,kn,hsrt]
   ·by_cases q:x<bs.length
    ·rw[ta q]at hx
     exact K2.old _ _ (hb x b hx) (by simp)
    ·have hj:x=k:=by
      have:=(ca.mp hx).1;simp at this;omega
     subst hj;rw[Ra (by omega),fz]at hx;simp at hx;subst hx
     simpa using Tp)
  (by rw[jd];omega) ⟨[],rfl,rfl,.refl,λx b h=>by simp at h⟩
 rw[jd]at fz;exact⟨Ja,bs,e1,K,fz,hb⟩
theorem jo {x y:Bool}:Zc .IsNot (.bool x) (.bool y) σ=aa (x !=y):=rfl
theorem xx {AN:Nat} (SS:Tg S σ ms false tl) (CS:cn A σ nv ws ls hs rows) (U:Ch S A ms nv ws ls hs) (hAN:σ[AN]? =aa (.list (Xc ans))) (hans:∀one∈ans,one.length=nv) (Dn:ans.length<=100) (hspec:∀one,sm ms one->(one∈ans↔HF ws ls hs one)) (lu:tl<400) (hn:9<=n):
 ∃Ca,Oa (Ga scr) yb n 476 [.ref S.i,.ref A.i,.ref AN] σ=aa (.bool true,Ca)/\ib S.all σ Ca/\(Tg S Ca ms true tl\/∃Sf,Tg S Ca Sf false (tl+27)/\Sf.length=ms.length/\(∀m'∈Sf,0<m'/\m'<8)/\∀(k m m':Nat),ms[k]? =aa m->Sf[k]? =aa m'->∀u:Int,0<=u/\u<3->xf m' u=true->xf m u=true):=by
 obtain⟨n,rfl⟩:∃m,n=m+1:=⟨n - 1,by omega⟩;have hnv:=U.hnv;have hms:=U.hms;obtain⟨Ja,l,as,e1,K1,L1,hlg⟩:=zB (scr:=scr) (n:=n) SS U.hm8 (by omega) (by omega);obtain⟨Cb,e2,K2⟩:=vG (scr:=scr) (cf:=Oa (Ga scr) yb n) (v0:=.ref S.i) (v1:=.ref A.i) L1 (K1.old _ _ hAN (by simp)) (by omega) (λone ho=>by rw[hans one ho,hms]) Dn;have hkl:(ans.filter (iz ms)).length<=100:=Eb (Ub _ _) Dn;have hkm:∀one,one∈ans.filter (iz ms)↔sm ms one/\HF ws ls hs one:=λone=>by
  rw[jc]
  constructor
  ·rintro⟨h1,h2⟩
   have D:=(uB (by rw[hans one h1,hms])).mp h2;exact⟨D,(hspec one D).mp h1⟩
  ·rintro⟨D,T⟩
   exact⟨(hspec one D).mpr T,(uB D.1).mpr D⟩
 generalize hkept:ans.filter (iz ms)=kept at*
 have Dk:=Ab (xs:=Xc kept) (σ:=Cb) (by unfold Xc;rw[ja];omega);have Tp:=vb (σ:=Cb) (o:=.list (Xc kept));have K3:ib [] σ (Cb++[.list (Xc kept)]):=(K1.trans K2).trans (ib.app _);have L3:=(L1.k0 K2).k0 (ib.app [.list (Xc kept)]);have hk2:σ.length<=Cb.length:=(K1.trans K2).len
 generalize hσ3:Cb++[O.list (Xc kept)]=ae at*
 generalize hkA:Cb.length=kl at*
 have sz:=SS.k0 K3;have lz:=CS.k0 K3;have hA1:Vf (Ga scr) (Oa (Ga scr) yb n) (.assign (.var 3) (.call (.con (.ref 471)) [(.var 0)])) [aa (.ref S.i),aa (.ref A.i),aa (.ref AN),ba,ba] σ=aa (.next,[aa (.ref S.i),aa (.ref A.i),aa (.ref AN),aa (.ref l),ba],Ja):=by
  simp only[EV,LS,Uc (scr:=scr) (a:=471) rfl,e1,Nat.reduceAdd,Nat.reduceLT,if_true]
 have ao:te (.ref AN) Ja=aa (.dyn AN):=Oc (K1.old _ _ hAN (by simp));have hA2:Vf (Ga scr) (Oa (Ga scr) yb n) (.assign (.var 4) (.comp 2 (.var 2) (.var 6) [(.base (.cmp .Eq (.comp 2 (.call (.con (.type "range")) [(.call (.con (.builtin "len")) [(.var 6)])]) (.var 8) [(.base (.cmp .NotIn (.sub (.var 6) (.var 8)) (.sub (.var 3) (.var 8))))] [] (.var 8)) (.list [])))] [] (.var 6))) [aa (.ref S.i),aa (.ref A.i),aa (.ref AN),aa (.ref l),ba] Ja=aa (.next,[aa (.ref S.i),aa (.ref A.i),aa (.ref AN),aa (.ref l),aa (.ref kl)],ae):=by
  simp only[gg,ig,Oe,LS,ao,e2,Dk,nj,Nat.reduceAdd,Nat.reduceLT,if_true]
 have qB:∀(r:Option (V×St)),(match wf (Ga scr) (Oa (Ga scr) yb n) [.ifs (.base (.cmp .IsNot (.meth (.var 1) "propagate" [(.var 0)]) (.cmp .NotEq (.var 4) (.list [])))) [.ret (.bool false)] [],.ifs (.base (.cmp .Eq (.var 4) (.list []))) [.ret (.attr (.var 0) "is_failed")] [],.ret (.cmp .Eq (.call (.con (.ref 471)) [(.var 0)]) (.comp 2 (.call (.con (.type "range")) [(.call (.con (.builtin "len")) [(.var 3)])]) (.var 6) [] [] (.call (.con (.builtin "sorted")) [(.call (.con (.type "set")) [(.comp 2 (.var 4) (.var 8) [] [] (.sub (.var 8) (.var 6)))])])))] [aa (.ref S.i),aa (.ref A.i),aa (.ref AN),aa (.ref l),aa (.ref kl)] ae with
  |some (.ret v,_,Ja)=>aa (v,Ja)
  |some (.next,_,Ja)=>aa (.none,Ja)
  |none=>ba)=r->Oa (Ga scr) yb (n+1) 476 [.ref S.i,.ref A.i,.ref AN] σ=r:=by
  intro r hr;rw[Dc (fn:=GI) rfl,Bd [aa (.ref S.i),aa (.ref A.i),aa (.ref AN),ba,ba] rfl rfl];simp only[GI];rw[Ud,hA1];simp only[];rw[Ud,hA2];simp only[];exact hr
 rcases Nw (scr:=scr) (n:=n) sz lz U lu (by omega)with⟨dh,e4,SS4,K4,Ys⟩|⟨dh,Sf,e4,SS4,K4,⟨a0,V0⟩,L4⟩
 ·have iu:kept=[]:=by
   rw[List.eq_nil_iff_forall_not_mem];intro one ho;obtain⟨D,T⟩:=(hkm one).mp ho;exact Ys _ (Eo U D T)
  have Nz:=K4.old _ _ Tp (λq=>by have:=SS.lt _ q;omega);have nl5:=Ab (xs:=[]) (σ:=dh) (by simp);have hn5:=EB (ub (os:=[O.list []]) Nz) (vb (σ:=dh) (o:=.list []));have nl6:=Ab (xs:=[]) (σ:=dh++[.list []]) (by simp);have he6:=YA (ub (os:=[O.list []]) (ub (os:=[O.list []]) Nz)) (vb (σ:=dh++[.list []]) (o:=.list []));rw[decide_eq_true iu]at he6;rw[decide_eq_false (λq=>q iu)]at hn5;have SS6:=(SS4.app [.list []]).app [.list []];refine⟨dh++[.list []]++[.list []],qB _ ?_,((K3.mono (λi hi=>by cases hi)).trans K4).trans ((ib.app _).trans (ib.app _)),.inl SS6⟩;simp only[EV,LS,lz.meth (scr:=scr),Wc,e4,nl5,hn5,jo,bne_self_eq_false,nl6,he6,SS6.attr (scr:=scr)]
 ·obtain⟨one0,D0,T0⟩:=(bF U).mp ⟨a0,V0⟩
  have iu:kept≠[]:=λq=>by
   have:=(hkm one0).mpr ⟨D0,T0⟩;rw[q]at this;cases this
  have Nz:=K4.old _ _ Tp (λq=>by have:=SS.lt _ q;omega);have nl5:=Ab (xs:=[]) (σ:=dh) (by simp);have hn5:=EB (ub (os:=[O.list []]) Nz) (vb (σ:=dh) (o:=.list []));have nl6:=Ab (xs:=[]) (σ:=dh++[.list []]) (by simp);have he6:=YA (ub (os:=[O.list []]) (ub (os:=[O.list []]) Nz)) (vb (σ:=dh++[.list []]) (o:=.list []));rw[decide_eq_false iu]at he6;rw[decide_eq_true iu]at hn5;have SS6:=(SS4.app [.list []]).app [.list []];have K46:ib [] dh (dh++[.list []]++[.list []]):=(ib.app _).trans (ib.app _);have hg6:=K46.old _ _ Nz (by simp);have hl4:=K4.old _ _ L3.hl (λq=>by
   have:=SS.lt _ q;omega)
  generalize hσ6:dh++[O.list []]++[O.list []]=Io at*
  have hpos:=L4.pos U V0;have dp:Sf.length=ms.length:=L4.1;obtain⟨Nn,l7,as7,e7,K7,L7,_⟩:=zB (scr:=scr) (n:=n) SS6 hpos (by omega) (by omega);have hg7:=K7.old _ _ hg6 (by simp);have hl7:=K7.old _ _ (K46.old _ _ hl4 (by simp)) (by simp);obtain⟨ou,bs,e8,K8,fz,hb8⟩:=KG (scr:=scr) (cf:=Oa (Ga scr) yb n) (nv:=nv) (AN:=AN) (l:=l) (v0:=.ref S.i) (v1:=.ref A.i) hg7 (λone ho=>by rw[((hkm one).mp ho).1.1,hms]) hnv.2 hkl (λone ho v hv=>by
   obtain⟨k,hk⟩:=ic hv;have D:=((hkm one).mp ho).1;have hkm':k<ms.length:=by rw[<-D.1];exact(ca.mp hk).1
   exact(D.2 k _ v (da hkm') hk).1)
  have nl8:=Ab (xs:=bs.map V.ref) (σ:=ou) (by rw[ja];omega);have hg8:=vb (σ:=ou) (o:=.list (bs.map V.ref));have L8:=(L7.k0 K8).k0 (ib.app [.list (bs.map V.ref)]);have hcol:∀(x m':Nat),Sf[x]? =aa m'->vals m'=Mf (kept.map λone=>one.getD x 0):=by
   intro x m' Xj;have hx:x<ms.length:=by rw[<-dp];exact(ca.mp Xj).1
   have hm:ms[x]? =aa ms[x]:=da hx;obtain⟨m2,h1,_,h2⟩:=L4.2 x _ hm;rw[Xj]at h1;cases h1;unfold vals Mf;refine vD λv hv=> ?_;have hv3:0<=v/\v<3:=by simp at hv;omega
   have hidx:ws.idxOf v<ws.length+1:=by have:=DA (l:=ws) (a:=v);omega
   have hiff:xf m' v=true↔∃one∈kept,one[x]? =aa v:=by
    rw[h2 v hv3]
    constructor
    ·rintro⟨q1,q2⟩
     obtain⟨one,D,T,ho⟩:=(uy U hm hv3 q1).mp (q2 hidx);exact⟨one,(hkm one).mpr ⟨D,T⟩,ho⟩
    ·rintro⟨one,ho,hox⟩
     obtain⟨D,T⟩:=(hkm one).mp ho;have q1:=(D.2 x _ v hm hox).2;exact⟨q1,λ_=>(uy U hm hv3 q1).mpr ⟨one,D,T,hox⟩⟩
   have hiff2:(kept.map λone=>one.getD x 0).contains v=true↔∃one∈kept,one[x]? =aa v:=by
    rw[un,decide_eq_true_eq,Bb];refine exists_congr λone=>and_congr_right λho=> ?_;have D:=((hkm one).mp ho).1;have hox:one[x]? =aa (one[x]'(by rw[D.1];exact hx)):=da _;rw[Xa,hox];simp
   rw[eu,hiff,hiff2]
  have heq:Zc .Eq (.ref l7) (.ref ou.length) (ou++[.list (bs.map V.ref)])=aa true:=
   cE (rs:=Sf.map vals) L8.hl hg8 (by rw[L8.len,ja]) (by rw[fz,ja];omega) (λj a r h1 h2=>by
    rw[za]at h2;cases Xj:Sf[j]? with
    |none=>rw[Xj]at h2;cases h2
    |some m'=>rw[Xj]at h2;cases h2;exact L8.at_ j a m' h1 Xj) (λj a r h1 h2=>by
    rw[za]at h2;cases Xj:Sf[j]? with
    |none=>rw[Xj]at h2;cases h2
    |some m'=>
     rw[Xj]at h2;cases h2;rw[hcol j m' Xj];exact ub (hb8 j a h1))
  have SS9:=((SS6.k0 K7).k0 K8).app [.list (bs.map V.ref)];have hlen7:jh (.builtin "len") [.ref l] Nn=aa (.int nv,Nn):=by rw[wc hl7,ja,L3.len,hms]
  have xw:=xe (σ:=Nn) (b:=(nv:Nat)) (by omega);have vw:=Ie (σ:=Nn) (b:=(nv:Nat)) (by omega);refine⟨ou++[.list (bs.map V.ref)],qB _ ?_,(((K3.mono (λi hi=>by cases hi)).trans K4).trans (K46.mono (λi hi=>by cases hi))).trans (((K7.trans K8).trans (ib.app _)).mono (λi hi=>by cases hi)),.inr ⟨Sf,SS9,dp,hpos,λk m m' hm Xj u hu h=> ?_⟩⟩
  ·have b1:Vf (Ga scr) (Oa (Ga scr) yb n) (.ifs (.base (.cmp .IsNot (.meth (.var 1) "propagate" [(.var 0)]) (.cmp .NotEq (.var 4) (.list [])))) [.ret (.bool false)] []) [aa (.ref S.i),aa (.ref A.i),aa (.ref AN),aa (.ref l),aa (.ref kl)] ae=aa (.next,[aa (.ref S.i),aa (.ref A.i),aa (.ref AN),aa (.ref l),aa (.ref kl)],dh++[.list []]):=by
    simp only[EV,LS,lz.meth (scr:=scr),Wc,e4,nl5,hn5,jo,bne_self_eq_false]
   have b2:Vf (Ga scr) (Oa (Ga scr) yb n) (.ifs (.base (.cmp .Eq (.var 4) (.list []))) [.ret (.attr (.var 0) "is_failed")] []) [aa (.ref S.i),aa (.ref A.i),aa (.ref AN),aa (.ref l),aa (.ref kl)] (dh++[.list []])=aa (.next,[aa (.ref S.i),aa (.ref A.i),aa (.ref AN),aa (.ref l),aa (.ref kl)],Io):=by
    simp only[EV,LS,nl6,hσ6,he6]
   have b3:Vf (Ga scr) (Oa (Ga scr) yb n) (.ret (.cmp .Eq (.call (.con (.ref 471)) [(.var 0)]) (.comp 2 (.call (.con (.type "range")) [(.call (.con (.builtin "len")) [(.var 3)])]) (.var 6) [] [] (.call (.con (.builtin "sorted")) [(.call (.con (.type "set")) [(.comp 2 (.var 4) (.var 8) [] [] (.sub (.var 8) (.var 6)))])])))) [aa (.ref S.i),aa (.ref A.i),aa (.ref AN),aa (.ref l),aa (.ref kl)] Io=aa (.ret (.bool true),[aa (.ref S.i),aa (.ref A.i),aa (.ref AN),aa (.ref l),aa (.ref kl)],ou++[.list (bs.map V.ref)]):=by
    simp only[gv,Bn,Nf,uh,Te,Qf,Oe,LS,Uc (scr:=scr) (a:=471) rfl,e7,ig,Nb,vc,hlen7,xw,vw,e8,nl8,heq]
   rw[Ud,b1];simp only[];rw[Ud,b2];simp only[];rw[Ud,b3]
  ·obtain⟨m2,h1,_,h2⟩:=L4.2 k m hm
   rw[Xj]at h1;cases h1;exact((h2 u hu).mp h).1
end
end Mine
namespace Mine
section
variable {S:Dr} {A:pu} {σ Ca:St} {ms:List Nat} {nv tl:Nat} {ws ls hs one a:List Int} {scr:Nat->Option (List Int)} {n:Nat} {failed:Bool} {rows:V} {ans:List (List Int)} {rs:List fh}
structure ki (σ:St) (f c at_:Nat) (cells:List Int):Prop where
 hf:σ[f]? =aa (.sdict [("cells",.ref c),("at",.int at_)])
 hc:σ[c]? =aa (.list (iL cells))
theorem Si {f c at_ wide:Nat} {cells:List Int} (F:ki σ f c at_ cells) (hw:0<wide) (hn:1<=n):
 ∃(d:Nat) (Ca:St),d<wide/\Oa (Ga scr) yb n 444 [.ref f,.int wide] σ=aa (.int d,Ca)/\ki Ca f c (at_+1) cells/\ib [f] σ Ca:=by
 obtain⟨n,rfl⟩:∃m,n=m+1:=⟨n - 1,by omega⟩;have hfc:f≠c:=Lc F.hf F.hc (by simp);have e1:Qe (.ref f) (.str "at") σ=aa (.int at_):=by unfold Qe;simp only[F.hf];rfl
 have e2:Cd (.ref f) (.str "at") (.int (at_+1)) σ=aa (σ.set f (.sdict [("cells",.ref c),("at",.int (at_+1))])):=by
  unfold Cd;simp only[F.hf];rfl
 have F':ki (σ.set f (.sdict [("cells",.ref c),("at",.int (at_+1))])) f c (at_+1) cells:=⟨Ob F.hf,ua F.hc hfc⟩;have K:ib [f] σ (σ.set f (.sdict [("cells",.ref c),("at",.int (at_+1))])):=ib.set _ (by simp)
 generalize σ.set f (.sdict [("cells",.ref c),("at",.int (at_+1))])=Ja at*
 have e3:Qe (.ref f) (.str "at") Ja=aa (.int (at_+1)):=by unfold Qe;simp only[F'.hf];rfl
 have e4:Qe (.ref f) (.str "cells") Ja=aa (.ref c):=by unfold Qe;simp only[F'.hf];rfl
 have hlen:(iL cells).length=cells.length:=by simp
 have bp:∀τ,Cf .Add (.int at_) (.int 1) τ=aa (.int (at_+1),τ):=λ_=>rfl
 by_cases q:cells.length<at_+1
 ·refine⟨0,Ja,hw,?_,F',K⟩
  rw[Dc (fn:=gE) rfl,Bd [aa (.ref f),aa (.int wide)] rfl rfl];have hd:decide ((cells.length:Int)<(at_:Int)+1)=true:=decide_eq_true (by omega);simp only[gE,EV,LS,e1,bp,e2,e3,e4,Nb,wc F'.hc,hlen,rl,hd];rfl
 ·have hd:decide ((cells.length:Int)<(at_:Int)+1)=false:=decide_eq_false (by omega)
  obtain⟨x,hx⟩:∃x,cells[at_]? =aa x:=⟨cells[at_]'(by omega),da _⟩;have gp:Cf .Sub (.int (at_+1)) (.int 1) Ja=aa (.int at_,Ja):=by
   show aa (V.int _,Ja)=_
   congr 3;omega
  have s1:=Rc F'.hc hx;have h0:0<=x.fmod (wide:Int):=Int.fmod_nonneg_of_pos x (by omega);have h1:x.fmod (wide:Int)<wide:=Int.fmod_lt_of_pos x (by omega);obtain⟨d,hd'⟩:=pc h0;have hmod:Cf .Mod (.int x) (.int wide) Ja=aa (.int d,Ja):=by
   unfold Cf;simp only[];rw[if_neg (by omega),hd']
  refine⟨d,Ja,by omega,?_,F',K⟩;rw[Dc (fn:=gE) rfl,Bd [aa (.ref f),aa (.int wide)] rfl rfl];simp only[gE,EV,LS,e1,bp,e2,e3,e4,Nb,wc F'.hc,hlen,rl,hd,gp,s1,hmod]
def Kh (found:List (List Int)) (xs:List Int):List (List Int):=found.flatMap λe=>xs.map λv=>e++[v]
def Fg (xss:List (List Int)):List (List Int):=xss.foldl Kh [[]]
theorem Jv (xss:List (List Int)) (xs:List Int):Fg (xss++[xs])=Kh (Fg xss) xs:=by unfold Fg;rw[wD];rfl
theorem Rk:∀{k:Nat} {xss:List (List Int)},xss.length=k->∀one,one∈Fg xss↔one.length=k/\∀(j:Nat) v xs,one[j]? =aa v->xss[j]? =aa xs->v∈xs
 |0,xss,h,one=>by
  have:xss=[]:=Sl.mp h;subst this;simp only[Fg,List.foldl_nil,jb]
  constructor
  ·rintro rfl;exact⟨rfl,λj v xs h=>by simp at h⟩
  ·rintro⟨h,_⟩;exact Sl.mp h
 |k+1,xss,h,one=>by
  obtain⟨ini,last,rfl⟩:∃ini last,xss=ini++[last]:=⟨xss.dropLast,xss.getLast (by intro q;rw[q]at h;simp at h),(fu _).symm⟩;have hi:ini.length=k:=by simpa using h
  have ih:=Rk hi;rw[Jv];unfold Kh;simp only[List.mem_flatMap,Bb]
  constructor
  ·rintro⟨e,he,v,hv,rfl⟩
   obtain⟨h1,h2⟩:=(ih e).mp he;refine⟨by simp[h1],λj u xs hu Xx=> ?_⟩
   by_cases q:j<k
   ·rw[ta (by omega)]at hu Xx
    exact h2 j u xs hu Xx
   ·have hj:j=k:=by
     have:=(ca.mp hu).1;simp at this;omega
    subst hj;rw[Ra (by omega),h1]at hu;rw[Ra (by omega),hi]at Xx;simp at hu Xx;subst hu;subst Xx;exact hv
  ·rintro⟨h1,h2⟩
   have hne:one≠[]:=by intro q;rw[q]at h1;simp at h1
   have Rz:one.dropLast++[one.getLast hne]=one:=fu hne;have hdl:one.dropLast.length=k:=by simp;omega
   refine⟨one.dropLast,(ih _).mpr ⟨hdl,λj u xs hu Xx=> ?_⟩,one.getLast hne,?_,Rz⟩
   ·have hjk:j<k:=by rw[<-hdl];exact(ca.mp hu).1
    refine h2 j u xs ?_ (by rw[ta (by omega)];exact Xx);rw[<-Rz,ta (by omega)];exact hu
   ·refine h2 k _ last ?_ ?_
    ·have hx:(one.dropLast++[one.getLast hne])[k]? =aa (one.getLast hne):=by rw[Ra (by omega),hdl];simp
     rw[Rz]at hx;exact hx
    ·rw[Ra (by omega),hi];simp
theorem Tk:∀{xss:List (List Int)},(∀xs∈xss,xs.length<=3)->(Fg xss).length<=3^xss.length:=by
 intro xss;have key:∀(xss:List (List Int)) (found:List (List Int)),(∀xs∈xss,xs.length<=3)->(xss.foldl Kh found).length<=found.length*3^xss.length:=by
  intro xss
  induction xss with
  |nil=>intro found _;simp
  |cons xs xss ih=>
   intro found h;have h1:=ih (Kh found xs) λy hy=>h y (Ia _ hy);have h2:(Kh found xs).length<=found.length*3:=by
    unfold Kh;have hx:=h xs Ma
    clear h1 ih h
    induction found with
    |nil=>simp
    |cons e found ih=>simp only[Dd,Ib,ja,cb];omega
   rw[QF,cb,Nat.pow_succ]
   calc _<=(Kh found xs).length*3^xss.length:=h1
    _<=found.length*3*3^xss.length:=Nat.mul_le_mul_right _ h2
    _=found.length*(3^xss.length*3):=by rw[Nat.mul_assoc,Nat.mul_comm 3]
 intro h;have:=key xss [[]] h
 simpa [Fg]using this
def stepT (xs:List Int):V->List V
 | .tup e=>(iL xs).map λv=>.tup (e++[v])
 |_=>[]
theorem zH {xs:List Int}:∀{found:List (List Int)},(Xc found).flatMap (stepT xs)=Xc (Kh found xs)
 | []=>rfl
 |e::found=>by
  have ih:=zH (xs:=xs) (found:=found);unfold Xc Kh at ih|-;simp only[sa,Dd,ih,bc,stepT,Fc]
  congr 1
  refine Af λv _=> ?_;simp[iL]
theorem Sv {L:Nat} {il:List Nat} (LS0:tn σ L il ms) (dp:ms.length<=3) (hn:1<=n):
 ∃Ca l,Oa (Ga scr) yb n 456 [.ref L] σ=aa (.ref l,Ca)/\ib [] σ Ca/\Ca[l]? =aa (.list (Xc (Fg (ms.map vals)))):=by
 obtain⟨n,rfl⟩:∃m,n=m+1:=⟨n - 1,by omega⟩;have hvl:∀k,∀xs∈(ms.map vals).take k,xs.length<=3:=λk xs hx=>by
  obtain⟨m,_,rfl⟩:=Bb.mp (yn hx);exact Mh
 have hnl0:=ac (xs:=[]) (σ:=σ) (by simp);have ak:=Ab (xs:=[.tup []]) (σ:=σ) (by simp);have hg0:=vb (σ:=σ) (o:=.list [.tup []]);obtain⟨Qb,Ca,e,q2,fnd,rfl,K,hg⟩:=Xe (xs:=il.map V.ref) (it:=.dyn L) (me:=[aa (.ref L),aa (.ref σ.length),ba]) (σ:=σ++[.list [.tup []]])
  (F:=Ce (Ga scr) (Oa (Ga scr) yb n) (.var 2) [.assign (.var 1) (.comp 3 (.var 1) (.var 4) [] [.mk (.var 2) (.var 5) []] (.bin .Add (.var 4) (.tup [(.var 5)])))])
  (λk me τ=>∃q2 fnd,me=[aa (.ref L),aa (.ref fnd),q2]/\ib [] σ τ/\τ[fnd]? =aa (.list (Xc (Fg ((ms.map vals).take k)))))
  (λk me τ ⟨_,_,_,K,_⟩ _=>se (K.old _ _ LS0.hl (by simp)))
  (λk v me τ hv ⟨q2,fnd,Wg,K,hg⟩=>by
   subst Wg;rw[za]at hv;cases hk:il[k]? with
   |none=>rw[hk]at hv;cases hv
   |some a=>
    rw[hk]at hv;cases hv;have hkl:k<ms.length:=by rw[<-LS0.len];exact(ca.mp hk).1
    have hm:ms[k]? =aa ms[k]:=da hkl;have hat:=K.old _ _ (LS0.at_ k a _ hk hm) (by simp);have hpl:=Tk (hvl k);have hp27:3^((ms.map vals).take k).length<=27:=by
     have:((ms.map vals).take k).length<=3:=by rw[lg,ja];omega
     exact Eb (ag (by omega) this) (by omega)
    have hc:re 5000 (.dyn fnd) 0 (Ec (Ga scr) (Oa (Ga scr) yb n) 3 (.var 4) [] [.mk (.var 2) (.var 5) []] (.bin .Add (.var 4) (.tup [(.var 5)])) [aa (.ref L),aa (.ref fnd),aa (.ref a)]) τ
     =aa ((Xc (Fg ((ms.map vals).take k))).flatMap (stepT (vals ms[k])),τ):=by
     refine We _ (λk=>se hg) (λv hv=> ?_) (by unfold Xc;rw[ja];omega);obtain⟨ee,he,rfl⟩:=Bb.mp hv;have hel:=((Rk (xss:=(ms.map vals).take k) rfl ee).mp he).1;have hel3:ee.length<=3:=by rw[hel,lg,ja];omega
     have hin:re 5000 (.dyn a) 0 (rG (Ga scr) (Oa (Ga scr) yb n) (.var 5) [] [] (λme σ=>gc (Ga scr) (Oa (Ga scr) yb n) (.bin .Add (.var 4) (.tup [(.var 5)])) me σ) [aa (.ref L),aa (.ref fnd),aa (.ref a),ba,aa (.tup (iL ee)),ba]) τ
      =aa ((iL (vals ms[k])).flatMap (λv=>[.tup (iL ee++[v])]),τ):=by
      have hvl3:=Mh (m:=ms[k]);refine We _ (λk=>se hat) (λv hv=> ?_) (by rw[ja];omega);have hn1:=ac (xs:=[v]) (σ:=τ) (by simp);have hn2:=ac (xs:=iL ee++[v]) (σ:=τ) (by simp;omega);unfold rG;simp only[yd,LS,mj,Og,YD,Oe,Vo,Te,Qf,hn1,Cf,hn2]
     have hfm:(iL (vals ms[k])).flatMap (λv=>[V.tup (iL ee++[v])])=stepT (vals ms[k]) (.tup (iL ee)):=by
      unfold stepT
      generalize iL (vals ms[k])=l
      induction l with
      |nil=>rfl
      |cons x l ih=>simp only[Dd,sa,ih];rfl
     rw[hfm]at hin;unfold Ec;simp only[yd,Aa,wb,Db,LS,mj,UA,Oe,Oc hat,hin]
    rw[zH,<-Jv]at hc;have htk:(ms.map vals).take (k+1)=(ms.map vals).take k++[vals ms[k]]:=by
     rw[Yb,za,hm];rfl
    rw[<-htk]at hc;have hpl2:=Tk (hvl (k+1));have hp27':3^((ms.map vals).take (k+1)).length<=27:=by
     have:((ms.map vals).take (k+1)).length<=3:=by rw[lg,ja];omega
     exact Eb (ag (by omega) this) (by omega)
    have Dk:=Ab (xs:=Xc (Fg ((ms.map vals).take (k+1)))) (σ:=τ) (by unfold Xc;rw[ja];omega);refine⟨[aa (.ref L),aa (.ref τ.length),aa (.ref a)],τ++[.list (Xc (Fg ((ms.map vals).take (k+1))))],?_,aa (.ref a),τ.length,rfl,K.trans (ib.app _),vb⟩;unfold Ce;rw[be (by simp)];simp only[Ud,qj,gg,ig,Oe,LS,Oc hg,hc,Dk,nj,Nat.reduceAdd,Nat.reduceLT,if_true])
  (by rw[ja];have:=LS0.len;omega) ⟨ba,σ.length,rfl,ib.app _,by simpa [Fg,Xc]using hg0⟩
 rw[ja,LS0.len]at hg;rw[dm (by simp)]at hg;refine⟨Ca,fnd,?_,K,hg⟩;rw[Dc (fn:=AI) rfl,Bd [aa (.ref L),ba,ba] rfl rfl];simp only[AI,Ud,qj,gg,Gm,Te,Qf,Vo,hnl0,ak,nj,LS,Nat.reduceAdd,Nat.reduceLT,if_true,Ij,Oe,Oc (ub (os:=[O.list [.tup []]]) LS0.hl),e,gv]
end
end Mine
namespace Mine
section
variable {S:Dr} {A:pu} {σ Ca:St} {ms:List Nat} {nv tl:Nat} {ws ls hs one a:List Int} {scr:Nat->Option (List Int)} {n:Nat} {failed:Bool} {rows:V} {ans:List (List Int)} {rs:List fh}
def oy (p:Int):V->List V
 | .int i=>if i=p then[.int i]else[]
 |_=>[]
theorem wH {p:Int}:∀{one:List Int},(iL one).flatMap (oy p)=iL (one.filter λi=>decide (i=p))
 | []=>rfl
 |x::one=>by
  have ih:=wH (p:=p) (one:=one);unfold iL at ih|-;simp only[sa,Dd,ih,oy,Vd]
  by_cases q:x=p<;>simp[q]
theorem Yo {p:Int}:∀{one:List Int},(one.filter λi=>decide (i=p)).length=one.count p
 | []=>rfl
 |x::one=>by
  have ih:=Yo (p:=p) (one:=one);rw[Vd,Zh]
  by_cases q:x=p<;>simp[q,ih]
def Tn (one:List Int) (r:fh):Bool:= !(decide (r.2.1<=(one.count r.1:Int))&&decide ((one.count r.1:Int)<=r.2.2))
theorem xE {R:Nat} (hR:σ[R]? =aa (.list (rc rs))) (hl:one.length<=10) (Gn:rs.length<=10) (hn:1<=n):
 ∃Ca,Oa (Ga scr) yb n 461 [.tup (iL one),.ref R] σ=aa (.bool (Je one rs),Ca)/\ib [] σ Ca:=by
 obtain⟨n,rfl⟩:∃m,n=m+1:=⟨n - 1,by omega⟩;obtain⟨out,Ja,e1,Yl,K⟩:=pf (xs:=rc rs) (it:=.dyn R) (σ:=σ)
  (F:=Ec (Ga scr) (Oa (Ga scr) yb n) 4 (.tup [3,4,5]) [(.not (.base (.cmp2 .LtE .LtE (.var 4) (.call (.con (.builtin "len")) [(.comp 2 (.var 0) (.var 7) [(.base (.cmp .Eq (.var 7) (.var 3)))] [] (.var 7))]) (.var 5))))] [] (.var 3) [aa (.tup (iL one)),aa (.ref R)])
  (λk Cc τ=>Cc=iL (((rs.take k).filter (Tn one)).map (·.1))/\ib [] σ τ)
  (λk Cc τ ⟨_,K⟩ _=>se (K.old _ _ hR (by simp)))
  (λk v Cc τ hv ⟨lh,K⟩=>by
   unfold rc at hv;rw[za]at hv;cases hr:rs[k]? with
   |none=>rw[hr]at hv;cases hv
   |some r=>
    rw[hr]at hv;cases hv;have hc:re 5000 (.st (iL one)) 0 (Ec (Ga scr) (Oa (Ga scr) yb n) 2 (.var 7) [(.base (.cmp .Eq (.var 7) (.var 3)))] [] (.var 7) [aa (.tup (iL one)),aa (.ref R),ba,aa (.int r.1),aa (.int r.2.1),aa (.int r.2.2)]) τ
     =aa ((iL one).flatMap (oy r.1),τ):=by
     refine We _ (λk=>rfl) (λv hv=> ?_) (by simp;omega);obtain⟨i,_,rfl⟩:=Bb.mp hv
     by_cases q:i=r.1
     ·simp only[Ec,yd,Aa,wb,Db,EV,LS,Ki,q,decide_true,oy,if_true]
     ·simp only[Ec,yd,Aa,wb,Db,EV,LS,Ki,q,decide_false,oy,if_false]
    rw[wH]at hc;have hfl:(one.filter λi=>decide (i=r.1)).length<=10:=Eb (Ub _ _) hl;have ak:=Ab (xs:=iL (one.filter λi=>decide (i=r.1))) (σ:=τ) (by rw[ja];omega);have hg:=vb (σ:=τ) (o:=.list (iL (one.filter λi=>decide (i=r.1))));have hlen:jh (.builtin "len") [.ref τ.length] (τ++[.list (iL (one.filter λi=>decide (i=r.1)))])=aa (.int (one.count r.1),τ++[.list (iL (one.filter λi=>decide (i=r.1)))]):=by
     rw[wc hg,ja,Yo]
    refine⟨if Tn one r then[.int r.1]else[],τ++[.list (iL (one.filter λi=>decide (i=r.1)))],?_,?_,K.trans (ib.app _)⟩
    ·have hT:Ug (Ga scr) (Oa (Ga scr) yb n) (.not (.base (.cmp2 .LtE .LtE (.var 4) (.call (.con (.builtin "len")) [(.comp 2 (.var 0) (.var 7) [(.base (.cmp .Eq (.var 7) (.var 3)))] [] (.var 7))]) (.var 5)))) [aa (.tup (iL one)),aa (.ref R),ba,aa (.int r.1),aa (.int r.2.1),aa (.int r.2.2)] τ=aa (Tn one r,τ++[.list (iL (one.filter λi=>decide (i=r.1)))]):=by
      unfold Tn
      by_cases q1:r.2.1<=(one.count r.1:Int)
      ·by_cases q2:(one.count r.1:Int)<=r.2.2<;>simp only[Ms,lj,Az,Nf,uh,Te,Qf,ig,Oe,LS,te,hc,ak,Nb,hlen,As,q1,q2,decide_true,decide_false,Rg,bk,Zb,qc]
      ·simp only[Ms,lj,Az,Nf,uh,Te,Qf,ig,Oe,LS,te,hc,ak,Nb,hlen,As,q1,decide_false,Ou,qc]
     unfold Ec;simp only[yd,bg,Aa,wb,Db,LS,Ls,mj,hT];cases Tn one r
     ·rfl
     ·simp only[Og,Oe,LS,if_true]
    ·rw[lh,Yb,hr]
     simp only[Ff,dk,Vd,zj,bc,iL];cases Tn one r<;>rfl)
  (by unfold rc;rw[ja];omega) ⟨rfl,.refl⟩
 have hlen:(rc rs).length=rs.length:=by unfold rc;simp
 rw[hlen,Xd]at Yl;have hfl:((rs.filter (Tn one)).map (·.1)).length<=10:=by rw[ja];exact Eb (Ub _ _) Gn
 have ak:=Ab (xs:=iL ((rs.filter (Tn one)).map (·.1))) (σ:=Ja) (by rw[ja];omega);have hg:=vb (σ:=Ja) (o:=.list (iL ((rs.filter (Tn one)).map (·.1))));have Dk:=Ab (xs:=[]) (σ:=Ja++[.list (iL ((rs.filter (Tn one)).map (·.1)))]) (by simp);have Tp:=vb (σ:=Ja++[.list (iL ((rs.filter (Tn one)).map (·.1)))]) (o:=.list []);have heq:=Dz (ub (os:=[O.list []]) hg) Tp;have hd:decide ((rs.filter (Tn one)).map (·.1)=[])=Je one rs:=by
  have h1:(rs.filter (Tn one)).map (·.1)=[]↔Je one rs=true:=by
   rw[ZB,cm];unfold Je Tn;rw[Jb];refine forall_congr' λr=>forall_congr' λ_=> ?_;cases decide (r.2.1<=(one.count r.1:Int))<;>cases decide ((one.count r.1:Int)<=r.2.2)<;>simp
  by_cases q:Je one rs=true
  ·rw[q];exact decide_eq_true (h1.mpr q)
  ·rw[zh]at q
   rw[q];exact decide_eq_false (λz=>by rw[h1.mp z]at q;cases q)
 rw[hd]at heq;refine⟨_,?_,(K.trans (ib.app [.list (iL ((rs.filter (Tn one)).map (·.1)))])).trans (ib.app [.list []])⟩;rw[Dc (fn:=BI) rfl,Bd [aa (.tup (iL one)),aa (.ref R)] rfl rfl];rw[Yl]at e1;simp only[BI,Ud,gv,Bn,ig,Oe,LS,Oc hR,e1,ak,Gm,Qf,Dk,heq]
theorem jG {xs ys:List Int}:ud (.tuple (xs.map vd)) (.tuple (ys.map vd))=decide (xs=ys):=by
 have key:∀xs ys:List Int,Be (xs.map vd) (ys.map vd)=decide (xs=ys):=by
  intro xs
  induction xs with
  |nil=>intro ys;cases ys<;>simp[Be]
  |cons x xs ih=>
   intro ys;cases ys with
   |nil=>simp[Be]
   |cons y ys=>
    simp only[sa,Be,ud,ih,Jf]
    by_cases h:x=y<;>simp[h]
 simp only[ud,key]
theorem uG {AN:Nat} (h:σ[AN]? =aa (.list (Xc ans))):Zc .In (.tup (iL one)) (.ref AN) σ=aa (decide (one∈ans)):=by
 have h1:Fh 5 (.tup (iL one)) σ=aa (.tuple (one.map vd)):=by rw[sd,qi]
 have h2:Ng 5 (Xc ans) σ=aa (ans.map λone=>oH (one.map vd)):=zl ans;unfold Zc;simp only[Pb h,h1,h2]
 congr 1
 rw[List.any_map];rw[eu,AF,decide_eq_true_eq];simp only[gn,jG,decide_eq_true_eq]
 constructor
 ·rintro⟨x,hx,rfl⟩;exact hx
 ·intro h;exact⟨one,h,rfl⟩
theorem kC {AN:Nat} {xg:List fh} {me:Me} (Wg:me.length=16) (h15:me[15]? =aa (aa (.ref A.i))) (h11:me[11]? =aa (aa (.ref AN))) (CS:cn A σ nv ws ls hs (Yg xg)) (hAN:σ[AN]? =aa (.list (Xc ans))) {T:Nat} {all:List (List Int)} (hT:σ[T]? =aa (.list (Xc all))) (Xn:∀one∈all,one.length<=3/\Je one xg=decide (one∈ans)) (Dn:all.length<=100) (lu:xg.length<=10) (hn:1<=n):
 ∃Ca,re 5000 (.dyn T) 0 (Ec (Ga scr) (Oa (Ga scr) yb n) 2 (.var 17) [(.base (.cmp .IsNot (.meth (.var 15) "check" [(.var 17)]) (.cmp .In (.var 17) (.var 11))))] [] (.var 17) me) σ=aa ([],Ca)/\ib [] σ Ca:=by
 obtain⟨out,Ja,e1,Yl,K⟩:=pf (xs:=Xc all) (it:=.dyn T) (σ:=σ)
  (F:=Ec (Ga scr) (Oa (Ga scr) yb n) 2 (.var 17) [(.base (.cmp .IsNot (.meth (.var 15) "check" [(.var 17)]) (.cmp .In (.var 17) (.var 11))))] [] (.var 17) me)
  (λk Cc τ=>Cc=[]/\ib [] σ τ)
  (λk Cc τ ⟨_,K⟩ _=>se (K.old _ _ hT (by simp)))
  (λk v Cc τ hv ⟨lh,K⟩=>by
   obtain⟨one,ho,rfl⟩:=Bb.mp (ma hv);obtain⟨h3,hk⟩:=Xn one ho;have mz:=CS.k0 K;obtain⟨Yh,ec,Kc⟩:=KD (scr:=scr) (n:=n) mz (one:=one) (by omega) lu hn;have hin:=uG (one:=one) (Kc.old _ _ (K.old _ _ hAN (by simp)) (by simp));refine⟨[],Yh,?_,by rw[lh];rfl,K.trans Kc⟩;have g1:(me++[ba,ba])[17]? =aa ba:=by rw[Ra (by omega),Wg];rfl
   have g2:((me++[ba,ba]).set 17 (aa (V.tup (iL one))))[17]? =aa (aa (.tup (iL one))):=fb (by simp;omega);have g3:((me++[ba,ba]).set 17 (aa (V.tup (iL one))))[15]? =aa (aa (.ref A.i)):=by rw[Na (by omega),ta (by omega)];exact h15
   have g4:((me++[ba,ba]).set 17 (aa (V.tup (iL one))))[11]? =aa (aa (.ref AN)):=by rw[Na (by omega),ta (by omega)];exact h11
   rw[hk]at ec;unfold Ec;simp only[yd,Aa,g1,Ls,mj,lj,Bn,Wn,Oe,g2,g3,g4,mz.meth (scr:=scr),Te,Qf,Wc,ec,hin,jo,bne_self_eq_false])
  (by unfold Xc;rw[ja];omega) ⟨rfl,.refl⟩
 exact⟨Ja,by rw[e1,Yl],K⟩
theorem fG {R:Nat} {me:Me} (Wg:me.length=16) (h13:me[13]? =aa (aa (.ref R))) (hR:σ[R]? =aa (.list (rc rs))) (Gn:rs.length<=10) {cf:Nat->List V->St->Option (V×St)}:
 ∃Ca,re 5000 (.st (gd 0 ((3:Nat):Int))) 0 (Ec (Ga scr) cf 2 (.var 17) [] [] (.call (.con (.type "tuple")) [(.comp 2 (.var 13) (.var 19) [] [] (.sub (.var 19) (.var 17)))]) me) σ=aa ([.tup (iL (rs.map (·.1))),.tup (iL (rs.map (·.2.1))),.tup (iL (rs.map (·.2.2)))],Ca)/\ib [] σ Ca:=by
 obtain⟨cols,dh,e4,Qx,K4⟩:=pf (xs:=gd 0 ((3:Nat):Int)) (it:=.st (gd 0 ((3:Nat):Int))) (σ:=σ)
  (F:=Ec (Ga scr) cf 2 (.var 17) [] [] (.call (.con (.type "tuple")) [(.comp 2 (.var 13) (.var 19) [] [] (.sub (.var 19) (.var 17)))]) me)
  (λk Cc τ=>Cc=((Ua k).map λk=>V.tup (iL (Ag rs k)))/\ib [] σ τ)
  (λ_ _ _ _ _=>rfl)
  (λk v Cc τ hv ⟨lh,K⟩=>by
   rw[gf]at hv
   split at hv<;>cases hv
   rename_i hk;have hRt:=K.old _ _ hR (by simp);have g1:(me++[ba,ba])[17]? =aa ba:=by rw[Ra (by omega),Wg];rfl
   have g2:((me++[ba,ba]).set 17 (aa (V.int (k:Int))))[17]? =aa (aa (.int k)):=fb (by simp;omega);have g3:((me++[ba,ba]).set 17 (aa (V.int (k:Int))))[13]? =aa (aa (.ref R)):=by rw[Na (by omega),ta (by omega)];exact h13
   have hc:=ND (t:=Ga scr) (cf:=cf) (j:=17) (p:=18) (me:=(me++[ba,ba]).set 17 (aa (V.int (k:Int)))) (k:=k) (by simp[Wg]) hk g2 hRt Gn;have hcl:(iL (Ag rs k)).length<=10:=by simp[Ag];omega
   have ak:=Ab (xs:=iL (Ag rs k)) (σ:=τ) (by omega);have hg:=vb (σ:=τ) (o:=.list (iL (Ag rs k)));have ht:jh (.type "tuple") [.ref τ.length] (τ++[.list (iL (Ag rs k))])=aa (.tup (iL (Ag rs k)),τ++[.list (iL (Ag rs k))]):=by
    unfold jh;simp only[Pj,Pb hg];exact ac (by omega)
   simp only[Nat.reduceAdd]at hc;refine⟨[.tup (iL (Ag rs k))],τ++[.list (iL (Ag rs k))],?_,?_,K.trans (ib.app _)⟩
   ·have hX:gc (Ga scr) cf (.call (.con (.type "tuple")) [(.comp 2 (.var 13) (.var 19) [] [] (.sub (.var 19) (.var 17)))]) ((me++[ba,ba]).set 17 (aa (V.int (k:Int)))) τ=aa (.tup (iL (Ag rs k)),τ++[.list (iL (Ag rs k))]):=by
     simp only[Nf,uh,Te,Qf,ig,Oe,g3,Oc hRt,hc,ak,vc,ht]
    unfold Ec;simp only[yd,Aa,g1,mj,Og,hX]
   ·rw[lh,vm,bc];rfl)
  (by rw[jd];omega) ⟨rfl,.refl⟩
 rw[jd]at Qx;exact⟨dh,by rw[e4,Qx];rfl,K4⟩
end
end Mine
namespace Mine
section
variable {S:Dr} {A:pu} {σ Ca:St} {ms:List Nat} {nv tl:Nat} {ws ls hs one a:List Int} {scr:Nat->Option (List Int)} {n:Nat} {failed:Bool} {rows:V} {ans:List (List Int)} {rs:List fh}
theorem WE {n:Nat}:gd 0 (n:Int)=pd (Ua n):=by
 unfold gd Jj pd;have:((n:Int) - 0).toNat=n:=by omega
 rw[this];refine Af λi _=> ?_
 congr 1;omega
theorem gG {k:Nat} {xs:List Int}:Fh (k+1) (.tup (iL xs)) σ=aa (.tuple (xs.map vd)):=by rw[sd,qi]
theorem aH {nv:Nat} {rs:List fh}:Zc .NotEq (Rt nv rs) (Rt nv rs) σ=aa false:=by
 have hs:Nt "cardinality"=true:=by decide+kernel
 have hd:Fh 6 (Rt nv rs) σ=aa (.tuple [.str "cardinality",.tuple ((((Ua nv).map λ(k:Nat)=>(k:Int))).map vd),.tuple ((rs.map (·.1)).map vd),.tuple ((rs.map (·.2.1)).map vd),.tuple ((rs.map (·.2.2)).map vd)]):=by
  unfold Rt Ad;rw[sd,Uh,je,hs,Ti];simp only[Uh,kh,gG,if_true]
 unfold Zc;simp only[hd];simp only[ud,Be,Ss,beq_self_eq_true,Lo,Zb]
theorem ib.under {τ:St} {W:List Nat} (k0:ib [] σ τ) (k:ib W τ Ca) (h:∀a∈W,σ.length<=a):ib [] σ Ca:=
 ⟨Eb k0.len k.len,λi o e hi=>k.old i o (k0.old i o e hi) λq=>by have:=h i q;have:=Ic e;omega⟩
def jp:List Mine.S:=[.assign (.tup [(.var 14),(.var 15)]) (.call (.con (.ref 466)) [(.var 5),(.var 13)]),.ifs (.base (.cmp .NotEq (.meth (.var 15) "told" []) (.bin .Add (.tup [(.str "cardinality"),(.call (.con (.type "tuple")) [(.call (.con (.type "range")) [(.var 2)])])]) (.call (.con (.type "tuple")) [(.comp 2 (.call (.con (.type "range")) [(.int 3)]) (.var 17) [] [] (.call (.con (.type "tuple")) [(.comp 2 (.var 13) (.var 19) [] [] (.sub (.var 19) (.var 17)))]))])))) [.ret (.bool false)] [],.ifs (.base (.cmp .NotEq (.comp 2 (.call (.con (.ref 456)) [(.var 5)]) (.var 17) [(.base (.cmp .IsNot (.meth (.var 15) "check" [(.var 17)]) (.cmp .In (.var 17) (.var 11))))] [] (.var 17)) (.list []))) [.ret (.bool false)] [],.ifs (.not (.base (.call (.con (.ref 476)) [(.var 14),(.var 15),(.var 11)]))) [.ret (.bool false)] [],.ifs (.and (.not (.base (.attr (.var 14) "is_failed"))) (.base (.cmp .Eq (.meth (.var 14) "holds" [(.var 12)]) (.int 0)))) [.expr (.meth (.var 14) "push" []),.expr (.meth (.var 14) "decide" [(.var 12)]),.ifs (.not (.base (.call (.con (.ref 476)) [(.var 14),(.var 15),(.var 11)]))) [.ret (.bool false)] []] []]
structure tD (σ:St) (L AN T:Nat) (il:List Nat) (ms:List Nat) (nv:Nat) (ans:List (List Int)) (xg:List fh) (ws ls hs:List Int):Prop where
 lists:tn σ L il ms
 hms:ms.length=nv
 hnv:1<=nv/\nv<=3
 hm8:∀m∈ms,0<m/\m<8
 hans:σ[AN]? =aa (.list (Xc ans))
 htold:σ[T]? =aa (.list (rc xg))
 tlen:xg.length<=10
 tr:∀r∈xg,0<=r.1/\r.1<3
 fold:xg.foldl zc ([],[],[])=(ws,ls,hs)
 wn:ws.Nodup
 wr:∀w∈ws,0<=w/\w<3
 wl:1<=ws.length/\ws.length<=2
 ll:ls.length=ws.length
 hl:hs.length=ws.length
 h0:∀h∈hs,0<=h
 al:ans.length<=100
 alen:∀one∈ans,one.length=nv
 chk:∀one∈Fg (ms.map vals),Je one xg=decide (one∈ans)
 spec:∀one,sm ms one->(one∈ans↔HF ws ls hs one)
theorem cG {L AN T x s:Nat} {il:List Nat} {xg:List fh} {k:Int} {v0 v1 v3 v4 v6 v9:V} {o7 o8 o10 o14 o15:Option V} (X:tD σ L AN T il ms nv ans xg ws ls hs) (hx:x<nv) (hs4:s<4) (hk:0<=k/\k<3) (hn:9<=n):
 ∃o14' o15' Ca,wf (Ga scr) (Oa (Ga scr) yb n) jp [aa v0,aa v1,aa (.int nv),aa v3,aa v4,aa (.ref L),aa v6,o7,o8,aa v9,o10,aa (.ref AN),aa (Vh x s k),aa (.ref T),o14,o15] σ
  =aa (.next,[aa v0,aa v1,aa (.int nv),aa v3,aa v4,aa (.ref L),aa v6,o7,o8,aa v9,o10,aa (.ref AN),aa (Vh x s k),aa (.ref T),o14',o15'],Ca)/\ib [] σ Ca:=by
 have hnv:=X.hnv;have hmsl:=X.hms;obtain⟨Ja,S,A,e1,K1,hSg,hAg,hSA,SS1,CS1⟩:=AG (scr:=scr) (n:=n) X.lists.hl X.lists.len X.lists.at_ X.hm8 X.htold hmsl hnv.2 X.tlen X.tr (by omega);rw[X.fold]at CS1;have U:Ch S A ms nv ws ls hs:=⟨hmsl,hnv,X.hm8,X.wn,X.wr,X.wl,X.ll,X.hl,X.h0,hSA⟩;have b1:Vf (Ga scr) (Oa (Ga scr) yb n) (.assign (.tup [(.var 14),(.var 15)]) (.call (.con (.ref 466)) [(.var 5),(.var 13)])) [aa v0,aa v1,aa (.int nv),aa v3,aa v4,aa (.ref L),aa v6,o7,o8,aa v9,o10,aa (.ref AN),aa (Vh x s k),aa (.ref T),o14,o15] σ
  =aa (.next,[aa v0,aa v1,aa (.int nv),aa v3,aa v4,aa (.ref L),aa v6,o7,o8,aa v9,o10,aa (.ref AN),aa (Vh x s k),aa (.ref T),aa (.ref S.i),aa (.ref A.i)],Ja):=by
  simp only[EV,LS,Uc (scr:=scr) (a:=466) rfl,e1,Nat.reduceAdd,Nat.reduceLT,if_true]
 generalize Wg:([aa v0,aa v1,aa (V.int nv),aa v3,aa v4,aa (.ref L),aa v6,o7,o8,aa v9,o10,aa (.ref AN),aa (Vh x s k),aa (.ref T),aa (.ref S.i),aa (.ref A.i)]:Me)=me at*
 have m2:me[2]? =aa (aa (.int nv)):=by rw[<-Wg];rfl
 have m5:me[5]? =aa (aa (.ref L)):=by rw[<-Wg];rfl
 have m11:me[11]? =aa (aa (.ref AN)):=by rw[<-Wg];rfl
 have m12:me[12]? =aa (aa (Vh x s k)):=by rw[<-Wg];rfl
 have m13:me[13]? =aa (aa (.ref T)):=by rw[<-Wg];rfl
 have m14:me[14]? =aa (aa (.ref S.i)):=by rw[<-Wg];rfl
 have m15:me[15]? =aa (aa (.ref A.i)):=by rw[<-Wg];rfl
 have mlen:me.length=16:=by rw[<-Wg];rfl
 have tl1:=bH (scr:=scr) (n:=n) CS1 (by omega);obtain⟨Cb,e2,K2⟩:=fG (scr:=scr) (cf:=Oa (Ga scr) yb n) mlen m13 (K1.old _ _ X.htold (by simp)) X.tlen;have hrg1:=xe (σ:=Ja) (b:=(nv:Nat)) (by omega);have ht1:jh (.type "tuple") [.rng 0 (nv:Nat)] Ja=aa (Ad nv,Ja):=by
  unfold jh;simp only[Pj];rw[if_pos (by omega)];simp only[WE];exact ac (by simp[pd];omega)
 have hnt:=ac (xs:=[.str "cardinality",Ad nv]) (σ:=Ja) (by simp);have hrg3:=xe (σ:=Ja) (b:=((3:Nat):Int)) (by omega);have hir3:=Ie (σ:=Ja) (b:=((3:Nat):Int)) (by omega);have c3:((3:Nat):Int)=3:=rfl;rw[c3]at hrg3 hir3 e2;have Dk:=Ab (xs:=[V.tup (iL (xg.map (·.1))),.tup (iL (xg.map (·.2.1))),.tup (iL (xg.map (·.2.2)))]) (σ:=Cb) (by simp);have Tp:=vb (σ:=Cb) (o:=.list [V.tup (iL (xg.map (·.1))),.tup (iL (xg.map (·.2.1))),.tup (iL (xg.map (·.2.2)))]);have K3:ib [] Ja (Cb++[.list [V.tup (iL (xg.map (·.1))),.tup (iL (xg.map (·.2.1))),.tup (iL (xg.map (·.2.2)))]]):=K2.trans (ib.app _)
 generalize hσ3:Cb++[O.list [V.tup (iL (xg.map (·.1))),.tup (iL (xg.map (·.2.1))),.tup (iL (xg.map (·.2.2)))]]=ae at*
 have ht3:jh (.type "tuple") [.ref Cb.length] ae=aa (Yg xg,ae):=by
  unfold jh;simp only[Pj,Pb Tp];exact ac (by simp)
 have bp:Cf .Add (.tup [.str "cardinality",Ad nv]) (Yg xg) ae=aa (Rt nv xg,ae):=rfl;have b2:Vf (Ga scr) (Oa (Ga scr) yb n) (.ifs (.base (.cmp .NotEq (.meth (.var 15) "told" []) (.bin .Add (.tup [(.str "cardinality"),(.call (.con (.type "tuple")) [(.call (.con (.type "range")) [(.var 2)])])]) (.call (.con (.type "tuple")) [(.comp 2 (.call (.con (.type "range")) [(.int 3)]) (.var 17) [] [] (.call (.con (.type "tuple")) [(.comp 2 (.var 13) (.var 19) [] [] (.sub (.var 19) (.var 17)))]))])))) [.ret (.bool false)] []) me Ja=aa (.next,me,ae):=by
  simp only[Cz,lj,Bn,Wn,Oe,m15,CS1.meth (scr:=scr),Qf,Wc,tl1,YD,Vo,Te,bE,Nf,uh,m2,vc,hrg1,ht1,hnt,ig,Fm,hrg3,hir3,e2,Dk,ht3,bp,aH,qj]
 have K13:ib [] σ ae:=K1.trans K3;have lz:=CS1.k0 K3;have sz:=SS1.k0 K3;obtain⟨dh,T4,e4,K4,hT4⟩:=Sv (scr:=scr) (n:=n) (X.lists.k0 K13) (by omega) (by omega);have CS4:=lz.k0 K4;have hAN4:=(K13.trans K4).old _ _ X.hans (by simp);have hpl:(Fg (ms.map vals)).length<=27:=by
  have h1:=Tk (xss:=ms.map vals) (λxs hx=>by obtain⟨m,_,rfl⟩:=Bb.mp hx;exact Mh);have h2:(ms.map vals).length<=3:=by rw[ja];omega
  exact Eb h1 (Eb (ag (by omega) h2) (by omega))
 obtain⟨ci,e5,K5⟩:=kC (scr:=scr) (n:=n) mlen m15 m11 CS4 hAN4 hT4 (λone ho=>⟨by have:=((Rk (xss:=ms.map vals) rfl one).mp ho).1;rw[this,ja];omega,X.chk one ho⟩) (by omega) X.tlen (by omega);have hnl5:=Ab (xs:=[]) (σ:=ci) (by simp);have hg5:=vb (σ:=ci) (o:=.list (iL []));have hnl6:=Ab (xs:=[]) (σ:=ci++[.list []]) (by simp);have hne6:=HE (ub (os:=[O.list []]) hg5) (vb (σ:=ci++[.list (iL [])]) (o:=.list []));have K6:ib [] ae (ci++[.list []]++[.list []]):=((K4.trans K5).trans (ib.app _)).trans (ib.app _);have b3:Vf (Ga scr) (Oa (Ga scr) yb n) (.ifs (.base (.cmp .NotEq (.comp 2 (.call (.con (.ref 456)) [(.var 5)]) (.var 17) [(.base (.cmp .IsNot (.meth (.var 15) "check" [(.var 17)]) (.cmp .In (.var 17) (.var 11))))] [] (.var 17)) (.list []))) [.ret (.bool false)] []) me ae=aa (.next,me,ci++[.list []]++[.list []]):=by
  have hne6':Zc .NotEq (.ref ci.length) (.ref (ci++[O.list []]).length) (ci++[.list []]++[.list []])=aa false:=hne6;simp only[Cz,lj,Bn,ig,Nf,uh,Te,Qf,Oe,m5,Uc (scr:=scr) (a:=456) rfl,e4,Oc hT4,e5,hnl5,Gm,hnl6,hne6',qj]
 generalize hσ6:ci++[O.list []]++[O.list []]=Io at*
 have K16:=K13.trans K6;have SS6:=sz.k0 K6;have CS6:=lz.k0 K6;obtain⟨Nn,e7,K7,hend⟩:=xx (scr:=scr) (n:=n) SS6 CS6 U (K16.old _ _ X.hans (by simp)) X.alen X.al X.spec (by omega) hn;have K17:ib [] σ Nn:=K16.under K7 hSg;have b4:Vf (Ga scr) (Oa (Ga scr) yb n) (.ifs (.not (.base (.call (.con (.ref 476)) [(.var 14),(.var 15),(.var 11)]))) [.ret (.bool false)] []) me Io=aa (.next,me,Nn):=by
  simp only[Cz,Ms,lj,Nf,uh,Te,Qf,Oe,m14,m15,m11,Uc (scr:=scr) (a:=476) rfl,e7,Zb,qj]
 have b5:∃ou,Vf (Ga scr) (Oa (Ga scr) yb n) (.ifs (.and (.not (.base (.attr (.var 14) "is_failed"))) (.base (.cmp .Eq (.meth (.var 14) "holds" [(.var 12)]) (.int 0)))) [.expr (.meth (.var 14) "push" []),.expr (.meth (.var 14) "decide" [(.var 12)]),.ifs (.not (.base (.call (.con (.ref 476)) [(.var 14),(.var 15),(.var 11)]))) [.ret (.bool false)] []] []) me Nn=aa (.next,me,ou)/\ib [] σ ou:=by
  rcases hend with SS7|⟨Sf,SS7,hml',hm8',gp⟩
  ·refine⟨Nn,?_,K17⟩
   simp only[Cz,TA,Ms,lj,Ks,Oe,m14,SS7.attr (scr:=scr),Zb,qj]
  ·obtain⟨m',Xj⟩:∃m',Sf[x]? =aa m':=⟨Sf[x]'(by omega),da _⟩
   have ww:=hm8' m' (ma Xj);obtain⟨E,eh⟩:=lE (scr:=scr) (n:=n) (s:=s) (k:=k) SS7 Xj ww.2 hs4 (by omega) hk (by omega)
   by_cases hz:tc s k m'=m'\/tc s k m'=0
   ·refine⟨Nn++E,?_,K17.trans (ib.app _)⟩
    have hr:decide ((if tc s k m'=m' then(1:Int)else if tc s k m'=0 then -1 else 0)=0)=false:=by
     apply decide_eq_false
     by_cases q:tc s k m'=m'
     ·rw[if_pos q];omega
     ·rcases hz with h|h
      ·exact absurd h q
      ·rw[if_neg q,if_pos h];omega
    simp only[Cz,TA,Ms,lj,Ks,Oe,m14,m12,SS7.attr (scr:=scr),qc,Bn,Wn,SS7.meth (scr:=scr),Te,Qf,Wc,eh,Fm,Ki,hr,qj]
   ·simp only[not_or]at hz
    have hr:decide ((if tc s k m'=m' then(1:Int)else if tc s k m'=0 then -1 else 0)=0)=true:=by
     apply decide_eq_true
     rw[if_neg hz.1,if_neg hz.2]
    have SS8:=SS7.app E;obtain⟨Ar,e9,SS9,K9⟩:=LG (scr:=scr) (n:=n) SS8 (by omega) (by omega);obtain⟨Np,e10,SS10,K10⟩:=qC (scr:=scr) (n:=n) (s:=s) (k:=k) SS9 Xj ww.2 hs4 (by omega) hk hz.2 (by omega) (by omega);have iB:∀a,a∈[S.mar]\/a∈[S.dom,S.tra,S.nes]->a∈S.all:=λa h=>by
     simp only[Fa,Za,or_false]at h;simp only[Dr.all,Fa,Za,or_false];rcases h with h|h|h|h<;>simp[h]
    have K18:ib [] σ Np:=((K17.trans (ib.app E)).under K9 (λa ha=>hSg a (iB a (.inl ha)))).under K10 (λa ha=>hSg a (iB a (.inr ha)));have CS7:cn A Nn nv ws ls hs (Yg xg):=CS6.keep K7 (λa ha q=>hSA a q ha);have CS10:cn A Np nv ws ls hs (Yg xg):=((CS7.k0 (ib.app E)).keep K9 (λa ha q=>hSA a (iB a (.inl q)) ha)).keep K10 (λa ha q=>hSA a (iB a (.inr q)) ha);have hml2:(Sf.set x (tc s k m')).length=ms.length:=by rw[Mb];exact hml'
    have hm82:∀m∈Sf.set x (tc s k m'),0<m/\m<8:=λm hm=>by
     rcases List.mem_or_eq_of_mem_set hm with h|h
     ·exact hm8' m h
     ·subst h;exact⟨Nat.pos_of_ne_zero hz.2,Sj _ _ _⟩
    have U2:Ch S A (Sf.set x (tc s k m')) nv ws ls hs:=⟨by omega,hnv,hm82,X.wn,X.wr,X.wl,X.ll,X.hl,X.h0,hSA⟩;have hspec2:∀one,sm (Sf.set x (tc s k m')) one->(one∈ans↔HF ws ls hs one):=λone D=>by
     refine X.spec one ⟨by rw[D.1,hml2],λj m u hm hu=> ?_⟩;have hj:j<Sf.length:=by rw[hml'];exact(ca.mp hm).1
     by_cases q:x=j
     ·subst q
      obtain⟨h1,h2⟩:=D.2 x _ u (fb hj) hu;rw[Yn ww.2 hs4 hk h1,La]at h2;exact⟨h1,gp x m m' hm Xj u h1 h2.1⟩
     ·obtain⟨m2,hm2⟩:∃m2,Sf[j]? =aa m2:=⟨Sf[j],da hj⟩
      obtain⟨h1,h2⟩:=D.2 j m2 u (by rw[Na q];exact hm2) hu;exact⟨h1,gp j m m2 hm hm2 u h1 h2⟩
    obtain⟨Cq,e11,K11,_⟩:=xx (scr:=scr) (n:=n) SS10 CS10 U2 (K18.old _ _ X.hans (by simp)) X.alen X.al hspec2 (by omega) hn;refine⟨Cq,?_,K18.under K11 hSg⟩;simp only[Cz,TA,Ms,lj,Ks,Oe,m14,m12,m15,m11,SS7.attr (scr:=scr),qc,Bn,Wn,SS7.meth (scr:=scr),Te,Qf,Wc,eh,Fm,Ki,hr,Ud,Bz,SS8.meth (scr:=scr),e9,SS9.meth (scr:=scr),e10,Nf,uh,Uc (scr:=scr) (a:=476) rfl,e11,Zb,qj]
 obtain⟨ou,b5,K8⟩:=b5;refine⟨aa (.ref S.i),aa (.ref A.i),ou,?_,K8⟩;unfold jp;rw[Ud,b1];simp only[];rw[Ud,b2];simp only[];rw[Ud,b3];simp only[];rw[Ud,b4];simp only[];rw[Ud,b5];simp only[qj,Wg]
end
end Mine
namespace Mine
def rf (v l1 d1 l2 d2:Int) (oth:Option fh):List fh:=(v,l1,l1+d1)::(oth.toList++[(v,l2,l2+d2)])
def ah (v l1 d1 l2 d2:Int) (oth:Option fh):List fh:=(v,max l1 l2,min (l1+d1) (l2+d2))::oth.toList
def Go (v:Int) (oth:Option fh):List Int:=v::(oth.toList.map (·.1))
def Cu (l1 l2:Int) (oth:Option fh):List Int:=max l1 l2::(oth.toList.map (·.2.1))
def Zs (l1 d1 l2 d2:Int) (oth:Option fh):List Int:=min (l1+d1) (l2+d2)::(oth.toList.map (·.2.2))
def rx (v:Int) (oth:Option fh):Prop:=∀r,oth=aa r->r.1≠v/\(0<=r.1/\r.1<3)/\r.2.1=0/\0<=r.2.2
section
variable {v l1 d1 l2 d2:Int} {oth:Option fh} {one:List Int} {ms:List Nat}
theorem yC (h1:0<=l1) (h2:0<=l2) (ho:rx v oth):(rf v l1 d1 l2 d2 oth).foldl zc ([],[],[])=(Go v oth,Cu l1 l2 oth,Zs l1 d1 l2 d2 oth):=by
 have m1:max l1 0=l1:=by omega
 have m2:max l2 0=l2:=by omega
 cases oth with
 |none=>simp[rf,Go,Cu,Zs,zc,m1,m2]
 |some r=>
  obtain⟨hne,_,h0,_⟩:=ho r rfl;obtain⟨r1,r2,r3⟩:=r;simp only at hne h0;subst h0;have hne':v≠r1:=λq=>hne q.symm;simp[rf,Go,Cu,Zs,zc,m1,m2,hne]
theorem Nx (h1:0<=l1) (h2:0<=l2) (ho:rx v oth):(ah v l1 d1 l2 d2 oth).foldl zc ([],[],[])=(Go v oth,Cu l1 l2 oth,Zs l1 d1 l2 d2 oth):=by
 have m1:max (max l1 l2) 0=max l1 l2:=by omega
 cases oth with
 |none=>simp[ah,Go,Cu,Zs,zc,m1]
 |some r=>
  obtain⟨hne,_,h0,_⟩:=ho r rfl;obtain⟨r1,r2,r3⟩:=r;simp only at hne h0;subst h0;simp[ah,Go,Cu,Zs,zc,m1,hne]
theorem bt:Je one (ah v l1 d1 l2 d2 oth)=Je one (rf v l1 d1 l2 d2 oth):=by
 unfold Je ah rf;rw[eu];cases oth with
 |none=>
  simp only[FA,Db,Yk,Iq,Rg,La,decide_eq_true_eq];omega
 |some r=>
  simp only[Ff,wb,Db,Yk,Iq,Rg,La,decide_eq_true_eq];omega
theorem EC:Je one (rf v l1 d1 l2 d2 oth)=true↔HF (Go v oth) (Cu l1 l2 oth) (Zs l1 d1 l2 d2 oth) one:=by
 rw[<-bt];unfold Je ah HF Go Cu Zs;cases oth with
 |none=>
  simp only[FA,zb,Yk,Iq,Rg,La,decide_eq_true_eq]
  constructor
  ·intro h k w l hh e1 e2 e3
   cases k with
   |zero=>simp at e1 e2 e3;subst e1;subst e2;subst e3;exact h
   |succ k=>simp at e1
  ·intro h;exact h 0 _ _ _ rfl rfl rfl
 |some r=>
  simp only[Ff,sa,zb,Yk,Iq,Rg,La,decide_eq_true_eq]
  constructor
  ·intro h k w l hh e1 e2 e3
   match k with
   |0=>simp at e1 e2 e3;subst e1;subst e2;subst e3;exact h.1
   |1=>simp at e1 e2 e3;subst e1;subst e2;subst e3;exact h.2
   |k+2=>simp at e1
  ·intro h;exact⟨h 0 _ _ _ rfl rfl rfl,h 1 _ _ _ rfl rfl rfl⟩
theorem XD (h:sm ms one):one∈Fg (ms.map vals):=by
 rw[Rk (xss:=ms.map vals) rfl,ja];refine⟨h.1,λj u xs hu Xx=> ?_⟩;rw[za]at Xx;cases hm:ms[j]? with
 |none=>rw[hm]at Xx;cases Xx
 |some m=>
  rw[hm]at Xx;cases Xx;obtain⟨q1,q2⟩:=h.2 j m u hm hu;exact Lm.mpr ⟨q1,q2⟩
def Tl (ms:List Nat) (rs:List fh):List (List Int):=(Fg (ms.map vals)).filter λone=>Je one rs
theorem SH {σ:St} {L AN T nv:Nat} {il:List Nat} {xg:List fh} (hlists:tn σ L il ms) (hms:ms.length=nv) (hnv:1<=nv/\nv<=3) (hm8:∀m∈ms,0<m/\m<8) (hAN:σ[AN]? =aa (.list (Xc (Tl ms (rf v l1 d1 l2 d2 oth))))) (hT:σ[T]? =aa (.list (rc xg)))
 (ht:xg=rf v l1 d1 l2 d2 oth\/xg=ah v l1 d1 l2 d2 oth) (hv:0<=v/\v<3) (h1:0<=l1/\0<=d1) (h2:0<=l2/\0<=d2) (ho:rx v oth):
 tD σ L AN T il ms nv (Tl ms (rf v l1 d1 l2 d2 oth)) xg (Go v oth) (Cu l1 l2 oth) (Zs l1 d1 l2 d2 oth):=by
 have hpl:(Fg (ms.map vals)).length<=27:=by
  have h1:=Tk (xss:=ms.map vals) (λxs hx=>by obtain⟨m,_,rfl⟩:=Bb.mp hx;exact Mh);have h2:(ms.map vals).length<=3:=by rw[ja];omega
  exact Eb h1 (Eb (ag (by omega) h2) (by omega))
 have Jr:oth.toList.length<=1:=by cases oth<;>simp
 refine⟨hlists,hms,hnv,hm8,hAN,hT,?_,?_,?_,?_,?_,?_,?_,?_,?_,?_,?_,?_,?_⟩
 ·rcases ht with rfl|rfl
  ·simp[rf];omega
  ·simp[ah];omega
 ·intro r hr
  have key:r.1=v\/(∃q,oth=aa q/\r=q):=by
   rcases ht with rfl|rfl
   ·simp only[rf,Fa,db,Za,or_false,zk]at hr
    rcases hr with rfl|hr|rfl
    ·exact .inl rfl
    ·exact .inr ⟨r,hr,rfl⟩
    ·exact .inl rfl
   ·simp only[ah,Fa,zk]at hr
    rcases hr with rfl|hr
    ·exact .inl rfl
    ·exact .inr ⟨r,hr,rfl⟩
  rcases key with h|⟨q,hq,rfl⟩
  ·rw[h];exact hv
  ·exact(ho r hq).2.1
 ·rcases ht with rfl|rfl
  ·exact yC h1.1 h2.1 ho
  ·exact Nx h1.1 h2.1 ho
 ·cases oth with
  |none=>simp[Go]
  |some r=>simp only[Go,Ff,sa,zb];simp;exactλq=>(ho r rfl).1 q.symm
 ·intro w hw
  simp only[Go,Fa,Bb,zk]at hw;rcases hw with rfl|⟨r,hr,rfl⟩
  ·exact hv
  ·exact(ho r hr).2.1
 ·cases oth<;>simp[Go]
 ·simp[Cu,Go]
 ·simp[Zs,Go]
 ·intro h hh
  simp only[Zs,Fa,Bb,zk]at hh;rcases hh with rfl|⟨r,hr,rfl⟩
  ·omega
  ·exact(ho r hr).2.2.2
 ·exact Eb (Ub _ _) (by omega)
 ·intro one Rz
  have:=((Rk (xss:=ms.map vals) rfl one).mp (jc.mp Rz).1).1;rw[this,ja];exact hms
 ·intro one Rz
  have hk:Je one xg=Je one (rf v l1 d1 l2 d2 oth):=by
   rcases ht with rfl|rfl
   ·rfl
   ·exact bt
  rw[hk];have:one∈Tl ms (rf v l1 d1 l2 d2 oth)↔Je one (rf v l1 d1 l2 d2 oth)=true:=by
   unfold Tl;rw[jc];exact⟨λh=>h.2,λh=>⟨Rz,h⟩⟩
  by_cases q:Je one (rf v l1 d1 l2 d2 oth)=true
  ·rw[q];exact(decide_eq_true (this.mpr q)).symm
  ·rw[zh]at q
   rw[q];exact(decide_eq_false λz=>by rw[this.mp z]at q;cases q).symm
 ·intro one D
  unfold Tl;rw[jc,EC];exact⟨λh=>h.2,λh=>⟨XD D,h⟩⟩
end
section
variable {σ Ca:St} {ms:List Nat} {nv:Nat} {scr:Nat->Option (List Int)} {n:Nat} {rs:List fh}
theorem ki.keep {f c at_:Nat} {cells:List Int} (F:ki σ f c at_ cells) {W:List Nat} (k:ib W σ Ca) (h1:f∉W) (h2:c∉W):ki Ca f c at_ cells:=⟨k.old _ _ F.hf h1,k.old _ _ F.hc h2⟩
theorem EE {f c at_:Nat} {cells:List Int} {v0:V} (F:ki σ f c at_ cells) (hnv:nv<=3) (hn:1<=n):
 ∃Ca ms at',re 5000 (.st (gd 0 (nv:Nat))) 0 (Ec (Ga scr) (Oa (Ga scr) yb n) 2 (.var 17) [] [] (.bin .Add (.int 1) (.call (.con (.ref 444)) [(.var 1),(.int 7)])) [aa v0,aa (.ref f),aa (.int nv),ba,ba,ba,ba,ba,ba,ba,ba,ba,ba,ba,ba,ba]) σ=aa (pd ms,Ca)/\ki Ca f c at' cells/\ib [f] σ Ca/\ms.length=nv/\∀m∈ms,0<m/\m<8:=by
 obtain⟨out,Ja,e1,ms,at',rfl,F1,K,hl,hm⟩:=pf (xs:=gd 0 (nv:Nat)) (it:=.st (gd 0 (nv:Nat))) (σ:=σ)
  (F:=Ec (Ga scr) (Oa (Ga scr) yb n) 2 (.var 17) [] [] (.bin .Add (.int 1) (.call (.con (.ref 444)) [(.var 1),(.int 7)])) [aa v0,aa (.ref f),aa (.int nv),ba,ba,ba,ba,ba,ba,ba,ba,ba,ba,ba,ba,ba])
  (λk Cc τ=>∃ms at',Cc=pd ms/\ki τ f c at' cells/\ib [f] σ τ/\ms.length=k/\∀m∈ms,0<m/\m<8)
  (λ_ _ _ _ _=>rfl)
  (λk v Cc τ hv ⟨ms,at',lh,F,K,hl,hm⟩=>by
   rw[gf]at hv
   split at hv<;>cases hv
   obtain⟨d,Re,hd,ed,F1,K1⟩:=Si (scr:=scr) (n:=n) (wide:=7) F (by omega) hn;have c7:((7:Nat):Int)=7:=rfl;rw[c7]at ed;have bp:Cf .Add (.int 1) (.int d) Re=aa (.int ((d+1:Nat):Int),Re):=by
    show aa (V.int _,Re)=_
    congr 3;omega
   refine⟨[.int ((d+1:Nat):Int)],Re,?_,ms++[d+1],_,by rw[lh];simp[pd],F1,K.trans K1,by simp[hl],λm h=> ?_⟩
   ·simp only[Ec,yd,Aa,wb,Db,EV,LS,Uc (scr:=scr) (a:=444) rfl,ed,bp]
   ·rcases db.mp h with q|q
    ·exact hm m q
    ·simp at q;omega)
  (by rw[jd];omega) ⟨[],at_,rfl,F,.refl,rfl,by simp⟩
 rw[jd]at hl;exact⟨Ja,ms,at',e1,F1,K,hl,hm⟩
theorem DE {cf:Nat->List V->St->Option (V×St)} {m:Nat} {p0 p1 p2 p3:Option V} (h0:0<m) (h8:m<8):
 re 5000 (.st (gd 0 3)) 0 (Ec (Ga scr) cf 2 (.var 19) [(.base (.cmp .Eq (.bin .Mod (.bin .FloorDiv (.var 17) (.bin .Pow (.int 2) (.var 19))) (.int 2)) (.int 1)))] [] (.var 19) [p0,p1,p2,p3,ba,ba,ba,ba,ba,ba,ba,ba,ba,ba,ba,ba,ba,aa (.int (m:Int))]) σ=aa (iL (vals m),σ):=by
 have h1:m=1\/m=2\/m=3\/m=4\/m=5\/m=6\/m=7:=by omega
 rcases h1 with rfl|rfl|rfl|rfl|rfl|rfl|rfl<;>rfl
theorem zE {f mk:Nat} {v0:V} (hmk:σ[mk]? =aa (.list (pd ms))) (hm8:∀m∈ms,0<m/\m<8) (dp:ms.length<=3):
 ∃Ca il,re 5000 (.dyn mk) 0 (Ec (Ga scr) (Oa (Ga scr) yb n) 2 (.var 17) [] [] (.comp 2 (.call (.con (.type "range")) [(.int 3)]) (.var 19) [(.base (.cmp .Eq (.bin .Mod (.bin .FloorDiv (.var 17) (.bin .Pow (.int 2) (.var 19))) (.int 2)) (.int 1)))] [] (.var 19)) [aa v0,aa (.ref f),aa (.int nv),aa (.ref mk),ba,ba,ba,ba,ba,ba,ba,ba,ba,ba,ba,ba]) σ=aa (fk V.ref il,Ca)/\ib [] σ Ca/\il.length=ms.length/\
  (∀(k a m:Nat),il[k]? =aa a->ms[k]? =aa m->Ca[a]? =aa (.list (iL (vals m)))):=by
 obtain⟨out,Ja,e1,il,rfl,hl,K,hat⟩:=pf (xs:=pd ms) (it:=.dyn mk) (σ:=σ)
  (F:=Ec (Ga scr) (Oa (Ga scr) yb n) 2 (.var 17) [] [] (.comp 2 (.call (.con (.type "range")) [(.int 3)]) (.var 19) [(.base (.cmp .Eq (.bin .Mod (.bin .FloorDiv (.var 17) (.bin .Pow (.int 2) (.var 19))) (.int 2)) (.int 1)))] [] (.var 19)) [aa v0,aa (.ref f),aa (.int nv),aa (.ref mk),ba,ba,ba,ba,ba,ba,ba,ba,ba,ba,ba,ba])
  (λk Cc τ=>∃il:List Nat,Cc=il.map V.ref/\il.length=k/\ib [] σ τ/\∀(j a m:Nat),il[j]? =aa a->ms[j]? =aa m->τ[a]? =aa (.list (iL (vals m))))
  (λk Cc τ ⟨_,_,_,K,_⟩ _=>se (K.old _ _ hmk (by simp)))
  (λk v Cc τ hv ⟨il,lh,hl,K,hat⟩=>by
   unfold pd at hv;rw[za]at hv;cases hk:ms[k]? with
   |none=>rw[hk]at hv;cases hv
   |some m=>
    rw[hk]at hv;cases hv;have ww:=hm8 m (ma hk);have hr:=DE (scr:=scr) (cf:=Oa (Ga scr) yb n) (σ:=τ) (p0:=aa v0) (p1:=aa (.ref f)) (p2:=aa (.int nv)) (p3:=aa (.ref mk)) ww.1 ww.2;have hvl:=Mh (m:=m);have ak:=Ab (xs:=iL (vals m)) (σ:=τ) (by rw[ja];omega);have xw:=xe (σ:=τ) (b:=3) (by omega);have vw:=Ie (σ:=τ) (b:=3) (by omega);refine⟨[.ref τ.length],τ++[.list (iL (vals m))],?_,il++[τ.length],by rw[lh];simp,by simp[hl],K.trans (ib.app _),λj a m' h1 h2=> ?_⟩
    ·unfold Ec
     simp only[yd,Aa,wb,Db,LS,mj,Og,ig,Nf,uh,Te,Qf,Fm,vc,xw,vw,hr,ak]
    ·by_cases q:j<il.length
     ·rw[ta q]at h1
      exact ub (hat j a m' h1 h2)
     ·have hj:j=k:=by
       have:=(ca.mp h1).1;simp at this;omega
      subst hj;rw[Ra (by omega),hl]at h1;simp at h1;subst h1;rw[hk]at h2;cases h2;exact vb)
  (by unfold pd;rw[ja];omega) ⟨[],rfl,rfl,.refl,λj a m h=>by simp at h⟩
 have hlen:(pd ms).length=ms.length:=by unfold pd;simp
 rw[hlen]at hl;exact⟨Ja,il,e1,K,hl,hat⟩
theorem xG {f c at_ R:Nat} {cells:List Int} {v0 v2 v3 v5:V} {v:Int} (F:ki σ f c at_ cells) (hR:σ[R]? =aa (.list [])) (hRf:R≠f) (hRc:R≠c) (hn:1<=n):
 ∃(Ca:St) (o7 o8:Option V) (l1 d1 l2 d2 at':Nat),Ye 5000 (.st (gd 0 2)) 0 (Ce (Ga scr) (Oa (Ga scr) yb n) (.var 7) [.assign (.var 8) (.call (.con (.ref 444)) [(.var 1),(.int 3)]),.expr (.meth (.var 6) "append" [(.tup [(.var 4),(.var 8),(.bin .Add (.var 8) (.call (.con (.ref 444)) [(.var 1),(.int 3)]))])])]) [aa v0,aa (.ref f),aa v2,aa v3,aa (.int v),aa v5,aa (.ref R),ba,ba,ba,ba,ba,ba,ba,ba,ba] σ
  =aa (.next,[aa v0,aa (.ref f),aa v2,aa v3,aa (.int v),aa v5,aa (.ref R),o7,o8,ba,ba,ba,ba,ba,ba,ba],Ca)/\ki Ca f c at' cells/\ib [f,R] σ Ca/\Ca[R]? =aa (.list (rc (rf v l1 d1 l2 d2 ba))):=by
 have L:=Xe (xs:=gd 0 2) (it:=.st (gd 0 2)) (me:=[aa v0,aa (.ref f),aa v2,aa v3,aa (.int v),aa v5,aa (.ref R),ba,ba,ba,ba,ba,ba,ba,ba,ba]) (σ:=σ)
  (F:=Ce (Ga scr) (Oa (Ga scr) yb n) (.var 7) [.assign (.var 8) (.call (.con (.ref 444)) [(.var 1),(.int 3)]),.expr (.meth (.var 6) "append" [(.tup [(.var 4),(.var 8),(.bin .Add (.var 8) (.call (.con (.ref 444)) [(.var 1),(.int 3)]))])])])
  (λk me τ=>∃(o7 o8:Option V) (at':Nat) (rs:List fh),me=[aa v0,aa (.ref f),aa v2,aa v3,aa (.int v),aa v5,aa (.ref R),o7,o8,ba,ba,ba,ba,ba,ba,ba]/\ki τ f c at' cells/\ib [f,R] σ τ/\τ[R]? =aa (.list (rc rs))/\rs.length=k/\∀r∈rs,∃l d:Nat,r=(v,(l:Int),(l:Int)+(d:Int)))
  (λ_ _ _ _ _=>rfl)
  (λk u me τ hv ⟨o7,o8,at',rs,Wg,F,K,hR,Gn,hrs⟩=>by
   subst Wg;obtain⟨l,Re,hl,e1,F1,K1⟩:=Si (scr:=scr) (n:=n) (wide:=3) F (by omega) hn;obtain⟨d,Of,hd,e2,F2,K2⟩:=Si (scr:=scr) (n:=n) (wide:=3) F1 (by omega) hn;have c3:((3:Nat):Int)=3:=rfl;rw[c3]at e1 e2;have hR1:=K1.old _ _ hR (by simpa using hRf);have hR2:=K2.old _ _ hR1 (by simpa using hRf);have bp:Cf .Add (.int l) (.int d) Of=aa (.int ((l:Int)+d),Of):=rfl;have hk2:k<2:=by
    have:=(ca.mp hv).1
    simpa [gd,Jj]using this
   have hap:Lr R "append" [.tup [.int v,.int l,.int ((l:Int)+d)]] Of=aa (.none,Of.set R (.list (rc (rs++[(v,(l:Int),(l:Int)+d)])))):=by
    rw[cg hR2 (by unfold rc;rw[ja];omega)];simp[rc]
   have hnt:=ac (xs:=[.int v,.int l,.int ((l:Int)+d)]) (σ:=Of) (by simp);refine⟨[aa v0,aa (.ref f),aa v2,aa v3,aa (.int v),aa v5,aa (.ref R),aa u,aa (.int l),ba,ba,ba,ba,ba,ba,ba],Of.set R (.list (rc (rs++[(v,(l:Int),(l:Int)+d)]))),?_,aa u,aa (.int l),_,rs++[(v,(l:Int),(l:Int)+d)],rfl,⟨ua F2.hf hRf,ua F2.hc hRc⟩,((K.trans (K1.mono λi hi=>.inl (by simp at hi|-;simp[hi]))).trans (K2.mono λi hi=>.inl (by simp at hi|-;simp[hi]))).trans (ib.set _ (by simp)),Ob hR2,by simp[Gn],λr hr=> ?_⟩
   ·unfold Ce
    rw[be (by simp)];simp only[EV,LS,Uc (scr:=scr) (a:=444) rfl,e1,Nat.reduceAdd,Nat.reduceLT,if_true,Ld hR1,e2,bp,hnt,Wc,hap]
   ·rcases db.mp hr with q|q
    ·exact hrs r q
    ·simp at q;exact⟨l,d,q⟩)
  (by simp[gd,Jj]) ⟨ba,ba,at_,[],rfl,F,.refl,by simpa [rc]using hR,rfl,by simp⟩
 obtain⟨Qb,Ca,e,o7,o8,at',rs,rfl,F',K',hR',Gn,hrs⟩:=L;have hrl2:rs.length=2:=by rw[Gn];simp[gd,Jj]
 match rs,hrl2 with
 | [r1,r2],_=>
  obtain⟨l1,d1,h1⟩:=hrs r1 (by simp);obtain⟨l2,d2,h2⟩:=hrs r2 (by simp);refine⟨Ca,o7,o8,l1,d1,l2,d2,at',e,F',K',?_⟩;rw[hR',h1,h2];rfl
end
end Mine
namespace Mine
section
variable {σ Ca:St} {ms:List Nat} {nv:Nat} {scr:Nat->Option (List Int)} {n:Nat} {rs:List fh}
theorem Uz {i:Nat} {x y z:V} (h:σ[i]? =aa (.list [x,y])):Lr i "insert" [.int 1,z] σ=aa (.none,σ.set i (.list [x,z,y])):=by
 unfold Lr;rw[Pb h];simp only[];rw[if_neg (by decide),if_neg (by decide),if_pos trivial,if_pos (by simp[xh,yh])]
 rfl
theorem tz {T R:Nat} {me:Me} (Wg:me.length=16) (h6:me[6]? =aa (aa (.ref R))) (hT:σ[T]? =aa (.list (Xc (Fg (ms.map vals))))) (dp:ms.length<=3) (hR:σ[R]? =aa (.list (rc rs))) (Gn:rs.length<=10) (hn:1<=n):
 ∃Ca,re 5000 (.dyn T) 0 (Ec (Ga scr) (Oa (Ga scr) yb n) 2 (.var 17) [(.base (.call (.con (.ref 461)) [(.var 17),(.var 6)]))] [] (.var 17) me) σ=aa (Xc (Tl ms rs),Ca)/\ib [] σ Ca:=by
 have hpl:(Fg (ms.map vals)).length<=27:=by
  have h1:=Tk (xss:=ms.map vals) (λxs hx=>by obtain⟨m,_,rfl⟩:=Bb.mp hx;exact Mh);have h2:(ms.map vals).length<=3:=by rw[ja];omega
  exact Eb h1 (Eb (ag (by omega) h2) (by omega))
 obtain⟨out,Ja,e1,Yl,K⟩:=pf (xs:=Xc (Fg (ms.map vals))) (it:=.dyn T) (σ:=σ)
  (F:=Ec (Ga scr) (Oa (Ga scr) yb n) 2 (.var 17) [(.base (.call (.con (.ref 461)) [(.var 17),(.var 6)]))] [] (.var 17) me)
  (λk Cc τ=>Cc=Xc (((Fg (ms.map vals)).take k).filter λone=>Je one rs)/\ib [] σ τ)
  (λk Cc τ ⟨_,K⟩ _=>se (K.old _ _ hT (by simp)))
  (λk v Cc τ hv ⟨lh,K⟩=>by
   unfold Xc at hv;rw[za]at hv;cases ho:(Fg (ms.map vals))[k]? with
   |none=>rw[ho]at hv;cases hv
   |some one=>
    rw[ho]at hv;cases hv;have Jr:=((Rk (xss:=ms.map vals) rfl one).mp (ma ho)).1;rw[ja]at Jr;obtain⟨Yh,ek,Kk⟩:=xE (scr:=scr) (n:=n) (one:=one) (K.old _ _ hR (by simp)) (by omega) Gn hn;have g1:(me++[ba,ba])[17]? =aa ba:=by rw[Ra (by omega),Wg];rfl
    have g2:((me++[ba,ba]).set 17 (aa (V.tup (iL one))))[17]? =aa (aa (.tup (iL one))):=fb (by simp;omega);have g3:((me++[ba,ba]).set 17 (aa (V.tup (iL one))))[6]? =aa (aa (.ref R)):=by rw[Na (by omega),ta (by omega)];exact h6
    refine⟨if Je one rs then[.tup (iL one)]else[],Yh,?_,?_,K.trans Kk⟩
    ·unfold Ec
     simp only[yd,Aa,g1,Ls,mj,lj,Nf,uh,Te,Qf,Oe,g2,g3,Uc (scr:=scr) (a:=461) rfl,ek];cases Je one rs
     ·rfl
     ·simp only[Og,Oe,g2,if_true]
    ·rw[lh,Yb,ho]
     simp only[Ff,dk,Vd,zj,Xc,bc];cases Je one rs<;>rfl)
  (by unfold Xc;rw[ja];omega) ⟨rfl,.refl⟩
 have hlen:(Xc (Fg (ms.map vals))).length=(Fg (ms.map vals)).length:=by unfold Xc;simp
 rw[hlen,Xd]at Yl;exact⟨Ja,by rw[e1,Yl];rfl,K⟩
theorem TG {i s:Nat} (h:σ[i]? =aa (.list [.str "<=",.str ">=",.str "!=",.str "="])) (hs:s<4):Qe (.ref i) (.int s) σ=aa (.str (ZE s)):=by
 refine Tf h ?_;have:s=0\/s=1\/s=2\/s=3:=by omega
 rcases this with rfl|rfl|rfl|rfl<;>rfl
theorem aK {l:Nat} {xs:List Int} (hscr:scr l=aa xs):∃σ,Oa (Ga scr) yb 12 481 [.con (.ref l)] []=aa (.bool true,σ):=by
 have hn:9<=11:=by omega
 have c3:((3:Nat):Int)=3:=rfl;have c2:((2:Nat):Int)=2:=rfl;have c4:((4:Nat):Int)=4:=rfl;have hc3:rh (Ga scr) (Oa (Ga scr) yb 11) (.con (.ref 444))=Oa (Ga scr) yb 11 444:=by funext args σ;exact Uc (scr:=scr) (a:=444) rfl
 have hcut:pr (Ga scr) (.con (.ref l)) 16 []=aa (.ref 0,[.list (iL (xs.take 16))]):=by
  have h1:(Ga scr).scr l=aa xs:=hscr;have h2:=Ab (xs:=iL (xs.take 16)) (σ:=[]) (by simp;omega);unfold pr;simp only[h1];rw[if_pos (by omega)];exact h2
 have hdict:th [.str "cells",.str "at"] [.ref 0,.int 0] [.list (iL (xs.take 16))]=aa (.ref 1,[.list (iL (xs.take 16)),.sdict [("cells",.ref 0),("at",.int 0)]]):=by
  unfold th;simp only[];rw[if_neg (by decide)];rfl
 have F1:ki [O.list (iL (xs.take 16)),.sdict [("cells",.ref 0),("at",.int 0)]] 1 0 0 (xs.take 16):=⟨rfl,rfl⟩;have s1:Vf (Ga scr) (Oa (Ga scr) yb 11) (.assign (.var 1) (.dict [(.str "cells"),(.str "at")] [(.cut (.var 0) 16),(.int 0)])) [aa (.con (.ref l)),ba,ba,ba,ba,ba,ba,ba,ba,ba,ba,ba,ba,ba,ba,ba] []
  =aa (.next,[aa (.con (.ref l)),aa (.ref 1),ba,ba,ba,ba,ba,ba,ba,ba,ba,ba,ba,ba,ba,ba],[O.list (iL (xs.take 16)),.sdict [("cells",.ref 0),("at",.int 0)]]):=by
  simp only[EV,LS,hcut,hdict,Nat.reduceAdd,Nat.reduceLT,if_true]
 have len1:2<=([O.list (iL (xs.take 16)),.sdict [("cells",.ref 0),("at",.int 0)]]:St).length:=by simp
 generalize ([O.list (iL (xs.take 16)),.sdict [("cells",.ref 0),("at",.int 0)]]:St)=Ja at*
 generalize xs.take 16=cells at*
 obtain⟨d2,Cb,hd2,e2,F2,K2⟩:=Si (scr:=scr) (n:=11) (wide:=3) F1 (by omega) (by omega);rw[c3]at e2;have hadd2:Cf .Add (.int 1) (.int d2) Cb=aa (.int ((d2+1:Nat):Int),Cb):=by
  show aa (V.int _,Cb)=_
  congr 3;omega
 have s2:Vf (Ga scr) (Oa (Ga scr) yb 11) (.assign (.var 2) (.bin .Add (.int 1) (.call (.con (.ref 444)) [(.var 1),(.int 3)]))) [aa (.con (.ref l)),aa (.ref 1),ba,ba,ba,ba,ba,ba,ba,ba,ba,ba,ba,ba,ba,ba] Ja
  =aa (.next,[aa (.con (.ref l)),aa (.ref 1),aa (.int ((d2+1:Nat):Int)),ba,ba,ba,ba,ba,ba,ba,ba,ba,ba,ba,ba,ba],Cb):=by
  simp only[EV,LS,Uc (scr:=scr) (a:=444) rfl,e2,hadd2,Nat.reduceAdd,Nat.reduceLT,if_true]
 have hnv:1<=d2+1/\d2+1<=3:=by omega
 generalize d2+1=nv at*
 have len2:2<=Cb.length:=Eb len1 K2.len;obtain⟨ae,ms,a3,e3,F3,K3,dp,hm8⟩:=EE (scr:=scr) (n:=11) (nv:=nv) (v0:=.con (.ref l)) F2 hnv.2 (by omega);have hrg2:=xe (σ:=Cb) (b:=(nv:Nat)) (by omega);have hir2:=Ie (σ:=Cb) (b:=(nv:Nat)) (by omega);have nl3:=Ab (xs:=pd ms) (σ:=ae) (by unfold pd;rw[ja];omega);have s3:Vf (Ga scr) (Oa (Ga scr) yb 11) (.assign (.var 3) (.comp 2 (.call (.con (.type "range")) [(.var 2)]) (.var 17) [] [] (.bin .Add (.int 1) (.call (.con (.ref 444)) [(.var 1),(.int 7)])))) [aa (.con (.ref l)),aa (.ref 1),aa (.int nv),ba,ba,ba,ba,ba,ba,ba,ba,ba,ba,ba,ba,ba] Cb
  =aa (.next,[aa (.con (.ref l)),aa (.ref 1),aa (.int nv),aa (.ref ae.length),ba,ba,ba,ba,ba,ba,ba,ba,ba,ba,ba,ba],ae++[.list (pd ms)]):=by
  simp only[gg,ig,Nf,uh,Te,Qf,Oe,LS,vc,hrg2,hir2,e3,nl3,nj,Nat.reduceAdd,Nat.reduceLT,if_true]
 have hmk:=vb (σ:=ae) (o:=.list (pd ms));have len3:2<=ae.length:=Eb len2 K3.len;have F4:ki (ae++[.list (pd ms)]) 1 0 a3 cells:=F3.keep (ib.app (W:=[]) _) (by simp) (by simp);have len4:2<=(ae++[O.list (pd ms)]).length:=by simp;omega
 generalize hmkA:ae.length=mk at*
 generalize ae++[O.list (pd ms)]=dh at*
 obtain⟨ci,il,e5,K5,hlal,hlat⟩:=zE (scr:=scr) (n:=11) (nv:=nv) (f:=1) (v0:=.con (.ref l)) hmk hm8 (by omega);have nl5:=Ab (xs:=il.map V.ref) (σ:=ci) (by rw[ja];omega);have s4:Vf (Ga scr) (Oa (Ga scr) yb 11) (.assign (.var 5) (.comp 2 (.var 3) (.var 17) [] [] (.comp 2 (.call (.con (.type "range")) [(.int 3)]) (.var 19) [(.base (.cmp .Eq (.bin .Mod (.bin .FloorDiv (.var 17) (.bin .Pow (.int 2) (.var 19))) (.int 2)) (.int 1)))] [] (.var 19)))) [aa (.con (.ref l)),aa (.ref 1),aa (.int nv),aa (.ref mk),ba,ba,ba,ba,ba,ba,ba,ba,ba,ba,ba,ba] dh
  =aa (.next,[aa (.con (.ref l)),aa (.ref 1),aa (.int nv),aa (.ref mk),ba,aa (.ref ci.length),ba,ba,ba,ba,ba,ba,ba,ba,ba,ba],ci++[.list (il.map V.ref)]):=by
  simp only[gg,ig,Oe,LS,Oc hmk,e5,nl5,nj,Nat.reduceAdd,Nat.reduceLT,if_true]
 have F6:ki (ci++[.list (il.map V.ref)]) 1 0 a3 cells:=(F4.keep K5 (by simp) (by simp)).keep (ib.app (W:=[]) _) (by simp) (by simp);have len5:2<=ci.length:=Eb len4 K5.len;have LI6:tn (ci++[.list (il.map V.ref)]) ci.length il ms:=⟨vb,hlal,λk a m h1 h2=>ub (hlat k a m h1 h2)⟩;have len6:2<=(ci++[O.list (il.map V.ref)]).length:=by simp;omega
 generalize hLA:ci.length=L at*
 generalize ci++[O.list (il.map V.ref)]=Io at*
 obtain⟨v,Nn,hv,e7,F7,K7⟩:=Si (scr:=scr) (n:=11) (wide:=3) F6 (by omega) (by omega);rw[c3]at e7;have s5:Vf (Ga scr) (Oa (Ga scr) yb 11) (.assign (.var 4) (.call (.con (.ref 444)) [(.var 1),(.int 3)])) [aa (.con (.ref l)),aa (.ref 1),aa (.int nv),aa (.ref mk),ba,aa (.ref L),ba,ba,ba,ba,ba,ba,ba,ba,ba,ba] Io
  =aa (.next,[aa (.con (.ref l)),aa (.ref 1),aa (.int nv),aa (.ref mk),aa (.int v),aa (.ref L),ba,ba,ba,ba,ba,ba,ba,ba,ba,ba],Nn):=by
  simp only[EV,LS,Uc (scr:=scr) (a:=444) rfl,e7,Nat.reduceAdd,Nat.reduceLT,if_true]
 have hlist:∀{τ:St} {W:List Nat},ib W Io τ->(∀a∈W,a=1\/Io.length<=a)->tn τ L il ms:=λ{τ W} k h=>by
  have hW:∀a o,Io[a]? =aa (O.list o)->a∉W:=λa o e q=>by
   rcases h a q with z|z
   ·subst z;rw[F6.hf]at e;cases e
   ·have:=Ic e;omega
  exact⟨k.old _ _ LI6.hl (hW _ _ LI6.hl),LI6.len,λj a m h1 h2=>k.old _ _ (LI6.at_ j a m h1 h2) (hW _ _ (LI6.at_ j a m h1 h2))⟩
 have len7:Io.length<=Nn.length:=K7.len;have nl8:=Ab (xs:=[]) (σ:=Nn) (by simp);have s6:Vf (Ga scr) (Oa (Ga scr) yb 11) (.assign (.var 6) (.list [])) [aa (.con (.ref l)),aa (.ref 1),aa (.int nv),aa (.ref mk),aa (.int v),aa (.ref L),ba,ba,ba,ba,ba,ba,ba,ba,ba,ba] Nn
  =aa (.next,[aa (.con (.ref l)),aa (.ref 1),aa (.int nv),aa (.ref mk),aa (.int v),aa (.ref L),aa (.ref Nn.length),ba,ba,ba,ba,ba,ba,ba,ba,ba],Nn++[.list []]):=by
  simp only[EV,LS,nl8,Nat.reduceAdd,Nat.reduceLT,if_true]
 have F8:ki (Nn++[.list []]) 1 0 (a3+1) cells:=F7.keep (ib.app (W:=[]) _) (by simp) (by simp);have hR8:=vb (σ:=Nn) (o:=.list []);have K8:ib [1] Io (Nn++[.list []]):=K7.trans (ib.app _);have len8:Nn.length<(Nn++[O.list []]).length:=by simp
 generalize hRA:Nn.length=R at*
 generalize Nn++[O.list []]=ou at*
 obtain⟨Ar,o7,o8,l1,d1,l2,Uo,a9,e9,F9,K9,hR9⟩:=xG (scr:=scr) (n:=11) (v0:=.con (.ref l)) (v2:=.int nv) (v3:=.ref mk) (v5:=.ref L) (v:=(v:Int)) F8 hR8 (by omega) (by omega) (by omega);have hrgl:=xe (σ:=ou) (b:=2) (by omega);have hirl:=Ie (σ:=ou) (b:=2) (by omega);have s7:Vf (Ga scr) (Oa (Ga scr) yb 11) (.fors (.var 7) (.call (.con (.type "range")) [(.int 2)]) [.assign (.var 8) (.call (.con (.ref 444)) [(.var 1),(.int 3)]),.expr (.meth (.var 6) "append" [(.tup [(.var 4),(.var 8),(.bin .Add (.var 8) (.call (.con (.ref 444)) [(.var 1),(.int 3)]))])])]) [aa (.con (.ref l)),aa (.ref 1),aa (.int nv),aa (.ref mk),aa (.int v),aa (.ref L),aa (.ref R),ba,ba,ba,ba,ba,ba,ba,ba,ba] ou
  =aa (.next,[aa (.con (.ref l)),aa (.ref 1),aa (.int nv),aa (.ref mk),aa (.int v),aa (.ref L),aa (.ref R),o7,o8,ba,ba,ba,ba,ba,ba,ba],Ar):=by
  simp only[Ij,Nf,uh,Te,Qf,Fm,vc,hrgl,hirl,e9]
 have hR9':Ar[R]? =aa (.list [.tup [.int v,.int l1,.int (l1+d1)],.tup [.int v,.int l2,.int (l2+Uo)]]):=hR9;have r0:Qe (.ref R) (.int 0) Ar=aa (.tup [.int v,.int l1,.int (l1+d1)]):=Tf (k:=0) hR9' rfl;have r1:Qe (.ref R) (.int 1) Ar=aa (.tup [.int v,.int l2,.int (l2+Uo)]):=Tf (k:=1) hR9' rfl;have t1:∀a b c:V,∀τ,Qe (.tup [a,b,c]) (.int 1) τ=aa b:=λ_ _ _ _=>rfl;have t2:∀a b c:V,∀τ,Qe (.tup [a,b,c]) (.int 2) τ=aa c:=λ_ _ _ _=>rfl;have b1:∀a b:Int,∀τ,jh (.builtin "max") [.int a,.int b] τ=aa (.int (max a b),τ):=λ_ _ _=>rfl;have b2:∀a b:Int,∀τ,jh (.builtin "min") [.int a,.int b] τ=aa (.int (min a b),τ):=λ_ _ _=>rfl;have nt9:=ac (xs:=[.int v,.int (max (l1:Int) l2),.int (min ((l1:Int)+d1) ((l2:Int)+Uo))]) (σ:=Ar) (by simp);have nl9:=Ab (xs:=[.tup [.int v,.int (max (l1:Int) l2),.int (min ((l1:Int)+d1) ((l2:Int)+Uo))]]) (σ:=Ar) (by simp);have s8:Vf (Ga scr) (Oa (Ga scr) yb 11) (.assign (.var 9) (.list [(.tup [(.var 4),(.call (.con (.builtin "max")) [(.sub (.sub (.var 6) (.int 0)) (.int 1)),(.sub (.sub (.var 6) (.int 1)) (.int 1))]),(.call (.con (.builtin "min")) [(.sub (.sub (.var 6) (.int 0)) (.int 2)),(.sub (.sub (.var 6) (.int 1)) (.int 2))])])])) [aa (.con (.ref l)),aa (.ref 1),aa (.int nv),aa (.ref mk),aa (.int v),aa (.ref L),aa (.ref R),o7,o8,ba,ba,ba,ba,ba,ba,ba] Ar
  =aa (.next,[aa (.con (.ref l)),aa (.ref 1),aa (.int nv),aa (.ref mk),aa (.int v),aa (.ref L),aa (.ref R),o7,o8,aa (.ref Ar.length),ba,ba,ba,ba,ba,ba],Ar++[.list [.tup [.int v,.int (max (l1:Int) l2),.int (min ((l1:Int)+d1) ((l2:Int)+Uo))]]]):=by
  simp only[gg,Gm,Te,Qf,Vo,Oe,LS,Nf,uh,VA,Fm,r0,r1,t1,t2,Nb,b1,b2,nt9,nl9,nj,Nat.reduceAdd,Nat.reduceLT,if_true]
 have hSG:=vb (σ:=Ar) (o:=.list [.tup [.int v,.int (max (l1:Int) l2),.int (min ((l1:Int)+d1) ((l2:Int)+Uo))]]);have hR10:=ub (os:=[O.list [.tup [.int v,.int (max (l1:Int) l2),.int (min ((l1:Int)+d1) ((l2:Int)+Uo))]]]) hR9';have F10:ki (Ar++[.list [.tup [.int v,.int (max (l1:Int) l2),.int (min ((l1:Int)+d1) ((l2:Int)+Uo))]]]) 1 0 a9 cells:=F9.keep (ib.app (W:=[]) _) (by simp) (by simp);have hRl9:=Ic hR9';have K10:ib [1,R] Io (Ar++[.list [.tup [.int v,.int (max (l1:Int) l2),.int (min ((l1:Int)+d1) ((l2:Int)+Uo))]]]):=((K8.mono λi hi=>.inl (by simp at hi;simp[hi])).trans K9).trans (ib.app _);have len9:Io.length<=Ar.length:=Eb K8.len K9.len
 generalize hSGA:Ar.length=SG at*
 generalize Ar++[O.list [.tup [.int v,.int (max (l1:Int) l2),.int (min ((l1:Int)+d1) ((l2:Int)+Uo))]]]=Np at*
 obtain⟨fl,Cq,hfl,e11,F11,K11⟩:=Si (scr:=scr) (n:=11) (wide:=2) F10 (by omega) (by omega);rw[c2]at e11;have hR11:=K11.old _ _ hR10 (by simp;omega);have hSG11:=K11.old _ _ hSG (by simp;omega);have mid:∃(Ho:St) (o10:Option V) (a12:Nat) (oth:Option fh),Vf (Ga scr) (Oa (Ga scr) yb 11) (.ifs (.base (.cmp .Eq (.call (.con (.ref 444)) [(.var 1),(.int 2)]) (.int 1))) [.assign (.var 10) (.tup [(.bin .Mod (.bin .Add (.var 4) (.int 1)) (.int 3)),(.int 0),(.call (.con (.ref 444)) [(.var 1),(.int 3)])]),.expr (.meth (.var 6) "insert" [(.int 1),(.var 10)]),.expr (.meth (.var 9) "append" [(.var 10)])] []) [aa (.con (.ref l)),aa (.ref 1),aa (.int nv),aa (.ref mk),aa (.int v),aa (.ref L),aa (.ref R),o7,o8,aa (.ref SG),ba,ba,ba,ba,ba,ba] Np
  =aa (.next,[aa (.con (.ref l)),aa (.ref 1),aa (.int nv),aa (.ref mk),aa (.int v),aa (.ref L),aa (.ref R),o7,o8,aa (.ref SG),o10,ba,ba,ba,ba,ba],Ho)/\ki Ho 1 0 a12 cells/\ib [1,R,SG] Io Ho/\rx v oth/\Ho[R]? =aa (.list (rc (rf v l1 d1 l2 Uo oth)))/\Ho[SG]? =aa (.list (rc (ah v l1 d1 l2 Uo oth))):=by
  have Ka:ib [1,R,SG] Io Cq:=(K10.mono λi hi=>.inl (by simp only[Fa,Za,or_false]at hi|-;rcases hi with h|h<;>simp[h])).trans (K11.mono λi hi=>.inl (by simp at hi;simp[hi]))
  by_cases hf:fl=1
  ·subst hf
   obtain⟨h,Ho,hh,e12,F12,K12⟩:=Si (scr:=scr) (n:=11) (wide:=3) F11 (by omega) (by omega);rw[c3]at e12;have hR12:=K12.old _ _ hR11 (by simp;omega);have hSG12:=K12.old _ _ hSG11 (by simp;omega);have bp:Cf .Add (.int v) (.int 1) Cq=aa (.int ((v:Int)+1),Cq):=rfl;have hmod:Cf .Mod (.int ((v:Int)+1)) (.int 3) Cq=aa (.int (((v:Int)+1).fmod 3),Cq):=rfl;have hnt:=ac (xs:=[.int (((v:Int)+1).fmod 3),.int 0,.int h]) (σ:=Ho) (by simp);have hins:=Uz (z:=.tup [.int (((v:Int)+1).fmod 3),.int 0,.int h]) hR12;have hSGne:R≠SG:=by omega
   have hR13:=Ob (p:=.list [.tup [.int v,.int l1,.int (l1+d1)],.tup [.int (((v:Int)+1).fmod 3),.int 0,.int h],.tup [.int v,.int l2,.int (l2+Uo)]]) hR12;have hSG13:=ua (p:=.list [.tup [.int v,.int l1,.int (l1+d1)],.tup [.int (((v:Int)+1).fmod 3),.int 0,.int h],.tup [.int v,.int l2,.int (l2+Uo)]]) hSG12 hSGne;have F13:ki (Ho.set R (.list [.tup [.int v,.int l1,.int (l1+d1)],.tup [.int (((v:Int)+1).fmod 3),.int 0,.int h],.tup [.int v,.int l2,.int (l2+Uo)]])) 1 0 (a9+1+1) cells:=⟨ua F12.hf (by omega),ua F12.hc (by omega)⟩;have K13:ib [1,R,SG] Io (Ho.set R (.list [.tup [.int v,.int l1,.int (l1+d1)],.tup [.int (((v:Int)+1).fmod 3),.int 0,.int h],.tup [.int v,.int l2,.int (l2+Uo)]])):=(Ka.trans (K12.mono λi hi=>.inl (by simp at hi;simp[hi]))).trans (ib.set _ (by simp))
   generalize Ho.set R (.list [.tup [.int v,.int l1,.int (l1+d1)],.tup [.int (((v:Int)+1).fmod 3),.int 0,.int h],.tup [.int v,.int l2,.int (l2+Uo)]])=σ13 at*
   have hap:=cg hSG13 (v:=.tup [.int (((v:Int)+1).fmod 3),.int 0,.int h]) (by simp);have hoth:rx v (aa (((v:Int)+1).fmod 3,0,(h:Int))):=by
    intro r hr;cases hr;have key:∀v:Nat,v<3->((v:Int)+1).fmod 3≠(v:Int)/\(0<=((v:Int)+1).fmod 3/\((v:Int)+1).fmod 3<3):=by decide
    exact⟨(key v hv).1,(key v hv).2,rfl,by simp⟩
   refine⟨σ13.set SG (.list ([.tup [.int v,.int (max (l1:Int) l2),.int (min ((l1:Int)+d1) ((l2:Int)+Uo))]]++[.tup [.int (((v:Int)+1).fmod 3),.int 0,.int h]])),aa (.tup [.int (((v:Int)+1).fmod 3),.int 0,.int h]),_,aa (((v:Int)+1).fmod 3,0,(h:Int)),?_,⟨ua F13.hf (by omega),ua F13.hc (by omega)⟩,K13.trans (ib.set _ (by simp)),hoth,ua hR13 (de hSGne),Ob hSG13⟩;have hcmp:Zc .Eq (.int ((1:Nat):Int)) (.int 1) Cq=aa true:=rfl;simp only[EV,LS,Uc (scr:=scr) (a:=444) rfl,e11,hcmp,bp,hmod,e12,hnt,Nat.reduceAdd,Nat.reduceLT,if_true,Ld hR12,Wc,hins,Ld hSG13,hap]
  ·refine⟨Cq,ba,_,ba,?_,F11,Ka,(λr hr=>by cases hr),hR11,hSG11⟩
   have hcmp:Zc .Eq (.int (fl:Int)) (.int 1) Cq=aa false:=by rw[Ki];rw[decide_eq_false (by omega)]
   simp only[EV,LS,Uc (scr:=scr) (a:=444) rfl,e11,hcmp]
 obtain⟨Ho,o10,a12,oth,s9,F12,K12,hoth,hR12,hSG12⟩:=mid;have Jr:oth.toList.length<=1:=by cases oth<;>simp
 have LI12:=hlist K12 (λa ha=>by simp only[Fa,Za,or_false]at ha;rcases ha with rfl|rfl|rfl<;>omega);obtain⟨σ13,T,e13,K13,hT⟩:=Sv (scr:=scr) (n:=11) LI12 (by omega) (by omega);obtain⟨Xy,e14,K14⟩:=tz (scr:=scr) (n:=11) (me:=[aa (.con (.ref l)),aa (.ref 1),aa (.int nv),aa (.ref mk),aa (.int v),aa (.ref L),aa (.ref R),o7,o8,aa (.ref SG),o10,ba,ba,ba,ba,ba]) rfl rfl hT (by omega) (K13.old _ _ hR12 (by simp)) (by simp[rf];omega) (by omega);have Dn:(Tl ms (rf v l1 d1 l2 Uo oth)).length<=27:=by
  have h1:=Tk (xss:=ms.map vals) (λxs hx=>by obtain⟨m,_,rfl⟩:=Bb.mp hx;exact Mh);have h2:(ms.map vals).length<=3:=by rw[ja];omega
  have h3:=Eb h1 (Eb (ag (by omega) h2) (by omega:3^3<=27));exact Eb (Ub _ _) h3
 have nl14:=Ab (xs:=Xc (Tl ms (rf v l1 d1 l2 Uo oth))) (σ:=Xy) (by unfold Xc;rw[ja];omega);have s10:Vf (Ga scr) (Oa (Ga scr) yb 11) (.assign (.var 11) (.comp 2 (.call (.con (.ref 456)) [(.var 5)]) (.var 17) [(.base (.call (.con (.ref 461)) [(.var 17),(.var 6)]))] [] (.var 17))) [aa (.con (.ref l)),aa (.ref 1),aa (.int nv),aa (.ref mk),aa (.int v),aa (.ref L),aa (.ref R),o7,o8,aa (.ref SG),o10,ba,ba,ba,ba,ba] Ho
  =aa (.next,[aa (.con (.ref l)),aa (.ref 1),aa (.int nv),aa (.ref mk),aa (.int v),aa (.ref L),aa (.ref R),o7,o8,aa (.ref SG),o10,aa (.ref Xy.length),ba,ba,ba,ba],Xy++[.list (Xc (Tl ms (rf v l1 d1 l2 Uo oth)))]):=by
  simp only[gg,ig,Nf,uh,Te,Qf,Oe,LS,Uc (scr:=scr) (a:=456) rfl,e13,Oc hT,e14,nl14,nj,Nat.reduceAdd,Nat.reduceLT,if_true]
 have hAN:=vb (σ:=Xy) (o:=.list (Xc (Tl ms (rf v l1 d1 l2 Uo oth))));have K15:ib [] Ho (Xy++[.list (Xc (Tl ms (rf v l1 d1 l2 Uo oth)))]):=(K13.trans K14).trans (ib.app _);have len14:Ho.length<=Xy.length:=(K13.trans K14).len;have len12:Io.length<=Ho.length:=K12.len
 generalize hANA:Xy.length=AN at*
 generalize Xy++[O.list (Xc (Tl ms (rf v l1 d1 l2 Uo oth)))]=σ15 at*
 have F15:=F12.keep K15 (by simp) (by simp);have hR15:=K15.old _ _ hR12 (by simp);have hSG15:=K15.old _ _ hSG12 (by simp);obtain⟨x,σ16,hx,e16,F16,K16⟩:=Si (scr:=scr) (n:=11) (wide:=nv) F15 (by omega) (by omega);have nl16:=Ab (xs:=[.str "<=",.str ">=",.str "!=",.str "="]) (σ:=σ16) (by simp);have hq16:=vb (σ:=σ16) (o:=.list [.str "<=",.str ">=",.str "!=",.str "="]);have F17:ki (σ16++[.list [.str "<=",.str ">=",.str "!=",.str "="]]) 1 0 (a12+1) cells:=F16.keep (ib.app (W:=[]) _) (by simp) (by simp);have len16:Io.length<=σ16.length:=Eb (Eb len12 K15.len) K16.len;obtain⟨s,σ18,hs,e18,F18,K18⟩:=Si (scr:=scr) (n:=11) (wide:=4) F17 (by omega) (by omega);rw[c4]at e18;have hq18:=K18.old _ _ hq16 (by simp;omega);have hsg:=TG hq18 hs;obtain⟨k,cu,hk,e19,F19,K19⟩:=Si (scr:=scr) (n:=11) (wide:=3) F18 (by omega) (by omega);rw[c3]at e19;have nt19:uj [.int x,.str (ZE s),.int k] cu=aa (Vh x s k,cu):=ac (by simp);have s11:Vf (Ga scr) (Oa (Ga scr) yb 11) (.assign (.var 12) (.tup [(.call (.con (.ref 444)) [(.var 1),(.var 2)]),(.sub (.list [(.str "<="),(.str ">="),(.str "!="),(.str "=")]) (.call (.con (.ref 444)) [(.var 1),(.int 4)])),(.call (.con (.ref 444)) [(.var 1),(.int 3)])])) [aa (.con (.ref l)),aa (.ref 1),aa (.int nv),aa (.ref mk),aa (.int v),aa (.ref L),aa (.ref R),o7,o8,aa (.ref SG),o10,aa (.ref AN),ba,ba,ba,ba] σ15
  =aa (.next,[aa (.con (.ref l)),aa (.ref 1),aa (.int nv),aa (.ref mk),aa (.int v),aa (.ref L),aa (.ref R),o7,o8,aa (.ref SG),o10,aa (.ref AN),aa (Vh x s k),ba,ba,ba],cu):=by
  simp only[gg,Vo,Te,Qf,Nf,uh,Oe,LS,Uc (scr:=scr) (a:=444) rfl,e16,VA,Gm,bE,nl16,Fm,e18,hsg,e19,nt19,nj,Nat.reduceAdd,Nat.reduceLT,if_true]
 have K1519:ib [1] σ15 cu:=((K16.trans (ib.app _)).trans K18).trans K19;have hAN19:=K1519.old _ _ hAN (by simp;omega);have hR19:=K1519.old _ _ hR15 (by simp;omega);have hSG19:=K1519.old _ _ hSG15 (by simp;omega);have LI19:tn cu L il ms:=by
  have K619:ib [1,R,SG] Io cu:=(K12.trans (K15.mono λi hi=>by cases hi)).trans (K1519.mono λi hi=>.inl (by simp at hi;simp[hi]));exact hlist K619 (λa ha=>by simp only[Fa,Za,or_false]at ha;rcases ha with rfl|rfl|rfl<;>omega)
 obtain⟨Qb,σ20,e20,o13,o14,o15,rfl,K20⟩:=Xe (xs:=[V.ref R,.ref SG]) (it:=.st [V.ref R,.ref SG]) (me:=[aa (.con (.ref l)),aa (.ref 1),aa (.int nv),aa (.ref mk),aa (.int v),aa (.ref L),aa (.ref R),o7,o8,aa (.ref SG),o10,aa (.ref AN),aa (Vh x s k),ba,ba,ba]) (σ:=cu)
  (F:=Ce (Ga scr) (Oa (Ga scr) yb 11) (.var 13) jp)
  (λ_ me τ=>∃o13 o14 o15,me=[aa (.con (.ref l)),aa (.ref 1),aa (.int nv),aa (.ref mk),aa (.int v),aa (.ref L),aa (.ref R),o7,o8,aa (.ref SG),o10,aa (.ref AN),aa (Vh x s k),o13,o14,o15]/\ib [] cu τ)
  (λ_ _ _ _ _=>rfl)
  (λj u me τ hu ⟨o13,o14,o15,Wg,K⟩=>by
   subst Wg;have hT:∃T xg,u=.ref T/\cu[T]? =aa (.list (rc xg))/\(xg=rf v l1 d1 l2 Uo oth\/xg=ah v l1 d1 l2 Uo oth):=by
    match j with
    |0=>simp at hu;subst hu;exact⟨R,_,rfl,hR19,.inl rfl⟩
    |1=>simp at hu;subst hu;exact⟨SG,_,rfl,hSG19,.inr rfl⟩
    |j+2=>simp at hu
   obtain⟨T,xg,rfl,hT,htd⟩:=hT;have X:=SH (v:=(v:Int)) (l1:=l1) (d1:=d1) (l2:=l2) (d2:=Uo) (oth:=oth) (LI19.k0 K) dp hnv hm8 (K.old _ _ hAN19 (by simp)) (K.old _ _ hT (by simp)) htd (by omega) ⟨by omega,by omega⟩ ⟨by omega,by omega⟩ hoth;obtain⟨o14',o15',Yh,eb,Kb⟩:=cG (scr:=scr) (n:=11) (x:=x) (s:=s) (k:=(k:Int)) (v0:=.con (.ref l)) (v1:=.ref 1) (v3:=.ref mk) (v4:=.int v) (v6:=.ref R) (v9:=.ref SG) (o7:=o7) (o8:=o8) (o10:=o10) (o14:=o14) (o15:=o15) X hx hs (by omega) (by omega);refine⟨_,Yh,?_,aa (.ref T),o14',o15',rfl,K.trans Kb⟩;unfold Ce;rw[be (by simp)];simp only[LS];exact eb)
  (by simp) ⟨ba,ba,ba,rfl,.refl⟩
 have nt20:=ac (xs:=[V.ref R,.ref SG]) (σ:=cu) (by simp);have s12:Vf (Ga scr) (Oa (Ga scr) yb 11) (.fors (.var 13) (.tup [(.var 6),(.var 9)]) jp) [aa (.con (.ref l)),aa (.ref 1),aa (.int nv),aa (.ref mk),aa (.int v),aa (.ref L),aa (.ref R),o7,o8,aa (.ref SG),o10,aa (.ref AN),aa (Vh x s k),ba,ba,ba] cu
  =aa (.next,[aa (.con (.ref l)),aa (.ref 1),aa (.int nv),aa (.ref mk),aa (.int v),aa (.ref L),aa (.ref R),o7,o8,aa (.ref SG),o10,aa (.ref AN),aa (Vh x s k),o13,o14,o15],σ20):=by
  rw[Ij];simp only[Vo,Te,Qf,Oe,LS,nt20,te];exact e20
 refine⟨σ20,?_⟩;rw[Dc (n:=11) (fn:=HI) rfl,Bd [aa (.con (.ref l)),ba,ba,ba,ba,ba,ba,ba,ba,ba,ba,ba,ba,ba,ba,ba] rfl rfl];simp only[HI];rw[Ud,s1];simp only[];rw[Ud,s2];simp only[];rw[Ud,s3];simp only[];rw[Ud,s4];simp only[];rw[Ud,s5];simp only[];rw[Ud,s6];simp only[];rw[Ud,s7];simp only[];rw[Ud,s8];simp only[];rw[Ud,s9];simp only[];rw[Ud,s10];simp only[];rw[Ud,s11];simp only[];have s12':=s12;unfold jp at s12';rw[Ud,s12'];simp only[];simp only[EV]
end
end Mine
theorem PySem.Challenge.cw_nz0028_01_holds : PySem.Challenge.rw_nz0028_01.Holds :=
  Mine.YJ (Mine.lK fun l _ _ => Mine.aK (if_pos rfl : Mine.LB l _ l = _))
