import PyProof.Rows.All
import PySem.Value
import PyProof.StrCalls2
import PySem.Eval
import KE.KEqDict
import KE.KDictList
import PyProof.Rows.SortStr
import PyProof.Rows.SortRunsK
import KE.KSortTup
import KE.KLam
import Wide.All
import Open.Line
import Open.Pieces
import OpenK.KCall
import PySem.Challenge.RW_uf060007_12
set_option Elab.async false
set_option tactic.hygienic false
set_option bootstrap.genMatcherCode false
set_option linter.all false
set_option genInjectivity false
set_option genSizeOf false
set_option autoImplicit false
set_option maxRecDepth 100000
noncomputable section
open Option renaming some->À,none->Ã
open PySem renaming call->Á,wpAny_bind->Â,Value->Ä,Shared->Å,wpAny_pure->Ç,Addr->È,wpAny->É,wpAny_mono->Ï,Around->Ñ,Expr->Ó,Heap->Ô,wpAny_loadPart_at->Õ,starEach->Ø,mainGlobals->Û,wpAny_field->Þ,wpAny_holding->ß,Scope->à,wpAny_isSubtype_exc->á,wpAny_seqItems->ç,wpAny_newObj_type->è,codeAny_builtin->é,sizeLine->ê,cellsFrom->ì,recursionLimit->í,IsPair->î,wpAny_truthy_bool->ï,wpAny_callSpecial?_slot->ð,OsState->ò,rawInt->õ,Program->ö,GenState->ø,wpAny_rule->ú,wpAny_execs_cons->ü,wpAny_call_entry->ý,checkBuiltinCall->þ,wpAny_setField_rec->ā,wpAny_pyIter_tuple->Ă,typeLookup->ă,sysModules->Ą,builtinsNs->ą,wpAny_updateSeq->ć,NameKind->Ĉ,plainId_quiet->ĉ,codeAny_call_builtin->č,Stmt->đ,Builtin->Ē,wpAny_standAt->ĕ,wpAny_letGo->Ė,codeAmong->ė,wpAny_Return_some->ę,foldedSetIterable->Ě,bootBuiltins->ě,builtinLookup_eq_fast->Ĝ,TriplesOk->ĝ,codeAny->Ğ,unsupported->Ġ,wpAny_execs_nil->ġ,argBest->ĥ,wpAny_tryCatch->ħ,wpAny_setField->Ĩ,cameBackBy->ĩ,callEnvC->Ī,FuncData->ī,wpAny_pyIter_list->ı,wpAny_assign_Name->Ĳ,wpAny_attempt->ĳ,pyNext->Ĵ,backTo->ĵ,swapsWith->ķ,binaryOp->Ĺ,Arguments->ĺ,typeLookup_type->ł,letOwnedTupleGo->Ń,updateSeq->Ŏ,wpAny_setItem_pairs->ő,ExceptHandler->ŕ,wpAny_call->ř,wpAny_typeOf->Ş,wpAny_pyIter_zip->Ţ,noFill_tuple_add->ţ,wpAny_loadPart'->Ū,wpAny_list_append_plain->ϑ,wpAny_Call_method_lateS->ϒ
open Bool renaming true->Æ,false->Ê
open PyProof.Rows renaming Keyed->Ë,wpS_bind->Í,wpS_pure->Ð,SortSt->Ò,pendingOf->Ö,arrOf->Ú,wpS_forRange->ã,args_cons->å,seqObj->æ,failedOf->ë,IntsAre->ñ,recsOf->ô,wpS_modify->ù,Call_Name->ÿ,setPending->Č,args_nil->Ď,wpS_mono->Ę,wpS_get->İ,wpS_lift->Ķ,reverseSlice'_eq->ĸ,mergeAt'->Ŋ,reverseSlice'->œ,listUpdate_at->Ŕ,SortKind->Ÿ
open PySem.W renaming hideAll->Ŀ
open PySem.Calls renaming docDef->ŋ
open Nat renaming le_trans->z',lt_of_lt_of_le->Į,le_refl->ē,le_of_lt->Ģ,le_add_right->Ō,zero_le->į,ne_of_lt->Ł,le_of_eq->ň,lt_of_succ_lt->Ũ,ne_of_gt->ō,succ_le_succ->ŧ,lt_of_le_of_lt->Ŷ,not_lt->ľ,lt_of_le_of_ne->ż,lt_succ_self->ű,le_antisymm->Ű,le_succ_of_le->ϊ,min_eq_left->ų,lt_irrefl->Ŧ,le_of_lt_succ->ϐ,add_sub_cancel_left->ϵ,add_le_add_left->ϝ,add_assoc->ū,sub_le->Ś,add_le_add_right->Ϲ,add_right_comm->Ϭ,succ_pos->Ŵ,lt_succ_of_le->ϫ,pos_of_ne_zero->Ϸ,zero_add->ϋ,lt_add_of_pos_right->abV,one_pos->ź,max_eq_right->ab1,sub_pos_of_lt->ab5,le_of_ble_eq_true->ab6,add_le_add->ϭ,succ_ne_zero->acd,lt_succ_of_lt->acf,add_comm->ϙ,lt_trans->Ϙ,eq_zero_of_not_pos->aci,add_sub_cancel'->acj,min_le_left->acl,le_succ->ϓ,not_le->ϛ,sub_lt->Ϛ,le_of_add_le_add_left->acI,sub_self->acO,add_lt_add_right->acP,sub_add_cancel->acX,add_sub_cancel->acY,add_lt_of_lt_sub'->ac1,add_sub_add_right->ac3,add_sub_assoc->ac6,min_eq_right->adf,succ_lt_succ->adi,min_le_right->adj,add_left_cancel->adl,mul_le_mul_left->adn,not_lt_zero->adr,le_mul_of_pos_left->adH,lt_of_succ_lt_succ->adL,le_of_succ_le_succ->adM,sub_eq_zero_of_le->adO,le_of_sub_eq_zero->adR,le_max_right->adW,succ->ad0,not_succ_le_zero->ad1,sub_le_sub_left->ad7,max_le->aee,exists_eq_add_of_le->aet,lt_or_ge->aeA,eq_zero_of_le_zero->aeE,add_sub_add_left->aeK,add_right_cancel->aeL,sub_lt_sub_left->aeP,add_lt_add_left->aeQ,lt_of_lt_of_eq->aeX,eq_zero_or_pos->aeY,lt_or_eq_of_le->aeZ,beq->ae3,lt_trichotomy->ae4,min_comm->ae6,succ_sub_succ->ae8,sub_zero->ae9,min_self->afc,lt_add_right->afj,two_pos->afo,le_add_left->afs,zero_ne_one->afu,le_max_left->afv,le_min->afA,le_total->afG,zero_min->afH,add_zero->afJ,sub_sub->afO,le_zero->afP
open List renaming mem_cons_self->G',length_map->H',mem_cons_of_mem->J',getElem?_eq_getElem->N',mem_singleton->W',length_append->Ā,append_assoc->Ć,getElem?_eq_some_iff->ģ,mem_of_getElem?->Ĥ,mem_cons->ċ,getElem?_map->Ħ,mem_append->ğ,range->Đ,pairwise_cons->ŏ,append_nil->Ľ,length_range->Ŗ,mem_range->ń,take_append_drop->ũ,take_length->ŗ,mem_append_right->ů,mem_of_mem_take->Ů,getElem_mem->š,map_congr_left->ŭ,getElem?_append_left->ϖ,map_append->ŝ,replicate->ś,mem_append_left->ž,getElem?_append_right->Ϣ,map_cons->Œ,mem_filter->Š,getElem?_toArray->ύ,isEmpty_iff->Ų,size_toArray->ſ,length_take->ŷ,mem_map->ş,mem_of_mem_drop->Ϟ,length_eq_zero_iff->϶,of_mem_zip->Ź,pairwise_append->Ϧ,lookup_cons->Ϗ,contains_cons->Ϝ,getElem?_eq_none->ϳ,length_replicate->ϲ,drop_eq_getElem_cons->aby,map_map->Ŭ,getElem?_range->ϸ,nodup_cons->Ϡ,all_eq_true->Ϫ,mem_reverse->ϩ,length_filter_le->abS,foldl_cons->Ϯ,length_drop->ϻ,reverse_append->ab4,length_set->Ϻ,mem_iff_getElem->ab',reverse_reverse->aca,length_cons->acb,length_reverse->ack,extract_eq_take_drop->acn,getElem?_zip_eq_some->aco,mem_or_eq_of_mem_set->acp,not_mem_nil->acr,getElem?_set_ne->acu,reverse_perm->acw,pairwise_singleton->acx,mem_filterMap->acG,pairwise_iff_getElem->acH,length_zip->acL,take_sublist->acR,forall_mem_cons->acS,take_of_length_le->acW,pairwise_lt_range->acZ,mem_replicate->ac0,set_append_right->ac2,foldl_append->ac4,getElem?_of_mem->ac9,nodup_range->adk,filterMap_cons->adm,forIn_cons->adt,range_succ->adu,zip_cons_cons->adx,length->ady,toArray->adA,getElem?_set_self->adB,drop_eq_nil_of_le->adC,take_add_one->adD,nodup_nil->adE,forIn_nil->adF,drop_drop->adI,findIdx_lt_length_of_exists->adN,perm_append_comm->adQ,zipIdx_cons->adU,drop_length->adV,mem_flatMap->adY,length_take_le'->ad2,length_nil->ad5,replicate_succ->ad6,take_take->aea,map->aec,perm_ext_iff_of_nodup->aed,findSome?_eq_none_iff->aeg,getElem_take->ael,ext_getElem?->aem,pairwise_map->aeo,contains->aeq,getElem?_cons_succ->aer,cons_append->aes,isEmpty_nil->aeu,filter_cons->aev,getElem?_replicate->aew,length_eq_one_iff->aeC,pairwise_reverse->aeG,findSome?_append->aeH,take_zero->aeJ,findIdx_getElem->aeM,map_eq_nil_iff->aeO,mem_map_of_mem->aeR,flatMap_append->aeT,findSome?_cons->aeU,drop_nil->aeV,zip_nil_right->ae0,nodup_append->ae5,getElem_drop->afa,flatMap_cons->aff,cons_ne_nil->afh,perm_middle->afk,not_lt->afn,nil_append->aft,map_const'->afw,drop_take->afx,drop_zero->afy,take_nil->afD,map_drop->afF,map_set->afM,map_id->afQ
open PySem.Heap renaming get?_push_of_some->O',get?_push_size->ŀ,lt_size->Ő,get?_update_self->ϣ,get?_update_other->Ϩ,get?_none_of_le->abJ,size_push->ϕ,get?_update_ne->aeS,get?_push_at->afd,get?->afl
open Exists renaming elim->ä
open Int renaming natCast_nonneg->Ĕ,le_trans->Ċ,toNat_natCast->ĭ,le_antisymm->ņ,le_refl->Ĭ,ofNat_lt->Ř,ofNat_le->Ŝ,not_lt->ŉ,zero_add->ť,add_zero->Ť,toNat_of_nonneg->ϥ,sub_nonneg_of_le->ϱ,add_assoc->Ż,le_of_eq->ŵ,zero_mul->ό,add_nonneg->ϟ,lt_of_le_of_lt->abX,lt_of_lt_of_le->ab9,min_eq_right->acq,ofNat_sub->ϯ,mul_one->ϗ,add_le_add_right->acv,min_eq_left->acy,add_pos_of_nonneg_of_pos->acz,le_of_lt->ϰ,min_le_right->acC,min_le_left->acK,add_le_add_left->acT,one_mul->acU,lt_trans->acV,add_le_add->ada,le_of_lt_add_one->adc,le_add_of_nonneg_right->add,mul_zero->ade,max_eq_right->adg,le_total->adh,lt_irrefl->ado,le_max_left->ads,sub_add_cancel->adv,eq_ofNat_of_zero_le->adz,add_comm->adK,not_le->adS,le_max_right->adT,mul_le_mul_of_nonneg_right->adZ,mul_le_mul_of_nonneg_left->ad3,max_eq_left->ad4,add_lt_add_left->ad8,ofNat->ad9,add_sub_cancel->ad',mul_nonneg->aef,le_add_of_nonneg_left->aeh,le_add_of_sub_left_le->aei,mul_add->aej,lt_trichotomy->aek,self_le_toNat->aen,toNat_sub->aep,neg_eq_neg_one_mul->aex,toNat_le->aey,toNat_lt->aez,ne_of_gt->aeB,max_le->aeD,sub_le_sub_right->aeI,add_lt_add_right->aeN,lt_or_eq_of_le->ae1,add_left_comm->ae2,ediv_one->ae7,add_sub_assoc->ae',lt_toNat->afe,ediv_nonneg->afp,sub_le_sub->afz,mul_assoc->afC,sub_zero->afI,ne_of_lt->afL,add_mul->afN,neg->afR
open Or renaming elim->â
open Bool renaming and_eq_true_iff->Ņ,false_ne_true->Ļ,and_eq_true->Ň,not_eq_true'->ϔ,or_eq_true->ϡ,or_eq_true_iff->abR,false_eq_true->abY,or_eq_false_iff->acM,or_false->adp,true_and->adq,not_eq_false'->adw,eq_false_iff->adG,and_false->adJ,and_eq_false_iff->adP,not_eq_true->afg,noConfusion->afi,false_or->afE,or_true->afK
open Array renaming toList_append->Ž,length_toList->ώ,getElem?_toList->ϴ,getElem?_eq_some_iff->acE,getElem?_eq_getElem->acJ,toList_extract->acQ,toList_push->ac5,getElem?_setIfInBounds_self_of_lt->ac8,toArray_toList->ac',toList_reverse->adb,toList_setIfInBounds->aeb,toList->afb,size_push->afq
open Option renaming map_eq_some_iff->ϧ,isSome_iff_exists->abE,isNone_iff_eq_none->ab3,bind_some->ace,bind->Ϥ,isSome->aeW,getD->afm,map_some->afr,none_or->afB
open Classical renaming byContradiction->abK,choose_spec->aeF
open PySem.Str renaming ofString->acN,length_append->ac7,empty->adX
open Except renaming ok->afS
namespace L.Lake
universe uu
theorem N{α:Sort uu}{a:α}:a=a:=rfl
inductive ZT where
 |v (i:Nat)
 |n (k:Nat)
 |a (x y:ZT)
 |s (x y:ZT)
noncomputable def Yv:Nat->List Int->Int:=Nat.rec (λc=>c.headD 0) λz f c=>f c.tail
noncomputable def ZT.ev(c:List Int):ZT->Int
 |.v i=>Yv i c
 |.n k=>(k:Int)
 |.a x y=>x.ev c+y.ev c
 |.s x y=>x.ev c-y.ev c
noncomputable def pE(f:Int->Int):List Int->List Int->List Int
 |[],m=>m.map f
 |x::l,m=>(x+f (m.headD 0))::pE f l m.tail
noncomputable def fN:List Int->List Int->Int
 |[],_=>0
 |x::l,c=>x*c.headD 0+fN l c.tail
noncomputable def yf:Nat->List Int
 |0=>[1]
 |i+1=>0::yf i
noncomputable def ZT.nf:ZT->List Int
 |.v i=>0::yf i
 |.n k=>[(k:Int)]
 |.a x y=>pE id x.nf y.nf
 |.s x y=>pE afR x.nf y.nf
theorem Ip(k:Int)(f:Int->Int)(hf:∀x,f x=k*x)(m:List Int):∀c,fN (m.map f) c=k*fN m c:=by
 induction m with
 |nil=>intro c;exact(ade k).symm
 |cons x m ih=>intro c;show f x*c.headD 0+fN (m.map f) c.tail=k*(x*c.headD 0+fN m c.tail);rw[ih,hf,aej,afC]
theorem nP(k:Int)(f:Int->Int)(hf:∀x,f x=k*x)(l:List Int):∀m c,fN (pE f l m) c=fN l c+k*fN m c:=by
 induction l with
 |nil=>intro m c;exact(Ip k f hf m c).trans (ť _).symm
 |cons x l ih=>
  intro m c
  have e:fN m c=m.headD 0*c.headD 0+fN m.tail c.tail:=by
   cases m with
   |nil=>show (0:Int)=0*_+0;rw[ό];rfl
   |cons y m=>rfl
  show (x+f (m.headD 0))*c.headD 0+fN (pE f l m.tail) c.tail=(x*c.headD 0+fN l c.tail)+k*fN m c;rw[ih,hf,e,afN,aej,afC,Ż,Ż,ae2 (k*_)]
theorem Ea(i:Nat):∀c,fN (yf i) c=Yv i c:=by
 induction i with
 |zero=>intro c;show 1*c.headD 0+0=_;rw[acU,Ť];rfl
 |succ i ih=>intro c;show 0*c.headD 0+fN (yf i) c.tail=_;rw[ih,ό,ť];rfl
theorem ZT.nf_ev(c:List Int)(e:ZT):fN e.nf (1::c)=e.ev c:=by
 induction e with
 |v i=>show 0*1+fN (yf i) c=_;rw[Ea,ό,ť];rfl
 |n k=>show (k:Int)*1+0=_;rw[ϗ,Ť];rfl
 |a x y hx hy=>show fN (pE id x.nf y.nf) _=_;rw[nP 1 id (λx=>(acU x).symm),hx,hy,acU];rfl
 |s x y hx hy=>show fN (pE afR x.nf y.nf) _=_;rw[nP (-1) afR (λx=>aex x),hx,hy,<-aex];rfl
structure ZC where
 o:Nat
 l:ZT
 r:ZT
def ZC.den(c:List Int)(q:ZC):Prop:=[q.l.ev c<=q.r.ev c,q.l.ev c<q.r.ev c,q.l.ev c=q.r.ev c,q.l.ev c=q.r.ev c,¬ q.l.ev c<=q.r.ev c,¬ q.l.ev c<q.r.ev c].getD q.o False
noncomputable def ZC.t(q:ZC):ZT:=[.s q.r q.l,.s q.r (.a q.l (.n 1)),.s q.r q.l,.s q.l q.r,.s q.l (.a q.r (.n 1)),.s q.l q.r].getD q.o (.n 0)
theorem ZC.t_of(c:List Int)(q:ZC)(h:q.den c):0<=q.t.ev c:=by
 cases q with|mk o l r=>
 cases o with
 |zero=>exact ϱ h
 |succ o=>cases o with
  |zero=>exact ϱ h
  |succ o=>cases o with
   |zero=>exact ϱ (ŵ h)
   |succ o=>cases o with
    |zero=>exact ϱ (ŵ (Eq.symm h))
    |succ o=>cases o with
     |zero=>exact ϱ (adS.mp h)
     |succ o=>cases o with
      |zero=>exact ϱ (ŉ.mp h)
      |succ o=>exact False.elim h
def ZC.gd(c:List Int)(q:ZC):Prop:=Nat.rec (q.l.ev c<=q.r.ev c) (λz z=>q.l.ev c<q.r.ev c) q.o
noncomputable def ZC.gt(q:ZC):ZT:=.s q.l (Nat.rec (.a q.r (.n 1)) (λz z=>q.r) q.o)
theorem ZC.of_neg(c:List Int)(q:ZC)(h:0<=q.gt.ev c->False):q.gd c:=by
 cases q with|mk o l r=>
 cases o with
 |zero=>exact ŉ.mp λk=>h (ϱ k)
 |succ n=>exact adS.mp λk=>h (ϱ k)
noncomputable def NI(l:List Int):Bool:=l.all λx=>x==0
theorem D9(l:List Int):∀c:List Int,NI l=Æ->fN l c=0:=by
 induction l with
 |nil=>exact λz z=>rfl
 |cons x l ih=>intro c h;have h:=Ņ.mp h;show x*_+fN l c.tail=0;rw[eq_of_beq h.1,ih _ h.2,ό];rfl
def Iu(l:List Int):Nat->List Int->List Int:=Nat.rec id λz f acc=>f (pE id acc l)
theorem Aq{l c:List Int}(h:0<=fN l c)(k:Nat):∀acc:List Int,0<=fN acc c->0<=fN (Iu l k acc) c:=by
 induction k with
 |zero=>exact λz h0=>h0
 |succ k ih=>intro acc h0;refine ih _ ?_;rw[nP 1 id (λx=>(acU x).symm),acU];exact ϟ h0 h
def ZC.fin(g:ZC)(acc:List Int):Bool:=decide (acc.headD 0<0)&&NI acc.tail
def ZC.chk(g:ZC):List (Nat×ZC)->List Int->Bool:=List.rec (λacc=>g.fin (pE id acc g.gt.nf)) λp z f acc=>f (Iu p.2.t.nf p.1 acc)
def ZC.all(c:List Int)(g:ZC):List (Nat×ZC)->Prop:=List.rec (g.gd c) λp z f=>p.2.den c->f
theorem ZC.all_of(c:List Int)(g:ZC)(t:List (Nat×ZC)):∀acc:List Int,ZC.chk g t acc=Æ->0<=fN acc (1::c)->ZC.all c g t:=by
 induction t with
 |nil=>
  intro acc h h0;refine ZC.of_neg c g λh3=>?_;rw[<-ZT.nf_ev]at h3
  have h5:0<=fN (pE id acc g.gt.nf) (1::c):=by rw[nP 1 id (λx=>(acU x).symm),acU];exact ϟ h0 h3
  have h2:g.fin (pE id acc g.gt.nf)=Æ:=h;generalize pE id acc g.gt.nf=z at h2 h5;have h2:=Ņ.mp h2;cases z with
  |nil=>exact absurd (of_decide_eq_true h2.1) (ado 0)
  |cons x z=>have h6:0<=x*1+fN z c:=h5;rw[D9 z c h2.2,ϗ,Ť]at h6;exact absurd (of_decide_eq_true h2.1) (ŉ.mpr h6)
 |cons p t ih=>exact λacc h h0 hp=>ih _ h (Aq (by rw[ZT.nf_ev];exact ZC.t_of c p.2 hp) p.1 acc h0)
noncomputable def WP(f:Nat):Nat->List ZT->List (Nat×ZC)->List (Nat×ZC)×ZC:=
 Nat.rec (λy y cs=>(cs,⟨0,.n 1,.n 0⟩)) (λy f z st cs=>
  bif Nat.blt (z % 16) 8 then f (z / 16) (.v (z % 16)::st) cs
  else bif ae3 (z % 16) 8 then f (z / 256) (.n (z / 16 % 16)::st) cs
  else bif ae3 (z % 16) 9 then f (z / 1048576) (.n (z / 16 % 65536)::st) cs
  else bif ae3 (z % 16) 10 then f (z / 16) (.a (st.tail.headD (.n 0)) (st.headD (.n 0))::st.tail.tail) cs
  else bif ae3 (z % 16) 14 then f (z / 16) (.s (st.tail.headD (.n 0)) (st.headD (.n 0))::st.tail.tail) cs
  else bif ae3 (z % 16) 11 then f (z / 4096) st.tail.tail ((z / 256 % 16,⟨z / 16 % 16,st.tail.headD (.n 0),st.headD (.n 0)⟩)::cs)
  else bif ae3 (z % 16) 12 then (cs,⟨z / 16 % 16,st.tail.headD (.n 0),st.headD (.n 0)⟩)
  else f (z / 19342813113834066795298816) (.n (z / 16 % 1208925819614629174706176)::st) cs) f
def zq(z:Nat):List (Nat×ZC)×ZC:=WP 100 z [] []
def KI(z:Nat):Bool:=ZC.chk (zq z).2 (zq z).1 []
def tR(c:List Int)(z:Nat):Prop:=ZC.all c (zq z).2 (zq z).1
theorem M6(c:List Int)(z:Nat)(h:KI z=Æ):tR c z:=ZC.all_of c _ _ _ h (Ĭ _)
theorem y1{a:Int}(z:Nat)(h:KI z=Æ):tR [a] z:=M6 _ z h
theorem y2{a b:Int}(z:Nat)(h:KI z=Æ):tR [a,b] z:=M6 _ z h
theorem y3{a b c:Int}(z:Nat)(h:KI z=Æ):tR [a,b,c] z:=M6 _ z h
theorem y4{a b c d:Int}(z:Nat)(h:KI z=Æ):tR [a,b,c,d] z:=M6 _ z h
theorem y5{a b c d e:Int}(z:Nat)(h:KI z=Æ):tR [a,b,c,d,e] z:=M6 _ z h
theorem y6{a b c d e f:Int}(z:Nat)(h:KI z=Æ):tR [a,b,c,d,e,f] z:=M6 _ z h
theorem y7{a b c d e f g:Int}(z:Nat)(h:KI z=Æ):tR [a,b,c,d,e,f,g] z:=M6 _ z h
theorem y8{a b c d e f g k:Int}(z:Nat)(h:KI z=Æ):tR [a,b,c,d,e,f,g,k] z:=M6 _ z h
theorem iL{a b:Nat}(h:a<=b):(a:Int)<=b:=Ŝ.mpr h
theorem iT{a b:Nat}(h:a<b):(a:Int)<b:=Ř.mpr h
theorem iE{a b:Nat}(h:a=b):(a:Int)=b:=congrArg ad9 h
theorem zI(h:(0:Int)<0):False:=ado 0 h
theorem jL{a b:Nat}(h:(a:Int)<=b):a<=b:=Ŝ.mp h
theorem jT{a b:Nat}(h:(a:Int)<b):a<b:=Ř.mp h
theorem iP(a:Nat):(0:Int)<=a:=Ĕ a
theorem iA(a b:Nat):((a+b:Nat):Int)=a+b:=rfl
theorem iS(a b:Nat):(a:Int)<=((a-b:Nat):Int)+b:=Ŝ.mpr (Nat.le_add_of_sub_le (ē (a-b)))
theorem aP{P Q:Prop}{C:Prop}(h:P/\Q)(k:P->Q->C):C:=k h.1 h.2
theorem io{P Q R:Prop}{C:Prop}(h:P/\Q/\R)(k:P->Q->R->C):C:=k h.1 h.2.1 h.2.2
theorem Jy{P Q R S:Prop}{C:Prop}(h:P/\Q/\R/\S)(k:P->Q->R->S->C):C:=k h.1 h.2.1 h.2.2.1 h.2.2.2
theorem YS{P Q R S T:Prop}{C:Prop}(h:P/\Q/\R/\S/\T)(k:P->Q->R->S->T->C):C:=k h.1 h.2.1 h.2.2.1 h.2.2.2.1 h.2.2.2.2
theorem YT{P Q R S T ď X:Prop}{C:Prop}(h:P/\Q/\R/\S/\T/\ď/\X)(k:P->Q->R->S->T->ď->X->C):C:=k h.1 h.2.1 h.2.2.1 h.2.2.2.1 h.2.2.2.2.1 h.2.2.2.2.2.1 h.2.2.2.2.2.2
theorem aF{α:Sort _}{P Q:α->Prop}{C:Prop}(h:∃a,P a/\Q a)(k:∀a,P a->Q a->C):C:=h.elim λa q=>k a q.1 q.2
theorem eK{α:Sort _}{P Q R:α->Prop}{C:Prop}(h:∃a,P a/\Q a/\R a)(k:∀a,P a->Q a->R a->C):C:=h.elim λa q=>k a q.1 q.2.1 q.2.2
theorem vo{α:Sort _}{P Q R S:α->Prop}{C:Prop}(h:∃a,P a/\Q a/\R a/\S a)(k:∀a,P a->Q a->R a->S a->C):C:=h.elim λa q=>k a q.1 q.2.1 q.2.2.1 q.2.2.2
theorem YU{α:Sort _}{P Q R S T:α->Prop}{C:Prop}(h:∃a,P a/\Q a/\R a/\S a/\T a)(k:∀a,P a->Q a->R a->S a->T a->C):C:=h.elim λa q=>k a q.1 q.2.1 q.2.2.1 q.2.2.2.1 q.2.2.2.2
theorem mM{α:Sort _}{β:Sort _}{P:α->β->Prop}{C:Prop}(h:∃a b,P a b)(k:∀a b,P a b->C):C:=h.elim λa q=>q.elim λb q=>k a b q
theorem gm{α:Sort _}{β:Sort _}{P Q:α->β->Prop}{C:Prop}(h:∃a b,P a b/\Q a b)(k:∀a b,P a b->Q a b->C):C:=h.elim λa q=>q.elim λb q=>k a b q.1 q.2
theorem fe{α:Sort _}{β:Sort _}{P Q R:α->β->Prop}{C:Prop}(h:∃a b,P a b/\Q a b/\R a b)(k:∀a b,P a b->Q a b->R a b->C):C:=h.elim λa q=>q.elim λb q=>k a b q.1 q.2.1 q.2.2
theorem Jz{α:Sort _}{β:Sort _}{P Q R S:α->β->Prop}{C:Prop}(h:∃a b,P a b/\Q a b/\R a b/\S a b)(k:∀a b,P a b->Q a b->R a b->S a b->C):C:=h.elim λa q=>q.elim λb q=>k a b q.1 q.2.1 q.2.2.1 q.2.2.2
theorem Mk{α:Sort _}{β:Sort _}{P Q R S T:α->β->Prop}{C:Prop}(h:∃a b,P a b/\Q a b/\R a b/\S a b/\T a b)(k:∀a b,P a b->Q a b->R a b->S a b->T a b->C):C:=h.elim λa q=>q.elim λb q=>k a b q.1 q.2.1 q.2.2.1 q.2.2.2.1 q.2.2.2.2
theorem YV{α:Sort _}{β:Sort _}{P Q R S T ď:α->β->Prop}{C:Prop}(h:∃a b,P a b/\Q a b/\R a b/\S a b/\T a b/\ď a b)(k:∀a b,P a b->Q a b->R a b->S a b->T a b->ď a b->C):C:=h.elim λa q=>q.elim λb q=>k a b q.1 q.2.1 q.2.2.1 q.2.2.2.1 q.2.2.2.2.1 q.2.2.2.2.2
theorem UT{α:Sort _}{β:Sort _}{P Q R S T ď X:α->β->Prop}{C:Prop}(h:∃a b,P a b/\Q a b/\R a b/\S a b/\T a b/\ď a b/\X a b)(k:∀a b,P a b->Q a b->R a b->S a b->T a b->ď a b->X a b->C):C:=h.elim λa q=>q.elim λb q=>k a b q.1 q.2.1 q.2.2.1 q.2.2.2.1 q.2.2.2.2.1 q.2.2.2.2.2.1 q.2.2.2.2.2.2
theorem yO{α:Sort _}{β:Sort _}{γ:Sort _}{P:α->β->γ->Prop}{C:Prop}(h:∃a b c,P a b c)(k:∀a b c,P a b c->C):C:=h.elim λa q=>q.elim λb q=>q.elim λc q=>k a b c q
theorem oS{α:Sort _}{β:Sort _}{γ:Sort _}{P Q:α->β->γ->Prop}{C:Prop}(h:∃a b c,P a b c/\Q a b c)(k:∀a b c,P a b c->Q a b c->C):C:=h.elim λa q=>q.elim λb q=>q.elim λc q=>k a b c q.1 q.2
theorem tU{α:Sort _}{β:Sort _}{γ:Sort _}{P Q R:α->β->γ->Prop}{C:Prop}(h:∃a b c,P a b c/\Q a b c/\R a b c)(k:∀a b c,P a b c->Q a b c->R a b c->C):C:=h.elim λa q=>q.elim λb q=>q.elim λc q=>k a b c q.1 q.2.1 q.2.2
theorem JA{α:Sort _}{β:Sort _}{γ:Sort _}{P Q R S:α->β->γ->Prop}{C:Prop}(h:∃a b c,P a b c/\Q a b c/\R a b c/\S a b c)(k:∀a b c,P a b c->Q a b c->R a b c->S a b c->C):C:=h.elim λa q=>q.elim λb q=>q.elim λc q=>k a b c q.1 q.2.1 q.2.2.1 q.2.2.2
theorem Xd{α:Sort _}{β:Sort _}{γ:Sort _}{P Q R S T:α->β->γ->Prop}{C:Prop}(h:∃a b c,P a b c/\Q a b c/\R a b c/\S a b c/\T a b c)(k:∀a b c,P a b c->Q a b c->R a b c->S a b c->T a b c->C):C:=h.elim λa q=>q.elim λb q=>q.elim λc q=>k a b c q.1 q.2.1 q.2.2.1 q.2.2.2.1 q.2.2.2.2
theorem Te{α:Sort _}{β:Sort _}{γ:Sort _}{P Q R S T ď:α->β->γ->Prop}{C:Prop}(h:∃a b c,P a b c/\Q a b c/\R a b c/\S a b c/\T a b c/\ď a b c)(k:∀a b c,P a b c->Q a b c->R a b c->S a b c->T a b c->ď a b c->C):C:=h.elim λa q=>q.elim λb q=>q.elim λc q=>k a b c q.1 q.2.1 q.2.2.1 q.2.2.2.1 q.2.2.2.2.1 q.2.2.2.2.2
theorem P2{α:Sort _}{β:Sort _}{γ:Sort _}{δ:Sort _}{P:α->β->γ->δ->Prop}{C:Prop}(h:∃a b c d,P a b c d)(k:∀a b c d,P a b c d->C):C:=h.elim λa q=>q.elim λb q=>q.elim λc q=>q.elim λd q=>k a b c d q
theorem Xe{α:Sort _}{β:Sort _}{γ:Sort _}{δ:Sort _}{P Q:α->β->γ->δ->Prop}{C:Prop}(h:∃a b c d,P a b c d/\Q a b c d)(k:∀a b c d,P a b c d->Q a b c d->C):C:=h.elim λa q=>q.elim λb q=>q.elim λc q=>q.elim λd q=>k a b c d q.1 q.2
theorem Ej{α:Sort _}{β:Sort _}{γ:Sort _}{δ:Sort _}{P Q R:α->β->γ->δ->Prop}{C:Prop}(h:∃a b c d,P a b c d/\Q a b c d/\R a b c d)(k:∀a b c d,P a b c d->Q a b c d->R a b c d->C):C:=h.elim λa q=>q.elim λb q=>q.elim λc q=>q.elim λd q=>k a b c d q.1 q.2.1 q.2.2
theorem UU{α:Sort _}{β:Sort _}{γ:Sort _}{δ:Sort _}{P Q R S:α->β->γ->δ->Prop}{C:Prop}(h:∃a b c d,P a b c d/\Q a b c d/\R a b c d/\S a b c d)(k:∀a b c d,P a b c d->Q a b c d->R a b c d->S a b c d->C):C:=h.elim λa q=>q.elim λb q=>q.elim λc q=>q.elim λd q=>k a b c d q.1 q.2.1 q.2.2.1 q.2.2.2
theorem Xf{α:Sort _}{β:Sort _}{γ:Sort _}{δ:Sort _}{P Q R S T:α->β->γ->δ->Prop}{C:Prop}(h:∃a b c d,P a b c d/\Q a b c d/\R a b c d/\S a b c d/\T a b c d)(k:∀a b c d,P a b c d->Q a b c d->R a b c d->S a b c d->T a b c d->C):C:=h.elim λa q=>q.elim λb q=>q.elim λc q=>q.elim λd q=>k a b c d q.1 q.2.1 q.2.2.1 q.2.2.2.1 q.2.2.2.2
theorem UV{α:Sort _}{β:Sort _}{γ:Sort _}{δ:Sort _}{P Q R S T ď:α->β->γ->δ->Prop}{C:Prop}(h:∃a b c d,P a b c d/\Q a b c d/\R a b c d/\S a b c d/\T a b c d/\ď a b c d)(k:∀a b c d,P a b c d->Q a b c d->R a b c d->S a b c d->T a b c d->ď a b c d->C):C:=h.elim λa q=>q.elim λb q=>q.elim λc q=>q.elim λd q=>k a b c d q.1 q.2.1 q.2.2.1 q.2.2.2.1 q.2.2.2.2.1 q.2.2.2.2.2
theorem IA{α:Sort _}{β:Sort _}{γ:Sort _}{δ:Sort _}{ε:Sort _}{P:α->β->γ->δ->ε->Prop}{C:Prop}(h:∃a b c d f,P a b c d f)(k:∀a b c d f,P a b c d f->C):C:=h.elim λa q=>q.elim λb q=>q.elim λc q=>q.elim λd q=>q.elim λf q=>k a b c d f q
theorem YW{α:Sort _}{β:Sort _}{γ:Sort _}{δ:Sort _}{ε:Sort _}{P Q R S:α->β->γ->δ->ε->Prop}{C:Prop}(h:∃a b c d f,P a b c d f/\Q a b c d f/\R a b c d f/\S a b c d f)(k:∀a b c d f,P a b c d f->Q a b c d f->R a b c d f->S a b c d f->C):C:=h.elim λa q=>q.elim λb q=>q.elim λc q=>q.elim λd q=>q.elim λf q=>k a b c d f q.1 q.2.1 q.2.2.1 q.2.2.2
theorem YX{α:Sort _}{β:Sort _}{γ:Sort _}{δ:Sort _}{ε:Sort _}{P Q R S T:α->β->γ->δ->ε->Prop}{C:Prop}(h:∃a b c d f,P a b c d f/\Q a b c d f/\R a b c d f/\S a b c d f/\T a b c d f)(k:∀a b c d f,P a b c d f->Q a b c d f->R a b c d f->S a b c d f->T a b c d f->C):C:=h.elim λa q=>q.elim λb q=>q.elim λc q=>q.elim λd q=>q.elim λf q=>k a b c d f q.1 q.2.1 q.2.2.1 q.2.2.2.1 q.2.2.2.2
theorem fQ{α:Sort _}{a b:α}{C:α->Prop}(h:a=b)(k:C a):C b:=h▸k
theorem ba{α:Sort _}{a b:α}{C:α->Prop}(h:b=a)(k:C a):C b:=h▸k
def hc{α:Type}(P:α->Prop)(d:α):α:=@Classical.epsilon α ⟨d⟩ λa=>¬ P a
theorem hk{α:Type}{d:α}{P:α->Prop}(h:P (hc P d))(a:α):P a:=abK λn=>@Classical.epsilon_spec α (λa=>¬ P a) ⟨a,n⟩ h
set_option autoImplicit true
def U2{a1 a2:Type}(f:a1->a2->Prop)(x:a1×a2):Prop:=f x.1 x.2
def U3{a1 a2 a3:Type}(f:a1->a2->a3->Prop)(x:a1×a2×a3):Prop:=U2 (f x.1) x.2
def U4{a1 a2 a3 a4:Type}(f:a1->a2->a3->a4->Prop)(x:a1×a2×a3×a4):Prop:=U3 (f x.1) x.2
def U5{a1 a2 a3 a4 a5:Type}(f:a1->a2->a3->a4->a5->Prop)(x:a1×a2×a3×a4×a5):Prop:=U4 (f x.1) x.2
def U6{a1 a2 a3 a4 a5 a6:Type}(f:a1->a2->a3->a4->a5->a6->Prop)(x:a1×a2×a3×a4×a5×a6):Prop:=U5 (f x.1) x.2
def U7{a1 a2 a3 a4 a5 a6 a7:Type}(f:a1->a2->a3->a4->a5->a6->a7->Prop)(x:a1×a2×a3×a4×a5×a6×a7):Prop:=U6 (f x.1) x.2
def U8{a1 a2 a3 a4 a5 a6 a7 a8:Type}(f:a1->a2->a3->a4->a5->a6->a7->a8->Prop)(x:a1×a2×a3×a4×a5×a6×a7×a8):Prop:=U7 (f x.1) x.2
def U9{a1 a2 a3 a4 a5 a6 a7 a8 a9:Type}(f:a1->a2->a3->a4->a5->a6->a7->a8->a9->Prop)(x:a1×a2×a3×a4×a5×a6×a7×a8×a9):Prop:=U8 (f x.1) x.2
def Um{a1 a2 a3 a4 a5 a6 a7 a8 a9 vA:Type}(f:a1->a2->a3->a4->a5->a6->a7->a8->a9->vA->Prop)(x:a1×a2×a3×a4×a5×a6×a7×a8×a9×vA):Prop:=U9 (f x.1) x.2
def YG{a1 a2 a3 a4 a5 a6 a7 a8 a9 vA Ay:Type}(f:a1->a2->a3->a4->a5->a6->a7->a8->a9->vA->Ay->Prop)(x:a1×a2×a3×a4×a5×a6×a7×a8×a9×vA×Ay):Prop:=Um (f x.1) x.2
def NZ{a1 a2 a3 a4 a5 a6 a7 a8 a9 vA Ay EI:Type}(f:a1->a2->a3->a4->a5->a6->a7->a8->a9->vA->Ay->EI->Prop)(x:a1×a2×a3×a4×a5×a6×a7×a8×a9×vA×Ay×EI):Prop:=YG (f x.1) x.2
def QF{a1 a2 a3 a4 a5 a6 a7 a8 a9 vA Ay EI L6:Type}(f:a1->a2->a3->a4->a5->a6->a7->a8->a9->vA->Ay->EI->L6->Prop)(x:a1×a2×a3×a4×a5×a6×a7×a8×a9×vA×Ay×EI×L6):Prop:=NZ (f x.1) x.2
def Un{a1 a2 a3 a4 a5 a6 a7 a8 a9 vA Ay EI L6 QJ:Type}(f:a1->a2->a3->a4->a5->a6->a7->a8->a9->vA->Ay->EI->L6->QJ->Prop)(x:a1×a2×a3×a4×a5×a6×a7×a8×a9×vA×Ay×EI×L6×QJ):Prop:=QF (f x.1) x.2
def yh{a1 a2 a3 a4 a5 a6 a7 a8 a9 vA Ay EI L6 QJ W1:Type}(f:a1->a2->a3->a4->a5->a6->a7->a8->a9->vA->Ay->EI->L6->QJ->W1->Prop)(x:a1×a2×a3×a4×a5×a6×a7×a8×a9×vA×Ay×EI×L6×QJ×W1):Prop:=Un (f x.1) x.2
end L.Lake
set_option compiler.extract_closed false
set_option maxHeartbeats 1000000
@[elab_as_elim] theorem L.Lake.rwG.{u} {α:Sort u} {a b:α} {P:α->Prop} (x:P b) (h:a=b):P a:=h▸x
@[elab_as_elim] theorem L.Lake.rwH.{u} {α:Sort u} {a b:α} {P:α->Prop} (x:P b) (h:b=a):P a:=h▸x
section
local macro_rules
|`(tactic|show $t)=>`(tactic|first|refine $t|fail)
local macro_rules
 |`(tactic| rewrite [<-$e])=>`(tactic| first|refine L.Lake.rwH ?_ $e|fail)
 |`(tactic| rewrite [$e:term])=>`(tactic| first|refine L.Lake.rwG ?_ $e|fail)
 |`(tactic| rewrite [$r,$rs,*])=>`(tactic| (rewrite [$r];rewrite [$rs,*]))
set_option backward.match.sparseCases false
namespace L.Lake
open PySem
set_option genInjectivity true in
inductive V where
 |none
 |bool (b:Bool)
 |int (i:Int)
 |str (s:Str)
 |tup (l:List V)
 |ref (n:Nat)
 |ro (l:List Int)
set_option genInjectivity true in
inductive bp where
 |lst (l:List V)
 |di (l:List (Int×V))
 |ds (l:List (Str×V))
 |own
 |wd (w:Str)
 |exn (c d:Nat)
 |tab (q:Str)
noncomputable abbrev ag:=List bp
noncomputable abbrev aM:=Nat->Option V
noncomputable def cR(U:aM)(i:Nat)(v:V):aM:=λj=>if j=i then À v else U j
inductive nW where
 |len|sum|min2|max2|min1|max1|minD|tuple|list|str|int
 |isInt|isBool|isTuple|isStr|isList
 |sorted
inductive j4 where
 |append|extend|find|get|join
set_option genCtorIdx false in
inductive jR where
 |one (i:Nat)
 |two (i j:Nat)
set_option genCtorIdx false in
inductive KX where
 |var (i:Nat)
 |num (i:Int)
 |idx (a i:KX)
 |pair (a b:KX)
set_option genCtorIdx false in
mutual
inductive CE where
 |cst (v:V)
 |var (i:Nat)
 |bin (op:Operator) (a b:CE)
 |cmp (op:CmpOp) (a b:CE)
 |not (a:CE)
 |neg (a:CE)
 |and (a b:CE)
 |or (a b:CE)
 |ite (t a b:CE)
 |list (es:gF)
 |tuple (es:gF)
 |dict0
 |idx (a i:CE)
 |slc (a lo hi:CE)
 |call (f:Nat) (as:gF)
 |prim (p:nW) (as:gF)
 |meth (m:j4) (o:CE) (as:gF)
 |comp (elt:CE) (t:jR) (it:jq) (ifs:gF)
 |sortK (it:jq) (i:Nat) (k:KX)
 |word (e:CE)
 |isC (c:Nat) (e:CE)
 |zipl (a b:CE)
inductive gF where
 |nil
 |cons (e:CE) (r:gF)
inductive jq where
 |ex (e:CE)
 |rng1 (a:CE)
 |rng2 (a b:CE)
 |rng3 (a b c:CE)
 |zip (a b:CE)
 |enm (a:CE)
end
set_option genCtorIdx false in
mutual
inductive CS where
 |assign (t:jR) (e:CE)
 |setItem (o i v:CE)
 |expr (e:CE)
 |ite (c:CE) (t e:fx)
 |for_ (t:jR) (it:jq) (body:fx)
 |while_ (c:CE) (body:fx)
 |ret (e:CE)
 |raise_ (c:Nat) (e:CE)
 |try_ (body:fx) (x:Nat) (h:fx)
inductive fx where
 |nil
 |cons (s:CS) (r:fx)
end
set_option genInjectivity true in
inductive cA where
 |next
 |ret (v:V)
 |exc (c:Nat) (w:Str)
set_option genInjectivity true in
inductive yv where
 |ok (v:V)
 |exc (c:Nat) (w:Str)
noncomputable def ax:Nat:=16777216
noncomputable def qZ(a b:Int):Bool:=decide (a.natAbs<18446744073709551616)||decide (b.natAbs<18446744073709551616)
noncomputable def px:V->Option Int
 |.int i=>À i
 |_=>Ã
noncomputable def N9:V->Option Bool
 |.bool b=>À b
 |_=>Ã
noncomputable def Cf:V->Option Str
 |.str x=>À x
 |_=>Ã
noncomputable def Cg:V->Option (List V)
 |.tup l=>À l
 |_=>Ã
noncomputable def si:V->Option Nat
 |.ref r=>À r
 |_=>Ã
noncomputable def W4:bp->Option (List V)
 |.lst l=>À l
 |_=>Ã
noncomputable def Oa:bp->Option (List (Str×V))
 |.ds l=>À l
 |_=>Ã
noncomputable def TN:V->Bool
 |.none=>Æ
 |_=>Ê
noncomputable def cg{α β:Type}(m:Option (α×ag))(k:α->ag->Option β):Option β:=match m with
 |none=>Ã
 |some p=>k p.1 p.2
noncomputable def mG{α β γ:Type}(m:Option (α×β×ag))(k:α->β->ag->Option γ):Option γ:=match m with
 |none=>Ã
 |some p=>k p.1 p.2.1 p.2.2
def lP{β:Type}(m:Option (V×ag))(k:Bool->ag->Option β):Option β:=cg m λx H=>(N9 x).bind λb=>k b H
def mJ{β:Type}(m:Option (V×ag))(k:Int->ag->Option β):Option β:=cg m λx H=>(px x).bind λb=>k b H
def lst(H:ag)(r:Nat):Option (List V):=(H[r]?).bind W4
def ds(H:ag)(r:Nat):Option (List (Str×V)):=(H[r]?).bind Oa
noncomputable def i8{κ β:Type}[DecidableEq κ]:List (κ×β)->κ->Option β
 |[],_=>Ã
 |(a,b)::r,k=>if a=k then À b else i8 r k
noncomputable def eZ{κ β:Type}[DecidableEq κ]:List (κ×β)->κ->β->List (κ×β)
 |[],k,v=>[(k,v)]
 |(a,b)::r,k,v=>if a=k then (a,v)::r else (a,b)::eZ r k v
def rO(H:ag)(l:List V):Option (V×ag):=if l.length<=ax then À (.ref H.length,H++[.lst l]) else Ã
def rc(H:ag)(l:List V):Option (V×ag):=if l.length<=ax then À (.tup l,H) else Ã
def Pr(H:ag)(x:Str):Option (V×ag):=if x.length<=ax then À (.str x,H) else Ã
noncomputable def Dg{α:Type}(l:List α):Nat->List α
 |0=>[]
 |n+1=>l++Dg l n
def L7(a b:V)(H:ag):Option (V×ag):=match a with
 |.int x=>(px b).bind λy=>À (.int (x+y),H)
 |.str x=>(Cf b).bind λy=>if x.length+y.length<=ax then À (.str (x++y),H) else Ã
 |.tup x=>(Cg b).bind λy=>rc H (x++y)
 |.ref i=>(si b).bind λj=>(lst H i).bind λx=>(lst H j).bind λy=>rO H (x++y)
 |_=>Ã
def Nb(a b:V)(H:ag):Option (V×ag):=(px b).bind λn=>match a with
 |.int x=>if qZ x n then À (.int (x*n),H) else Ã
 |.ref i=>(lst H i).bind λx=>if 0<=n/\n<=100000/\x.length<=100 then rO H (Dg x n.toNat) else Ã
 |_=>Ã
def A4(f:Int->Int->Option Int)(a b:V)(H:ag):Option (V×ag):=(px a).bind λx=>(px b).bind λy=>(f x y).bind λz=>À (.int z,H)
noncomputable def WJ(x y:Int):Option Int:=À (x-y)
noncomputable def UP(x y:Int):Option Int:=if y=0\/1073741824<=y.natAbs then Ã else À (x.fdiv y)
noncomputable def Wy(x y:Int):Option Int:=if y=0 then Ã else À (x.fmod y)
def oN(op:Operator)(a b:V)(H:ag):Option (V×ag):=match op with
 |.Add=>L7 a b H
 |.Mult=>Nb a b H
 |.Sub=>A4 WJ a b H
 |.FloorDiv=>A4 UP a b H
 |.Mod=>A4 Wy a b H
 |_=>Ã
noncomputable def Ou:V->Option Bool
 |.none=>À Æ
 |.int _=>À Ê
 |.tup _=>À Ê
 |_=>Ã
noncomputable def Q4(x:Int):V->Option Bool
 |.int y=>À (x==y)
 |.none=>À Ê
 |_=>Ã
def Xh:Nat->V->V->Option Bool
 |0,_,_=>Ã
 |n+1,a,b=>match a with
  |.none=>Ou b
  |.bool p=>(N9 b).bind λq=>À (p==q)
  |.int x=>Q4 x b
  |.str x=>(Cf b).bind λy=>À (x==y)
  |_=>Ã
def UX(a b:V):Option Bool:=Xh 6 a b
def Ml(H:ag)(x:List V):V->Option Bool
 |.ref j=>(lst H j).bind λy=>if x.length=y.length then (if x.length=0 then À Æ else Ã) else À Ê
 |.tup _=>À Ê
 |.none=>À Ê
 |_=>Ã
def Mm(H:ag)(a b:V):Option Bool:=match si b with
 |some j=>(lst H j).bind λz=>À Ê
 |none=>UX a b
def Dc(H:ag)(a b:V):Option Bool:=match a with
 |.ref i=>(lst H i).bind λx=>Ml H x b
 |.tup l=>Mm H (.tup l) b
 |.none=>Mm H .none b
 |a=>UX a b
theorem Fw{H:ag}{r q:Nat}{l:List V}(h1:lst H r=À l)(h2:lst H q=À []):Dc H (.ref r) (.ref q)=À (decide (l.length=0)):=by show (lst H r).bind (λx=>Ml H x (.ref q))=_;rw[h1];show (lst H q).bind _=_;rw[h2];cases l<;>rfl
def qJ(f:Int->Int->Bool)(a b:V):Option Bool:=(px a).bind λx=>(px b).bind λy=>À (f x y)
def Kg(a b:V):Option Bool:=match b with
 |.none=>À (TN a)
 |_=>Ã
def M3(a b:V):Option Bool:=match b with
 |.none=>À (!TN a)
 |.bool q=>(N9 a).bind λp=>À (p != q)
 |_=>Ã
def AJ(op:CmpOp)(a b:V)(H:ag):Option Bool:=match op with
 |.Eq=>Dc H a b
 |.NotEq=>(Dc H a b).bind λc=>À (!c)
 |.Lt=>qJ (λx y=>decide (x<y)) a b
 |.LtE=>qJ (λx y=>decide (x<=y)) a b
 |.Gt=>qJ (λx y=>decide (y<x)) a b
 |.GtE=>qJ (λx y=>decide (y<=x)) a b
 |.Is=>Kg a b
 |.IsNot=>M3 a b
 |.In=>Ã
 |.NotIn=>Ã
def Gu(l:List V)(i:V):Option V:=(px i).bind λk=>if 0<=k then l[k.toNat]? else Ã
def O6(i:V):bp->Option V
 |.lst l=>Gu l i
 |.di l=>(px i).bind (i8 l)
 |.ds l=>(Cf i).bind (i8 l)
 |.own=>Ã
 |.wd _=>Ã
 |.exn _ _=>Ã
 |.tab _=>Ã
def lF(a i:V)(H:ag):Option V:=match a with
 |.tup l=>Gu l i
 |.str x=>(px i).bind λk=>if 0<=k/\k<4611686018427387904 then (x.cps[k.toNat]?).bind (λc=>À (.str ⟨#[c]⟩)) else Ã
 |.ref r=>(H[r]?).bind (O6 i)
 |_=>Ã
noncomputable def m6:V->Option Nat
 |.none=>À 0
 |.int k=>if 0<=k/\k<4611686018427387904 then À k.toNat else Ã
 |_=>Ã
noncomputable def kZ(n:Nat):V->Option Nat
 |.none=>À n
 |.int k=>if 0<=k/\k<4611686018427387904 then À (min n k.toNat) else Ã
 |_=>Ã
noncomputable def oQ{α:Type}(l:List α)(lo hi:Nat):List α:=(l.take hi).drop lo
def xm(a lo hi:V)(H:ag):Option (V×ag):=match a with
 |.tup l=>(m6 lo).bind λi=>(kZ l.length hi).bind λj=>rc H (oQ l i j)
 |.str x=>(m6 lo).bind λi=>(kZ x.length hi).bind λj=>Pr H ⟨(oQ x.cps.toList i j).toArray⟩
 |_=>Ã
def pc(H:ag):V->Option (List V×List (Nat×bp))
 |.tup l=>À (l,[])
 |.ro l=>À (l.map .int,[])
 |.ref r=>(lst H r).bind λl=>À (l,[(r,.lst l)])
 |_=>Ã
noncomputable def cH:List V->Option (List Int)
 |[]=>À []
 |v::r=>(px v).bind λi=>(cH r).bind λl=>À (i::l)
noncomputable def m7:List Int->Option Int
 |[]=>Ã
 |x::r=>À (r.foldl (λa b=>max a b) x)
noncomputable def ic:List Int->Option Int
 |[]=>Ã
 |x::r=>À (r.foldl (λa b=>min a b) x)
def p9(l:List Str):Prop:=l.Pairwise λa b=>¬ (b.cps.toList<a.cps.toList)
open Classical in
def jO(l:List Str):List Str:=if h:∃m:List Str,m.Perm l/\p9 m then choose h else l
noncomputable def bF:List V->List V->List V
 |[],_=>[]
 |x::xs,m=>match m with
  |[]=>[]
  |y::ys=>.tup [x,y]::bF xs ys
noncomputable def j6(f:V->Option (V×ag)):List V->Option (V×ag)
 |[]=>Ã
 |a::r=>if r.isEmpty then f a else Ã
def EL(f:V->V->Option (V×ag)):List V->Option (V×ag)
 |[]=>Ã
 |a::r=>j6 (f a) r
def ri(H:ag)(f:List Int->Option V)(a:V):Option (V×ag):=(pc H a).bind λp=>(cH p.1).bind λns=>(f ns).bind λv=>À (v,H)
def G9(H:ag)(f:Int->Int->Int)(a b:V):Option (V×ag):=(px a).bind λx=>(px b).bind λy=>À (.int (f x y),H)
def Sr(H:ag):V->Option (V×ag)
 |.str x=>if x.length<=ax then À (.int x.length,H) else Ã
 |a=>(pc H a).bind λp=>À (.int p.1.length,H)
inductive Ef where
 |none|bool|int|str|tup|lst
def M4(H:ag):V->Option Ef
 |.none=>À .none
 |.bool _=>À .bool
 |.int _=>À .int
 |.str _=>À .str
 |.tup _=>À .tup
 |.ref r=>(lst H r).bind λz=>À .lst
 |.ro _=>Ã
noncomputable def Ef.isInt:Ef->Bool
 |.int=>Æ
 |.bool=>Æ
 |_=>Ê
noncomputable def Ef.isBool:Ef->Bool
 |.bool=>Æ
 |_=>Ê
noncomputable def Ef.isTup:Ef->Bool
 |.tup=>Æ
 |_=>Ê
noncomputable def Ef.isLst:Ef->Bool
 |.lst=>Æ
 |_=>Ê
noncomputable def nG(c d:Nat):Bool:=c==d||d==0||d==3
noncomputable def QQ:bp->Option (Nat×Nat)
 |.exn c d=>if c==1||c==2 then À (c,d) else Ã
 |_=>Ã
def A7(H:ag)(d:Nat)(a:V):Option V:=(si a).bind λr=>(H[r]?).bind λm=>(QQ m).bind λp=>À (.bool (nG p.1 d))
def Yl(H:ag)(f:Ef->Bool)(a:V):Option (V×ag):=(M4 H a).bind λk=>À (.bool (f k),H)
noncomputable def dK:Option Int->V
 |none=>.none
 |some m=>.int m
def gy(p:nW)(as:List V)(H:ag):Option (V×ag):=match p with
 |.len=>j6 (Sr H) as
 |.sum=>j6 (ri H λns=>À (.int (ns.foldl (·+·) 0))) as
 |.min2=>EL (G9 H min) as
 |.max2=>EL (G9 H max) as
 |.max1=>j6 (ri H λns=>(m7 ns).bind λm=>À (.int m)) as
 |.min1=>j6 (ri H λns=>(ic ns).bind λm=>À (.int m)) as
 |.minD=>j6 (ri H λns=>À (dK (ic ns))) as
 |.tuple=>j6 (λa=>(si a).bind λr=>(lst H r).bind λl=>rc H l) as
 |.list=>j6 (λa=>(Cg a).bind λl=>rO H l) as
 |.str=>Ã
 |.int=>j6 (λa=>(N9 a).bind λb=>À (.int (if b then 1 else 0),H)) as
 |.isInt=>Ã
 |.isBool=>Ã
 |.isTuple=>j6 (Yl H Ef.isTup) as
 |.isStr=>Ã
 |.isList=>Ã
 |.sorted=>j6 (λa=>(si a).bind λr=>(ds H r).bind λl=>if l.length<64 then rO H ((jO (l.map (·.1))).map .str) else Ã) as
def Be(H:ag)(o x:V):Option (V×ag):=(si o).bind λr=>(lst H r).bind λl=>if l.length<=ax then À (.none,H.set r (.lst (l++[x]))) else Ã
def pR(H:ag)(o x:V):Option (V×ag):=(si o).bind λr=>(si x).bind λq=>(lst H r).bind λl=>(lst H q).bind λk=>if l.length+k.length<=ax/\r≠q then À (.none,H.set r (.lst (l++k))) else Ã
def M9(H:ag)(o x:V):Option (V×ag):=(Cf o).bind λa=>(Cf x).bind λb=>À (.int (Txt.find a b),H)
def Sn(H:ag)(o k d:V):Option (V×ag):=(si o).bind λr=>(Cf k).bind λk=>(ds H r).bind λl=>À ((i8 l k).getD d,H)
def oz(m:j4)(o:V)(as:List V)(H:ag):Option (V×ag):=match m with
 |.append=>j6 (Be H o) as
 |.extend=>j6 (pR H o) as
 |.find=>j6 (M9 H o) as
 |.get=>EL (Sn H o) as
 |.join=>Ã
def z8(m:j4)(o:V)(H:ag):Bool:=match m with
 |.append=>((si o).bind (lst H)).isSome
 |.extend=>((si o).bind (lst H)).isSome
 |.find=>(Cf o).isSome
 |.join=>(Cf o).isSome
 |.get=>((si o).bind (ds H)).isSome
def Nw(H:ag)(r:Nat)(l:List (Str×V))(v:V):V->Option ag
 |.str k=>if l.length<=ax then À (H.set r (.ds (eZ l k v))) else Ã
 |.int k=>if l.isEmpty then À (H.set r (.di [(k,v)])) else Ã
 |_=>Ã
def Sy(H:ag)(r:Nat)(i v:V):bp->Option ag
 |.lst l=>(px i).bind λk=>if 0<=k/\k.toNat<l.length then À (H.set r (.lst (l.set k.toNat v))) else Ã
 |.di l=>(px i).bind λk=>if l.length<=ax then À (H.set r (.di (eZ l k v))) else Ã
 |.ds l=>Nw H r l v i
 |.own=>Ã
 |.wd _=>Ã
 |.exn _ _=>Ã
 |.tab _=>Ã
def ru(o i v:V)(H:ag):Option ag:=(si o).bind λr=>(H[r]?).bind (Sy H r i v)
noncomputable def tF:V->Option (V×V)
 |.tup l=>match l with
  |[a,b]=>À (a,b)
  |_=>Ã
 |_=>Ã
def jR.put(t:jR)(x:V)(U:aM):Option aM:=match t with
 |.one i=>À (cR U i x)
 |.two i j=>(tF x).bind λp=>À (cR (cR U i p.1) j p.2)
def cD(H:ag)(w:List (Nat×bp)):Prop:=∀p∈w,H[p.1]?=À p.2
noncomputable def i5(a b c:Int):Nat:=(if c > 0 then (if a<b then (b-a-1) / c+1 else 0) else (if a > b then (a-b-1) / (-c)+1 else 0)).toNat
def cy(a b c:Int):List V:=(Đ (i5 a b c)).map λ(i:Nat)=>.int (a+(i:Int)*c)
noncomputable def gA(a:Int):Bool:=decide (-1000000000<=a)&&decide (a<=1000000000)
noncomputable def dR(i:Nat):List V->List V
 |[]=>[]
 |x::xs=>.tup [.int i,x]::dR (i+1) xs
def r2:V->Option (List Int)
 |.int k=>À [k]
 |.tup l=>match l with
  |[a,b]=>(px a).bind λx=>(px b).bind λy=>À [x,y]
  |_=>Ã
 |_=>Ã
noncomputable def cm:List Int->List Int->Bool
 |[],m=>!m.isEmpty
 |a::x,m=>match m with
  |[]=>Ê
  |b::y=>decide (a<b)||(a==b&&cm x y)
noncomputable abbrev KP:=List Int×Int
def lh(p q:KP):Bool:=cm p.1 q.1||(!cm q.1 p.1&&decide (p.2<q.2))
noncomputable def CO(p:KP):List KP->List KP
 |[]=>[p]
 |q::r=>if lh q p then q::CO p r else p::q::r
noncomputable def fA:List KP->List KP
 |[]=>[]
 |p::r=>CO p (fA r)
noncomputable def gz:Int->List Int->Bool
 |_,[]=>Æ
 |a,b::r=>decide (a<b)&&gz b r
noncomputable def dn:KX->aM->ag->Option V
 |.var i,U,_=>U i
 |.num i,_,_=>À (.int i)
 |.idx a i,U,H=>(dn a U H).bind λx=>(dn i U H).bind λy=>lF x y H
 |.pair a b,U,H=>(dn a U H).bind λx=>(dn b U H).bind λy=>À (.tup [x,y])
noncomputable def o5(k:KX)(i:Nat)(U:aM)(H:ag):List Int->Option (List KP)
 |[]=>À []
 |n::r=>(dn k (cR U i (.int n)) H).bind λv=>(r2 v).bind λl=>(o5 k i U H r).bind λps=>À ((l,n)::ps)
noncomputable def gP(ps:List KP):Bool:=ps.all λp=>ps.all λq=>p.1.length==q.1.length
def me(k:KX)(i:Nat)(U:aM)(H:ag)(xs:List V):Option (V×ag):=(cH xs).bind λns=>if gz (-1) ns/\ns.length<=10000000 then (o5 k i U H ns).bind λps=>if gP ps then rO H ((fA ps).map λp=>.int p.2) else Ã else Ã
noncomputable def KX.ce:KX->CE
 |.var i=>.var i
 |.num i=>.cst (.int i)
 |.idx a i=>.idx a.ce i.ce
 |.pair a b=>.tuple (.cons a.ce (.cons b.ce .nil))
noncomputable def BA(it:jq)(w:List (Nat×bp)):Bool:=match it with
 |.rng1 _=>Æ
 |_=>!w.isEmpty
noncomputable def Uu:bp->Option Str
 |.wd w=>À w
 |_=>Ã
def vj(H:ag)(a:V):Option V:=(si a).bind λr=>(H[r]?).bind λm=>(QQ m).bind λp=>(H[p.2]?).bind λm'=>(Uu m').bind λw=>À (.str w)
abbrev aw:=Nat->List V->ag->Option (yv×ag)
abbrev Ex:=Option (cA×aM×ag)
def ir(m:Ex)(k:aM->ag->Ex):Ex:=mG m λf U H=>match f with
 |.next=>k U H
 |.ret v=>À (.ret v,U,H)
 |.exc c w=>À (.exc c w,U,H)
noncomputable def okV:yv->Option V
 |.ok v=>À v
 |.exc _ _=>Ã
abbrev XR:=Option (Nat×Str×ag)
noncomputable def JI(H:ag):yv->XR
 |.ok _=>Ã
 |.exc c w=>À (c,w,H)
noncomputable def TU(a b:XR):XR:=match a with
 |some x=>À x
 |none=>b
noncomputable def EJ(m:Ex)(x:XR)(U:aM):Ex:=match m with
 |some r=>À r
 |none=>x.bind λp=>À (.exc p.1 p.2.1,U,p.2.2)
open Classical in
def gv{β:Type}(H:ag)(w:List (Nat×bp))(x:Option β):Option β:=if cD H w then x else Ã
def lG(body:aM->ag->Ex)(t:jR)(w:List (Nat×bp)):List V->aM->ag->Ex
 |[],U,H=>gv H w (À (.next,U,H))
 |x::xs,U,H=>gv H w ((t.put x U).bind λaT=>ir (body aT H) λiv il=>lG body t w xs iv il)
noncomputable def oL(SJ:aM->ag->Option (Bool×ag))(body:aM->ag->Ex):Nat->aM->ag->Ex
 |0,_,_=>Ã
 |n+1,U,H=>cg (SJ U H) λb ae=>if b then ir (body U ae) (λiv il=>oL SJ body n iv il) else À (.next,U,ae)
def fY(elt:aM->ag->Option (V×ag))(cond:aM->ag->Option (Bool×ag))(t:jR)(w:List (Nat×bp)):List V->aM->ag->Option (List V×ag)
 |[],_,H=>gv H w (À ([],H))
 |x::xs,U,H=>gv H w ((t.put x U).bind λaT=>cg (cond aT H) λb Î=>if b then cg (elt aT Î) λv Ü=>cg (fY elt cond t w xs U Ü) λl bC=>À (v::l,bC) else fY elt cond t w xs U Î)
mutual
def ab(Á:aw):CE->aM->ag->Option (V×ag)
 |.cst v,_,H=>À (v,H)
 |.var i,U,H=>(U i).bind λv=>À (v,H)
 |.bin op a b,U,H=>cg (ab Á a U H) λx Î=>cg (ab Á b U Î) λy Ü=>oN op x y Ü
 |.cmp op a b,U,H=>cg (ab Á a U H) λx Î=>cg (ab Á b U Î) λy Ü=>(AJ op x y Ü).bind λr=>À (.bool r,Ü)
 |.not a,U,H=>lP (ab Á a U H) λb Î=>À (.bool (!b),Î)
 |.neg a,U,H=>mJ (ab Á a U H) λi Î=>À (.int (-i),Î)
 |.and a b,U,H=>lP (ab Á a U H) λp Î=>if p then ab Á b U Î else À (.bool Ê,Î)
 |.or a b,U,H=>lP (ab Á a U H) λp Î=>if p then À (.bool Æ,Î) else ab Á b U Î
 |.ite t a b,U,H=>lP (ab Á t U H) λp Î=>if p then ab Á a U Î else ab Á b U Î
 |.list es,U,H=>cg (bY Á es U H) λvs Î=>rO Î vs
 |.tuple es,U,H=>cg (bY Á es U H) λvs Î=>rc Î vs
 |.dict0,_,H=>À (.ref H.length,H++[.ds []])
 |.idx a i,U,H=>cg (ab Á a U H) λx Î=>cg (ab Á i U Î) λy Ü=>(lF x y Ü).bind λr=>À (r,Ü)
 |.slc a lo hi,U,H=>cg (ab Á a U H) λx Î=>cg (ab Á lo U Î) λy Ü=>cg (ab Á hi U Ü) λz bC=>xm x y z bC
 |.call f as,U,H=>cg (bY Á as U H) λvs Î=>cg (Á f vs Î) λr Ü=>(okV r).bind λv=>À (v,Ü)
 |.prim p as,U,H=>cg (bY Á as U H) λvs Î=>gy p vs Î
 |.meth m o as,U,H=>cg (ab Á o U H) λx Î=>if z8 m x Î then cg (bY Á as U Î) λvs Ü=>oz m x vs Ü else Ã
 |.comp elt t it ifs,U,H=>mG (cE Á it U H) λxs w Î=>cg (fY (ab Á elt) (cW Á ifs) t w xs U Î) λl Ü=>rO Ü l
 |.sortK it i k,U,H=>mG (cE Á it U H) λxs w Î=>if BA it w then me k i U Î xs else Ã
 |.word e,U,H=>cg (ab Á e U H) λx Î=>(vj Î x).bind λv=>À (v,Î)
 |.isC c e,U,H=>cg (ab Á e U H) λx Î=>(A7 Î c x).bind λv=>À (v,Î)
 |.zipl a b,U,H=>cg (ab Á a U H) λx Î=>cg (ab Á b U Î) λy Ü=>(si x).bind λr=>(lst Ü r).bind λxs=>(Cg y).bind λys=>rO (Ü++[.own]) (bF xs ys)
def cW(Á:aw):gF->aM->ag->Option (Bool×ag)
 |.nil,_,H=>À (Æ,H)
 |.cons e r,U,H=>lP (ab Á e U H) λb Î=>if b then cW Á r U Î else À (Ê,Î)
def bY(Á:aw):gF->aM->ag->Option (List V×ag)
 |.nil,_,H=>À ([],H)
 |.cons e r,U,H=>cg (ab Á e U H) λv Î=>cg (bY Á r U Î) λvs Ü=>À (v::vs,Ü)
def cE(Á:aw):jq->aM->ag->Option (List V×List (Nat×bp)×ag)
 |.ex e,U,H=>cg (ab Á e U H) λx Î=>(pc Î x).bind λp=>À (p.1,p.2,Î)
 |.rng1 a,U,H=>mJ (ab Á a U H) λn Î=>if gA n then À (cy 0 n 1,[],Î) else Ã
 |.rng2 a b,U,H=>mJ (ab Á a U H) λm Î=>mJ (ab Á b U Î) λn Ü=>if gA m&&gA n then À (cy m n 1,[],Ü) else Ã
 |.rng3 a b c,U,H=>mJ (ab Á a U H) λm Î=>mJ (ab Á b U Î) λn Ü=>mJ (ab Á c U Ü) λk bC=>if gA m&&gA n&&gA k&&k != 0 then À (cy m n k,[],bC) else Ã
 |.zip a b,U,H=>cg (ab Á a U H) λx Î=>cg (ab Á b U Î) λy Ü=>(Cg x).bind λxs=>(Cg y).bind λys=>À (bF xs ys,[(Ü.length,.own)],Ü++[.own])
 |.enm a,U,H=>cg (ab Á a U H) λx Î=>(Cg x).bind λxs=>À (dR 0 xs,[],Î)
end
mutual
def ed(Á:aw):CE->aM->ag->XR
 |.call f as,U,H=>cg (bY Á as U H) λvs Î=>cg (Á f vs Î) λr Ü=>JI Ü r
 |.meth m o as,U,H=>cg (ab Á o U H) λx Î=>if z8 m x Î then oU Á as U Î else Ã
 |.list es,U,H=>oU Á es U H
 |_,_,_=>Ã
def oU(Á:aw):gF->aM->ag->XR
 |.nil,_,_=>Ã
 |.cons e r,U,H=>TU (ed Á e U H) (cg (ab Á e U H) λz Î=>oU Á r U Î)
end
def JH(Á:aw):jq->aM->ag->XR
 |.ex e,U,H=>ed Á e U H
 |_,_,_=>Ã
def handled(m:Ex):Ex:=mG m λf U H=>match f with
 |.ret v=>À (.ret v,U,H)
 |_=>Ã
def Fd(k:aM->ag->Ex)(x:Nat)(m:Ex):Ex:=mG m λf U H=>match f with
 |.exc c w=>handled (k (cR U x (.ref (H.length+1))) (H++[.wd w,.exn c H.length]))
 |.next=>À (.next,U,H)
 |.ret v=>À (.ret v,U,H)
def bW(Á:aw)(e:CE)(U:aM)(H:ag):Option (Bool×ag):=lP (ab Á e U H) λb Î=>À (b,Î)
noncomputable def kU:Nat:=100000
mutual
def bL(Á:aw):CS->aM->ag->Ex
 |.assign t e,U,H=>EJ (cg (ab Á e U H) λv Î=>(t.put v U).bind λaT=>À (.next,aT,Î)) (ed Á e U H) U
 |.setItem o i v,U,H=>cg (ab Á v U H) λx Î=>cg (ab Á o U Î) λy Ü=>cg (ab Á i U Ü) λz bC=>(ru y z x bC).bind λlH=>À (.next,U,lH)
 |.expr e,U,H=>EJ (cg (ab Á e U H) λk Î=>À (.next,U,Î)) (ed Á e U H) U
 |.ite c t e,U,H=>lP (ab Á c U H) λb Î=>if b then aN Á t U Î else aN Á e U Î
 |.for_ t it body,U,H=>EJ (mG (cE Á it U H) λxs w Î=>lG (aN Á body) t w xs U Î) (JH Á it U H) U
 |.while_ c body,U,H=>oL (bW Á c) (aN Á body) kU U H
 |.ret e,U,H=>EJ (cg (ab Á e U H) λv Î=>À (.ret v,U,Î)) (ed Á e U H) U
 |.raise_ c e,U,H=>cg (ab Á e U H) λv Î=>(Cf v).bind λw=>À (.exc c w,U,Î)
 |.try_ body x h,U,H=>Fd (aN Á h) x (aN Á body U H)
def aN(Á:aw):fx->aM->ag->Ex
 |.nil,U,H=>À (.next,U,H)
 |.cons s r,U,H=>ir (bL Á s U H) (aN Á r)
end
section
variable{Á:aw}{U:aM}{H:ag}{t:jR}{e o i v c a b:CE}{it:jq}{x y:fx}
theorem gQ:bL Á (.assign t e) U H=EJ (cg (ab Á e U H) λv Î=>(t.put v U).bind λaT=>À (.next,aT,Î)) (ed Á e U H) U:=rfl
theorem qn:bL Á (.setItem o i v) U H=cg (ab Á v U H) λx Î=>cg (ab Á o U Î) λy Ü=>cg (ab Á i U Ü) λz bC=>(ru y z x bC).bind λlH=>À (.next,U,lH):=rfl
theorem AP:bL Á (.expr e) U H=EJ (cg (ab Á e U H) λz Î=>À (.next,U,Î)) (ed Á e U H) U:=rfl
theorem FA:bL Á (.ite c x y) U H=lP (ab Á c U H) λb Î=>if b then aN Á x U Î else aN Á y U Î:=rfl
theorem yR:bL Á (.for_ t it x) U H=EJ (mG (cE Á it U H) λxs w Î=>lG (aN Á x) t w xs U Î) (JH Á it U H) U:=rfl
theorem lT:bL Á (.ret e) U H=EJ (cg (ab Á e U H) λv Î=>À (.ret v,U,Î)) (ed Á e U H) U:=rfl
theorem wg{k:Nat}:bL Á (.raise_ k e) U H=cg (ab Á e U H) λv Î=>(Cf v).bind λw=>À (.exc k w,U,Î):=rfl
theorem yS{k:Nat}:bL Á (.try_ x k y) U H=Fd (aN Á y) k (aN Á x U H):=rfl
theorem kP:cE Á (.ex e) U H=cg (ab Á e U H) λx Î=>(pc Î x).bind λp=>À (p.1,p.2,Î):=rfl
theorem rD:cE Á (.zip a b) U H=cg (ab Á a U H) λx Î=>cg (ab Á b U Î) λy Ü=>(Cg x).bind λxs=>(Cg y).bind λys=>À (bF xs ys,[(Ü.length,.own)],Ü++[.own]):=rfl
theorem rC:cE Á (.enm a) U H=cg (ab Á a U H) λx Î=>(Cg x).bind λxs=>À (dR 0 xs,[],Î):=rfl
end
structure bj where
 arity:Nat
 body:fx
noncomputable def lu:bj:=⟨0,.cons (.ret (.idx (.cst .none) (.cst .none))) .nil⟩
noncomputable def bu(as:List V):aM:=λi=>as[i]?
def ip(m:Ex):Option (yv×ag):=mG m λf z H=>match f with
 |.next=>À (.ok .none,H)
 |.ret v=>À (.ok v,H)
 |.exc c w=>À (.exc c w,H)
def az(P:List bj):Nat->aw
 |0=>λz z z=>Ã
 |d+1=>λf as H=>(P[f]?).bind λfn=>if as.length=fn.arity then ip (aN (az P d) fn.body (bu as) H) else Ã
theorem i7{α β:Type}{m:Option (α×ag)}{k:α->ag->Option β}{r:β}(h:cg m k=À r):∃a H,m=À (a,H)/\k a H=À r:=by
 cases m with
 |none=>cases h
 |some p=>show⟨p.1,p.2,N,h⟩
theorem sr{α β γ:Type}{m:Option (α×β×ag)}{k:α->β->ag->Option γ}{r:γ}(h:mG m k=À r):∃a b H,m=À (a,b,H)/\k a b H=À r:=by
 cases m with
 |none=>cases h
 |some p=>show⟨p.1,p.2.1,p.2.2,N,h⟩
theorem ob{α β:Type}{m:Option α}{k:α->Option β}{r:β}(h:m.bind k=À r):∃a,m=À a/\k a=À r:=by
 cases m with
 |none=>cases h
 |some p=>show⟨p,N,h⟩
theorem no{α:Type}{r:α}{p:Prop}(h:(none:Option α)=À r):p:=nomatch h
theorem sm{α:Type}{a b:α}(h:À a=À b):a=b:=Option.some.inj h
theorem nS{α β:Type}{a a':α}{b b':β}(h:À (a,b)=À (a',b')):a=a'/\b=b':=⟨congrArg Prod.fst (sm h),congrArg Prod.snd (sm h)⟩
theorem Nx{α β γ:Type}{a a':α}{b b':β}{c c':γ}(h:À (a,b,c)=À (a',b',c')):a=a'/\b=b'/\c=c':=⟨congrArg (λp=>p.1) (sm h),congrArg (λp=>p.2.1) (sm h),congrArg (λp=>p.2.2) (sm h)⟩
theorem EO:∀{v:V} {i:Int},px v=À i->v=.int i
 |.none,_,h=>no h
 |.bool _,_,h=>no h
 |.int _,_,h=>congrArg _ (sm h)
 |.str _,_,h=>no h
 |.tup _,_,h=>no h
 |.ref _,_,h=>no h
 |.ro _,_,h=>no h
theorem EN:∀{v:V} {i:Bool},N9 v=À i->v=.bool i
 |.none,_,h=>no h
 |.bool _,_,h=>congrArg _ (sm h)
 |.int _,_,h=>no h
 |.str _,_,h=>no h
 |.tup _,_,h=>no h
 |.ref _,_,h=>no h
 |.ro _,_,h=>no h
theorem mD:∀{v:V} {i:List V},Cg v=À i->v=.tup i
 |.none,_,h=>no h
 |.bool _,_,h=>no h
 |.int _,_,h=>no h
 |.str _,_,h=>no h
 |.tup _,_,h=>congrArg _ (sm h)
 |.ref _,_,h=>no h
 |.ro _,_,h=>no h
theorem EP:∀{v:bp} {i:List V},W4 v=À i->v=.lst i
 |.lst _,_,h=>congrArg _ (sm h)
 |.di _,_,h=>no h
 |.ds _,_,h=>no h
 |.own,_,h=>no h
 |.wd _,_,h=>no h
 |.exn _ _,_,h=>no h
 |.tab _,_,h=>no h
theorem Cd:∀{v:bp} {i:List (Str×V)},Oa v=À i->v=.ds i
 |.lst _,_,h=>no h
 |.di _,_,h=>no h
 |.ds _,_,h=>congrArg _ (sm h)
 |.own,_,h=>no h
 |.wd _,_,h=>no h
 |.exn _ _,_,h=>no h
 |.tab _,_,h=>no h
theorem su{β:Type}{m:Option (V×ag)}{k:Bool->ag->Option β}{r:β}(h:lP m k=À r):∃b H,m=À (.bool b,H)/\k b H=À r:=by show gm (i7 h) λv H h1 h2=>aF (ob h2) λb h3 h4=>⟨b,H,EN h3▸h1,h4⟩
theorem Ci{β:Type}{m:Option (V×ag)}{k:Int->ag->Option β}{r:β}(h:mJ m k=À r):∃b H,m=À (.int b,H)/\k b H=À r:=by show gm (i7 h) λv H h1 h2=>aF (ob h2) λb h3 h4=>⟨b,H,EO h3▸h1,h4⟩
theorem qO{H:ag}{r:Nat}{l:List V}(h:lst H r=À l):H[r]?=À (.lst l):=by show aF (ob h) λm h1 h2=>EP h2▸h1
theorem tT{H:ag}{r:Nat}{l:List (Str×V)}(h:ds H r=À l):H[r]?=À (.ds l):=by show aF (ob h) λm h1 h2=>Cd h2▸h1
theorem c8{H:ag}{r:Nat}{l:List V}(h:H[r]?=À (.lst l)):lst H r=À l:=by unfold lst;rw[h];rfl
theorem fD{f:V->Option (V×ag)}{as:List V}{r:V×ag}(h:j6 f as=À r):∃a,as=[a]/\f a=À r:=by
 cases as with
 |nil=>cases h
 |cons a t=>
  cases t with
  |nil=>show⟨a,N,h⟩
  |cons b t=>cases h
theorem sh{f:V->V->Option (V×ag)}{as:List V}{r:V×ag}(h:EL f as=À r):∃a b,as=[a,b]/\f a b=À r:=by
 cases as with
 |nil=>cases h
 |cons a t=>show aF (fD (f:=f a) h) λb h1 h2=>⟨a,b,by rw[h1],h2⟩
theorem cZ{α:Type}{c:Prop}[Decidable c]{x:Option α}{r:α}(h:(if c then x else Ã)=À r):c/\x=À r:=by
 by_cases hc:c
 ·rw[if_pos hc]at h;show⟨hc,h⟩
 ·rw[if_neg hc]at h;cases h
theorem oY{β:Type}{H:ag}{w:List (Nat×bp)}{x:Option β}{r:β}(h:gv H w x=À r):cD H w/\x=À r:=by unfold gv at h;show @cZ _ _ (_) _ _ h
theorem je{β:Type}{H:ag}{w:List (Nat×bp)}{x:Option β}(h:cD H w):gv H w x=x:=by unfold gv;rw[if_pos h]
theorem jj{m:Ex}{k:aM->ag->Ex}{fl:cA}{aT:aM}{ae:ag}(h:ir m k=À (fl,aT,ae)):(∃cO Î,m=À (.next,cO,Î)/\k cO Î=À (fl,aT,ae))\/(m=À (fl,aT,ae)/\fl≠.next):=by
 show oS (sr h) λf U H h1 h2=>?_;cases f with
 |next=>show .inl ⟨U,H,h1,h2⟩
 |ret v=>show io (Nx h2) λe1 e2 e3=>.inr ⟨by rw[h1,e1,e2,e3],λe=>nomatch (e1.trans e)⟩
 |exc c w=>show io (Nx h2) λe1 e2 e3=>.inr ⟨by rw[h1,e1,e2,e3],λe=>nomatch (e1.trans e)⟩
theorem vC{m:bp}{p:Nat×Nat}(h:QQ m=À p):m=.exn p.1 p.2/\(p.1=1\/p.1=2):=by
 cases m with
 |exn c d=>show aP (cZ h) λh1 h2=>?_;have h2:=Option.some.inj h2;apply fQ h2;show⟨rfl,by simpa using h1⟩
 |_=>show no h
theorem ES{m:bp}{w:Str}(h:Uu m=À w):m=.wd w:=by
 cases m with
 |wd u=>show congrArg _ (Option.some.inj h)
 |_=>show no h
theorem fW{m:Ex}{x:XR}{U aT:aM}{fl:cA}{ae:ag}(h:EJ m x U=À (fl,aT,ae)):m=À (fl,aT,ae)\/∃c w,fl=.exc c w/\aT=U/\x=À (c,w,ae):=by
 cases m with
 |some r=>show .inl h
 |none=>show aF (ob (m:=x) h) λk1 h1 h2=>?_;obtain ⟨c,w,Î⟩:=k1;show io (Nx h2) λq1 q2 q3=>?_;apply fQ q1;apply fQ q2;apply fQ q3;show .inr ⟨c,w,rfl,rfl,h1⟩
theorem lM{m:Ex}{x:XR}{U:aM}{r:cA×aM×ag}(h:m=À r):EJ m x U=À r:=by rw[h];rfl
theorem tE{m:Ex}{x:XR}{U:aM}{c:Nat}{w:Str}{H:ag}(h:m=Ã)(hx:x=À (c,w,H)):EJ m x U=À (.exc c w,U,H):=by rw[h,hx];rfl
theorem Ha{a b:XR}{r:Nat×Str×ag}(h:TU a b=À r):a=À r\/(a=Ã/\b=À r):=by
 cases a with
 |some x=>show .inl h
 |none=>show .inr ⟨N,h⟩
theorem Cy{H ae:ag}{r:yv}{c:Nat}{w:Str}(h:JI H r=À (c,w,ae)):r=.exc c w/\ae=H:=by
 cases r with
 |ok v=>show no h
 |exc c' w'=>show io (Nx h) λq1 q2 q3=>?_;apply ba q1;apply ba q2;apply ba q3;show⟨N,N⟩
theorem kb{Á:aw}{U:aM}{H:ag}:∀{k:KX} {v:V},dn k U H=À v->ab Á k.ce U H=À (v,H)
 |.var i,v,h=>by show (U i).bind (λv=>À (v,H))=_;rw[show U i=À v from h];rfl
 |.num i,v,h=>by rw[<-sm h];rfl
 |.idx a i,v,h=>by show aF (ob h) λx h1 h=>aF (ob h) λy h2 h=>?_;show cg (ab Á a.ce U H) (λx Î=>cg (ab Á i.ce U Î) λy Ü=>(lF x y Ü).bind λr=>À (r,Ü))=_;rw[kb h1];show cg (ab Á i.ce U H) (λy Ü=>(lF x y Ü).bind λr=>À (r,Ü))=_;rw[kb h2];show (lF x y H).bind (λr=>À (r,H))=_;rw[h];rfl
 |.pair a b,v,h=>by show aF (ob h) λx h1 h=>aF (ob h) λy h2 h=>?_;rw[<-sm h];show cg (cg (ab Á a.ce U H) (λv Î=>cg (cg (ab Á b.ce U Î) λw Ü=>cg (À ([],Ü)) λvs bC=>À (w::vs,bC)) λvs Ü=>À (v::vs,Ü))) (λvs Î=>rc Î vs)=_;rw[kb h1];show cg (cg (cg (ab Á b.ce U H) λw Ü=>cg (À ([],Ü)) λvs bC=>À (w::vs,bC)) λvs Ü=>À (x::vs,Ü)) (λvs Î=>rc Î vs)=_;rw[kb h2];rfl
theorem dX{Á:aw}{e:CE}{U:aM}{H ae:ag}{b:Bool}(h:bW Á e U H=À (b,ae)):ab Á e U H=À (.bool b,ae):=by show gm (su h) λc Î h1 h2=>aP (nS h2) λe1 e2=>?_;rw[h1,e1,e2]
theorem bN{Á:aw}{e:CE}{U:aM}{H ae:ag}{b:Bool}(h:ab Á e U H=À (.bool b,ae)):bW Á e U H=À (b,ae):=by unfold bW;rw[h];rfl
theorem ca{α β:Type}{m:Option α}{k:α->Option β}{r:β}{C:Prop}(h:m.bind k=À r)(c:∀a,m=À a->k a=À r->C):C:=(ob h).elim λa q=>c a q.1 q.2
theorem iq{α β γ:Type}{m:Option α}{n:α->Option β}{k:α->β->Option γ}{r:γ}{C:Prop}(h:m.bind (λa=>(n a).bind (k a))=À r)(c:∀a b,m=À a->n a=À b->k a b=À r->C):C:=ca h λa h1 h=>ca h λb h2 h=>c a b h1 h2 h
theorem Bk{α γ β:Type}{m:Option (α×γ)}{k:α×γ->Option β}{r:β}{C:Prop}(h:m.bind k=À r)(c:∀a b,m=À (a,b)->k (a,b)=À r->C):C:=(ob h).elim λa q=>c a.1 a.2 q.1 q.2
theorem dI{α β:Type}{m:Option (α×ag)}{k:α->ag->Option β}{r:β}{C:Prop}(h:cg m k=À r)(c:∀a H,m=À (a,H)->k a H=À r->C):C:=(i7 h).elim λa q=>q.elim λH q=>c a H q.1 q.2
theorem rW{α β γ:Type}{m:Option (α×ag)}{n:α->ag->Option (β×ag)}{k:α->ag->β->ag->Option γ}{r:γ}{C:Prop}(h:cg m (λa H=>cg (n a H) (k a H))=À r)(c:∀a H b τ,m=À (a,H)->n a H=À (b,τ)->k a H b τ=À r->C):C:=dI h λa H h1 h=>dI h λb τ h2 h=>c a H b τ h1 h2 h
theorem oO{α β γ:Type}{m:Option (α×β×ag)}{k:α->β->ag->Option γ}{r:γ}{C:Prop}(h:mG m k=À r)(c:∀a b H,m=À (a,b,H)->k a b H=À r->C):C:=(sr h).elim λa q=>q.elim λb q=>q.elim λH q=>c a b H q.1 q.2
theorem j8{β:Type}{m:Option (V×ag)}{k:Bool->ag->Option β}{r:β}{C:Prop}(h:lP m k=À r)(c:∀b H,m=À (.bool b,H)->k b H=À r->C):C:=(su h).elim λa q=>q.elim λH q=>c a H q.1 q.2
theorem oP{β:Type}{m:Option (V×ag)}{k:Int->ag->Option β}{r:β}{C:Prop}(h:mJ m k=À r)(c:∀b H,m=À (.int b,H)->k b H=À r->C):C:=(Ci h).elim λa q=>q.elim λH q=>c a H q.1 q.2
theorem dJ{α:Type}{c:Prop}[Decidable c]{x:Option α}{r:α}{C:Prop}(h:(if c then x else Ã)=À r)(k:c->x=À r->C):C:=k (cZ h).1 (cZ h).2
theorem dM{α:Type}{a b:α}{C:α->Prop}(h:À a=À b)(k:C a):C b:=sm h▸k
theorem du{α β:Type}{a a':α}{b b':β}{C:α->β->Prop}(h:À (a,b)=À (a',b'))(k:C a b):C a' b':=dM (C:=λp=>C p.1 p.2) h k
theorem i6{α β γ:Type}{a a':α}{b b':β}{c c':γ}{C:α->β->γ->Prop}(h:À (a,b,c)=À (a',b',c'))(k:C a b c):C a' b' c':=dM (C:=λp=>C p.1 p.2.1 p.2.2) h k
theorem qD{β:Type}{H:ag}{w:List (Nat×bp)}{x:Option β}{r:β}{C:Prop}(h:gv H w x=À r)(c:cD H w->x=À r->C):C:=c (oY h).1 (oY h).2
end L.Lake
namespace L.Lake
open PySem
structure gq where
 funs:List Str
 consts:List (Str×Int)
 classes:List (Str×Nat)
 calm:List Nat
noncomputable def jh(scope bT:à):à:=
 {scope with names:=scope.names.map λ(n,k)=>if (k==.free&&bT.kind==.function&&bT.names.lookup n==À .cell) then (n,.cell) else (n,k)}
noncomputable def f0(sc:à):Bool:=sc.names.all λx=>x.2 != .free&&x.1 != (".0":Str)
noncomputable def Gw:Ĉ->Bool
 |.local=>Æ
 |.cell=>Æ
 |.free=>Æ
 |_=>Ê
def vV(cx:gq)(sc:à)(O:List (Str×Nat))(x:Str):Option CE:=
 if x==("__debug__":Str)||x==("__classdict__":Str) then Ã else
 (sc.names.lookup x).bind λk=>if Gw k then (O.lookup x).bind λi=>À (.var i) else if k==.globalImplicit then (cx.consts.lookup x).bind λi=>À (.cst (.int i)) else Ã
noncomputable def li{α:Type}:List α->Option α
 |[]=>Ã
 |a::r=>if r.isEmpty then À a else Ã
def two{α:Type}:List α->Option (α×α)
 |[]=>Ã
 |a::r=>(li r).bind λb=>À (a,b)
theorem bZ{α:Type}{l:List α}{a:α}(h:li l=À a):l=[a]:=by
 cases l with
 |nil=>show no h
 |cons b t=>
  cases t with
  |nil=>show congrArg (λx=>[x]) (sm h)
  |cons c t=>show no h
theorem ik{α:Type}{l:List α}{p:α×α}(h:two l=À p):l=[p.1,p.2]:=by
 cases l with
 |nil=>show no h
 |cons b t=>show ca (α:=α) h λc h1 h2=>dM (C:=λp=>b::t=[p.1,p.2]) h2 (congrArg (b::·) (bZ h1))
noncomputable def Mp{α:Type}(d:α)(O:Str->α)(tp:List Ó->α)(cl:Ó->List Ó->List Keyword->α)(lm:ĺ->Ó->à->α):Ó->α
 |.Name x _=>O x
 |.Tuple l _ _=>tp l
 |.Call f as ks _=>cl f as ks
 |.Lambda ps b sc _=>lm ps b sc
 |_=>d
theorem Q6{α:Type}{r:α}{O:Str->Option α}{tp:List Ó->Option α}{cl:Ó->List Ó->List Keyword->Option α}{lm:ĺ->Ó->à->Option α}{e:Ó}{C:Ó->Prop}(h:Mp Ã O tp cl lm e=À r)
  (h1:∀x p,O x=À r->C (.Name x p)) (h2:∀l k p,tp l=À r->C (.Tuple l k p)) (h3:∀f as ks p,cl f as ks=À r->C (.Call f as ks p)) (h4:∀ps b sc p,lm ps b sc=À r->C (.Lambda ps b sc p)):C e:=by
 cases e with
 |Name x p=>show h1 x p h
 |Tuple l k p=>show h2 l k p h
 |Call f as ks p=>show h3 f as ks p h
 |Lambda ps b sc p=>show h4 ps b sc p h
 |_=>show no h
noncomputable def n1{α β:Type}(_:α):Option β:=Ã
noncomputable def n3{α β γ δ:Type}(_:α)(_:β)(_:γ):Option δ:=Ã
def dx:Ó->Option Str:=Mp Ã À n1 n3 n3
theorem bH{e:Ó}{x:Str}(h:dx e=À x):∃p,e=.Name x p:=
 Q6 (C:=λe=>∃p,e=.Name x p) h (λy p h=>⟨p,congrArg (Expr.Name · p) (sm h)⟩) (λz z z h=>no h) (λz z z z h=>no h) λz z z z h=>no h
noncomputable def cj(f:Ó->Option CE):List Ó->Option gF
 |[]=>À .nil
 |e::r=>(f e).bind λc=>(cj f r).bind λcs=>À (.cons c cs)
noncomputable def UJ(op:BoolOp)(a b:CE):CE:=match op with
 |.And=>.and a b
 |.Or=>.or a b
noncomputable def vN(f:Ó->Option CE)(op:BoolOp):List Ó->Option CE
 |[]=>Ã
 |e::r=>if r.isEmpty then f e else (f e).bind λa=>(vN f op r).bind λb=>À (UJ op a b)
noncomputable def yB:Const->Option V
 |.none=>À .none
 |.bool b=>À (.bool b)
 |.int i=>À (.int i)
 |.str s=>À (.str s)
 |_=>Ã
noncomputable def E6(f:Ó->Option CE):Option Ó->Option CE
 |none=>À (.cst .none)
 |some e=>f e
noncomputable def bg(sc:à)(x:Str):Bool:=sc.names.lookup x==À .globalImplicit && !(x==("__debug__":Str))
noncomputable def eV:List Str:=["len","sum","min","max","tuple","list","str","int","isinstance","sorted","range","zip","enumerate","bool","ValueError"]
noncomputable def BK{α:Type}(t:List (Str×Nat×α))(x:Str)(n:Nat):Option α:=(t.find? λq=>q.1==x&&q.2.1==n).bind λq=>À q.2.2
theorem mh{α:Type}{t:List (Str×Nat×α)}{x:Str}{n:Nat}{a:α}(h:BK t x n=À a):(x,n,a)∈t:=by
 show ca h λq h1 h2=>?_;apply dM h2;have h3:=List.find?_some h1
 simp only[Ň,beq_iff_eq]at h3
 show aP h3 λq1 q2=>?_;apply fQ q1;apply fQ q2;show List.mem_of_find?_eq_some h1
noncomputable def Bp:List (Str×Nat×nW):=[("len",1,.len),("sum",1,.sum),("min",2,.min2),("max",2,.max2),("min",1,.min1),("max",1,.max1),("tuple",1,.tuple),("list",1,.list),("str",1,.str),("int",1,.int),("sorted",1,.sorted)]
def E7(x:Str)(n:Nat):Option nW:=BK Bp x n
noncomputable def Gx:List (Str×Nat×nW):=[("int",0,.isInt),("bool",0,.isBool),("tuple",0,.isTuple),("str",0,.isStr),("list",0,.isList)]
def Oj(x:Str):Option nW:=BK Gx x 0
noncomputable def Bg:List (Str×Nat×j4):=[("append",1,.append),("extend",1,.extend),("find",1,.find),("get",2,.get),("join",1,.join)]
def AE(x:Str)(n:Nat):Option j4:=BK Bg x n
noncomputable def g8(cx:gq)(x:Str):Option Nat:=cx.funs.findIdx? (·==x)
noncomputable def oJ(sc:à)(O:List (Str×Nat))(x:Str):Option Nat:=if sc.names.lookup x==À .local||sc.names.lookup x==À .cell then O.lookup x else Ã
def L8:Ó->Option (List Ó):=Mp Ã n1 À n3 n3
theorem qe{e:Ó}{l:List Ó}(h:L8 e=À l):∃k p,e=.Tuple l k p:=
 Q6 (C:=λe=>∃k p,e=.Tuple l k p) h (λz z h=>no h) (λm k p h=>⟨k,p,congrArg (Expr.Tuple · k p) (sm h)⟩) (λz z z z h=>no h) λz z z z h=>no h
def fX(sc:à)(O:List (Str×Nat))(e:Ó):Option jR:=match dx e with
 |some x=>(oJ sc O x).bind λi=>À (.one i)
 |none=>(L8 e).bind λl=>(two l).bind λp=>(dx p.1).bind λx=>(dx p.2).bind λy=>if x==y then Ã else (oJ sc O x).bind λi=>(oJ sc O y).bind λj=>À (.two i j)
def bh:Ó->List Str:=Mp [] (λx=>[x]) (λl=>l.filterMap dx) (λz z z=>[]) (λz z z=>[])
noncomputable def z9:Ó->Bool
 |.Name _ _=>Æ
 |.Constant _ _ _=>Æ
 |.Subscript _ _ _=>Æ
 |_=>Ê
noncomputable def o4:jq->Bool
 |.zip _ _=>Æ
 |.enm _=>Æ
 |_=>Ê
noncomputable def jR.isTwo:jR->Bool
 |.one _=>Ê
 |.two _ _=>Æ
def mV(it:jq)(t:jR):Bool:=!o4 it||t.isTwo
noncomputable def cq(scope:à)(O:List (Str×Nat))(nx:Nat)(ts:List Str):List (Str×Nat):=
 ts.zipIdx nx++(scope.names.filterMap λ(n,k)=>if k==.free then (O.lookup n).map λi=>(n,i) else Ã)
def tO(scope bT:à)(O:List (Str×Nat))(nx:Nat)(ts:List Str):Bool:=
 scope.kind==.function &&
 scope.names.all (λ(_,k)=>k==.local||k==.cell||k==.free||k==.globalImplicit) &&
 scope.names.all (λ(n,k)=>scope.names.lookup n==À k) &&
 scope.names.all (λ(n,k)=>k != .free||((bT.names.lookup n==À .cell||bT.names.lookup n==À .free)&&(O.lookup n).isSome)) &&
 scope.names.all (λ(n,k)=>!(k==.local||k==.cell)||n==(".0":Str)||ts.contains n) &&
 ts.all (λt=>scope.names.lookup t==À .local||scope.names.lookup t==À .cell) &&
 O.all (λ(_,i)=>decide (i<nx)) &&
 !f0 (jh scope bT)
noncomputable def W8(op:UnaryOp)(a:CE):Option CE:=match op with
 |.Not=>À (.not a)
 |.USub=>À (.neg a)
 |_=>Ã
def QW(f:Ó->Option CE)(l:Ó)(ops:List CmpOp)(rs:List Ó):Option CE:=(li ops).bind λop=>(li rs).bind λr=>if behindInMarks op r then Ã else (f l).bind λa=>(f r).bind λb=>À (.cmp op a b)
def QY(f:Ó->Option CE)(v i:Ó):Option CE:=(f v).bind λa=>match i with
 |.Slice lo hi st _=>if st.isNone then (E6 f lo).bind λx=>(E6 f hi).bind λy=>À (.slc a x y) else Ã
 |i=>(f i).bind λx=>À (.idx a x)
def Mb(f:Ó->Option CE)(sc:à)(as:List Ó):Option CE:=(two as).bind λp=>(dx p.2).bind λt=>if bg sc t then (Oj t).bind λq=>(f p.1).bind λa=>À (.prim q (.cons a .nil)) else Ã
noncomputable def gZ:List (Str×Nat):=[("LarderError",0),("TooMuch",1),("Short",2),("ValueError",3)]
def Me(as:List Ó):Option Nat:=(two as).bind λp=>(dx p.2).bind λt=>gZ.lookup t
def Oi(f:Ó->Option CE)(sc:à)(as:List Ó):Option CE:=(two as).bind λp=>(dx p.2).bind λt=>if bg sc t then (gZ.lookup t).bind λc=>(f p.1).bind λa=>À (.isC c a) else Ã
def j9:Ó->Option (Str×List Ó):=Mp Ã n1 n1 (λfn as ks=>if ks.isEmpty then (dx fn).bind λg=>À (g,as) else Ã) n3
theorem iW{e:Ó}{g:Str}{as:List Ó}(h:j9 e=À (g,as)):∃p q,e=.Call (.Name g p) as [] q:=
 Q6 (C:=λe=>∃p q,e=.Call (.Name g p) as [] q) h (λz z h=>no h) (λz z z h=>no h) (λfn W3 ks q h=>dJ h λh1 h2=>ca h2 λx h3 h4=>
  du (C:=λg as=>∃p q',Expr.Call fn W3 ks q=.Call (.Name g p) as [] q') h4 ((bH h3).elim λp e=>⟨p,q,by rw[e,Ų.mp h1]⟩)) λz z z z h=>no h
def Ir(cx:gq)(sc:à)(g:Str)(as:List Ó):Option (Ó×Ó):=if g==("list":Str) then (li as).bind λe=>(j9 e).bind λq=>if q.1==("zip":Str)&&bg sc ("zip":Str)&&(g8 cx ("zip":Str)).isNone then two q.2 else Ã else Ã
noncomputable def UL(f:Ó->Option CE)(p:Ó×Ó):Option CE:=(f p.1).bind λx=>(f p.2).bind λy=>À (.zipl x y)
def qg(f:Ó->Option CE)(cx:gq)(sc:à)(g:Str)(as:List Ó):Option CE:=match g8 cx g with
 |some k=>if as.isEmpty then Ã else (cj f as).bind λcs=>À (.call k cs)
 |none=>if g==("isinstance":Str) then (if (Me as).isSome then Oi f sc as else Mb f sc as) else match Ir cx sc g as with
  |some p=>UL f p
  |none=>(E7 g as.length).bind λp=>(cj f as).bind λcs=>À (.prim p cs)
noncomputable def dw(p:ĺ):Bool:=p.posonlyargs.isEmpty&&p.vararg.isNone&&p.kwonlyargs.isEmpty&&p.kw_defaults.isEmpty&&p.kwarg.isNone&&p.defaults.isEmpty
def M5:Ó->Option (Arg×Ó×à):=Mp Ã n1 n1 n3 λps body scope=>if dw ps then (li ps.args).bind λa=>À (a,body,scope) else Ã
theorem zG{e:Ó}{a:Arg}{body:Ó}{scope:à}(h:M5 e=À (a,body,scope)):∃ps pos,e=.Lambda ps body scope pos/\dw ps=Æ/\ps.args=[a]:=
 Q6 (C:=λe=>∃ps pos,e=.Lambda ps body scope pos/\dw ps=Æ/\ps.args=[a]) h (λz z h=>no h) (λz z z h=>no h) (λz z z z h=>no h) λps b sc p h=>
  dJ h λh1 h2=>ca h2 λc h3 h4=>i6 (C:=λa body scope=>∃Nn pos,Expr.Lambda ps b sc p=.Lambda Nn body scope pos/\dw Nn=Æ/\Nn.args=[a]) h4 ⟨ps,p,N,h1,bZ h3⟩
def GJ(scope bT:à)(O:List (Str×Nat))(nx:Nat)(x:Str):Bool:=
 scope.kind==.function && !scope.isGenerator && !scope.isCoroutine &&
 scope.names.all (λ(_,k)=>k==.local||k==.free||k==.globalImplicit) &&
 scope.names.all (λ(n,k)=>scope.names.lookup n==À k) &&
 scope.names.all (λ(n,k)=>k != .free||((bT.names.lookup n==À .cell||bT.names.lookup n==À .free)&&(O.lookup n).isSome)) &&
 scope.names.lookup x==À .local &&
 O.all (λ(_,i)=>decide (i<nx)) &&
 !f0 scope
noncomputable def QO:Const->Option Int
 |.int i=>À i
 |_=>Ã
noncomputable def QP:CE->Option Nat
 |.var i=>À i
 |_=>Ã
def Eh(cx:gq)(sc:à)(O:List (Str×Nat)):Nat->Ó->Option KX
 |0,_=>Ã
 |n+1,e=>match e with
  |.Name x _=>(vV cx sc O x).bind λc=>(QP c).bind λi=>À (.var i)
  |.Constant c _ _=>(QO c).bind λi=>À (.num i)
  |.Subscript v i _=>(Eh cx sc O n v).bind λa=>(Eh cx sc O n i).bind λb=>À (.idx a b)
  |.Tuple es _ _=>(two es).bind λp=>(Eh cx sc O n p.1).bind λa=>(Eh cx sc O n p.2).bind λb=>À (.pair a b)
  |_=>Ã
noncomputable def Sa:jq->Bool
 |.ex _=>Æ
 |.rng1 _=>Æ
 |_=>Ê
def Tb(fI:Ó->Option jq)(cx:gq)(sc:à)(O:List (Str×Nat))(nx:Nat)(as:List Ó)(k:Keyword):Option CE:=
 (li as).bind λx=>(M5 k.value).bind λq=>if k.arg==À ("key":Str)&&f0 sc&&GJ q.2.2 sc O nx q.1.arg then
  (fI x).bind λit=>if Sa it then (Eh cx q.2.2 (cq q.2.2 O nx [q.1.arg]) 50 q.2.1).bind λkx=>À (.sortK it nx kx) else Ã else Ã
noncomputable def A9:Ó->Bool
 |.Constant c _ _=>match c with
  |.none=>Æ
  |_=>Ê
 |_=>Ê
def E3(f:Ó->Option CE)(g:Str)(as:List Ó)(k:Keyword):Option CE:=(li as).bind λx=>if g==("min":Str)&&k.arg==À ("default":Str)&&A9 k.value then (f x).bind λa=>À (.prim .minD (.cons a .nil)) else Ã
def E2(f:Ó->Option CE)(sk:List Ó->Keyword->Option CE)(cx:gq)(sc:à)(fn:Ó)(as:List Ó)(ks:List Keyword)(pos:Pos):Option CE:=match fn with
 |.Name g _=>if bg sc g then (match ks with
  |[]=>qg f cx sc g as
  |k::ks=>if ks.isEmpty then (if g==("sorted":Str) then sk as k else E3 f g as k) else Ã) else Ã
 |.Attribute o m ap=>if ks.isEmpty&&z9 o&&ap.endLine==pos.line then (AE m as.length).bind λp=>(f o).bind λa=>(cj f as).bind λcs=>À (.meth p a cs) else Ã
 |_=>Ã
def W6(F:à->List (Str×Nat)->Nat->Ó->Option CE)(fI:Ó->Option jq)(sc:à)(O:List (Str×Nat))(nx:Nat)(elt:Ó)(ua:List Comprehension)(scope:à):Option CE:=
 (li ua).bind λgn=>if gn.is_async==0&&tO scope sc O nx (bh gn.target) then
  (fI gn.iter).bind λit=>(fX (jh scope sc) (cq scope O nx (bh gn.target)) gn.target).bind λt=>
  (cj (F (jh scope sc) (cq scope O nx (bh gn.target)) (nx+2)) gn.ifs).bind λcs=>(F (jh scope sc) (cq scope O nx (bh gn.target)) (nx+2) elt).bind λc=>
  if mV it t then À (.comp c t it cs) else Ã
 else Ã
noncomputable def E9(f:Ó->Option CE):List Ó->Option jq
 |[]=>Ã
 |a::r=>(f a).bind λx=>match r with
  |[]=>À (.rng1 x)
  |b::r=>(f b).bind λy=>match r with
   |[]=>À (.rng2 x y)
   |c::r=>(f c).bind λz=>if r.isEmpty then À (.rng3 x y z) else Ã
noncomputable def Cj(f:Ó->Option CE)(e:Ó):Option jq:=(f e).bind λc=>À (.ex c)
def Ok(f:Ó->Option CE)(g:Str)(as:List Ó)(e:Ó):Option jq:=
 if g==("range":Str) then E9 f as
 else if g==("zip":Str) then (two as).bind λp=>(f p.1).bind λx=>(f p.2).bind λy=>À (.zip x y)
 else if g==("enumerate":Str) then (li as).bind λa=>(f a).bind λx=>À (.enm x)
 else Cj f e
def Eg(f:Ó->Option CE)(cx:gq)(sc:à)(e:Ó):Option jq:=match j9 e with
 |some p=>if bg sc p.1&&(g8 cx p.1).isNone then Ok f p.1 p.2 e else Cj f e
 |none=>Cj f e
def yC(F:à->List (Str×Nat)->Nat->Ó->Option CE)(fI:Ó->Option jq)(cx:gq)(sc:à)(O:List (Str×Nat))(nx:Nat):Ó->Option CE
 |.Constant c _ _=>(yB c).bind λv=>À (.cst v)
 |.Name x _=>vV cx sc O x
 |.BinOp l op r _=>(F sc O nx l).bind λa=>(F sc O nx r).bind λb=>À (.bin op a b)
 |.UnaryOp op x _=>(F sc O nx x).bind (W8 op)
 |.BoolOp op vs _=>vN (F sc O nx) op vs
 |.IfExp t a b _=>(F sc O nx t).bind λx=>(F sc O nx a).bind λy=>(F sc O nx b).bind λz=>À (.ite x y z)
 |.Compare l ops rs _=>QW (F sc O nx) l ops rs
 |.List es _=>(cj (F sc O nx) es).bind λcs=>À (.list cs)
 |.Tuple es _ _=>(cj (F sc O nx) es).bind λcs=>À (.tuple cs)
 |.Dict ks vs _=>if ks.isEmpty&&vs.isEmpty then À .dict0 else Ã
 |.Subscript v i _=>QY (F sc O nx) v i
 |.Call fn as ks pos=>E2 (F sc O nx) (Tb fI cx sc O nx) cx sc fn as ks pos
 |.ListComp elt ua scope _=>W6 F fI sc O nx elt ua scope
 |.Attribute o a _=>if a==("word":Str)&&(dx o).isSome then (F sc O nx o).bind λc=>À (.word c) else Ã
 |_=>Ã
def cr(cx:gq):Nat->à->List (Str×Nat)->Nat->Ó->Option CE
 |0,_,_,_,_=>Ã
 |n+1,sc,O,nx,e=>yC (cr cx n) (λi=>Eg (cr cx n sc O nx) cx sc i) cx sc O nx e
def vO(cx:gq)(n:Nat)(sc:à)(O:List (Str×Nat))(nx:Nat)(e:Ó):Option jq:=Eg (cr cx n sc O nx) cx sc e
def W7(Q:Ó->Option CE)(cx:gq)(sc:à)(O:List (Str×Nat)):Ó->Option CE
 |.Constant c _ _=>(yB c).bind λv=>À (.cst v)
 |.Name x _=>vV cx sc O x
 |.UnaryOp op x _=>(Q x).bind (W8 op)
 |.BoolOp op vs _=>vN Q op vs
 |.List es _=>(cj Q es).bind λcs=>À (.list cs)
 |.Attribute o a _=>if a==("word":Str)&&(dx o).isSome then (Q o).bind λc=>À (.word c) else Ã
 |.Call fn as ks _=>(dx fn).bind λg=>if ks.isEmpty&&bg sc g then (match g8 cx g with
  |some k=>if as.isEmpty || !cx.calm.contains k then Ã else (cj Q as).bind λcs=>À (.call k cs)
  |none=>if g==("isinstance":Str) then Oi Q sc as else Ã) else Ã
 |_=>Ã
def cQ(cx:gq)(sc:à)(O:List (Str×Nat)):Nat->Ó->Option CE
 |0,_=>Ã
 |n+1,e=>W7 (cQ cx sc O n) cx sc O e
noncomputable def QX(f:Ó->Option CE)(B:List đ->Option fx):đ->Option CS
 |.If t a b _=>(f t).bind λx=>(B a).bind λy=>(B b).bind λz=>À (.ite x y z)
 |.Return v _=>v.bind λe=>(f e).bind λc=>À (.ret c)
 |_=>Ã
noncomputable def eD(S:đ->Option CS):List đ->Option fx
 |[]=>À .nil
 |s::r=>(S s).bind λa=>(eD S r).bind λb=>À (.cons a b)
def Jh(cx:gq)(sc:à)(O:List (Str×Nat)):Nat->đ->Option CS
 |0,_=>Ã
 |n+1,s=>QX (cQ cx sc O n) (eD (Jh cx sc O n)) s
def Bq(o:Option Ó):Option (Str×Ó):=o.bind (Mp Ã n1 n1 (λfn as ks=>if ks.isEmpty then (dx fn).bind λx=>(li as).bind λe=>À (x,e) else Ã) n3)
theorem uT{o:Option Ó}{x:Str}{e:Ó}(h:Bq o=À (x,e)):∃p q,o=À (.Call (.Name x p) [e] [] q):=
 ca h λc h0 h=>Q6 (C:=λc=>o=À c->∃p q,o=À (.Call (.Name x p) [e] [] q)) h (λk k h=>no h) (λk k k h=>no h) (λfn as ks q h h0=>dJ h λh1 h2=>ca h2 λy h3 h4=>ca h4 λz h5 h6=>
  du (C:=λx e=>∃p q,o=À (.Call (.Name x p) [e] [] q)) h6 ((bH h3).elim λp e=>⟨p,q,by rw[h0,e,Ų.mp h1,bZ h5]⟩)) (λk k k k h=>no h) h0
noncomputable def WF:(st:đ)->Option {e:Ó // ∃p,st=.Return (À e) p}
 |.Return v p=>match v with
  |some e=>À ⟨e,p,N⟩
  |none=>Ã
 |_=>Ã
def MG(x:Str)(n:Str)(b:List đ)(l:List ŕ):Prop:=∃p q,l=[.ExceptHandler (À (.Name x p)) (À n) b q]
def F2(l:List ŕ):Option (Str×Str×List đ):=(li l).bind λh=>match h with
 |.ExceptHandler t n b _=>t.bind λt=>(dx t).bind λx=>n.bind λn=>À (x,n,b)
theorem wD{l:List ŕ}{x n:Str}{b:List đ}(h:F2 l=À (x,n,b)):∃p q,l=[.ExceptHandler (À (.Name x p)) (À n) b q]:=by
 show ca h λa h1 h2=>?_;cases a with|ExceptHandler t m c q=>
 show ca h2 λt' h3 h4=>ca h4 λy h5 h6=>ca h6 λm' h7 h8=>i6 (C:=λx n b=>MG x n b l) h8 ((bH h5).elim λp e=>⟨p,q,by rw[bZ h1,h3,h7,e]⟩)
def zx:Ó->Bool:=Mp Ê (λz=>Ê) (λz=>Æ) (λz z z=>Ê) (λz z z=>Ê)
def UH(f:Ó->Option CE)(sc:à)(O:List (Str×Nat))(t v:Ó):Option CS:=match t with
 |.Name x p=>(fX sc O (.Name x p)).bind λt=>(f v).bind λa=>À (.assign t a)
 |.Tuple ts k p=>if zx v then Ã else (fX sc O (.Tuple ts k p)).bind λt=>(f v).bind λa=>À (.assign t a)
 |.Subscript o i _=>(f o).bind λa=>(f i).bind λb=>(f v).bind λc=>À (.setItem a b c)
 |_=>Ã
noncomputable def j4.isStep:j4->Bool
 |.append=>Æ
 |.extend=>Æ
 |_=>Ê
def Mc(c:CE):Option CS:=match c with
 |.meth m o as=>if m.isStep then À (.expr (.meth m o as)) else Ã
 |_=>Ã
def UK(f:Ó->Option CE)(e:Ó):Option CS:=match e with
 |.Call fn as ks p=>(f (.Call fn as ks p)).bind Mc
 |_=>Ã
def Fb(f:Ó->Option CE)(fI:Ó->Option jq)(B KE:List đ->Option fx)(sc:à)(O:List (Str×Nat)):đ->Option CS
 |.Assign ts v _=>(li ts).bind λt=>UH f sc O t v
 |.Expr e _=>UK f e
 |.If t a b _=>(f t).bind λx=>(B a).bind λy=>(B b).bind λz=>À (.ite x y z)
 |.For t it body kB _=>if kB.isEmpty then (fX sc O t).bind λx=>(fI it).bind λy=>(B body).bind λz=>if mV y x then À (.for_ x y z) else Ã else Ã
 |.While t body kB _=>if kB.isEmpty then (f t).bind λx=>(B body).bind λz=>À (.while_ x z) else Ã
 |.Return v _=>v.bind λe=>(f e).bind λc=>À (.ret c)
 |.Raise exc Md _=>if Md.isNone then (Bq exc).bind λp=>if bg sc p.1 then (gZ.lookup p.1).bind λc=>if c==1||c==2 then (f p.2).bind λa=>À (.raise_ c a) else Ã else Ã else Ã
 |.Try body hs kB ip _=>if kB.isEmpty&&ip.isEmpty then (F2 hs).bind λq=>if bg sc q.1&&q.1==("LarderError":Str) && !q.2.2.isEmpty&&(sc.names.lookup q.2.1==À .local) then (oJ sc O q.2.1).bind λi=>(li body).bind λst=>(WF st).bind λe=>(f e.1).bind λa=>(KE q.2.2).bind λy=>À (.try_ (.cons (.ret a) .nil) i y) else Ã else Ã
 |_=>Ã
def sw(cx:gq)(sc:à)(O:List (Str×Nat))(nx:Nat):Nat->đ->Option CS
 |0,_=>Ã
 |n+1,s=>Fb (cr cx n sc O nx) (vO cx n sc O nx) (eD (sw cx sc O nx n)) (eD (Jh cx sc O n)) sc O s
noncomputable def eC(sc:à):List (Str×Nat):=((sc.names.filter λ(_,k)=>k==.local||k==.cell).map (·.1)).zipIdx
def E5(cx:gq)(params:ĺ)(sc:à)(body:List đ):Option bj:=
  let O:=eC sc
  let as:=params.args
  if dw params&&sc.kind==.function && !sc.isGenerator && !sc.isCoroutine &&
   sc.names.all (λ(n,k)=>sc.names.lookup n==À k&&(k==.local||k==.cell||k==.globalImplicit)) &&
   decide (as.map (·.arg)=(O.map (·.1)).take as.length)&&decide ((O.map (·.1)).Nodup) then
   (eD (sw cx sc O O.length 200) body).bind λb=>À ⟨as.length,b⟩
  else Ã
end L.Lake
set_option backward.match.sparseCases true
namespace L.Lake
open PySem PyProof.Rows PySem.Calls
structure G where
 prog:ö
 w:World
 B:Ô
 tabs:List (Str×È)
 cls:Nat->È
def j3(o:Obj):Prop:=(o.cls=.type "tuple"/\∃cX n,o.data=.seq cX n)\/(o.cls=.type "code"/\∃vs,o.data=.fields vs)
def gJ(h:Ô)(b:È)(o:Obj):Prop:=h.get? b=À o\/((∃es ep,o.data=.dict es ep)/\∃sl,h.get? b=À {o with slots:=sl})
mutual
inductive VR(g:G)(J:List È)(h:Ô):V->Ä->Prop
 |none:VR g J h .none .none
 |bool (b:Bool):VR g J h (.bool b) (.bool b)
 |int (i:Int) (t:Tok):VR g J h (.int i) (.int i t)
 |str (x:Str) (t:Tok):VR g J h (.str x) (.str x t)
 |tup {l:List V} {a:È} {vs:List Ä}:h.IsTuple a vs.toArray->l.length<=ax+1->bz g J h l vs->a∉J->VR g J h (.tup l) (.ref a)
 |ref {n:Nat} {a:È}:J[n]?=À a->VR g J h (.ref n) (.ref a)
 |ro {ns:List Int} {a:È} {vs:List Ä}:g.B.IsList a vs.toArray->ns.length<=ax+1->ñ vs ns->VR g J h (.ro ns) (.ref a)
inductive bz(g:G)(J:List È)(h:Ô):List V->List Ä->Prop
 |nil:bz g J h [] []
 |cons {v:V} {a:Ä} {l:List V} {vs:List Ä}:VR g J h v a->bz g J h l vs->bz g J h (v::l) (a::vs)
end
inductive MR(g:G)(J:List È)(h:Ô):bp->È->Prop
 |lst {l:List V} {a:È} {vs:List Ä}:h.PlainList a vs.toArray->l.length<=ax+1->bz g J h l vs->MR g J h (.lst l) a
 |di {l:List (Int×V)} {a:È} {kvs:List (Int×Ä)}:h.DictOf (intKind g.prog g.w) a kvs->kvs.map (·.1)=l.map (·.1)->bz g J h (l.map (·.2)) (kvs.map (·.2))->MR g J h (.di l) a
 |ds {l:List (Str×V)} {a:È} {kvs:List (Str×Ä)}:h.DictOf (strKind g.prog g.w) a kvs->kvs.map (·.1)=l.map (·.1)->bz g J h (l.map (·.2)) (kvs.map (·.2))->MR g J h (.ds l) a
 |own {a:È} {x y:Ä}:h.get? a=À {cls:=.type "tuple",data:=.seq #[x,y]}->MR g J h .own a
 |wd {w:Str} {a:È} {m:Str->Option Ä} {t:Tok}:h.Ns a m->m ("word":Str)=À (.str w t)->MR g J h (.wd w) a
 |exn {c d:Nat} {a D:È} {o:Obj} {vs:Array Ä}:h.get? a=À o->o.cls=.ref (g.cls c)->o.data=.fields vs->o.dict=À D->J[d]?=À D->MR g J h (.exn c d) a
 |tab {q:Str} {a:È} {ps:Array Ä}:h.get? a=À {cls:=.none,data:=.fields ps}->ĝ ps.toList->(∀pos cv,ė pos ps.toList=À cv->∃c' o vs t,cv=.ref c'/\c'∉J/\h.get? c'=À o/\o.cls=.type "code"/\o.data=.fields vs/\vs[1]?=À (.str (q++"<lambda>") t))->MR g J h (.tab q) a
structure ak(g:G)(J:List È)(H:ag)(h:Ô):Prop where
 base:∀b o,g.B.get? b=À o->h.get? b=À o
 fresh:∀a∈J,g.B.get? a=Ã
 len:J.length=H.length
 nodup:J.Nodup
 objs:∀(i:Nat) (a:È) (m:bp),J[i]?=À a->H[i]?=À m->MR g J h m a
 tabs:∀(j:Nat) (q:Str) (P:È),g.tabs[j]?=À (q,P)->J[j]?=À P/\H[j]?=À (.tab q)
structure db(ms:È->Prop)(J:List È)(h:Ô)(aR:List È)(h':Ô):Prop where
 pres:∀b o,h.get? b=À o->¬ ms b->gJ h' b o
 dom:∀b o,h.get? b=À o->∃o',h'.get? b=À o'
 ext:∃t,aR=J++t/\∀a∈t,h.get? a=Ã
abbrev SE(J:List È)(h:Ô)(aR:List È)(h':Ô):Prop:=db (λb=>b∈J) J h aR h'
def bP(s s':Å):Prop:=s'.gens=s.gens/\s'.drawn=s.drawn/\s'.os=s.os
inductive bD(g:G)(J:List È)(s:Å)(v:V)(ae:ag)(a:Ä)(s':Å):Prop
 |mk (aR:List È) (S:SE J s.heap aR s'.heap) (R:ak g aR ae s'.heap) (V:VR g aR s'.heap v a) (T:bP s s'):bD g J s v ae a s'
theorem bD.el{g:G}{J:List È}{s:Å}{v:V}{ae:ag}{a:Ä}{s':Å}{C:Prop}(x:bD g J s v ae a s')(k:∀aR,SE J s.heap aR s'.heap->ak g aR ae s'.heap->VR g aR s'.heap v a->bP s s'->C):C:=bD.casesOn (motive:=λz=>C) x k
def NX(g:G)(q:Str)(cd:Ä):Prop:=∃(j:Nat) (c P:È) (KE:Ô),g.tabs[j]?=À (q,P)/\cd=.ref c/\KE.IsCode c P #[]/\KE.TableAt c P #[]/\∀o,KE.get? c=À o->g.B.get? c=À o
structure Fn where
 name:Str
 addr:È
 params:ĺ
 body:List đ
 scope:à
noncomputable def jX:List Ä:=[.type "ValueError",.type "Exception",.type "BaseException",.type "object"]
noncomputable def iz:List Str:=["__module__","__firstlineno__","__init__","__static_attributes__","__weakref__","__doc__"]
structure Ew where
 pzJ:È
 O:Str
 q:Str
 bs:List Ä
 sub:List Ä
 k0:Option Ä
 k1:Option Ä
 k2:Option Ä
 k3:Option Ä
 k5:Option Ä
noncomputable abbrev Ew.obj(d:Ew)(C:È)(tl:List Ä):Obj:=excClassObj d.O d.q C d.pzJ d.bs tl Æ [] d.sub Ê Ã Ã d.k0 d.k1 d.k2 d.k3 d.k5 "ValueError.__new__"
structure fy(h:Ô)(C:È)(tl:List Ä)(mN:Str->Option Ä):Prop where
 obj:∃d:Ew,h.get? C=À (d.obj C tl)/\h.Ns d.pzJ mN
 quiet:∀n,n∉iz->mN n=Ã
def O7(fd:ī):Prop:=∃p1 p2 p3 p4,fd.body=.stmts [.Assign [.Attribute (.Name ("self":Str) p1) ("word":Str) p2] (.Name ("word":Str) p3) p4]
structure Qy(o:Obj)(fd:ī)(a1 a2:Arg):Prop where
 cls:o.cls=.type "function"
 data:o.data=.func fd
 init:O7 fd
 params:fd.params=⟨[],[a1,a2],Ã,[],[],Ã,[]⟩
 n1:a1.arg=("self":Str)
 n2:a2.arg=("word":Str)
 names:fd.scope.names=[(("self":Str),NameKind.local),(("word":Str),NameKind.local)]
 kind:fd.scope.kind=.function
 gen:fd.scope.isGenerator=Ê
 co:fd.scope.isCoroutine=Ê
 gl:fd.globals=Û
 clo:fd.closure=[]
 df:fd.defaults=.none
 bl:fd.builtins=ą
structure iO(h:Ô)(f:È):Prop where
 ex:∃o fd a1 a2,h.get? f=À o/\Qy o fd a1 a2/\h.CodeRec fd.code fd.qualname
structure T7(g:G)(mg:Str->Option Ä):Prop where
 n0:mg ("LarderError":Str)=À (.ref (g.cls 0))
 n1:mg ("TooMuch":Str)=À (.ref (g.cls 1))
 n2:mg ("Short":Str)=À (.ref (g.cls 2))
 c0:∃mN f,fy g.B (g.cls 0) jX mN/\mN ("__init__":Str)=À (.ref f)/\iO g.B f
 c1:∃mN,fy g.B (g.cls 1) (.ref (g.cls 0)::jX) mN/\mN ("__init__":Str)=Ã
 c2:∃mN,fy g.B (g.cls 2) (.ref (g.cls 0)::jX) mN/\mN ("__init__":Str)=Ã
 ap:g.cls 1≠g.cls 2/\g.cls 1≠g.cls 0/\g.cls 2≠g.cls 0
structure fO(g:G)(cx:gq)(fs:List Fn)(mg mb:Str->Option Ä):Prop where
 gns:g.B.Ns Û mg
 bns:g.B.Ns ą mb
 nolimit:g.B.NoLimit
 sys:∃o,g.B.get? Ą=À o
 prims:∀x∈eV,mg x=Ã/\mb x=ě x
 consts:∀x i,cx.consts.lookup x=À i->∃t,mg x=À (.int i t)
 names:fs.map (·.name)=cx.funs
 made:∀f∈fs,mg f.name=À (.ref f.addr)/\∃o pm cd doc,g.B.get? f.addr=À o/\o.data=.func (ŋ f.name f.params f.body f.scope pm cd doc)/\g.B.CodeRec cd f.name
 bmain:∃bm ob,mg ("__builtins__":Str)=À (.ref bm)/\bm≠ą/\g.B.get? bm=À ob/\ob.cls=.type "module"/\ob.dict=À ą/\ob.data=.plain
 exc:T7 g mg
 tab:∀f∈fs,∀o fd,g.B.get? f.addr=À o->o.data=.func fd->NX g (fd.qualname++".<locals>.") fd.code
structure Cx where
 g:G
 cx:gq
 fs:List Fn
 mg:Str->Option Ä
 mb:Str->Option Ä
 P:List bj
theorem Ju:Nonempty Cx:=⟨⟨⟨default,⟨λz z=>0,⟨λz=>0,λz=>0,id,λz=>0,λz z=>0,λz=>Ê,λz=>0,.refcount,.text,λz=>0,λz=>Ã,λz=>Ê,λz z z=>Æ,λz z z=>Æ,Æ,λz=>Ê,λz=>Ã,λz=>Ã,λz z z=>0,λz z=>Ã,λz=>Ã,λz=>(0,Ê,"UTC"),λz=>Ã,λd=>d,λz=>Ê⟩⟩,default,[],λz=>0⟩,⟨[],[],[],[]⟩,[],λz=>Ã,λz=>Ã,[]⟩⟩
def IM(cx:gq)(fs:List Fn)(P:List bj):Prop:=∀(k:Nat) (fn:Fn),fs[k]?=À fn->∃cf,P[k]?=À cf/\(cf=lu\/E5 cx fn.params fn.scope fn.body=À cf)
def NW(cx:gq)(fs:List Fn)(P:List bj):Prop:=∀k∈cx.calm,∀fn cf,fs[k]?=À fn->P[k]?=À cf->eD (Jh cx fn.scope (eC fn.scope) 200) fn.body=À cf.body
def vw(c:Cx):Prop:=fO c.g c.cx c.fs c.mg c.mb->IM c.cx c.fs c.P->NW c.cx c.fs c.P->∀d,d<=100->∀k as H v ae,az c.P d k as H=À (.ok v,ae)->∀fn,c.fs[k]?=À fn->∀J s ci,ak c.g J H s.heap->bz c.g J s.heap as ci->∀E,É (model c.g.prog c.g.w) callerA (PySem.call (.ref fn.addr) ci) (bD c.g J s v ae) E s
def kk:Cx:=@Classical.epsilon Cx Ju λc=>¬ vw c
theorem Cn(h:vw kk)(c:Cx):vw c:=abK λn=>@Classical.epsilon_spec Cx (λc=>¬ vw c) ⟨c,n⟩ h
def gg:G:=kk.g
def cx:gq:=kk.cx
def fs:List Fn:=kk.fs
def mg:Str->Option Ä:=kk.mg
def mb:Str->Option Ä:=kk.mb
def P:List bj:=kk.P
abbrev mo:Model:=model gg.prog gg.w
noncomputable def dS:Å:=⟨default,#[],{},0,default⟩
end L.Lake
set_option autoImplicit true
namespace L.Lake
open PySem PyProof.Rows
structure IP(o:Obj):Prop where
 seq:∀cX n,o.data≠.seq cX n
 dict:∀es ep,o.data≠.dict es ep
 code:o.cls=.type "code"->∀vs,o.data≠.fields vs
theorem gJ.of(x:gJ h b o)(hd:∀es ep,o.data≠.dict es ep):h.get? b=À o:=by
 rcases x with x|⟨⟨es,ep,x⟩,_⟩
 ·show x
 ·show absurd x (hd es ep)
theorem gJ.seq(x:gJ h b o)(hd:o.data=.seq cX n):h.get? b=À o:=x.of (λes ep q=>nomatch hd.symm.trans q)
theorem gJ.hard(x:gJ h b o)(hd:j3 o):h.get? b=À o:=by
 rcases hd with ⟨_,cX,n,hd⟩|⟨_,vs,hd⟩
 ·show x.seq hd
 ·show x.of (λes ep q=>nomatch hd.symm.trans q)
theorem gJ.live(x:gJ h b o):∃o',h.get? b=À o':=by
 rcases x with x|⟨_,sl,x⟩
 ·show⟨o,x⟩
 ·show⟨_,x⟩
theorem gJ.then(x:gJ h' b o)(y:∀o',h'.get? b=À o'->gJ qE b o'):gJ qE b o:=by
 rcases x with x|⟨hd,sl,x⟩
 ·show y o x
 ·rcases y _ x with y|⟨_,WH,y⟩
  ·show .inr ⟨hd,sl,y⟩
  ·show .inr ⟨hd,WH,y⟩
theorem gJ.ns{h h':Ô}{a:È}{m:Str->Option Ä}(hn:h.Ns a m)(x:∀o,h.get? a=À o->gJ h' a o):h'.Ns a m:=by
 show tU hn λo es ep ho hd r=>?_;rcases x o ho with y|⟨_,sl,y⟩
 ·show⟨o,es,ep,y,hd,r⟩
 ·show⟨_,es,ep,y,hd,r⟩
theorem VR.el{J:List È}{h:Ô}{C:V->Ä->Prop}{v:V}{a:Ä}(x:VR gg J h v a)(none:C .none .none)(bool:∀b,C (.bool b) (.bool b))(int:∀i t,C (.int i) (.int i t))(str:∀x t,C (.str x) (.str x t))
  (tup:∀l a vs,h.IsTuple a (adA vs)->l.length<=ax+1->bz gg J h l vs->a∉J->C (.tup l) (.ref a)) (ref:∀n a,J[n]?=À a->C (.ref n) (.ref a)) (ro:∀ns a vs,gg.B.IsList a (adA vs)->ns.length<=ax+1->ñ vs ns->C (.ro ns) (.ref a)):C v a:=
 VR.casesOn (motive_1:=λv a z=>C v a) x none bool int str (λh1 h2 h3 h4=>tup _ _ _ h1 h2 h3 h4) (λh1=>ref _ _ h1) λh1 h2 h3=>ro _ _ _ h1 h2 h3
theorem MR.el{J:List È}{h:Ô}{C:bp->Prop}{m:bp}{a:È}(x:MR gg J h m a)(lst:∀l vs,h.PlainList a (adA vs)->l.length<=ax+1->bz gg J h l vs->C (.lst l))
  (di:∀l kvs,h.DictOf (intKind gg.prog gg.w) a kvs->kvs.map (·.1)=l.map (·.1)->bz gg J h (l.map (·.2)) (kvs.map (·.2))->C (.di l))
  (ds:∀l kvs,h.DictOf (strKind gg.prog gg.w) a kvs->kvs.map (·.1)=l.map (·.1)->bz gg J h (l.map (·.2)) (kvs.map (·.2))->C (.ds l))
  (own:∀x y,h.get? a=À {cls:=.type "tuple",data:=.seq #[x,y]}->C .own) (wd:∀w m t,h.Ns a m->m ("word":Str)=À (.str w t)->C (.wd w)) (exn:∀c d D o vs,h.get? a=À o->o.cls=.ref (gg.cls c)->o.data=.fields vs->o.dict=À D->J[d]?=À D->C (.exn c d))
  (tab:∀q ps,h.get? a=À {cls:=.none,data:=.fields ps}->ĝ ps.toList->(∀pos cv,ė pos ps.toList=À cv->∃c' o vs t,cv=.ref c'/\c'∉J/\h.get? c'=À o/\o.cls=.type "code"/\o.data=.fields vs/\vs[1]?=À (.str (q++"<lambda>") t))->C (.tab q)):C m:=by
 cases x with
 |lst h1 h2 h3=>show lst _ _ h1 h2 h3
 |di h1 h2 h3=>show di _ _ h1 h2 h3
 |ds h1 h2 h3=>show ds _ _ h1 h2 h3
 |own h1=>show own _ _ h1
 |wd h1 h2=>show wd _ _ _ h1 h2
 |exn h1 h2 h3 h4 h5=>show exn _ _ _ _ _ h1 h2 h3 h4 h5
 |tab h1 h2 h3=>show tab _ _ h1 h2 h3
theorem db.refl(ms:È->Prop)(J:List È)(h:Ô):db ms J h J h:=
 ⟨λz z e z=>.inl e,λz o e=>⟨o,e⟩,[],(Ľ _).symm,λz ha=>(nomatch ha)⟩
theorem db.pre{ms:È->Prop}{J aR:List È}{h h':Ô}(x:db ms J h aR h'){n:Nat}{a:È}(e:J[n]?=À a):aR[n]?=À a:=by show aF x.ext λt q2 z=>?_;apply ba q2;have hn:n<J.length:=(ģ.mp e).1;rw[ϖ hn];show e
theorem db.notin(x:db ms J h aR h')(e:h.get? b=À o)(hb:b∉J):b∉aR:=by
 show aF x.ext λt q2 ht=>?_;apply ba q2;intro hm;show â (ğ.mp hm) (λhm=>?_) (λhm=>?_)
 ·show hb hm
 ·rw[ht b hm]at e;show no e
theorem db.trans(x:db ms J h aR h')(y:db ms' aR h' J'' qE)
  (h1:∀b o,h.get? b=À o->¬ ms'' b->¬ ms b) (h2:∀b o,h.get? b=À o->¬ ms'' b->¬ ms' b):db ms'' J h J'' qE:=by
 show⟨λb o e hb=>(x.pres b o e (h1 b o e hb)).then λo' e'=>y.pres b o' e' (h2 b o e hb),λb o e=>?_,?_⟩
 ·show ä (x.dom b o e) λo' e'=>y.dom b o' e'
 ·show aF x.ext λt q2 ht=>?_;subst q2
  show aF y.ext λu q2 hu=>?_;apply ba q2;show⟨t++u,by simp,λa ha=>â (ğ.mp ha) (λha=>?_) (λha=>?_)⟩
  ·show ht a ha
  ·cases e:h.get? a with
   |none=>rfl
   |some o=>show ä (x.dom a o e) λo' e'=>?_;rw[hu a ha]at e';show no e'
theorem SE.trans(x:SE J h aR h')(y:SE aR h' J'' qE):SE J h J'' qE:=
 db.trans x y (λz z z hb=>hb) λz z e hb=>x.notin e hb
theorem SE.refl(J:List È)(h:Ô):SE J h J h:=db.refl _ _ _
theorem w9{α:Type}{l:List α}(hn:l.Nodup){i j:Nat}{a:α}(hi:l[i]?=À a)(hj:l[j]?=À a):i=j:=by
 show ä (ģ.mp hi) λh1 e1=>?_;show ä (ģ.mp hj) λh2 e2=>?_;have hp:=acH.mp hn;rcases ae4 i j with h|h|h
 ·show absurd (e1.trans e2.symm) (hp i j h1 h2 h)
 ·show h
 ·show absurd (e2.trans e1.symm) (hp j i h2 h1 h)
theorem gS(hc:o.cls=.type "list"):¬ j3 o:=by rintro (⟨h,_⟩|⟨h,_⟩)<;>rw[hc]at h<;>show absurd h (by decide)
theorem sG(hd:o.data=.dict es ep):¬ j3 o:=by rintro (⟨_,_,_,h⟩|⟨_,_,h⟩)<;>show nomatch hd.symm.trans h
theorem kJ{K:Type}[DecidableEq K]{knd:KeyKind gg.prog gg.w K}{h h':Ô}{a:È}{kvs:List (K×Ä)}(x:h.DictOf knd a kvs)(hk:∀o,h.get? a=À o->h'.get? a=À o):h'.DictOf knd a kvs:=
 yO x λo es ep r=>⟨o,es,ep,hk o r.1,r.2⟩
theorem MR.live(x:MR gg J h m a):∃o,h.get? a=À o:=by
 apply MR.el x
 case lst=>
  intro _ _ hl _ _;show ä hl λn ho=>⟨_,ho⟩
 case di=>
  intro _ _ hd _ _;show tU hd λo z z ho hc z=>⟨o,ho⟩
 case ds=>
  intro _ _ hd _ _;show tU hd λo z z ho hc z=>⟨o,ho⟩
 case own=>intro _ _ ho;show⟨_,ho⟩
 case wd=>
  intro _ _ _ hn _;show oS hn λo z z ho z=>⟨o,ho⟩
 case exn=>intro _ _ _ _ _ ho _ _ _ _;show⟨_,ho⟩
 case tab=>intro _ _ ho _ _;show⟨_,ho⟩
theorem ak.live(R:ak gg J H h)(ha:a∈J):∃o,h.get? a=À o:=by obtain ⟨i,hi,rfl⟩:=ab'.mp ha;have h1:J[i]?=À J[i]:=N' hi;have jZ:i<H.length:=R.len▸hi;have h2:H[i]?=À H[i]:=N' jZ;show(R.objs i _ _ h1 h2).live
theorem VR.stepT(hp:∀(n:Nat) (a:È),J[n]?=À a->aR[n]?=À a)(S:∀b o,h.get? b=À o->j3 o->b∉J->h'.get? b=À o/\b∉aR)(x:VR gg J h v a):VR gg aR h' v a:=
 VR.rec (motive_1:=λv a z=>VR gg aR h' v a) (motive_2:=λl vs z=>bz gg aR h' l vs) .none .bool .int .str (λht hz z hn ih=>by show eK ht λo ho hc r=>?_;have k:=S _ _ ho (.inl ⟨hc,_,r⟩) hn;show .tup ⟨o,k.1,hc,r⟩ hz ih k.2) (λe=>.ref (hp _ _ e)) .ro .nil (λz z h1 h2=>.cons h1 h2) x
theorem bz.stepT(hp:∀(n:Nat) (a:È),J[n]?=À a->aR[n]?=À a)(S:∀b o,h.get? b=À o->j3 o->b∉J->h'.get? b=À o/\b∉aR)(x:bz gg J h l vs):bz gg aR h' l vs:=by
 induction l generalizing vs with
 |nil=>cases x;show .nil
 |cons v l ih=>cases x with|cons hv hr=>show .cons (hv.stepT hp S) (ih hr)
theorem VR.step{J aR:List È}{H:ag}{h h':Ô}(R:ak gg J H h)(S:SE J h aR h'){v:V}{a:Ä}(x:VR gg J h v a):VR gg aR h' v a:=x.stepT (λz z e=>S.pre e) λz z e hh hn=>⟨(S.pres _ _ e hn).hard hh,S.notin e hn⟩
theorem bz.step{J aR:List È}{H:ag}{h h':Ô}(R:ak gg J H h)(S:SE J h aR h'){l:List V}{vs:List Ä}(x:bz gg J h l vs):bz gg aR h' l vs:=x.stepT (λz z e=>S.pre e) λz z e hh hn=>⟨(S.pres _ _ e hn).hard hh,S.notin e hn⟩
theorem bz.nilE(x:bz gg J h [] vs):vs=[]:=by cases x;rfl
theorem bz.consE{J:List È}{h:Ô}{v:V}{l:List V}{vs:List Ä}{C:Prop}(x:bz gg J h (v::l) vs)(k:∀a us,vs=a::us->VR gg J h v a->bz gg J h l us->C):C:=by
 cases x with
 |cons h1 h2=>show k _ _ N h1 h2
theorem bz.hd{J:List È}{h:Ô}{v:V}{l:List V}{a:Ä}{vs:List Ä}(x:bz gg J h (v::l) (a::vs)):VR gg J h v a:=x.consE λz z e h1 z=>(List.cons.inj e).1▸h1
theorem bz.tl{J:List È}{h:Ô}{v:V}{l:List V}{a:Ä}{vs:List Ä}(x:bz gg J h (v::l) (a::vs)):bz gg J h l vs:=x.consE λz z e z h2=>(List.cons.inj e).2▸h2
theorem bz.length(x:bz gg J h l vs):l.length=vs.length:=by
 induction l generalizing vs with
 |nil=>cases x;rfl
 |cons v l ih=>cases x with|cons hv hr=>show congrArg (·+1) (ih hr)
theorem bz.append(x:bz gg J h l vs)(y:bz gg J h m ws):bz gg J h (l++m) (vs++ws):=by
 induction l generalizing vs with
 |nil=>cases x;show y
 |cons v l ih=>cases x with|cons hv hr=>show .cons hv (ih hr)
theorem bz.get{J:List È}{h:Ô}{v:V}{l:List V}:∀{vs:List Ä} {i:Nat},bz gg J h l vs->l[i]?=À v->∃a,vs[i]?=À a/\VR gg J h v a:=by
 induction l with
 |nil=>show λz e=>no (e)
 |cons w l ih=>
  intro vs i x e;show x.consE λa us q hv hr=>?_;rw[q];cases i with
  |zero=>show⟨a,N,Option.some.inj e▸hv⟩
  |succ i=>show(ih (i:=i) hr e:∃b,us[i]?=À b/\VR gg J h v b)
theorem bz.set{J:List È}{h:Ô}{v:V}{a:Ä}(x:VR gg J h v a){l:List V}:∀{vs:List Ä} (i:Nat),bz gg J h l vs->bz gg J h (l.set i v) (vs.set i a):=by
 induction l with
 |nil=>intro vs i y;rw[y.nilE];show .nil
 |cons w l ih=>
  intro vs i y;show y.consE λb us q hv hr=>?_;rw[q];cases i with
  |zero=>show .cons x hr
  |succ i=>show .cons hv (ih i hr)
theorem bz.one(x:VR gg J h v a):bz gg J h [v] [a]:=.cons x .nil
theorem bz.take{J:List È}{h:Ô}{l:List V}:∀{vs:List Ä} (i:Nat),bz gg J h l vs->bz gg J h (l.take i) (vs.take i):=by
 induction l with
 |nil=>intro vs i y;rw[y.nilE,afD,afD];show .nil
 |cons w l ih=>
  intro vs i y;show y.consE λb us q hv hr=>?_;rw[q];cases i with
  |zero=>show .nil
  |succ i=>show .cons hv (ih i hr)
theorem bz.drop{J:List È}{h:Ô}{l:List V}:∀{vs:List Ä} (i:Nat),bz gg J h l vs->bz gg J h (l.drop i) (vs.drop i):=by
 induction l with
 |nil=>intro vs i y;rw[y.nilE,aeV,aeV];show .nil
 |cons w l ih=>
  intro vs i y;cases i with
  |zero=>show y
  |succ i=>show y.consE λb us q hv hr=>q▸ih i hr
theorem MR.step(R:ak gg J H h)(S:SE J h aR h')(x:MR gg J h m a)(ha:∀o,h.get? a=À o->h'.get? a=À o):MR gg aR h' m a:=by
 apply MR.el x
 case lst=>intro _ _ hl hz hv;show .lst (hl.at ha) hz (hv.step R S)
 case di=>intro _ _ hd he hv;show .di (kJ hd ha) he (hv.step R S)
 case ds=>intro _ _ hd he hv;show .ds (kJ hd ha) he (hv.step R S)
 case own=>intro _ _ ho;show .own (ha _ ho)
 case wd=>intro _ _ _ hn hw;show .wd (let ⟨o,es,ep,ho,r⟩:=hn;⟨o,es,ep,ha _ ho,r⟩) hw
 case exn=>intro _ _ _ _ _ ho h1 h2 h3 h4;show .exn (ha _ ho) h1 h2 h3 (S.pre h4)
 case tab=>
  intro _ _ ho ht hc
  show .tab (ha _ ho) ht λpos cv e=>by show UV (hc pos cv e) λc' o vs t e1 e2 e3 e4 e5 e6=>⟨c',o,vs,t,e1,S.notin e3 e2,(S.pres _ _ e3 e2).hard (.inr ⟨e4,vs,e5⟩),e4,e5,e6⟩
theorem MR.stepT(hp:∀(n:Nat) (a:È),J[n]?=À a->aR[n]?=À a)(S:∀b o,h.get? b=À o->j3 o->b∉J->h'.get? b=À o/\b∉aR)(x:MR gg J h m a)(ha:∀o,h.get? a=À o->h'.get? a=À o):MR gg aR h' m a:=by
 apply MR.el x
 case lst=>intro _ _ hl hz hv;show .lst (hl.at ha) hz (hv.stepT hp S)
 case di=>intro _ _ hd he hv;show .di (kJ hd ha) he (hv.stepT hp S)
 case ds=>intro _ _ hd he hv;show .ds (kJ hd ha) he (hv.stepT hp S)
 case own=>intro _ _ ho;show .own (ha _ ho)
 case wd=>intro _ _ _ hn hw;show .wd (let ⟨o,es,ep,ho,r⟩:=hn;⟨o,es,ep,ha _ ho,r⟩) hw
 case exn=>intro _ _ _ _ _ ho h1 h2 h3 h4;show .exn (ha _ ho) h1 h2 h3 (hp _ _ h4)
 case tab=>
  intro _ _ ho ht hc
  show .tab (ha _ ho) ht λpos cv e=>by show UV (hc pos cv e) λc' o vs t e1 e2 e3 e4 e5 e6=>?_;have k:=S _ _ e3 (.inr ⟨e4,vs,e5⟩) e2;show⟨c',o,vs,t,e1,k.2,k.1,e4,e5,e6⟩
theorem ak.keeps(R:ak gg J H h)(hk:∀b o,h.get? b=À o->h'.get? b=À o):ak gg J H h':=by have S:SE J h J h':=⟨λb o e z=>.inl (hk b o e),λb o e=>⟨o,hk b o e⟩,[],(Ľ _).symm,λz ha=>(nomatch ha)⟩;show⟨λb o e=>hk b o (R.base b o e),R.fresh,R.len,R.nodup,λi a m h1 h2=>(R.objs i a m h1 h2).step R S λo e=>hk _ o e,R.tabs⟩
theorem SE.keeps(J:List È)(hk:∀b o,h.get? b=À o->h'.get? b=À o):SE J h J h':=
 ⟨λb o e z=>.inl (hk b o e),λb o e=>⟨o,hk b o e⟩,[],(Ľ _).symm,λz ha=>(nomatch ha)⟩
theorem ak.other(R:ak gg J H h)(hL:L∉J)(hB:gg.B.get? L=Ã)
  (hk:∀b o,b≠L->h.get? b=À o->h'.get? b=À o) (ht:∀o,h.get? L=À o->¬ j3 o):ak gg J H h':=by
 show⟨λb o e=>hk b o (by rintro rfl;rw[hB]at e;show no e) (R.base b o e),R.fresh,R.len,R.nodup,λi a m h1 h2=>?_,R.tabs⟩;have Zm:a≠L:=by rintro rfl;show hL (Ĥ h1)
 show(R.objs i a m h1 h2).stepT (λz z e=>e) (λb o e hs hn=>⟨hk b o ?_ e,hn⟩) λo e=>hk _ o Zm e;rintro rfl;show ht o e hs
theorem ak.tabsOn{J t:List È}{H u:ag}{h:Ô}(R:ak gg J H h){j:Nat}{q:Str}{P:È}(hj:gg.tabs[j]?=À (q,P)):(J++t)[j]?=À P/\(H++u)[j]?=À (.tab q):=by show aP (R.tabs j q P hj) λh1 h2=>⟨by rw[ϖ (ģ.mp h1).1];show h1,by rw[ϖ (ģ.mp h2).1];show h2⟩
theorem ak.more{J:List È}{H:ag}{h:Ô}{a:È}{m:bp}(R:ak gg J H h)(ha:a∉J)(hB:gg.B.get? a=Ã)(hm:MR gg J h m a)(hT:∀o,h.get? a=À o->¬ j3 o):ak gg (J++[a]) (H++[m]) h:=by
 have up:∀{m:bp} {b:È},MR gg J h m b->MR gg (J++[a]) h m b:=λx=>
  x.stepT (λn b e=>by rw[ϖ (ģ.mp e).1];show e) (λb o e hc hn=>⟨e,λhm=>by
   show â (ğ.mp hm) (λhm=>?_) (λhm=>?_)
   ·show hn hm
   ·simp at hm;subst hm;show hT o e hc⟩) λz e=>e
 show⟨R.base,λb hb=>?_,by simp [R.len],?_,λi b m' h1 h2=>?_,λj q P hj=>R.tabsOn hj⟩
 ·show â (ğ.mp hb) (λhb=>?_) (λhb=>?_)
  ·show R.fresh b hb
  ·apply ba (W'.mp hb);show hB
 ·rw[ae5]
  show⟨R.nodup,by simp,λx hx y hy=>?_⟩;apply ba (W'.mp hy);rintro rfl;show ha hx
 ·by_cases hi:i<J.length
  ·rw[ϖ hi]at h1
   rw[ϖ (R.len▸hi)]at h2;show up (R.objs i b m' h1 h2)
  ·have jZ:i=J.length:=by
    have:=(ģ.mp h1).1
    simp at this;show Ű (ϐ this) (ľ.mp hi)
   subst jZ
   simp at h1
   rw[R.len]at h2;simp at h2;apply fQ h1;subst h2;show up hm
theorem ak.moreOwn{J:List È}{H:ag}{aY h:Ô}{a:È}{x y:Ä}(R:ak gg J H aY)(hk:∀b o,aY.get? b=À o->h.get? b=À o)(h0:aY.get? a=Ã)(hB:gg.B.get? a=Ã)(ho:h.get? a=À {cls:=.type "tuple",data:=.seq #[x,y]}):
  ak gg (J++[a]) (H++[.own]) h/\SE J aY (J++[a]) h:=by
 have zt:a∉J:=λhm=>by show ä (R.live hm) λo' e=>?_;rw[h0]at e;show no e
 have S:SE J aY (J++[a]) h:=⟨λb o e z=>.inl (hk b o e),λb o e=>⟨o,hk b o e⟩,[a],rfl,λb hb=>by apply ba (W'.mp hb);show h0⟩;show⟨⟨λb o e=>hk b o (R.base b o e),λb hb=>?_,by simp [R.len],?_,λi b m' h1 h2=>?_,λj q P hj=>R.tabsOn hj⟩,S⟩
 ·show â (ğ.mp hb) (λhb=>?_) (λhb=>?_)
  ·show R.fresh b hb
  ·simp at hb;apply ba hb;show hB
 ·rw[ae5]
  show⟨R.nodup,by simp,λx hx y hy=>?_⟩;apply ba (W'.mp hy);rintro rfl;show zt hx
 ·by_cases hi:i<J.length
  ·rw[ϖ hi]at h1
   rw[ϖ (R.len▸hi)]at h2;show(R.objs i b m' h1 h2).step R S λo e=>hk _ o e
  ·have jZ:i=J.length:=by
    have:=(ģ.mp h1).1
    simp at this;show Ű (ϐ this) (ľ.mp hi)
   subst jZ
   simp at h1
   rw[R.len]at h2;simp at h2;apply fQ h1;subst h2;show .own ho
theorem ak.put{J:List È}{H:ag}{h h':Ô}{a:È}{r:Nat}{m KF:bp}(R:ak gg J H h)(hr:J[r]?=À a)(aY:H[r]?=À KF)
  (hs:∀b o,b≠a->h.get? b=À o->h'.get? b=À o) (hm:MR gg J h' m a) (MI:∀q,KF=.tab q->m=.tab q):ak gg J (H.set r m) h':=by
 have oh:a∈J:=Ĥ hr;show⟨λb o e=>hs b o (by rintro rfl;rw[R.fresh _ oh]at e;show no e) (R.base b o e),R.fresh,by simp [R.len],R.nodup,λi b m' h1 h2=>?_,λj q P hj=>?_⟩
 rotate_left
 ·show aP (R.tabs j q P hj) λh1 h2=>⟨h1,?_⟩
  by_cases hjr:r=j
  ·subst hjr
   rw[adB (ģ.mp aY).1,MI q (sm (aY.symm.trans h2))]
  ·rw[acu hjr];show h2
 by_cases hi:i=r
 ·subst hi
  apply fQ (sm ((hr).symm.trans h1));rw[adB (ģ.mp aY).1]at h2;cases h2;show hm
 ·rw[acu (Ne.symm hi)]at h2
  have hb:b≠a:=by rintro rfl;show hi (w9 R.nodup h1 hr)
  show(R.objs i b m' h1 h2).stepT (λz z e=>e) (λc o e hc hn=>⟨hs c o ?_ e,hn⟩) λo e=>hs _ o hb e;rintro rfl;show hn oh
theorem SE.put(ha:a∈J)(hs:Heap.SameBut a h h')(hd:∃o,h'.get? a=À o):SE J h J h':=
 ⟨λb o e hb=>.inl (hs.extBut b o (by rintro rfl;show hb ha) e),λb o e=>by
  by_cases hb:b=a
  ·apply ba hb;show hd
  ·show⟨o,hs.extBut b o hb e⟩,[],(Ľ _).symm,λz hm=>(nomatch hm)⟩
theorem bP.refl(s:Å):bP s s:=⟨N,N,N⟩
theorem bP.trans(x:bP s s')(y:bP s' pb):bP s pb:=⟨y.1.trans x.1,y.2.1.trans x.2.1,y.2.2.trans x.2.2⟩
inductive Qw(J:List È)(s:Å)(l:List V)(ae:ag)(vs:List Ä)(s':Å):Prop
 |mk (aR:List È) (S:SE J s.heap aR s'.heap) (R:ak gg aR ae s'.heap) (V:bz gg aR s'.heap l vs) (T:bP s s'):Qw J s l ae vs s'
inductive B7(J:List È)(s:Å)(b:Bool)(ae:ag)(b':Bool)(s':Å):Prop
 |mk (e:b'=b) (aR:List È) (S:SE J s.heap aR s'.heap) (R:ak gg aR ae s'.heap) (T:bP s s'):B7 J s b ae b' s'
theorem B7.el{J:List È}{s:Å}{b:Bool}{ae:ag}{b':Bool}{s':Å}{C:Prop}(x:B7 J s b ae b' s')(k:b'=b->∀aR,SE J s.heap aR s'.heap->ak gg aR ae s'.heap->bP s s'->C):C:=B7.casesOn (motive:=λz=>C) x k
end L.Lake
namespace L.Lake
open PySem PyProof.Rows PySem.Calls
def QD(Z:Env):Prop:=NX gg Z.qual Z.code
noncomputable def bA(A:Ñ):List Env:=A.frames.getD []
def r6(fr:List Env)(J:List È)(h:Ô):Prop:=∀e∈fr,e.scope.kind≠.module/\∃L o es ep,e.frame=À L/\h.get? L=À o/\o.data=.dict es ep/\L∉J/\gg.B.get? L=Ã
theorem r6.to(x:r6 fr J h)(hd:∀L o es ep,h.get? L=À o->o.data=.dict es ep->L∉J->(∃o' Ow Ot,h'.get? L=À o'/\o'.data=.dict Ow Ot)/\L∉aR):r6 fr aR h':=λe he=>by obtain ⟨h1,L,o,es,ep,h2,h3,h4,h5,h6⟩:=x e he;show aP (hd L o es ep h3 h4 h5) λk8 k3=>?_;show oS k8 λo' Ow Ot k1 k2=>?_;show⟨h1,L,o',Ow,Ot,h2,k1,k2,k3,h6⟩
section
variable{A:Ñ}
theorem qu(h:f∈bA (A.deeper Z)):f=Z\/f∈bA A:=by
 have h:f∈(A.frames.map (Z::·)).getD []:=h;unfold bA;cases e:A.frames with
 |none=>rw[e]at h;show nomatch h
 |some l=>rw[e]at h;show ċ.mp h
theorem OA(hl:A.frames=À l)(h:f∈bA A):f∈bA (A.deeper Z):=by show f∈(A.frames.map (Z::·)).getD [];unfold bA at h;rw[hl]at h ⊢;show J' _ h
end
theorem gJ.isD(x:gJ h b o)(hd:o.data=.dict es ep):∃o' Ow Ot,h.get? b=À o'/\o'.data=.dict Ow Ot:=by
 rcases x with x|⟨_,sl,x⟩
 ·show⟨o,es,ep,x,hd⟩
 ·show⟨_,es,ep,x,hd⟩
structure eQ(fr:List Env)(J:List È)(Z:Env)(O:List (Str×Nat))(U:aM)(h:Ô):Prop where
 kind:Z.scope.kind=.function
 glob:Z.globals=Û
 blt:Z.builtins=ą
 ns:∃m,h.Ns Z.locals m/\∀x i v,O.lookup x=À i->Z.kindOf x=À .local->U i=À v->∃a,m x=À a/\VR gg J h v a
 cells:∀x i,O.lookup x=À i->(Z.kindOf x=À .cell\/Z.kindOf x=À .free)->∃c u,Z.cells.lookup x=À c/\h.IsCell c u/\∀v,U i=À v->∃a,u=À a/\VR gg J h v a
 locN:Z.locals∉J
 locB:gg.B.get? Z.locals=Ã
 cellF:∀x c,Z.cells.lookup x=À c->(∃u,h.IsCell c u)/\c∉J/\c≠Z.locals/\gg.B.get? c=Ã
 cellI:∀x y c,Z.cells.lookup x=À c->Z.cells.lookup y=À c->x=y
 slots:∀x y i,O.lookup x=À i->O.lookup y=À i->x=y
 tab:f0 Z.scope=Æ->QD Z
 stk:r6 fr J h
def FM(J:List È)(Z:Env)(b:È):Prop:=b∈J\/b=Z.locals\/∃x,Z.cells.lookup x=À b
def NM(Z:Env)(x:Str)(b:È):Prop:=b=Z.locals\/Z.cells.lookup x=À b
theorem Ns.noSeq{h:Ô}{L:È}{m:Str->Option Ä}(hn:h.Ns L m):∀o,h.get? L=À o->¬ j3 o:=by
 show tU hn λo' es ep ho hd z=>?_;rintro o e (⟨_,_,_,q⟩|⟨_,_,q⟩)
 ·rw[ho]at e;cases e;show nomatch hd.symm.trans q
 ·rw[ho]at e;cases e;show nomatch hd.symm.trans q
theorem Ez.noSeq{h:Ô}{c:È}{u:Option Ä}(hc:h.IsCell c u):∀o,h.get? c=À o->¬ j3 o:=by
 show aF hc λo' ho hd=>?_;rintro o e (⟨_,_,_,q⟩|⟨_,_,q⟩)
 ·rw[ho]at e;cases e;show nomatch hd.symm.trans q
 ·rw[ho]at e;cases e;show nomatch hd.symm.trans q
section
variable{A:Ñ}{J aR:List È}{H ae:ag}{Z:Env}{O:List (Str×Nat)}{U:aM}{h h':Ô}
theorem eQ.step(F:eQ (bA A) J Z O U h)(R:ak gg J H h)(S:SE J h aR h'):eQ (bA A) aR Z O U h':=by
 show aF F.ns λm hn hm=>?_
 have wR:∀c,c∉J->∀u,h.IsCell c u->h'.IsCell c u:=λc hc u x=>by show aF x λo ho hd=>⟨o,(S.pres _ _ ho hc).of (λes ep q=>nomatch hd.symm.trans q),hd⟩
 show⟨F.kind,F.glob,F.blt,⟨m,?_,λx i v a b c=>?_⟩,λx i a b=>?_,?_,F.locB,λx c e=>?_,F.cellI,F.slots,F.tab,F.stk.to λL o es ep h1 h2 h3=>⟨(S.pres _ _ h1 h3).isD h2,S.notin h1 h3⟩⟩
 ·show gJ.ns hn λo e=>S.pres _ _ e F.locN
 ·show aF (hm x i v a b c) λy h1 h2=>⟨y,h1,h2.step R S⟩
 ·show fe (F.cells x i a b) λc u h1 h2 h3=>⟨c,u,h1,wR c (F.cellF x c h1).2.1 u h2,λv hv=>aF (h3 v hv) λy h4 h5=>⟨y,h4,h5.step R S⟩⟩
 ·show oS hn λo es ep ho r=>S.notin ho F.locN
 ·show Jy (F.cellF x c e) λk9 h1 h2 h3=>?_;show ä k9 λu hu=>?_
  show⟨⟨u,wR c h1 u hu⟩,?_,h2,h3⟩;show aF hu λo ho hd=>S.notin ho h1
inductive IL(fr:List Env)(J:List È)(Z:Env)(O:List (Str×Nat))(s:Å)(aT:aM)(ae:ag)(s':Å):Prop
 |mk (aR:List È) (S:db (FM J Z) J s.heap aR s'.heap) (R:ak gg aR ae s'.heap) (F:eQ fr aR Z O aT s'.heap) (T:bP s s'):IL fr J Z O s aT ae s'
theorem IL.el{fr:List Env}{J:List È}{Z:Env}{O:List (Str×Nat)}{s:Å}{aT:aM}{ae:ag}{s':Å}{C:Prop}(x:IL fr J Z O s aT ae s')(k:∀aR,db (FM J Z) J s.heap aR s'.heap->ak gg aR ae s'.heap->eQ fr aR Z O aT s'.heap->bP s s'->C):C:=IL.casesOn (motive:=λz=>C) x k
theorem db.ofSE(S:SE J h aR h')(Z:Env):db (FM J Z) J h aR h':=⟨λb o e hb=>S.pres b o e λx=>hb (.inl x),S.dom,S.ext⟩
theorem FM.trans(x:db (FM J Z) J h aR h')(y:db (FM aR Z) aR h' J'' qE):db (FM J Z) J h J'' qE:=
 db.trans x y (λk k k hb=>hb) λb o e hb q=>by
  show â q (λq=>?_) (λq=>?_)
  ·show x.notin e (λz=>hb (.inl z)) q
  ·show hb (.inr q)
end
def iI(A:Ñ)(E:Ä->Å->Prop)(J:List È)(H:ag)(Z:Env)(O:List (Str×Nat))(U:aM)(s:Å)(x:Str)(i:Nat)(v:V)(a:Ä)(Q:Unit->Å->Prop):Prop:=∀(F:eQ (bA A) J Z O U s.heap) (R:ak gg J H s.heap) (hx:O.lookup x=À i) (hk:Z.kindOf x=À .local\/Z.kindOf x=À .cell) (hv:VR gg J s.heap v a) (h:∀h' tk,db (NM Z x) J s.heap J h'->ak gg J H h'->eQ (bA A) J Z O (cR U i v) h'->(∀{v:V} {a:Ä},VR gg J s.heap v a->VR gg J h' v a)->Q () {s with heap:=h',toks:=tk}),É mo A (storeName Z x a) Q E s
namespace store_nameH
def kc:=hc (QF iI) ({},λz z=>True,[],[],default,[],λz=>Ã,dS,default,0,.none,.none,λz z=>True)
def A:=kc.1
def E:=kc.2.1
def J:=kc.2.2.1
def H:=kc.2.2.2.1
def Z:=kc.2.2.2.2.1
def O:=kc.2.2.2.2.2.1
def U:=kc.2.2.2.2.2.2.1
def s:=kc.2.2.2.2.2.2.2.1
def x:=kc.2.2.2.2.2.2.2.2.1
def i:=kc.2.2.2.2.2.2.2.2.2.1
def v:=kc.2.2.2.2.2.2.2.2.2.2.1
def a:=kc.2.2.2.2.2.2.2.2.2.2.2.1
def Q:=kc.2.2.2.2.2.2.2.2.2.2.2.2
theorem kt:iI A E J H Z O U s x i v a Q:=by
 intro F R hx hk hv h;show aF F.ns λm hn hm=>â hk (λhk=>?_) (λhk=>?_)
 ·show wpAny_storeName_local hk hn (λh' lU nR=>?_) (by rw[F.kind];rfl)
  have noSeq:=Ns.noSeq hn;have kp:∀b o,b≠Z.locals->s.heap.get? b=À o->h'.get? b=À o:=λb o hb e=>nR.extBut b o hb e;have up:∀{v:V} {a:Ä},VR gg J s.heap v a->VR gg J h' v a:=λx=>x.stepT (λk k e=>e) λb o e wM hn=>⟨kp b o (by rintro rfl;show noSeq o e wM) e,hn⟩;show h h' _ ⟨λb o e hb=>.inl (kp b o (λx=>hb (.inl x)) e),λb o e=>?_,[],(Ľ _).symm,λk hm=>(nomatch hm)⟩ (R.other F.locN F.locB kp noSeq) ?_ up
  ·by_cases hb:b=Z.locals
   ·apply ba hb
    show oS lU λo' k k sQ k=>⟨o',sQ⟩
   ·show⟨o,kp b o hb e⟩
  ·show⟨F.kind,F.glob,F.blt,⟨_,lU,λy j w' hy um hj=>?_⟩,λy j hy um=>?_,F.locN,F.locB,λy c e=>?_,F.cellI,F.slots,F.tab,F.stk.to λL o es ep h1 h2 h3=>⟨?_,h3⟩⟩
   rotate_right
   ·by_cases hb:L=Z.locals
    ·show tU lU λo' Ow Ot sQ kg k=>⟨o',Ow,Ot,hb▸sQ,kg⟩
    ·show⟨o,es,ep,kp L o hb h1,h2⟩
   ·by_cases Gq:y=x
    ·subst Gq
     rw[hx]at hy;cases hy
     simp only[cR,if_true]at hj;cases hj
     show⟨a,by simp,up hv⟩
    ·have zl:j≠i:=λe=>Gq (F.slots y x i (e▸hy) hx)
     simp only[cR,if_neg zl]at hj
     show aF (hm y j w' hy um hj) λz h1 h2=>⟨z,by simp [Gq,h1],up h2⟩
   ·have Gq:y≠x:=by rintro rfl;rw[hk]at um;rcases um with q|q<;>cases q
    have zl:j≠i:=λe=>Gq (F.slots y x i (e▸hy) hx);show fe (F.cells y j hy um) λc u h1 h2 h3=>⟨c,u,h1,?_,λw' hw=>?_⟩
    ·show aF h2 λo ho hd=>⟨o,kp c o (F.cellF y c h1).2.2.1 ho,hd⟩
    ·simp only[cR,if_neg zl]at hw
     show aF (h3 w' hw) λz h4 h5=>⟨z,h4,up h5⟩
   ·show Jy (F.cellF y c e) λCV h1 h2 h3=>?_;show gm CV λu o ho hd=>?_
    show⟨⟨u,o,kp c o h2 ho,hd⟩,h1,h2,h3⟩
 ·show fe (F.cells x i hx (.inl hk)) λc u hc OG k=>Jy (F.cellF x c hc) λk Vt Zv zh=>wpAny_storeName_cell F.kind hk hc OG λh' ff nR=>?_
  have noSeq:=Ez.noSeq OG;have kp:∀b o,b≠c->s.heap.get? b=À o->h'.get? b=À o:=λb o hb e=>nR.extBut b o hb e;have up:∀{v:V} {a:Ä},VR gg J s.heap v a->VR gg J h' v a:=λx=>x.stepT (λk k e=>e) λb o e wM hn=>⟨kp b o (by rintro rfl;show noSeq o e wM) e,hn⟩;show h h' _ ⟨λb o e hb=>.inl (kp b o (λy=>hb (.inr (y▸hc))) e),λb o e=>?_,[],(Ľ _).symm,λk hm=>(nomatch hm)⟩ (R.other Vt zh kp noSeq) ?_ up
  ·by_cases hb:b=c
   ·apply ba hb
    show aF ff λo' sQ k=>⟨o',sQ⟩
   ·show⟨o,kp b o hb e⟩
  ·show⟨F.kind,F.glob,F.blt,⟨m,?_,λy j w' hy um hj=>?_⟩,λy j hy um=>?_,F.locN,F.locB,λy d e=>?_,F.cellI,F.slots,F.tab,F.stk.to λL o es ep h1 h2 h3=>⟨⟨o,es,ep,kp L o ?_ h1,h2⟩,h3⟩⟩
   rotate_right
   ·rintro rfl
    show aF OG λo' sQ kg=>?_;rw[h1]at sQ;cases sQ;show nomatch h2.symm.trans kg
   ·show oS hn λo es ep ho r=>⟨o,es,ep,kp _ o (Ne.symm Zv) ho,r⟩
   ·have Gq:y≠x:=by rintro rfl;rw[hk]at um;cases um
    have zl:j≠i:=λe=>Gq (F.slots y x i (e▸hy) hx)
    simp only[cR,if_neg zl]at hj
    show aF (hm y j w' hy um hj) λz h1 h2=>⟨z,h1,up h2⟩
   ·by_cases Gq:y=x
    ·subst Gq
     apply fQ (sm ((hx).symm.trans hy));show⟨c,À a,hc,ff,λw' hw=>?_⟩
     simp only[cR,if_true]at hw;cases hw
     show⟨a,N,up hv⟩
    ·have zl:j≠i:=λe=>Gq (F.slots y x i (e▸hy) hx)
     show fe (F.cells y j hy um) λd u' h1 h2 h3=>?_;have To:d≠c:=λe=>Gq (F.cellI y x c (e▸h1) hc);show⟨d,u',h1,?_,λw' hw=>?_⟩
     ·show aF h2 λo ho hd=>⟨o,kp d o To ho,hd⟩
     ·simp only[cR,if_neg zl]at hw
      show aF (h3 w' hw) λz h4 h5=>⟨z,h4,up h5⟩
   ·show Jy (F.cellF y d e) λGy h1 h2 h3=>?_;show gm Gy λu' o ho hd=>?_
    by_cases To:d=c
    ·subst To
     show⟨⟨_,ff⟩,h1,h2,h3⟩
    ·show⟨⟨u',o,kp d o To ho,hd⟩,h1,h2,h3⟩
end store_nameH
theorem fK:iI A E J H Z O U s x i v a Q:=hk (P:=QF iI) store_nameH.kt (A,E,J,H,Z,O,U,s,x,i,v,a,Q)
section
variable{A:Ñ}{E:Ä->Å->Prop}{J:List È}{H:ag}{Z:Env}{O:List (Str×Nat)}{U:aM}{s:Å}
theorem jd(G:fO gg cx fs mg mb)(F:eQ (bA A) J Z O U s.heap)(R:ak gg J H s.heap)(hx:Z.kindOf x=À .globalImplicit)(hd:(x==("__debug__":Str))=Ê)
  (hv:mg x=À v) (h:Q v s):É mo A (eval (.Name x pos) Z) Q E s:=
 Name_function_global F.kind hx (loadGlobal_global (by rw[F.glob];show G.gns.keeps R.base) hv h) hd
theorem cB(G:fO gg cx fs mg mb)(F:eQ (bA A) J Z O U s.heap)(R:ak gg J H s.heap)(hx:Z.kindOf x=À .globalImplicit)(hd:(x==("__debug__":Str))=Ê)
  (hp:x∈eV) (hv:ě x=À v) (h:Q v s):É mo A (eval (.Name x pos) Z) Q E s:=
 Name_function_global F.kind hx (loadGlobal_builtin (by rw[F.glob];show G.gns.keeps R.base) (G.prims x hp).1 (by rw[F.blt];show G.bns.keeps R.base) ((G.prims x hp).2.trans hv) h) hd
def aQ(A:Ñ)(Z:Env)(O:List (Str×Nat))(e:Ó)(m:aM->ag->Option (V×ag)):Prop:=
 ∀U H v ae,m U H=À (v,ae)->∀J s,ak gg J H s.heap->eQ (bA A) J Z O U s.heap->∀E,É mo A (eval e Z) (bD gg J s v ae) E s
def fC(A:Ñ)(Z:Env)(O:List (Str×Nat))(e:Ó)(m:aM->ag->Option (Bool×ag)):Prop:=
 ∀U H b ae,m U H=À (b,ae)->∀J s,ak gg J H s.heap->eQ (bA A) J Z O U s.heap->∀E,É mo A (isTrue e Z (eval e Z)) (B7 J s b ae) E s
theorem bD.here(R:ak gg J H s.heap)(hv:VR gg J s.heap v a):bD gg J s v H a {s with toks:=tk}:=
 ⟨J,SE.refl _ _,R,hv,N,N,N⟩
theorem zw:∀{k:Ĉ},Gw k=Æ->k=.local\/k=.cell\/k=.free:=λ{k} h=>by cases k<;>first|exact .inl N|exact .inr (.inl N)|exact .inr (.inr N)|cases h
set_option tactic.hygienic true in
theorem rz{x:Str}{pos:Pos}{c:CE}{Á:aw}(G:fO gg cx fs mg mb)(hc:vV cx Z.scope O x=À c):aQ A Z O (.Name x pos) (ab Á c):=by
 intro U H v ae he J s R F E;unfold vV at hc;split at hc
 ·show no hc
 ·rename_i hd
  simp only[ϡ,not_or,afg]at hd
  show ca hc λk hk hc=>?_;by_cases hl:Gw k=Æ
  ·rw[if_pos hl]at hc
   show ca hc λi hi hc=>?_;obtain rfl:=sm hc;show aF (ob he) λv' ym he=>?_;apply du he;rcases zw hl with rfl|rfl|rfl
   ·show aF F.ns λm hn hm=>aF (hm x i _ hi hk ym) λa h1 h2=>wpAny_Name (wpAny_loadName_local F.kind hk hn h1 (bD.here R h2)) hd.1
   ·show fe (F.cells x i hi (.inl hk)) λcl u h1 h2 h3=>aF (h3 _ ym) λa q2 h4=>?_;subst q2
    show wpAny_Name (wpAny_loadName_cell F.kind hk h1 h2 (bD.here R h4)) hd.1
   ·show fe (F.cells x i hi (.inr hk)) λcl u h1 h2 h3=>aF (h3 _ ym) λa q2 h4=>?_;subst q2
    show wpAny_Name (wpAny_loadName_free F.kind hk h1 h2 (bD.here R h4) hd.2) hd.1
  ·rw[if_neg hl]at hc
   show dJ hc λhg hc=>ca hc λi hi hc=>?_;obtain rfl:=sm hc;show aP (nS he) λKi Sb=>(ä (G.consts x i hi) λt ht=>?_);apply fQ Ki;apply fQ Sb;rw[beq_iff_eq.mp hg]at hk;show jd G F R hk hd.1 ht (bD.here R (.int i t))
end
section
variable{A:Ñ}{E:Ä->Å->Prop}{J:List È}{H:ag}{s:Å}
theorem ku(h:∀o,x=À o->False):x=Ã:=by
 cases x with
 |none=>rfl
 |some o=>show(h o N).elim
theorem g7{h:Ô}{T:È}(hs:h.objs.size<=T):h.get? T=Ã:=ku λo e=>ľ.mpr hs (Ő e)
theorem aG(h:Ô):h.get? h.objs.size=Ã:=g7 (ē _)
theorem bD.newL(R:ak gg J H s.heap)(hz:l.length<=ax+1)(hv:bz gg J s.heap l vs)(hk:∀b o,s.heap.get? b=À o->h'.get? b=À o)
  (hD:s.heap.get? D=Ã) (hl:h'.PlainList D vs.toArray):bD gg J s (.ref H.length) (H++[.lst l]) (.ref D) {s with heap:=h',toks:=tk}:=by
 have R':ak gg J H h':=R.keeps hk;have S:SE J s.heap J h':=SE.keeps J hk;have CH:D∉J:=λx=>(R.live x).elim λo ho=>no (hD.symm.trans ho);have P4:gg.B.get? D=Ã:=ku λo e=>no (hD.symm.trans (R.base D o e));show⟨J++[D],⟨S.pres,S.dom,[D],N,λa ha=>?_⟩,R'.more CH P4 (.lst hl hz (hv.step R S)) (λo e=>by show ä hl λn ho=>?_;apply fQ (sm ((ho).symm.trans e));show gS N),.ref ?_,N,N,N⟩
 ·apply ba (W'.mp ha);show hD
 ·rw[<-R.len];simp
theorem bD.newT(R:ak gg J H s.heap)(hz:l.length<=ax+1)(hv:bz gg J s.heap l vs)(hk:∀b o,s.heap.get? b=À o->h'.get? b=À o)
  (hD:s.heap.get? D=Ã) (hl:h'.IsTuple D vs.toArray):bD gg J s (.tup l) H (.ref D) {s with heap:=h',toks:=tk}:=
 have S:SE J s.heap J h':=SE.keeps J hk
 ⟨J,S,R.keeps hk,.tup hl hz (hv.step R S) (λx=>(R.live x).elim λo ho=>no (hD.symm.trans ho)),N,N,N⟩
theorem fZ{h h':Ô}{D:È}(hk:∀b o,h.get? b=À o->h'.get? b=À o)(hD:h'.get? D=Ã):h.get? D=Ã:=ku λo e=>no (hD.symm.trans (hk D o e))
theorem ak.list(R:ak gg J H h)(hr:J[r]?=À a)(hl:lst H r=À l):∃vs,h.PlainList a vs.toArray/\bz gg J h l vs/\l.length<=ax+1:=by
 have:=R.objs r a _ hr (qO hl);cases this with
 |lst h1 hz h2=>show⟨_,h1,h2,hz⟩
theorem PB(l:List α)(n:Nat):Dg l n=(ś n l).flatten:=by
 induction n with
 |zero=>rfl
 |succ n ih=>simp [Dg,ad6,ih]
theorem bz.rep(x:bz gg J h l vs)(n:Nat):bz gg J h (Dg l n) (L.Lake.Dg vs n):=by
 induction n with
 |zero=>show .nil
 |succ n ih=>show x.append ih
set_option tactic.hygienic true in
theorem AC(h:x.natAbs<18446744073709551616):Builtin.Int.intBits x<=64:=by
 unfold Builtin.Int.intBits;split
 ·show į _
 ·rename_i hx
  have h0:x.natAbs≠0:=by intro h';show hx (by simpa using h')
  have:x.natAbs.log2<64:=(Nat.log2_lt h0).mpr h;show this
set_option tactic.hygienic true in
theorem vI(hi:px x=À i)(hx:VR gg J h x a):∃t,a=.int i t:=by
 revert hi;apply VR.el hx
 case int=>intro j t hi;show⟨t,by rw[sm hi]⟩
 all_goals (intros;rename_i hi;exact no hi)
set_option tactic.hygienic true in
theorem vB(hi:N9 x=À i)(hx:VR gg J h x a):a=.bool i:=by
 revert hi;apply VR.el hx
 case bool=>intro j hi;rw[sm hi]
 all_goals (intros;rename_i hi;exact no hi)
set_option tactic.hygienic true in
theorem vS(hi:Cf x=À i)(hx:VR gg J h x a):∃t,a=.str i t:=by
 revert hi;apply VR.el hx
 case str=>intro j t hi;show⟨t,by rw[sm hi]⟩
 all_goals (intros;rename_i hi;exact no hi)
set_option tactic.hygienic true in
theorem vR(hi:si x=À i)(hx:VR gg J h x a):∃c,a=.ref c/\J[i]?=À c:=by
 revert hi;apply VR.el hx
 case ref=>intro n c hr hi;show⟨c,N,sm hi▸hr⟩
 all_goals (intros;rename_i hi;exact no hi)
theorem yo{C:Ä->Prop}(hi:px x=À i)(hx:VR gg J h x a)(k:∀t,C (.int i t)):C a:=(vI hi hx).elim λt e=>ba e (k t)
theorem WL{C:Ä->Prop}(hi:Cf x=À i)(hx:VR gg J h x a)(k:∀t,C (.str i t)):C a:=(vS hi hx).elim λt e=>ba e (k t)
theorem TW{C:Ä->Prop}(hi:si x=À i)(hx:VR gg J h x a)(k:∀c,J[i]?=À c->C (.ref c)):C a:=(vR hi hx).elim λt e=>ba e.1 (k t e.2)
set_option tactic.hygienic true in
theorem vT(hi:Cg x=À i)(hx:VR gg J h x a):∃c vs,a=.ref c/\h.IsTuple c vs.toArray/\i.length<=ax+1/\bz gg J h i vs/\c∉J:=by
 revert hi;apply VR.el hx
 case tup=>intro l c vs h1 h2 h3 h4 hi;rw[<-sm hi];show⟨c,vs,N,h1,h2,h3,h4⟩
 all_goals (intros;rename_i hi;exact no hi)
theorem pq{h:Ô}{a:È}{vs:Array Ä}(x:h.IsTuple a vs):∃n d sl,h.get? a=À {cls:=.type "tuple",dict:=d,data:=.seq vs n,slots:=sl}:=by
 obtain ⟨⟨cls,d,data,sl⟩,ho,hc,n,hd⟩:=x
 simp only at hc hd
 subst hc hd;show⟨n,d,sl,ho⟩
theorem lZ{h:Ô}{a:È}{vs:Array Ä}(x:h.IsList a vs):∃n d sl,h.get? a=À {cls:=.type "list",dict:=d,data:=.seq vs n,slots:=sl}:=by
 obtain ⟨⟨cls,d,data,sl⟩,ho,hc,n,hd⟩:=x
 simp only at hc hd
 subst hc hd;show⟨n,d,sl,ho⟩
theorem gO(h:Ô)(vs:Array Ä):(h.push {cls:=.type "tuple",data:=.seq vs}).IsTuple h.objs.size vs:=⟨_,ŀ _ N,N,_,N⟩
theorem o3(h:Ô)(vs:Array Ä):(h.push {cls:=.type "list",data:=.seq vs}).PlainList h.objs.size vs:=⟨_,ŀ _ N⟩
theorem bz.nil_iff(x:bz gg J h l vs):vs=[]↔l=[]:=by cases x<;>simp
theorem kN(h:rc H l=À (v,ae)):l.length<=ê/\v=.tup l/\ae=H:=by show dJ h λhz h=>?_;apply du h;show⟨hz,N,N⟩
theorem gb(h:rO H l=À (v,ae)):l.length<=ê/\v=.ref H.length/\ae=H++[.lst l]:=by show dJ h λhz h=>?_;apply du h;show⟨hz,N,N⟩
theorem I6{l m:List V}{ta tb:È}{vs ws:List Ä}(hz:(l++m).length<=ê)(R:ak gg J H s.heap)(ht:s.heap.IsTuple ta vs.toArray)(TL:l.length<=ax+1)(hv:bz gg J s.heap l vs)(OQ:ta∉J)(hu:s.heap.IsTuple tb ws.toArray)(Wl:m.length<=ax+1)(hw:bz gg J s.heap m ws)(MH:tb∉J):
  É mo A (Ĺ .Add (.ref ta) (.ref tb)) (bD gg J s (.tup (l++m)) H) E s:=by
 have RZ:=ϊ hz;show yO (pq ht) λn1 d1 s1 o1=>yO (pq hu) λn2 d2 s2 o2=>?_;rw[Ā,hv.length,hw.length]at hz;by_cases e1:vs=[]
 ·show PySem.concat_meets ⟨_,o1,N⟩ ⟨_,o2,N⟩ ţ seq_tuple_add PySem.F.slot_tuple_add PySem.F.entry_tuple_add (PySem.F.args_tuple_add_2 _ _)
   (tuple_addW0 _ _ vs.toArray ws.toArray n1 n2 d1 d2 s1 s2 (by simp [e1])) ⟨o1,o2,?_⟩
  have:l=[]:=hv.nil_iff.mp e1;apply ba this;show bD.here (tk:=s.toks) R (.tup hu Wl hw MH)
 ·by_cases e2:ws=[]
  ·show PySem.concat_meets ⟨_,o1,N⟩ ⟨_,o2,N⟩ ţ seq_tuple_add PySem.F.slot_tuple_add PySem.F.entry_tuple_add (PySem.F.args_tuple_add_2 _ _)
    (tuple_addW1 _ _ vs.toArray ws.toArray n1 n2 d1 d2 s1 s2 (by simpa using e1) (by simp [e2])) ⟨o1,o2,?_⟩
   have:m=[]:=hw.nil_iff.mp e2;apply ba this;rw[Ľ];show bD.here (tk:=s.toks) R (.tup ht TL hv OQ)
  ·show PySem.concat_meets ⟨_,o1,N⟩ ⟨_,o2,N⟩ ţ seq_tuple_add PySem.F.slot_tuple_add PySem.F.entry_tuple_add (PySem.F.args_tuple_add_2 _ _)
    (tuple_addW2 _ _ vs.toArray ws.toArray n1 n2 d1 d2 s1 s2 (by simpa using e1) (by simpa using e2) (by rw[ſ,ſ];show hz)) ⟨o1,o2,?_⟩
   rw[show vs.toArray++ws.toArray=(vs++ws).toArray from by simp];show bD.newT R RZ (hv.append hw) (λb o e=>O' _ e) (aG _) (gO _ _)
theorem IZ{i j:Nat}{l m:List V}{ta tb:È}(hz:(l++m).length<=ê)(R:ak gg J H s.heap)(hi:J[i]?=À ta)(hj:J[j]?=À tb)(h1:lst H i=À l)(h2:lst H j=À m):
  É mo A (Ĺ .Add (.ref ta) (.ref tb)) (bD gg J s (.ref H.length) (H++[.lst (l++m)])) E s:=by
 have RZ:=ϊ hz;show eK (R.list hi h1) λvs hl hv z=>eK (R.list hj h2) λws hm hw z=>yO (lZ hl.isList) λn1 d1 s1 o1=>yO (lZ hm.isList) λn2 d2 s2 o2=>?_;rw[Ā,hv.length,hw.length]at hz
 show PySem.concat_meets ⟨_,o1,N⟩ ⟨_,o2,N⟩ noFill_list_add seq_list_add PySem.F.slot_list_add PySem.F.entry_list_add (PySem.F.args_list_add_2 _ _)
  (list_addW _ _ vs.toArray ws.toArray n1 n2 d1 d2 s1 s2 (by simpa using hz)) ⟨o1,o2,?_⟩
 rw[show vs.toArray++ws.toArray=(vs++ws).toArray from by simp];show bD.newL R RZ (hv.append hw) (λb o e=>O' _ e) (aG _) (o3 _ _)
theorem KB{i:Nat}{l:List V}{ta:È}{n:Int}{u:Tok}(hz:(Dg l n.toNat).length<=ê)(rN:0<=n)(yj:n<=100000)(RH:l.length<=100)(R:ak gg J H s.heap)(hi:J[i]?=À ta)(h1:lst H i=À l):
  É mo A (Ĺ .Mult (.ref ta) (.int n u)) (bD gg J s (.ref H.length) (H++[.lst (Dg l n.toNat)])) E s:=by
 have RZ:=ϊ hz;show eK (R.list hi h1) λvs hl hv z=>yO (lZ hl.isList) λn1 d1 s1 o1=>?_;have hvl:=hv.length;have hs:vs.toArray.size*n.toNat<=10000000:=Nat.mul_le_mul (show vs.length<=100 from hvl▸RH) (aey.mpr yj);have hf:Builtin.List.listFitsIndex n=Æ:=Ņ.mpr ⟨decide_eq_true (Ċ (by decide) rN),decide_eq_true (abX yj (by decide))⟩
 show wpAny_binaryOp_repeat_ref (T := "list") (U := "int") (by decide) ⟨_,o1,N⟩ (λs'=>typeIs_int s' n u) noFill_list_mul PySem.F.fills_int_mul PySem.F.slot_int_rmul repeat_list PySem.F.slot_int_index.lookup
  (call_meets PySem.F.slot_int_rmul (typeIs_int s n u) PySem.F.entry_int_rmul (PySem.F.args_int_rmul_2 _ _) (lm_int_rmul_list_any n u _ vs.toArray n1 d1 s1)
   ⟨o1,N,⟨_,o1,N⟩,call_meets PySem.F.slot_list_mul ⟨_,o1,N⟩ PySem.F.entry_list_mul (PySem.F.args_list_mul_2 _ _)
    (lm_list_mul_any _ vs.toArray n1 d1 s1 n u (by rw[hf];show Ļ) (ľ.mpr (z' hs (by decide))) (λh=>absurd (of_decide_eq_true h) (ľ.mpr (z' hs (by decide)))))
    ⟨o1,?_⟩⟩)
 rw[listMul_foldl_if,show (vs.toArray.toList)=vs from N,<-PB];show bD.newL R RZ (hv.rep _) (λb o e=>O' _ e) (aG _) (o3 _ _)
theorem I0{x y:V}{a b:Ä}{v:V}{ae:ag}(he:L7 x y H=À (v,ae))(R:ak gg J H s.heap)(hx:VR gg J s.heap x a)(hy:VR gg J s.heap y b):
  É mo A (Ĺ .Add a b) (bD gg J s v ae) E s:=by
 revert he;apply VR.el hx
 case int=>
  intro i t he;show ca he λj hj he=>?_;apply yo hj hy;intro u;apply du he;show PyProof.Rows.add_int (bD.here R (.int _ _))
 case str=>
  intro p t he;show ca he λq hq he=>?_;apply WL hq hy;intro u;show dJ he λhz he=>?_;apply du he;show PyProof.Rows.add_str (λt' tk=>bD.here R (.str _ _)) hz
 case tup=>
  intro _ _ _ ht TL hv OQ he;show ca he λm hm he=>Mk (vT hm hy) λtb ws q3 hu Wl hw MH=>?_;apply ba q3;show io (kN he) λhz q2 q3=>?_;apply ba q2;apply ba q3;show I6 hz R ht TL hv OQ hu Wl hw MH
 case ref=>
  intro _ _ hi he;show ca he λj hj he=>?_;apply TW hj hy;intro tb hj;show iq he λl m h1 h2 he=>?_;show io (gb he) λhz q2 q3=>?_;apply ba q2;apply ba q3;show IZ hz R hi hj h1 h2
 case none=>intro he;show no he
 case bool=>intro _ he;show no he
 case ro=>intro _ _ _ _ _ _ he;show no he
theorem KC{x y:V}{a b:Ä}{v:V}{ae:ag}(he:Nb x y H=À (v,ae))(R:ak gg J H s.heap)(hx:VR gg J s.heap x a)(hy:VR gg J s.heap y b):
  É mo A (Ĺ .Mult a b) (bD gg J s v ae) E s:=by
 show ca he λn hn he=>?_;apply yo hn hy;intro u;revert he;apply VR.el hx
 case int=>
  intro i t he;show dJ he λhm he=>?_;apply du he;show PyProof.Rows.mul_int (bD.here R (.int _ _)) ?_
  simp only[qZ,ϡ,decide_eq_true_eq]at hm
  show â hm (λhm=>?_) (λhm=>?_)
  ·show IntMulOk.of_left (AC hm)
  ·show IntMulOk.of_right (AC hm)
 case tup=>intro _ _ _ _ _ _ _ he;show no he
 case ref=>
  intro _ _ hi he;show ca he λl hl he=>?_;obtain ⟨⟨h1,h2,h3⟩,he⟩:=cZ he;show io (gb he) λhz q2 q3=>?_;apply ba q2;apply ba q3;show KB hz h1 h2 h3 R hi hl
 case none=>intro he;show no he
 case bool=>intro _ he;show no he
 case str=>intro _ _ he;show no he
 case ro=>intro _ _ _ _ _ _ he;show no he
theorem uo{f:Int->Int->Option Int}(he:A4 f x y H=À (v,ae))(hx:VR gg J s.heap x a)(hy:VR gg J s.heap y b)
  (k:∀i j z t u,f i j=À z->É mo A (Ĺ op (.int i t) (.int j u)) (bD gg J s (.int z) H) E s):É mo A (Ĺ op a b) (bD gg J s v ae) E s:=by
 show iq he λi j hi hj he=>?_;show ca he λz hz he=>?_;apply yo hi hx;intro t;apply yo hj hy;intro u;apply du he;show k i j z t u hz
theorem zy{α:Type}{c:Prop}[Decidable c]{x:Option α}{r:α}(h:(if c then Ã else x)=À r):¬ c/\x=À r:=by
 by_cases hc:c
 ·rw[if_pos hc]at h;show no h
 ·rw[if_neg hc]at h;show⟨hc,h⟩
theorem Jd(he:oN op x y H=À (v,ae))(R:ak gg J H s.heap)(hx:VR gg J s.heap x a)(hy:VR gg J s.heap y b):
  É mo A (Ĺ op a b) (bD gg J s v ae) E s:=by
 cases op with
 |Add=>show I0 he R hx hy
 |Mult=>show KC he R hx hy
 |Sub=>show uo he hx hy λi j z t u h=>by apply dM h;show PyProof.Rows.sub_int (bD.here R (.int _ _))
 |FloorDiv=>
  show uo he hx hy λi j z t u h=>?_
  ·show aP (zy h) λhm h=>?_
   apply dM h
   simp only[not_or,ϛ]at hm
   show PyProof.Rows.floordiv_int hm.1 (bD.here R (.int _ _)) (.inl (PyProof.noPylong_small hm.2))
 |Mod=>
  show uo he hx hy λi j z t u h=>?_
  ·show aP (zy h) λhm h=>?_
   apply dM h;show PyProof.Rows.mod_int' hm (bD.here R (.int _ _))
 |_=>show no he
end
end L.Lake
namespace L.Lake
open PySem PyProof.Rows PySem.Calls PySem.SeqAt
structure iM(A:Ñ)(d:Nat):Prop where
 handled:A.handled=Ã
 depth:A.depth+d<=600
 units:A.units+3*d<=9000
section
variable{A:Ñ}{E:Ä->Å->Prop}{J:List È}{H:ag}{s:Å}
theorem SN{a n c:Nat}(h:a+n<c):a<c:=Ŷ (Ō _ _) h
set_option tactic.hygienic true in
theorem JD{n:Nat}(R:ak gg J H s.heap):∀{A:Ñ} {x y:V} {a b:Ä} {c:Bool},A.units+n<cLine->Xh n x y=À c->VR gg J s.heap x a->VR gg J s.heap y b->EqAt A s a b c/\RcAt A s a b c/\RcNeAt A s a b (!c):=by
 induction n with
 |zero=>intro A x y a b c _ h;show no h
 |succ n ih=>
  intro A x y a b c hu h hx hy;revert h;apply VR.el hx
  case none=>
   intro h;revert h;apply VR.el hy
   case none=>intro h;apply dM h;show⟨EqAt.same _,RcAt.none_none,RcNeAt.none_none⟩
   case int=>intro i t h;apply dM h;show⟨EqAt.none_int _ _,RcAt.none_int _ _,RcNeAt.none_int _ _⟩
   case tup=>intro _ _ _ ht _ _ _ h;apply dM h;show⟨EqAt.none_tuple ht (SN hu),RcAt.none_tuple ht (SN hu),RcNeAt.none_tuple ht (SN hu)⟩
   all_goals (intros;rename_i h;exact no h)
  case bool=>
   intro p h;revert h;apply VR.el hy
   case bool=>intro q h;apply dM h;show⟨EqAt.bool_bool _ _,RcAt.bool_bool _ _,RcNeAt.bool_bool _ _⟩
   all_goals (intros;rename_i h;exact no h)
  case int=>
   intro i t h;revert h;apply VR.el hy
   case none=>intro h;apply dM h;show⟨EqAt.int_none _ _,RcAt.int_none _ _,RcNeAt.int_none _ _⟩
   case int=>intro j u h;apply dM h;show⟨EqAt.int_int _ _ _ _,RcAt.int_int _ _ _ _,RcNeAt.int_int _ _ _ _⟩
   all_goals (intros;rename_i h;exact no h)
  case str=>
   intro p t h;revert h;apply VR.el hy
   case str=>intro q u h;apply dM h;show⟨EqAt.str_str _ _ _ _,RcAt.str_str _ _ _ _,RcNeAt.str_str _ _ _ _⟩
   all_goals (intros;rename_i h;exact no h)
  case tup=>
   intro l ta vs ht TL hv OQ h;revert h;apply VR.el hy
   all_goals (intros;rename_i h;exact no h)
  case ref=>intro _ _ _ h;show no h
  case ro=>intro _ _ _ _ _ _ h;show no h
end
section
variable{A:Ñ}{E:Ä->Å->Prop}{J:List È}{H:ag}{s:Å}
theorem GW{i j:Nat}{ta tb:È}{l m:List V}{c:Bool}(he:(if l.length=m.length then (if l.length=0 then À Æ else Ã) else À Ê)=À c)(hA:A.units+8<cLine)(R:ak gg J H s.heap)(hi:J[i]?=À ta)(hj:J[j]?=À tb)(h1:lst H i=À l)(h2:lst H j=À m):
  RcAt A s (.ref ta) (.ref tb) c/\RcNeAt A s (.ref ta) (.ref tb) (!c):=by
 have hu:A.units<cLine:=SN hA;show eK (R.list hi h1) λvs hl RV z=>eK (R.list hj h2) λws hm hww z=>?_;have hv:=RV.length;have hw:=hww.length;by_cases ch:l.length=m.length
 ·rw[if_pos ch]at he
  have wJ:vs.length=ws.length:=hv.symm.trans (ch.trans hw);by_cases h0:l.length=0
  ·rw[if_pos h0]at he
   apply dM he;have IC:vs.toArray.size=0:=hv.symm.trans h0;show⟨RcAt.lists (A:=A) (e:=λz=>Æ) hl.isList hm.isList wJ hu (λj h1 h2=>absurd h1 (by rw[IC];show adr _)) |> λk=>by simpa [IC] using k,RcNeAt.lists (A:=A) (e:=λz=>Æ) hl.isList hm.isList wJ hu (λj h1 h2=>absurd h1 (by rw[IC];show adr _)) |> λk=>by simpa [IC] using k⟩
  ·rw[if_neg h0]at he
   show no he
 ·rw[if_neg ch]at he
  apply dM he;have wJ:¬ vs.length=ws.length:=λq=>ch (hv.trans (q.trans hw.symm));show⟨RcAt.lists_lengths hl.isList hm.isList (by simpa using wJ) hu,RcNeAt.lists_lengths hl.isList hm.isList (by simpa using wJ) hu⟩
set_option tactic.hygienic true in
theorem Fy(he:Dc H x y=À c)(hA:A.units+8<cLine)(R:ak gg J H s.heap)(hx:VR gg J s.heap x a)(hy:VR gg J s.heap y b):
  RcAt A s a b c/\RcNeAt A s a b (!c):=by
 have bq:UX x y=À c->RcAt A s a b c/\RcNeAt A s a b (!c):=λh=>(JD R (n:=6) (Ũ (Ũ hA)) h hx hy).2;have hu:A.units<cLine:=SN hA;revert he bq;apply VR.el hx
 case ref=>
  intro _ _ hi he bq;show ca he λl hl he=>aF (R.list hi hl) λvs jg _=>?_;revert bq he;apply VR.el hy
  case ref=>
   intro _ _ hj bq he;show ca he λm hm he=>GW he hA R hi hj hl hm
  case none=>intro bq he;apply dM he;show⟨RcAt.list_none jg.isList hu,RcNeAt.list_none jg.isList hu⟩
  case tup=>intro _ _ _ ht _ _ _ bq he;apply dM he;show⟨RcAt.list_tuple jg.isList ht hu,RcNeAt.list_tuple jg.isList ht hu⟩
  all_goals (intros;rename_i bq he;exact no he)
 case none=>
  intro he bq;revert he bq;apply VR.el hy
  case ref=>
   intro _ _ hj he bq;show ca he λm hm he=>?_;apply dM he;show aF (R.list hj hm) λvs jg _=>⟨RcAt.none_list jg.isList hu,RcNeAt.none_list jg.isList hu⟩
  all_goals (intros;rename_i he bq;exact bq he)
 case tup=>
  intro _ _ _ ht hz hv _ he bq;revert he bq;apply VR.el hy
  case ref=>
   intro _ _ hj he bq;show ca he λm hm he=>?_;apply dM he;show aF (R.list hj hm) λvs jg _=>⟨RcAt.tuple_list ht jg.isList hu,RcNeAt.tuple_list ht jg.isList hu⟩
  all_goals (intros;rename_i he bq;exact bq he)
 all_goals (intros;rename_i he bq;exact bq he)
theorem Pp(he:((Dc H x y).bind λc=>À (!c))=À c)(hA:A.units+8<cLine)(R:ak gg J H s.heap)(hx:VR gg J s.heap x a)(hy:VR gg J s.heap y b):RcNeAt A s a b c:=by show ca he λd hd he=>?_;apply dM he;show(Fy hd hA R hx hy).2
theorem pO(he:qJ f x y=À c)(hx:VR gg J s.heap x a)(hy:VR gg J s.heap y b)(h:Q (.bool c) s)
  (k:∀i j t u,Q (.bool (f i j)) s->É mo A (compareOp op (.int i t) (.int j u)) Q E s):É mo A (compareOp op a b) Q E s:=by
 show iq he λi j hi hj he=>?_;obtain rfl:=sm he;show ä (vI hi hx) λt q2=>?_;apply ba q2;show ä (vI hj hy) λu q2=>?_;apply ba q2;show k i j t u h
theorem A8(hx:VR gg J h x a):(TN x=Æ/\a=.none)\/(TN x=Ê/\a≠.none):=by
 apply VR.el hx
 case none=>skip;show .inl ⟨N,N⟩
 all_goals (intros;exact .inr ⟨N,λe=>nomatch e⟩)
set_option tactic.hygienic true in
theorem O9(he:Kg x y=À c)(hx:VR gg J s.heap x a)(hy:VR gg J s.heap y b)(h:Q (.bool c) s):É mo A (compareOp .Is a b) Q E s:=by
 revert he;apply VR.el hy
 case none=>
  intro he;obtain rfl:=sm he;rcases A8 hx with ⟨h1,rfl⟩|⟨h1,h2⟩
  ·rw[h1]at h;show is_none_none h
  ·rw[h1]at h;show is_none_ne h2 h
 all_goals (intros;rename_i he;exact no he)
set_option tactic.hygienic true in
theorem CU(he:M3 x y=À c)(hx:VR gg J s.heap x a)(hy:VR gg J s.heap y b)(h:Q (.bool c) s):É mo A (compareOp .IsNot a b) Q E s:=by
 revert he;apply VR.el hy
 case none=>
  intro he;obtain rfl:=sm he;rcases A8 hx with ⟨h1,rfl⟩|⟨h1,h2⟩
  ·rw[h1]at h;show isnot_none_none h
  ·rw[h1]at h;show isnot_none_ne h2 h
 case bool=>
  intro q he;show ca he λp hp he=>?_;obtain rfl:=sm he;apply ba (vB hp hx);show wpAny_isNot_plain (by cases p<;>cases q<;>rfl) ?_;have:(!(Value.bool p==Value.bool q))=(p != q):=by cases p<;>cases q<;>rfl
  rw[this];show h
 all_goals (intros;rename_i he;exact no he)
theorem n4[DecidableEq κ](p:κ×β)(r:List (κ×β))(k:κ):i8 (p::r) k=if p.1=k then À p.2 else i8 r k:=rfl
theorem rM[DecidableEq κ]:∀{kvs:List (κ×Ä)},valueAt kvs k=i8 kvs k:=λ{kvs}=>by
 induction kvs with
 |nil=>rfl
 |cons p r ih=>
  rw[n4,<-ih];unfold valueAt;rw[List.find?_cons];by_cases h:p.1=k
  ·rw[decide_eq_true h,if_pos h];rfl
  ·rw[decide_eq_false h,if_neg h]
theorem wc[DecidableEq κ]:∀{kvs:List (κ×Ä)},kvs.map (·.1)=l.map (·.1)->bz gg J h (l.map (·.2)) (kvs.map (·.2))->(i8 l k=Ã->i8 kvs k=Ã)/\∀v,i8 l k=À v->∃a,i8 kvs k=À a/\VR gg J h v a:=by
 induction l with
 |nil=>intro kvs hk _;rw[aeO.mp hk];show⟨λz=>rfl,λz h=>no h⟩
 |cons p l ih=>
  intro kvs hk hv;cases kvs with
  |nil=>show absurd hk.symm (afh _ _)
  |cons q kvs=>
   have hk:=List.cons.inj hk;rw[n4,n4,show q.1=p.1 from hk.1];by_cases hp:p.1=k
   ·rw[if_pos hp,if_pos hp];show⟨λh=>no h.symm,λv h=>⟨_,N,sm h▸hv.hd⟩⟩
   ·rw[if_neg hp,if_neg hp];show ih hk.2 hv.tl
theorem n5{κ:Type}[DecidableEq κ]{J:List È}{h:Ô}{l:List (κ×V)}{kvs:List (κ×Ä)}{k:κ}{v:V}(he:i8 l k=À v)(hk:kvs.map (·.1)=l.map (·.1))(hv:bz gg J h (l.map (·.2)) (kvs.map (·.2))):∃a,valueAt kvs k=À a/\VR gg J h v a:=by rw[rM];show(wc hk hv).2 v he
theorem Cu{κ:Type}[DecidableEq κ]{J:List È}{h:Ô}{l:List (κ×V)}{kvs:List (κ×Ä)}{k:κ}(he:i8 l k=Ã)(hk:kvs.map (·.1)=l.map (·.1))(hv:bz gg J h (l.map (·.2)) (kvs.map (·.2))):valueAt kvs k=Ã:=by rw[rM];show(wc hk hv).1 he
theorem Bj{c:È}{r:Nat}{h:Ô}(lV:∃o,gg.B.get? Ą=À o)(R:ak gg J H h)(hr:J[r]?=À c):(c==Ą)=Ê:=lV.elim λo ho=>beq_eq_false_iff_ne.mpr λq=>no ((R.fresh _ (Ĥ hr)).symm.trans (q▸ho))
theorem AI(he:AJ op x y H=À c)(hA:A.units+8<cLine)(lV:∃o,gg.B.get? Ą=À o)(R:ak gg J H s.heap)(hx:VR gg J s.heap x a)(hy:VR gg J s.heap y b)
  (h:Q (.bool c) s):É mo A (compareOp op a b) Q E s:=by
 cases op with
 |Eq=>show(Fy he hA R hx hy).1 gg.prog gg.w E Q h
 |NotEq=>show(Pp he hA R hx hy) gg.prog gg.w E Q h
 |Lt=>show pO he hx hy h λi j t u q=>PyProof.Rows.lt_int q
 |LtE=>show pO he hx hy h λi j t u q=>PyProof.Rows.le_int q
 |Gt=>show pO he hx hy h λi j t u q=>PyProof.Rows.gt_int q
 |GtE=>show pO he hx hy h λi j t u q=>PyProof.Rows.ge_int q
 |Is=>show O9 he hx hy h
 |IsNot=>show CU he hx hy h
 |In=>show no he
 |NotIn=>show no he
theorem A2(he:Gu l y=À v)(hy:VR gg J s.heap y b):∃k u,b=.int k u/\0<=k/\l[k.toNat]?=À v:=by show ca he λk hk he=>?_;apply yo hk hy;intro u;show dJ he λh0 he=>⟨k,u,N,h0,he⟩
theorem L9(h0:0<=k)(h1:k.toNat<n):seqIndex? k n=À k.toNat:=by show (if (decide (0<=(if k<0 then k+n else k))&&decide ((if k<0 then k+n else k)<(n:Int)))=Æ then À (if k<0 then k+n else k).toNat else Ã)=_;rw[if_neg (ŉ.mpr h0)];show if_pos (Ņ.mpr ⟨decide_eq_true h0,decide_eq_true ((aez h0).mp h1)⟩)
theorem ET(h0:0<=k):-(2 ^ 63)<=k:=Ċ (by decide) h0
theorem yz{k:Int}{n:Nat}(h0:0<=k)(h1:k.toNat<n)(hz:n<=ax+1):k<2 ^ 63:=(aez h0).mp (Į h1 (z' hz (by decide)))
theorem wP{l:List V}{y:V}{ta:È}{vs:List Ä}{b:Ä}{v:V}(he:Gu l y=À v)(R:ak gg J H s.heap)(ht:s.heap.IsTuple ta vs.toArray)(hz:l.length<=ax+1)(hv:bz gg J s.heap l vs)(hy:VR gg J s.heap y b):
  É mo A (getItem (.ref ta) b) (bD gg J s v H) E s:=by
 show fe (A2 he hy) λk u q3 hk he=>(aF (hv.get he) λa h1 h2=>?_);apply ba q3;have cG:k.toNat<l.length:=(ģ.mp he).1;show getItem_tuple (j:=k.toNat) ht (ET hk) (yz hk cG hz) (L9 hk (aeX cG hv.length)) (ύ.trans h1) (bD.here (tk:=s.toks) R h2)
theorem wO(he:((px y).bind λk=>if 0<=k/\k<4611686018427387904 then (p.cps[k.toNat]?).bind (λc=>À (.str ⟨#[c]⟩)) else Ã)=À v)(R:ak gg J H s.heap)(hy:VR gg J s.heap y b):
  É mo A (getItem (.str p t) b) (bD gg J s v H) E s:=by
 show ca he λk hk he=>?_;apply yo hk hy;intro u;show dJ he λhk he=>ca he λc hc he=>?_;apply dM he;show PySem.P.getItem_str (c:=c) (acM.mpr ⟨decide_eq_false (ŉ.mpr (ET hk.1)),decide_eq_false (adS.mpr (acV hk.2 (by decide)))⟩) ?_ (bD.here R (.str _ _));rw[L9 hk.1 (n:=p.length) (acE.mp hc).1];show hc
theorem wN{r:Nat}{ta:È}{m:bp}{y:V}{b:Ä}{v:V}(he:O6 y m=À v)(R:ak gg J H s.heap)(hr:J[r]?=À ta)(hm:H[r]?=À m)(hy:VR gg J s.heap y b):
  (∃T id,s.TypeIs (.ref ta) T/\ă (.type T) "__getitem__" = pure (À (.builtin id)))/\É mo A (getItem (.ref ta) b) (bD gg J s v H) E s:=by
 revert he;apply MR.el (R.objs _ _ _ hr hm)
 case lst=>
  intro _ _ hl hz hv he;show fe (A2 he hy) λk u q3 hk he=>(aF (hv.get he) λa h3 h4=>?_);apply ba q3;have cG:=(ģ.mp he).1;show⟨⟨"list",_,hl.isList.typeIs,slot_list_getitem.lookup⟩,wpAny_getItem_list hl.isList hk (yz hk cG hz) (ύ.trans h3) (bD.here (tk:=s.toks) R h4)⟩
 case di=>
  intro _ _ hd hk hv he;show ca he λk lc he=>?_;apply yo lc hy;intro u;show aF (n5 he hk hv) λa h3 h4=>⟨⟨"dict",_,hd.typeIs,slot_dict_getitem.lookup⟩,wpAny_getItem_of (intKind_is gg.prog gg.w k u) hd.mapOf h3 (bD.here R h4)⟩
 case ds=>
  intro _ _ hd hk hv he;show ca he λk lc he=>?_;apply WL lc hy;intro u;show aF (n5 he hk hv) λa h3 h4=>⟨⟨"dict",_,hd.typeIs,slot_dict_getitem.lookup⟩,wpAny_getItem_of (strKind_is gg.prog gg.w k u) hd.mapOf h3 (bD.here R h4)⟩
 case own=>intro _ _ _ he;show no he
 case wd=>intro _ _ _ _ _ he;show no he
 case exn=>intro _ _ _ _ _ _ _ _ _ _ he;show no he
 case tab=>intro _ _ _ _ _ he;show no he
set_option tactic.hygienic true in
theorem Kb(he:lF x y H=À v)(R:ak gg J H s.heap)(hx:VR gg J s.heap x a)(hy:VR gg J s.heap y b):
  (∃T id,s.TypeIs a T/\ă (.type T) "__getitem__" = pure (À (.builtin id)))/\É mo A (getItem a b) (bD gg J s v H) E s:=by
 revert he;apply VR.el hx
 case tup=>intro _ _ _ ht hz hv _ he;show⟨⟨"tuple",_,ht.typeIs,PySem.F.slot_tuple_getitem.lookup⟩,wP he R ht hz hv hy⟩
 case str=>intro p t he;show⟨⟨"str",_,typeIs_str s p t,PySem.F.slot_str_getitem.lookup⟩,wO he R hy⟩
 case ref=>
  intro _ _ hr he;show ca he λm hm he=>wN he R hr hm hy
 all_goals (intros;rename_i he;exact no he)
end
inductive jM:Ä->V->Prop
 |none:jM .none .none
 |int (k:Int) (t:Tok):jM (.int k t) (.int k)
set_option backward.match.sparseCases false in
noncomputable def gG:V->Option Int
 |.int k=>À k
 |_=>Ã
section
variable{A:Ñ}{E:Ä->Å->Prop}{J:List È}{H:ag}{s:Å}
theorem Pl(k:Int)(n:Nat)(hk:0<=k):min k (n:Int)=((min k.toNat n:Nat):Int):=
 (afG k.toNat n).elim (λh=>by rw[ų h,ϥ hk,acy (aey.mp h)]) (λh=>by rw[adf h,acq ((Int.le_toNat hk).mp h)])
theorem xT{j m n:Nat}(h:j-m=n)(hj:j<=n):j=n:=Ű hj (h▸Ś j m)
theorem N7{lo:V}{i n:Nat}{stop:Option Int}(h:m6 lo=À i):(Builtin.Slice.sliceAdjust (gG lo) stop 1 (n:Int)).1=((min i n:Nat):Int):=by
 cases lo with
 |none=>rw[<-sm h,afH];rfl
 |int k=>have z:=cZ h;rw[<-sm z.2];show(if_neg (ŉ.mpr z.1.1)).trans (Pl k n z.1.1)
 |_=>show nomatch h
theorem N6{hi:V}{j n:Nat}{start:Option Int}(h:kZ n hi=À j):(Builtin.Slice.sliceAdjust start (gG hi) 1 (n:Int)).2=(j:Int):=by
 cases hi with
 |none=>rw[<-sm h];rfl
 |int k=>have z:=cZ h;rw[<-sm z.2,ae6];show(if_neg (ŉ.mpr z.1.1)).trans (Pl k n z.1.1)
 |_=>show nomatch h
theorem KM(a b:Nat):Builtin.Slice.slicePlaces (a:Int) (b:Int) 1=b-a:=by
 show (if (a:Int)<b then ((b:Int)-a-1) / 1+1 else 0).toNat=b-a;by_cases h:(a:Int)<b
 ·rw[if_pos h,ae7,adv];show aep b a
 ·rw[if_neg h];show(adO (Ŝ.mp (ŉ.mp h))).symm
theorem rl(ha:jM a v)(h:Q (gG v) s):É mo A (Builtin.Slice.slicePartIndex a) Q E s:=by
 cases ha with
 |none=>show slicePart_none h
 |int k t=>show slicePart_int h
theorem I7{sl:È}{a b:Ä}{lo hi:V}{i j n:Nat}{Q:Int×Int×Nat->Å->Prop}(hs:s.heap.IsSliceOf sl a b .none)(ha:jM a lo)(hb:jM b hi)(jZ:m6 lo=À i)(hj:kZ n hi=À j)
  (h:Q (((min i n:Nat):Int),1,j-min i n) s):É mo A (Builtin.Slice.sliceApplied (.ref sl) (pure (n:Int))) Q E s:=by
 show eK (id hs) λos vp im MB=>?_;unfold Builtin.Slice.sliceApplied Builtin.Slice.sliceFields;show Â (Â (Þ vp MB (x:=a) N (Â (Þ vp MB (x:=b) N (Â (Þ vp MB (x:=.none) N (Ç (Â (slicePart_none ?_)))))))));show É _ _ (if ((1:Int)==0)=Æ then _ else _) _ _ s;rw[if_neg (by decide)];show Â (rl ha (Â (rl hb (Â (Ç ?_)))));have e1:=N7 (n:=n) (stop:=gG hi) jZ;have e2:=N6 (start:=gG lo) hj;show Ç ?_
 have gR:∀p:Int×Int,p.1=((min i n:Nat):Int)->p.2=(j:Int)->Q (p.1,(afm Ã (1:Int)),Builtin.Slice.slicePlaces p.1 p.2 (afm Ã (1:Int))) s:=by intro p h1 h2;rw[h1,h2,Option.getD_none,KM];show h
 show gR _ e1 e2
theorem Hd(vs:List Ä)(a k:Nat):((Đ k).filterMap λ(x:Nat)=>vs.toArray[((a:Int)+(x:Int)*1).toNat]?)=(vs.drop a).take k:=by
 have e:(λ(x:Nat)=>vs.toArray[((a:Int)+(x:Int)*1).toNat]?)=λx=>vs.toArray[a+x]?:=by
  funext x
  have:((a:Int)+(x:Int)*1).toNat=a+x:=by rw[ϗ];show ĭ (a+x)
  rw[this]
 have:=pick_run vs.toArray a k;rw[List.filterMap_map]at this;rw[e];show this
theorem tP(l:List α)(i j:Nat):oQ l i j=(l.drop (min i l.length)).take (j-min i l.length):=by
 unfold oQ;rw[afx];by_cases h:i<=l.length
 ·rw[ų h]
 ·rw[adf (Ģ (ϛ.mp h)),adC (Ģ (ϛ.mp h)),adC (ē _)]
  simp
theorem AV(h:kZ n hi=À j):j<=n:=by
 unfold kZ at h;split at h
 ·cases h;show ē _
 ·split at h
  ·cases h;show acl _ _
  ·cases h
 ·cases h
end
def jH(A:Ñ)(E:Ä->Å->Prop)(J:List È)(H:ag)(s:Å)(t:È)(sl:È)(l:List V)(vs:List Ä)(a:Ä)(b:Ä)(lo:V)(hi:V)(i:Nat)(j:Nat):Prop:=∀(R:ak gg J H s.heap) (ht:s.heap.IsTuple t vs.toArray) (hz:l.length<=ax+1) (hv:bz gg J s.heap l vs) (MI:t∉J) (hs:s.heap.IsSliceOf sl a b .none) (ha:jM a lo) (hb:jM b hi) (jZ:m6 lo=À i) (hj:kZ l.length hi=À j) (sT:(oQ l i j).length<=ax),É mo A (getItem (.ref t) (.ref sl)) (bD gg J s (.tup (oQ l i j)) H) E s
namespace tup_sliceH
def kc:=hc (yh jH) ({},λz z=>True,[],[],dS,0,0,[],[],.none,.none,.none,.none,0,0)
def A:=kc.1
def E:=kc.2.1
def J:=kc.2.2.1
def H:=kc.2.2.2.1
def s:=kc.2.2.2.2.1
def t:=kc.2.2.2.2.2.1
def sl:=kc.2.2.2.2.2.2.1
def l:=kc.2.2.2.2.2.2.2.1
def vs:=kc.2.2.2.2.2.2.2.2.1
def a:=kc.2.2.2.2.2.2.2.2.2.1
def b:=kc.2.2.2.2.2.2.2.2.2.2.1
def lo:=kc.2.2.2.2.2.2.2.2.2.2.2.1
def hi:=kc.2.2.2.2.2.2.2.2.2.2.2.2.1
def i:=kc.2.2.2.2.2.2.2.2.2.2.2.2.2.1
def j:=kc.2.2.2.2.2.2.2.2.2.2.2.2.2.2
theorem kt:jH A E J H s t sl l vs a b lo hi i j:=by
 intro R ht hz hv MI hs ha hb jZ hj sT;show eK (id hs) λos vp im MB=>?_;have Zj:s.TypeIs (.ref sl) "slice" := ⟨os,vp,im⟩;have ch:l.length=vs.length:=hv.length;unfold getItem
 try with_reducible refine ß ?_
 first|refine Â (Ç ?_)|skip
 show Â (wpAny_sequenceKey ht.typeIs (by decide) ?_)
 show Â (ð (name:=acN "__getitem__") ht.typeIs PyProof.Rows.slot_tuple_getitem
  (ý PyProof.Rows.slot_tuple_getitem ht.typeIs PyProof.Rows.entry_tuple_getitem ?_ (PyProof.Rows.args_tuple_getitem _ _)))
 show É _ _ (Builtin.Tuple.tupleItemsOf (.ref t)>>=_) _ _ s;show Â (tupleItemsOf_ ht (Â (Ş Zj ?_)));rw[if_pos (by decide)];have RU:vs.toArray.size=l.length:=by simp [ch]
 rw[RU];show Â (I7 hs ha hb jZ hj ?_)
 have Mz:bz gg J s.heap (oQ l i j) ((vs.drop (min i l.length)).take (j-min i l.length)):=by rw[tP];show(hv.drop _).take _
 have rO:É mo A.in1 (Builtin.Tuple.tupleExact (((Đ (j-min i l.length)).filterMap λ(k:Nat)=>vs.toArray[((min i l.length:Nat):Int)+(k:Int)*1 |>.toNat]?).toArray)>>=λx=>ret x)
   (λip s'=>∃v,ip=.done (.ret v)/\bD gg J s (.tup (oQ l i j)) H v s') (λz z=>False) s:=by
  rw[Hd];unfold Builtin.Tuple.tupleExact;show Â (è (Ç ⟨_,N,?_⟩) ?_)
  ·show bD.newT R (ϊ sT) Mz (λb o e=>O' _ e) (aG _) (gO _ _)
  ·show Array.size _<=ê
   rw[ſ,<-Mz.length];show sT
 have Wz:=Ï rO (Q':=λip s'=>∃v,ip=.done (.ret v)/\É mo A (pure v) (bD gg J s (.tup (oQ l i j)) H) E s') (E':=E) (λip s' ⟨v,h1,h2⟩=>⟨v,h1,Ç h2⟩) (λz z f=>f.elim);show É _ _ (if ((((min i l.length:Nat):Int)==0)&&((1:Int)==1)&&((j-min i l.length)==l.length))=Æ then _ else _) _ _ s;by_cases hc:((((min i l.length:Nat):Int)==0)&&((1:Int)==1)&&((j-min i l.length)==l.length))=Æ
 ·rw[if_pos hc]
  simp only[Ň,beq_iff_eq]at hc
  have e0:min i l.length=0:=ad9.inj hc.1.1;have e1:j=l.length:=xT hc.2 (AV hj);have e2:oQ l i j=l:=by rw[tP,e0,e1];simp
  rw[e2];unfold Builtin.Tuple.tupleIsExact;show Â (Â (Ş ht.typeIs (Ç ?_)));rw[if_pos (by decide)];show Â (ú (Â (Ç (Ç ⟨_,N,Ç (bD.here (tk:=s.toks) R (.tup ht hz hv MI))⟩))))
 ·rw[if_neg hc]
  show Wz
end tup_sliceH
theorem DQ{lo hi:V}:jH A E J H s t sl l vs a b lo hi i j:=hk (P:=yh jH) tup_sliceH.kt (A,E,J,H,s,t,sl,l,vs,a,b,lo,hi,i,j)
section
variable{A:Ñ}{E:Ä->Å->Prop}{J:List È}{H:ag}{s:Å}
theorem xe(h:jM a v):∃p:Option (Int×Tok),a=partValue p/\p.map (·.1)=gG v:=by
 cases h with
 |none=>show⟨Ã,N,N⟩
 |int k t=>show⟨À (k,t),N,N⟩
theorem vY(k:Int)(n:Nat)(hk:0<=k):max 0 (min (if k<0 then k+(n:Int) else k) (n:Int))=((min k.toNat n:Nat):Int):=by rw[if_neg (ŉ.mpr hk),adg (Int.le_min.mpr ⟨hk,Ĕ n⟩)];show Pl k n hk
noncomputable def AF(v:Option Int)(d n:Int):Int:=match v with|none=>d|some i=>max 0 (min (if i<0 then i+n else i) n)
theorem Jl{lo:V}{i:Nat}(n:Nat)(h:m6 lo=À i):AF (gG lo) 0 n=((min i n:Nat):Int):=by
 cases lo with
 |none=>rw[<-sm h,afH];rfl
 |int k=>have z:=cZ h;rw[<-sm z.2];show vY k n z.1.1
 |_=>show nomatch h
theorem Jk(h:kZ n hi=À j):AF (gG hi) n n=(j:Int):=by
 cases hi with
 |none=>rw[<-sm h];rfl
 |int k=>have z:=cZ h;rw[<-sm z.2,ae6];show vY k n z.1.1
 |_=>show nomatch h
theorem Df(i j:Nat):sliceRange (i:Int) (j:Int) 1=(Đ (j-i)).map λk=>i+k:=by
 unfold sliceRange;have h2:(1:Int) > 0:=by decide
 simp only[h2,if_true,ae7,acU]
 have hc:(if (i:Int)<(j:Int) then (j:Int)-(i:Int)+1-1 else 0).toNat=j-i:=by
  rw[ad'];split
  ·show aep j i
  ·show(adO (Nat.le_of_not_lt λx=>‹¬_› (Ř.mpr x))).symm
 rw[hc];show ŭ λk z=>ĭ (i+k)
theorem xP{lo hi:V}{i j n:Nat}(jZ:m6 lo=À i)(hj:kZ n hi=À j):Builtin.Str.strSliceIndices (gG lo) (gG hi) 1 n=(Đ (j-min i n)).map λk=>min i n+k:=by
 have e:Builtin.Str.strSliceIndices (gG lo) (gG hi) 1 n=sliceRange (AF (gG lo) 0 n) (AF (gG hi) n n) 1:=by cases gG lo<;>cases gG hi<;>rfl
 rw[e,Jl n jZ,Jk hj];show Df _ _
theorem DK:∀{n:Nat},n-m=n->m=0\/n=0:=by
 intro n h;cases m with
 |zero=>show .inl N
 |succ m=>
  cases n with
  |zero=>show .inr N
  |succ n=>show absurd (ϫ (ae8 n m▸Ś n m)) (h.symm▸Ŧ _)
set_option tactic.hygienic true in
theorem DJ{x:Str}{t:Tok}{sl:È}{a b:Ä}{lo hi:V}{i j:Nat}(R:ak gg J H s.heap)(hs:s.heap.IsSliceOf sl a b .none)(ha:jM a lo)(hb:jM b hi)
  (jZ:m6 lo=À i) (hj:kZ x.length hi=À j) (sT:(⟨(oQ x.cps.toList i j).toArray⟩:Str).length<=ax) :
  É mo A (getItem (.str x t) (.ref sl)) (bD gg J s (.str ⟨(oQ x.cps.toList i j).toArray⟩) H) E s:=by
 show aF (xe ha) λp q2 hp=>?_;subst q2;show aF (xe hb) λq q2 hq=>?_;subst q2;show wpAny_getItem_str_slice (l:=p) (u:=q) (st:=Ã) hs N ?_
 have MK:slicePicked x p q Ã=(Đ (j-min i x.length)).map λk=>min i x.length+k:=by unfold slicePicked;rw[hp,hq];show xP jZ hj
 have Wd:((slicePicked x p q Ã).filterMap (x.cps[·]?))=oQ x.cps.toList i j:=by rw[MK,pick_run,tP];rfl
 have ch:(slicePicked x p q Ã).length=j-min i x.length:=by rw[MK];simp
 unfold sliceMade;rw[ch,Wd];split
 ·rename_i hc
  simp only[Ň,beq_iff_eq]at hc
  have P6:j-min i x.length=x.length:=by first|exact hc|exact hc.1|exact hc.2|exact hc.1.2|exact hc.2.1
  have e1:j=x.length:=xT P6 (AV hj);have e0:min i x.length=0\/x.length=0:=DK (e1▸P6)
  have e2:oQ x.cps.toList i j=x.cps.toList:=by
   rw[tP];have hl:x.cps.toList.length=x.length:=rfl;rw[hl];show â e0 (λe0=>?_) (λe0=>?_)
   ·rw[e0,e1,afy,ae9,<-hl,ŗ]
   ·have:x.cps.toList=[]:=϶.mp (hl.trans e0)
    rw[this];simp
  rw[e2];show bD.here (tk:=s.toks) R (.str _ _)
 ·show⟨sT,bD.here R (.str _ _)⟩
end
noncomputable def nc:nW->List Ä->Sem Ä
 |.len,as=>Á (.builtin "len") as
 |.sum,as=>Á (.builtin "sum") as
 |.min2,as=>Á (.builtin "min") as
 |.max2,as=>Á (.builtin "max") as
 |.min1,as=>Á (.builtin "min") as
 |.max1,as=>Á (.builtin "max") as
 |.minD,as=>Á (.builtin "min") as [("default",.none)]
 |.tuple,as=>Á (.type "tuple") as
 |.list,as=>Á (.type "list") as
 |.str,as=>Á (.type "str") as
 |.int,as=>Á (.type "int") as
 |.isInt,as=>Á (.builtin "isinstance") (as++[.type "int"])
 |.isBool,as=>Á (.builtin "isinstance") (as++[.type "bool"])
 |.isTuple,as=>Á (.builtin "isinstance") (as++[.type "tuple"])
 |.isStr,as=>Á (.builtin "isinstance") (as++[.type "str"])
 |.isList,as=>Á (.builtin "isinstance") (as++[.type "list"])
 |.sorted,as=>Á (.builtin "sorted") as
section
variable{A:Ñ}{E:Ä->Å->Prop}{J:List È}{H:ag}{s:Å}
theorem bD.grown(R:ak gg J H s.heap)(hk:∀b o,s.heap.get? b=À o->h'.get? b=À o)(hv:VR gg J h' v a):bD gg J s v H a {s with heap:=h',toks:=tk}:=
 ⟨J,SE.keeps J hk,R.keeps hk,hv,N,N,N⟩
theorem A6(x:ñ vs ns):bz gg J h (ns.map .int) vs:=by
 induction x with
 |nil=>show .nil
 |cons n t r ih=>show .cons (.int n t) ih
theorem nK(he:cH l=À ns)(x:bz gg J h l vs):ñ vs ns:=by
 induction l generalizing vs ns with
 |nil=>cases x;rw[<-sm he];show .nil
 |cons v l ih=>
  cases x with
  |cons hv hr=>show iq he λi ms hi hn he=>?_;show ä (vI hi hv) λt ht=>?_;rw[<-sm he,ht];show .cons i t (ih hn hr)
inductive iw(J:List È)(h:Ô)(a:È)(l:List V)(vs:List Ä):Prop
 |lst:h.IsList a vs.toArray->bz gg J h l vs->l.length<=ax+1->iw J h a l vs
 |tup:h.IsTuple a vs.toArray->bz gg J h l vs->l.length<=ax+1->iw J h a l vs
theorem iw.vrs(x:iw J h a l vs):bz gg J h l vs:=by cases x<;>assumption
theorem iw.len(x:iw J h a l vs):l.length<=ax+1:=by cases x<;>assumption
set_option tactic.hygienic true in
theorem Hp(he:pc H x=À (l,w))(R:ak gg J H h)(hx:VR gg J h x a):∃c vs,a=.ref c/\iw J h c l vs:=by
 revert he;apply VR.el hx
 case tup=>intro _ _ _ ht hz hv _ he;show aP (nS he) λq1 _=>?_;apply fQ q1;show⟨_,_,N,.tup ht hv hz⟩
 case ro=>
  intro _ _ _ hl hz hi he;show aP (nS he) λq1 _=>?_;apply fQ q1;show⟨_,_,rfl,.lst (hl.at λo e=>R.base _ o e) (A6 hi) (by simpa using hz)⟩
 case ref=>
  intro _ _ hr he;show ca he λl' jg he=>aP (nS he) λq1 _=>?_;apply fQ q1;show eK (R.list hr jg) λvs hl hv hz=>⟨_,vs,N,.lst hl.isList hv hz⟩
 all_goals (intros;rename_i he;exact no he)
theorem nu(hh:A.handled=Ã)(hs:iw J s.heap c l vs)
  (h:∀I fp St h',Walks gg.prog gg.w A I fp [I] vs.length (λi v=>vs[i]?=À v) St->St 0 h'->(∀b∈fp,b<h'.objs.size)->s.heap.get? I=Ã->(∀b o,s.heap.get? b=À o->h'.get? b=À o)->Q (.ref I) {s with heap:=h'}) :
  É mo A (pyIter (.ref c)) Q E s:=by
 cases hs with
 |lst hl hv hz=>
  have cG:c<s.heap.objs.size:=by show aF hl λz e z=>?_;show Ő e
  have W:=Walks.list (prog:=gg.prog) (w:=gg.w) hh s.heap.objs.size c (Ł cG) vs.toArray
  simp only[ſ,ύ]at W
  have hb:∀b∈[s.heap.objs.size,c],b<(s.heap.push {cls:=.type "list_iterator",data:=.fields #[.ref c,.int 0 0]}).objs.size:=λb hb=>by
   rw[ϕ];show â (ċ.mp hb) (λhb=>?_) (λhb=>?_)
   ·show hb▸ű _
   ·show(W'.mp hb)▸acf cG
  show ı hl (h _ [s.heap.objs.size,c] _ _ W ⟨⟨_,ŀ _ N,N,N⟩,hl.push _⟩ hb (aG _) λb o e=>O' _ e)
 |tup ht hv hz=>
  have cG:c<s.heap.objs.size:=by show aF ht λz e z=>?_;show Ő e
  have W:=Walks.tuple (prog:=gg.prog) (w:=gg.w) hh s.heap.objs.size c (Ł cG) vs.toArray
  simp only[ſ,ύ]at W
  have hb:∀b∈[s.heap.objs.size,c],b<(s.heap.push {cls:=.type "tuple_iterator",data:=.fields #[.ref c,.int 0 0]}).objs.size:=λb hb=>by
   rw[ϕ];show â (ċ.mp hb) (λhb=>?_) (λhb=>?_)
   ·show hb▸ű _
   ·show(W'.mp hb)▸acf cG
  show Ă ht (h _ [s.heap.objs.size,c] _ _ W ⟨⟨_,ŀ _ N,N,N⟩,ht.push _⟩ hb (aG _) λb o e=>O' _ e)
theorem dN(x:ñ vs ns):∀{i:Nat} {v:Ä},vs[i]?=À v->∃t,v=.int (ns[i]?.getD 0) t:=by
 induction x with
 |nil=>show λh=>no h
 |cons n t r ih=>
  intro i v h;cases i with
  |zero=>show⟨t,(sm h).symm⟩
  |succ i=>show ih (i:=i) h
theorem Db(ns:List Int)(k:Nat):k<=ns.length->preSum (λi=>ns[i]?.getD 0) k=(ns.take k).foldl (·+·) 0:=by
 induction k with
 |zero=>show λz=>rfl
 |succ k ih=>intro h;show preSum (λi=>ns[i]?.getD 0) k+ns[k]?.getD 0=_;rw[ih (Nat.le_of_succ_le h),adD,N' h,ac4];rfl
theorem qt{f:Int->Int->Int}{le:Int->Int->Prop}(rf:∀x,le x x)(tr:∀x y z,le x y->le y z->le x z)(hf:∀x y,(f x y=x\/f x y=y)/\le (f x y) x/\le (f x y) y):∀(ns:List Int) (x:Int),ns.foldl f x∈x::ns/\∀y∈x::ns,le (ns.foldl f x) y:=by
 intro ns
 induction ns with
 |nil=>show λx=>⟨G',λy hy=>W'.mp hy▸rf x⟩
 |cons y ns ih=>intro x;show aP (ih (f x y)) λh1 h2=>io (hf x y) λq1 q2 q3=>?_;have h0:=h2 _ G';show⟨â (ċ.mp h1) (λq=>?_) λq=>J' _ (J' _ q),λz hz=>â (ċ.mp hz) (λq=>by rw[q];show tr _ _ _ h0 q2) λhz=>â (ċ.mp hz) (λq=>by rw[q];show tr _ _ _ h0 q3) λhz=>h2 z (J' _ hz)⟩;rw[Ϯ,q];show â q1 (λq=>by rw[q];show G') λq=>by rw[q];show J' _ G'
theorem G0(x y:Int):(max x y=x\/max x y=y)/\x<=max x y/\y<=max x y:=⟨(adh y x).imp ad4 adg,ads x y,adT x y⟩
theorem G3(x y:Int):(min x y=x\/min x y=y)/\min x y<=x/\min x y<=y:=⟨(adh x y).imp acy acq,acK x y,acC x y⟩
theorem EV{ns:List Int}{m:Int}(hm:m7 ns=À m):0<ns.length/\ns[ĥ (λi j=>decide (ns[i]?.getD 0 > ns[j]?.getD 0)) (ns.length-1)]?=À m:=by
 cases ns with
 |nil=>show no hm
 |cons x r=>show⟨Ŵ _,?_⟩;rw[<-sm hm];show aP (qt (f:=max) (le:=λa b=>b<=a) Ĭ (λz z z h h'=>Ċ h' h) G0 r x) λh1 h3=>ä (ac9 h1) λk h2=>?_;show aP (argBest_gt (λi=>(x::r)[i]?.getD 0) ((x::r).length-1)) λb1 b2=>?_;generalize ĥ (λi j=>decide ((x::r)[i]?.getD 0 > (x::r)[j]?.getD 0)) ((x::r).length-1)=q at b1 b2 ⊢;have hq:q<(x::r).length:=ϫ b1;have e1:(x::r)[q]?=À (x::r)[q]:=N' hq;have u2:=b2 k (ϐ (ģ.mp h2).1);rw[h2,e1]at u2;rw[e1];show congrArg À (ņ (h3 _ (š hq)) u2)
theorem vJ{ns:List Int}{m:Int}(hm:ic ns=À m):0<ns.length/\ns[ĥ (λi j=>decide (ns[i]?.getD 0<ns[j]?.getD 0)) (ns.length-1)]?=À m:=by
 cases ns with
 |nil=>show no hm
 |cons x r=>show⟨Ŵ _,?_⟩;rw[<-sm hm];show aP (qt (f:=min) (le:=λa b=>a<=b) Ĭ (λz z z=>Ċ) G3 r x) λh1 h3=>ä (ac9 h1) λk h2=>?_;show aP (argBest_lt (λi=>(x::r)[i]?.getD 0) ((x::r).length-1)) λb1 b2=>?_;generalize ĥ (λi j=>decide ((x::r)[i]?.getD 0<(x::r)[j]?.getD 0)) ((x::r).length-1)=q at b1 b2 ⊢;have hq:q<(x::r).length:=ϫ b1;have e1:(x::r)[q]?=À (x::r)[q]:=N' hq;have u2:=b2 k (ϐ (ģ.mp h2).1);rw[h2,e1]at u2;rw[e1];show congrArg À (ņ u2 (h3 _ (š hq)))
theorem rh{h jA h':Ô}{I:È}(hI:h.get? I=Ã)(h1:∀b o,h.get? b=À o->jA.get? b=À o)(h2:∀b o,b∉[I]->jA.get? b=À o->h'.get? b=À o):∀b o,h.get? b=À o->h'.get? b=À o:=λb o e=>by
 show h2 b o (λhm=>?_) (h1 b o e)
 simp at hm
 subst hm;rw[hI]at e;cases e
theorem Kt(R:ak gg J H s.heap)(hs:iw J s.heap c l vs):É mo A (Á (.builtin "len") [.ref c]) (bD gg J s (.int l.length) H) E s:=by
 have hl:l.length=vs.toArray.size:=hs.vrs.length;have hz:(vs.toArray.size:Int)<2 ^ 63:=Ř.mpr (Ŷ (hl▸hs.len) (by decide));have he:∀t tk,bD gg J s (.int l.length) H (.int vs.toArray.size t) {s with toks:=tk}:=λt tk=>hl▸bD.here R (.int _ _);cases hs with
 |lst h1 h2 h3=>show Calls.call_len_list h1 hz (he _ _)
 |tup h1 h2 h3=>show PyProof.Rows.len_tuple h1 hz (he _ _)
theorem Lr{c:È}{l:List V}{vs:List Ä}{ns:List Int}(hh:A.handled=Ã)(R:ak gg J H s.heap)(hs:iw J s.heap c l vs)(hn:cH l=À ns):
  É mo A (Á (.builtin "sum") [.ref c]) (bD gg J s (.int (ns.foldl (·+·) 0)) H) E s:=by
 have hi:=nK hn hs.vrs;show call_sum_walkAnyS (nu (A:=A.in1) hh hs λI fp St h' W fv JZ hI hk=>⟨I,fp,[I],_,vs.length,_,_,λi=>ns[i]?.getD 0,N,W.toS,fv,JZ,λi v hv=>dN hi hv,λs' t' hm=>?_⟩);rw[hi.length,Db ns _ (ē _),ŗ];have lc:=rh hI hk hm.heap;show⟨J,SE.keeps J lc,R.keeps lc,.int _ _,hm.gens,hm.drawn,hm.os⟩
theorem Kv{c:È}{l:List V}{vs:List Ä}{ns:List Int}{m:Int}(hh:A.handled=Ã)(R:ak gg J H s.heap)(hs:iw J s.heap c l vs)(hn:cH l=À ns)(hm:m7 ns=À m):
  É mo A (Á (.builtin "max") [.ref c]) (bD gg J s (.int m) H) E s:=by
 have hi:=nK hn hs.vrs;show aP (EV hm) λh0 h1=>call_max_walk (nu (A:=A.in1) hh hs λI fp St h' W fv JZ hI hk=>⟨I,fp,[I],vs.length,_,_,λi j=>decide (ns[i]?.getD 0 > ns[j]?.getD 0),N,W,fv,JZ,by rw[hi.length];show h0,CmpOf.ints_gt (λi=>ns[i]?.getD 0) (λi v hv=>dN hi hv),λv qE tk hv ul=>?_⟩);rw[hi.length]at hv;show ä (dN hi hv) λt q2=>?_;apply ba q2;rw[h1];show bD.grown R (rh hI hk ul) (.int _ _)
theorem Kz{c:È}{l:List V}{vs:List Ä}{ns:List Int}{m:Int}(hh:A.handled=Ã)(R:ak gg J H s.heap)(hs:iw J s.heap c l vs)(hn:cH l=À ns)(hm:ic ns=À m):
  É mo A (Á (.builtin "min") [.ref c]) (bD gg J s (.int m) H) E s:=by
 have hi:=nK hn hs.vrs;show aP (vJ hm) λh0 h1=>call_min_walk (nu (A:=A.in1) hh hs λI fp St h' W fv JZ hI hk=>⟨I,fp,[I],vs.length,_,_,λi j=>decide (ns[i]?.getD 0<ns[j]?.getD 0),N,W,fv,JZ,by rw[hi.length];show h0,CmpOf.ints_lt (λi=>ns[i]?.getD 0) (λi v hv=>dN hi hv),λv qE tk hv ul=>?_⟩);rw[hi.length]at hv;show ä (dN hi hv) λt q2=>?_;apply ba q2;rw[h1];show bD.grown R (rh hI hk ul) (.int _ _)
end
theorem B8(a:Ä):argsOk "min" ⟨[a],[("default",.none)]⟩:=by unfold argsOk;kernel_rfl
section
variable{A:Ñ}{R:Result->Å->Prop}{I:È}{fp wr:List È}{n:Nat}{P:Nat->Ä->Prop}{St:Nat->Ô->Prop}
theorem C8(W:Walks gg.prog gg.w A.in1 I fp wr n P St)(bt:Nat->Nat->Bool)(OF:CmpOf gg.prog gg.w A.in1 .Lt P bt)(S:È)(Mu:S∉fp):
  ∀(k j:Nat) (s:Å) (vb:Ä) (c:Nat),j+1+k=n->St (j+1) s.heap->P (ĥ bt j) vb ->
  s.heap.get? S=À {cls:=.type "list",dict:=Ã,data:=.seq #[vb,vb] c,slots:=#[]} ->
  (∀v h' tk,P (ĥ bt (n-1)) v->(∀b o,b∉wr->b≠S->s.heap.get? b=À o->h'.get? b=À o)->R (.ok (.ret v)) {s with heap:=h',toks:=tk}) ->
  Ğ mo A (.builtin "min.loop" ⟨[.ref I,.none,.ref S],[("default",.none)]⟩) R s:=by
 have Tn:S∉wr:=λh=>Mu (W.sub _ h);have oZ:(toString "min"++toString ".loop":String)="min.loop" := by decide
 intro k
 induction k with
 |zero=>intro j s vb c J0 fv Tm hS hR;have J0:j+1=n:=J0;show é F.entry_min_loop ?_;rw[Around.under_plainId F.plain_min_loop _];show É _ A.in1 (seqItems? (.ref S)>>=_) _ _ s;show Â (ç hS N ?_);show É _ A.in1 (tryCatch (Ĵ (.ref I)) _>>=_) _ _ s;show Â (ħ (W.done s _ _ (J0▸fv) λh' tk lc=>?_));have El:=lc S _ Tn hS;show É _ A.in1 (Ŏ S (λz=>#[])>>=_) _ _ _;show Â (ć El N (Â (Ė (Ç (hR vb _ tk (by rw[<-J0];show Tm) λb o Em ID e=>(Ϩ _ _ (Ne.symm ID)).trans (lc b o Em e))))))
 |succ k ih=>
  intro j s vb c hk fv Tm hS hR;have cG:j+1<n:=hk▸abV (Ŵ k);have hk:j+1+1+k=n:=(Ϭ (j+1) 1 k).trans hk;show é F.entry_min_loop ?_;rw[Around.under_plainId F.plain_min_loop _];show É _ A.in1 (seqItems? (.ref S)>>=_) _ _ s;show Â (ç hS N ?_);show É _ A.in1 (tryCatch (Ĵ (.ref I)) _>>=_) _ _ s;show Â (ħ (W.item (j+1) s _ _ cG fv λv h' tk hP om lc=>?_));have El:=lc S _ Tn hS;show É _ A.in1 (tryCatch (holding [v,v] (richCompare .Lt v vb>>=_)) _>>=_) _ _ _;show Â (ħ (ß (Â (OF (j+1) (ĥ bt j) v vb _ _ _ hP Tm (Â (ß (ï (Â (Ė (Ç ?_))))))))));cases hb:bt (j+1) (ĥ bt j) with
  |true=>
   simp only[if_true]
   show Â (ć El N (Â (Ė ?_)));rw[oZ]
   show Ç ⟨ĉ F.plain_min_loop _,ih (j+1) _ v _ hk (W.frame _ _ _ om λb Vj o e=>?_) (by simp only[ĥ,hb,if_true];show hP) (ϣ _ El rfl)
    λv' qE H7 Ek Gc=>?_⟩
   ·show(Ϩ _ _ (λh:S=b=>Mu (by rw[h];show Vj))).trans e
   ·show hR v' qE H7 Ek λb o Em ID e=>Gc b o Em ID ((Ϩ _ _ (Ne.symm ID)).trans (lc b o Em e))
  |false=>
   simp only[abY,if_false]
   show Â (Ė ?_);rw[oZ];show Ç ⟨ĉ F.plain_min_loop _,ih (j+1) _ vb c hk om (by simp only[ĥ,hb,abY,if_false];show Tm) El λv' qE H7 Ek Gc=>?_⟩;show hR v' qE H7 Ek λb o Em ID e=>Gc b o Em ID (lc b o Em e)
theorem zM(W:Walks gg.prog gg.w A.in1 I fp wr n P St)(bt:Nat->Nat->Bool)(OF:CmpOf gg.prog gg.w A.in1 .Lt P bt)(S:È)(Mu:S∉fp)(fv:St 0 s.heap)
  (hS:s.heap.get? S=À {cls:=.type "list",dict:=Ã,data:=.seq #[] c,slots:=#[]})
  (hR:∀v h' tk,(if n=0 then v=.none else P (ĥ bt (n-1)) v)->(∀b o,b∉wr->b≠S->s.heap.get? b=À o->h'.get? b=À o)->R (.ok (.ret v)) {s with heap:=h',toks:=tk}) :
  Ğ mo A (.builtin "min.loop" ⟨[.ref I,.none,.ref S],[("default",.none)]⟩) R s:=by
 have Tn:S∉wr:=λh=>Mu (W.sub _ h);have oZ:(toString "min"++toString ".loop":String)="min.loop" := by decide
 show é F.entry_min_loop ?_;rw[Around.under_plainId F.plain_min_loop _];show É _ A.in1 (seqItems? (.ref S)>>=_) _ _ s;show Â (ç hS N ?_);show É _ A.in1 (tryCatch (Ĵ (.ref I)) _>>=_) _ _ s;show â (aeY n) (λhn=>?_) (λhn=>?_)
 ·subst hn
  show Â (ħ (W.done s _ _ fv λh' tk lc=>Â (ú (Ç (hR .none h' tk (by rw[if_pos N]) λb o Em ID e=>lc b o Em e)))))
 ·show Â (ħ (W.item 0 s _ _ hn fv λv h' tk hP om lc=>?_))
  have El:=lc S _ Tn hS;show É _ A.in1 (Ŏ S (λz=>#[v,v])>>=_) _ _ _;show Â (ć El N ?_);rw[oZ];show Ç ⟨ĉ F.plain_min_loop _,C8 W bt OF S Mu (n-1) 0 _ v _ (Nat.add_sub_of_le hn) (W.frame _ _ _ om λb Vj o e=>?_) hP (ϣ _ El N) λv' qE H7 Ek Gc=>?_⟩
  ·show(Ϩ _ _ (λh:S=b=>Mu (by rw[h];show Vj))).trans e
  ·show hR v' qE H7 (by rw[if_neg (ō hn)];show Ek) λb o Em ID e=>Gc b o Em ID ((Ϩ _ _ (Ne.symm ID)).trans (lc b o Em e))
end
section
variable{A:Ñ}{E:Ä->Å->Prop}{J:List È}{H:ag}{s:Å}
theorem tM{id:String}{b:Ē}{EM:List Ä}{kw:List (Str×Ä)}{Q:Ä->Å->Prop}(hk:builtinKind id=Ã)(hp:plainId id=Æ)(hb:entryFor table id=À b)(ha:argsOk id ⟨EM,kw⟩)
  (hc:É mo A.in1 (b ⟨EM,kw⟩) (λip s'=>match ip with
   |.done f=>(match (afS f:Result) with|.ok (.ret v)=>Q v s'|.ok _=>False|.error e=>E e s')
   |.again c'=>c'.quiet=Æ/\Ğ mo A c' (λr s'=>match r with|.ok (.ret v)=>Q v s'|.ok _=>False|.error e=>E e s') s') E s) :
  É mo A (Á (.builtin id) EM kw) Q E s:=by
 show ř (č hp hb ?_)
 simp only[þ,hk]
 cases hsig:Manifest.signature? id with
 |none=>show Ç hc
 |some sig=>
  have ha':Bind.checkArgs id sig ⟨EM,kw⟩=pure ():=by simpa only [argsOk,hsig] using ha
  simp only[ha']
  show Ç hc
theorem G2(hh:A.handled=Ã)(R:ak gg J H s.heap)(hs:iw J s.heap c l vs)(hn:cH l=À ns):
  É mo A (Á (.builtin "min") [.ref c] [("default",.none)]) (bD gg J s (dK (ic ns)) H) E s:=by
 have hi:=nK hn hs.vrs;have oZ:(toString "min"++toString ".loop":String)="min.loop" := by decide
 show tM F.kind_min F.plain_min F.entry_min (B8 _) ?_;show É _ A.in1 (Builtin.Builtins.bindParams "min" ["key","default"] 0 ⟨[],[("default",.none)]⟩>>=_) _ _ s;show Â (wpAny_of_eq (show Builtin.Builtins.bindParams "min" ["key","default"] 0 ⟨[],[("default",.none)]⟩=pure [Ã,À .none] from N) (Â (Ç (Â (nu (A:=A.in1) hh hs λI fp St h' W fv JZ hI hk=>Â (è ?_))))));have Mu:h'.objs.size∉fp:=λhm=>Ŧ _ (JZ _ hm);rw[oZ];show Ç ⟨ĉ F.plain_min_loop _,zM W (λi j=>decide (ns[i]?.getD 0<ns[j]?.getD 0)) (CmpOf.ints_lt (λi=>ns[i]?.getD 0) (λi v hv=>dN hi hv)) h'.objs.size Mu (W.frame _ _ _ fv λb z o e=>O' _ e) (ŀ _ N) λv qE tk hP ul=>?_⟩;have II:∀b o,s.heap.get? b=À o->qE.get? b=À o:=λb o e=>ul b o (λhm=>by rw[W'.mp hm,hI]at e;cases e) (Ł (Ő (hk b o e))) (O' _ (hk b o e));show bD gg J s (dK (ic ns)) H v _;by_cases h0:vs.length=0
 ·rw[if_pos h0]at hP
  apply ba hP;have:ns=[]:=϶.mp (hi.length.symm.trans h0);apply ba this;show bD.grown R II .none
 ·rw[if_neg h0]at hP
  cases hm:ic ns with
  |none=>
   cases ns with
   |nil=>show absurd hi.length h0
   |cons _ _=>cases hm
  |some m=>show aP (vJ hm) λz h1=>?_;rw[hi.length]at hP;show ä (dN hi hP) λt q2=>?_;apply ba q2;rw[h1];show bD.grown R II (.int _ _)
end
section
variable{A:Ñ}{E:Ä->Å->Prop}{J:List È}{H:ag}{s:Å}
theorem Da(h:Pr H x=À (v,ae)):x.length<=ê/\v=.str x/\ae=H:=by show dJ h λhz h=>?_;apply du h;show⟨hz,N,N⟩
end
section
variable{A:Ñ}{E:Ä->Å->Prop}{s:Å}
theorem v0{T:String}{r d:È}{n:Nat}{P:Nat->Ä->Prop}{OK:Ô->Prop}{Q:List Ä->Å->Prop}(K:PySem.W.KdlSrc gg.prog gg.w T r d n P OK)(hh:A.handled=Ã)(pM:OK s.heap)(hn:n<=ê)
  (hQ:∀h' tk pv,(∀b o,s.heap.get? b=À o->h'.get? b=À o)->ItemsOf P pv n->Q pv.toList {s with heap:=h',toks:=tk}):É mo A (collect (.ref r)) Q E s:=by
 have cG:=K.there _ pM;unfold collect;show Â (wpAny_runValue (é F.entry_proto_collect ?_));rw[Around.under_plainId F.plain_proto_collect _];show É _ A.in1 (newList []>>=λl=>again (.builtin "list.__iadd__" ⟨[l,.ref r],[]⟩)) _ _ s;show Â (è (Ç ⟨ĉ F.plain_list_iadd _,é F.entry_list_iadd ?_⟩));rw[Around.under_plainId F.plain_list_iadd _];show É _ A.in1 (Builtin.List.listExtendWith (.ref s.heap.objs.size) (.ref r) (.ref s.heap.objs.size)) _ _ _
 show PySem.W.kdl_extend (A:=A) (R:=λr' s'=>match r' with
  |.ok (.ret v)=>É mo A (match v with
   |.ref a=>do match (<-load a).data with
    |.seq xs _=>pure xs.toList
    |_=>Ġ "internal:collect"
   |_=>Ġ "internal:collect") Q E s'
  |.ok _=>False
  |.error e=>E e s') K hh ?_ s.heap.objs.size (ō cG.1) (ō cG.2) _ 0 ?_ (λh' tk pv c' hk El ud=>?_) hn
 ·show K.keep _ _ pM λb z o e=>O' _ e
 ·show ŀ _ N
 show É _ A (load s.heap.objs.size>>=_) _ _ _;show Â (wpAny_load El ?_);show Ç (hQ h' tk pv (λb o e=>hk b o (Ł (Ő e)) (O' _ e)) ud)
theorem BE:∀(vs:List Ä) (kvs:List (Str×Ä)),vs.length=kvs.length->(∀(j:Nat) v,vs[j]?=À v->∃k x,kvs[j]?=À (k,x)/\Value.isStrOf k v=Æ)->StrsAre vs (kvs.map (·.1))
 |[],[],_,_=>.nil
 |[],_::_,h,_=>nomatch h
 |_::_,[],h,_=>nomatch h
 |v::vs,kv::kvs,h,hj=>by show gm (hj 0 v N) λk x e hk=>ä (Value.isStrOf_shape hk) λt q2=>?_;apply ba q2;have e:kv=(k,x):=Option.some.inj e;rw[e];show .cons k t (BE vs kvs (ad0.inj h) λj v e=>hj (j+1) v e)
theorem xC{Q:Ä->Å->Prop}(hh:A.handled=Ã)(hd:s.heap.DictOf (PySem.strKind gg.prog gg.w) d kvs)(lo:(d==Ą)=Ê)(Tg:kvs.length<64)
  (hQ:∀(h':Ô) (tk n:Nat) (D:È) (WM:List Ä) (Ny:List Str),(∀b o,s.heap.get? b=À o->h'.get? b=À o)->s.heap.get? D=Ã->h'.get? D=À (æ "list" WM.toArray n)->StrsAre WM Ny->Ny.Perm (kvs.map (·.1))->sortedS Ny=Æ->Q (.ref D) {s with heap:=h',toks:=tk}) :
  É mo A (Á (.builtin "sorted") [.ref d]) Q E s:=by
 show ä hd.dictAt λep hm=>Calls.call_function_entry kind_sorted plain_sorted entry_sorted (args_sorted1 _) ?_;unfold Ē.«sorted»;show Â (m:=checkCount "sorted" 1 1 _) (Ç (Â (v0 (PySem.W.kdl_dict (knd:=PySem.strKind gg.prog gg.w) (kvs:=kvs) (ep:=ep) lo) hh hm (z' (Ģ Tg) (by decide)) λh' tk pv hk ud=>?_)));have hS:StrsAre pv.toList (kvs.map (·.1)):=BE _ _ (by rw[ώ];show ud.1) λj v e=>ud.2 j v (by rw[<-ϴ];show e);have U1:pv.toList.length<64:=by rw[ώ,ud.1];show Tg
 show Â (wpAny_newList ?_);have Qb:(h'.push (æ "list" pv.toList.toArray 0)).get? h'.objs.size=À (æ "list" pv.toList.toArray 0):=ŀ _ N;show Â (ß (ý slot_list_sort ⟨_,Qb,N⟩ entry_list_sort (list_sort_treeK strKind_oneLt Qb hS.keysOf (λv₁ v₂ aD e=>keyKind_strs (by rw[<-e];show hS)) U1 λaS hp hs=>⟨_,N,(eK (sorted_out_str hS hp hs) λNy h1 h2 h3=>ä (sortedHeap_at (out:=(Ú aS).map (·.2)) Qb) λe he=>Ç ⟨_,N,hQ _ tk e h'.objs.size ((Ú aS).map (·.2)).toList Ny (λb o e1=>?_) ?_ (by rw[ac'];show he) h1 h2 h3⟩)⟩) (args_list_sort _)))
 ·have cG:=Ő (hk b o e1)
  rw[sortedHeap_old (Ł cG) (by rw[size_push'];show acf cG)];show O' _ (hk b o e1)
 ·cases hq:s.heap.get? h'.objs.size with
  |none=>rfl
  |some o=>show absurd (Ő (hk _ _ hq)) (Ŧ _)
end
section
variable{A:Ñ}{E:Ä->Å->Prop}{J:List È}{H:ag}{s:Å}
theorem C4{a b c:Str}(h1:¬ (b.cps.toList<a.cps.toList))(h2:¬ (c.cps.toList<b.cps.toList)):¬ (c.cps.toList<a.cps.toList):=λh=>h1 (List.lt_of_le_of_lt (afn.mp h2) h)
theorem te:∀(l:List Str) (p:Str),risingS p l=Æ->p9 (p::l)
 |[],p,_=>.cons (λz h=>nomatch h) .nil
 |x::l,p,h=>by
  show aP (Ņ.mp (show (!PySem.Spec.ltCps x.cps.toList p.cps.toList&&risingS x l)=Æ from h)) λh1 h2=>?_;rw[ltCps_eq]at h1;have h1:¬ (x.cps.toList<p.cps.toList):=by simpa using h1
  have ih:=te l x h2;show .cons (λy hy=>?_) ih;rcases ċ.mp hy with rfl|hy
  ·show h1
  ·show C4 h1 ((ŏ.mp ih).1 y hy)
theorem HP(h:m.Perm l)(hr:p9 m):jO l=m:=by have XK:∃m:List Str,m.Perm l/\p9 m:=⟨m,h,hr⟩;unfold jO;rw[dif_pos XK];show aP (aeF XK) λh1 h2=>List.Perm.eq_of_pairwise (le:=λa b:Str=>¬ (b.cps.toList<a.cps.toList)) (λa b z z g1 g2=>?_) h2 hr (h1.trans h.symm);have:=List.le_antisymm (afn.mp g1) (afn.mp g2);cases a;cases b;show congrArg Str.mk (Array.toList_inj.mp this)
theorem Ib(x:StrsAre vs ss):bz gg J h (ss.map .str) vs:=by
 induction x with
 |nil=>show .nil
 |cons y t r ih=>show .cons (.str y t) ih
set_option tactic.hygienic true in
theorem Ae(hh:A.handled=Ã)(lV:∃o,gg.B.get? Ą=À o)(R:ak gg J H s.heap)(hr:J[r]?=À c)(hl:ds H r=À l)(he:(if l.length<64 then rO H ((jO (l.map (·.1))).map .str) else Ã)=À (v,ae)):
  É mo A (Á (.builtin "sorted") [.ref c]) (bD gg J s v ae) E s:=by
 show dJ he λTg he=>io (gb he) λhz q2 q3=>?_;apply ba q2;apply ba q3;have zV:=Bj lV R hr;cases R.objs _ _ _ hr (tT hl) with
 |ds hd hk RV=>
  rename_i kvs;have ch:kvs.length=l.length:=by have:=congrArg ady hk;rwa [H',H']at this
  show xC hh hd zV (Ŷ (ň ch) Tg) λh' tk n D WM Ny RD hD jg hS hp hs=>?_;rw[hk]at hp
  have e:jO (l.map (·.1))=Ny:=HP hp (by
   cases Ny with
   |nil=>show .nil
   |cons p r=>show te r p hs)
  rw[e];rw[e]at hz;show bD.newL R (ϊ hz) (Ib hS) RD hD ⟨n,jg⟩
theorem rj(hv:bz gg J h [a] as):∃b,as=[b]/\VR gg J h a b:=by
 cases hv with
 |cons h1 h2=>cases h2;show⟨_,N,h1⟩
theorem vh(hv:bz gg J h [a,b] as):∃c d,as=[c,d]/\VR gg J h a c/\VR gg J h b d:=by
 cases hv with
 |cons h1 h2=>show aF (rj h2) λd q2 h3=>?_;apply ba q2;show⟨_,d,N,h1,h3⟩
theorem rm{f:V->Option (V×ag)}{c:List Ä->Sem Ä}(he:j6 f l=À (v,ae))(hv:bz gg J s.heap l as)
  (k:∀x a,f x=À (v,ae)->VR gg J s.heap x a->É mo A (c [a]) (bD gg J s v ae) E s):É mo A (c as) (bD gg J s v ae) E s:=by
 show aF (fD he) λx q2 he=>?_;subst q2;show aF (rj hv) λa k1 hx=>?_;subst k1;show k x a he hx
theorem Bo{f:List Int->Option V}{c:List Ä->Sem Ä}(he:j6 (ri H f) l=À (v,ae))(R:ak gg J H s.heap)(hv:bz gg J s.heap l as)
  (k:∀a l vs ns,iw J s.heap a l vs->cH l=À ns->f ns=À v->É mo A (c [.ref a]) (bD gg J s v H) E s):É mo A (c as) (bD gg J s v ae) E s:=by
 show rm he hv λx a he hx=>Bk he λl' w hl he=>iq he λns u hn hu he=>?_;show aP (nS he) λq1 q2=>?_;subst q1 q2;show gm (Hp hl R hx) λc' vs q3 wM=>?_;apply ba q3;show k c' l' vs ns wM hn hu
theorem Nm{f:Int->Int->Int}{c:List Ä->Sem Ä}(he:EL (G9 H f) l=À (v,ae))(hv:bz gg J s.heap l as)
  (k:∀i j t u,É mo A (c [.int i t,.int j u]) (bD gg J s (.int (f i j)) H) E s):É mo A (c as) (bD gg J s v ae) E s:=by
 show gm (sh he) λx y q3 he=>?_;subst q3;show fe (vh hv) λa b k2 hx hy=>?_;subst k2;show iq he λi j hi hj he=>?_;apply du he;apply yo hi hx;intro t;apply yo hj hy;intro u;show k i j t u
set_option tactic.hygienic true in
theorem GU(he:Sr H x=À (v,ae))(R:ak gg J H s.heap)(hx:VR gg J s.heap x a):É mo A (Á (.builtin "len") [a]) (bD gg J s v ae) E s:=by
 have sq:∀{x:V},VR gg J s.heap x a->((pc H x).bind λp=>À (V.int p.1.length,H))=À (v,ae)->É mo A (Á (.builtin "len") [a]) (bD gg J s v ae) E s:=λhx he=>by show Bk he λl' w hl he=>?_;apply du he;show gm (Hp hl R hx) λc' vs q3 wM=>?_;apply ba q3;show Kt R wM
 revert he sq;apply VR.el hx
 case str=>
  intro y t he sq;show dJ he λhz he=>?_;apply du he;show PyProof.Rows.len_str (adS.mpr (Ř.mpr (Ŷ hz (by decide)))) (bD.here R (.int _ _))
 case ref=>intro _ _ hr he sq;show sq (.ref hr) he
 case tup=>intro _ _ _ h1 h2 h3 h4 he sq;show sq (.tup h1 h2 h3 h4) he
 case ro=>intro _ _ _ h1 h2 h3 he sq;show sq (.ro h1 h2 h3) he
 all_goals (intros;rename_i he sq;exact no he)
theorem rL(he:((si x).bind λr=>(lst H r).bind λl=>rc H l)=À (v,ae))(R:ak gg J H s.heap)(hx:VR gg J s.heap x a):É mo A (Á (.type "tuple") [a]) (bD gg J s v ae) E s:=by show iq he λr l hr hl he=>?_;show io (kN he) λhz q2 q3=>?_;apply ba q2;apply ba q3;apply TW hr hx;intro c hr;show eK (R.list hr hl) λvs hl hv z=>call_tuple_list hl.isList (λh' hk=>bD.newT (tk:=s.toks) R (ϊ hz) hv (λb o e=>O' _ (hk b o e)) (fZ hk (aG _)) (gO _ _)) (by rw[ſ,<-hv.length];show hz)
theorem r3(he:((Cg x).bind λl=>rO H l)=À (v,ae))(R:ak gg J H s.heap)(hx:VR gg J s.heap x a):É mo A (Á (.type "list") [a]) (bD gg J s v ae) E s:=by show ca he λl hl he=>io (gb he) λhz q2 q3=>?_;apply ba q2;apply ba q3;show Mk (vT hl hx) λc vs q3 ht z hv z=>?_;apply ba q3;obtain ⟨o,ho,hc,n,hd⟩:=id ht;show call_list_seq c (.inr rfl) ho hc hd (λh' c' hk hS=>bD.newL (tk:=s.toks) R (ϊ hz) hv hk (aG _) ⟨_,hS⟩) (by rw[ſ,<-hv.length];show hz)
theorem un(he:((N9 x).bind λb=>À (V.int (if b then 1 else 0),H))=À (v,ae))(R:ak gg J H s.heap)(hx:VR gg J s.heap x a):É mo A (Á (.type "int") [a]) (bD gg J s v ae) E s:=by show ca he λb hb he=>?_;apply du he;apply ba (vB hb hx);show call_int_bool (bD.here R (.int _ _))
inductive KR(h:Ô):Ef->Ä->Prop
 |none:KR h .none .none
 |bool (b:Bool):KR h .bool (.bool b)
 |int (i:Int) (t:Tok):KR h .int (.int i t)
 |str (x:Str) (t:Tok):KR h .str (.str x t)
 |tup {c:È} {o:Obj}:h.get? c=À o->o.cls=.type "tuple"->KR h .tup (.ref c)
 |lst {c:È} {o:Obj}:h.get? c=À o->o.cls=.type "list"->KR h .lst (.ref c)
theorem Si(hk:M4 H x=À k)(R:ak gg J H s.heap)(hx:VR gg J s.heap x a):KR s.heap k a:=by
 cases hx with
 |none=>apply dM hk;show .none
 |bool b=>apply dM hk;show .bool b
 |int i t=>apply dM hk;show .int i t
 |str i t=>apply dM hk;show .str i t
 |tup ht _ _ _=>apply dM hk;show eK ht λo ho hc z=>?_;show .tup ho hc
 |ref hr=>show ca hk λl hl hk=>?_;apply dM hk;show aF (R.list hr hl) λvs k3 z=>?_;show ä k3 λn ho=>?_;show .lst ho N
 |ro _ _ _=>show no hk
theorem Ke(he:Yl H f x=À (v,ae))(R:ak gg J H s.heap)(hx:VR gg J s.heap x a)
  (h:∀k,KR s.heap k a->(∀tk,bD gg J s (.bool (f k)) H (.bool (f k)) {s with toks:=tk})->É mo A (Á (.builtin "isinstance") [a,.type T]) (bD gg J s (.bool (f k)) H) E s) :
  É mo A (Á (.builtin "isinstance") [a,.type T]) (bD gg J s v ae) E s:=by
 show ca he λk hk he=>?_;apply du he;show h k (Si hk R hx) λtk=>bD.here R (.bool _)
theorem CQ(hk:KR s.heap k a)(h:∀tk,Q (.bool k.isTup) {s with toks:=tk}):É mo A (Á (.builtin "isinstance") [a,.type "tuple"]) Q E s:=by
 cases hk with
 |none=>show IsiPair.NoneType_tuple (h _)
 |bool _=>show IsiPair.bool_tuple (h _)
 |int _ _=>show IsiPair.int_tuple (h _)
 |str _ _=>show IsiPair.str_tuple (h _)
 |tup ho hc=>show IsiPair.tuple_tuple ho hc (h s.toks)
 |lst ho hc=>show IsiPair.list_tuple ho hc (h _)
theorem rn(he:gy p l H=À (v,ae))(hh:A.handled=Ã)(lV:∃o,gg.B.get? Ą=À o)(R:ak gg J H s.heap)(hv:bz gg J s.heap l as):
  É mo A (nc p as) (bD gg J s v ae) E s:=by
 cases p with
 |len=>show rm he hv λx a he hx=>GU he R hx
 |sum=>show Bo he R hv λa l vs ns wM hn hu=>sm hu▸Lr hh R wM hn
 |max1=>
  show Bo he R hv λa l vs ns wM hn hu=>?_
  ·show ca hu λm hm hu=>sm hu▸Kv hh R wM hn hm
 |min1=>
  show Bo he R hv λa l vs ns wM hn hu=>?_
  ·show ca hu λm hm hu=>sm hu▸Kz hh R wM hn hm
 |minD=>show Bo (c:=λas=>Á (.builtin "min") as [("default",.none)]) he R hv λa l vs ns wM hn hu=>sm hu▸G2 hh R wM hn
 |min2=>
  show Nm he hv λi j t u=>?_
  ·show min_two_ints hh λh' tk hk=>?_
   by_cases hc:j<i
   ·rw[if_pos hc,acq (ϰ hc)];show bD.grown R hk (.int _ _)
   ·rw[if_neg hc,acy (ŉ.mp hc)];show bD.grown R hk (.int _ _)
 |max2=>
  show Nm he hv λi j t u=>?_
  ·show max_two_ints hh λh' tk hk=>?_
   by_cases hc:j > i
   ·rw[if_pos hc,adg (ϰ hc)];show bD.grown R hk (.int _ _)
   ·rw[if_neg hc,ad4 (ŉ.mp hc)];show bD.grown R hk (.int _ _)
 |tuple=>show rm he hv λx a he hx=>rL he R hx
 |list=>show rm he hv λx a he hx=>r3 he R hx
 |str=>show no he
 |int=>show rm he hv λx a he hx=>un he R hx
 |isInt=>show no he
 |isBool=>show no he
 |isTuple=>show rm (c:=λas=>Á (.builtin "isinstance") (as++[.type "tuple"])) he hv λx a he hx=>Ke he R hx λk hk q=>CQ hk q
 |isStr=>show no he
 |isList=>show no he
 |sorted=>
  show rm he hv λx a he hx=>?_
  ·show iq he λr l hr hl he=>?_
   apply TW hr hx;intro c hr;show Ae hh lV R hr hl he
end
noncomputable def qV:j4->Str
 |.append=> "append" |.extend=> "extend" |.find=> "find" |.get=> "get" |.join=> "join"
noncomputable def qU:j4->String
 |.append=> "list.append" |.extend=> "list.extend" |.find=> "str.find" |.get=> "dict.get" |.join=> "str.join"
noncomputable def qW:j4->String
 |.append=> "list" |.extend=> "list" |.find=> "str" |.get=> "dict" |.join=> "str"
theorem qX(m:j4):PlainAttrs (qW m):=by
 cases m
 ·show PySem.F.plainAttrs_list
 ·show PySem.F.plainAttrs_list
 ·show PySem.F.plainAttrs_str
 ·show PySem.F.plainAttrs_dict
 ·show PySem.F.plainAttrs_str
theorem s6(m:j4):Slot (qW m) (qV m) (qU m):=by
 cases m
 ·show PySem.F.slot_list_append
 ·show PySem.F.slot_list_extend
 ·show PySem.F.slot_str_find
 ·show PySem.F.slot_dict_get
 ·show PySem.F.slot_str_join
theorem s8(m:j4):typeOf (.builtin (qU m))=pure (.type "method_descriptor"):=by
 cases m
 ·show PySem.F.type_list_append
 ·show PySem.F.type_list_extend
 ·show PySem.F.type_str_find
 ·show PySem.F.type_dict_get
 ·show PySem.F.type_str_join
section
variable{A:Ñ}{E:Ä->Å->Prop}{J:List È}{H:ag}{s:Å}
theorem xh(hr:z8 m x H=Æ)(R:ak gg J H s.heap)(hx:VR gg J s.heap x a):
  s.TypeIs a (qW m)/\∀c,a=.ref c->∃ob,s.heap.get? c=À ob/\ob.dict=Ã:=by
 have L:((si x).bind (lst H)).isSome=Æ->s.TypeIs a "list"/\∀d,a=.ref d->∃ob,s.heap.get? d=À ob/\ob.dict=Ã:=λh=>by show ä (abE.mp h) λl h=>aF (ob h) λr h1 hl=>?_;show aF (vR h1 hx) λc k1 h1=>?_;apply ba k1;show aF (R.list h1 hl) λvs k2 z=>?_;show ä k2 λn ho=>?_;show⟨⟨_,ho,N⟩,λd e=>⟨_,Value.ref.inj e▸ho,N⟩⟩
 have S:(Cf x).isSome=Æ->s.TypeIs a "str"/\∀d,a=.ref d->∃ob,s.heap.get? d=À ob/\ob.dict=Ã:=λh=>by show ä (abE.mp h) λy h=>ä (vS h hx) λt k3=>?_;apply ba k3;show⟨typeIs_str s y t,λc e=>nomatch e⟩
 cases m with
 |append=>show L hr
 |extend=>show L hr
 |find=>show S hr
 |join=>show S hr
 |get=>
  show ä (abE.mp hr) λl h=>aF (ob h) λr h1 hl=>aF (vR h1 hx) λc k4 h1=>?_;apply ba k4;cases R.objs _ _ _ h1 (tT hl) with
  |ds hd _ _=>show⟨hd.typeIs,hd.mapOf.noDict⟩
theorem bD.putL(R:ak gg J H s.heap)(hr:J[r]?=À a)(aY:H[r]?=À (.lst l₀))(hs:Heap.SameBut a s.heap h')
  (hl:h'.PlainList a ws.toArray) (hz:l.length<=ax+1) (hv:bz gg J s.heap l ws):SE J s.heap J h'/\ak gg J (H.set r (.lst l)) h':=by
 have ha:a∈J:=Ĥ hr;have S:SE J s.heap J h':=SE.put ha hs (by show ä hl λn e=>?_;show⟨_,e⟩);show⟨S,R.put hr aY (λb o hb e=>hs.extBut b o hb e) (.lst hl hz (hv.step R S)) λq e=>nomatch e⟩
theorem yy(he:Be H x y=À (v,ae))(R:ak gg J H s.heap)(hx:VR gg J s.heap x a)(hy:VR gg J s.heap y b):
  v=.none/\É mo A (Á (.builtin "list.append") [a,b]) (bD gg J s .none ae) E s:=by
 show aF (ob he) λr hr he=>aF (ob he) λl VQ he=>aP (cZ he) λhz he=>aP (nS he) λk8 k9=>?_;apply fQ k8;subst k9;show aF (vR hr hx) λc CV hr=>(eK (R.list hr VQ) λvs hl hv z=>?_);apply ba CV;show⟨rfl,ϑ hl (λh' J5 hs=>?_) (by rw[ſ,<-hv.length];show hz)⟩;have VT:h'.PlainList c (vs++[b]).toArray:=by simpa using J5
 show aP (bD.putL (l:=l++[y]) R hr (qO VQ) hs VT (by simp;show hz) (hv.append (bz.one hy))) λS R'=>⟨J,S,R',.none,rfl,rfl,rfl⟩
theorem yT(he:pR H x y=À (v,ae))(R:ak gg J H s.heap)(hx:VR gg J s.heap x a)(hy:VR gg J s.heap y b):
  v=.none/\É mo A (Á (.builtin "list.extend") [a,b]) (bD gg J s .none ae) E s:=by
 show aF (ob he) λr hr he=>aF (ob he) λq hq he=>aF (ob he) λl1 h1 he=>aF (ob he) λl2 h2 he=>aP (cZ he) λhz he=>?_;show aP (nS he) λGy Ki=>?_;apply fQ Gy;subst Ki;show aF (vR hr hx) λc Sb hr=>?_;apply ba Sb;show aF (vR hq hy) λd Sc hq=>?_;apply ba Sc;show eK (R.list hr h1) λvs Sd TD z=>?_;show ä Sd λn1 o1=>?_;show eK (R.list hq h2) λws Wo X4 z=>?_;show ä Wo λn2 o2=>?_;have r0:vs.toArray.size+ws.toArray.size<=ê:=by rw[ſ,ſ,<-TD.length,<-X4.length];show hz.1
 show⟨N,call_meets PySem.F.slot_list_extend ⟨_,o1,N⟩ PySem.F.entry_list_extend (PySem.F.args_list_extend_2 _ _)
  (AutoSeq1.list_extend_list_list_0 c vs.toArray n1 d ws.toArray n2 (extend_door r0) (by show jL (y4 0xc1310b1010b20813ba230 N (iL r0) (iP _) (iA _ _))) (by show jL (y3 0xc2010b1013ba1812 N (iL r0) (iA _ _)))) ⟨o1,o2,?_⟩⟩
 have qH:(s.heap.update c (Obj.mapSeq λx=>x++ws.toArray)).PlainList c (vs++ws).toArray:=by
  have e:=ϣ (Obj.mapSeq λx=>x++ws.toArray) o1 N
  simp only[Obj.mapSeq,List.append_toArray]at e
  show⟨_,e⟩
 show aP (bD.putL (l:=l1++l2) R hr (qO h1) (Heap.SameBut.update ..) qH (by simp;show ϊ hz.1) (TD.append X4)) λS R'=>⟨J,S,R',.none,rfl,rfl,rfl⟩
theorem FG(he:M9 H x y=À (v,ae))(R:ak gg J H s.heap)(hx:VR gg J s.heap x a)(hy:VR gg J s.heap y b):
  É mo A (Á (.builtin "str.find") [a,b]) (bD gg J s v ae) E s:=by
 show aF (ob he) λp hp he=>aF (ob he) λq hq he=>aP (nS he) λk17 Wp=>?_;apply fQ k17;subst Wp;show ä (vS hp hx) λt k19=>?_;apply ba k19;show ä (vS hq hy) λu Wq=>?_;apply ba Wq;show SC.find (bD.here R (.int _ _))
theorem JU(he:Sn H x y z=À (v,ae))(lV:∃o,gg.B.get? Ą=À o)(R:ak gg J H s.heap)(hx:VR gg J s.heap x a)(hy:VR gg J s.heap y b)(hz:VR gg J s.heap z d):
  É mo A (Á (.builtin "dict.get") [a,b,d]) (bD gg J s v ae) E s:=by
 show aF (ob he) λr hr he=>aF (ob he) λk hk he=>aF (ob he) λl hl he=>?_;show aP (nS he) λSe k22=>?_;apply fQ Se;subst k22;show aF (vR hr hx) λc k23 hr=>?_;apply ba k23;show ä (vS hk hy) λu k24=>?_;apply ba k24;have zV:=Bj lV R hr;cases R.objs _ _ _ hr (tT hl) with
 |ds hd hk RV=>
  show call_meetsIn PySem.F.slot_dict_get hd.typeIs PySem.F.entry_dict_get (PySem.F.args_dict_get_3 _ _ _) (meets_dict_get_default (strKind gg.prog gg.w) c (strKind_is gg.prog gg.w k u) zV d) ⟨_,hd.mapOf,?_⟩;cases hg:i8 l k with
  |none=>rw[Cu hg hk RV];show bD.here R hz
  |some w=>show aF (n5 hg hk RV) λa' h1 h2=>?_;rw[h1];show bD.here R h2
theorem G1(he:oz m x l H=À (v,ae))(lV:∃o,gg.B.get? Ą=À o)(R:ak gg J H s.heap)(hx:VR gg J s.heap x a)(hv:bz gg J s.heap l as):
  É mo A (Á (.builtin (qU m)) (a::as)) (bD gg J s v ae) E s:=by
 cases m with
 |append=>show aF (fD he) λy k30 he=>?_;subst k30;show aF (rj hv) λb k31 hy=>?_;subst k31;show aP (yy (A:=A) (E:=E) he R hx hy) λWr h=>?_;apply ba Wr;show h
 |extend=>show aF (fD he) λy k33 he=>?_;subst k33;show aF (rj hv) λb k34 hy=>?_;subst k34;show aP (yT (A:=A) (E:=E) he R hx hy) λSf h=>?_;apply ba Sf;show h
 |find=>show aF (fD he) λy k36 he=>?_;subst k36;show aF (rj hv) λb k37 hy=>?_;subst k37;show FG he R hx hy
 |join=>show no he
 |get=>show gm (sh he) λy z Ws he=>?_;subst Ws;show fe (vh hv) λb d k41 hy hz=>?_;subst k41;show JU he lV R hx hy hz
theorem DG(hm:m.isStep=Æ)(he:oz m x l H=À (v,ae)):v=.none:=by
 cases m with
 |append=>show aF (fD he) λy Wt he=>(aF (ob he) λr hr he=>?_);apply ba Wt;show aF (ob he) λl VQ he=>(nS (cZ he).2).1.symm
 |extend=>show aF (fD he) λy k43 he=>(aF (ob he) λr hr he=>aF (ob he) λq hq he=>?_);apply ba k43;show aF (ob he) λl1 h1 he=>aF (ob he) λl2 h2 he=>(nS (cZ he).2).1.symm
 |_=>cases hm
end
section
variable{A:Ñ}{E:Ä->Å->Prop}{J:List È}{H:ag}{s:Å}
theorem Hk{c:È}{vs:List Ä}{k:Int}{t:Tok}{v:Ä}{Q:Unit->Å->Prop}(hl:s.heap.PlainList c vs.toArray)(h0:0<=k)(hj:k.toNat<vs.length)(uh:Builtin.List.listFitsIndex k=Æ)
  (hQ:∀h',h'.PlainList c (vs.set k.toNat v).toArray->Heap.SameBut c s.heap h'->Q () {s with heap:=h'}) :
  É mo A (setItem (.ref c) (.int k t) v) Q E s:=by
 show ä (id hl) λn ho=>?_;obtain ⟨j,MD⟩:∃j,j=k.toNat:=⟨_,rfl⟩;rw[<-MD]at hj hQ
 have qH:(s.heap.update c (Obj.mapSeq (·.setIfInBounds j v))).PlainList c (vs.set j v).toArray:=by
  have e:=ϣ (Obj.mapSeq (·.setIfInBounds j v)) ho N
  simp only[Obj.mapSeq,List.setIfInBounds_toArray]at e
  show⟨_,e⟩
 unfold setItem
 try with_reducible refine ß ?_
 show Â (wpAny_sequenceKey hl.isList.typeIs (by decide) ?_)
 show Â (ð (name:=acN "__setitem__") hl.isList.typeIs PySem.slot_list_setitem
  (ý PySem.slot_list_setitem hl.isList.typeIs PySem.entry_list_setitem ?_ (PySem.args_list_setitem _ _ _)))
 show É _ _ (Builtin.List.listSubscript? (.int k t)>>=_) _ _ s;show Â (wpAny_listSubscript_int uh ?_);show ä (adz h0) λj' q2=>?_;subst q2;have ZV:j=j':=MD;clear uh h0 MD;apply fQ ZV;show É _ _ ((seqItemAt c j>>=λr=>pure (r.map (j,·)))>>=_) _ _ s;show Â (Â (wpAny_seqItemAt ho rfl (Ç ?_)));rw[show vs.toArray[j]?=À vs[j] by simp [hj]];show É _ _ (setSeqItemAt c j v>>=_) _ _ s;show Â (wpAny_setSeqItemAt ho rfl ?_)
 first
  |show Â (Ç (Ç ⟨.none,N,Ç (hQ _ qH (Heap.SameBut.update ..))⟩))
  |show Ç ⟨.none,rfl,Ç (hQ _ qH (Heap.SameBut.update ..))⟩
theorem n6[DecidableEq κ](p:κ×β)(r:List (κ×β))(k:κ)(v:β):eZ (p::r) k v=if p.1=k then (p.1,v)::r else p::eZ r k v:=rfl
theorem DH{κ:Type}[DecidableEq κ]{k:κ}{a:Ä}{kvs:List (κ×Ä)}:(kvs.map (·.1)).Nodup->stored kvs k a=eZ kvs k a:=by
 induction kvs with
 |nil=>show λz=>rfl
 |cons p r ih=>
  intro hn;have hn:=Ϡ.mp hn;rw[n6];by_cases hp:p.1=k
  ·rw[if_pos hp]
   show(if_pos (List.any_eq_true.mpr ⟨p,G',decide_eq_true hp⟩)).trans ?_;rw[Œ,if_pos hp,map_store_of_not_mem r k a (hp▸hn.1)]
  ·rw[if_neg hp,<-ih hn.2]
   have e:(p::r).any (λkv=>decide (kv.1=k))=r.any λkv=>decide (kv.1=k):=by rw[List.any_cons,decide_eq_false hp];rfl
   show (if (p::r).any (λkv=>decide (kv.1=k)) then _ else _)=p::if _ then _ else _;rw[e];by_cases hr:(r.any λkv=>decide (kv.1=k))=Æ
   ·rw[if_pos hr,if_pos hr,Œ,if_neg hp]
   ·rw[if_neg hr,if_neg hr];rfl
theorem Ft[DecidableEq κ](Qg:VR gg J h v a):∀{kvs:List (κ×Ä)},kvs.map (·.1)=l.map (·.1)->bz gg J h (l.map (·.2)) (kvs.map (·.2)) ->
  (eZ kvs k a).map (·.1)=(eZ l k v).map (·.1)/\bz gg J h ((eZ l k v).map (·.2)) ((eZ kvs k a).map (·.2)):=by
 induction l with
 |nil=>intro kvs hk _;rw[aeO.mp hk];show⟨N,.one Qg⟩
 |cons p l ih=>
  intro kvs hk hv;cases kvs with
  |nil=>show absurd hk.symm (afh _ _)
  |cons q kvs=>
   have hk:=List.cons.inj hk;have e:q.1=p.1:=hk.1;rw[n6,n6,e];by_cases hp:p.1=k
   ·rw[if_pos hp,if_pos hp];show⟨congrArg (p.1::·) hk.2,.cons Qg hv.tl⟩
   ·rw[if_neg hp,if_neg hp]
    show aP (ih hk.2 hv.tl) λi1 i2=>⟨List.cons_eq_cons.mpr ⟨e,i1⟩,.cons hv.hd i2⟩
theorem oR{κ:Type}[DecidableEq κ]{h:Ô}{k:κ}{v:V}{a:Ä}(Qg:VR gg J h v a){l:List (κ×V)}{kvs:List (κ×Ä)}(hk:kvs.map (·.1)=l.map (·.1))(hn:(kvs.map (·.1)).Nodup)(hv:bz gg J h (l.map (·.2)) (kvs.map (·.2))):
  (stored kvs k a).map (·.1)=(eZ l k v).map (·.1)/\bz gg J h ((eZ l k v).map (·.2)) ((stored kvs k a).map (·.2)):=by
 rw[DH hn];show Ft Qg hk hv
theorem mL{K:Type}[DecidableEq K]{knd:KeyKind gg.prog gg.w K}{h:Ô}{a:È}{kvs:List (K×Ä)}(x:h.DictOf knd a kvs):(kvs.map (·.1)).Nodup:=yO x λz z z r=>r.2.2.2.2.2
theorem tS{K K':Type}[DecidableEq K][DecidableEq K']{knd:KeyKind gg.prog gg.w K}{Wu:KeyKind gg.prog gg.w K'}{h:Ô}{a:È}(x:h.DictOf knd a []):h.DictOf Wu a []:=by
 show Te x λo es ep ho hc hd hk hp z=>?_
 have he:es.toList=[]:=by cases hq:es.toList with
  |nil=>rfl
  |cons _ _=>rw[hq]at hp;cases hp
 have IE:es=#[]:=by simpa using he
 subst IE;show⟨o,#[],ep,ho,hc,hd,λe he=>by simp at he,Pairs.nil,adE⟩
theorem ak.putM(R:ak gg J H s.heap)(hr:J[r]?=À c)(aY:H[r]?=À KF)(hs:Heap.SameBut c s.heap h')(hd:∃o,h'.get? c=À o)
  (hm:SE J s.heap J h'->MR gg J h' m c) (MI:∀q,KF=.tab q->m=.tab q):SE J s.heap J h'/\ak gg J (H.set r m) h':=by
 have S:SE J s.heap J h':=SE.put (Ĥ hr) hs hd;show⟨S,R.put hr aY (λb o hb e=>hs.extBut b o hb e) (hm S) MI⟩
theorem KY(he:((px i).bind λk=>if 0<=k/\k.toNat<l.length then À (H.set r (.lst (l.set k.toNat v))) else Ã)=À ae)(R:ak gg J H s.heap)(hr:J[r]?=À c)(h1:H[r]?=À (.lst l))(hi:VR gg J s.heap i ai)(hv:VR gg J s.heap v av)
  (h:∀h' tk,SE J s.heap J h'->ak gg J ae h'->Q () {s with heap:=h',toks:=tk}):É mo A (setItem (.ref c) ai av) Q E s:=by
 have sz:ax+1=16777217:=rfl;show eK (R.list hr (c8 h1)) λvs hl AZ hz=>ca he λk hk he=>aP (cZ he) λk1 he=>?_;show aP k1 λlg IG=>?_;obtain rfl:=sm he;show ä (vI hk hi) λt q2=>?_;subst q2;show Hk hl lg (by rw[<-AZ.length];show IG) (fitsIndex_of (by show y1 0xc00810b008 rfl lg) (yz lg IG hz)) λh' jg nR=>?_;show aP (bD.putL (l:=l.set k.toNat v) R hr h1 nR jg (by simpa using hz) (bz.set hv k.toNat AZ)) λS R'=>h h' _ S R'
theorem PF{Q:Unit->Å->Prop}(he:((px i).bind λk=>if l.length<=ax then À (H.set r (.di (eZ l k v))) else Ã)=À ae)(R:ak gg J H s.heap)(hr:J[r]?=À c)(h1:H[r]?=À (.di l))(hi:VR gg J s.heap i ai)(hv:VR gg J s.heap v av)
  (h:∀h' tk,SE J s.heap J h'->ak gg J ae h'->Q () {s with heap:=h',toks:=tk}):É mo A (setItem (.ref c) ai av) Q E s:=by
 show ca he λk hk he=>dJ he λhz he=>?_;obtain rfl:=sm he;show ä (vI hk hi) λt q2=>?_;subst q2;cases R.objs _ _ _ hr h1 with
 |@di _ _ kvs hd hk AZ=>
  have ch:kvs.length=l.length:=by have:=congrArg ady hk;simpa using this
  show ő (intKind_is gg.prog gg.w k t) hd (λh' kg nR=>aP (oR hv hk (mL hd) AZ (k:=k)) λi1 i2=>aP (R.putM (m:=.di (eZ l k v)) hr h1 nR (by show oS kg λo z z ho z=>?_;show⟨o,ho⟩) (λS=>.di kg i1 (i2.step R S)) λq e=>nomatch e) λS R'=>?_) (by rw[ch];show hz);show h h' _ S R'
theorem PG{Q:Unit->Å->Prop}(he:Nw H r l v i=À ae)(R:ak gg J H s.heap)(hr:J[r]?=À c)(h1:H[r]?=À (.ds l))(hi:VR gg J s.heap i ai)(hv:VR gg J s.heap v av)
  (h:∀h' tk,SE J s.heap J h'->ak gg J ae h'->Q () {s with heap:=h',toks:=tk}):É mo A (setItem (.ref c) ai av) Q E s:=by
 cases R.objs _ _ _ hr h1 with
 |@ds _ _ kvs hd hk AZ=>
  have ch:kvs.length=l.length:=by have:=congrArg ady hk;simpa using this
  cases hi with
  |str k t=>show dJ he λhz he=>?_;obtain rfl:=sm he;show ő (strKind_is gg.prog gg.w k t) hd (λh' kg nR=>aP (oR hv hk (mL hd) AZ (k:=k)) λi1 i2=>aP (R.putM (m:=.ds (eZ l k v)) hr h1 nR (by show oS kg λo z z ho z=>?_;show⟨o,ho⟩) (λS=>.ds kg i1 (i2.step R S)) λq e=>nomatch e) λS R'=>?_) (by rw[ch];show hz);show h h' _ S R'
  |int k t=>
   show dJ he λhz he=>?_;obtain rfl:=sm he
   have J4:kvs=[]:=by rw[Ų.mp hz]at ch;show ϶.mp ch
   subst J4;show ő (intKind_is gg.prog gg.w k t) (tS hd) (λh' kg nR=>aP (R.putM (m:=.di [(k,v)]) hr h1 nR (by show oS kg λo z z ho z=>?_;show⟨o,ho⟩) (λS=>.di kg (by simp [stored]) (by simpa [stored] using bz.one (hv.step R S))) λq e=>nomatch e) λS R'=>?_) (į _);show h h' _ S R'
  |_=>show no he
theorem KZ(he:ru o i v H=À ae)(R:ak gg J H s.heap)(ho:VR gg J s.heap o ao)(hi:VR gg J s.heap i ai)(hv:VR gg J s.heap v av)
  (h:∀h' tk,SE J s.heap J h'->ak gg J ae h'->Q () {s with heap:=h',toks:=tk}) :
  É mo A (setItem ao ai av) Q E s:=by
 show iq he λr m hr hm he=>?_;apply TW hr ho;intro c hr;cases m with
 |lst l=>show KY he R hr hm hi hv h
 |di l=>show PF he R hr hm hi hv h
 |ds l=>show PG he R hr hm hi hv h
 |own=>show no he
 |wd _=>show no he
 |exn _ _=>show no he
 |tab _=>show no he
end
theorem m8{P:α->Prop}(h:P a):∀b∈[a],P b:=λz hb=>W'.mp hb▸h
theorem qQ{P:α->Prop}(h:P a)(k:P c):∀b∈[a,c],P b:=λb hb=>(ċ.mp hb).elim (λe=>e▸h) (m8 k b)
theorem Kw{P:α->Prop}:∀b∈([]:List α),P b:=λz hb=>absurd hb acr
theorem Sq{α:Type}{P:α->Prop}{l m:List α}(h:∀b∈l,P b)(k:∀b∈m,P b):∀b,b∈l\/b∈m->P b:=λb hb=>hb.elim (h b) (k b)
theorem Yi(h:b∉[a]):b≠a:=λe=>h (W'.mpr e)
def Mv(wr J:List È)(h h':Ô):Prop:=∀b o,b∉wr->b∉J->h.get? b=À o->h'.get? b=À o
def eI(h:Ô)(b:È):Prop:=∃o,h.get? b=À o/\IP o
theorem iH(hc:o.cls=.type n)(hd:o.data=.fields vs)(hn:n≠"code"):IP o:=
 ⟨(λz z q=>nomatch hd.symm.trans q),(λz z q=>nomatch hd.symm.trans q),λq=>absurd (hc.symm.trans q) λq=>hn (by injection q)⟩
theorem IP.not(x:IP o):¬ j3 o:=by
 rintro (⟨_,_,_,h⟩|⟨h1,_,h2⟩)
 ·show x.seq _ _ h
 ·show x.code h1 _ h2
def vz(h:Ô)(b:È):Prop:=∃o cX n,h.get? b=À o/\o.data=.seq cX n
def vc(two:Bool)(t:Ó):Prop:=(∃es k p,t=.Tuple es k p)\/(two=Ê/\∃x p,t=.Name x p)
structure rS(A:Ñ)(I:È)(xs:List V)(w:List (Nat×bp))(two:Bool)(ys:List V)(vs:List Ä)(wr kp:List È)(St:Nat->Ô->Prop)(rT:Nat->Ä->Ô->Prop):Prop where
 frame:∀i h h',St i h->(∀b,b∈wr\/b∈kp->∀o,h.get? b=À o->h'.get? b=À o)->St i h'
 wrN:∀i h,St i h->∀b∈wr,eI h b
 wrM:∀i a h,rT i a h->∀b∈wr,eI h b
 kpN:∀i h,St i h->∀b∈kp,vz h b
 item:∀i J H (s:Å) (Q:Option Ä->Å->Prop) (E:Ä->Å->Prop) x,St i s.heap->ak gg J H s.heap->bz gg J s.heap ys vs->cD H w->(∀b,b∈wr\/b∈kp->b∉J)->(∀b∈wr,gg.B.get? b=Ã)->xs[i]?=À x ->
  (∀a h' tk,Mv wr J s.heap h'->ak gg J H h'->VR gg J h' x a->rT i a h'->Q (À a) {s with heap:=h',toks:=tk})->É mo A (Ĵ (.ref I)) Q E s
 go:∀t,vc two t->∀i J H a (s:Å) (Q:Unit->Å->Prop) (E:Ä->Å->Prop),rT i a s.heap->ak gg J H s.heap->(∀b,b∈wr\/b∈kp->b∉J)->(∀b∈wr,gg.B.get? b=Ã) ->
  (∀h',Mv wr J s.heap h'->ak gg J H h'->St (i+1) h'->Q () {s with heap:=h'})->É mo A (Ń t (.ref I) a) Q E s
 done:∀J H (s:Å) (Q:Option Ä->Å->Prop) (E:Ä->Å->Prop),St xs.length s.heap->ak gg J H s.heap->bz gg J s.heap ys vs->cD H w->(∀b,b∈wr\/b∈kp->b∉J)->(∀b∈wr,gg.B.get? b=Ã) ->
  (∀h' tk,Mv wr J s.heap h'->ak gg J H h'->Q Ã {s with heap:=h',toks:=tk})->É mo A (Ĵ (.ref I)) Q E s
 self:∀i (s:Å) (Q:Ä->Å->Prop) (E:Ä->Å->Prop),St i s.heap->Q (.ref I) s->É mo A (pyIter (.ref I)) Q E s
section
variable{A:Ñ}{E:Ä->Å->Prop}{J:List È}{H:ag}{s:Å}{wr:List È}
theorem Mv.tup(M:Mv wr J h h')(hw:∀b∈wr,eI h b):∀b o,h.get? b=À o->j3 o->b∉J->h'.get? b=À o/\b∉J:=
 λb o e hs hn=>⟨M b o (λhb=>(hw b hb).elim λo' k=>k.2.not (sm (e.symm.trans k.1)▸hs)) hn e,hn⟩
theorem Mv.vr(M:Mv wr J h h')(hw:∀b∈wr,eI h b)(x:VR gg J h v a):VR gg J h' v a:=x.stepT (λz z e=>e) (M.tup hw)
theorem Mv.vrs(M:Mv wr J h h')(hw:∀b∈wr,eI h b)(x:bz gg J h l vs):bz gg J h' l vs:=x.stepT (λz z e=>e) (M.tup hw)
theorem ak.mv(R:ak gg J H h)(M:∀b o,b∉wr->h.get? b=À o->h'.get? b=À o)(hw:∀b∈wr,eI h b)(hn:∀b∈wr,b∉J)(hB:∀b∈wr,gg.B.get? b=Ã):ak gg J H h':=by have M':Mv wr J h h':=λb o h1 z e=>M b o h1 e;show⟨λb o e=>M b o (λhb=>by rw[hB b hb]at e;cases e) (R.base b o e),R.fresh,R.len,R.nodup,λi a m h1 h2=>?_,R.tabs⟩;show(R.objs i a m h1 h2).stepT (λz z e=>e) (M'.tup hw) λo e=>M _ o (λhb=>hn _ hb (Ĥ h1)) e
theorem Mv.all(M:∀b o,b∉wr->h.get? b=À o->h'.get? b=À o):Mv wr J h h':=λb o h1 z e=>M b o h1 e
def Pa(n:String):Prop:=["enumerate","zip","dict_itemiterator","dict_reverseitemiterator","odict_iterator","itertools.zip_longest","itertools.pairwise"].contains n=Ê
theorem mY(ht:vc Ê t)(ho:s.heap.get? I=À o)(hc:o.cls=.type n)(hn:Pa n)(h:Q () s):
  É mo A (Ń t (.ref I) a) Q E s:=by
 show ht.elim (λq=>yO q λes k p q=>?_) λq=>mM q.2 λx p q=>?_
 ·rw[q]
  cases a with
  |ref c=>
   unfold Ń;show Â (wpAny_load ho ?_);rw[hc];cases hd:o.data with
   |fields vs=>show É _ _ (if (["enumerate","zip","dict_itemiterator","dict_reverseitemiterator","odict_iterator","itertools.zip_longest","itertools.pairwise"].contains n&&vs[0]?==À (õ c))=Æ then _ else _) Q E s;rw[show ["enumerate","zip","dict_itemiterator","dict_reverseitemiterator","odict_iterator","itertools.zip_longest","itertools.pairwise"].contains n=Ê from hn];show Ç h
   |_=>show Ç h
  |_=>show Ç h
 ·rw[q];show Ç h
theorem tv(h:cD H ((r,m)::w)):H[r]?=À m:=h _ G'
theorem rS.list(hh:A.handled=Ã)(I c:È)(r:Nat)(l:List V)(eR:c≠I):
  rS A I l [(r,.lst l)] Ê [.ref r] [.ref c] [I] [] (λi h=>h.IsListIter I c i) (λi z h=>h.IsListIter I c (i+1)):=by
 have ns:∀i h,h.IsListIter I c i->∀b∈[I],eI h b:=λi h st b hb=>by apply ba (W'.mp hb);show eK st λo ho hc hd=>⟨o,ho,iH hc hd (by decide)⟩
 have Ja:∀{J:List È} {H:ag} {h:Ô},ak gg J H h->bz gg J h [.ref r] [.ref c]->cD H [(r,.lst l)]->∃vs,h.IsList c vs.toArray/\bz gg J h l vs:=λ{J H h} R hv hw=>by
  cases hv with
  |cons hv _=>
   cases hv with
   |ref hr=>show eK (R.list hr (c8 (tv hw))) λvs hl AZ z=>⟨vs,hl.isList,AZ⟩
 show⟨λi h h' st hk=>st.at λo e=>hk I (.inl G') o e,ns,λi a h m=>ns _ h m,λz z z=>Kw,?_,?_,?_,λi s Q E st h=>wpAny_pyIter_listiter st h⟩
 ·intro i J H s Q E x st R hv hw hn hB hx hQ
  show aF (Ja R hv hw) λvs hl AZ=>aF (AZ.get hx) λa ha hxa=>wpAny_pyNext_list_item st hl (x:=a) (ύ.trans ha) λh' OL nR=>?_;have M:∀b o,b∉[I]->s.heap.get? b=À o->h'.get? b=À o:=λb o hb e=>nR.extBut b o (Yi hb) e;have M':Mv [I] J s.heap h':=Mv.all M;show hQ a h' s.toks M' (R.mv M (ns _ _ st) (λb hb=>hn b (.inl hb)) hB) (M'.vr (ns _ _ st) hxa) OL
 ·intro t ht i J H a s Q E m R hn hB hQ
  show eK (id m) λo ho hc hd=>mY ht ho hc N (hQ s.heap (λz z z z e=>e) R m)
 ·intro J H s Q E st R hv hw hn hB hQ
  show aF (Ja R hv hw) λvs hl AZ=>wpAny_pyNext_list_end hh st hl (by simp [AZ.length]) λh' nR=>?_;have M:∀b o,b∉[I]->s.heap.get? b=À o->h'.get? b=À o:=λb o hb e=>nR b o (Yi hb) e;show hQ h' s.toks (Mv.all M) (R.mv M (ns _ _ st) (λb hb=>hn b (.inl hb)) hB)
theorem rS.walks{I:È}{fp kp:List È}{xs ys:List V}{vs:List Ä}{P:Nat->Ä->Prop}{St:Nat->Ô->Prop}{n:String}(W:Walks gg.prog gg.w A I fp [I] xs.length P St)(JZ:∀b∈fp,b=I\/b∈kp)
  (hn:Pa n) (VZ:n≠"code")
  (hI:∀i h,St i h->∃o vs,h.get? I=À o/\o.cls=.type n/\o.data=.fields vs) (VN:∀i h,St i h->∀b∈kp,vz h b)
  (hP:∀J h i v x,bz gg J h ys vs->P i v->xs[i]?=À x->VR gg J h x v) :
  rS A I xs [] Ê ys vs [I] kp St (λi z h=>St (i+1) h):=by
 have ns:∀i h,St i h->∀b∈[I],eI h b:=λi h st b hb=>by apply ba (W'.mp hb);show fe (hI i h st) λo vs ho hc hd=>⟨o,ho,iH hc hd VZ⟩
 show⟨λi h h' st hk=>W.frame i h h' st λb hb o e=>hk b ((JZ b hb).imp (λe=>W'.mpr e) id) o e,ns,λi a h m=>ns _ h m,VN,?_,?_,?_,W.self⟩
 ·intro i J H s Q E x st R hv hw lU hB hx hQ
  show W.item i s Q E (ģ.mp hx).1 st λv h' tk hp aS M=>?_;have M':Mv [I] J s.heap h':=Mv.all M;show hQ v h' tk M' (R.mv M (ns _ _ st) (λb hb=>lU b (.inl hb)) hB) (hP J h' i v x (M'.vrs (ns _ _ st) hv) hp hx) aS
 ·intro t ht i J H a s Q E m R lU hB hQ
  show fe (hI _ _ m) λo vs ho hc hd=>mY ht ho hc hn (hQ s.heap (λz z z z e=>e) R m)
 ·intro J H s Q E st R hv hw lU hB hQ
  show W.done s Q E st λh' tk M=>hQ h' tk (Mv.all M) (R.mv M (ns _ _ st) (λb hb=>lU b (.inl hb)) hB)
def B6(A:Ñ)(J:List È)(s:Å)(xs:List V)(w:List (Nat×bp))(two:Bool)(ae:ag)(a:Ä)(Ì:Å):Prop:=
 ∃aR,SE J s.heap aR Ì.heap/\ak gg aR ae Ì.heap/\bP s Ì/\∀(E:Ä->Å->Prop) (Q:Ä->Å->Prop),
  (∀I ys vs wr kp St rT h',rS A I xs w two ys vs wr kp St rT->St 0 h'->(∀b o,Ì.heap.get? b=À o->h'.get? b=À o)->bz gg aR h' ys vs->(∀b∈wr,s.heap.get? b=Ã)->(∀b,b∈wr\/b∈kp->b∉aR) ->
   (∀b∈wr,gg.B.get? b=Ã)->Q (.ref I) {Ì with heap:=h'})->É mo A (pyIter a) Q E Ì
theorem aV(R:ak gg J H h)(hb:h.get? b=Ã):gg.B.get? b=Ã:=ku λo e=>no (hb.symm.trans (R.base b o e))
theorem aW(R:ak gg J H h)(hb:h.get? b=Ã):b∉J:=λx=>(R.live x).elim λo ho=>no (hb.symm.trans ho)
theorem SE.back(S:SE J h aR h')(hb:h'.get? b=Ã):h.get? b=Ã:=ku λo e=>(S.dom b o e).elim λo' e'=>no (hb.symm.trans e')
theorem xJ{c:È}{l:List V}{vs:List Ä}{n:String}{St:Nat->Ô->Prop}{Ì:Å}{aR:List È}{Q:Ä->Å->Prop}(S:SE J s.heap aR Ì.heap)(R:ak gg aR H Ì.heap)(hv:bz gg aR Ì.heap l vs)(hn:c∉aR)
  (W:Walks gg.prog gg.w A Ì.heap.objs.size [Ì.heap.objs.size,c] [Ì.heap.objs.size] vs.toArray.size (λi v=>vs.toArray[i]?=À v) St) (Z6:Pa n) (VZ:n≠"code") (hI:∀i h,St i h->∃o vs,h.get? Ì.heap.objs.size=À o/\o.cls=.type n/\o.data=.fields vs) (VN:∀i h,St i h->vz h c)
  (h0:St 0 (Ì.heap.push {cls:=.type n,data:=.fields #[.ref c,.int 0 0]}))
  (h:∀I ys vs wr kp St rT h',rS A I l [] Ê ys vs wr kp St rT->St 0 h'->(∀b o,Ì.heap.get? b=À o->h'.get? b=À o)->bz gg aR h' ys vs->(∀b∈wr,s.heap.get? b=Ã)->(∀b,b∈wr\/b∈kp->b∉aR) ->
   (∀b∈wr,gg.B.get? b=Ã)->Q (.ref I) {Ì with heap:=h'}):Q (.ref Ì.heap.objs.size) {Ì with heap:=Ì.heap.push {cls:=.type n,data:=.fields #[.ref c,.int 0 0]}}:=by
 rw[show vs.toArray.size=l.length from hv.length.symm]at W
 show h _ l vs [_] [c] _ _ _ (rS.walks W (λb hb=>(ċ.mp hb).imp id id) Z6 VZ hI (λi h st=>m8 (VN i h st)) λJ h i v x hv hp hx=>?_) h0 (λb o e=>O' _ e) (hv.stepT (λz z e=>e) λb o e z hn=>⟨O' _ e,hn⟩)
  (m8 (S.back (aG _))) (Sq (m8 (aW R (aG _))) (m8 hn)) (m8 (aV R (aG _)))
 show aF (hv.get hx) λa ha hr=>sm (ha.symm.trans (ύ.symm.trans hp))▸hr
set_option tactic.hygienic true in
theorem Ln{x:V}{a:Ä}{xs:List V}{w:List (Nat×bp)}{Ì:Å}(hh:A.handled=Ã)(he:pc H x=À (xs,w))(hp:bD gg J s x H a Ì):B6 A J s xs w Ê H a Ì:=by
 show bD.el hp λaR S R hx hS=>⟨aR,S,R,hS,λE Q h=>?_⟩;revert he h;apply VR.el hx
 case tup=>
  intro l c vs ht hz hv hn he h;have cG:c<Ì.heap.objs.size:=aF ht λ_ e _=>Ő e;revert h;apply du he;intro h;show Ă ht (xJ S R hv hn (Walks.tuple (prog:=gg.prog) (w:=gg.w) hh _ c (Ł cG) vs.toArray) N (by decide) (λi h st=>eK st.1 λo ho hc hd=>⟨o,_,ho,hc,hd⟩) (λi h st=>eK st.2 λo ho hc hd=>hd.elim λn hd=>⟨o,_,n,ho,hd⟩) ⟨⟨_,ŀ _ N,N,N⟩,ht.push _⟩ h)
 case ro=>
  intro ns c vs hl hz hi he h;have jg:Ì.heap.IsList c vs.toArray:=hl.at λo e=>R.base _ o e;have cG:c<Ì.heap.objs.size:=aF jg λ_ e _=>Ő e;revert h;apply du he;intro h;show ı jg (xJ S R (A6 hi) (λhm=>aF hl λo ho _=>no ((R.fresh _ hm).symm.trans ho)) (Walks.list (prog:=gg.prog) (w:=gg.w) hh _ c (Ł cG) vs.toArray) N (by decide) (λi h st=>eK st.1 λo ho hc hd=>⟨o,_,ho,hc,hd⟩) (λi h st=>eK st.2 λo ho hc hd=>hd.elim λn hd=>⟨o,_,n,ho,hd⟩) ⟨⟨_,ŀ _ N,N,N⟩,jg.push _⟩ h)
 case ref=>
  intro r c hr he h;show ca he λl' jg he=>eK (R.list hr jg) λvs hl hv hz=>?_;have cG:c<Ì.heap.objs.size:=hl.elim λ_ e=>Ő e;revert h;apply du he;intro h;show ı hl.isList (h _ [.ref r] [.ref c] [_] [] _ _ _ (rS.list hh Ì.heap.objs.size c r l' (Ł cG)) ⟨_,ŀ _ N,N,N⟩ (λb o e=>O' _ e) (.one (.ref hr)) (m8 (S.back (aG _))) (Sq (m8 (aW R (aG _))) Kw) (m8 (aV R (aG _))))
 all_goals (intros;rename_i he h;exact no he)
theorem Dd(a b c:Int):i5 a b c=(Builtin.Range.rangeSize a b c).toNat:=rfl
theorem N4{k:Int}{n:Nat}(h1:-(n:Int)<=k)(h2:k<=n):k.natAbs<=n:=by
 cases k with
 |ofNat m=>show Ŝ.mp h2
 |negSucc m=>show Ŝ.mp (Int.le_of_neg_le_neg (a:=((m+1:Nat):Int)) h1)
theorem Nu{x y c:Int}(hc:0<c):0<=(if y<x then (x-y-1) / c+1 else 0):=by
 by_cases h:y<x
 ·rw[if_pos h];show ϟ (afp (by show y2 0xce18e010811b10 N h) (ϰ hc)) (by decide)
 ·rw[if_neg h];show Ĭ 0
theorem Nt{x y c M:Int}(hc:0<c)(hM:x-y<=M)(h0:0<=M):(if y<x then (x-y-1) / c+1 else 0)<=M:=by
 by_cases h:y<x
 ·rw[if_pos h];show Ċ (acv (Int.ediv_le_self c (by show y2 0xce18e010811b10 N h)) 1) (Ċ (ŵ (adv _ _)) hM)
 ·rw[if_neg h];show h0
theorem Nc(hc:c≠0)(hp:¬ c > 0):0 < -c:=Int.neg_pos_of_neg (Int.lt_iff_le_and_ne.mpr ⟨ŉ.mp hp,hc⟩)
theorem fH(a b c:Int)(hc:c≠0):0<=Builtin.Range.rangeSize a b c:=by
 unfold Builtin.Range.rangeSize;by_cases hp:c > 0
 ·rw[if_pos hp];show Nu hp
 ·rw[if_neg hp];show Nu (Nc hc hp)
theorem uU(a b c:Int)(hc:c≠0)(ha:-1000000000<=a/\a<=1000000000)(hb:-1000000000<=b/\b<=1000000000):Builtin.Range.rangeSize a b c<=2000000000:=by
 unfold Builtin.Range.rangeSize;by_cases hp:c > 0
 ·rw[if_pos hp];show Nt hp (afz hb.2 ha.1) (by decide)
 ·rw[if_neg hp];show Nt (Nc hc hp) (afz ha.2 hb.1) (by decide)
theorem JM(h1:-3000000000<=x)(h2:x<=3000000000):Builtin.Range.rangeFitsLong x=Æ:=Ņ.mpr ⟨decide_eq_true (Ċ (by decide) h1),decide_eq_true (abX h2 (by decide))⟩
theorem FH(h:-1000000000<=x/\x<=1000000000):Builtin.Range.rangeFitsLong x=Æ:=JM (Ċ (by decide) h.1) (Ċ h.2 (by decide))
theorem nv(hc:c≠0)(ha:-1000000000<=a/\a<=1000000000)(hb:-1000000000<=b/\b<=1000000000)(ff:-1000000000<=c/\c<=1000000000):Builtin.Range.small a b c=Æ:=by
 show Ņ.mpr ⟨Ņ.mpr ⟨Ņ.mpr ⟨Ņ.mpr ⟨FH ha,FH hb⟩,FH ff⟩,JM (Ċ (by decide) (fH a b c hc)) (Ċ (uU a b c hc ha hb) (by decide))⟩,abR.mpr (.inr ?_)⟩;have hl:=ada hb.1 ff.1;have hu:=ada hb.2 ff.2;by_cases hp:c > 0
 ·rw[if_pos hp];show JM (Ċ (by decide) (ae' b c 1▸aeI hl 1)) (Ċ (ae' b c 1▸aeI hu 1) (by decide))
 ·rw[if_neg hp];show JM (Ċ (by decide) (Ż b c 1▸acv hl 1)) (Ċ (Ż b c 1▸acv hu 1) (by decide))
theorem DF{a b c:Int}{r:È}{t u v:Tok}{Ì:Å}(hh:A.handled=Ã)(hr:IsRange Ì.heap r a b c t u v)(hc:c≠0)(yl:Builtin.Range.small a b c=Æ){aR:List È}(S:SE J s.heap aR Ì.heap)(R:ak gg aR H Ì.heap)(hS:bP s Ì):
  B6 A J s (cy a b c) [] Ê H (.ref r) Ì:=by
 show⟨aR,S,R,hS,λE Q h=>?_⟩;have fb:s.heap.get? Ì.heap.objs.size=Ã:=S.back (aG _);have Y0:Ì.heap.objs.size∉aR:=aW R (aG _);have fB:gg.B.get? Ì.heap.objs.size=Ã:=aV R (aG _);have ch:(cy a b c).length=(Builtin.Range.rangeSize a b c).toNat:=(H' _).trans Ŗ;have W:=Walks.range (prog:=gg.prog) (w:=gg.w) hh Ì.heap.objs.size a c (cy a b c).length;show wpAny_pyIter_range hr yl (h _ [] [] [_] [] _ _ _ (rS.walks (n := "range_iterator") W (λb hb=>.inl (W'.mp hb)) N (by decide) ?_ (λi h st=>Kw) ?_) ?_ (λb o e=>O' _ e) .nil (m8 fb) (Sq (m8 Y0) Kw) (m8 fB))
 ·intro i h st
  show⟨_,_,st,N,N⟩
 ·intro J h i v x hv hp hx
  show ä hp λt q2=>?_;apply ba q2;have hi:i<i5 a b c:=aeX (ģ.mp hx).1 ch;unfold cy at hx;rw[Ħ,ϸ hi]at hx;apply dM hx;show .int _ _
 ·show IsRangeIter _ _ _ _ _
  have e:(((Builtin.Range.rangeSize a b c).toNat:Int)-(0:Nat))=Builtin.Range.rangeSize a b c:=(afI _).trans (ϥ (fH a b c hc));have e2:a+((0:Nat):Int)*c=a:=(congrArg (a+·) (ό c)).trans (Ť a);rw[ch,e,e2];show ŀ _ N
end
section
variable{A:Ñ}{E:Ä->Å->Prop}{s:Å}
theorem dE{cX}(sP:s.heap.IsTupleIter it t i)
  (ht:s.heap.IsTuple t cX) (hx:cX[i]?=À x)
  (hQ:∀h',h'.IsTupleIter it t (i+1)->Heap.SameBut it s.heap h'->Q x {s with heap:=h'}) :
  É mo A (Builtin.SmallTypes.nextOf (.ref it)) Q E s:=by
 show eK (id sP) λo ho hc hd=>?_;obtain ⟨ol,Qd,_,nl,MA⟩:=ht;unfold Builtin.SmallTypes.nextOf
 show Â (ð (name:=acN "__next__") sP.typeIs F.slot_tuple_iterator_next
  (ý F.slot_tuple_iterator_next sP.typeIs F.entry_tuple_iterator_next ?_ (F.args_tuple_iterator_next_1 _)))
 show É _ _ (field (.ref it) 0>>=_) _ _ s;show Â (Þ ho hd (x:=.ref t) N ?_);show É _ _ (if (Value.ref t==Value.none)=Æ then _ else _) _ _ s;rw[if_neg (show ¬ ((Value.ref t==Value.none)=Æ) from Ļ)];show É _ _ (field (.ref it) 1>>=_) _ _ s;show Â (Þ ho hd (x:=.int i 0) N ?_);show É _ _ (seqItems? (.ref t)>>=_) _ _ s;show Â (ç Qd MA ?_)
 simp only[ĭ,hx]
 show Â (Ĩ ho hd (by simp) (Ç ⟨x,rfl,Ç (hQ _ ?_ (Heap.SameBut.update ..))⟩))
 show⟨_,ϣ _ ho (Obj.isFreed_of_fields (Obj.data_mapFields hd _)),(Obj.cls_mapFields ..).trans hc,by
  rw[Obj.data_mapFields hd];simp [õ]⟩
theorem ej{cX}(hh:A.handled=Ã)
  (sP:s.heap.IsTupleIter it t i) (ht:s.heap.IsTuple t cX) (hx:cX[i]?=Ã)
  (hE:∀h' e,Heap.ExtBut it s.heap h'->(∃o,h'.get? e=À o/\o.cls=.type "StopIteration")->E (.ref e) {s with heap:=h'}) :
  É mo A (Builtin.SmallTypes.nextOf (.ref it)) Q E s:=by
 show eK (id sP) λo ho hc hd=>?_;obtain ⟨ol,Qd,_,nl,MA⟩:=ht;unfold Builtin.SmallTypes.nextOf
 show Â (ð (name:=acN "__next__") sP.typeIs F.slot_tuple_iterator_next
  (ý F.slot_tuple_iterator_next sP.typeIs F.entry_tuple_iterator_next ?_ (F.args_tuple_iterator_next_1 _)))
 show É _ _ (field (.ref it) 0>>=_) _ _ s;show Â (Þ ho hd (x:=.ref t) N ?_);show É _ _ (if (Value.ref t==Value.none)=Æ then _ else _) _ _ s;rw[if_neg (show ¬ ((Value.ref t==Value.none)=Æ) from Ļ)];show É _ _ (field (.ref it) 1>>=_) _ _ s;show Â (Þ ho hd (x:=.int i 0) N ?_);show É _ _ (seqItems? (.ref t)>>=_) _ _ s;show Â (ç Qd MA ?_)
 simp only[ĭ,hx]
 show Â (ú (Â (Ĩ ho hd (by simp) ?_)));show É _ _ (newExc (.type "StopIteration") []>>=_) _ _ _;show Â ?_
 simp only[newExc,newTuple]
 refine Â (è (Â (m:=firstArgMember _ _) (wpAny_of_eq (a:=Value.none) (by first|rfl|(simp only[firstArgMember];rfl)) (è ?_ (by size_fits)))) (by size_fits))
 simp only[raiseNew]
 show Â (wpAny_handled ?_)
 first|rw[show A.in1.handled=Ã from hh]|rw[hh]
 show Â (Ç (wpAny_throw (hE _ _ (((Heap.SameBut.update ..).extBut.push _).push _) ⟨_,ŀ _ N,N⟩)))
end
theorem yN(hh:A.handled=Ã)(it l:È)(eR:l≠it)(cX:Array Ä):
  Draws gg.prog gg.w A it [it,l] cX.size (λi v=>cX[i]?=À v) (λi h=>h.IsTupleIter it l i/\h.IsTuple l cX) where
 live:=λz z st=>let ⟨o,ho,_⟩:=st.1;⟨o,ho⟩
 frame:=λz z z st hk=>⟨st.1.at λo e=>hk it (by simp) o e,st.2.at λo e=>hk l (by simp) o e⟩
 item:=λi s Q E hi st hQ=>by show dE st.1 st.2 (x:=cX[i]) (by simp [hi]) λh' OL nR=>hQ _ h' s.toks (by simp [hi]) ⟨OL,st.2.extBut nR.extBut eR⟩ nR
 done:=λs Q E st hE=>ej hh st.1 st.2 (by simp) hE
theorem uJ:∀{k i:Nat} {x:V},(dR k xs)[i]?=À x->∃y,xs[i]?=À y/\x=.tup [.int ((k+i:Nat):Int),y]:=by
 induction xs with
 |nil=>show λh=>no h
 |cons y xs ih=>
  intro k i x h;cases i with
  |zero=>show⟨y,N,(sm h).symm⟩
  |succ i=>show(show k+1+i=k+(i+1) from Nat.succ_add_eq_add_succ k i)▸ih (i:=i) h
theorem uK(xs:List V):∀k:Nat,(dR k xs).length=xs.length:=by
 induction xs with
 |nil=>show λz=>rfl
 |cons y xs ih=>show λk=>congrArg (·+1) (ih (k+1))
def NQ(e it c:È)(vs:List Ä)(i:Nat)(h:Ô):Prop:=(∃old,IsEnum h e it i old)/\h.IsTupleIter it c i/\h.IsTuple c vs.toArray
def Qv(e it c:È)(vs:List Ä)(i:Nat)(a:Ä)(h:Ô):Prop:=∃T,a=.ref T/\(∃x,IsEnumOut h e it ((i:Int)+1) x T)/\(h.IsTupleIter it c (i+1)/\h.IsTuple c vs.toArray)/\T≠e/\T≠it
theorem fM(x:h.IsTupleIter a t i):eI h a:=eK x λo ho hc hd=>⟨o,ho,iH hc hd (by decide)⟩
theorem NQ.ns(st:NQ e it c vs i h):∀b∈[e,it],eI h b:=qQ (st.1.elim λz he=>⟨_,he,iH N N (by decide)⟩) (fM st.2.1)
theorem Qv.ns(m:Qv e it c vs i a h):∀b∈[e,it],eI h b:=vo m λz z k3 k4 z=>qQ (k3.elim λz he=>⟨_,he,iH N N (by decide)⟩) (fM k4.1)
section
variable{A:Ñ}{E:Ä->Å->Prop}{J:List È}{H:ag}{s:Å}
theorem rS.enum(hh:A.handled=Ã)(e it c:È)(xs:List V)(vs:List Ä)(O3:xs.length=vs.length)(XJ:e≠it)(ZG:e≠c)(Rq:c≠it):
  rS A e (dR 0 xs) [] Æ xs vs [e,it] [c] (NQ e it c vs) (Qv e it c vs):=by
 have D:=yN (A:=A.in1) hh it c Rq vs.toArray;have W:=WalksT.enumerateD D e XJ (λq=>(ċ.mp q).elim XJ λq=>ZG (W'.mp q)) G';have hz:(dR 0 xs).length=vs.toArray.size:=(uK xs 0).trans O3;show⟨λi h h' st hk=>W.frame i h h' st λb hb o x=>hk b ((ċ.mp hb).elim (λq=>.inl (ċ.mpr (.inl q))) λhb=>(ċ.mp hb).imp (λq=>J' _ (W'.mpr q)) id) o x,λi h st=>NQ.ns st,λi a h m=>Qv.ns m,λi h st=>m8 (eK st.2.2 λo ho j hd=>hd.elim λn hd=>⟨o,_,n,ho,hd⟩),?_,?_,?_,W.self⟩
 ·intro i J H s Q E x st R hv hw hn hB hx hQ
  show W.item i s Q E (hz▸(ģ.mp hx).1) st λT ci h' tk hP hsz hT hm M=>?_;show gm hP λt y hy q4=>aF (uJ hx) λz vt q3=>aF (hv.get vt) λa ha hr=>?_;have M':Mv [e,it] J s.heap h':=Mv.all M;rw[q4]at hT;show hQ _ h' tk M' (R.mv M (NQ.ns st) (λb hb=>hn b (.inl hb)) hB) (ba (C:=λx=>VR gg J h' x (.ref T)) q3 (.tup (l:=[.int ((0+i:Nat):Int),z]) (vs:=[.int i t,y]) hT (show 2<=ax+1 by decide) (.cons (show VR gg J h' (.int ((0+i:Nat):Int)) (.int i t) by rw[ϋ];show .int _ _) (.one (sm (ha.symm.trans (ύ.symm.trans hy))▸M'.vr (NQ.ns st) hr))) (aW R (g7 hsz)))) ⟨T,N,hm.1,hm.2.1,hm.2.2.1,hm.2.2.2⟩
 ·intro t ht i J H a s Q E m R hn hB hQ
  show YU (id m) λT q2 m1 m2 m3 m4=>?_;have O:=Qv.ns m;rw[q2];show ht.elim (λq=>yO q λes k p q=>?_) λq=>absurd q.1 afi;rw[q];show W.go es k p i T s Q E ⟨m1,m2,m3,m4⟩ λh' aS M=>hQ h' (Mv.all M) (R.mv M O (λb hb=>hn b (.inl hb)) hB) aS
 ·intro J H s Q E st R hv hw hn hB hQ
  rw[hz]at st;show W.done s Q E st λh' tk M=>hQ h' tk (Mv.all M) (R.mv M (NQ.ns st) (λb hb=>hn b (.inl hb)) hB)
end
section
variable{A:Ñ}{E:Ä->Å->Prop}{s:Å}
structure ZP where
 z:È
 TI:È
 TO:È
 i1:È
 i2:È
 l1:È
 l2:È
 vs:List Ä
 ws:List Ä
 b:Bool
def rV(b:Bool)(h:Ô)(it l:È)(i:Nat)(vs:List Ä):Prop:=match b with
 |true=>h.IsListIter it l i/\h.IsList l vs.toArray
 |false=>h.IsTupleIter it l i/\h.IsTuple l vs.toArray
theorem rV.at(x:rV b h it l i vs)(h1:∀o,h.get? it=À o->h'.get? it=À o)(h2:∀o,h.get? l=À o->h'.get? l=À o):rV b h' it l i vs:=by
 cases b
 ·show⟨x.1.at h1,x.2.at h2⟩
 ·show⟨x.1.at h1,x.2.at h2⟩
theorem rV.ext(x:rV b h it l i vs)(e:Heap.ExtBut a h h')(n1:it≠a)(n2:l≠a):rV b h' it l i vs:=x.at (λz q=>e _ _ n1 q) λz q=>e _ _ n2 q
theorem rV.item(x:rV b s.heap it l i vs)(eR:l≠it)(hx:vs[i]?=À v)(hQ:∀h',rV b h' it l (i+1) vs->Heap.SameBut it s.heap h'->Q v {s with heap:=h'}):É mo A (Builtin.SmallTypes.nextOf (.ref it)) Q E s:=by
 cases b
 ·show dE x.1 x.2 (ύ.trans hx) λh' hi hs=>hQ h' ⟨hi,x.2.extBut hs.extBut eR⟩ hs
 ·show wpAny_nextOf_list_item x.1 x.2 (ύ.trans hx) λh' hi hs=>hQ h' ⟨hi,x.2.extBut hs.extBut eR⟩ hs
theorem rV.done(hh:A.handled=Ã)(x:rV b s.heap it l i vs)(hx:vs[i]?=Ã)(hE:∀h' e,Heap.ExtBut it s.heap h'->(∃o,h'.get? e=À o/\o.cls=.type "StopIteration")->E (.ref e) {s with heap:=h'}):É mo A (Builtin.SmallTypes.nextOf (.ref it)) Q E s:=by
 cases b
 ·show ej hh x.1 x.2 (ύ.trans hx) hE
 ·show wpAny_nextOf_list_end hh x.1 x.2 (ύ.trans hx) hE
theorem rV.soft(x:rV b h it l i vs):eI h it:=by
 cases b
 ·show fM x.1
 ·show eK x.1 λo ho hc hd=>⟨o,ho,iH hc hd (by decide)⟩
theorem rV.seq(x:rV b h it l i vs):vz h l:=by
 cases b
 ·show eK x.2 λo ho z hd=>hd.elim λn hd=>⟨o,_,n,ho,hd⟩
 ·show eK x.2 λo ho z hd=>hd.elim λn hd=>⟨o,_,n,ho,hd⟩
structure ZS(c:ZP)(f:Ä)(k:Nat)(h:Ô):Prop where
 z:IsZip h c.z c.TI c.TO f
 p:î h c.TI (.ref c.i1) (.ref c.i2)
 i1:rV c.b h c.i1 c.l1 k c.vs
 i2:h.IsTupleIter c.i2 c.l2 k
 t2:h.IsTuple c.l2 c.ws.toArray
def ZK(c:ZP)(h h':Ô):Prop:=∀b o,b≠c.z->b≠c.TO->b≠c.i1->b≠c.i2->h.get? b=À o->h'.get? b=À o
end
def jK(A:Ñ)(E:Ä->Å->Prop)(s:Å)(c:ZP)(k:Nat)(a:Ä)(b:Ä)(Q:Ä->Å->Prop):Prop:=∀(hh:A.handled=Ã) (D:ZipApart c.z c.TI c.TO c.i1 c.i2 c.l1 c.l2) (Ù:ZS c .none k s.heap) (sO:î s.heap c.TO a b) (hQ:∀x y,c.vs[k]?=À x->c.ws[k]?=À y->∀h',ZS c (õ s.heap.objs.size) (k+1) h'->î h' c.TO x y->î h' s.heap.objs.size x y->ZK c s.heap h'->Q (.ref s.heap.objs.size) {s with heap:=h'}) (hE:(c.vs[k]?=Ã\/c.ws[k]?=Ã)->∀h' e a' b',ZK c s.heap h'->î h' c.TO a' b'->(∃o,h'.get? e=À o/\o.cls=.type "StopIteration")->E (.ref e) {s with heap:=h'}),É mo A (Ē.«zip.__next__» ⟨[.ref c.z],[]⟩) (λip s'=>∃v,ip=.done (.ret v)/\Q v s') E s
namespace zipT_nextH
def kc:=hc (U8 jK) ({},λz z=>True,dS,⟨0,0,0,0,0,0,0,[],[],Ê⟩,0,.none,.none,λz z=>True)
def A:=kc.1
def E:=kc.2.1
def s:=kc.2.2.1
def c:=kc.2.2.2.1
def k:=kc.2.2.2.2.1
def a:=kc.2.2.2.2.2.1
def b:=kc.2.2.2.2.2.2.1
def Q:=kc.2.2.2.2.2.2.2
theorem kt:jK A E s c k a b Q:=by
 intro hh D Ù sO hQ hE;have stop:∀{h:Ô} {e:È} {o:Obj} {f:Ä},IsZip h c.z c.TI c.TO f->h.get? e=À o->o.cls=.type "StopIteration"->e≠c.z:=λh1 h2 h3 q=>absurd (show Value.type "zip" = .type "StopIteration" from (congrArg Obj.cls (sm (h1.symm.trans (q▸h2)))).trans h3) (by decide);show É _ _ (field (.ref c.z) 2>>=_) _ _ _;show Â (Þ Ù.z N (x:=.bool Ê) N ?_);show É _ _ (field (.ref c.z) 3>>=_) _ _ _;show Â (Þ Ù.z N (x:=.ref c.TI) N (Â (ç Ù.p N ?_)));show É _ _ (Builtin.SmallTypes.ownedTupleIsFree (.ref c.z)>>=_) _ _ _;show Â ?_;unfold Builtin.SmallTypes.ownedTupleIsFree;show Â (Þ Ù.z N (x:=.none) N (Ç ?_))
 simp only[if_true]
 show Â (ú (Â (Þ Ù.z rfl (x:=.ref c.TO) rfl (Â (ā Ù.z (by simp) λbM A0 kh=>?_)))));replace A0:IsZip bM c.z c.TI c.TO .ellipsis:=A0;show Â ?_
 simp only[adU,List.zipIdx_nil,adt,adF]
 show Â (Â (wpAny_onRaise ?_));show É _ _ (Builtin.SmallTypes.nextOf (.ref c.i1)>>=_) _ _ _;cases hx:c.vs[k]? with
 |none=>show Â (rV.done hh (Ù.i1.ext kh.extBut D.i1z D.l1z) hx λjA e lE he=>aF he λoe RN En=>?_);have MU:IsZip jA c.z c.TI c.TO .ellipsis:=lE _ _ D.i1z.symm A0;show ā MU (by simp) λeE j hW=>hE (.inl hx) eE e a b (λc o c1 j c3 j x=>hW.extBut _ _ c1 (lE _ _ c3 (kh.extBut _ _ c1 x))) (hW.extBut _ _ D.TOz (lE _ _ D.TOi1 (kh.extBut _ _ D.TOz sO))) ⟨oe,hW.extBut _ _ (stop MU RN En) RN,En⟩
 |some x=>
  show Â ((Ù.i1.ext kh.extBut D.i1z D.l1z).item D.l1i1 hx λjA Re lE=>Ç ?_);have FW:î jA c.TO a b:=lE.extBut _ _ D.TOi1 (kh.extBut _ _ D.TOz sO);show Â (ç FW N (Â (wpAny_updateSeq_pair FW λeE ub hW=>?_)));replace ub:î eE c.TO x b:=ub;show Â (Ė (Ç (Â (Â (wpAny_onRaise ?_)))));show É _ _ (Builtin.SmallTypes.nextOf (.ref c.i2)>>=_) _ _ _;have Mr:=((Ù.i2.extBut kh.extBut D.i2z).extBut lE.extBut D.i12.symm).extBut hW.extBut D.TOi2.symm;have ME:=((Ù.t2.extBut kh.extBut D.l2z).extBut lE.extBut D.l2i1).extBut hW.extBut D.l2TO;have MV:IsZip eE c.z c.TI c.TO .ellipsis:=hW.extBut _ _ D.TOz.symm (lE.extBut _ _ D.i1z.symm A0);have pr:∀b o,b≠c.z->b≠c.TO->b≠c.i1->s.heap.get? b=À o->eE.get? b=À o:=λb o c1 c2 c3 e=>hW.extBut _ _ c2 (lE.extBut _ _ c3 (kh.extBut _ _ c1 e));cases hy:c.ws[k]? with
  |none=>show Â (ej hh Mr ME (ύ.trans hy) λlW e mT he=>aF he λoe RN En=>?_);have MW:IsZip lW c.z c.TI c.TO .ellipsis:=mT _ _ D.i2z.symm MV;show ā MW (by simp) λjU j mU=>hE (.inr hy) jU e x b (λb o c1 c2 c3 c4 x=>mU.extBut _ _ c1 (mT _ _ c4 (pr b o c1 c2 c3 x))) (mU.extBut _ _ D.TOz (mT _ _ D.TOi2 ub)) ⟨oe,mU.extBut _ _ (stop MW RN En) RN,En⟩
  |some y=>
   show Â (dE Mr ME (ύ.trans hy) λlW Rf mT=>Ç ?_);have FY:î lW c.TO x b:=mT.extBut _ _ D.TOi2 ub;show Â (ç FY N (Â (wpAny_updateSeq_pair FY λjU uc mU=>?_)));replace uc:î jU c.TO x y:=uc;show Â (Ė (Ç (Ç (Â (ç uc N (Â (wpAny_newTuple ?_)))))));have hsz:jU.objs.size=s.heap.objs.size:=by rw[mU.1,mT.1,hW.1,lE.1,kh.1]
   have MX:IsZip jU c.z c.TI c.TO .ellipsis:=mU.extBut _ _ D.TOz.symm (mT.extBut _ _ D.i2z.symm MV);have RE:ZK c s.heap jU:=λb o c1 c2 c3 c4 e=>mU.extBut _ _ c2 (mT.extBut _ _ c4 (pr b o c1 c2 c3 e));have eR:=ō (Ő MX);show É _ _ (Builtin.SmallTypes.ownedTupleHandOut (.ref c.z) (.ref jU.objs.size)>>=_) _ _ _;show Â ?_;unfold Builtin.SmallTypes.ownedTupleHandOut;have R0:IsZip (jU.push {cls:=.type "tuple",data:=.seq #[x,y]}) c.z c.TI c.TO .ellipsis:=O' _ MX;show Â (ā R0 (by simp) λJ9 Gr AY=>?_);replace Gr:IsZip J9 c.z c.TI c.TO (õ jU.objs.size):=Gr;show ā Gr (by simp) λGs A1 MO=>?_;replace A1:IsZip Gs c.z c.TI c.TO (õ jU.objs.size):=A1;have up:∀b o,b≠c.z->jU.get? b=À o->Gs.get? b=À o:=λb o c1 e=>MO.extBut _ _ c1 (AY.extBut _ _ c1 (O' _ e));have Mw:î Gs jU.objs.size x y:=MO.extBut _ _ eR (AY.extBut _ _ eR (ŀ _ rfl));have K:ZK c s.heap Gs:=λb o c1 c2 c3 c4 e=>up b o c1 (RE b o c1 c2 c3 c4 e);rw[hsz]at A1 Mw;show Ç ⟨_,rfl,?_⟩;show Q (.ref jU.objs.size) _;rw[hsz];show hQ x y hx hy Gs ⟨A1,K _ _ D.TIz D.TITO D.TIi1 D.TIi2 Ù.p,(((Re.ext hW.extBut D.TOi1.symm D.l1TO).ext mT.extBut D.i12 D.l1i2).ext mU.extBut D.TOi1.symm D.l1TO).at (λo e=>up _ o D.i1z e) λo e=>up _ o D.l1z e,(Rf.extBut mU.extBut D.TOi2.symm).at λo e=>up _ o D.i2z e,Ù.t2.at λo e=>K _ o D.l2z D.l2TO D.l2i1 D.l2i2 e⟩ (up _ _ D.TOz uc) Mw K
end zipT_nextH
theorem Ed:jK A E s c k a b Q:=hk (P:=U8 jK) zipT_nextH.kt (A,E,s,c,k,a,b,Q)
section
variable{A:Ñ}{E:Ä->Å->Prop}{s:Å}
theorem oA(hh:A.handled=Ã)(D:ZipApart c.z c.TI c.TO c.i1 c.i2 c.l1 c.l2)(Ù:ZS c .none k s.heap)(sO:î s.heap c.TO a b)
  (hQ:∀x y,c.vs[k]?=À x->c.ws[k]?=À y->∀h',ZS c (õ s.heap.objs.size) (k+1) h'->î h' c.TO x y->î h' s.heap.objs.size x y->ZK c s.heap h'->Q (À (.ref s.heap.objs.size)) {s with heap:=h'})
  (hE:(c.vs[k]?=Ã\/c.ws[k]?=Ã)->∀h' a' b',ZK c s.heap h'->î h' c.TO a' b'->Q Ã {s with heap:=h'}):É mo A (Ĵ (.ref c.z)) Q E s:=by
 have hT:s.TypeIs (.ref c.z) "zip" := ⟨_,Ù.z,N⟩;unfold Ĵ
 show Â (ĳ (ð (name:=acN "__next__") hT F.slot_zip_next
  (ý F.slot_zip_next hT F.entry_zip_next (Ed hh D Ù sO (λx y hx hy h' a1 a2 a3 a4=>Ç (hQ x y hx hy h' a1 a2 a3 a4)) λoj h' e a' b' hk hp he=>?_) (F.args_zip_next_1 _))))
 show aF he λo ho hc=>Â (wpAny_isInstance (T := "StopIteration") (b:=Æ) ⟨o,ho,hc⟩ isSubtype_stop (Ç (hE oj _ a' b' hk hp)))
noncomputable def TR(b:Bool):String:=if b then "list_iterator" else "tuple_iterator"
def P1(b:Bool)(h:Ô)(l:È)(xs:List Ä):Prop:=match b with
 |true=>h.IsList l xs.toArray
 |false=>h.IsTuple l xs.toArray
theorem Kh(ht:P1 b s.heap l xs)(hQ:Q (.ref s.heap.objs.size) {s with heap:=s.heap.push {cls:=.type (TR b),data:=.fields #[.ref l,.int 0 0]}}):É (model prog w) A (pyIter (.ref l)) Q E s:=by
 cases b
 ·show Ă ht hQ
 ·show ı ht hQ
theorem P1.sqs(ht:P1 b h l xs)(g:h'.get? a=À {cls:=.type (TR b),data:=.fields #[.ref l,.int 0 0]})(k:∀c o,h.get? c=À o->h'.get? c=À o):rV b h' a l 0 xs:=by
 cases b
 ·show⟨⟨_,g,N,N⟩,ht.at λo e=>k _ o e⟩
 ·show⟨⟨_,g,N,N⟩,ht.at λo e=>k _ o e⟩
abbrev TX(b:Bool)(h:Ô)(l1:È):Ô:=h.push {cls:=.type (TR b),data:=.fields #[.ref l1,.int 0 0]}
abbrev TY(b:Bool)(h:Ô)(l1 l2:È):Ô:=(TX b h l1).push {cls:=.type "tuple_iterator",data:=.fields #[.ref l2,.int 0 0]}
abbrev TZ(b:Bool)(h:Ô)(l1 l2:È):Ô:=(TY b h l1 l2).push {cls:=.type "tuple",data:=.seq #[.ref h.objs.size,.ref (TX b h l1).objs.size]}
abbrev T1(b:Bool)(h:Ô)(l1 l2:È):Ô:=(TZ b h l1 l2).push {cls:=.type "tuple",data:=.seq #[.none,.none]}
abbrev NH(b:Bool)(h:Ô)(l1 l2:È):Ô:=(T1 b h l1 l2).push {cls:=.type "zip",data:=.fields #[.none,.bool Ê,.bool Ê,.ref (TY b h l1 l2).objs.size,.ref (TZ b h l1 l2).objs.size]}
theorem zJ(b:Bool)(l1 l2:È)(xs:List Ä)(ys:Array Ä):
  Meets (Ē.«zip.__new__» ⟨[.type "zip",.ref l1,.ref l2],[]⟩) (λz R s=>P1 b s.heap l1 xs/\s.heap.IsTuple l2 ys /\
   R (.ok (.ret (.ref (T1 b s.heap l1 l2).objs.size))) {s with heap:=NH b s.heap l1 l2}):=
 .of_wp λprog w A R s h=>by
  obtain ⟨hp,g,d,tk,os⟩:=s;obtain ⟨wI,J5,h⟩:=h;have O1:=sub_zip;have Za:P1 b (Shared.heap ⟨hp,g,d,tk,os⟩) l1 xs:=wI;have Zb:Heap.IsTuple (Shared.heap ⟨hp.push {cls:=.type (TR b),data:=.fields #[.ref l1,.int 0 0]},g,d,tk,os⟩) l2 ys:=Heap.IsTuple.push J5 _
  wp_walk using Kh Za,Ă Zb
  show⟨_,N,h⟩
theorem sB(wI:P1 b s.heap l1 xs)(J5:s.heap.IsTuple l2 ys)
  (h:∀h',IsZip h' (s.heap.objs.size+4) (s.heap.objs.size+2) (s.heap.objs.size+3) .none->î h' (s.heap.objs.size+2) (.ref s.heap.objs.size) (.ref (s.heap.objs.size+1)) ->
   î h' (s.heap.objs.size+3) .none .none->rV b h' s.heap.objs.size l1 0 xs->h'.IsTupleIter (s.heap.objs.size+1) l2 0->h'.objs.size=s.heap.objs.size+5 ->
   (∀c o,s.heap.get? c=À o->h'.get? c=À o)->Q (.ref (s.heap.objs.size+4)) {s with heap:=h'}) :
  É mo A (Á (.type "zip") [.ref l1,.ref l2]) Q E s:=by
 show callType_new F.called_zip (by decide) (F.typeCall_zip_2 _ _) (F.newCall_zip_2 _ _) (λobj=>F.args_object_init_3 obj _ _) F.entry_zip_new
  (zJ b l1 l2 xs ys) ⟨wI,J5,?_⟩
 have z1:(TX b s.heap l1).objs.size=s.heap.objs.size+1:=ϕ ..;have z2:(TY b s.heap l1 l2).objs.size=s.heap.objs.size+2:=by rw[ϕ,z1]
 have z3:(TZ b s.heap l1 l2).objs.size=s.heap.objs.size+3:=by rw[ϕ,z2]
 have z4:(T1 b s.heap l1 l2).objs.size=s.heap.objs.size+4:=by rw[ϕ,z3]
 have z5:(NH b s.heap l1 l2).objs.size=s.heap.objs.size+5:=by rw[ϕ,z4]
 have g5:(NH b s.heap l1 l2).get? (T1 b s.heap l1 l2).objs.size=À _:=ŀ _ N;have g4:(NH b s.heap l1 l2).get? (TZ b s.heap l1 l2).objs.size=À _:=O' _ (ŀ _ N);have g3:(NH b s.heap l1 l2).get? (TY b s.heap l1 l2).objs.size=À _:=O' _ (O' _ (ŀ _ N));have g2:(NH b s.heap l1 l2).get? (TX b s.heap l1).objs.size=À _:=O' _ (O' _ (O' _ (ŀ _ N)));have g1:(NH b s.heap l1 l2).get? s.heap.objs.size=À _:=O' _ (O' _ (O' _ (O' _ (ŀ _ N))));show _/\_;rw[z2,z3,z4]at g5;rw[z1,z2]at g3;rw[z3]at g4;rw[z1]at g2;rw[z4]
 have up:∀c o,s.heap.get? c=À o->(NH b s.heap l1 l2).get? c=À o:=λc o x=>
  O' _ (O' _ (O' _ (O' _ (O' _ x))))
 show⟨⟨_,g5,N⟩,h _ g5 g3 g4 (wI.sqs g1 up) ⟨_,g2,N,N⟩ z5 up⟩
end
theorem o9:∀{ys:List V} {i:Nat} {p:V},(bF xs ys)[i]?=À p->∃x y,xs[i]?=À x/\ys[i]?=À y/\p=.tup [x,y]:=by
 induction xs with
 |nil=>show λh=>no h
 |cons x xs ih=>
  intro ys i p h;cases ys with
  |nil=>show no h
  |cons y ys=>
   cases i with
   |zero=>show⟨x,y,N,N,(sm h).symm⟩
   |succ i=>show ih (ys:=ys) (i:=i) h
theorem o8(xs:List V):∀ys:List V,xs.length<=(bF xs ys).length\/ys.length<=(bF xs ys).length:=by
 induction xs with
 |nil=>show λz=>.inl (ē _)
 |cons x xs ih=>
  intro ys;cases ys with
  |nil=>show .inr (ē _)
  |cons y ys=>show(ih ys).imp ŧ ŧ
section
variable{A:Ñ}{E:Ä->Å->Prop}{J:List È}{H:ag}{s:Å}
theorem bz.split:∀{vs:List Ä},l.length=vs.length->bz gg J h (l++m) (vs++ws)->bz gg J h l vs/\bz gg J h m ws:=by
 induction l with
 |nil=>intro vs e x;rw[϶.mp e.symm]at x ⊢;show⟨.nil,x⟩
 |cons v l ih=>
  intro vs e x;cases vs with
  |nil=>show nomatch e
  |cons a vs=>show x.consE λa' us q hv hr=>?_;rw[<-(List.cons.inj q).1]at hv;rw[<-(List.cons.inj q).2]at hr;show aP (ih (ad0.inj e) hr) λh1 h2=>⟨.cons hv h1,h2⟩
theorem ak.mvOwn{wr:List È}{TO:È}{r:Nat}{x y:Ä}{h h':Ô}(R:ak gg J H h)(hr:J[r]?=À TO)(ho:H[r]?=À .own)(M:∀b o,b∉wr->b≠TO->h.get? b=À o->h'.get? b=À o)(hw:∀b∈wr,eI h b)(hn:∀b∈wr,b∉J)(hB:∀b∈wr,gg.B.get? b=Ã)
  (hp:î h' TO x y):ak gg J H h'/\Mv wr J h h':=by
 have Rk:TO∈J:=Ĥ hr;have M':Mv wr J h h':=λb o h1 h2 e=>M b o h1 (λq=>h2 (q▸Rk)) e;show⟨⟨λb o e=>M b o (λhb=>no ((hB b hb).symm.trans e)) (λq=>no ((R.fresh _ Rk).symm.trans (q▸e))) (R.base b o e),R.fresh,R.len,R.nodup,λi a m h1 h2=>?_,R.tabs⟩,M'⟩;by_cases hi:i=r
 ·rw[hi]at h1 h2
  apply fQ (sm (hr.symm.trans h1));apply fQ (sm (ho.symm.trans h2));show .own hp
 ·have ha:a≠TO:=λq=>hi (w9 R.nodup h1 (q▸hr))
  show(R.objs i a m h1 h2).stepT (λz z e=>e) (M'.tup hw) λo e=>M _ o (λhb=>hn _ hb (Ĥ h1)) ha e
theorem ZS.ns(Ù:ZS c f k h):∀b∈[c.z,c.i1,c.i2],eI h b:=λb hb=>(ċ.mp hb).elim (λe=>e▸⟨_,Ù.z,iH N N (by decide)⟩) (qQ Ù.i1.soft (fM Ù.i2) b)
def ZM(c:ZP)(k:Nat)(a:Ä)(h:Ô):Prop:=∃T,a=.ref T/\ZS c (õ T) (k+1) h
theorem Lz(x:h.IsTuple t xs):vz h t:=eK x λo ho z hd=>hd.elim λn hd=>⟨o,_,n,ho,hd⟩
theorem ZK.mv(K:ZK c h h'):∀b o,b∉[c.z,c.i1,c.i2]->b≠c.TO->h.get? b=À o->h'.get? b=À o:=λb o hb hT e=>
 K b o (λq=>hb (ċ.mpr (.inl q))) hT (λq=>hb (J' _ (ċ.mpr (.inl q)))) (λq=>hb (J' _ (J' _ (W'.mpr q)))) e
structure ZI(c:ZP)(r:Nat)(xs ys:List V)(J:List È)(H:ag)(h:Ô):Prop where
 hr:J[r]?=À c.TO
 ho:H[r]?=À .own
 p:∃x y,î h c.TO x y
 x:bz gg J h xs c.vs
 y:bz gg J h ys c.ws
theorem rS.zip(hh:A.handled=Ã)(c:ZP)(r:Nat)(xs ys:List V)(O3:xs.length=c.vs.length)(hw0:ys.length=c.ws.length)(D:ZipApart c.z c.TI c.TO c.i1 c.i2 c.l1 c.l2):
  rS A c.z (bF xs ys) [(r,.own)] Æ (.ref r::(xs++ys)) (.ref c.TO::(c.vs++c.ws)) [c.z,c.i1,c.i2] [c.TI,c.l1,c.l2] (ZS c .none) (ZM c):=by
 have Ja:∀{J:List È} {H:ag} {h:Ô},ak gg J H h->bz gg J h (.ref r::(xs++ys)) (.ref c.TO::(c.vs++c.ws))->cD H [(r,.own)]->ZI c r xs ys J H h:=λ{J H h} R hv hw=>by
  show hv.consE λa us q hv RT=>?_
  have hr:J[r]?=À c.TO:=by show aF (vR N hv) λd q1 q2=>?_;have:=(List.cons.inj q).1.trans q1;show Value.ref.inj this▸q2
  show aP (bz.split O3 ((List.cons.inj q).2▸RT)) λhx hy=>?_;have h1:=tv hw;show⟨hr,h1,?_,hx,hy⟩;have:=R.objs _ _ _ hr h1;cases this with
  |own ho=>show⟨_,_,ho⟩
 show⟨λi h h' st hk=>⟨hk _ (.inl G') _ st.z,hk _ (.inr G') _ st.p,st.i1.at (λo e=>hk _ (.inl (J' _ G')) o e) λo e=>hk _ (.inr (J' _ G')) o e,st.i2.at λo e=>hk _ (.inl (J' _ (J' _ G'))) o e,
   st.t2.at λo e=>hk _ (.inr (J' _ (J' _ G'))) o e⟩,
  λi h st=>ZS.ns st,λi a h m=>m.elim λT m=>ZS.ns m.2,λi h st b hb=>(ċ.mp hb).elim (λe=>e▸⟨_,_,_,st.p,N⟩) (qQ st.i1.seq (Lz st.t2) b),?_,?_,?_,λi s Q E st hQ=>Ţ st.z hQ⟩
 ·intro i J H s Q E x st R hv hw hn hB hx hQ
  have I:=Ja R hv hw;show fe (o9 hx) λp q hp hq q5=>aF (I.x.get hp) λap P5 hrp=>aF (I.y.get hq) λaq Xy V9=>mM I.p λa b sO=>oA hh D st sO (λx' y' Gp RY h' a1 a2 a5 hk=>aP (R.mvOwn I.hr I.ho hk.mv (ZS.ns st) (λb hb=>hn b (.inl hb)) hB a2) λR' M=>hQ _ h' s.toks M R' (ba (C:=λx=>VR gg J h' x _) q5 (.tup (l:=[p,q]) (vs:=[x',y']) ⟨_,a5,N,_,N⟩ (show 2<=ax+1 by decide) (.cons (sm (P5.symm.trans Gp)▸M.vr (ZS.ns st) hrp) (.one (sm (Xy.symm.trans RY)▸M.vr (ZS.ns st) V9))) (aW R (aG _)))) ⟨_,N,a1⟩) λoj=>oj.elim (λq=>no (q.symm.trans P5)) λq=>no (q.symm.trans Xy)
 ·intro t ht i J H a s Q E m R hn hB hQ
  show aF m λT q2 Ù=>?_;rw[q2];show ht.elim (λq=>yO q λes k p q=>?_) λq=>absurd q.1 afi;rw[q];show wpAny_letOwnedTupleGo_zip Ù.z λh' sT nR=>?_;have M:∀b o,b∉[c.z,c.i1,c.i2]->s.heap.get? b=À o->h'.get? b=À o:=λb o hb e=>nR.extBut b o (λq=>hb (ċ.mpr (.inl q))) e;show hQ h' (Mv.all M) (R.mv M (ZS.ns Ù) (λb hb=>hn b (.inl hb)) hB) ⟨sT,nR.extBut _ _ D.TIz Ù.p,Ù.i1.ext nR.extBut D.i1z D.l1z,Ù.i2.extBut nR.extBut D.i2z,Ù.t2.extBut nR.extBut D.l2z⟩
 ·intro J H s Q E st R hv hw hn hB hQ
  have I:=Ja R hv hw;show mM I.p λa b sO=>?_;have oj:=o8 xs ys;rw[O3,hw0]at oj;show oA hh D st sO (λx y hx hy=>oj.elim (λq=>no ((ϳ q).symm.trans hx)) λq=>no ((ϳ q).symm.trans hy)) λj h' a' b' hk hp=>?_;show aP (R.mvOwn I.hr I.ho hk.mv (ZS.ns st) (λb hb=>hn b (.inl hb)) hB hp) λR' M=>hQ h' s.toks M R'
end
open AutoSeq1 (wpAny_loadPart')
theorem Hi(h:∀b,Q b s):É (model prog w) A (pure a) Q E s:=Ç (h a)
theorem wY(l:È)(cX:Array Ä)(n:Nat)(UO:Option È)(sl:Array (Option Ä)):
  Meets (Ē.«enumerate.__new__» ⟨[.type "enumerate",.ref l],[]⟩) (λz R s=>s.heap.get? l=À {cls:=.type "tuple",dict:=UO,data:=.seq cX n,slots:=sl} /\
   R (.ok (.ret (.ref (s.heap.push {cls:=.type "tuple_iterator",data:=.fields #[.ref l,.int 0 0]}).objs.size)))
    {s with heap:=(s.heap.push {cls:=.type "tuple_iterator",data:=.fields #[.ref l,.int 0 0]}).push {cls:=.type "enumerate",data:=.fields #[.none,.bool Ê,.ref s.heap.objs.size,õ 0,.none,.none]}}):=
 .of_wp λprog w A R s h=>by
  obtain ⟨hp,g,d,tk,os⟩:=s;show aP h λhl h=>?_;have O1:=sub_enumerate;have hL:Heap.IsTuple (Shared.heap ⟨hp,g,d,tk,os⟩) l cX:=⟨_,hl,rfl,n,rfl⟩
  wp_walk using Ū hl
  show wpAny_stack_any λst=>Hi λbb=>?_;cases bb
  ·wp_walk using Ū hl,Ă hL
   show⟨_,N,h⟩
  ·wp_walk using Ū hl,Ă hL
   show⟨_,N,h⟩
section
variable{A:Ñ}{E:Ä->Å->Prop}{s:Å}
theorem yF(hL:s.heap.IsTuple l cX)
  (h:∀h',IsEnum h' (s.heap.objs.size+1) s.heap.objs.size 0 .none->h'.IsTupleIter s.heap.objs.size l 0->h'.objs.size=s.heap.objs.size+2 ->
   (∀b o,s.heap.get? b=À o->h'.get? b=À o)->Q (.ref (s.heap.objs.size+1)) {s with heap:=h'}) :
  É mo A (Á (.type "enumerate") [.ref l]) Q E s:=by
 obtain ⟨⟨c,UO,dt,sl⟩,hl,hc,n,hd⟩:=hL;replace hc:c=.type "tuple" := hc;replace hd:dt=.seq cX n:=hd;subst hc hd
 show callType_new F.called_enumerate (by decide) (F.typeCall_enumerate_1 _) (F.newCall_enumerate_1 _) (λobj=>F.args_object_init_2 obj _) F.entry_enumerate_new
  (wY l cX n UO sl) ⟨hl,?_⟩
 have hz:(s.heap.push {cls:=.type "tuple_iterator",data:=.fields #[.ref l,.int 0 0]}).objs.size=s.heap.objs.size+1:=ϕ ..;show _/\_;rw[hz]
 have he:IsEnum ((s.heap.push {cls:=.type "tuple_iterator",data:=.fields #[.ref l,.int 0 0]}).push
   {cls:=.type "enumerate",data:=.fields #[.none,.bool Ê,.ref s.heap.objs.size,õ 0,.none,.none]}) (s.heap.objs.size+1) s.heap.objs.size 0 .none:=by
  have:=ŀ (s.heap.push {cls:=.type "tuple_iterator",data:=.fields #[.ref l,.int 0 0]})
   (o:={cls:=.type "enumerate",data:=.fields #[.none,.bool Ê,.ref s.heap.objs.size,õ 0,.none,.none]}) N
  rw[hz]at this;show this
 show⟨⟨_,he,N⟩,h _ he ⟨_,O' _ (ŀ _ N),N,N⟩ (by rw[ϕ,hz]) λb o x=>O' _ (O' _ x)⟩
end
section
variable{A:Ñ}{E:Ä->Å->Prop}{J:List È}{H:ag}{s:Å}
theorem HQ(hh:A.handled=Ã)(S:SE J s.heap aR Ì.heap)(R:ak gg aR H Ì.heap)(hx:VR gg aR Ì.heap (.tup xs) a)(hS:bP s Ì):
  É mo A (Á (.type "enumerate") [a]) (B6 A J s (dR 0 xs) [] Æ H) E Ì:=by
 cases hx with
 |@tup _ c vs ht hz hv hn=>
  have cG:c<Ì.heap.objs.size:=by show aF ht λz e z=>?_;show Ő e
  show yF ht λh' he sP hsz hk=>?_;have fr:∀b∈[Ì.heap.objs.size+1,Ì.heap.objs.size],Ì.heap.get? b=Ã:=qQ (g7 (ϓ _)) (aG _);show⟨aR,S.trans (SE.keeps _ hk),R.keeps hk,hS,λE Q h=>?_⟩;show wpAny_pyIter_enum he (h _ xs vs _ _ _ _ h' (rS.enum hh (Ì.heap.objs.size+1) Ì.heap.objs.size c xs vs hv.length (ō (ű _)) (ō (acf cG)) (Ł cG)) ⟨⟨_,he⟩,sP,ht.at λo e=>hk _ o e⟩ (λz z e=>e) (hv.step R (SE.keeps _ hk)) (λb hb=>S.back (fr b hb)) (Sq (λb hb=>aW R (fr b hb)) (m8 hn)) λb hb=>aV R (fr b hb))
theorem Lo(hh:A.handled=Ã)(S:SE J s.heap aR Ì.heap)(R:ak gg aR H Ì.heap)(hx:VR gg aR Ì.heap (.tup xs) a)(hy:VR gg aR Ì.heap (.tup ys) b)(hS:bP s Ì):
  É mo A (Á (.type "zip") [a,b]) (B6 A J s (bF xs ys) [(H.length,.own)] Æ (H++[.own])) E Ì:=by
 cases hx with
 |@tup _ l1 vs ht hz hv hn=>
  cases hy with
  |@tup _ l2 ws hu sT hw hm=>
   have Gg:l1<Ì.heap.objs.size:=by show aF ht λz e z=>?_;show Ő e
   have Gh:l2<Ì.heap.objs.size:=by show aF hu λz e z=>?_;show Ő e
   show sB (b:=Ê) ht hu λh' vt Vd sO VI VJ hsz hk=>?_;have fr:∀k,Ì.heap.get? (Ì.heap.objs.size+k)=Ã:=λk=>g7 (Ō _ _);show aP (R.moreOwn hk (fr 3) (aV R (fr 3)) sO) λR' S'=>?_;have D:=zipApart_new Gg Gh;have qH:∀k,k≠3->Ì.heap.objs.size+k∉aR++[Ì.heap.objs.size+3]:=λk Ge pA=>(ğ.mp pA).elim (aW R (fr k)) λq=>Ge (adl (W'.mp q));have RO:∀c,c<Ì.heap.objs.size->c∉aR->c∉aR++[Ì.heap.objs.size+3]:=λc hc Rr pA=>(ğ.mp pA).elim Rr λq=>absurd hc (W'.mp q▸ľ.mpr (Ō _ _));have w3:∀b∈[Ì.heap.objs.size+4,Ì.heap.objs.size,Ì.heap.objs.size+1],Ì.heap.get? b=Ã:=λb hb=>(ċ.mp hb).elim (λe=>e▸fr 4) (qQ (P:=λb=>Ì.heap.get? b=Ã) (aG _) (fr 1) b);show⟨aR++[Ì.heap.objs.size+3],S.trans S',R',hS,λE Q h=>?_⟩;have zt:(aR++[Ì.heap.objs.size+3])[H.length]?=À (Ì.heap.objs.size+3):=by rw[<-R.len];simp
   show Ţ vt (h _ _ _ _ _ _ _ h' (rS.zip hh ⟨Ì.heap.objs.size+4,Ì.heap.objs.size+2,Ì.heap.objs.size+3,Ì.heap.objs.size,Ì.heap.objs.size+1,l1,l2,vs,ws,Ê⟩ H.length xs ys hv.length hw.length D)
    ⟨vt,Vd,VI,VJ,hu.at λo e=>hk _ o e⟩ (λz z e=>e) (.cons (.ref zt) ((hv.step R S').append (hw.step R S'))) (λb hb=>S.back (w3 b hb))
    (Sq (λb hb=>(ċ.mp hb).elim (λe=>e▸qH 4 (by decide)) (qQ (P:=λb=>b∉aR++[Ì.heap.objs.size+3]) (qH 0 (by decide)) (qH 1 (by decide)) b)) λb hb=>(ċ.mp hb).elim (λe=>e▸qH 2 (by decide)) (qQ (P:=λb=>b∉aR++[Ì.heap.objs.size+3]) (RO _ Gg hn) (RO _ Gh hm) b)) λb hb=>aV R (w3 b hb))
end
structure ZB(c:ZP)(T k:Nat)(h:Ô):Prop where
 z:∃u,h.get? c.z=À {cls:=.type "zip",data:=.fields #[õ T,.bool u,.bool Ê,.ref c.TI,.ref c.TO]}
 t:∃x y,î h T x y
 p:î h c.TI (.ref c.i1) (.ref c.i2)
 i1:rV c.b h c.i1 c.l1 k c.vs
 i2:h.IsTupleIter c.i2 c.l2 k
 t2:h.IsTuple c.l2 c.ws.toArray
def S9(c:ZP)(h h':Ô):Prop:=∀b o,b≠c.z->b≠c.i1->b≠c.i2->h.get? b=À o->h'.get? b=À o
section
variable{A:Ñ}{E:Ä->Å->Prop}{s:Å}{c:ZP}{T k:Nat}{Q:Ä->Å->Prop}
theorem xZ{Q:Option Obj->Å->Prop}(h:Q (s.heap.get? a) s):É mo A (loadIfAlive a) Q E s:=λz z z=>h
theorem Eb(hh:A.handled=Ã)(D:ZipApart c.z c.TI c.TO c.i1 c.i2 c.l1 c.l2)(hT:T≠c.z/\T≠c.i1/\T≠c.i2)(Ù:ZB c T k s.heap)
  (hQ:∀x y,c.vs[k]?=À x->c.ws[k]?=À y->∀h',ZB c T (k+1) h'->î h' s.heap.objs.size x y->S9 c s.heap h'->Q (.ref s.heap.objs.size) {s with heap:=h'})
  (hE:(c.vs[k]?=Ã\/c.ws[k]?=Ã)->∀h' e,S9 c s.heap h'->(∃o,h'.get? e=À o/\o.cls=.type "StopIteration")->E (.ref e) {s with heap:=h'}) :
  É mo A (Ē.«zip.__next__» ⟨[.ref c.z],[]⟩) (λip s'=>∃v,ip=.done (.ret v)/\Q v s') E s:=by
 show Ù.z.elim λu hz=>mM Ù.t λtx ty ht=>?_;show É _ _ (field (.ref c.z) 2>>=_) _ _ _;show Â (Þ hz N (x:=.bool Ê) N ?_);show É _ _ (field (.ref c.z) 3>>=_) _ _ _;show Â (Þ hz N (x:=.ref c.TI) N (Â (ç Ù.p N ?_)));show É _ _ (Builtin.SmallTypes.ownedTupleIsFree (.ref c.z)>>=_) _ _ _;show Â (Ï (Q:=λb s'=>b=Ê/\∃h1,s'={s with heap:=h1}/\h1.get? c.z=À {cls:=.type "zip",data:=.fields #[õ T,.bool Æ,.bool Ê,.ref c.TI,.ref c.TO]}/\Heap.SameBut c.z s.heap h1) ?_ (λb s' h=>aP h λq h=>eK h λh1 q1 vt r0=>?_) λj j x=>x)
 ·unfold Builtin.SmallTypes.ownedTupleIsFree
  show Â (Þ hz N (x:=õ T) N ?_);show É _ _ (loadIfAlive T>>=_) _ _ _;show Â (xZ ?_);rw[show s.heap.get? T=_ from ht];show É _ _ (field (.ref c.z) 1>>=_) _ _ _;show Â (Þ hz N (x:=.bool u) N ?_);cases u with
  |true=>show Ç ⟨N,s.heap,N,hz,⟨N,λj j=>rfl⟩⟩
  |false=>show É _ _ (setField (.ref c.z) 1 (.bool Æ)>>=_) _ _ _;show Â (ā hz (by simp) λh1 vt r0=>Ç ⟨rfl,h1,rfl,vt,r0⟩)
 rw[q,q1]
 simp only[<-Array.forIn_toList,adt,adF]
 show Â (Â (Â (ß ?_)));show É _ _ (Builtin.SmallTypes.nextOf (.ref c.i1)>>=_) _ _ _;have Z1:=Ù.i1.ext r0.extBut D.i1z D.l1z;cases hx:c.vs[k]? with
 |none=>show Â (rV.done hh Z1 hx λh2 e Et he=>hE (.inl hx) h2 e (λb o c1 c2 j x=>Et _ _ c2 (r0.extBut _ _ c1 x)) he)
 |some x=>
  show Â (Z1.item D.l1i1 hx λh2 z2 Et=>Ç (Ç (Â (Â (ß ?_)))));show É _ _ (Builtin.SmallTypes.nextOf (.ref c.i2)>>=_) _ _ _;have Z2:=(Ù.i2.extBut r0.extBut D.i2z).extBut Et.extBut D.i12.symm;have T2:=(Ù.t2.extBut r0.extBut D.l2z).extBut Et.extBut D.l2i1;cases hy:c.ws[k]? with
  |none=>show Â (ej hh Z2 T2 (ύ.trans hy) λh3 e yk he=>?_);show hE (.inr hy) h3 e (λb o c1 c2 c3 x=>yk _ _ c3 (Et.extBut _ _ c2 (r0.extBut _ _ c1 x))) he
  |some y=>
   show Â (dE Z2 T2 (ύ.trans hy) λh3 z3 yk=>Ç ?_);show Ç (Ç (Â (wpAny_newTuple ?_ (show 2<=ê by decide))));have up:∀b o,b≠c.z->b≠c.i1->b≠c.i2->s.heap.get? b=À o->h3.get? b=À o:=λb o c1 c2 c3 x=>yk.extBut _ _ c3 (Et.extBut _ _ c2 (r0.extBut _ _ c1 x));have hsz:h3.objs.size=s.heap.objs.size:=by rw[yk.1,Et.1,r0.1]
   show É _ _ (ret (.ref h3.objs.size)) _ _ _;show Ç ⟨_,N,?_⟩;rw[hsz];have pu:∀b o,h3.get? b=À o->(h3.push {cls:=.type "tuple",data:=.seq [x,y].toArray}).get? b=À o:=λb o e=>O' _ e;have K:S9 c s.heap (h3.push {cls:=.type "tuple",data:=.seq [x,y].toArray}):=λb o c1 c2 c3 e=>pu b o (up b o c1 c2 c3 e);show hQ x y hx hy _ ⟨⟨Æ,pu _ _ (yk.extBut _ _ D.i2z.symm (Et.extBut _ _ D.i1z.symm vt))⟩,⟨tx,ty,K _ _ hT.1 hT.2.1 hT.2.2 ht⟩,K _ _ D.TIz D.TIi1 D.TIi2 Ù.p,(z2.ext yk.extBut D.i12 D.l1i2).at (λo e=>pu _ o e) λo e=>pu _ o e,z3.at λo e=>pu _ o e,(T2.extBut yk.extBut D.l2i2).at λo e=>pu _ o e⟩ ?_ K;rw[<-hsz];show ŀ _ N
theorem ZB.ns(Ù:ZB c T k h):∀b∈[c.z,c.i1,c.i2],eI h b:=λb hb=>(ċ.mp hb).elim (λe=>e▸Ù.z.elim λy hz=>⟨_,hz,iH N N (by decide)⟩) (qQ Ù.i1.soft (fM Ù.i2) b)
def ZW(c:ZP)(k:Nat)(h:Ô):Prop:=(k=0/\ZS c .none k h)\/∃T,ZB c T k h/\T≠c.z/\T≠c.i1/\T≠c.i2
theorem ZW.ns(Ù:ZW c k h):∀b∈[c.z,c.i1,c.i2],eI h b:=Ù.elim (λz=>ZS.ns z.2) λz=>z.elim λy z=>ZB.ns z.1
theorem ZW.zT(Ù:ZW c k s.heap):s.TypeIs (.ref c.z) "zip" := Ù.elim (λz=>⟨_,z.2.z,N⟩) λz=>z.elim λy z=>z.1.z.elim λy hz=>⟨_,hz,N⟩
theorem ZW.next{Q:Option Ä->Å->Prop}(hh:A.handled=Ã)(D:ZipApart c.z c.TI c.TO c.i1 c.i2 c.l1 c.l2)(Ù:ZW c k s.heap)(sO:î s.heap c.TO a b)
  (hQ:∀x y,c.vs[k]?=À x->c.ws[k]?=À y->∀h' a' b',ZW c (k+1) h'->î h' c.TO a' b'->î h' s.heap.objs.size x y->ZK c s.heap h'->Q (À (.ref s.heap.objs.size)) {s with heap:=h'})
  (hE:(c.vs[k]?=Ã\/c.ws[k]?=Ã)->∀h' a' b',ZK c s.heap h'->î h' c.TO a' b'->Q Ã {s with heap:=h'}):É mo A (Ĵ (.ref c.z)) Q E s:=by
 show Ù.elim (λz=>?_) λz=>vo z λT z t1 t2 t3=>?_
 ·have l1:c.z<s.heap.objs.size:=Ő z.2.z
  have l2:c.i1<s.heap.objs.size:=z.2.i1.soft.elim λj h=>Ő h.1;have l3:c.i2<s.heap.objs.size:=(fM z.2.i2).elim λj h=>Ő h.1;show oA hh D z.2 sO (λx y hx hy h' a1 a2 a3 a4=>hQ x y hx hy h' _ _ (.inr ⟨_,⟨⟨Ê,a1.z⟩,⟨x,y,a3⟩,a1.p,a1.i1,a1.i2,a1.t2⟩,ō l1,ō l2,ō l3⟩) a2 a3 a4) hE
 ·have hT:s.TypeIs (.ref c.z) "zip" := Ù.zT
  have to:∀{h'},S9 c s.heap h'->ZK c s.heap h'/\î h' c.TO a b:=λK=>⟨λb o c1 j c3 c4 e=>K b o c1 c3 c4 e,K _ _ D.TOz D.TOi1 D.TOi2 sO⟩;unfold Ĵ
  show Â (ĳ (ð (name:=acN "__next__") hT F.slot_zip_next
   (ý F.slot_zip_next hT F.entry_zip_next (Eb hh D ⟨t1,t2,t3⟩ z (λx y hx hy h' a1 a2 a3=>Ç (hQ x y hx hy h' _ _ (.inr ⟨T,a1,t1,t2,t3⟩) (to a3).2 a2 (to a3).1)) λoj h' e hk he=>?_) (F.args_zip_next_1 _))))
  show aF he λo ho hc=>Â (wpAny_isInstance (T := "StopIteration") (b:=Æ) ⟨o,ho,hc⟩ isSubtype_stop (Ç (hE oj _ a b (to hk).1 (to hk).2)))
theorem Ap:ă (.type "zip") "__len__" = pure Ã:=by rw[ł,Ĝ];kernel_rfl
theorem ye:ă (.type "zip") "__length_hint__" = pure Ã:=by rw[ł,Ĝ];kernel_rfl
structure Ta(c:ZP)(S r:Nat)(xs ys:List V)(J:List È)(H:ag):Prop where
 D:ZipApart c.z c.TI c.TO c.i1 c.i2 c.l1 c.l2
 hr:J[r]?=À c.TO
 ho:H[r]?=À .own
 n:∀b∈[c.z,c.i1,c.i2],b∉J/\gg.B.get? b=Ã
 s:S∉J/\gg.B.get? S=Ã
 a:S≠c.z/\S≠c.TO/\S≠c.i1/\S≠c.i2/\S≠c.TI/\S≠c.l1/\S≠c.l2
 z:(bF xs ys).length<=ax
structure Ut(c:ZP)(S:Nat)(l:List V)(J:List È)(H:ag)(h0:Ô)(acc:Array Ä)(h:Ô):Prop where
 R:ak gg J H h
 l:bz gg J h l acc.toList
 s:∃n,h.get? S=À {cls:=.type "list",data:=.seq acc n}
 k:∀b o,b≠c.z->b≠c.TO->b≠c.i1->b≠c.i2->b≠S->h0.get? b=À o->h.get? b=À o
structure W0(c:ZP)(S:Nat)(xs ys:List V)(J:List È)(H:ag)(h0:Ô)(k:Nat)(acc:Array Ä)(h:Ô):Prop where
 w:ZW c k h
 x:bz gg J h xs c.vs
 y:bz gg J h ys c.ws
 e:Ut c S ((bF xs ys).take k) J H h0 acc h
theorem It(C:Ta c S r xs ys J H)(R:ak gg J H h):∃a b,î h c.TO a b:=by
 have:=R.objs _ _ _ C.hr C.ho;cases this with
 |own ho=>show⟨_,_,ho⟩
theorem NJ(C:Ta c S r xs ys J H)(I:W0 c S xs ys J H h0 k acc h)(K:ZK c h h')(hp:î h' c.TO a b):Ut c S ((bF xs ys).take k) J H h0 acc h'/\bz gg J h' xs c.vs/\bz gg J h' ys c.ws:=by show aP (I.e.R.mvOwn C.hr C.ho K.mv I.w.ns (λb hb=>(C.n b hb).1) (λb hb=>(C.n b hb).2) hp) λR' M=>⟨⟨R',M.vrs I.w.ns I.e.l,I.e.s.imp λz q=>K _ _ C.a.1 C.a.2.1 C.a.2.2.1 C.a.2.2.2.1 q,λb o c1 c2 c3 c4 c5 e=>K b o c1 c2 c3 c4 (I.e.k b o c1 c2 c3 c4 c5 e)⟩,M.vrs I.w.ns I.x,M.vrs I.w.ns I.y⟩
theorem ZW.at(Ù:ZW c k h)(hk:∀b o,b≠S->h.get? b=À o->h'.get? b=À o)(a:S≠c.z/\S≠c.TO/\S≠c.i1/\S≠c.i2/\S≠c.TI/\S≠c.l1/\S≠c.l2)(hS:h.get? S=À {cls:=.type "list",data:=.seq acc n}):ZW c k h':=by show YT a λa1 a2 a3 a4 a5 a6 a7=>Ù.imp (λz=>⟨z.1,hk _ _ a1.symm z.2.z,hk _ _ a5.symm z.2.p,z.2.i1.at (λo e=>hk _ o a3.symm e) λo e=>hk _ o a6.symm e,z.2.i2.at λo e=>hk _ o a4.symm e,z.2.t2.at λo e=>hk _ o a7.symm e⟩) λz=>vo z λT z t1 t2 t3=>⟨T,⟨z.z.imp λj q=>hk _ _ a1.symm q,mM z.t λx y q=>⟨x,y,hk _ _ (λe=>?_) q⟩,hk _ _ a5.symm z.p,z.i1.at (λo e=>hk _ o a3.symm e) λo e=>hk _ o a6.symm e,z.i2.at λo e=>hk _ o a4.symm e,z.t2.at λo e=>hk _ o a7.symm e⟩,t1,t2,t3⟩;have:Value.type "tuple" = .type "list" := congrArg Obj.cls (sm (q.symm.trans (e▸hS)));show absurd this (by decide)
theorem Ec{R:Result->Å->Prop}(hh:A.handled=Ã)(C:Ta c S r xs ys J H)(hR:∀h' acc,Ut c S (bF xs ys) J H h0 acc h'->R (.ok (.ret .none)) {s with heap:=h'}):
  ∀m k h acc,k+m=(bF xs ys).length->W0 c S xs ys J H h0 k acc h->Ğ mo A (.builtin "list.extend.loop" ⟨[.ref S,.ref c.z,.none],[]⟩) R {s with heap:=h}:=by
 intro m
 induction m with
 |zero=>
  intro k h acc hk I;have hk:k=(bF xs ys).length:=hk;show é F.entry_extend_loop ?_;rw[Around.under_plainId F.plain_extend_loop _];show É _ A.in1 (Ĵ (.ref c.z)>>=_) _ _ _;show mM (It C I.e.R) λa b sO=>Â (ZW.next (s:={s with heap:=h}) (A:=A.in1) hh C.D I.w sO (λx y hx hy=>?_) λj h' a' b' K hp=>?_)
  ·have oj:=o8 xs ys
   rw[I.x.length,I.y.length,<-hk]at oj;show oj.elim (λq=>no ((ϳ q).symm.trans hx)) λq=>no ((ϳ q).symm.trans hy)
  ·have E:=(NJ C I K hp).1
   rw[hk,ŗ]at E;show Ç (hR h' acc E)
 |succ m ih=>
  intro k h acc hk I;have cG:k<(bF xs ys).length:=hk▸abV (Ŵ m);show é F.entry_extend_loop ?_;rw[Around.under_plainId F.plain_extend_loop _];show É _ A.in1 (Ĵ (.ref c.z)>>=_) _ _ _;have hg:(bF xs ys)[k]?=À (bF xs ys)[k]:=N' cG;show fe (o9 hg) λu v hu hv q=>aF (I.x.get hu) λau XA hru=>aF (I.y.get hv) λav XG hrv=>mM (It C I.e.R) λa b sO=>Â (ZW.next (s:={s with heap:=h}) (A:=A.in1) hh C.D I.w sO (λx y hx hy h' a' b' Z' hp hn K=>io (NJ C I K hp) λE' X' Y'=>E'.s.elim λn es=>?_) λoj=>oj.elim (λq=>no (q.symm.trans XA)) λq=>no (q.symm.trans XG));have ch:acc.size=k:=by rw[<-ώ,<-I.e.l.length,ŷ];show ų (Ģ cG)
  show É _ A.in1 (Ŏ S (·.push (.ref h.objs.size))>>=_) _ _ _;have hz:=C.z;show Â (ć es N (Ç ⟨ĉ F.plain_extend_loop _,ih (k+1) _ (acc.push (.ref h.objs.size)) (by rw[<-hk];show Ϭ k 1 m) ?_⟩) (by rw[ch];show z' (Ģ cG) hz) (by show (acc.push _).size<=_;rw[afq,ch];show ŧ (z' (Ģ cG) hz)));have ot:∀b o,b≠S->h'.get? b=À o->(h'.update S (Obj.mapSeq (·.push (.ref h.objs.size)))).get? b=À o:=λb o hb e=>(Ϩ _ _ (Ne.symm hb)).trans e;have sf:∀b o,h'.get? b=À o->j3 o->b∉J->(h'.update S (Obj.mapSeq (·.push (.ref h.objs.size)))).get? b=À o/\b∉J:=λb o e hd hb=>⟨ot b o (λq=>by rw[q,es]at e;show gS N (sm e▸hd)) e,hb⟩;have qH:h.objs.size∉J:=aW I.e.R (aG h)
  have J7:VR gg J h' (bF xs ys)[k] (.ref h.objs.size):=by rw[q];have M:Mv [c.z,c.i1,c.i2] J h h':=λb o h1 h2 e=>K.mv b o h1 (λz=>h2 (z▸Ĥ C.hr)) e;show .tup (l:=[u,v]) (vs:=[x,y]) ⟨_,hn,N,_,N⟩ (show 2<=ax+1 by decide) (.cons (sm (XA.symm.trans hx)▸M.vr I.w.ns hru) (.one (sm (XG.symm.trans hy)▸M.vr I.w.ns hrv))) qH
  show⟨Z'.at ot C.a es,X'.stepT (λj j e=>e) sf,Y'.stepT (λj j e=>e) sf,E'.R.other C.s.1 C.s.2 ot λo e=>by rw[es]at e;show sm e▸gS N,?_,⟨_,ϣ _ es N⟩,λb o c1 c2 c3 c4 c5 e=>ot b o c5 (E'.k b o c1 c2 c3 c4 c5 e)⟩;rw[adD,hg,ac5];show((E'.l.append (.one J7)).stepT (λj j e=>e) sf)
theorem Iq(hh:A.handled=Ã)(R:ak gg J H s.heap)(hx:J[i]?=À l1)(hl:lst H i=À xs)(hy:VR gg J s.heap (.tup ys) b)(hz:(bF xs ys).length<=ax):
  É mo A (Á (.type "zip") [.ref l1,b]) (λz s'=>É mo A (Á (.type "list") [z]) (bD gg J s (.ref (H.length+1)) (H++[.own]++[.lst (bF xs ys)])) E s') E s:=by
 show eK (R.list hx hl) λvs wI TD vt=>?_;cases hy with
 |@tup _ l2 ws hu sT hw hm=>
  have Gg:l1<s.heap.objs.size:=by show aF wI.isList λy e y=>?_;show Ő e
  have Gh:l2<s.heap.objs.size:=by show aF hu λy e y=>?_;show Ő e
  show sB (b:=Æ) wI.isList hu λh' vt Vd sO VI VJ hsz hk=>?_;have fr:∀k,s.heap.get? (s.heap.objs.size+k)=Ã:=λk=>g7 (Ō _ _);show aP (R.moreOwn hk (fr 3) (aV R (fr 3)) sO) λR' S'=>?_;have D:=zipApart_new Gg Gh;have nk:∀j k:Nat,j≠k->s.heap.objs.size+j≠s.heap.objs.size+k:=λj k h e=>h (adl e);have J0:∀k,k≠3->s.heap.objs.size+k∉J++[s.heap.objs.size+3]:=λk Ge pA=>(ğ.mp pA).elim (aW R (fr k)) λq=>Ge (adl (W'.mp q));have hb:∀k,gg.B.get? (s.heap.objs.size+k)=Ã:=λk=>aV R (fr k);have Zh:h'.get? (s.heap.objs.size+5)=Ã:=hsz▸aG h'
  have C:Ta ⟨s.heap.objs.size+4,s.heap.objs.size+2,s.heap.objs.size+3,s.heap.objs.size,s.heap.objs.size+1,l1,l2,vs,ws,Æ⟩ (s.heap.objs.size+5) H.length xs ys (J++[s.heap.objs.size+3]) (H++[.own]):=
   ⟨D,by rw[<-R.len];simp,by simp,λb hm=>(ċ.mp hm).elim (λe=>e▸⟨J0 4 (by decide),hb 4⟩) (qQ (P:=λb=>b∉J++[s.heap.objs.size+3]/\gg.B.get? b=Ã) ⟨J0 0 (by decide),hb 0⟩ ⟨J0 1 (by decide),hb 1⟩ b),⟨J0 5 (by decide),hb 5⟩,
    ⟨nk 5 4 (by decide),nk 5 3 (by decide),nk 5 0 (by decide),nk 5 1 (by decide),nk 5 2 (by decide),ō (afj 5 Gg),ō (afj 5 Gh)⟩,hz⟩
  show callType_codes (Q₁:=λobj Ì=>obj=.ref (s.heap.objs.size+5)/\Ì={s with heap:=h'.push {cls:=.type "list",data:=.seq #[]}}) F.called_list (F.typeCall_list_1 _) F.entry_list_init
   (code_list_new _ ⟨by rw[<-hsz],N⟩) λobj Ì bM=>?_
  show aP bM λq1 q2=>?_;apply ba q1;apply ba q2;have g1:(h'.push {cls:=.type "list",data:=.seq #[]}).get? (s.heap.objs.size+5)=À {cls:=.type "list",data:=.seq #[]}:=hsz▸ŀ _ rfl;have k1:∀b o,h'.get? b=À o->(h'.push {cls:=.type "list",data:=.seq #[]}).get? b=À o:=λb o e=>O' _ e;generalize h'.push {cls:=.type "list",data:=.seq #[]}=h1 at g1 k1;show⟨⟨_,g1,rfl⟩,F.args_list_init_2 _ _,?_⟩;show É _ A.in1.in1 (do let old <-Builtin.List.listItems (.ref (s.heap.objs.size+5));Builtin.List.listUpdate (.ref (s.heap.objs.size+5)) (λy=>#[]);letGo old.toList.reverse;Builtin.List.listExtendWith (.ref (s.heap.objs.size+5)) (.ref (s.heap.objs.size+4)) .none) _ _ _;show Â ?_;unfold Builtin.List.listItems;show Â (ç g1 rfl (Ç ?_));show É _ _ (Ŏ (s.heap.objs.size+5) (λy=>#[])>>=λy=>letGo (#[]:Array Ä).toList.reverse>>=λy=>Builtin.List.listExtendWith _ _ .none) _ _ _;show Â (ć g1 rfl ?_);have g2:=ϣ (Obj.mapSeq (λy=>(#[]:Array Ä))) g1 rfl;have ne:∀{b o},h'.get? b=À o->s.heap.objs.size+5≠b:=λe q=>no (Zh.symm.trans (q▸e));have k2:∀b o,h'.get? b=À o->(h1.update (s.heap.objs.size+5) (Obj.mapSeq (λy=>(#[]:Array Ä)))).get? b=À o:=λb o e=>(Ϩ _ _ (ne e)).trans (k1 b o e);generalize h1.update (s.heap.objs.size+5) (Obj.mapSeq (λy=>(#[]:Array Ä)))=h2 at g2 k2;show Â (Ė ?_);have hT:∀{h},(∀b o,h'.get? b=À o->h.get? b=À o)->Shared.TypeIs {s with heap:=h} (.ref (s.heap.objs.size+4)) "zip" := λk=>⟨_,k _ _ vt,rfl⟩;unfold Builtin.List.listExtendWith;show Â (Ş (hT k2) ?_);have q1:Builtin.List.listSameRef (.ref (s.heap.objs.size+5)) (.ref (s.heap.objs.size+4))=Ê:=by simp [Builtin.List.listSameRef]
  have q2:(Value.type "zip"==Value.type "list")=Ê:=by decide
  have q3:(Value.type "zip"==Value.type "tuple")=Ê:=by decide
  simp only[q1,q2,q3,adp,abY,if_false]
  show Â (Ţ (k2 _ _ vt) (Â (ß ?_)));unfold Builtin.List.listLengthHint;show Â (wpAny_specialOf (hT k2) Ap ?_);show É _ _ (specialOf (Value.ref _) (acN "__length_hint__")>>=_) _ _ _;show Â (wpAny_specialOf (hT k2) ye (Ç ?_));show É _ _ (rule "list.extend.makes-room" >>= λy=>Builtin.List.listTouch (.ref (s.heap.objs.size+5))>>=λy=>again (.builtin "list.extend.loop" ⟨[.ref (s.heap.objs.size+5),.ref (s.heap.objs.size+4),.none],[]⟩)) _ _ _;show Â (ú (Â ?_));show É _ _ (Ŏ (s.heap.objs.size+5) (·.push .none)>>=λy=>Ŏ (s.heap.objs.size+5) (·.pop)) _ _ _;show Â (ć g2 N ?_);have g3:=ϣ (Obj.mapSeq (·.push Value.none)) g2 N;show ć (hz:=by seq_fits) g3 N ?_;have g4:=ϣ (Obj.mapSeq (·.pop)) g3 N;have k4:∀b o,h'.get? b=À o->((h2.update (s.heap.objs.size+5) (Obj.mapSeq (·.push Value.none))).update (s.heap.objs.size+5) (Obj.mapSeq (·.pop))).get? b=À o:=λb o e=>(Ϩ _ _ (ne e)).trans ((Ϩ _ _ (ne e)).trans (k2 b o e));generalize (h2.update (s.heap.objs.size+5) (Obj.mapSeq (·.push Value.none))).update (s.heap.objs.size+5) (Obj.mapSeq (·.pop))=h4 at g4 k4;have K4:∀b o,s.heap.get? b=À o->h4.get? b=À o:=λb o e=>k4 b o (hk b o e);have St:SE J s.heap (J++[s.heap.objs.size+3]) h4:=S'.trans (SE.keeps _ k4);show Ç ⟨ĉ F.plain_extend_loop _,Ec (h0:=s.heap) (A:=A.in1) hh C (λqE acc E=>⟨N,?_⟩) (bF xs ys).length 0 h4 #[] (ϋ _) ⟨.inl ⟨N,k4 _ _ vt,k4 _ _ Vd,VI.at (λo e=>k4 _ o e) λo e=>k4 _ o e,VJ.at λo e=>k4 _ o e,hu.at λo e=>K4 _ o e⟩,TD.step R St,hw.step R St,R'.keeps k4,.nil,⟨_,g4⟩,λb o y y y y y e=>K4 b o e⟩⟩
  have K5:∀b o,s.heap.get? b=À o->qE.get? b=À o:=λb o e=>by have nf:∀k,b≠s.heap.objs.size+k:=λk q=>no ((fr k).symm.trans (q▸e));show E.k b o (nf 4) (nf 3) (nf 0) (nf 1) (nf 5) e
  show E.s.elim λn es=>⟨J++[s.heap.objs.size+3]++[s.heap.objs.size+5],⟨λb o e y=>.inl (K5 b o e),λb o e=>⟨o,K5 b o e⟩,[s.heap.objs.size+3,s.heap.objs.size+5],by rw[Ć];rfl,qQ (P:=λb=>s.heap.get? b=Ã) (fr 3) (fr 5)⟩,E.R.more C.s.1 C.s.2 (.lst ⟨n,es⟩ (ϊ hz) E.l) (λo e=>by rw[es]at e;show sm e▸gS rfl),.ref ?_,rfl,rfl,rfl⟩;rw[<-R.len];simp
end
abbrev Gd{α:Type}(P:α->Prop)(o:Option α):Prop:=∀c,o=À c->P c
theorem ah{α β:Type}{m:Option α}{k:α->Option β}{P:β->Prop}(h:∀a,m=À a->Gd P (k a)):Gd P (m.bind k):=λc e=>by show ca e λa h1 h2=>h a h1 c h2
theorem aK{P:α->Prop}(h:P a):Gd P (À a):=λc e=>sm e▸h
theorem eO{P:α->Prop}:Gd P Ã:=λc e=>no e
theorem c7{P:α->Prop}[Decidable b](h:b->Gd P x):Gd P (if b then x else Ã):=λc e=>h (cZ e).1 c (cZ e).2
theorem qB{P:α->Prop}[Decidable b](h:¬ b->Gd P x):Gd P (if b then Ã else x):=λc e=>h (zy e).1 c (zy e).2
theorem kf{P:α->Prop}[Decidable b](h:b->Gd P x)(h':¬ b->Gd P y):Gd P (if b then x else y):=λc e=>by
 by_cases hb:b
 ·show h hb c ((if_pos hb).symm.trans e)
 ·show h' hb c ((if_neg hb).symm.trans e)
noncomputable def TP:jq->Nat
 |.ex _=>0
 |.rng1 _=>1
 |_=>2
noncomputable def Wn:jq->Option CE
 |.ex c=>À c
 |.rng1 c=>À c
 |_=>Ã
def WW(f:Ó->Option CE)(sc:à)(e:Ó)(it:jq):Prop:=(∃c,it=.ex c/\f e=À c)\/(∃y p q c,it=.rng1 c/\e=.Call (.Name ("range":Str) p) [y] [] q/\bg sc ("range":Str)=Æ/\f y=À c)\/TP it=2
theorem tL:Gd (WW f sc e) (Eg f cx sc e):=by
 have ex:Gd (WW f sc e) (Cj f e):=ah λc hc=>aK (.inl ⟨c,N,hc⟩);unfold Eg;cases hp:j9 e with
 |none=>show ex
 |some p=>
  show kf (λhg=>kf (λh1=>?_) λk=>
   kf (λk=>ah λk k=>ah λk k=>ah λk k=>aK (.inr (.inr N))) λk=>
   kf (λk=>ah λk k=>ah λk k=>aK (.inr (.inr N))) λk=>
   ex) λk=>ex
  obtain ⟨gn,as⟩:=p;cases as with
  |nil=>show eO
  |cons a r=>
   show ah λx hx=>?_;cases r with
   |nil=>show aK (.inr (.inl (mM (iW hp) λp q z=>⟨a,p,q,x,N,beq_iff_eq.mp h1▸z,beq_iff_eq.mp h1▸(Ņ.mp hg).1,hx⟩)))
   |cons b r=>
    show ah λy k=>?_;cases r with
    |nil=>show aK (.inr (.inr N))
    |cons c r=>show ah λk k=>c7 λk=>aK (.inr (.inr N))
section
variable{A:Ñ}{E:Ä->Å->Prop}{J aj:List È}{H Î ae:ag}{s Ì:Å}{Z:Env}{O:List (Str×Nat)}{U:aM}
theorem bD.after(S:SE J s.heap aj Ì.heap)(T:bP s Ì)(h:bD gg aj Ì v ae a da):bD gg J s v ae a da:=by show bD.el h λaR S' R' V' T'=>⟨aR,S.trans S',R',V',T.trans T'⟩
theorem B7.after(S:SE J s.heap aj Ì.heap)(T:bP s Ì)(h:B7 aj Ì b ae c da):B7 J s b ae c da:=by obtain ⟨e,aR,S',R',T'⟩:=h;show⟨e,aR,S.trans S',R',T.trans T'⟩
theorem aQ.bind(hA:aQ A Z O e m)(h:m U H=À (x,Î))(R:ak gg J H s.heap)(F:eQ (bA A) J Z O U s.heap)
  (k:∀a Ì aj,SE J s.heap aj Ì.heap->bP s Ì->ak gg aj Î Ì.heap->eQ (bA A) aj Z O U Ì.heap->VR gg aj Ì.heap x a->Q a Ì):É mo A (eval e Z) Q E s:=
 Ï (hA U H x Î h J s R F E) (λa Ì ⟨aj,S,ay,be,T⟩=>k a Ì aj S T ay (F.step R S) be) λz z x=>x
theorem fC.bind(hA:fC A Z O e m)(h:m U H=À (x,Î))(R:ak gg J H s.heap)(F:eQ (bA A) J Z O U s.heap)
  (k:∀Ì aj,SE J s.heap aj Ì.heap->bP s Ì->ak gg aj Î Ì.heap->eQ (bA A) aj Z O U Ì.heap->Q x Ì):É mo A (isTrue e Z (eval e Z)) Q E s:=
 Ï (hA U H x Î h J s R F E) (λa Ì ⟨e,aj,S,ay,T⟩=>by apply ba e;show k Ì aj S T ay (F.step R S)) λz z x=>x
def r7(A:Ñ)(Á:aw)(k:Nat):Prop:=
 ∀as H v ae,Á k as H=À (.ok v,ae)->∀fn,fs[k]?=À fn->∀J s ci,ak gg J H s.heap->r6 (bA A) J s.heap->bz gg J s.heap as ci->∀E,É mo A (PySem.call (.ref fn.addr) ci) (bD gg J s v ae) E s
def tC(A:Ñ)(Á:aw):Prop:=∀k,r7 A Á k
def lK(A:Ñ)(Z:Env)(O:List (Str×Nat))(e:Ó)(two:Bool)(m:aM->ag->Option (List V×List (Nat×bp)×ag)):Prop:=
 ∀U H xs w ae,m U H=À (xs,w,ae)->∀J s,ak gg J H s.heap->eQ (bA A) J Z O U s.heap->∀E,É mo A (eval e Z) (B6 A J s xs w two ae) E s
theorem Dy{e:Ó}{c:CE}{Á:aw}(h:aQ A Z O e (ab Á c))(he:isTrue e Z (eval e Z)=(do let v <-eval e Z;standAt e.pos;holding [v] (truthy v))):fC A Z O e (bW Á c):=by intro U H b ae ht J s R F E;show isTrue_plain (h.bind (dX ht) R F λa Ì aj S T ay a0 be=>?_) he;apply ba (vB N be);show ï ⟨N,aj,S,ay,T⟩
theorem oH{v:V}{k:Const}{n:Nat}{pos:Pos}{Á:aw}(hk:yB k=À v):aQ A Z O (.Constant k n pos) (ab Á (.cst v)):=by
 intro U H v' ae he J s R F E;apply du he;cases k with
 |none=>apply dM hk;show wpAny_Constant_none (bD.here (tk:=s.toks) R .none)
 |bool _=>apply dM hk;show wpAny_Constant_bool (bD.here (tk:=s.toks) R (.bool _))
 |int _=>apply dM hk;show wpAny_Constant_int (bD.here R (.int _ _))
 |str _=>apply dM hk;show wpAny_Constant_str (bD.here R (.str _ _))
 |_=>show no hk
theorem K0{l r:Ó}{op:Operator}{pos:Pos}{a b:CE}{Á:aw}(hl:aQ A Z O l (ab Á a))(hr:aQ A Z O r (ab Á b)):aQ A Z O (.BinOp l op r pos) (ab Á (.bin op a b)):=by intro U H v ae he J s R F E;show rW he λx Î y Ü h1 h2 he=>?_;show wpAny_BinOp (hl.bind h1 R F λa Ì aj S T ay a0 be=>hr.bind h2 ay a0 λb da cP S' T' bw eH dH=>?_);show Ï (Jd he bw (be.step ay S') dH) (λz z x=>(bD.after (S.trans S') (T.trans T') x)) λz z x=>x
theorem se(hA:iM A d):A.units+8<cLine:=Ŷ (Ϲ (z' (Ō _ _) hA.units) 8) (by decide)
theorem K6{d:Nat}(hA:iM A d)(lV:∃o,gg.B.get? Ą=À o){l r:Ó}{op:CmpOp}{pos:Pos}{a b:CE}{Á:aw}(hm:behindInMarks op r=Ê)(hl:aQ A Z O l (ab Á a))(hr:aQ A Z O r (ab Á b)):
  aQ A Z O (.Compare l [op] [r] pos) (ab Á (.cmp op a b))/\fC A Z O (.Compare l [op] [r] pos) (bW Á (.cmp op a b)):=by
 constructor
 ·intro U H v ae he J s R F E
  show rW he λx Î y Ü h1 h2 he=>?_;show ca he λc hc he=>?_;apply du he;show wpAny_Compare1 (hl.bind h1 R F λa Ì aj S T ay a0 be=>hr.bind h2 ay a0 λb da cP S' T' bw eH dH=>AI hc (se hA) lV bw (be.step ay S') dH ⟨cP,S.trans S',bw,.bool _,T.trans T'⟩) hm
 ·intro U H v ae he J s R F E
  show dI (dX he) λx Î h1 he=>dI he λy Ü h2 he=>ca he λc hc he=>aP (nS he) λe1 q2=>?_;apply fQ q2;apply fQ (V.bool.inj e1);show wpAny_isTrue_Compare1 (hl.bind h1 R F λa Ì aj S T ay a0 be=>hr.bind h2 ay a0 λb da cP S' T' bw eH dH=>?_) hm;show AI hc (se hA) lV bw (be.step ay S') dH (ï ⟨N,cP,S.trans S',bw,T.trans T'⟩)
theorem Bz{x:Ó}{pos:Pos}{a:CE}{Á:aw}(hx:aQ A Z O x (ab Á a))(Gp:fC A Z O x (bW Á a)):
  aQ A Z O (.UnaryOp .Not x pos) (ab Á (.not a))/\fC A Z O (.UnaryOp .Not x pos) (bW Á (.not a)):=by
 constructor
 ·intro U H v ae he J s R F E
  show j8 he λb Î h1 he=>?_;apply du he;show UnaryOp_ (hx.bind h1 R F λa Ì aj S T ay a0 be=>?_);apply ba (vB N be);show not_of (ï ⟨aj,S,ay,.bool _,T⟩)
 ·intro U H v ae he J s R F E
  show j8 (dX he) λb Î h1 he=>aP (nS he) λe1 q2=>?_;apply fQ q2;apply fQ (V.bool.inj e1);show isTrue_not (Gp.bind (bN h1) R F λÌ aj S T ay a0=>⟨N,aj,S,ay,T⟩)
theorem By{x:Ó}{pos:Pos}{a:CE}{Á:aw}(hx:aQ A Z O x (ab Á a)):aQ A Z O (.UnaryOp .USub x pos) (ab Á (.neg a)):=by intro U H v ae he J s R F E;show oP he λi Î h1 he=>?_;apply du he;show UnaryOp_ (hx.bind h1 R F λa Ì aj S T ay a0 be=>?_);apply yo N be;intro t;show PyProof.Rows.neg_int (bD.after S T (bD.here ay (.int _ _)))
theorem Ld{t x y:Ó}{pos:Pos}{a b c:CE}{Á:aw}(ht:fC A Z O t (bW Á a))(hx:aQ A Z O x (ab Á b))(Gp:fC A Z O x (bW Á b))(hy:aQ A Z O y (ab Á c))(RY:fC A Z O y (bW Á c)):
  aQ A Z O (.IfExp t x y pos) (ab Á (.ite a b c))/\fC A Z O (.IfExp t x y pos) (bW Á (.ite a b c)):=by
 constructor
 ·intro U H v ae he J s R F E
  show j8 he λp Î h1 he=>?_;cases p with
  |true=>show IfExp_ (ht.bind (bN h1) R F λÌ aj S T ay a0=>hx.bind he ay a0 λb da cP S' T' bw eH dH=>⟨cP,S.trans S',bw,dH,T.trans T'⟩)
  |false=>show IfExp_ (ht.bind (bN h1) R F λÌ aj S T ay a0=>hy.bind he ay a0 λb da cP S' T' bw eH dH=>⟨cP,S.trans S',bw,dH,T.trans T'⟩)
 ·intro U H v ae he J s R F E
  show j8 (dX he) λp Î h1 he=>?_;cases p with
  |true=>show isTrue_IfExp (ht.bind (bN h1) R F λÌ aj S T ay a0=>Gp.bind (bN he) ay a0 λda cP S' T' bw eH=>⟨N,cP,S.trans S',bw,T.trans T'⟩)
  |false=>show isTrue_IfExp (ht.bind (bN h1) R F λÌ aj S T ay a0=>RY.bind (bN he) ay a0 λda cP S' T' bw eH=>⟨N,cP,S.trans S',bw,T.trans T'⟩)
theorem oF{f:Ó->Option CE}{Á:aw}(ih:∀e c,f e=À c->aQ A Z O e (ab Á c))(op:BoolOp)(pos:Pos):∀(vs:List Ó) (c:CE),vN f op vs=À c->aQ A Z O (.BoolOp op vs pos) (ab Á c)
 |[],_,h=>no h
 |[e],c,h=>λU H v ae he J s R F E=>BoolOp_one (ih e c h U H v ae he J s R F E)
 |e::e'::r,c,h=>by
  show iq h λa b ha hb h=>?_;apply dM h;have h1:=ih e a ha;have h2:=oF ih op pos (e'::r) b hb;intro U H v ae he J s R F E;cases op with
  |And=>
   show j8 he λp Î hx he=>BoolOp_and (h1.bind hx R F λa Ì aj S T ay a0 be=>?_);apply ba (vB N be);cases p with
   |true=>show ï (h2.bind he ay a0 λb da cP S' T' bw eH dH=>⟨cP,S.trans S',bw,dH,T.trans T'⟩)
   |false=>apply du he;show ï ⟨aj,S,ay,.bool _,T⟩
  |Or=>
   show j8 he λp Î hx he=>BoolOp_or (h1.bind hx R F λa Ì aj S T ay a0 be=>?_);apply ba (vB N be);cases p with
   |false=>show ï (h2.bind he ay a0 λb da cP S' T' bw eH dH=>⟨cP,S.trans S',bw,dH,T.trans T'⟩)
   |true=>apply du he;show ï ⟨aj,S,ay,.bool _,T⟩
theorem oG{f:Ó->Option CE}{Á:aw}(ih:∀e c,f e=À c->fC A Z O e (bW Á c))(op:BoolOp)(pos:Pos)(wh:Sem Ä):∀(vs:List Ó) (c:CE),vN f op vs=À c ->
  ∀U H b ae,bW Á c U H=À (b,ae)->∀J s,ak gg J H s.heap->eQ (bA A) J Z O U s.heap->∀E,É mo A (isTrue (.BoolOp op vs pos) Z wh) (B7 J s b ae) E s
 |[],_,h=>no h
 |[e],c,h=>λU H v ae he J s R F E=>by
  cases op with
  |And=>
   show isTrue_and ((ih e c h).bind he R F λÌ aj S T ay a0=>?_);cases v
   ·show⟨N,aj,S,ay,T⟩
   ·show isTrue_and_nil ⟨N,aj,S,ay,T⟩
  |Or=>
   show isTrue_or ((ih e c h).bind he R F λÌ aj S T ay a0=>?_);cases v
   ·show isTrue_or_nil ⟨N,aj,S,ay,T⟩
   ·show⟨N,aj,S,ay,T⟩
 |e::e'::r,c,h=>by
  show iq h λa b ha hb h=>?_;apply dM h;have h1:=ih e a ha;have h2:=oG ih op pos wh (e'::r) b hb;intro U H v ae he J s R F E;cases op with
  |And=>
   show j8 (dX he) λp Î hx he=>isTrue_and (h1.bind (bN hx) R F λÌ aj S T ay a0=>?_);cases p with
   |true=>show Ï (h2 U Î v ae (bN he) aj Ì ay a0 E) (λz z x=>B7.after S T x) λz z x=>x
   |false=>show aP (nS he) λe1 q2=>?_;apply fQ q2;apply fQ (V.bool.inj e1);show⟨N,aj,S,ay,T⟩
  |Or=>
   show j8 (dX he) λp Î hx he=>isTrue_or (h1.bind (bN hx) R F λÌ aj S T ay a0=>?_);cases p with
   |false=>show Ï (h2 U Î v ae (bN he) aj Ì ay a0 E) (λz z x=>B7.after S T x) λz z x=>x
   |true=>show aP (nS he) λe1 q2=>?_;apply fQ q2;apply fQ (V.bool.inj e1);show⟨N,aj,S,ay,T⟩
theorem cV{f:Ó->Option CE}(hs:∀e p,f (.Starred e p)=Ã)(h:f e=À c)(aD:List Ó):Ø (e::aD) Z=(Ê,eval e Z)::Ø aD Z:=by
 cases e with
 |Starred e p=>rw[hs]at h;show no h
 |_=>rfl
theorem jk{f:Ó->Option CE}(hs:∀e p,f (.Starred e p)=Ã)(pos:Pos):∀{es:List Ó} {cs:gF},cj f es=À cs->(ĵ pos (Ø es Z)).any (·.1)=Ê
 |[],_,_=>rfl
 |e::r,cs,h=>by
  show iq h λc Fm h1 h2 h=>?_;rw[cV hs h1];have:=jk hs pos h2 (es:=r)
  simpa [ĵ] using this
theorem gj{f:Ó->Option CE}{Á:aw}(hs:∀e p,f (.Starred e p)=Ã)(ih:∀e c,f e=À c->aQ A Z O e (ab Á c))(pos:Pos):∀{es:List Ó} {cs:gF},cj f es=À cs ->
  ∀ ⦃U H vs ae⦄,bY Á cs U H=À (vs,ae)->∀ ⦃J s⦄,ak gg J H s.heap->eQ (bA A) J Z O U s.heap->∀E,É mo A (spliced (ĵ pos (Ø es Z))) (Qw J s vs ae) E s
 |[],cs,h=>by intro U H vs ae he J s R F E;obtain rfl:=sm h;show aP (nS he) λk1 k2=>?_;apply fQ k1;apply fQ k2;show Ď ⟨J,SE.refl _ _,R,.nil,bP.refl _⟩
 |e::r,cs,h=>by show iq h λc Fm h1 h2 h=>?_;apply dM h;intro U H vs ae he J s R F E;show rW he λx Î xs Ü hx TJ he=>?_;apply du he;show å ((ih e c h1).bind hx R F λa Ì aj S T ay a0 be=>Ï (gj hs ih pos h2 TJ ay a0 E) (λvs da ⟨cP,S',bw,dH,T'⟩=>?_) λz z x=>x) (cV hs h1 r);show⟨cP,S.trans S',bw,.cons (be.step ay S') dH,T.trans T'⟩
theorem xw{f:Ó->Option CE}{Á:aw}(hs:∀e p,f (.Starred e p)=Ã)(ih:∀e c,f e=À c->aQ A Z O e (ab Á c)){pos:Pos}{es:List Ó}{cs:gF}(h:cj f es=À cs):aQ A Z O (.List es pos) (ab Á (.list cs)):=by intro U H v ae he J s R F E;show dI he λvs Î h1 he=>io (gb he) λhz q2 q3=>?_;apply ba q2;apply ba q3;show wpAny_List_spliced (Ï (gj hs ih pos h h1 R F E) (λas Ì ⟨aj,S,ay,be,T⟩=>⟨by rw[<-be.length];show hz,(bD.after S T (bD.newL (tk:=Ì.toks) ay (ϊ hz) be (λb o e=>O' _ e) (aG _) ⟨_,ŀ _ N⟩))⟩) λz z x=>x)
theorem ti{f:Ó->Option CE}{Á:aw}(hs:∀e p,f (.Starred e p)=Ã)(ih:∀e c,f e=À c->aQ A Z O e (ab Á c)){pos:Pos}{k:Nat}{es:List Ó}{cs:gF}(h:cj f es=À cs):aQ A Z O (.Tuple es k pos) (ab Á (.tuple cs)):=by intro U H v ae he J s R F E;show dI he λvs Î h1 he=>io (kN he) λhz q2 q3=>(wpAny_Tuple_spliced (Ï (gj hs ih pos h h1 R F E) (λas Ì ⟨aj,S,ay,be,T⟩=>⟨by rw[<-be.length];show hz,?_⟩) λz z x=>x));apply ba q2;apply ba q3;show bD.after S T (bD.newT (tk:=Ì.toks) ay (ϊ hz) be (λb o e=>O' _ e) (aG _) (gO _ _))
theorem Du{pos:Pos}{Á:aw}:aQ A Z O (.Dict [] [] pos) (ab Á .dict0):=by
 intro U H v ae he J s R F E;apply du he;show wpAny_Dict_empty ?_;have hk:∀b o,s.heap.get? b=À o->(s.heap.push {cls:=.type "dict",data:=.dict #[]}).get? b=À o:=λb o e=>O' _ e;have R':ak gg J H (s.heap.push {cls:=.type "dict",data:=.dict #[]}):=R.keeps hk;have CH:=aW R (aG _);have P4:=aV R (aG _);have S:SE J s.heap J (s.heap.push {cls:=.type "dict",data:=.dict #[]}):=SE.keeps J hk;have hd:(s.heap.push {cls:=.type "dict",data:=.dict #[]}).DictOf (strKind gg.prog gg.w) s.heap.objs.size []:=Heap.DictOf.new ..;show⟨J++[s.heap.objs.size],⟨S.pres,S.dom,[_],N,λa ha=>?_⟩,R'.more CH P4 (.ds hd N .nil) (λo e=>?_),.ref ?_,bP.refl _⟩
 ·apply ba (W'.mp ha);show aG _
 ·apply fQ (sm ((ŀ _ N).symm.trans e));show sG N
 ·rw[<-R.len];simp
end
section
variable{A:Ñ}{E:Ä->Å->Prop}{J aj:List È}{H Î ae:ag}{s Ì:Å}{Z:Env}{O:List (Str×Nat)}{U:aM}
theorem Bw{v i:Ó}{pos:Pos}{a b:CE}{Á:aw}(hG:∀l u st p,i≠.Slice l u st p)(hv:aQ A Z O v (ab Á a))(hi:aQ A Z O i (ab Á b)):aQ A Z O (.Subscript v i pos) (ab Á (.idx a b)):=by
 intro U H r ae he J s R F E;show rW he λx Î y Ü h1 h2 he=>?_;show ca he λc hc he=>?_;apply du he;show Subscript_ (hv.bind h1 R F λa Ì aj S T ay a0 be=>hi.bind h2 ay a0 λb da cP S' T' bw eH dH=>?_);show aP (Kb (A:=A) (E:=E) hc bw (be.step ay S') dH) λk1 hg=>?_;show gm k1 λT id hT hl=>?_;show tail_any (ops:=[a,b]) hT hl (Ï hg (λz z x=>bD.after (S.trans S') (bP.trans ‹_› T') x) λz z x=>x) ?_;cases i with
 |Slice l u st p=>show absurd N (hG l u st p)
 |_=>rfl
theorem xH(hv:VR gg J h v a)(hl:m6 v=À i):jM a v:=by
 cases hv with
 |none=>show .none
 |int k t=>show .int k t
 |_=>show no hl
theorem xF(hv:VR gg J h v a)(hl:kZ n v=À i):jM a v:=by
 cases hv with
 |none=>show .none
 |int k t=>show .int k t
 |_=>show no hl
theorem aQ.part{f:Ó->Option CE}{Á:aw}(ih:∀e c,f e=À c->aQ A Z O e (ab Á c)){o:Option Ó}{c:CE}(hc:E6 f o=À c){x:V}(h:ab Á c U H=À (x,Î))(R:ak gg J H s.heap)(F:eQ (bA A) J Z O U s.heap){Q:Ä->Å->Prop}
  (k:∀a Ì aj,SE J s.heap aj Ì.heap->bP s Ì->ak gg aj Î Ì.heap->eQ (bA A) aj Z O U Ì.heap->VR gg aj Ì.heap x a->Q a Ì):É mo A (evalPart o Z) Q E s:=by
 cases o with
 |none=>obtain rfl:=sm hc;show aP (nS h) λk2 k3=>?_;subst k2;subst k3;show evalPart_none_step (k .none s J (SE.refl _ _) (bP.refl _) R F .none)
 |some e=>show evalPart_some_step ((ih e c hc).bind h R F k)
set_option tactic.hygienic true in
theorem Li{f:Ó->Option CE}{v:Ó}{lo hi:Option Ó}{p pos:Pos}{a b c:CE}{Á:aw}(ih:∀e c,f e=À c->aQ A Z O e (ab Á c))(hv:aQ A Z O v (ab Á a))(hl:E6 f lo=À b)(hu:E6 f hi=À c):
  aQ A Z O (.Subscript v (.Slice lo hi Ã p) pos) (ab Á (.slc a b c)):=by
 intro U H r ae he J s R F E;show rW he λx Î y Ü h1 h2 he=>?_;show dI he λz bC h3 he=>Subscript_ (hv.bind h1 R F λa Ì aj S T ay a0 be=>wpAny_Slice (aQ.part ih hl h2 ay a0 λb da cP dg gr bw eH dH=>aQ.part ih hu h3 bw eH λc iu tz iU tD iQ p8 EG=>evalPart_none_step ?_));have hk:∀b' o,iu.heap.get? b'=À o->(iu.heap.push {cls:=.type "slice",data:=.fields #[b,c,.none]}).get? b'=À o:=λb o e=>O' _ e;have lL:SE tz iu.heap tz (iu.heap.push {cls:=.type "slice",data:=.fields #[b,c,.none]}):=SE.keeps _ hk;have rU:=iQ.keeps hk;have QG:=((be.step ay dg).step bw iU).step iQ lL;have L0:=(dH.step bw iU).step iQ lL;have L4:=EG.step iQ lL;have hs:=Heap.IsSliceOf.new iu.heap b c .none
 have ip:∀{r ae a' s'},bD gg tz {iu with heap:=iu.heap.push {cls:=.type "slice",data:=.fields #[b,c,.none]}} r ae a' s'->bD gg J s r ae a' s':=λx=>
  bD.after (Ì:={iu with heap:=iu.heap.push {cls:=.type "slice",data:=.fields #[b,c,.none]}}) (S.trans (dg.trans (iU.trans lL))) (T.trans (gr.trans tD)) x
 revert he;apply VR.el QG
 case tup=>
  intro _ _ _ ht hz sS hn he
  ·show iq he λi j hi hj he=>?_
   show io (kN he) λsT q2 q3=>?_;apply ba q2;apply ba q3;show tail_any (ops:=[.ref iu.heap.objs.size,.ref _]) ht.typeIs slot_tuple_getitem.lookup (Ï (DQ rU ht hz sS hn hs (xH L0 hi) (xF L4 hj) hi hj sT) (λ_ _ x=>ip x) λ_ _ x=>x) N
 case str=>
  intro x t he
  ·show iq he λi j hi hj he=>?_
   show io (Da he) λsT q2 q3=>?_;apply ba q2;apply ba q3;show tail_any (ops:=[.ref iu.heap.objs.size,.str x t]) (typeIs_str _ _ _) PySem.F.slot_str_getitem.lookup (Ï (DJ rU hs (xH L0 hi) (xF L4 hj) hi hj sT) (λ_ _ x=>ip x) λ_ _ x=>x) N
 all_goals (intros;rename_i he;exact no he)
theorem bJ(h:bg Z.scope x=Æ):Z.kindOf x=À .globalImplicit/\(x==("__debug__":Str))=Ê:=by
 simp only[bg,Ň,beq_iff_eq,ϔ]at h
 show⟨h.1,h.2⟩
set_option tactic.hygienic true in
theorem oX:∀{l:List α} {k:Nat},l.findIdx? p=À k->∃x,l[k]?=À x/\p x=Æ
 |[],_,h=>by simp at h
 |a::l,k,h=>by
  rw[List.findIdx?_cons]at h;split at h
  ·rename_i hp
   cases h;show⟨a,N,hp⟩
  ·simp only[ϧ]at h
   show aF h λj hj q3=>?_;apply fQ q3;show aF (oX hj) λx h1 h2=>⟨x,h1,h2⟩
theorem FU(G:fO gg cx fs mg mb)(h:g8 cx f=À k):∃fn,fs[k]?=À fn/\fn.name=f:=by
 show aF (oX h) λx h1 h2=>?_;rw[<-G.names]at h1
 simp only[Ħ,ϧ]at h1
 show aF h1 λfn h3 q3=>?_;subst q3;show⟨fn,h3,by simpa using h2⟩
theorem xq{Á:aw}{k:Nat}(G:fO gg cx fs mg mb)(hC:r7 A Á k){F':Ó->Option CE}(hs:∀e p,F' (.Starred e p)=Ã)(ih:∀e c,F' e=À c->aQ A Z O e (ab Á c)){f:Str}{p pos:Pos}{as:List Ó}{cs:gF}
  (hg:bg Z.scope f=Æ) (hk:g8 cx f=À k) (eR:as.isEmpty=Ê) (h:cj F' as=À cs):aQ A Z O (.Call (.Name f p) as [] pos) (ab Á (.call k cs)):=by
 intro U H v ae he J s R F E;show rW he λvs Î r Ü h1 h2 he=>?_;show ca he λu hu he=>?_;apply du he
 have hr:r=.ok u:=by
  cases r with
  |ok w=>show congrArg yv.ok (sm hu)
  |exc _ _=>show no hu
 subst hr;show aF (FU G hk) λfn kY q3=>?_;subst q3;obtain ⟨hm,o,pm,cd,doc,ho,hd,oi⟩:=G.made fn (Ĥ kY);show aP (bJ hg) λlA lB=>?_;cases as with
 |nil=>cases eR
 |cons e aD=>show ca (k:=λc=>(cj F' aD).bind λcs=>À (gF.cons c cs)) h λc hc z=>ÿ N (jd G F R lA lB hm (callWith_def (o:=o) hd (Ï (gj hs ih pos h h1 R F E) (λci Ì ⟨aj,S,ay,be,T⟩=>⟨ay.base _ _ ho,?_⟩) λz z x=>x) (cV hs hc aD)));show Ï (hC vs Î u Ü h2 fn kY aj Ì ci ay (F.step R S).stk be E) (λz z x=>bD.after S T x) λz z x=>x
set_option backward.match.sparseCases false in
noncomputable def gf:nW->Ä
 |.len=>.builtin "len" |.sum=>.builtin "sum" |.min2=>.builtin "min" |.max2=>.builtin "max" |.min1=>.builtin "min" |.max1=>.builtin "max"
 |.tuple=>.type "tuple" |.list=>.type "list" |.str=>.type "str" |.int=>.type "int" |.sorted=>.builtin "sorted" |_=>.none
noncomputable def Hg:nW->Bool
 |.len|.sum|.min2|.max2|.min1|.max1|.tuple|.list|.str|.int|.sorted=>Æ
 |_=>Ê
theorem zZ:∀q∈Bp,1<=q.2.1/\q.1∈eV/\ě q.1=À (gf q.2.2)/\Hg q.2.2=Æ:=by decide +kernel
theorem xf(h:Hg p=Æ):(∀as,nc p as=PySem.call (gf p) as)/\((∃id,gf p=.builtin id)\/∃T,gf p=.type T):=by cases p<;>first|exact⟨λz=>rfl,.inl ⟨_,rfl⟩⟩|exact⟨λz=>rfl,.inr ⟨_,rfl⟩⟩|exact nomatch h
theorem E8(h:E7 f n=À p):1<=n/\f∈eV/\ě f=À (gf p)/\(∀as,nc p as=PySem.call (gf p) as)/\((∃id,gf p=.builtin id)\/∃T,gf p=.type T):=by show Jy (zZ _ (mh h)) λh1 h2 h3 h4=>⟨h1,h2,h3,xf h4⟩
theorem bK(hv:(∃id,v=.builtin id)\/∃T,v=.type T)
  (h:É mo A (spliced (ĵ pos (Ø (e::aD) Z))) (λvs Ì=>É mo A (PySem.call v vs) Q E Ì) E s)
  (he:Ø (e::aD) Z=(Ê,eval e Z)::Ø aD Z) (Gk:(ĵ pos (Ø aD Z)).any (·.1)=Ê) :
  É mo A (callWith pos v [] (ĵ pos (Ø (e::aD) Z)) []) Q E s:=by
 rcases hv with ⟨id,rfl⟩|⟨T,rfl⟩
 ·show callWith_builtin1 h he Gk
 ·show callWith_type1 h he Gk
theorem HH{Á:aw}{d:Nat}(hA:iM A d)(G:fO gg cx fs mg mb){F':Ó->Option CE}(hs:∀e p,F' (.Starred e p)=Ã)(ih:∀e c,F' e=À c->aQ A Z O e (ab Á c)){f:Str}{p' pos:Pos}{p:nW}{as:List Ó}{cs:gF}
  (hg:bg Z.scope f=Æ) (hp:E7 f as.length=À p) (h:cj F' as=À cs):aQ A Z O (.Call (.Name f p') as [] pos) (ab Á (.prim p cs)):=by
 intro U H v ae he J s R F E;show dI he λvs Î h1 he=>YS (E8 hp) λhn hm hb hc hh=>aP (bJ hg) λlA lB=>?_;cases as with
 |nil=>cases hn
 |cons e aD=>show ca (k:=λc=>(cj F' aD).bind λcs=>À (gF.cons c cs)) h λc ff h'=>ca h' λFm hr z=>ÿ N (cB G F R lA lB hm hb (bK hh (Ï (gj hs ih pos h h1 R F E) (λci Ì ⟨aj,S,ay,be,T⟩=>?_) λz z x=>x) (cV hs ff aD) (jk hs pos hr)));rw[<-hc];show Ï (rn he hA.handled G.sys ay be) (λz z x=>bD.after S T x) λz z x=>x
theorem HO{Á:aw}{d:Nat}(hA:iM A d)(G:fO gg cx fs mg mb){F':Ó->Option CE}(hs:∀e p,F' (.Starred e p)=Ã)(ih:∀e c,F' e=À c->aQ A Z O e (ab Á c)){x y:Ó}{a b:CE}{p' p2 pos Px:Pos}
  (hg:bg Z.scope ("list":Str)=Æ) (IF:bg Z.scope ("zip":Str)=Æ) (ha:F' x=À a) (hb:F' y=À b):aQ A Z O (.Call (.Name ("list":Str) p') [.Call (.Name ("zip":Str) p2) [x,y] [] Px] [] pos) (ab Á (.zipl a b)):=by
 intro U H v ae he J s R F E;show rW he λu Î w Ü h1 h2 he=>iq he λr xs hr hl he=>ca he λys hy he=>dJ he λhz he=>?_;apply du he
 have zj:cj F' [x,y]=À (.cons a (.cons b .nil)):=by show (F' x).bind _=_;rw[ha];show ((F' y).bind _).bind _=_;rw[hb];rfl
 have ZH:bY Á (.cons a (.cons b .nil)) U H=À ([u,w],Ü):=by show cg (ab Á a U H) _=_;rw[h1];show cg (cg (ab Á b U Î) λv Î=>cg (bY Á .nil U Î) λvs Ü=>À (v::vs,Ü)) (λvs Ü=>À (u::vs,Ü))=_;rw[h2];rfl
 show aP (bJ hg) λlA lB=>aP (bJ IF) λVC VD=>ÿ N (cB G F R lA lB (by decide) (v:=.type "list") (by decide +kernel) (bK (.inr ⟨_,N⟩) (å (ÿ N (cB G F R VC VD (by decide) (v:=.type "zip") (by decide +kernel) (bK (.inr ⟨_,N⟩) (Ï (gj hs ih Px zj ZH R F E) (λci Ì ⟨aj,S,ay,be,T⟩=>be.consE λva vr q1 Vu Vr=>Vr.consE λvb vn q2 Vw Vn=>?_) λk k x=>x) (cV hs ha [y]) (jk hs Px (show cj F' [y]=À (.cons b .nil) by show (F' y).bind _=_;rw[hb];rfl))))) N) N N));rw[q1,q2,Vn.nilE];show aF (vR hr Vu) λl1 q3 q4=>?_;rw[q3];rw[mD hy]at Vw;show Ï (Iq hA.handled ay q4 hl Vw hz) (λz da h=>Ď (Ï h (λk k x=>?_) λk k x=>x)) λk k x=>x;rw[Ā];show bD.after S T x
set_option backward.match.sparseCases false in
noncomputable def M1:nW->String
 |.isInt=> "int" |.isBool=> "bool" |.isTuple=> "tuple" |.isStr=> "str" |.isList=> "list" |_=> ""
theorem CR:∀q∈Gx,q.1∈eV/\ě q.1=À (.type (M1 q.2.2))/\M1 q.2.2≠"" := by decide +kernel
theorem Jg(h:Oj t=À p):∃T,t∈eV/\ě t=À (.type T)/\∀a,nc p [a]=PySem.call (.builtin "isinstance") [a,.type T]:=by refine io (CR _ (mh h)) λh1 h2 h3=>⟨_,h1,h2,λa=>?_⟩;cases p<;>first|rfl|exact absurd N h3
theorem Lc{Á:aw}{d:Nat}(hA:iM A d)(G:fO gg cx fs mg mb){x:Ó}{t:Str}{p' Nk pos:Pos}{p:nW}{a:CE}(hG:∀e q,x≠.Starred e q)(hx:aQ A Z O x (ab Á a))(hg:bg Z.scope ("isinstance":Str)=Æ)(IF:bg Z.scope t=Æ)
  (hp:Oj t=À p):aQ A Z O (.Call (.Name ("isinstance":Str) p') [x,.Name t Nk] [] pos) (ab Á (.prim p (.cons a .nil))):=by
 intro U H v ae he J s R F E;show dI he λvs Î h1 he=>dI h1 λy Ü h2 h1=>aP (nS h1) λq1 q2=>(eK (Jg hp) λT hm hb hc=>aP (bJ hg) λlA lB=>aP (bJ IF) λVC VD=>?_);subst q1 q2
 have fv:Ø [x,.Name t Nk] Z=(Ê,eval x Z)::Ø [.Name t Nk] Z:=by
  cases x with
  |Starred e q=>show absurd N (hG e q)
  |_=>rfl
 show ÿ N (cB G F R lA lB (by decide) (v:=.builtin "isinstance") (by decide +kernel) (bK (.inl ⟨_,N⟩) (å (hx.bind h2 R F λb Ì aj S T' ay a0 be=>å (cB G a0 ay VC VD hm hb (Ď ?_))) fv) fv N));rw[<-hc];show Ï (rn he hA.handled G.sys ay (.one be)) (λz z x=>bD.after S T' x) λz z x=>x
theorem HG{Á:aw}{d:Nat}(hA:iM A d)(G:fO gg cx fs mg mb){x:Ó}{p' Nk pos kp:Pos}{n:Nat}{a:CE}(hG:∀e q,x≠.Starred e q)(hx:aQ A Z O x (ab Á a))(hg:bg Z.scope ("min":Str)=Æ):
  aQ A Z O (.Call (.Name ("min":Str) p') [x] [⟨À ("default":Str),.Constant .none n Nk,kp⟩] pos) (ab Á (.prim .minD (.cons a .nil))):=by
 intro U H v ae he J s R F E;show dI he λvs Î h1 he=>dI h1 λy Ü h2 h1=>aP (nS h1) λq1 q2=>(aP (bJ hg) λlA lB=>?_);subst q1 q2
 have fv:Ø [x] Z=(Ê,eval x Z)::Ø [] Z:=by
  cases x with
  |Starred e q=>show absurd N (hG e q)
  |_=>rfl
 show wpAny_Call_Name_kw (cB G F R lA lB (by decide) (v:=.builtin "min") (by decide +kernel) (callWith_kw (å (hx.bind h2 R F λb Ì aj S T' ay a0 be=>Ď (Â (Â (wpAny_Constant_none (Â (ĕ (Ç (Â (ß (Ç (Ç ?_))))))))))) fv) (by rw[fv];rfl) (by rw[fv];rfl)));show Ï (rn (p:=.minD) he hA.handled G.sys ay (.one be)) (λz z x=>bD.after S T' x) λz z x=>x
theorem zL:∀q∈Bg,1<=q.2.1/\q.2.1<=2/\q.1=qV q.2.2:=by decide +kernel
theorem vU(h:AE m n=À p):1<=n/\n<=2/\m=qV p:=zL _ (mh h)
theorem xO(hs:∀e p,f (.Starred e p)=Ã)(pos:Pos)(h:cj f es=À cs):(ĵ pos (Ø es Z)).all (λx=>!x.1)=Æ:=by
 have:=jk (Z:=Z) hs pos h;rw[List.any_eq_false]at this;rw[Ϫ];intro x hx;have:=this x hx
 simpa using this
theorem HF{Á:aw}(G:fO gg cx fs mg mb){F':Ó->Option CE}(hs:∀e p,F' (.Starred e p)=Ã)(ih:∀e c,F' e=À c->aQ A Z O e (ab Á c)){o:Ó}{m:Str}{ap pos:Pos}{p:j4}{as:List Ó}{a:CE}{cs:gF}
  (ho:aQ A Z O o (ab Á a)) (OV:z9 o=Æ) (qF:(ap.endLine==pos.line)=Æ) (hp:AE m as.length=À p) (h:cj F' as=À cs):aQ A Z O (.Call (.Attribute o m ap) as [] pos) (ab Á (.meth p a cs)):=by
 intro U H v ae he J s R F E;show dI he λx Î h1 he=>dJ he λhr he=>dI he λvs Ü h2 he=>io (vU hp) λrN yj q3=>?_;apply ba q3;cases as with
 |nil=>cases rN
 |cons e aD=>
  show ca (k:=λc=>(cj F' aD).bind λcs=>À (gF.cons c cs)) h λc ff h'=>ca h' λFm RT z=>ϒ ?_ ?_ qF (ho.bind h1 R F λav Ì aj S T ay a0 be=>?_)
  ·cases o with
   |Name x p=>rfl
   |Constant k n p=>rfl
   |Subscript x y p=>rfl
   |_=>cases OV
  ·rw[xO hs pos h]
   have:(e::aD).length+0+0<30:=by have:=yj;show jT (y3 0x1c001e9210b28012ba080112ba0812 N (iL yj) (iA _ _) (iA _ _))
   show decide_eq_true (p:=(e::aD).length+0+0<30) this
  ·show aP (xh (s:=Ì) hr ay be) λhT hd=>⟨qW p,qU p,qX p,s6 p,s8 p,hT,hd,callWith_method1 (Ï (gj hs ih pos h h2 ay a0 E) (λci da ⟨cP,dg,bw,dH,gr⟩=>Ï (G1 he G.sys bw (be.step ay dg) dH) (λz z x=>bD.after (S.trans dg) (T.trans gr) x) λz z x=>x) λz z x=>x) (cV hs ff aD) (jk hs pos RT)⟩
end
section
variable{A:Ñ}{E:Ä->Å->Prop}{J aj:List È}{H Î ae:ag}{s Ì:Å}{Z:Env}{O:List (Str×Nat)}{U:aM}{Á:aw}{d:Nat}
theorem HB(hA:iM A d)(he:aQ A Z O e (ab Á c)):lK A Z O e Ê (cE Á (.ex c)):=by intro U H xs w ae h J s R F E;rw[kP]at h;show dI h λx Î h1 h=>Bk h λl w' h2 h=>?_;apply i6 h;show Ï (he U H x Î h1 J s R F E) (λa Ì hp=>Ln hA.handled h2 hp) λz z x=>x
theorem gi(h:gA a=Æ):-1000000000<=a/\a<=1000000000:=by
 simpa [gA] using h
theorem jP(hG:∀e q,x≠.Starred e q):Ø (x::aD) Z=(Ê,eval x Z)::Ø aD Z:=by
 cases x with
 |Starred e q=>show absurd N (hG e q)
 |_=>rfl
theorem rE(hA:A.handled=Ã)(hc:c≠0)(yl:Builtin.Range.small a b c=Æ)(S:SE J s.heap aj Ì.heap)(R:ak gg aj H Ì.heap)(T:bP s Ì):
  B6 A J s (cy a b c) [] Ê H (.ref Ì.heap.objs.size) {Ì with heap:=Ì.heap.push {cls:=.type "range",data:=.fields #[.int a t,.int b u,.int c v]},toks:=tk}:=
 have hk:∀b' o,Ì.heap.get? b'=À o->(Ì.heap.push {cls:=.type "range",data:=.fields #[.int a t,.int b u,.int c v]}).get? b'=À o:=λb o e=>O' _ e
 DF (Ì:={Ì with heap:=Ì.heap.push {cls:=.type "range",data:=.fields #[.int a t,.int b u,.int c v]},toks:=tk}) hA (IsRange.new ..) hc yl (S.trans (SE.keeps _ hk)) (R.keeps hk) T
theorem HJ(hA:iM A d)(G:fO gg cx fs mg mb)(hg:bg Z.scope ("range":Str)=Æ)(hG:∀e q,x≠.Starred e q)(hx:aQ A Z O x (ab Á a)):lK A Z O (.Call (.Name ("range":Str) p) [x] [] pos) Ê (cE Á (.rng1 a)):=by intro U H xs w ae h J s R F E;show oP h λn Î h1 h=>dJ h λyl h=>?_;apply i6 h;show aP (bJ hg) λlA lB=>?_;have fv:Ø [x] Z=(Ê,eval x Z)::Ø [] Z:=jP hG;show ÿ N (cB G F R lA lB (by decide) (v:=.type "range") (by decide +kernel) (bK (.inr ⟨_,N⟩) (å (hx.bind h1 R F λb Ì aj S T ay a0 be=>Ď ?_) fv) fv N));apply yo N be;intro t1;show call_range_1 (rE hA.handled (by decide) (nv (by decide) (by decide) (gi yl) (by decide)) S ay T)
theorem HK(hA:iM A d)(G:fO gg cx fs mg mb)(hg:bg Z.scope ("range":Str)=Æ)(hG:∀e q,x≠.Starred e q)(Gi:∀e q,y≠.Starred e q)(hx:aQ A Z O x (ab Á a))(hy:aQ A Z O y (ab Á b)):lK A Z O (.Call (.Name ("range":Str) p) [x,y] [] pos) Ê (cE Á (.rng2 a b)):=by
 intro U H xs w ae h J s R F E;show oP h λm Î h1 h=>oP h λn Ü h2 h=>dJ h λyl h=>?_;apply i6 h
 simp only[Ň]at yl
 show aP (bJ hg) λlA lB=>?_;have fv:Ø [x,y] Z=(Ê,eval x Z)::Ø [y] Z:=jP hG;have om:Ø [y] Z=(Ê,eval y Z)::Ø [] Z:=jP Gi;show ÿ N (cB G F R lA lB (by decide) (v:=.type "range") (by decide +kernel) (bK (.inr ⟨_,N⟩) (å (hx.bind h1 R F λb Ì aj S T ay a0 be=>å (hy.bind h2 ay a0 λb' da cP dg gr bw eH dH=>Ď ?_) om) fv) fv (by rw[om];rfl)));apply yo N be;intro t1;apply yo N dH;intro t2;show call_range_2 (rE hA.handled (by decide) (nv (by decide) (gi yl.1) (gi yl.2) (by decide)) (S.trans dg) bw (T.trans gr))
theorem HL{x y z:Ó}{a b c:CE}{p pos:Pos}(hA:iM A d)(G:fO gg cx fs mg mb)(hg:bg Z.scope ("range":Str)=Æ)(hG:∀e q,x≠.Starred e q)(Gi:∀e q,y≠.Starred e q)(RJ:∀e q,z≠.Starred e q)(hx:aQ A Z O x (ab Á a))(hy:aQ A Z O y (ab Á b))(hz:aQ A Z O z (ab Á c)):
  lK A Z O (.Call (.Name ("range":Str) p) [x,y,z] [] pos) Ê (cE Á (.rng3 a b c)):=by
 intro U H xs w ae h J s R F E;show oP h λm Î h1 h=>oP h λn Ü h2 h=>oP h λk bC h3 h=>dJ h λyl h=>?_;apply i6 h
 simp only[Ň,bne_iff_ne,ne_eq]at yl
 show aP yl λk1 lg=>?_;show aP k1 λk2 yk=>?_;show aP k2 λr0 Et=>?_;show aP (bJ hg) λlA lB=>?_;have fv:Ø [x,y,z] Z=(Ê,eval x Z)::Ø [y,z] Z:=jP hG;have om:Ø [y,z] Z=(Ê,eval y Z)::Ø [z] Z:=jP Gi;have MM:Ø [z] Z=(Ê,eval z Z)::Ø [] Z:=jP RJ;show ÿ N (cB G F R lA lB (by decide) (v:=.type "range") (by decide +kernel) (bK (.inr ⟨_,N⟩) (å (hx.bind h1 R F λb Ì aj S T ay a0 be=>å (hy.bind h2 ay a0 λb' da cP dg gr bw eH dH=>å (hz.bind h3 bw eH λb'' iu tz iU tD iQ p8 EG=>Ď ?_) MM) om) fv) fv (by rw[om,MM];rfl)));apply yo N be;intro t1;apply yo N dH;intro t2;apply yo N EG;intro t3;have l3:=gi yk;show call_range_3 lg (rE hA.handled lg (nv lg (gi r0) (gi Et) (gi yk)) (S.trans (dg.trans iU)) iQ (T.trans (gr.trans tD))) (.inl (PyProof.noPylong_small (Ŷ (N4 (n:=1000000000) l3.1 l3.2) (by decide))))
theorem Ll(hA:iM A d)(G:fO gg cx fs mg mb)(hg:bg Z.scope ("zip":Str)=Æ)(hG:∀e q,x≠.Starred e q)(Gi:∀e q,y≠.Starred e q)(hx:aQ A Z O x (ab Á a))(hy:aQ A Z O y (ab Á b)):lK A Z O (.Call (.Name ("zip":Str) p) [x,y] [] pos) Æ (cE Á (.zip a b)):=by intro U H xs w ae h J s R F E;rw[rD]at h;show rW h λm Î n Ü h1 h2 h=>?_;show iq h λYu ys' Gp RY h=>?_;apply i6 h;obtain rfl:=mD Gp;obtain rfl:=mD RY;show aP (bJ hg) λlA lB=>?_;have fv:Ø [x,y] Z=(Ê,eval x Z)::Ø [y] Z:=jP hG;have om:Ø [y] Z=(Ê,eval y Z)::Ø [] Z:=jP Gi;show ÿ rfl (cB G F R lA lB (by decide) (v:=.type "zip") (by decide +kernel) (bK (.inr ⟨_,rfl⟩) (å (hx.bind h1 R F λb Ì aj S T ay a0 be=>å (hy.bind h2 ay a0 λb' da cP dg gr bw eH dH=>Ď ?_) om) fv) fv (by rw[om];rfl)));show Lo hA.handled (S.trans dg) bw (be.step ay dg) dH (T.trans gr)
theorem K9(hA:iM A d)(G:fO gg cx fs mg mb)(hg:bg Z.scope ("enumerate":Str)=Æ)(hG:∀e q,x≠.Starred e q)(hx:aQ A Z O x (ab Á a)):lK A Z O (.Call (.Name ("enumerate":Str) p) [x] [] pos) Æ (cE Á (.enm a)):=by intro U H xs w ae h J s R F E;rw[rC]at h;show dI h λl Î h1 h=>ca h λYu Gp h=>?_;apply i6 h;obtain rfl:=mD Gp;show aP (bJ hg) λlA lB=>?_;have fv:Ø [x] Z=(Ê,eval x Z)::Ø [] Z:=jP hG;show ÿ rfl (cB G F R lA lB (by decide) (v:=.type "enumerate") (by decide +kernel) (bK (.inr ⟨_,rfl⟩) (å (hx.bind h1 R F λb Ì aj S T ay a0 be=>Ď (HQ hA.handled S ay be T)) fv) fv rfl))
end
def xV:jR->Nat->Prop
 |.one a,i=>i=a
 |.two a b,i=>i=a\/i=b
section
variable{A:Ñ}{E:Ä->Å->Prop}{J aj:List È}{H Î ae:ag}{s Ì:Å}{Z:Env}{O:List (Str×Nat)}{U aT:aM}{Á:aw}{d:Nat}
theorem eQ.on(F:eQ (bA A) J Z O U h)(hr:∀y i v,O.lookup y=À i->aT i=À v->U i=À v):eQ (bA A) J Z O aT h:=by
 show⟨F.kind,F.glob,F.blt,?_,?_,F.locN,F.locB,F.cellF,F.cellI,F.slots,F.tab,F.stk⟩
 ·show aF F.ns λm hn hm=>⟨m,hn,λx i v a b c=>hm x i v a b (hr x i v a c)⟩
 ·intro x i a b
  show fe (F.cells x i a b) λc u h1 h2 h3=>⟨c,u,h1,h2,λv hv=>h3 v (hr x i v a hv)⟩
def TM(Z:Env)(ts:List Str)(b:È):Prop:=b=Z.locals\/∃x∈ts,Z.cells.lookup x=À b
theorem TM.fm(h:TM Z ts b):FM J Z b:=by
 show â h (λh=>?_) (λq=>aF q λx z h=>?_)
 ·show .inr (.inl h)
 ·show .inr (.inr ⟨x,h⟩)
theorem db.mono(S:db ms J h aj h')(hm:∀b,ms b->ms' b):db ms' J h aj h':=⟨λb o e hb=>S.pres b o e λx=>hb (hm b x),S.dom,S.ext⟩
theorem ph(h:oJ Z.scope O x=À i):O.lookup x=À i/\(Z.kindOf x=À .local\/Z.kindOf x=À .cell):=by
 show dJ h λhk h=>?_
 simp only[ϡ,beq_iff_eq]at hk
 show⟨h,hk⟩
theorem sA(h:fX Z.scope O (.Name x p)=À t):∃i,t=.one i/\O.lookup x=À i/\(Z.kindOf x=À .local\/Z.kindOf x=À .cell):=by show ca h λi h1 h=>?_;apply dM h;show⟨i,N,ph h1⟩
structure yu(Z:Env)(O:List (Str×Nat))(x:Str)(i:Nat):Prop where
 lk:O.lookup x=À i
 kd:Z.kindOf x=À .local\/Z.kindOf x=À .cell
inductive QE(Z:Env)(O:List (Str×Nat)):Ó->jR->Prop
 |one {x:Str} {p:Pos} {i:Nat}:yu Z O x i->QE Z O (.Name x p) (.one i)
 |two {x y:Str} {p q:Pos} {k:Nat} {pp:Pos} {i j:Nat}:yu Z O x i->yu Z O y j->QE Z O (.Tuple [.Name x p,.Name y q] k pp) (.two i j)
theorem yu.of(h:oJ Z.scope O x=À i):yu Z O x i:=aP (ph h) λa b=>⟨a,b⟩
theorem qh(h:fX Z.scope O t=À r):QE Z O t r:=by
 unfold fX at h;cases hn:dx t with
 |some x=>rw[hn]at h;show ca h λi h1 h=>?_;apply dM h;show ä (bH hn) λp ht=>ht▸.one (.of h1)
 |none=>
  rw[hn]at h;show ca h λl hl h=>Bk h λa b J5 h=>iq h λx y hx hy h=>?_;show aP (zy h) λz h=>iq h λi j h1 h2 h=>?_;apply dM h;show mM (qe hl) λk pp ht=>ä (bH hx) λp hp=>ä (bH hy) λq hq=>?_;have e:t=.Tuple [.Name x p,.Name y q] k pp:=by rw[ht,ik J5,show a=_ from hp,show b=_ from hq]
  show e▸.two (.of h1) (.of h2)
theorem QE.all(h:QE Z O t r):(∀i,xV r i->∃x∈bh t,O.lookup x=À i)/\∀x∈bh t,∃i,O.lookup x=À i/\xV r i:=by
 cases h with
 |one n=>show⟨λi hi=>⟨_,G',(show i=_ from hi)▸n.lk⟩,λx hx=>⟨_,(W'.mp (show x∈[_] from hx))▸n.lk,N⟩⟩
 |two n m=>show⟨λi hi=>â (show i=_\/i=_ from hi) (λq=>⟨_,G',q▸n.lk⟩) λq=>⟨_,J' _ G',q▸m.lk⟩,λx hx=>â (ċ.mp (show x∈[_,_] from hx)) (λq=>⟨_,q▸n.lk,.inl N⟩) λq=>⟨_,W'.mp q▸m.lk,.inr N⟩⟩
theorem TM.one(hx:x∈ts)(b:È)(h:NM Z x b):TM Z ts b:=h.imp id λq=>⟨x,hx,q⟩
theorem ER(h:tF x=À p):Cg x=À [p.1,p.2]:=by
 cases x with
 |tup l=>
  match l,h with
  |[a,b],h=>rw[<-sm h];rfl
 |_=>show no h
theorem Lu(hh:A.handled=Ã)(pzJ:yu Z O x i)(M:yu Z O y j)(hp:(jR.two i j).put v U=À aT)(R:ak gg J H s.heap)(F:eQ (bA A) J Z O U s.heap)(hv:VR gg J s.heap v a)
  (h:∀h' tk,db (TM Z [x,y]) J s.heap J h'->ak gg J H h'->eQ (bA A) J Z O aT h'->(∀{v:V} {a:Ä},VR gg J s.heap v a->VR gg J h' v a)->Q () {s with heap:=h',toks:=tk}) :
  É mo A (assign (.Tuple [.Name x p,.Name y q] k pp) Z a) Q E s:=by
 show Bk hp λa' b' hx hp=>?_;rw[<-sm hp]at h;show Mk (vT (ER hx) hv) λc vs e ht t AZ t=>fe (vh AZ) λva vb q3 Qg hvb=>?_;rw[q3]at ht;apply ba e;show wpAny_assign_Tuple hh ht N N λbM hx=>?_;have hk:∀b o,s.heap.get? b=À o->bM.get? b=À o:=λb o e=>hx b o (Ł (Ő e)) e;have iR:SE J s.heap J bM:=SE.keeps _ hk;show Â (ß (Ĳ (fK (s:={s with heap:=bM}) (F.step R iR) (R.keeps hk) pzJ.lk pzJ.kd (Qg.step R iR) λjA SK dg bw eH NC=>Â (ß (Ĳ (fK (s:={s with heap:=jA,toks:=SK}) eH bw M.lk M.kd (NC (hvb.step R iR)) λeE rJ iU iQ p8 pr=>Ç (h eE rJ ⟨λb o e hb=>(dg.pres b o (hk b o e) λz=>hb (TM.one G' b z)).then λo' e'=>iU.pres b o' e' λz=>hb (TM.one (J' _ G') b z),λb o e=>(dg.dom b o (hk b o e)).elim (iU.dom b),[],(Ľ _).symm,λt hm=>(nomatch hm)⟩ iQ p8 λx=>pr (NC (x.step R iR)))))))))
theorem ve(hh:A.handled=Ã)(hc:fX Z.scope O t=À r)(hp:r.put x U=À aT)(R:ak gg J H s.heap)(F:eQ (bA A) J Z O U s.heap)(hv:VR gg J s.heap x a)
  (h:∀h' tk,db (TM Z (bh t)) J s.heap J h'->ak gg J H h'->eQ (bA A) J Z O aT h'->(∀{v:V} {a:Ä},VR gg J s.heap v a->VR gg J h' v a)->Q () {s with heap:=h',toks:=tk}) :
  É mo A (assign t Z a) Q E s:=by
 have c:=qh hc;clear hc;cases c with
 |one n=>rw[<-sm hp]at h;show Ĳ (fK F R n.lk n.kd hv λh' tk S R' F' up=>h h' tk (S.mono (TM.one G')) R' F' up)
 |two n m=>show Lu hh n m hp R F hv h
end
noncomputable def Ev(nx:Nat)(U:aM):aM:=λi=>if i<nx then U i else Ã
theorem cS:∀(names:List (Str×Ĉ)) (n:Nat) (acc:List (Str×È)),ì n names acc=ì n names []++acc
 |[],_,_=>rfl
 |(x,k)::r,n,acc=>by
  unfold ì;split
  ·rw[cS r (n+1) ((x,n)::acc),cS r (n+1) [(x,n)]];simp
  ·show cS r n acc
set_option tactic.hygienic true in
theorem iX:∀(names:List (Str×Ĉ)) (n:Nat) {x:Str} {c:È},(x,c)∈ì n names []->(x,.cell)∈names
 |[],_,_,_,h=>by simp [ì]at h
 |(y,k)::r,n,x,c,h=>by
  unfold ì at h;split at h
  ·rename_i hk
   rw[cS]at h;show â (ğ.mp h) (λh=>?_) (λh=>?_)
   ·show J' _ (iX r _ h)
   ·simp at h
    rw[h.1,beq_iff_eq.mp hk];show G'
  ·show J' _ (iX r _ h)
theorem dv{α:Type}{x:Str}{c:α}{l:List (Str×α)}(h:(x,c)∈l):∃c',l.lookup x=À c':=by
 induction l with
 |nil=>show nomatch h
 |cons p r ih=>
  cases p with|mk y b=>
  rw[Ϗ];cases hb:x==y with
  |true=>show⟨b,N⟩
  |false=>
   show â (ċ.mp h) (λh=>?_) (λh=>?_)
   ·cases h;simp at hb
   ·show ih h
theorem eJ:∀(names:List (Str×Ĉ)) (n:Nat) {x:Str},(x,.cell)∈names->∃c,(x,c)∈ì n names []
 |(y,k)::r,n,x,h=>by
  unfold ì;show â (ċ.mp h) (λh=>?_) (λh=>?_)
  ·cases h
   rw[if_pos (show (NameKind.cell==NameKind.cell)=Æ from rfl),cS];show⟨n,by simp⟩
  ·split
   ·show ä (eJ r (n+1) h) λc hc=>?_
    rw[cS];show⟨c,ž _ hc⟩
   ·show eJ r n h
noncomputable def dD(Z:Env):List (Str×Ĉ)->List (Str×È)->List (Str×È)
 |[],acc=>acc
 |(n,k)::r,acc=>if k==.free then (match Z.cells.lookup n with|some c=>dD Z r ((n,c)::acc)|none=>acc) else dD Z r acc
theorem ls(scope:à)(h:∀n,(n,NameKind.free)∈scope.names->∃c,Z.cells.lookup n=À c):closureFor scope Z=pure (dD Z scope.names []):=by
 unfold closureFor
 have gR:∀(l:List (Str×Ĉ)) (acc:List (Str×È)),(∀n,(n,NameKind.free)∈l->∃c,Z.cells.lookup n=À c) ->
   (forIn l acc λ(x:Str×Ĉ) (cs:List (Str×È))=>(match x with|(name,kind)=>if (kind==.free)=Æ then (do let c <-cellOf Z name;pure (ForInStep.yield ((name,c)::cs))) else pure (ForInStep.yield cs):Sem (ForInStep (List (Str×È)))))=(pure (dD Z l acc):Sem (List (Str×È))):=by
  intro l
  induction l with
  |nil=>intro acc _;rfl
  |cons x r ih=>
   intro acc h;obtain ⟨n,k⟩:=x;rw[adt];by_cases hk:(k==NameKind.free)=Æ
   ·show ä (h n ((beq_iff_eq.mp hk)▸G')) λc hc=>?_
    have e1:cellOf Z n=pure c:=by unfold cellOf;rw[hc]
    simp only[hk,if_true,e1,pure_bind]
    rw[ih _ λn hn=>h n (J' _ hn)]
    simp only[dD,hk,if_true,hc]
   ·simp only[hk,abY,if_false,pure_bind]
    rw[ih _ λn hn=>h n (J' _ hn)]
    simp only[dD,hk,abY,if_false]
 rw[show (do
   let mut cs:=[]
   for (name,kind) in scope.names do
    if kind==.free then cs:=(name,<-cellOf Z name)::cs
   return cs:Sem (List (Str×È)))=(forIn scope.names [] λ(x:Str×Ĉ) (cs:List (Str×È))=>(match x with|(name,kind)=>if (kind==.free)=Æ then (do let c <-cellOf Z name;pure (ForInStep.yield ((name,c)::cs))) else pure (ForInStep.yield cs):Sem (ForInStep (List (Str×È)))))>>=λcs=>pure cs from N,gR _ _ h]
 rfl
set_option tactic.hygienic true in
theorem kG:∀{l:List (Str×Ĉ)} {acc:List (Str×È)} {n:Str} {c:È},(n,c)∈dD Z l acc->((n,.free)∈l/\Z.cells.lookup n=À c)\/(n,c)∈acc
 |[],_,_,_,h=>.inr h
 |(x,k)::r,acc,n,c,h=>by
  unfold dD at h;split at h
  ·rename_i hk
   split at h
   ·rename_i c' hc
    show â (kG h) (λq=>aP q λh1 h2=>?_) (λh1=>?_)
    ·show .inl ⟨J' _ h1,h2⟩
    ·show â (ċ.mp h1) (λh1=>?_) (λh1=>?_)
     ·cases h1;show .inl ⟨by rw[beq_iff_eq.mp hk];show G',hc⟩
     ·show .inr h1
   ·show .inr h
  ·show â (kG h) (λq=>aP q λh1 h2=>?_) (λh1=>?_)
   ·show .inl ⟨J' _ h1,h2⟩
   ·show .inr h1
set_option tactic.hygienic true in
theorem sD:∀(acc:List (Str×È)),(∀n,(n,NameKind.free)∈l->∃c,Z.cells.lookup n=À c)->(∀n c,(n,c)∈acc->(n,c)∈dD Z l acc)/\∀{n c},(n,NameKind.free)∈l->Z.cells.lookup n=À c->(n,c)∈dD Z l acc:=by
 induction l with
 |nil=>show λacc _=>⟨λ_ _ h=>h,λh=>nomatch h⟩
 |cons p r ih=>
  intro acc hf;cases p with|mk x k=>
  unfold dD;have Ep:∀n,(n,NameKind.free)∈r->∃c,Z.cells.lookup n=À c:=λn hn=>hf n (J' _ hn);split
  ·rename_i hk
   show ä (hf x ((beq_iff_eq.mp hk)▸G')) λc' ff=>?_;rw[ff];show aP (ih ((x,c')::acc) Ep) λi1 i2=>⟨λn c h=>i1 n c (J' _ h),λ{n c} h e=>â (ċ.mp h) (λh=>?_) (λh=>?_)⟩
   ·cases h
    apply fQ (sm ((ff).symm.trans e));show i1 _ _ G'
   ·show i2 h e
  ·rename_i hk
   show aP (ih acc Ep) λi1 i2=>⟨i1,λ{n c} h e=>â (ċ.mp h) (λh=>?_) (λh=>?_)⟩
   ·cases h;simp at hk
   ·show i2 h e
theorem mj{i:Nat}{x:Str}{ts:List Str}:∀{n:Nat},(ts.zipIdx n).lookup x=À i->n<=i/\ts[i-n]?=À x:=by
 induction ts with
 |nil=>show λh=>no h
 |cons t ts ih=>
  intro n h;rw[adU,Ϗ]at h;cases hb:x==t with
  |true=>rw[hb]at h;cases h;show⟨ē _,by rw[beq_iff_eq.mp hb];simp⟩
  |false=>rw[hb]at h;show aP (ih h) λh1 h2=>⟨(by show jL (y3 0xc1210b1013ba1820 N (iL h1) (iA _ _))),?_⟩;have:i-n=(i-(n+1))+1:=Ű (by show jL (y6 0xc4512ba181010ba03213ba183412be125 N (iA _ _) (iS _ _) (iA _ _) (ϯ (jL (y3 0xc1210b1013ba1820 N (iL h1) (iA _ _)))))) (by show jL (y6 0xc5213ba181012ba183210ba15412be043 N (iA _ _) (iA _ _) (iS _ _) (ϯ (jL (y2 0xc1010b10 N (iL h1))))));rw[this,aer];show h2
structure lJ(scope bT:à)(O:List (Str×Nat))(nx:Nat)(ts:List Str):Prop where
 kind:scope.kind=.function
 kinds:∀n k,(n,k)∈scope.names->k=.local\/k=.cell\/k=.free\/k=.globalImplicit
 uniq:∀n k,(n,k)∈scope.names->scope.names.lookup n=À k
 free:∀n,(n,NameKind.free)∈scope.names->(bT.names.lookup n=À .cell\/bT.names.lookup n=À .free)/\∃i,O.lookup n=À i
 tgts:∀t∈ts,scope.names.lookup t=À .local\/scope.names.lookup t=À .cell
 below:∀n i,(n,i)∈O->i<nx
 lev:f0 (jh scope bT)=Ê
theorem sE(h:tO scope bT O nx ts=Æ):lJ scope bT O nx ts:=by
 simp only[tO,Ň,Ϫ,ϡ,beq_iff_eq,decide_eq_true_eq,bne_iff_ne,ne_eq,abE,ϔ]at h
 show aP h λk1 h8=>?_;show aP k1 λk5 h7=>?_;show aP k5 λk6 h6=>?_;obtain ⟨⟨⟨⟨h1,h2⟩,h3⟩,h4⟩,_⟩:=k6;show⟨h1,λn k hm=>?_,λn k hm=>h3 (n,k) hm,λn hm=>?_,h6,λn i hm=>h7 (n,i) hm,h8⟩
 ·have:=h2 (n,k) hm
  rcases this with ((h|h)|h)|h
  ·show .inl h
  ·show .inr (.inl h)
  ·show .inr (.inr (.inl h))
  ·show .inr (.inr (.inr h))
 ·show â (h4 (n,.free) hm) (λh=>?_) (λh=>?_)
  ·show absurd N h
  ·show h
theorem dU(scope:à)(Z:Env):relabel scope Z=jh scope Z.scope:=by unfold relabel jh Env.kindOf;rfl
theorem xj{bT:à}{x:Str}{k:Ĉ}{names:List (Str×Ĉ)}(h:names.lookup x=À k):
  (names.map λ(n,k)=>if (k==NameKind.free&&bT.kind==.function&&bT.names.lookup n==À .cell) then (n,NameKind.cell) else (n,k)).lookup x=À (if (k==NameKind.free&&bT.kind==.function&&bT.names.lookup x==À .cell) then .cell else k):=by
 induction names with
 |nil=>show no h
 |cons p r ih=>
  cases p with|mk n k'=>
  show List.lookup x ((if (k'==NameKind.free&&bT.kind==.function&&bT.names.lookup n==À .cell)=Æ then (n,NameKind.cell) else (n,k'))::_)=_;cases hx:x==n with
  |true=>
   simp only[Ϗ,hx]at h
   cases h;have:x=n:=by simpa using hx
   apply ba this;split<;>simp
  |false=>
   simp only[Ϗ,hx]at h
   split<;>(simp only[Ϗ,hx];show ih h)
theorem tc{scope bT:à}{x:Str}{k:Ĉ}(h:scope.names.lookup x=À k):(jh scope bT).names.lookup x=À (if (k==NameKind.free&&bT.kind==.function&&bT.names.lookup x==À .cell) then .cell else k):=xj h
theorem fF(x:Str):∀(a b:List (Str×α)),(a++b).lookup x=match a.lookup x with|some v=>À v|none=>b.lookup x
 |[],b=>rfl
 |(y,v)::a,b=>by
  rw[aes,Ϗ,Ϗ];cases x==y with
  |true=>rfl
  |false=>show fF x a b
theorem rY{O:List (Str×Nat)}{x:Str}{i:Nat}{names:List (Str×Ĉ)}(h:(names.filterMap λ(n,k)=>if k==.free then (O.lookup n).map λi=>(n,i) else Ã).lookup x=À i):(x,.free)∈names/\O.lookup x=À i:=by
 induction names with
 |nil=>show no h
 |cons p r ih=>
  cases p with|mk n k=>
  rw[adm]at h;by_cases hk:(k==NameKind.free)=Æ
  ·simp only[hk,if_true]at h
   cases hn:O.lookup n with
   |none=>rw[hn]at h;show aP (ih h) λh1 h2=>⟨J' _ h1,h2⟩
   |some j=>
    rw[hn]at h
    simp only[afr,Ϗ]at h
    cases hb:x==n with
    |true=>
     rw[hb]at h;cases h;have:x=n:=by simpa using hb
     apply ba this;show⟨(beq_iff_eq.mp hk)▸G',hn⟩
    |false=>rw[hb]at h;show aP (ih h) λh1 h2=>⟨J' _ h1,h2⟩
  ·simp only[hk,abY,if_false]at h
   show aP (ih h) λh1 h2=>⟨J' _ h1,h2⟩
set_option tactic.hygienic true in
theorem cu{scope:à}{O:List (Str×Nat)}{nx:Nat}{ts:List Str}{x:Str}{i:Nat}(h:(cq scope O nx ts).lookup x=À i):(nx<=i/\ts[i-nx]?=À x)\/((x,.free)∈scope.names/\O.lookup x=À i):=by
 unfold cq at h;rw[fF]at h;split at h
 ·rename_i v hv
  cases h;show .inl (mj hv)
 ·show .inr (rY h)
section
variable{A:Ñ}{E:Ä->Å->Prop}{J aj:List È}{H:ag}{s:Å}{Z:Env}{O:List (Str×Nat)}{U:aM}
theorem AG(F:eQ (bA A) J Z O U h)(K:lJ scope Z.scope O nx ts):∀n,(n,NameKind.free)∈scope.names->∃c,Z.cells.lookup n=À c:=λn hn=>by obtain ⟨h1,i,hi⟩:=K.free n hn;show gm (F.cells n i hi h1) λc u hc z=>⟨c,hc⟩
end
def kH(A:Ñ)(E:Ä->Å->Prop)(J:List È)(H:ag)(s:Å)(Z:Env)(O:List (Str×Nat))(U:aM)(scope:à)(nx:Nat)(ts:List Str)(Q:Env->Å->Prop):Prop:=∀(K:lJ scope Z.scope O nx ts) (R:ak gg J H s.heap) (F:eQ (bA A) J Z O U s.heap) (h:∀cenv h',(∀b o,s.heap.get? b=À o->h'.get? b=À o)->cenv.scope=scope->eQ (bA A) J {cenv with scope:=relabel scope Z} (cq scope O nx ts) (Ev nx U) h'->s.heap.get? cenv.locals=Ã ->
   (∀x∈ts,∀c,cenv.cells.lookup x=À c->s.heap.get? c=Ã)->(∀x c,cenv.cells.lookup x=À c->s.heap.get? c=Ã\/∃y,Z.cells.lookup y=À c)->Q cenv {s with heap:=h'}),É mo A (newFunctionEnv scope Z.globals (dD Z scope.names []) [] Z.qual Ã .none (À Z)) Q E s
namespace comp_envH
def kc:=hc (NZ kH) ({},λz z=>True,[],[],dS,default,[],λz=>Ã,default,0,[],λz z=>True)
def A:=kc.1
def E:=kc.2.1
def J:=kc.2.2.1
def H:=kc.2.2.2.1
def s:=kc.2.2.2.2.1
def Z:=kc.2.2.2.2.2.1
def O:=kc.2.2.2.2.2.2.1
def U:=kc.2.2.2.2.2.2.2.1
def scope:=kc.2.2.2.2.2.2.2.2.1
def nx:=kc.2.2.2.2.2.2.2.2.2.1
def ts:=kc.2.2.2.2.2.2.2.2.2.2.1
def Q:=kc.2.2.2.2.2.2.2.2.2.2.2
set_option tactic.hygienic true in
theorem kt:kH A E J H s Z O U scope nx ts Q:=by
 intro K R F h;have hf:=AG F K
 simp only[newFunctionEnv,Option.isSome_some,if_true]
 show Â (wpAny_alloc (Â (wpAny_layCells _ (λname kind cells=>by cases VL:kind==NameKind.cell<;>simp [VL]) _ _ _ _ ?_)));have ok:=cellsFrom_ok scope.names (s.heap.push {cls:=.type "dict",data:=.dict #[]}) (s.heap.objs.size+1) [] ⟨λ_ _ hm=>(nomatch hm),List.Pairwise.nil⟩ (by rw[ϕ];show ē _);rw[ϕ]at ok;rw[show ({s with heap:=s.heap.push {cls:=.type "dict",data:=.dict #[]}}:Å).heap.objs.size=s.heap.objs.size+1 from ϕ ..];rw[cS];rw[adF];show Â (Ç (Ç ?_));have hk:∀b o,s.heap.get? b=À o->(pushCells (s.heap.push {cls:=.type "dict",data:=.dict #[]}) scope.names).get? b=À o:=λb o e=>pushCells_keeps _ _ b o (O' _ e);have hG:=(Heap.Ns.new s.heap (.type "dict")).keeps (pushCells_keeps scope.names (s.heap.push {cls:=.type "dict",data:=.dict #[]}));generalize pushCells (s.heap.push {cls:=.type "dict",data:=.dict #[]}) scope.names=h' at ok hk hG;have S:SE J s.heap J h':=SE.keeps _ hk
 -- the cells
 have rk:∀{x c},(ì (s.heap.objs.size+1) scope.names []).lookup x=À c->h'.IsCell c Ã/\s.heap.objs.size+1<=c/\scope.names.lookup x=À .cell:=λ{x c} e=>by have hm:=mem_of_lookup e;show⟨(ok.empty x c hm).1,(ok.empty x c hm).2,K.uniq _ _ (iX _ _ hm)⟩
 have nY:∀{x c},(dD Z scope.names []).lookup x=À c->Z.cells.lookup x=À c/\scope.names.lookup x=À .free:=λ{x c} e=>by
  show â (kG (mem_of_lookup e)) (λq=>aP q λh1 h2=>?_) (λh1=>?_)
  ·show⟨h2,K.uniq _ _ h1⟩
  ·cases h1
 have GX:∀{x c},(ì (s.heap.objs.size+1) scope.names []++dD Z scope.names []).lookup x=À c->(ì (s.heap.objs.size+1) scope.names []).lookup x=À c\/(dD Z scope.names []).lookup x=À c:=λ{x c} e=>by
  rw[fF]at e;split at e
  ·rename_i v hv;cases e;show .inl hv
  ·show .inr e
 have t8:∀{c},s.heap.objs.size+1<=c->s.heap.get? c=Ã:=λhc=>g7 (z' (ϓ _) hc);show h {scope,locals:=s.heap.objs.size,globals:=Z.globals,cells:=ì (s.heap.objs.size+1) scope.names []++dD Z scope.names [],qual:=Z.qual,func:=Ã,code:=Z.code,frame:=Z.frame,builtins:=Z.builtins} h' hk N ?_ (aG _) ?_ ?_
 ·show⟨?_,F.glob,F.blt,⟨_,hG,?_⟩,?_,aW R (aG _),aV R (aG _),?_,?_,?_,λq=>?_,F.stk.to λL o es ep h1 h2 h3=>⟨⟨o,es,ep,hk L o h1,h2⟩,h3⟩⟩
  rotate_right
  ·have q':f0 (relabel scope Z)=Æ:=q
   rw[dU,K.lev]at q';show absurd q' Ļ
  ·show (relabel scope Z).kind=_
   show K.kind
  ·intro x i v hx Es ym
   exfalso
   show â (cu hx) (λq=>aP q λh1 h2=>?_) (λq=>aP q λh1 h2=>?_)
   ·simp [Ev,ľ.mpr h1]at ym
   ·have e1:(relabel scope Z).names.lookup x=À .local:=Es
    rw[dU,tc (K.uniq _ _ h1)]at e1;split at e1<;>cases e1
  ·intro x i hx Es
   show â (cu hx) (λq=>aP q λh1 h2=>?_) (λq=>aP q λh1 h2=>?_)
   ·have ht:=K.tgts x (Ĥ h2)
    have hc:scope.names.lookup x=À .cell:=by
     show â ht (λht=>?_) (λht=>?_)
     ·have e1:(relabel scope Z).names.lookup x=À .local:=by
       rw[dU,tc ht];rfl
      show â Es (λq=>?_) (λq=>?_)
      ·have q':(relabel scope Z).names.lookup x=À .cell:=q
       rw[e1]at q';cases q'
      ·have q':(relabel scope Z).names.lookup x=À .free:=q
       rw[e1]at q';cases q'
     ·show ht
    show ä (eJ scope.names (s.heap.objs.size+1) (mem_of_lookup hc)) λc Zz=>ä (dv Zz) λc' ff=>⟨c',Ã,?_,(rk ff).1,λv hv=>?_⟩
    ·show (ì (s.heap.objs.size+1) scope.names []++dD Z scope.names []).lookup x=À c'
     rw[fF,ff]
    ·simp [Ev,ľ.mpr h1]at hv
   ·obtain ⟨h3,j,hj⟩:=K.free x h1
    show fe (F.cells x i h2 h3) λc u hc OG hv=>ä (dv ((sD [] hf).2 h1 hc)) λc' ff=>?_;have My:c'=c:=by have:=(nY ff).1;rw[hc]at this;show(Option.some.inj this).symm
    subst My;show⟨c',u,?_,OG.keeps hk,λv sS=>?_⟩
    ·show (ì (s.heap.objs.size+1) scope.names []++dD Z scope.names []).lookup x=À c'
     rw[fF];cases q:(ì (s.heap.objs.size+1) scope.names []).lookup x with
     |none=>show ff
     |some z=>have:=(rk q).2.2;rw[K.uniq _ _ h1]at this;cases this
    ·have:U i=À v:=by
      unfold Ev at sS;split at sS
      ·show sS
      ·show no sS
     show aF (hv v this) λa h4 h5=>⟨a,h4,h5.step R S⟩
  ·intro x c e
   show â (GX e) (λe=>?_) (λe=>?_)
   ·show io (rk e) λh1 h2 _=>⟨⟨_,h1⟩,aW R (t8 h2),ō h2,aV R (t8 h2)⟩
   ·show aP (nY e) λh1 _=>Jy (F.cellF x c h1) λk2 h2 h3 h4=>?_;show ä k2 λu hu=>?_
    show⟨⟨u,hu.keeps hk⟩,h2,Ł hu.lt,h4⟩
  ·intro x y c e1 e2
   rcases GX e1 with e1|e1<;>show â (GX e2) (λe2=>?_) (λe2=>?_)
   ·show name_of_addr ok.apart (mem_of_lookup e1) (mem_of_lookup e2)
   ·exfalso
    show io (rk e1) λ_ h2 _=>aP (F.cellF y c (nY e2).1) λk3 _=>?_;show ä k3 λu hu=>?_;show absurd hu.lt (ľ.mpr (z' (ϓ _) h2))
   ·exfalso
    show io (rk e2) λ_ h2 _=>aP (F.cellF x c (nY e1).1) λk4 _=>?_;show ä k4 λu hu=>?_;show absurd hu.lt (ľ.mpr (z' (ϓ _) h2))
   ·show F.cellI x y c (nY e1).1 (nY e2).1
  ·intro x y i e1 e2
   rcases cu e1 with ⟨h1,h2⟩|⟨h1,h2⟩<;>show â (cu e2) (λq=>aP q λh3 h4=>?_) (λq=>aP q λh3 h4=>?_)
   ·rw[h2]at h4;show Option.some.inj h4
   ·have:=K.below _ _ (mem_of_lookup h4);lia
   ·have:=K.below _ _ (mem_of_lookup h2);lia
   ·show F.slots x y i h2 h4
 ·intro x hx c e
  show â (GX e) (λe=>?_) (λe=>?_)
  ·show t8 (rk e).2.1
  ·exfalso
   have:=(nY e).2;rcases K.tgts x hx with q|q<;>(rw[q]at this;cases this)
 ·intro x c e
  show â (GX e) (λe=>?_) (λe=>?_)
  ·show .inl (t8 (rk e).2.1)
  ·show .inr ⟨x,(nY e).1⟩
end comp_envH
theorem Fi:kH A E J H s Z O U scope nx ts Q:=hk (P:=NZ kH) comp_envH.kt (A,E,J,H,s,Z,O,U,scope,nx,ts,Q)
def NT(h:Ô)(b:È):Prop:=∀o,h.get? b=À o->¬ j3 o
theorem eI.nt(x:eI h b):NT h b:=λo e=>by show aF x λo' e' hn=>?_;apply ba (sm ((e).symm.trans e'));show hn.not
section
variable{A:Ñ}{E:Ä->Å->Prop}{J aj ļ:List È}{H:ag}{s Ý:Å}{Z:Env}{O:List (Str×Nat)}{U:aM}{wr:List È}
theorem Mv.tupT(M:Mv wr J h h')(hw:∀b∈wr,NT h b):∀b o,h.get? b=À o->j3 o->b∉J->h'.get? b=À o/\b∉J:=
 λb o e hs hn=>⟨M b o (λhb=>hw b hb o e hs) hn e,hn⟩
theorem Mv.vrT(M:Mv wr J h h')(hw:∀b∈wr,NT h b)(x:VR gg J h v a):VR gg J h' v a:=x.stepT (λz z e=>e) (M.tupT hw)
theorem Mv.vrsT(M:Mv wr J h h')(hw:∀b∈wr,NT h b)(x:bz gg J h l vs):bz gg J h' l vs:=x.stepT (λz z e=>e) (M.tupT hw)
theorem ak.mvT(R:ak gg J H h)(M:∀b o,b∉wr->h.get? b=À o->h'.get? b=À o)(hw:∀b∈wr,NT h b)(hn:∀b∈wr,b∉J)(hB:∀b∈wr,gg.B.get? b=Ã):ak gg J H h':=by have M':Mv wr J h h':=λb o h1 z e=>M b o h1 e;show⟨λb o e=>M b o (λhb=>by rw[hB b hb]at e;show no e) (R.base b o e),R.fresh,R.len,R.nodup,λi a m h1 h2=>?_,R.tabs⟩;show(R.objs i a m h1 h2).stepT (λz z e=>e) (M'.tupT hw) λo e=>M _ o (λhb=>hn _ hb (Ĥ h1)) e
theorem eQ.mv(F:eQ (bA A) J Z O U h)(M:Mv wr J h h')(hw:∀b∈wr,NT h b)(hL:Z.locals∉wr)(hC:∀x c,Z.cells.lookup x=À c->c∉wr)(hS:∀e∈(bA A),∀L,e.frame=À L->L∉wr):eQ (bA A) J Z O U h':=by
 show aF F.ns λm hn hm=>?_
 have wR:∀x c u,Z.cells.lookup x=À c->h.IsCell c u->h'.IsCell c u:=λx c u e y=>by show aF y λo ho hd=>⟨o,M _ _ (hC x c e) (F.cellF x c e).2.1 ho,hd⟩
 show⟨F.kind,F.glob,F.blt,⟨m,?_,λx i v a b c=>?_⟩,λx i a b=>?_,F.locN,F.locB,λx c e=>?_,F.cellI,F.slots,F.tab,λe he=>?_⟩
 rotate_right
 ·obtain ⟨k1,L,o,es,ep,k2,k3,k4,k5,k6⟩:=F.stk e he
  show⟨k1,L,o,es,ep,k2,M L o (hS e he L k2) k5 k3,k4,k5,k6⟩
 ·show oS hn λo es ep ho r=>⟨o,es,ep,M _ _ hL F.locN ho,r⟩
 ·show aF (hm x i v a b c) λy h1 h2=>⟨y,h1,M.vrT hw h2⟩
 ·show fe (F.cells x i a b) λc u h1 h2 h3=>⟨c,u,h1,wR x c u h1 h2,λv hv=>aF (h3 v hv) λy h4 h5=>⟨y,h4,M.vrT hw h5⟩⟩
 ·show Jy (F.cellF x c e) λk8 h1 h2 h3=>?_;show ä k8 λu hu=>?_
  show⟨⟨u,wR x c u e hu⟩,h1,h2,h3⟩
theorem eQ.mvN(F:eQ (bA A) J Z O U h)(M:Mv wr J h h')(hw:∀b∈wr,eI h b)(hL:Z.locals∉wr)(hC:∀x c,Z.cells.lookup x=À c->c∉wr):eQ (bA A) J Z O U h':=
 F.mv M (λb hb=>(hw b hb).nt) hL hC λe he L hf hb=>by obtain ⟨_,L',o,es,ep,k2,k3,k4,_⟩:=F.stk e he;show aF (hw L hb) λo' e' ho=>?_;rw[hf]at k2;cases k2;rw[k3]at e';cases e';show ho.dict _ _ k4
theorem db.mv(S:db ms ļ aY J h)(R':ak gg J H h')(M:Mv wr J h h')(Z5:∀b,b∈ļ->ms b)(hf:∀b∈wr,aY.get? b=Ã):db ms ļ aY J h':=by
 have nw:∀b o,aY.get? b=À o->b∉wr:=λb o e hb=>by rw[hf b hb]at e;show no e
 show⟨λb o e hb=>(S.pres b o e hb).then λo' e'=>.inl (M b o' (nw b o e) (S.notin e λq=>hb (Z5 b q)) e'),λb o e=>?_,S.ext⟩;by_cases hb:b∈J
 ·show R'.live hb
 ·show ä (S.dom b o e) λo' e'=>⟨o',M b o' (nw b o e) hb e'⟩
theorem pg(f:Ó->Bool->Sem (ForInStep Bool))(hf:∀c,f c Ê=pure (.yield Ê)):∀(ifs:List Ó) {Q:Bool->Å->Prop},Q Ê s->É mo A (forIn ifs Ê f) Q E s
 |[],Q,h=>by rw[adF];show Ç h
 |c::r,Q,h=>by rw[adt,hf];show Â (Ç (pg f hf r h))
theorem th{F':Ó->Option CE}{Á:aw}(ih:∀e c,F' e=À c->fC A Z O e (bW Á c)):∀{ifs:List Ó} {cs:gF},cj F' ifs=À cs->∀ ⦃U H b ae⦄,cW Á cs U H=À (b,ae)->∀ ⦃J s⦄,ak gg J H s.heap->eQ (bA A) J Z O U s.heap ->
  ∀E,É mo A (forIn ifs Æ λc r=>if r=Æ then do let ok <-isTrue c Z (eval c Z);pure (ForInStep.yield ok) else pure (ForInStep.yield r)) (B7 J s b ae) E s
 |[],cs,h=>by intro U H b ae he J s R F E;obtain rfl:=sm h;show aP (nS he) λSc Sd=>?_;apply fQ Sc;apply fQ Sd;rw[adF];show Ç ⟨rfl,J,SE.refl _ _,R,bP.refl _⟩
 |e::r,cs,h=>by
  show iq h λc Fm h1 h2 h=>?_;apply dM h;intro U H b ae he J s R F E;rw[adt]
  simp only[if_true]
  show j8 he λp Î hx he=>Â (Â ((ih e c h1).bind (bN hx) R F λÌ aj S T ay a0=>Ç ?_));cases p with
  |true=>show Ï (th ih h2 he ay a0 E) (λz z x=>B7.after S T x) λz z x=>x
  |false=>apply du he;show pg _ (λz=>by simp) r ⟨rfl,aj,S,ay,T⟩
end
def fP(A:Ñ)(R:Result->Å->Prop)(s:Å)(elt:Ó)(aI:Ó)(cU:Ó)(ifs:List Ó)(scope:à)(pos:Pos)(it:Ä)(acc:Ä)(Z:Env)(I:Nat->Å->Prop)(n:Nat):Prop:=∀(xX:∀n s,I n s->∀E,É mo A (Ĵ it) (λr Ì=>match r with
   |none=>R (.ok .next) Ì
   |some v=>É mo A (Ń aI it v) (λz Nz=>É mo A (assign aI Z v) (λz da=>
     É mo A (forIn ifs Æ λc r=>if r=Æ then do let ok <-isTrue c Z (eval c Z);pure (ForInStep.yield ok) else pure (ForInStep.yield r)) (λok iu=>
      if ok=Æ then É mo A (eval elt Z) (λx Ag=>
       É mo A (Á (.builtin "list.append") [acc,x]) (λz H1=>∃m,m<n/\I m H1) E Ag) E iu
      else ∃m,m<n/\I m iu) E da) E Nz) E Ì) E s) (h:I n s),Ğ mo A (.compLoop (.ListComp elt [⟨aI,cU,ifs,0⟩] scope pos) 0 it acc Z) R s
namespace compLoop_anyH
def kc:=hc (Un fP) ({},λz z=>True,dS,default,default,default,[],default,default,.none,.none,default,λz z=>True,0)
def A:=kc.1
def R:=kc.2.1
def s:=kc.2.2.1
def elt:=kc.2.2.2.1
def aI:=kc.2.2.2.2.1
def cU:=kc.2.2.2.2.2.1
def ifs:=kc.2.2.2.2.2.2.1
def scope:=kc.2.2.2.2.2.2.2.1
def pos:=kc.2.2.2.2.2.2.2.2.1
def it:=kc.2.2.2.2.2.2.2.2.2.1
def acc:=kc.2.2.2.2.2.2.2.2.2.2.1
def Z:=kc.2.2.2.2.2.2.2.2.2.2.2.1
def I:=kc.2.2.2.2.2.2.2.2.2.2.2.2.1
def n:=kc.2.2.2.2.2.2.2.2.2.2.2.2.2
theorem kt:fP A R s elt aI cU ifs scope pos it acc Z I n:=by
 intro xX h;show codeAny_loop N I (λn s hI=>?_) n h;show É _ A ((compTurn (.ListComp elt [⟨aI,cU,ifs,0⟩] scope pos) 0 it acc Z).onRaise (λx=>do noteFrame x Z;theTreesLotGoes x)) _ _ s;show wpAny_noted ?_;rw[compTurn_list];show Â (ĕ (Â (Ï (xX n s hI _) (λr Ì bM=>?_) λz z h'=>h')));cases r with
 |none=>show Ç bM
 |some v=>
  show Â (Ï bM (λz Nz R4=>Â (Ï R4 (λz da jA=>Â (Ï jA (λok iu eE=>?_) λz z h'=>h')) λz z h'=>h')) λz z h'=>h');cases ok with
  |false=>show Ç ⟨N,eE⟩
  |true=>show Â (Â (Ï eE (λx Ag lW=>Â (Ï lW (λz H1 jU=>Ç (Ç ⟨N,jU⟩)) λz z h'=>h')) λz z h'=>h'))
end compLoop_anyH
theorem tN:fP A R s elt aI cU ifs scope pos it acc Z I n:=hk (P:=Un fP) compLoop_anyH.kt (A,R,s,elt,aI,cU,ifs,scope,pos,it,acc,Z,I,n)
theorem NB(h:i≠a):cR U a x i=U i:=if_neg h
theorem Pf{S:Nat->Prop}(h:∀i v,(i<nx\/S i)->cO i=À v->Iv i=À v)(i:Nat)(v:V)(hi:i<nx\/i=a\/S i)(hv:cR cO a x i=À v):cR Iv a x i=À v:=by
 by_cases e:i=a
 ·show(if_pos e).trans ((if_pos e).symm.trans hv)
 ·rw[NB e]at hv ⊢;show h i v (hi.imp id λq=>q.resolve_left e) hv
theorem Pg(ha:nx<=a)(h:∀i v,Ev nx U i=À v->cO i=À v)(i:Nat)(v:V)(hv:Ev nx U i=À v):cR cO a x i=À v:=
 (NB (Ł (Į (cZ hv).1 ha))).trans (h i v hv)
theorem Sm(i:Nat)(v:V)(hi:i<nx\/False)(hv:U i=À v):Ev nx U i=À v:=(if_pos (hi.resolve_right id)).trans hv
theorem KN(h:t.put x U=À aT)(hs:∀i,xV t i->nx<=i):
  ∃iv,t.put x (Ev nx U)=À iv/\(∀i v,(i<nx\/xV t i)->aT i=À v->iv i=À v)/\∀i v,Ev nx U i=À v->aT i=À v:=by
 cases t with
 |one a=>apply dM h;show⟨_,N,λi v hi=>Pf Sm i v (hi.imp id .inl),Pg (hs a N) λi v hv=>(cZ hv).2⟩
 |two a b=>show ca h λp hx h=>?_;apply dM h;show⟨_,?_,λi v hi=>Pf (Pf Sm) i v (hi.imp id λq=>q.symm.imp id .inl),Pg (hs b (.inr N)) (Pg (hs a (.inl N)) λi v hv=>(cZ hv).2)⟩;show (tF x).bind _=_;rw[hx];rfl
section
variable{A:Ñ}{E:Ä->Å->Prop}{ļ:List È}{Ý:Å}{cenv:Env}{O:List (Str×Nat)}{U:aM}{Á:aw}{d:Nat}
theorem rS.kp{I:È}{xs:List V}{w:List (Nat×bp)}{two:Bool}{ys:List V}{vs:List Ä}{wr kp:List È}{St:Nat->Ô->Prop}{rT:Nat->Ä->Ô->Prop}(Ti:rS A I xs w two ys vs wr kp St rT){k:Nat}{h h':Ô}(st:St k h){b:È}(hb:b∈wr\/b∈kp){o:Obj}(e:h.get? b=À o)(x:gJ h' b o):h'.get? b=À o:=by
 show â (hb) (λhb=>?_) (λhb=>?_)
 ·obtain ⟨o',e',hs⟩:=Ti.wrN _ _ st b hb
  rw[e]at e';cases e';show x.of hs.dict
 ·obtain ⟨o',cX,n,e',hd⟩:=Ti.kpN _ _ st b hb
  rw[e]at e';cases e';show x.seq hd
theorem GV{h h':Ô}{D:È}{va:Array Ä}(p:h.PlainList D va){o:Obj}(e:h.get? D=À o)(x:gJ h' D o):h'.get? D=À o:=by obtain ⟨n,ho⟩:=p;rw[ho]at e;cases e;show x.seq rfl
structure EB(wr kp:List È)(Z:Env)(D:È):Prop where
 loc:∀b,b∈wr\/b∈kp->b≠Z.locals
 cel:∀b,b∈wr\/b∈kp->∀x,Z.cells.lookup x≠À b
 acc:∀b,b∈wr\/b∈kp->b≠D
structure SZ where
 A:Ñ
 ļ:List È
 Ý:Å
 Z:Env
 O:List (Str×Nat)
 ys:List V
 vs:List Ä
 wr:List È
 kp:List È
 D:È
structure Qt(c:SZ):Prop where
 L:EB c.wr c.kp c.Z c.D
 dl:c.D≠c.Z.locals
 dc:∀x,c.Z.cells.lookup x≠À c.D
 w0:∀b∈c.wr,c.Ý.heap.get? b=Ã
 d0:c.Ý.heap.get? c.D=Ã
 wB:∀b∈c.wr,gg.B.get? b=Ã
 dB:gg.B.get? c.D=Ã
structure CI(c:SZ)(U:aM)(J:List È)(la:List V)(va:List Ä)(h:Ô):Prop where
 S:SE c.ļ c.Ý.heap J h
 F:eQ (bA c.A) J c.Z c.O U h
 ys:bz gg J h c.ys c.vs
 hn:∀b,b∈c.wr\/b∈c.kp->b∉J
 hD:h.PlainList c.D va.toArray
 dφ:c.D∉J
 la:bz gg J h la va
section
variable{c:SZ}{J aR:List È}{H:ag}{la:List V}{va:List Ä}{h h':Ô}{aT:aM}
theorem CI.mv(X:Qt c)(I:CI c U J la va h)(M:Mv c.wr J h h')(R':ak gg J H h')(w:∀b∈c.wr,eI h b):CI c U J la va h':=
 ⟨db.mv I.S R' M (λz q=>q) X.w0,I.F.mvN M w (λq=>X.L.loc _ (.inl q) N) λx b e q=>X.L.cel b (.inl q) x e,M.vrsT (λb hb=>(w b hb).nt) I.ys,I.hn,I.hD.at λo e=>M c.D o (λq=>X.L.acc c.D (.inl q) N) I.dφ e,I.dφ,M.vrsT (λb hb=>(w b hb).nt) I.la⟩
theorem CI.on(I:CI c U J la va h)(hr:∀y i v,c.O.lookup y=À i->aT i=À v->U i=À v):CI c aT J la va h:=⟨I.S,I.F.on hr,I.ys,I.hn,I.hD,I.dφ,I.la⟩
theorem bz.upG(up:∀{v:V} {a:Ä},VR gg J h v a->VR gg J h' v a):∀{l:List V} {vs:List Ä},bz gg J h l vs->bz gg J h' l vs
 |[],_,x=>by cases x;show .nil
 |v::l,_,x=>by cases x with|cons h1 h2=>show .cons (up h1) (bz.upG up h2)
theorem CI.tgt(X:Qt c)(I:CI c U J la va h)(S':db (TM c.Z ns) J h J h')(F':eQ (bA c.A) J c.Z c.O aT h')(up:∀{v:V} {a:Ä},VR gg J h v a->VR gg J h' v a)(JV:c.Ý.heap.get? c.Z.locals=Ã)(uf:∀x∈ns,∀b,c.Z.cells.lookup x=À b->c.Ý.heap.get? b=Ã):CI c aT J la va h':=
 ⟨db.trans I.S S' (λz z z hb=>hb) λb o e z q=>â q (λq=>by rw[q,JV]at e;show(nomatch e)) λq=>aF q λx hx q=>by rw[uf x hx b q]at e;show(nomatch e),
  F',I.ys.upG up,I.hn,I.hD.at λo e=>GV I.hD e (S'.pres c.D o e λq=>â q X.dl λq=>aF q λx z q=>X.dc x q),I.dφ,I.la.upG up⟩
theorem CI.step(I:CI c U J la va h)(R:ak gg J H h)(S':SE J h aR h')(lv:∀b,b∈c.wr\/b∈c.kp->∃o,h.get? b=À o):CI c U aR la va h':=
 ⟨I.S.trans S',I.F.step R S',I.ys.step R S',λb hb=>(lv b hb).elim λo e=>S'.notin e (I.hn b hb),I.hD.at λo e=>GV I.hD e (S'.pres c.D o e I.dφ),I.hD.elim λn e=>S'.notin e I.dφ,I.la.step R S'⟩
theorem Yj{D:È}{va:Array Ä}(hp:h.PlainList D va):∀b∈[D],NT h b:=λb hb o e=>by rw[W'.mp hb]at e;show hp.elim λn ho=>by rw[<-Option.some.inj (ho.symm.trans e)];show gS N
theorem CI.app(X:Qt c)(I:CI c U J la va h)(R:ak gg J H h)(V:VR gg J h v av)(D':h'.PlainList c.D (va.toArray.push av))(hs:Heap.SameBut c.D h h'):ak gg J H h'/\CI c U J (la++[v]) (va++[av]) h':=by
 have M:∀b o,b∉[c.D]->h.get? b=À o->h'.get? b=À o:=λb o hb e=>hs.extBut b o (λq=>hb (W'.mpr q)) e;have M':Mv [c.D] J h h':=Mv.all M;have nt:=Yj I.hD;have one:∀{P:È->Prop},P c.D->∀b∈[c.D],P b:=λp b hb=>by rw[W'.mp hb];show p
 have R':=R.mvT M nt (one I.dφ) (one X.dB);show⟨R',db.mv I.S R' M' (λz q=>q) (one X.d0),I.F.mv M' nt (λq=>X.dl (W'.mp q).symm) (λx b e q=>X.dc x (W'.mp q▸e)) (λe he L hf q=>?_),M'.vrsT nt I.ys,I.hn,?_,I.dφ,M'.vrsT nt (I.la.append (.one V))⟩
 ·obtain ⟨_,L',o,es,ep,k2,k3,k4,_⟩:=I.F.stk e he
  rw[hf]at k2;cases k2;rw[W'.mp q]at k3;show I.hD.elim λn ho=>by rw[<-Option.some.inj (ho.symm.trans k3)]at k4;show nomatch k4
 ·rw[List.push_toArray]at D';show D'
end
def mu(ļ:List È)(Ý:Å)(C D:È)(l:List V)(σe:ag)(s':Å):Prop:=
 ∃aR,SE ļ Ý.heap aR s'.heap/\ak gg aR (σe++[.lst l]) s'.heap/\VR gg aR s'.heap (.ref σe.length) (.ref D)/\bP Ý s'/\C∉aR/\∃m,s'.heap.Ns C m
theorem CI.fin(X:Qt c)(I:CI c U J l va s'.heap)(R:ak gg J σe s'.heap)(T:bP c.Ý s')(hl:l.length<=ax):mu c.ļ c.Ý c.Z.locals c.D l σe s':=by
 show aF I.F.ns λm hG z=>aF I.S.ext λt ht hf=>⟨J++[c.D],⟨I.S.pres,I.S.dom,t++[c.D],by rw[ht,Ć],λa ha=>â (ğ.mp ha) (hf a) λha=>by rw[W'.mp ha];show X.d0⟩,R.more I.dφ X.dB (.lst I.hD (ϊ hl) I.la) (Yj I.hD c.D G'),.ref ?_,T,λq=>?_,m,hG⟩
 ·rw[<-R.len,Ϣ (ē _),acO];rfl
 ·show â (ğ.mp q) I.F.locN λq=>X.dl (W'.mp q).symm
structure CT(c:SZ)(U SX:aM)(cl:CE)(cs:gF)(Á:aw)(t:jR)(w:List (Nat×bp))(xs l:List V)(σe:ag)(St:Nat->Ô->Prop)(n k:Nat)(J:List È)(H:ag)(la:List V)(va:List Ä)(lr:List V)(s:Å):Prop where
 I:CI c U J la va s.heap
 T:bP c.Ý s
 R:ak gg J H s.heap
 st:St k s.heap
 hk:k<=xs.length
 n:n=xs.length-k
 hc:fY (ab Á cl) (cW Á cs) t w (xs.drop k) SX H=À (lr,σe)
 hl:la++lr=l
theorem rS.live{I:È}{xs:List V}{w:List (Nat×bp)}{two:Bool}{ys:List V}{vs:List Ä}{wr kp:List È}{St:Nat->Ô->Prop}{rT:Nat->Ä->Ô->Prop}(Ti:rS A I xs w two ys vs wr kp St rT){k:Nat}{h:Ô}(st:St k h)(b:È)(hb:b∈wr\/b∈kp):∃o,h.get? b=À o:=
 â hb (λhb=>aF (Ti.wrN _ _ st b hb) λo e z=>⟨o,e⟩) λhb=>oS (Ti.kpN _ _ st b hb) λo z z e z=>⟨o,e⟩
end
def kI(A:Ñ)(ļ:List È)(Ý:Å)(cenv:Env)(O:List (Str×Nat))(U:aM)(Á:aw)(d:Nat)(elt:Ó)(aI:Ó)(cU:Ó)(ifs:List Ó)(scope:à)(pos:Pos)(nx:Nat)(t:jR)(I:È)(D:È)(xs:List V)(ys:List V)(l:List V)(vs:List Ä)(w:List (Nat×bp))(two:Bool)(wr:List È)(kp:List È)(St:Nat->Ô->Prop)(rT:Nat->Ä->Ô->Prop)(c:CE)(cs:gF)(F':Ó->Option CE)(H:ag)(σe:ag)(Q:Result->Å->Prop)(s:Å)(J:List È):Prop:=∀(hA:iM A d) (Ti:rS A I xs w two ys vs wr kp St rT) (Eu:vc two aI) (CK:fX cenv.scope O aI=À t) (sR:∀i,xV t i->nx<=i) (TB:∀y i,O.lookup y=À i->i<nx\/xV t i) (hE:aQ A cenv O elt (ab Á c)) (im:cj F' ifs=À cs) (hT:∀e c,F' e=À c->fC A cenv O e (bW Á c)) (L:EB wr kp cenv D) (Xq:D≠cenv.locals) (Xp:∀x,cenv.cells.lookup x≠À D) (JV:Ý.heap.get? cenv.locals=Ã) (uf:∀x∈bh aI,∀c,cenv.cells.lookup x=À c->Ý.heap.get? c=Ã) (qI:∀b∈wr,Ý.heap.get? b=Ã) (Xo:Ý.heap.get? D=Ã) (hB:∀b∈wr,gg.B.get? b=Ã) (P4:gg.B.get? D=Ã) (hl:l.length<=ax) (hc:fY (ab Á c) (cW Á cs) t w xs U H=À (l,σe)) (S:SE ļ Ý.heap J s.heap) (T:bP Ý s) (R:ak gg J H s.heap) (F:eQ (bA A) J cenv O (Ev nx U) s.heap) (h0:St 0 s.heap) (MT:bz gg J s.heap ys vs) (hn:∀b,b∈wr\/b∈kp->b∉J) (hD:s.heap.PlainList D #[]) (CH:D∉J) (hQ:∀s',mu ļ Ý cenv.locals D l σe s'->Q (.ok .next) s'),Ğ mo A (.compLoop (.ListComp elt [⟨aI,cU,ifs,0⟩] scope pos) 0 (.ref I) (.ref D) cenv) Q s
namespace comp_runH
def kc:=hc (U2 λb0=>U2 λb1=>U2 λb2=>U2 λb3=>U2 λb4=>U2 λb5=>U2 λb6=>U2 λb7=>U2 λb8=>U2 λb9=>U2 λUv=>U2 λUw=>U2 λUx=>U2 λUy=>U2 λUz=>U2 λUA=>U2 λUB=>U2 λUC=>U2 λUD=>U2 λUE=>U2 λUF=>yh (kI b0 b1 b2 b3 b4 b5 b6 b7 b8 b9 Uv Uw Ux Uy Uz UA UB UC UD UE UF)) ({},[],dS,default,[],λz=>Ã,λz z z=>Ã,0,default,default,default,[],default,default,0,.one 0,0,0,[],[],[],[],[],Ê,[],[],λz z=>True,λz z z=>True,.dict0,.nil,λz=>Ã,[],[],λz z=>True,dS,[])
def A:=kc.1
def ļ:=kc.2.1
def Ý:=kc.2.2.1
def cenv:=kc.2.2.2.1
def O:=kc.2.2.2.2.1
def U:=kc.2.2.2.2.2.1
def Á:=kc.2.2.2.2.2.2.1
def d:=kc.2.2.2.2.2.2.2.1
def elt:=kc.2.2.2.2.2.2.2.2.1
def aI:=kc.2.2.2.2.2.2.2.2.2.1
def cU:=kc.2.2.2.2.2.2.2.2.2.2.1
def ifs:=kc.2.2.2.2.2.2.2.2.2.2.2.1
def scope:=kc.2.2.2.2.2.2.2.2.2.2.2.2.1
def pos:=kc.2.2.2.2.2.2.2.2.2.2.2.2.2.1
def nx:=kc.2.2.2.2.2.2.2.2.2.2.2.2.2.2.1
def t:=kc.2.2.2.2.2.2.2.2.2.2.2.2.2.2.2.1
def I:=kc.2.2.2.2.2.2.2.2.2.2.2.2.2.2.2.2.1
def D:=kc.2.2.2.2.2.2.2.2.2.2.2.2.2.2.2.2.2.1
def xs:=kc.2.2.2.2.2.2.2.2.2.2.2.2.2.2.2.2.2.2.1
def ys:=kc.2.2.2.2.2.2.2.2.2.2.2.2.2.2.2.2.2.2.2.1
def l:=kc.2.2.2.2.2.2.2.2.2.2.2.2.2.2.2.2.2.2.2.2.1
def vs:=kc.2.2.2.2.2.2.2.2.2.2.2.2.2.2.2.2.2.2.2.2.2.1
def w:=kc.2.2.2.2.2.2.2.2.2.2.2.2.2.2.2.2.2.2.2.2.2.2.1
def two:=kc.2.2.2.2.2.2.2.2.2.2.2.2.2.2.2.2.2.2.2.2.2.2.2.1
def wr:=kc.2.2.2.2.2.2.2.2.2.2.2.2.2.2.2.2.2.2.2.2.2.2.2.2.1
def kp:=kc.2.2.2.2.2.2.2.2.2.2.2.2.2.2.2.2.2.2.2.2.2.2.2.2.2.1
def St:=kc.2.2.2.2.2.2.2.2.2.2.2.2.2.2.2.2.2.2.2.2.2.2.2.2.2.2.1
def rT:=kc.2.2.2.2.2.2.2.2.2.2.2.2.2.2.2.2.2.2.2.2.2.2.2.2.2.2.2.1
def c:=kc.2.2.2.2.2.2.2.2.2.2.2.2.2.2.2.2.2.2.2.2.2.2.2.2.2.2.2.2.1
def cs:=kc.2.2.2.2.2.2.2.2.2.2.2.2.2.2.2.2.2.2.2.2.2.2.2.2.2.2.2.2.2.1
def F':=kc.2.2.2.2.2.2.2.2.2.2.2.2.2.2.2.2.2.2.2.2.2.2.2.2.2.2.2.2.2.2.1
def H:=kc.2.2.2.2.2.2.2.2.2.2.2.2.2.2.2.2.2.2.2.2.2.2.2.2.2.2.2.2.2.2.2.1
def σe:=kc.2.2.2.2.2.2.2.2.2.2.2.2.2.2.2.2.2.2.2.2.2.2.2.2.2.2.2.2.2.2.2.2.1
def Q:=kc.2.2.2.2.2.2.2.2.2.2.2.2.2.2.2.2.2.2.2.2.2.2.2.2.2.2.2.2.2.2.2.2.2.1
def s:=kc.2.2.2.2.2.2.2.2.2.2.2.2.2.2.2.2.2.2.2.2.2.2.2.2.2.2.2.2.2.2.2.2.2.2.1
def J:=kc.2.2.2.2.2.2.2.2.2.2.2.2.2.2.2.2.2.2.2.2.2.2.2.2.2.2.2.2.2.2.2.2.2.2.2
theorem kt:kI A ļ Ý cenv O U Á d elt aI cU ifs scope pos nx t I D xs ys l vs w two wr kp St rT c cs F' H σe Q s J:=by
 intro hA Ti Eu CK sR TB hE im hT L Xq Xp JV uf qI Xo hB P4 hl hc S T R F h0 MT hn hD CH hQ;have X:Qt ⟨A,ļ,Ý,cenv,O,ys,vs,wr,kp,D⟩:=⟨L,Xq,Xp,qI,Xo,hB,P4⟩;show tN (I:=λn s=>∃k J H la va,∃lr,CT ⟨A,ļ,Ý,cenv,O,ys,vs,wr,kp,D⟩ (Ev nx U) U c cs Á t w xs l σe St n k J H la va lr s) (n:=xs.length) ?_ ⟨0,J,H,[],[],l,⟨S,F,MT,hn,hD,CH,.nil⟩,T,R,h0,į _,N,hc,N⟩;intro n s q E;show IA q λk J H la va q=>ä q λlr Ù=>â (aeA k xs.length) (λcG=>?_) (λlC=>?_)
 ·have hc:=Ù.hc
  rw[aby cG]at hc;show qD hc λhw hc=>ca hc λaT Gl hc=>Ti.item k J H s _ E xs[k] Ù.st Ù.R Ù.I.ys hw Ù.I.hn hB (N' cG) λa bM pn yt ay be qY=>?_;have tA:=Ù.I.mv X yt ay (Ti.wrN k _ Ù.st);show Ti.go aI Eu k J H a _ _ E qY ay Ù.I.hn hB λjA EC bw xQ=>?_;have Io:=Ti.wrM k a _ qY;have EA:=tA.mv X EC bw Io;show eK (KN Gl sR) λiv OU VW Rn=>ve (s:={s with heap:=jA,toks:=pn}) hA.handled CK OU bw EA.F (EC.vrT (λb hb=>(Io b hb).nt) be) λeE rJ iU iQ p8 pr=>?_;have B4:=EA.tgt X iU (p8.on λy i v hy hv=>VW i v (TB y i hy) hv) pr JV uf;have rG:St (k+1) eE:=Ti.frame _ _ _ xQ λb hb o e=>Ti.kp xQ hb e (iU.pres b o e λq=>â q (L.loc b hb) λq=>aF q λx z q=>L.cel b hb x q);have lt:xs.length-(k+1)<n:=by rw[Ù.n];show aeP cG (ű k)
  have back:∀y i v,O.lookup y=À i->Ev nx U i=À v->aT i=À v:=λy i v z hv=>Rn i v hv;have fr:∀{aR h'},SE J eE aR h'->St (k+1) h':=λS'=>Ti.frame _ _ _ rG λb hb o e=>Ti.kp rG hb e (S'.pres b o e (Ù.I.hn b hb));show dI hc λbt Î Go hc=>Ï (th hT im Go (s:={s with heap:=eE,toks:=rJ}) iQ B4.F E) (λok Ag lW=>lW.el λWE Ix lL rU NY=>?_) λz z x=>x;rw[WE];have T':=Ù.T.trans (bP.trans ⟨N,N,N⟩ NY);have NV:=B4.step iQ lL (Ti.live rG);cases bt with
  |false=>show⟨xs.length-(k+1),lt,k+1,Ix,Î,la,va,lr,NV.on back,T',rU,fr lL,cG,N,hc,Ù.hl⟩
  |true=>
   rw[if_pos N]at hc;show dI hc λv Ü VA hc=>dI hc λlr' bC jN hc=>?_;have q:=nS hc;show hE.bind VA rU NV.F λav H1 SY IV Uk IN NS Uo=>?_;have Qz:=NV.step rU IV (Ti.live (fr lL));show ϑ Qz.hD (λh₆ T6 MN=>?_) ?_
   ·have Y:=Qz.app X IN Uo T6 MN
    show⟨xs.length-(k+1),lt,k+1,SY,Ü,la++[v],va++[av],lr',Y.2.on back,(T'.trans Uk).trans ⟨N,N,N⟩,Y.1,Ti.frame _ _ _ (fr (lL.trans IV)) λb hb o e=>MN.extBut b o (L.acc b hb) e,cG,N,by rw[jN,q.2],?_⟩;rw[Ć,<-Ù.hl,<-q.1];rfl
   ·rw[ſ,<-Ù.I.la.length]
    show z' ?_ hl;rw[<-Ù.hl,Ā];show Ō _ _
 ·have lc:k=xs.length:=Ű Ù.hk lC
  have hc:=Ù.hc;have st:=Ù.st;rw[lc,adV]at hc;rw[lc]at st;show qD hc λhw hc=>?_;have q:=nS hc;show Ti.done J _ s _ E st Ù.R Ù.I.ys hw Ù.I.hn hB λbM pn yt ay=>?_;have tA:=Ù.I.mv X yt ay (Ti.wrN _ _ st);have e:la=l:=by rw[<-Ù.hl,<-q.1,Ľ]
  rw[e]at tA;rw[q.2]at ay;show hQ _ (CI.fin (s':={s with heap:=bM,toks:=pn}) X tA ay (Ù.T.trans ⟨N,N,N⟩) hl)
end comp_runH
theorem Fj{Á:aw}{two:Bool}{St:Nat->Ô->Prop}:kI A ļ Ý cenv O U Á d elt aI cU ifs scope pos nx t I D xs ys l vs w two wr kp St rT c cs F' H σe Q s J:=hk (P:=U2 λb0=>U2 λb1=>U2 λb2=>U2 λb3=>U2 λb4=>U2 λb5=>U2 λb6=>U2 λb7=>U2 λb8=>U2 λb9=>U2 λUv=>U2 λUw=>U2 λUx=>U2 λUy=>U2 λUz=>U2 λUA=>U2 λUB=>U2 λUC=>U2 λUD=>U2 λUE=>U2 λUF=>yh (kI b0 b1 b2 b3 b4 b5 b6 b7 b8 b9 Uv Uw Ux Uy Uz UA UB UC UD UE UF)) comp_runH.kt (A,ļ,Ý,cenv,O,U,Á,d,elt,aI,cU,ifs,scope,pos,nx,t,I,D,xs,ys,l,vs,w,two,wr,kp,St,rT,c,cs,F',H,σe,Q,s,J)
theorem BZ:∀{ts:List Str} {n:Nat} {x:Str},x∈ts->∃i,(ts.zipIdx n).lookup x=À i
 |t::ts,n,x,h=>by
  rw[adU,Ϗ];cases hb:x==t with
  |true=>show⟨n,N⟩
  |false=>
   show â (ċ.mp h) (λh=>?_) (λh=>?_)
   ·subst h;simp at hb
   ·show BZ h
theorem yI(hx:x∈ts)(h:(cq scope O nx ts).lookup x=À i):nx<=i:=by unfold cq at h;rw[fF]at h;show ä (BZ (n:=nx) hx) λj hj=>?_;rw[hj]at h;cases h;show(mj hj).1
section
variable{A:Ñ}{E:Ä->Å->Prop}{J:List È}{s:Å}{Z:Env}{O:List (Str×Nat)}{U:aM}{Á:aw}{d:Nat}
theorem DM{scope:à}{env':Env}{nx:Nat}{aI:Ó}{t:jR}(K:lJ scope Z.scope O nx (bh aI))(h:fX env'.scope (cq scope O nx (bh aI)) aI=À t):
  (∀i,xV t i->nx<=i)/\∀y i,(cq scope O nx (bh aI)).lookup y=À i->i<nx\/xV t i:=by
 have c:=(qh h).all;show⟨λi hi=>aF (c.1 i hi) λx hx h1=>yI hx h1,λy a hy=>â (cu hy) (λq=>?_) λq=>.inl (K.below _ _ (mem_of_lookup q.2))⟩;show aF (c.2 y (Ĥ q.2)) λi h1 h2=>.inr (sm (h1.symm.trans hy)▸h2)
theorem sF{elt aI cU:Ó}{ifs:List Ó}{scope:à}{pos Pw:Pos}{nx:Nat}{t:jR}{it:jq}{c:CE}{cs:gF}{F':Ó->Option CE}{two:Bool}{xs l:List V}{w:List (Nat×bp)}{H Î Ü:ag}{use:Option (Ä->Sem Unit)}{Q:Ä->Å->Prop}
  (hA:iM A d) (K:lJ scope Z.scope O nx (bh aI)) (hs:∀x,Ě cU Z x=pure x) (Eu:vc two aI)
  (hi:lK A Z O cU two (cE Á it)) (CK:fX (jh scope Z.scope) (cq scope O nx (bh aI)) aI=À t)
  (hE:∀e',e'.scope=jh scope Z.scope->aQ A e' (cq scope O nx (bh aI)) elt (ab Á c)) (im:cj F' ifs=À cs) (hT:∀e',e'.scope=jh scope Z.scope->∀e c,F' e=À c->fC A e' (cq scope O nx (bh aI)) e (bW Á c))
  (h1:cE Á it U H=À (xs,w,Î)) (h2:fY (ab Á c) (cW Á cs) t w xs U Î=À (l,Ü)) (hl:l.length<=ax) (R:ak gg J H s.heap) (F:eQ (bA A) J Z O U s.heap)
  (hQ:∀D C s',mu J s C D l Ü s'->s.heap.get? C=Ã->compPost mo A E use Q (.ref D) C (.ok .next) s') :
  É mo A (comprehension (.ListComp elt [⟨aI,cU,ifs,0⟩] scope pos) scope Z Pw (newList []) Ê (eval cU Z) use) Q E s:=by
 show wpAny_comprehension_free (use:=use) N hs (ls scope (AG F K)) K.kind (λx hx hl=>K.uniq _ _ ((hl)▸hx)) (Ï (hi U H xs w Î h1 J s R F E) (λxv Ì bM=>vo bM λaR iR ay yw mk=>mk E _ λI ys vs wr kp St rT h' Ti nF hk MT qI hn hB=>?_) λz z e=>e)
 have lv:∀b,b∈wr\/b∈kp->∃o,h'.get? b=À o:=λb hb=>by
  show â hb (λhb=>?_) (λhb=>?_)
  ·show aF (Ti.wrN _ _ nF b hb) λo e z=>?_;show⟨o,e⟩
  ·show oS (Ti.kpN _ _ nF b hb) λo z z e z=>?_;show⟨o,e⟩
 have bw:ak gg aR Î h':=ay.keeps hk;have a0:=F.step R iR;show è ?_;have Ge:∀b o,h'.get? b=À o->(h'.push {cls:=.type "list",data:=.seq ([]:List Ä).toArray}).get? b=À o:=λb o e=>O' _ e;have Th:(h'.push {cls:=.type "list",data:=.seq ([]:List Ä).toArray}).PlainList h'.objs.size #[]:=⟨_,ŀ _ rfl⟩;show É _ _ _ _ _ {Ì with heap:=h'.push {cls:=.type "list",data:=.seq ([]:List Ä).toArray}};generalize h'.push {cls:=.type "list",data:=.seq ([]:List Ä).toArray}=eE at Ge Th;have J2:∀b o,Ì.heap.get? b=À o->eE.get? b=À o:=λb o e=>Ge b o (hk b o e);have IR:SE aR Ì.heap aR eE:=SE.keeps _ J2;have iQ:ak gg aR Î eE:=ay.keeps J2;show Fi (s:={Ì with heap:=eE}) K iQ (a0.step ay IR) λcenv lW P8 Wa Ey OC CM zi=>?_;dsimp only at P8 OC CM zi;have RC:∀b o,Ì.heap.get? b=À o->lW.get? b=À o:=λb o e=>P8 b o (J2 b o e);have IT:SE aR Ì.heap aR lW:=SE.keeps _ RC;have fr:∀b,eE.get? b=Ã->s.heap.get? b=Ã:=λb hb=>iR.back (fZ J2 hb);show aP (DM (env':={cenv with scope:=relabel scope Z}) K (by show fX (relabel scope Z) _ _=_;rw[dU];show CK)) λsR TB=>?_;have Ri:h'.get? h'.objs.size=Ã:=aG _
 have Rp:∀x b,cenv.cells.lookup x=À b->(∃o,h'.get? b=À o)->∃y,Z.cells.lookup y=À b:=λx b e ⟨o,ho⟩=>by
  show â (zi x b e) (λq=>?_) (λq=>?_)
  ·rw[Ge b o ho]at q;cases q
  ·show q
 have AN:∀y b,Z.cells.lookup y=À b->∃u,s.heap.IsCell b u:=λy b e=>(F.cellF y b e).1
 have Sl:Ğ mo A (.compLoop (.ListComp elt [⟨aI,cU,ifs,0⟩] scope pos) 0 (.ref I) (.ref h'.objs.size) {cenv with scope:=relabel scope Z}) (compPost mo A E use Q (.ref h'.objs.size) cenv.locals) {Ì with heap:=lW}:=by
  show Fj (Ý:=s) (ļ:=J) (cenv:={cenv with scope:=relabel scope Z}) (J:=aR) (l:=l) (σe:=Ü) (U:=U) (t:=t) (nx:=nx) (c:=c) (cs:=cs) (F':=F') (Á:=Á) hA Ti Eu (by show fX (relabel scope Z) _ _=_;rw[dU];show CK) sR TB
   (hE _ (dU _ _)) im (hT _ (dU _ _)) ⟨?_,?_,?_⟩ ?_ ?_ (fr _ OC) (λx hx c e=>fr _ (CM x hx c e)) qI ?_ hB ?_ hl h2 (iR.trans IT) (yw.trans ⟨N,N,N⟩) (ay.keeps RC) Ey (Ti.frame _ _ _ nF λb z o e=>P8 b o (Ge b o e)) (MT.step bw (SE.keeps _ λb o e=>P8 b o (Ge b o e))) hn (Th.at λo e=>P8 _ o e) ?_ λs' nR=>hQ _ _ s' nR (fr _ OC)
  ·rintro b hb rfl
   show ä (lv _ hb) λo e=>?_;rw[Ge _ o e]at OC;cases OC
  ·intro b hb x e
   show ä (Rp x b e (lv b hb)) λy hy=>gm (AN y b hy) λu o ho hd=>â hb (λhb=>?_) (λhb=>?_)
   ·rw[qI b hb]at ho;show no ho
   ·show oS (Ti.kpN _ _ nF b hb) λo' cX n' e' kg=>?_
    have F5:h'.get? b=À o:=hk b o ((iR.pres b o ho (F.cellF y b hy).2.1).of λes ep q=>nomatch hd.symm.trans q);rw[F5]at e';cases e';rw[hd]at kg;cases kg
  ·rintro b hb rfl
   show ä (lv _ hb) λo e=>?_;rw[Ri]at e;show no e
  ·rintro e
   show ä Th λn' ho=>?_;rw[show cenv.locals=h'.objs.size from e.symm,ho]at OC;cases OC
  ·intro x e
   show â (zi x _ e) (λq=>?_) (λq=>ä q λy hy=>?_)
   ·show ä Th λn' ho=>?_
    rw[ho]at q;cases q
   ·show gm (AN y _ hy) λu o ho hd=>?_
    have:h'.get? h'.objs.size=À o:=hk _ o ((iR.pres _ o ho (F.cellF y _ hy).2.1).of λes ep q=>nomatch hd.symm.trans q);rw[Ri]at this;show no this
  ·show iR.back (fZ hk Ri)
  ·show aV bw Ri
  ·show aW bw Ri
 show codeAny_compStart_list Sl (Ti.self 0 _ _ _ (Ti.frame _ _ _ nF λb z o e=>P8 b o (Ge b o e)) Sl)
theorem mu.evp(R:ak gg J H s.heap)(x:mu J s C D l σe s')(hC:s.heap.get? C=Ã)(hs:Heap.SameBut C s'.heap h'):bD gg J s (.ref σe.length) (σe++[.lst l]) (.ref D) {s' with heap:=h'}:=by
 obtain ⟨aR,S,R',V',T,FV,m,hn⟩:=x;have M:∀b o,b≠C->s'.heap.get? b=À o->h'.get? b=À o:=λb o hb e=>hs.extBut b o hb e;have bw:ak gg aR (σe++[.lst l]) h':=R'.other FV (aV R hC) M (Ns.noSeq hn);show⟨aR,db.mv (wr:=[C]) S bw (λb o hb z e=>M b o (λq=>hb (W'.mpr q)) e) (λz q=>q) (by simpa using hC),bw,?_,T.trans ⟨rfl,rfl,rfl⟩⟩;cases V' with
 |ref h=>show .ref h
theorem Hz{elt aI cU:Ó}{ifs:List Ó}{scope:à}{pos:Pos}{nx:Nat}{t:jR}{it:jq}{c:CE}{cs:gF}{F':Ó->Option CE}{two:Bool}
  (hA:iM A d) (K:lJ scope Z.scope O nx (bh aI)) (hs:∀x,Ě cU Z x=pure x) (Eu:vc two aI)
  (hi:lK A Z O cU two (cE Á it)) (CK:fX (jh scope Z.scope) (cq scope O nx (bh aI)) aI=À t)
  (hE:∀e',e'.scope=jh scope Z.scope->aQ A e' (cq scope O nx (bh aI)) elt (ab Á c)) (im:cj F' ifs=À cs) (hT:∀e',e'.scope=jh scope Z.scope->∀e c,F' e=À c->fC A e' (cq scope O nx (bh aI)) e (bW Á c)) :
  aQ A Z O (.ListComp elt [⟨aI,cU,ifs,0⟩] scope pos) (ab Á (.comp c t it cs)):=by
 intro U H v ae he J s R F E;show oO he λxs w Î h1 he=>?_
 ··show dI he λl Ü h2 he=>io (gb he) λhz q2 q3=>?_;apply ba q2;apply ba q3
   rw[eval_ListComp];show sF hA K hs Eu hi CK hE im hT h1 h2 hz R F λD C s' En hC=>?_;obtain ⟨aR,S,R',V',T,FV,m,hn⟩:=id En;show⟨m,hn,λh' nR=>En.evp R hC nR⟩
end
end L.Lake
namespace L.Lake
open PySem
theorem mZ:∀(x y:List Int),cm x y=Æ->cm y x=Ê
 |[],[],h=>nomatch h
 |[],_::_,_=>rfl
 |_::_,[],h=>nomatch h
 |a::x,b::y,h=>by
  replace h:(decide (a<b)||(a==b&&cm x y))=Æ:=h;show (decide (b<a)||(b==a&&cm y x))=Ê
  simp only[ϡ,decide_eq_true_eq,Ň,beq_iff_eq]at h
  rw[acM,decide_eq_false_iff_not,adP,beq_eq_false_iff_ne];rcases h with h|⟨rfl,h⟩
  ·show⟨ŉ.mpr (ϰ h),.inl (aeB h)⟩
  ·show⟨ado _,.inr (mZ x y h)⟩
theorem sZ:∀(x y z:List Int),cm x y=Æ->cm y z=Æ->cm x z=Æ
 |[],[],_,h,_=>nomatch h
 |[],_::_,[],_,h=>nomatch h
 |[],_::_,_::_,_,_=>rfl
 |_::_,[],_,h,_=>nomatch h
 |_::_,_::_,[],_,h=>nomatch h
 |a::x,b::y,c::z,h,h'=>by
  replace h:(decide (a<b)||(a==b&&cm x y))=Æ:=h;replace h':(decide (b<c)||(b==c&&cm y z))=Æ:=h';show (decide (a<c)||(a==c&&cm x z))=Æ
  simp only[ϡ,decide_eq_true_eq,Ň,beq_iff_eq]at h h' ⊢
  rcases h with h|⟨rfl,h⟩
  ·rcases h' with h'|⟨rfl,_⟩
   ·show .inl (acV h h')
   ·show .inl h
  ·rcases h' with h'|⟨rfl,h'⟩
   ·show .inl h'
   ·show .inr ⟨N,sZ x y z h h'⟩
theorem m5:∀(x y z:List Int),cm x z=Æ->cm x y=Æ\/cm y z=Æ
 |[],_,[],h=>nomatch h
 |[],[],_::_,_=>.inr N
 |[],_::_,_::_,_=>.inl N
 |_::_,_,[],h=>nomatch h
 |_::_,[],_::_,_=>.inr N
 |a::x,b::y,c::z,h=>by
  replace h:(decide (a<c)||(a==c&&cm x z))=Æ:=h;show (decide (a<b)||(a==b&&cm x y))=Æ\/(decide (b<c)||(b==c&&cm y z))=Æ
  simp only[ϡ,decide_eq_true_eq,Ň,beq_iff_eq]at h ⊢
  rcases aek a b with Mx|rfl|Mx
  ·show .inl (.inl Mx)
  ·rcases h with h|⟨rfl,h⟩
   ·show .inr (.inl h)
   ·show â (m5 x y z h) (λq=>?_) (λq=>?_)
    ·show .inl (.inr ⟨N,q⟩)
    ·show .inr (.inr ⟨N,q⟩)
  ·rcases h with h|⟨rfl,_⟩
   ·show .inr (.inl (acV Mx h))
   ·show .inr (.inl Mx)
theorem Bc:∀(x y:List Int),cm x y=Ê->cm y x=Ê->x=y
 |[],[],_,_=>rfl
 |[],_::_,h,_=>nomatch h
 |_::_,[],_,h=>nomatch h
 |a::x,b::y,h,h'=>by replace h:(decide (a<b)||(a==b&&cm x y))=Ê:=h;replace h':(decide (b<a)||(b==a&&cm y x))=Ê:=h';rw[acM,decide_eq_false_iff_not,adP,beq_eq_false_iff_ne]at h h';have e:a=b:=ņ (ŉ.mp h'.1) (ŉ.mp h.1);subst e;rw[Bc x y (h.2.resolve_left λq=>q N) (h'.2.resolve_left λq=>q N)]
theorem Ba(h:lh p q=Æ):lh q p=Ê:=by
 unfold lh at h ⊢;cases h1:cm p.1 q.1 with
 |true=>rw[mZ _ _ h1];rfl
 |false=>
  rw[h1]at h;cases h2:cm q.1 p.1 with
  |true=>rw[h2]at h;show nomatch h
  |false=>rw[h2]at h;have h:decide (p.2<q.2)=Æ:=h;show (Ê||(!false&&decide (q.2<p.2)))=Ê;rw[decide_eq_false (ŉ.mpr (ϰ (of_decide_eq_true h)))];rfl
theorem GF(h:lh p q=Ê):p=q\/lh q p=Æ:=by
 unfold lh at h ⊢;rw[acM]at h;cases h2:cm q.1 p.1 with
 |true=>show .inr N
 |false=>
  rw[h2]at h;have h3:decide (p.2<q.2)=Ê:=h.2;have e:=Bc _ _ h.1 h2;rcases aek q.2 p.2 with g|g|g
  ·show .inr ?_
   rw[h.1,decide_eq_true g];rfl
  ·show .inl (Prod.ext e g.symm)
  ·show absurd g (of_decide_eq_false h3)
theorem GG(h:lh p q=Æ)(h':lh q r=Æ):lh p r=Æ:=by
 unfold lh at h h' ⊢;cases h1:cm p.1 r.1 with
 |true=>rfl
 |false=>
  show â (abR.mp h) (λa=>?_) (λa=>?_)
  ·show â (m5 _ r.1 _ a) (λb=>?_) (λb=>?_)
   ·rw[h1]at b;show nomatch b
   ·show â (abR.mp h') (λc=>?_) (λc=>?_)
    ·rw[mZ _ _ b]at c;show nomatch c
    ·rw[b]at c;show nomatch c
  ·show aP (Ņ.mp a) λa1 a2=>â (abR.mp h') (λc=>?_) (λc=>?_)
   ·show â (m5 _ p.1 _ c) (λb=>?_) (λb=>?_)
    ·rw[b]at a1;show nomatch a1
    ·rw[h1]at b;show nomatch b
   ·show aP (Ņ.mp c) λc1 c2=>?_
    cases h2:cm r.1 p.1 with
    |true=>
     show â (m5 _ q.1 _ h2) (λb=>?_) (λb=>?_)
     ·rw[b]at c1;show nomatch c1
     ·rw[b]at a1;show nomatch a1
    |false=>show (Ê||(!false&&decide (p.2<r.2)))=Æ;rw[decide_eq_true (acV (of_decide_eq_true a2) (of_decide_eq_true c2))];rfl
theorem oq(p:KP):∀l:List KP,(CO p l).Perm (p::l)
 |[]=>.refl _
 |q::r=>by
  unfold CO;split
  ·show((oq p r).cons q).trans (.swap ..)
  ·show .refl _
theorem fJ:∀l:List KP,(fA l).Perm l
 |[]=>.refl _
 |p::r=>(oq p _).trans ((fJ r).cons p)
def nU(p q:KP):Prop:=lh q p=Ê
theorem zD(h:nU p q)(h':nU q r):nU p r:=by
 unfold nU at *;cases h2:lh r p with
 |false=>rfl
 |true=>
  show â (GF h) (λe=>?_) (λe=>?_)
  ·subst e;rw[h2]at h';show nomatch h'
  ·rw[GG h2 e]at h';show nomatch h'
set_option tactic.hygienic true in
theorem o0(p:KP):∀{l:List KP},l.Pairwise nU->(CO p l).Pairwise nU
 |[],_=>ŏ.mpr ⟨(λ_ h=>nomatch h),.nil⟩
 |q::r,h=>by
  show aP (ŏ.mp h) λh1 h2=>?_;unfold CO;split
  ·rename_i hq
   show ŏ.mpr ⟨λz hz=>?_,o0 p h2⟩;rcases ċ.mp ((oq p r).mem_iff.mp hz) with rfl|hz
   ·show Ba hq
   ·show h1 z hz
  ·rename_i hq
   have Tz:nU p q:=adG.mpr hq;show ŏ.mpr ⟨λz hz=>?_,h⟩;rcases ċ.mp hz with rfl|hz
   ·show Tz
   ·show zD Tz (h1 z hz)
theorem jF:∀l:List KP,(fA l).Pairwise nU
 |[]=>.nil
 |p::r=>o0 p (jF r)
theorem xB(hp:m.Perm l)(hs:m.Pairwise nU):m=fA l:=
 List.Perm.eq_of_pairwise (le:=nU) (λa b z z g1 g2=>by
  show â (GF g1) (λe=>?_) (λe=>?_)
  ·show e.symm
  ·rw[g2]at e;show nomatch e) hs (jF l) (hp.trans (fJ l).symm)
end L.Lake
namespace L.Lake
open PySem PyProof.Rows
def kX{α:Type}(r:α->α->Bool)(l:List α):Prop:=l.Pairwise λx y=>r x y=Æ
noncomputable def rr(blt:Ë->Ë->Bool)(ord:Ë->Nat)(x y:Ë):Bool:=blt x y||(!blt y x&&decide (ord x<ord y))
theorem dW{blt:Ë->Ë->Bool}{ord:Ë->Nat}{x y:Ë}:rr blt ord x y=Æ↔blt x y=Æ\/(blt y x=Ê/\ord x<ord y):=by unfold rr;rw[ϡ,Ň,ϔ,decide_eq_true_eq]
structure SO(A:Ñ)(E:Ä->Å->Prop)(s:Å)(blt:Ë->Ë->Bool)(kd:Ÿ)(ď:Ë->Prop):Prop where
 cmp:∀x y,ď x->ď y->∀(st:Ò) (Q:Option Bool->Ò->Prop),kindOf st=kd->Q (À (blt x y)) st->wpS mo A E s (lt' x y) Q st
 asym:∀x y,blt x y=Æ->blt y x=Ê
 trans:∀x y z,blt x y=Æ->blt y z=Æ->blt x z=Æ
 neg:∀x y z,blt x z=Æ->blt x y=Æ\/blt y z=Æ
def Av(A:Ñ)(E:Ä->Å->Prop)(s:Å)(blt:Ë->Ë->Bool)(ord:Ë->Nat)(kd:Ÿ)(ď:Ë->Prop):Prop:=∀{a₀:List Ë} {st:Ò} {Q:Unit->Ò->Prop} (S:SO A E s blt kd ď) (hU:∀x∈a₀,ď x) (hk:kindOf st=kd) (hf:ë st=Ã) (hp:Ö st=#[]) (e:(Ú st).toList=a₀) (asc:a₀.Pairwise λx y=>ord x<ord y)
  (h:∀Ù aS,kX (rr blt ord) Ù->Ù.Perm a₀->(Ú aS).toList=Ù->ë aS=Ã->Q () aS),wpS mo A E s sortRuns' Q st
def zc:=hc (U7 Av) ({},λz z=>True,dS,λz z=>Æ,λz=>0,oneType',λz=>True)
def zA:=zc.1
def zE:=zc.2.1
def zs:=zc.2.2.1
def zb:=zc.2.2.2.1
def zo:=zc.2.2.2.2.1
def zk:=zc.2.2.2.2.2.1
def zU:=zc.2.2.2.2.2.2
abbrev zr:Ë->Ë->Bool:=rr zb zo
theorem cN{H α:Type}{c:Prop}[Decidable c]{m n:StateT H Sem α}{Q:α->H->Prop}{st:H}(hc:c)(h:wpS mo zA zE zs m Q st):wpS mo zA zE zs (if c then m else n) Q st:=by rw[if_pos hc];show h
theorem cp{H α:Type}{c:Prop}[Decidable c]{m n:StateT H Sem α}{Q:α->H->Prop}{st:H}(hc:¬ c)(h:wpS mo zA zE zs n Q st):wpS mo zA zE zs (if c then m else n) Q st:=by rw[if_neg hc];show h
noncomputable def fi:Bool->Ë->Array Ë->Nat->Nat->Nat->StateT Ò Sem (Option Nat):=sortPriv% PySem.Builtin.gallop
noncomputable def EW(left:Bool)(gR:Ë)(arr:Array Ë)(base i:Nat):StateT Ò Sem (Option Bool):=
 elem' arr (base+i)>>=λx=>if left=Æ then lt' x gR else lt' gR x>>=λz=>pure (z.map λb=>!b)
abbrev GS:Type:=Option (Option Nat)×Nat×Nat
def F1(left:Bool)(gR:Ë)(arr:Array Ë)(base:Nat)(_:Nat)(c:GS):StateT Ò Sem (ForInStep GS):=
 if c.2.1 >= c.2.2 then pure (.done (Ã,c.2.1,c.2.2))
 else EW left gR arr base (c.2.1+(c.2.2-c.2.1) / 2)>>=λz=>match z with
  |some b=>if b=Æ then pure (.yield (Ã,c.2.1+(c.2.2-c.2.1) / 2+1,c.2.2)) else pure (.yield (Ã,c.2.1,c.2.1+(c.2.2-c.2.1) / 2))
  |_=>pure (.done (À Ã,c.2.1,c.2.2))
def Yo(left:Bool)(gR:Ë)(arr:Array Ë)(base top hint:Nat)(_:Nat)(c:GS):StateT Ò Sem (ForInStep GS):=
 if c.2.2 >= top then pure (.done (Ã,c.2.1,c.2.2))
 else EW left gR arr base (hint+c.2.2)>>=λz=>match z with
  |some b=>if (!b)=Æ then pure (.done (Ã,c.2.1,c.2.2)) else pure (.yield (Ã,c.2.2,2*c.2.2+1))
  |_=>pure (.done (À Ã,c.2.1,c.2.2))
def Mi(left:Bool)(gR:Ë)(arr:Array Ë)(base top hint:Nat)(_:Nat)(c:GS):StateT Ò Sem (ForInStep GS):=
 if c.2.2 >= top then pure (.done (Ã,c.2.1,c.2.2))
 else EW left gR arr base (hint-c.2.2)>>=λz=>match z with
  |some b=>if b=Æ then pure (.done (Ã,c.2.1,c.2.2)) else pure (.yield (Ã,c.2.2,2*c.2.2+1))
  |_=>pure (.done (À Ã,c.2.1,c.2.2))
noncomputable def pi(c:GS)(k:Nat->Nat->StateT Ò Sem (Option Nat)):StateT Ò Sem (Option Nat):=match c.1 with
 |some r=>pure r
 |none=>k c.2.1 c.2.2
def EZ(left:Bool)(gR:Ë)(arr:Array Ë)(base n lo hi:Nat):StateT Ò Sem (Option Nat):=
 forIn [0:n] ((Ã,lo,hi):GS) (F1 left gR arr base)>>=λc=>pi c λz h=>pure (À h)
theorem ze(left:Bool)(gR:Ë)(arr:Array Ë)(base n hint:Nat):fi left gR arr base n hint =
  (EW left gR arr base hint>>=λz=>match z with
   |some b=>if b=Æ then forIn [0:n] ((Ã,0,1):GS) (Yo left gR arr base (n-hint) hint)>>=λc=>pi c λl o=>EZ left gR arr base n (hint+l+1) (hint+min o (n-hint))
    else forIn [0:n] ((Ã,0,1):GS) (Mi left gR arr base (hint+1) hint)>>=λc=>pi c λl o=>EZ left gR arr base n (hint+1-min o (hint+1)) (hint-l)
   |_=>pure Ã):=by kernel_rfl
section
def Qr(left:Bool)(gR:Ë)(arr:Array Ë)(base n:Nat)(st:Ò)(bey:Nat->Bool):Prop:=
 ∀i,i<n->∀Q:Option Bool->Ò->Prop,Q (À (bey i)) st->wpS mo zA zE zs (EW left gR arr base i) Q st
theorem mE{i n:Nat}{bey:Nat->Bool}(gx:∀i j,i<=j->j<n->bey j=Æ->bey i=Æ){k:Nat}(hk:bey k=Ê)(h1:k<=i)(h2:i<n):bey i=Ê:=by
 cases hb:bey i with
 |false=>rfl
 |true=>rw[gx k i h1 h2 hb]at hk;show nomatch hk
structure BI{β:Type}(bey:Nat->Bool)(n x:Nat)(c:Option β×Nat×Nat):Prop where
 no:c.1=Ã
 le:c.2.1<=c.2.2
 hi:c.2.2<=n
 lo:∀i,i<c.2.1->bey i=Æ
 up:∀i,c.2.2<=i->i<n->bey i=Ê
 t:c.2.2+x<=n+c.2.1
structure BQ{β:Type}(bey:Nat->Bool)(n:Nat)(c:Option β×Nat×Nat):Prop where
 no:c.1=Ã
 eq:c.2.2<=c.2.1
 hi:c.2.2<=n
 lo:∀i,i<c.2.1->bey i=Æ
 up:∀i,c.2.2<=i->i<n->bey i=Ê
theorem JX{lo hi:Nat}(h:¬ lo >= hi):lo+(hi-lo) / 2<hi:=ac1 (Nat.div_lt_self (ab5 (ϛ.mp h)) (ē 2))
theorem jG(h:c.1=Ã):pi c k=k c.2.1 c.2.2:=by unfold pi;rw[h]
section
variable{left:Bool}{gR:Ë}{arr:Array Ë}{base n hint:Nat}{st:Ò}{bey:Nat->Bool}{Q:Option Nat->Ò->Prop}
theorem Il(hB:Qr left gR arr base n st bey)(gx:∀i j,i<=j->j<n->bey j=Æ->bey i=Æ){x:Nat}{c:GS}(I:BI bey n x c){P:ForInStep GS->Ò->Prop}(hd:∀c,BQ bey n c->P (.done c) st)(hy:∀c,BI bey n (x+1) c->P (.yield c) st):
  wpS mo zA zE zs (F1 left gR arr base x c) P st:=by
 unfold F1;by_cases lC:c.2.1 >= c.2.2
 ·show cN lC (Ð (hd _ ⟨N,lC,I.hi,I.lo,I.up⟩))
 ·have hm:=JX lC
  have hn:=Į hm I.hi;show cp lC (Í (hB _ hn _ ?_));have Tu:c.2.1<=c.2.1+(c.2.2-c.2.1) / 2:=Ō _ _;cases hb:bey (c.2.1+(c.2.2-c.2.1) / 2) with
  |true=>show cN N (Ð (hy _ ⟨N,hm,I.hi,λi hi=>gx i _ (ϐ hi) hn hb,I.up,ŧ (z' I.t (ϝ Tu n))⟩))
  |false=>show cp Ļ (Ð (hy _ ⟨N,Tu,Ģ hn,I.lo,λi h6 h7=>mE gx hb h6 h7,z' (acP hm x) I.t⟩))
theorem BW(hB:Qr left gR arr base n st bey)(gx:∀i j,i<=j->j<n->bey j=Æ->bey i=Æ)(h:∀k,k<=n->(∀i,i<k->bey i=Æ)->(∀i,k<=i->i<n->bey i=Ê)->Q (À k) st){lo hi:Nat}(h1:lo<=hi)(h2:hi<=n)(h3:∀i,i<lo->bey i=Æ)(h4:∀i,hi<=i->i<n->bey i=Ê):
  wpS mo zA zE zs (EZ left gR arr base n lo hi) Q st:=by
 show Í (ã (I:=λx c aS=>aS=st/\BI bey n x c) (λx c aS z z q=>?_) (λc aS q=>?_) ⟨N,N,h1,h2,h3,h4,z' h2 (Ō _ _)⟩)
 ·rw[q.1]
  show Il hB gx q.2 (λc I=>by show wpS _ _ _ _ (pi c λz h=>pure (À h)) Q st;rw[jG I.no];show Ð (h _ I.hi (λi hi=>I.lo i (Į hi I.eq)) I.up)) λc I=>⟨N,I⟩
 ·have I:=q.2
  rw[jG I.no,q.1];have t:=I.t;have e:max 0 n=n:=ab1 (į _);rw[e,ϙ]at t;show Ð (h _ I.hi (λi hi=>I.lo i (Į hi (acI t))) I.up)
structure UI(bey:Nat->Bool)(n hint x:Nat)(c:GS):Prop where
 no:c.1=Ã
 lt:c.2.1<c.2.2
 t:x<c.2.2
 ln:hint+c.2.1<n
 b:bey (hint+c.2.1)=Æ
structure DI(bey:Nat->Bool)(hint x:Nat)(c:GS):Prop where
 no:c.1=Ã
 lt:c.2.1<c.2.2
 t:x<c.2.2
 ln:c.2.1<=hint
 b:bey (hint-c.2.1)=Ê
theorem W9(n:Nat):n<2*n+1:=ϫ (adH n afo)
theorem Q0(h:x<n):x+1<2*n+1:=adi (Į h (adH n afo))
theorem s9(hh:hint<n)(h:n-hint<=o):hint+min o (n-hint)=n:=by rw[adf h,acj (Ģ hh)]
theorem Al(hh:hint<n)(h6:hint+min o (n-hint)<=i)(h7:i<n):hint+o<=i:=by
 show â (afG o (n-hint)) (λq=>?_) λq=>?_
 ·rw[ų q]at h6;show h6
 ·rw[s9 hh q]at h6;show absurd h7 (ľ.mpr h6)
theorem vm(hB:Qr left gR arr base n st bey)(hh:hint<n)(gx:∀i j,i<=j->j<n->bey j=Æ->bey i=Æ)(h:∀k,k<=n->(∀i,i<k->bey i=Æ)->(∀i,k<=i->i<n->bey i=Ê)->Q (À k) st){x:Nat}{c:GS}(I:UI bey n hint x c)(h5:c.2.2 >= n-hint\/bey (hint+c.2.2)=Ê):
  wpS mo zA zE zs (pi c λl o=>EZ left gR arr base n (hint+l+1) (hint+min o (n-hint))) Q st:=by
 rw[jG I.no];show BW hB gx h (ϝ (afA.mpr ⟨I.lt,Nat.le_sub_of_add_le' I.ln⟩) hint) (z' (ϝ (adj _ _) _) (ň (acj (Ģ hh)))) (λi hi=>gx i _ (ϐ hi) I.ln I.b) λi h6 h7=>â h5 (λh5=>?_) λh5=>mE gx h5 (Al hh h6 h7) h7;rw[s9 hh h5]at h6;show absurd h7 (ľ.mpr h6)
theorem oM(hB:Qr left gR arr base n st bey)(hh:hint<n)(gx:∀i j,i<=j->j<n->bey j=Æ->bey i=Æ)(h:∀k,k<=n->(∀i,i<k->bey i=Æ)->(∀i,k<=i->i<n->bey i=Ê)->Q (À k) st){x:Nat}{c:GS}(I:DI bey hint x c)(h5:c.2.2 >= hint+1\/bey (hint-c.2.2)=Æ):
  wpS mo zA zE zs (pi c λl o=>EZ left gR arr base n (hint+1-min o (hint+1)) (hint-l)) Q st:=by
 rw[jG I.no];have Tv:=Ŷ (Ś hint c.2.1) hh;show BW hB gx h ?_ (Ģ Tv) (λi hi=>?_) λi h6 h7=>mE gx I.b h6 h7
 ·rw[<-ae8 hint c.2.1]
  show ad7 (afA.mpr ⟨I.lt,ŧ I.ln⟩) _
 ·show â h5 (λh5=>?_) λh5=>gx i _ ?_ (Ŷ (Ś _ _) hh) h5
  ·rw[adf h5,acO]at hi
   show absurd hi (adr _)
  ·rw[ae6,<-Nat.sub_eq_sub_min]at hi
   show Nat.le_sub_of_add_le (ϐ (Nat.add_lt_of_lt_sub hi))
theorem An(hB:Qr left gR arr base n st bey)(hh:hint<n)
  (gx:∀i j,i<=j->j<n->bey j=Æ->bey i=Æ)
  (h:∀k,k<=n->(∀i,i<k->bey i=Æ)->(∀i,k<=i->i<n->bey i=Ê)->Q (À k) st) :
  wpS mo zA zE zs (fi left gR arr base n hint) Q st:=by
 rw[ze];show Í (hB hint hh _ ?_);have e:max 0 n=n:=ab1 (į _);cases zf:bey hint with
 |true=>
  show cN N (Í (ã (I:=λx c aS=>aS=st/\UI bey n hint x c) (λx c aS z hx q=>?_) (λc aS q=>?_) ⟨N,N,ź,ź,hh,zf⟩))
  ·rw[q.1]
   have I:=q.2;unfold Yo;by_cases lC:c.2.2 >= n-hint
   ·show cN lC (Ð (vm hB hh gx h (c:=(Ã,c.2.1,c.2.2)) ⟨N,I.lt,I.t,I.ln,I.b⟩ (.inl lC)))
   ·have cG:hint+c.2.2<n:=ac1 (ϛ.mp lC)
    show cp lC (Í (hB _ cG _ ?_));cases hb:bey (hint+c.2.2) with
    |true=>show cp Ļ (Ð ⟨N,N,W9 _,Q0 I.t,cG,hb⟩)
    |false=>show cN N (Ð (vm hB hh gx h (c:=(Ã,c.2.1,c.2.2)) ⟨N,I.lt,I.t,I.ln,I.b⟩ (.inr hb)))
  ·rw[q.1]
   have t:=q.2.t;rw[e]at t;show vm hB hh gx h q.2 (.inl (z' (Ś _ _) (Ģ t)))
 |false=>
  show cp Ļ (Í (ã (I:=λx c aS=>aS=st/\DI bey hint x c) (λx c aS z hx q=>?_) (λc aS q=>?_) ⟨N,N,ź,ź,į _,zf⟩))
  ·rw[q.1]
   have I:=q.2;unfold Mi;by_cases lC:c.2.2 >= hint+1
   ·show cN lC (Ð (oM hB hh gx h (c:=(Ã,c.2.1,c.2.2)) ⟨N,I.lt,I.t,I.ln,I.b⟩ (.inl lC)))
   ·show cp lC (Í (hB _ (Ŷ (Ś _ _) hh) _ ?_))
    cases hb:bey (hint-c.2.2) with
    |true=>show cN N (Ð (oM hB hh gx h (c:=(Ã,c.2.1,c.2.2)) ⟨N,I.lt,I.t,I.ln,I.b⟩ (.inr hb)))
    |false=>show cp Ļ (Ð ⟨N,N,W9 _,Q0 I.t,ϐ (ϛ.mp lC),hb⟩)
  ·rw[q.1]
   have t:=q.2.t;rw[e]at t;show oM hB hh gx h q.2 (.inl (Ϙ hh t))
end
end
section
variable{α:Type}{r:α->α->Bool}{la lb o ra rb p:List α}
def yg(r:α->α->Bool)(l m:List α):Prop:=∀x∈l,∀y∈m,r x y=Æ
theorem cz:kX r (l++m)↔kX r l/\kX r m/\yg r l m:=Ϧ
structure Mg(r:α->α->Bool)(la lb o ra rb:List α):Prop where
 sa:kX r (o++ra)
 sb:kX r (o++rb)
 pm:(o++(ra++rb)).Perm (la++lb)
structure fw(r:α->α->Bool)(la lb o:List α):Prop where
 so:kX r o
 pm:o.Perm (la++lb)
theorem Mg.swap(h:Mg r la lb o ra rb):Mg r lb la o rb ra:=⟨h.sb,h.sa,(adQ.append_left o).trans (h.pm.trans adQ)⟩
theorem fw.swap(h:fw r la lb o):fw r lb la o:=⟨h.so,h.pm.trans adQ⟩
theorem Mg.addA(h:Mg r la lb o (p++ra) rb)(hk:yg r p rb):Mg r la lb (o++p) ra rb:=by
 have q:=cz.mp h.sa;have q':=cz.mp h.sb;show⟨by rw[Ć];show h.sa,cz.mpr ⟨cz.mpr ⟨q.1,(cz.mp q.2.1).1,λx hx y hy=>q.2.2 x hx y (ž _ hy)⟩,q'.2.1,λx hx y hy=>?_⟩,?_⟩
 ·show â (ğ.mp hx) (λhx=>q'.2.2 x hx y hy) λhx=>hk x hx y hy
 ·have:=h.pm
  rw[Ć]at this ⊢;show this
theorem Mg.addB(h:Mg r la lb o ra (p++rb))(hk:yg r p ra):Mg r la lb (o++p) ra rb:=(h.swap.addA hk).swap
theorem Mg.endA(h:Mg r la lb o ra []):fw r la lb (o++ra):=⟨h.sa,by have:=h.pm;rw[Ľ]at this;show this⟩
theorem Mg.endB(h:Mg r la lb o [] rb):fw r la lb (o++rb):=h.swap.endA.swap
theorem Mg.endBA(h:Mg r la lb o ra rb)(hk:yg r rb ra):fw r la lb (o++(rb++ra)):=by have:=h;rw[<-Ľ rb]at this;rw[<-Ć];show(this.addB hk).endA
theorem Mg.srtA(h:Mg r la lb o ra rb):kX r ra:=(cz.mp h.sa).2.1
theorem Mg.srtB(h:Mg r la lb o ra rb):kX r rb:=(cz.mp h.sb).2.1
noncomputable def IB(r:α->α->Bool):α->α->Bool:=λx y=>r y x
theorem BC(h:kX r l):kX (IB r) l.reverse:=aeG.mpr h
theorem fw.rev(h:fw (IB r) la.reverse lb.reverse o):fw r la lb o.reverse:=
 ⟨aeG.mpr h.so,(acw o).trans (h.pm.trans ((acw la).append (acw lb)))⟩
theorem PO(h:kX r (x::l)):∀y∈l,r x y=Æ:=(ŏ.mp h).1
theorem EX(tr:∀x y z,r x y=Æ->r y z=Æ->r x z=Æ)(zs:kX r (y::l))(h:∀x∈p,r x y=Æ):yg r p (y::l):=λx hx z hz=>
 â (ċ.mp hz) (λe=>e▸h x hx) λhz=>tr _ _ _ (h x hx) (PO zs z hz)
end
section
variable{st:Ò}
theorem jo(he:arr.toList[j]?=À x)(h:Q x st):wpS mo zA zE zs (elem' arr j) Q st:=by rw[elem'_eq,<-ϴ,he];show Ð h
theorem BX{left:Bool}{gR:Ë}{arr:Array Ë}{base hint:Nat}{X:List Ë}{f:Ë->Bool}{Q:Option Nat->Ò->Prop}(ha:∀i (hi:i<X.length),arr.toList[base+i]?=À X[i])
  (hc:∀x∈X,∀P:Option Bool->Ò->Prop,P (À (f x)) st->wpS mo zA zE zs (if left=Æ then lt' x gR else lt' gR x>>=λz=>pure (z.map λb=>!b)) P st)
  (gx:X.Pairwise λx y=>f y=Æ->f x=Æ) (hh:hint<X.length) (h:∀k,k<=X.length->(∀x∈X.take k,f x=Æ)->(∀x∈X.drop k,f x=Ê)->Q (À k) st) :
  wpS mo zA zE zs (fi left gR arr base X.length hint) Q st:=by
 have e:∀i (hi:i<X.length),(X[i]?).elim Ê f=f X[i]:=λi hi=>by rw[N' hi];rfl
 show An (bey:=λi=>(X[i]?).elim Ê f) (λi hi P hP=>?_) hh (λi j zl hj hb=>?_) λk hk h1 h2=>h k hk (λx hx=>?_) λx hx=>?_
 ·show Í (jo (ha i hi) (hc _ (š hi) _ (by rw[<-e i hi];show hP)))
 ·show â (aeZ zl) (λcG=>?_) λq=>q▸hb
  have hi:=Ϙ cG hj;rw[e j hj]at hb;rw[e i hi];show acH.mp gx i j hi hj cG hb
 ·show ä (ab'.mp hx) λi q=>ä q λhi q=>?_
  have jZ:=Į hi (z' (ň (ŷ ..)) (acl _ _));rw[<-q,ael,<-e i (Į jZ hk)];show h1 i jZ
 ·show ä (ab'.mp hx) λi q=>ä q λhi q=>?_
  have jZ:k+i<X.length:=ac1 (Į hi (ň (ϻ ..)));rw[<-q,afa,<-e _ jZ];show h2 _ (Ō _ _) jZ
structure MC(X Y:List Ë):Prop where
 cmp:∀x∈X,∀y∈Y,∀(st:Ò) (Q:Option Bool->Ò->Prop),kindOf st=zk->Q (À (zr y x)) st->wpS mo zA zE zs (lt' y x) Q st
 trans:∀x y z,zr x y=Æ->zr y z=Æ->zr x z=Æ
 asym:∀x y,zr x y=Æ->zr y x=Ê
 tot:∀x∈X,∀y∈Y,zr y x=Ê->zr x y=Æ
 sX:kX zr X
 sY:kX zr Y
theorem MC.gX{X Y X':List Ë}(M:MC X Y)(hX:∀x∈X',x∈X)(sX:kX zr X'){arr:Array Ë}{base hint:Nat}{n:Nat}(hn:X'.length=n)(ha:∀i (hi:i<X'.length),arr.toList[base+i]?=À X'[i]){y:Ë}(hy:y∈Y)(hh:hint<n)(hk:kindOf st=zk){Q:Option Nat->Ò->Prop}
  (h:∀k,k<=n->(∀x∈X'.take k,zr x y=Æ)->(∀x∈X'.drop k,zr y x=Æ)->Q (À k) st):wpS mo zA zE zs (fi Ê y arr base n hint) Q st:=by
 subst hn;show BX (f:=λx=>!(zr y x)) ha (λx hx P hP=>cp Ļ (Í (M.cmp x (hX x hx) y hy _ _ hk (Ð hP)))) (List.Pairwise.imp_of_mem (λ{x x'} hx Gp hr hb=>?_) sX) hh λk hk h1 h2=>h k hk (λx hx=>?_) λx hx=>?_
 ·have hb':zr y x'=Ê:=(ϔ _).mp hb
  rw[M.asym _ _ (M.trans _ _ _ hr (M.tot x' (hX x' Gp) y hy hb'))];rfl
 ·show M.tot x (hX x (Ů hx)) y hy ((ϔ _).mp (h1 x hx))
 ·show(adw _).mp (h2 x hx)
theorem MC.gY(M:MC X Y)(hY:∀y∈Y',y∈Y)(sY:kX zr Y')(hn:Y'.length=n)(ha:∀i (hi:i<Y'.length),arr.toList[base+i]?=À Y'[i])(hx:x∈X)(hh:hint<n)(hk:kindOf st=zk){Q:Option Nat->Ò->Prop}
  (h:∀k,k<=n->(∀y∈Y'.take k,zr y x=Æ)->(∀y∈Y'.drop k,zr x y=Æ)->Q (À k) st):wpS mo zA zE zs (fi Æ x arr base n hint) Q st:=by
 subst hn;show BX (f:=λy=>zr y x) ha (λy hy P hP=>cN N (M.cmp x hx y (hY y hy) _ _ hk hP)) (List.Pairwise.imp (λ{y y'} hr hb=>M.trans _ _ _ hr hb) sY) hh λk hk h1 h2=>h k hk h1 λy hy=>M.tot x hx y (hY y (Ϟ hy)) (h2 y hy)
end
noncomputable def eM:Nat->StateT Ò Sem Unit:=sortPriv% PySem.Builtin.setMinGallop
noncomputable def qT:Array Ë->Array Ë->StateT Ò Sem (Array Ë):=sortPriv% PySem.Builtin.mergeLo
theorem eA(g:Nat):eM g=modify (λzs=>SortSt.mk' (kindOf zs) (Ú zs) (Ö zs) g (ë zs)):=rfl
noncomputable def gu(a b out:Array Ë)(ia ib:Nat):Array Ë:=out++a.extract ia a.size++b.extract ib b.size
noncomputable def ou(a b out:Array Ë)(ia ib:Nat):Array Ë:=out++b.extract ib b.size++a.extract ia a.size
abbrev LS:Type:=Option (Array Ë)×Array Ë×Nat×Nat×Nat×Nat×Nat
def gD(a b out:Array Ë)(ia ib mg ac bc:Nat):StateT Ò Sem (ForInStep LS):=
 elem' a ia>>=λx=>
  if (ia+1+1==a.size)=Æ then pure (.done (À (ou a b (out.push x) (ia+1) ib),out.push x,ia+1,ib,mg,ac,bc))
  else if (decide (ac<7)&&decide (bc<7))=Æ then pure (.done (Ã,out.push x,ia+1,ib,mg,ac,bc))
  else pure (.yield (Ã,out.push x,ia+1,ib,mg,ac,bc))
def gC(a b out:Array Ë)(ia ib mg ac bc:Nat):StateT Ò Sem (ForInStep LS):=
 elem' b ib>>=λx=>
  if (ib+1==b.size)=Æ then pure (.done (À (gu a b (out.push x) ia (ib+1)),out.push x,ia,ib+1,mg,ac,bc))
  else elem' a ia>>=λy=>fi Æ y b (ib+1) (b.size-(ib+1)) 0>>=λz=>match z with
   |some k=>if k > 0 then (if (ib+1+k==b.size)=Æ then pure (.done (À (gu a b (out.push x++b.extract (ib+1) (ib+1+k)) ia (ib+1+k)),out.push x++b.extract (ib+1) (ib+1+k),ia,ib+1+k,mg,ac,k))
     else gD a b (out.push x++b.extract (ib+1) (ib+1+k)) ia (ib+1+k) mg ac k)
    else gD a b (out.push x) ia (ib+1) mg ac k
   |_=>pure (.done (À (gu a b (out.push x) ia (ib+1)),out.push x,ia,ib+1,mg,ac,bc))
def gB(a b out:Array Ë)(ia ib mg ac bc:Nat):StateT Ò Sem (ForInStep LS):=
 eM mg>>=λy=>elem' b ib>>=λx=>fi Ê x a ia (a.size-ia) 0>>=λz=>match z with
 |some k=>if k > 0 then (if (ia+k+1==a.size)=Æ then pure (.done (À (ou a b (out++a.extract ia (ia+k)) (ia+k) ib),out++a.extract ia (ia+k),ia+k,ib,mg,k,bc))
   else if (ia+k==a.size)=Æ then pure (.done (À (gu a b (out++a.extract ia (ia+k)) (ia+k) ib),out++a.extract ia (ia+k),ia+k,ib,mg,k,bc))
   else gC a b (out++a.extract ia (ia+k)) (ia+k) ib mg k bc)
  else gC a b out ia ib mg k bc
 |_=>pure (.done (À (gu a b out ia ib),out,ia,ib,mg,ac,bc))
abbrev IS:Type:=Option (Array Ë)×Array Ë×Nat×Nat×Nat×Nat
def Nh(a b:Array Ë)(mg:Nat)(_:Nat)(c:IS):StateT Ò Sem (ForInStep IS):=
 elem' b c.2.2.2.1>>=λy=>elem' a c.2.2.1>>=λx=>lt' y x>>=λz=>match z with
 |some t=>if t=Æ then elem' b c.2.2.2.1>>=λv=>
    if (c.2.2.2.1+1==b.size)=Æ then pure (.done (À (gu a b (c.2.1.push v) c.2.2.1 (c.2.2.2.1+1)),c.2.1.push v,c.2.2.1,c.2.2.2.1+1,0,c.2.2.2.2.2+1))
    else if c.2.2.2.2.2+1 >= mg then pure (.done (Ã,c.2.1.push v,c.2.2.1,c.2.2.2.1+1,0,c.2.2.2.2.2+1)) else pure (.yield (Ã,c.2.1.push v,c.2.2.1,c.2.2.2.1+1,0,c.2.2.2.2.2+1))
   else elem' a c.2.2.1>>=λv=>
    if (c.2.2.1+1+1==a.size)=Æ then pure (.done (À (ou a b (c.2.1.push v) (c.2.2.1+1) c.2.2.2.1),c.2.1.push v,c.2.2.1+1,c.2.2.2.1,c.2.2.2.2.1+1,0))
    else if c.2.2.2.2.1+1 >= mg then pure (.done (Ã,c.2.1.push v,c.2.2.1+1,c.2.2.2.1,c.2.2.2.2.1+1,0)) else pure (.yield (Ã,c.2.1.push v,c.2.2.1+1,c.2.2.2.1,c.2.2.2.2.1+1,0))
 |_=>pure (.done (À (gu a b c.2.1 c.2.2.1 c.2.2.2.1),c.2.1,c.2.2.1,c.2.2.2.1,c.2.2.2.2.1,c.2.2.2.2.2))
def Rd(a b:Array Ë)(_:Nat)(c:LS):StateT Ò Sem (ForInStep LS):=
 if c.2.2.2.2.1 > 1 then gB a b c.2.1 c.2.2.1 c.2.2.2.1 (c.2.2.2.2.1-1) c.2.2.2.2.2.1 c.2.2.2.2.2.2 else gB a b c.2.1 c.2.2.1 c.2.2.2.1 c.2.2.2.2.1 c.2.2.2.2.2.1 c.2.2.2.2.2.2
abbrev OS:Type:=Option (Array Ë)×Array Ë×Nat×Nat×Nat
def Nj(a b:Array Ë)(_:Nat)(c:OS):StateT Ò Sem (ForInStep OS):=
 forIn [0:a.size+b.size] ((Ã,c.2.1,c.2.2.1,c.2.2.2.1,0,0):IS) (Nh a b c.2.2.2.2)>>=λd=>match d.1 with
 |some q=>pure (.done (À q,d.2.1,d.2.2.1,d.2.2.2.1,c.2.2.2.2))
 |none=>(liftM (rule "list.sort.gallop"):StateT Ò Sem Unit)>>=λz=>forIn [0:a.size+b.size] ((Ã,d.2.1,d.2.2.1,d.2.2.2.1,c.2.2.2.2+1,d.2.2.2.2.1,d.2.2.2.2.2):LS) (Rd a b)>>=λf=>match f.1 with
  |some q=>pure (.done (À q,f.2.1,f.2.2.1,f.2.2.2.1,f.2.2.2.2.1))
  |none=>eM (f.2.2.2.2.1+1)>>=λz=>pure (.yield (Ã,f.2.1,f.2.2.1,f.2.2.2.1,f.2.2.2.2.1+1))
theorem w7(a b:Array Ë):qT a b =
  ((liftM (rule "list.sort.merge-lo"):StateT Ò Sem Unit)>>=λz=>elem' b 0>>=λx=>
   if (1==b.size)=Æ then pure (gu a b #[x] 0 1) else if (0+1==a.size)=Æ then pure (ou a b #[x] 0 1)
   else get>>=λzs=>forIn [0:a.size+b.size] ((Ã,#[x],0,1,gallopOf zs):OS) (Nj a b)>>=λc=>match c.1 with
    |some q=>pure q
    |none=>Ġ "internal:list.sort.merge-bound"):=by kernel_rfl
structure bV(st aS:Ò):Prop where
 k:kindOf aS=kindOf st
 a:Ú aS=Ú st
 p:Ö aS=Ö st
 f:ë aS=ë st
theorem bV.refl(st:Ò):bV st st:=⟨N,N,N,N⟩
theorem bV.trans{a b c:Ò}(x:bV a b)(y:bV b c):bV a c:=⟨y.k.trans x.k,y.a.trans x.a,y.p.trans x.p,y.f.trans x.f⟩
section
variable{H α:Type}{m n:StateT H Sem α}{Q:α->H->Prop}{st:H}
theorem cI[Decidable c](hT:c->wpS mo zA zE zs m Q st)(hF:¬ c->wpS mo zA zE zs n Q st):wpS mo zA zE zs (if c then m else n) Q st:=by
 by_cases h:c
 ·show cN h (hT h)
 ·show cp h (hF h)
theorem cn{i j:Nat}(hT:i=j->wpS mo zA zE zs m Q st)(hF:i≠j->wpS mo zA zE zs n Q st):wpS mo zA zE zs (if (i==j)=Æ then m else n) Q st:=
 cI (λh=>hT (beq_iff_eq.mp h)) λh=>hF λe=>h (beq_iff_eq.mpr e)
end
section
variable{la lb rb:List Ë}{a b out:Array Ë}{ia ib k:Nat}
theorem AM(hi:ia<a.size):a.toList.drop ia=a[ia]::a.toList.drop (ia+1):=aby hi
theorem pB(hi:ia<a.size):a[ia]∈a.toList:=Array.getElem_mem_toList hi
theorem Pe(a:Array Ë)(i:Nat):(a.toList.drop i).length=a.size-i:=ϻ ..
theorem Az(a:Array Ë)(j i:Nat)(hi:i<(a.toList.drop j).length):a.toList[j+i]?=À (a.toList.drop j)[i]:=by rw[<-List.getElem?_drop,N' hi]
theorem we{l:List Ë}{n:Nat}(h:n=l.length):l.drop n=[]:=adC (ň h.symm)
theorem kT(a:Array Ë)(i:Nat):(a.extract i a.size).toList=a.toList.drop i:=by rw[acQ,acn];show acW (ň (Pe a i))
theorem Mg.pushA(hi:ia<a.size)(h:Mg zr la lb out.toList (a.toList.drop ia) rb)(hk:∀y∈rb,zr a[ia] y=Æ):Mg zr la lb (out.push a[ia]).toList (a.toList.drop (ia+1)) rb:=by rw[AM hi]at h;rw[ac5];show h.addA (p:=[a[ia]]) λx hx y hy=>by rw[W'.mp hx];show hk y hy
theorem Mg.extA(k:Nat)(h:Mg zr la lb out.toList (a.toList.drop ia) rb)(hk:yg zr ((a.toList.drop ia).take k) rb):Mg zr la lb (out++a.extract ia (ia+k)).toList (a.toList.drop (ia+k)) rb:=by rw[<-ũ k (a.toList.drop ia),adI]at h;rw[Ž,acQ,acn,ϵ];show h.addA hk
theorem Mg.pushB(hi:ib<b.size)(h:Mg zr la lb out.toList rb (b.toList.drop ib))(hk:∀y∈rb,zr b[ib] y=Æ):Mg zr la lb (out.push b[ib]).toList rb (b.toList.drop (ib+1)):=(h.swap.pushA hi hk).swap
theorem Mg.extB(k:Nat)(h:Mg zr la lb out.toList rb (b.toList.drop ib))(hk:yg zr ((b.toList.drop ib).take k) rb):Mg zr la lb (out++b.extract ib (ib+k)).toList rb (b.toList.drop (ib+k)):=(h.swap.extA k hk).swap
theorem tH(tr:∀x y z,zr x y=Æ->zr y z=Æ->zr x z=Æ)(hi:ia<a.size)(zs:kX zr (a.toList.drop ia))(h:∀x∈p,zr x a[ia]=Æ):yg zr p (a.toList.drop ia):=by rw[AM hi]at zs ⊢;show EX tr zs h
theorem xd(tr:∀x y z,zr x y=Æ->zr y z=Æ->zr x z=Æ)(hi:ia<a.size)(zs:kX zr (a.toList.drop ia))(h:zr x a[ia]=Æ):∀y∈a.toList.drop ia,zr x y=Æ:=λy hy=>
 tH (p:=[x]) tr hi zs (λz hz=>by rw[W'.mp hz];show h) x G' y hy
theorem GQ(hk:k<=a.size-ia)(hi:ia<=a.size):ia+k<=a.size:=Nat.add_le_of_le_sub' hi hk
theorem up3(h:m<=i+j):m<=i+1+(j+1+k):=z' h (ϭ (ϓ i) (z' (ϓ j) (Ō _ _)))
theorem up2(h:m<=i+j):m<=i+k+j:=z' h (Ϲ (Ō i k) j)
structure Iz(a b out:Array Ë)(ia ib:Nat):Prop where
 mi:Mg zr a.toList b.toList out.toList (a.toList.drop ia) (b.toList.drop ib)
 ha:ia+1<a.size
 hb:ib<b.size
def B5(a b:Array Ë)(m:Nat)(q:Option (Array Ë))(out:Array Ë)(ia ib:Nat):Prop:=match q with
 |some mq=>fw zr a.toList b.toList mq.toList
 |none=>Iz a b out ia ib/\m<=ia+ib
def LU(a b:Array Ë):Prop:=∀y∈b.toList,∀x∈a.toList.drop (a.size-1),zr y x=Æ
theorem p5(gw:LU a b)(h:Mg zr a.toList b.toList out.toList (a.toList.drop ia) (b.toList.drop ib))(ha:ia+1=a.size):fw zr a.toList b.toList (ou a b out ia ib).toList:=by unfold ou;rw[Ž,Ž,kT,kT,Ć];show h.endBA λy hy x hx=>gw y (Ϟ hy) x (by rw[<-ha];show hx)
theorem vf(h:Mg zr a.toList b.toList out.toList (a.toList.drop ia) (b.toList.drop ib))(hb:ib=b.size):fw zr a.toList b.toList (gu a b out ia ib).toList:=by have e:b.toList.drop ib=[]:=we hb;unfold gu;rw[Ž,Ž,kT,kT,e,Ľ];rw[e]at h;show h.endA
theorem PS(h:Mg zr a.toList b.toList out.toList (a.toList.drop ia) (b.toList.drop ib))(ha:ia=a.size):fw zr a.toList b.toList (gu a b out ia ib).toList:=by have e:a.toList.drop ia=[]:=we ha;unfold gu;rw[Ž,Ž,kT,kT,e,Ľ];rw[e]at h;show h.endB
end
section
variable{a b out:Array Ë}{ia ib mg ac bc m:Nat}{st:Ò}{P:ForInStep LS->Ò->Prop}
theorem bX(hi:i<a.size)(h:Q a[i] st):wpS mo zA zE zs (elem' a i) Q st:=by rw[elem'_eq,acJ hi];show Ð h
theorem Ih(gw:LU a b)(I:Iz a b out ia ib)(hc:∀y∈b.toList.drop ib,zr (a[ia]'(Ũ I.ha)) y=Æ)(hm:m<=ia+1+ib)(hd:∀c:LS,B5 a b m c.1 c.2.1 c.2.2.1 c.2.2.2.1->P (.done c) st)(hy:∀c:LS,c.1=Ã->B5 a b m c.1 c.2.1 c.2.2.1 c.2.2.2.1->P (.yield c) st):
  wpS mo zA zE zs (gD a b out ia ib mg ac bc) P st:=by
 have pz:ia<a.size:=Ũ I.ha;have h1:=I.mi.pushA pz hc;show Í (bX pz (cn (λh2=>Ð (hd _ (p5 gw h1 h2))) λh2=>?_));have I':Iz a b (out.push a[ia]) (ia+1) ib:=⟨h1,ż I.ha h2,I.hb⟩;show cI (λz=>Ð (hd _ ⟨I',hm⟩)) λz=>Ð (hy _ N ⟨I',hm⟩)
theorem Ig(M:MC a.toList b.toList)(gw:LU a b)(lD:kindOf st=zk)(I:Iz a b out ia ib)(hc:∀y∈a.toList.drop ia,zr (b[ib]'I.hb) y=Æ)(hm:m<=ia+ib)(hd:∀c:LS,B5 a b m c.1 c.2.1 c.2.2.1 c.2.2.2.1->P (.done c) st)(hy:∀c:LS,c.1=Ã->B5 a b m c.1 c.2.1 c.2.2.1 c.2.2.2.1->P (.yield c) st):
  wpS mo zA zE zs (gC a b out ia ib mg ac bc) P st:=by
 have pz:ia<a.size:=Ũ I.ha;have h1:=I.mi.pushB I.hb hc;show Í (bX I.hb (cn (λh2=>Ð (hd _ (vf h1 h2))) λh2=>Í (bX pz ?_)));have zg:ib+1<b.size:=ż I.hb h2;show Í (M.gY (λy hy=>Ϟ hy) h1.srtB (Pe b (ib+1)) (Az b (ib+1)) (pB pz) (ab5 zg) lD λk hk g1 g2=>cI (λz=>?_) λlg=>?_)
 ·have h3:=h1.extB k (tH M.trans pz h1.srtA g1)
  rw[adI]at g2;show cn (λh4=>Ð (hd _ (vf h3 h4))) λh4=>Ih gw ⟨h3,I.ha,ż (GQ hk (Ģ zg)) h4⟩ g2 (up3 hm) hd hy
 ·have e:k=0:=aci lg
  rw[e]at g2;show Ih gw ⟨h1,I.ha,zg⟩ g2 (by show jL (y7 0xc6010b1013ba183213ba185413ba42612ba531 N (iL hm) (iA _ _) (iA _ _) (iA _ _) (iA _ _))) hd hy
theorem Ie(M:MC a.toList b.toList)(gw:LU a b)(lD:kindOf st=zk)(I:Iz a b out ia ib)(hm:m<=ia+ib)(hd:∀(c:LS) aS,bV st aS->B5 a b m c.1 c.2.1 c.2.2.1 c.2.2.2.1->P (.done c) aS)(hy:∀(c:LS) aS,bV st aS->c.1=Ã->B5 a b m c.1 c.2.1 c.2.2.1 c.2.2.2.1->P (.yield c) aS):
  wpS mo zA zE zs (gB a b out ia ib mg ac bc) P st:=by
 have pz:ia<a.size:=Ũ I.ha;have hs:bV st (SortSt.mk' (kindOf st) (Ú st) (Ö st) mg (ë st)):=⟨N,N,N,N⟩;show Í ?_;rw[eA];show ù (Í (bX I.hb (Í (M.gX (st:=SortSt.mk' (kindOf st) (Ú st) (Ö st) mg (ë st)) (λy hy=>Ϟ hy) I.mi.srtA (Pe a ia) (Az a ia) (pB I.hb) (ab5 pz) lD λk hk g1 g2=>cI (λz=>?_) λlg=>?_))))
 ·have h3:=I.mi.extA k (tH M.trans I.hb I.mi.srtB g1)
  rw[adI]at g2;show cn (λh4=>Ð (hd _ _ hs (p5 gw h3 h4))) λh4=>cn (λh5=>Ð (hd _ _ hs (PS h3 h5))) λh5=>Ig M gw lD ⟨h3,ż (ż (GQ hk (Ģ pz)) h5) h4,I.hb⟩ g2 (up2 hm) (λc=>hd c _ hs) λc=>hy c _ hs
 ·have e:k=0:=aci lg
  rw[e]at g2;show Ig M gw lD I g2 hm (λc=>hd c _ hs) λc=>hy c _ hs
theorem D4(M:MC a.toList b.toList)(gw:LU a b)(lD:kindOf st=zk){y:Nat}{c:IS}(I:Iz a b c.2.1 c.2.2.1 c.2.2.2.1)(hm:m<=c.2.2.1+c.2.2.2.1){P:ForInStep IS->Ò->Prop}(hd:∀c:IS,B5 a b (m+1) c.1 c.2.1 c.2.2.1 c.2.2.2.1->P (.done c) st)(hy:∀c:IS,c.1=Ã->B5 a b (m+1) c.1 c.2.1 c.2.2.1 c.2.2.2.1->P (.yield c) st):
  wpS mo zA zE zs (Nh a b mg y c) P st:=by
 have pz:c.2.2.1<a.size:=Ũ I.ha;have uk:=I.hb;show Í (bX uk (Í (bX pz (Í (M.cmp _ (pB pz) _ (pB uk) _ _ lD ?_)))));cases hr:zr b[c.2.2.2.1] a[c.2.2.1] with
 |true=>have h2:=I.mi.pushB uk (xd M.trans pz I.mi.srtA hr);show cN N (Í (bX uk (cn (λh3=>Ð (hd _ (vf h2 h3))) λh3=>?_)));have I':Iz a b (c.2.1.push b[c.2.2.2.1]) c.2.2.1 (c.2.2.2.1+1):=⟨h2,I.ha,ż uk h3⟩;show cI (λz=>Ð (hd _ ⟨I',ŧ hm⟩)) λz=>Ð (hy _ N ⟨I',ŧ hm⟩)
 |false=>have h2:=I.mi.pushA pz (xd M.trans uk I.mi.srtB (M.tot _ (pB pz) _ (pB uk) hr));show cp Ļ (Í (bX pz (cn (λh3=>Ð (hd _ (p5 gw h2 h3))) λh3=>?_)));have I':Iz a b (c.2.1.push a[c.2.2.1]) (c.2.2.1+1) c.2.2.2.1:=⟨h2,ż I.ha h3,uk⟩;have Tx:m+1<=c.2.2.1+1+c.2.2.2.1:=(by show jL (y7 0xc5210b1012ba180213ba184313ba63512ba641 N (iL hm) (iA _ _) (iA _ _) (iA _ _) (iA _ _)));show cI (λz=>Ð (hd _ ⟨I',Tx⟩)) λz=>Ð (hy _ N ⟨I',Tx⟩)
theorem D6(M:MC a.toList b.toList)(gw:LU a b)(lD:kindOf st=zk){x:Nat}{c:OS}(I:Iz a b c.2.1 c.2.2.1 c.2.2.2.1)(hm:m<=c.2.2.1+c.2.2.2.1){P:ForInStep OS->Ò->Prop}(hd:∀q out ia ib mg aS,bV st aS->fw zr a.toList b.toList (afb q)->P (.done (À q,out,ia,ib,mg)) aS)
  (hy:∀out ia ib mg aS,bV st aS->Iz a b out ia ib->m+1<=ia+ib->P (.yield (Ã,out,ia,ib,mg)) aS):wpS mo zA zE zs (Nj a b x c) P st:=by
 show Í (Ę (ã (I:=λy (d:IS) aS=>aS=st/\d.1=Ã/\B5 a b (m+y) d.1 d.2.1 d.2.2.1 d.2.2.2.1) (Q:=λ(d:IS) aS=>aS=st/\B5 a b (m+1) d.1 d.2.1 d.2.2.1 d.2.2.2.1) (λy d aS z hy q=>?_) (λd aS q=>?_) ⟨N,N,I,hm⟩) λd aS q=>?_)
 ·rw[q.1]
  have q2:=q.2.2;rw[q.2.1]at q2;show D4 M gw lD q2.1 q2.2 (λc o=>⟨rfl,?_⟩) λc e o=>⟨rfl,e,o⟩;rcases c with ⟨_|mq,c⟩
  ·show⟨o.1,z' (ŧ (Ō _ _)) o.2⟩
  ·show o
 ·have q2:=q.2.2
  rw[q.2.1]at q2;have ha:=q2.1.ha;have hb:=q2.1.hb;have hz:=q2.2;show absurd (adW 0 (a.size+b.size)) (by lia)
 ·rw[q.1]
  have q2:=q.2;rcases d with ⟨_|mq,d⟩
  ·show Í (Ķ (ú ⟨N,(Í (Ę (ã (I:=λy (f:LS) aS=>bV st aS/\f.1=Ã/\B5 a b (m+1) f.1 f.2.1 f.2.2.1 f.2.2.2.1) (Q:=λ(f:LS) aS=>bV st aS/\B5 a b (m+1) f.1 f.2.1 f.2.2.1 f.2.2.2.1) (λy f aS z hy q=>?_) (λf aS q=>⟨q.1,q.2.2⟩) ⟨bV.refl _,N,q2⟩) λf aS q=>?_))⟩))
   ·have q2:=q.2.2
    rw[q.2.1]at q2;have hk:=q.1.k.trans lD;show cI (λz=>Ie M gw hk q2.1 q2.2 (λc dA hs o=>⟨q.1.trans hs,o⟩) λc dA hs e o=>⟨q.1.trans hs,e,o⟩) λz=>Ie M gw hk q2.1 q2.2 (λc dA hs o=>⟨q.1.trans hs,o⟩) λc dA hs e o=>⟨q.1.trans hs,e,o⟩
   ·have q2:=q.2
    rcases f with ⟨_|mq,f⟩
    ·show Í ?_
     rw[eA];show ù (Ð (hy _ _ _ _ _ (q.1.trans ⟨N,N,N,N⟩) q2.1 q2.2))
    ·show Ð (hd _ _ _ _ _ _ q.1 q2)
  ·show Ð (hd _ _ _ _ _ _ (bV.refl _) q2)
theorem yb{Q:Array Ë->Ò->Prop}(M:MC a.toList b.toList)(gw:LU a b)(Qa:0<a.size)(RI:0<b.size)(first:∀x∈a.toList,zr b[0] x=Æ)(lD:kindOf st=zk)
  (h:∀mq aS,bV st aS->fw zr a.toList b.toList mq.toList->Q mq aS):wpS mo zA zE zs (qT a b) Q st:=by
 rw[w7];refine Í (Ķ (ú ⟨N,Í (bX RI ?_)⟩));have h0:Mg zr a.toList b.toList (#[]:Array Ë).toList (a.toList.drop 0) (b.toList.drop 0):=⟨M.sX,M.sY,List.Perm.refl _⟩;have h1:=h0.pushB RI first
 show cn (λzg=>Ð (h _ _ (bV.refl _) (vf h1 zg))) λzg=>cn (λOD=>Ð (h _ _ (bV.refl _) (p5 gw h1 OD))) λOD=>Í (İ (Í (Ę (ã (I:=λx (c:OS) aS=>bV st aS/\c.1=Ã/\B5 a b (x+1) c.1 c.2.1 c.2.2.1 c.2.2.2.1) (Q:=λ(c:OS) aS=>bV st aS/\∃q,c.1=À q/\fw zr a.toList b.toList q.toList) (λx c aS z hx q=>?_) (λc aS q=>?_) ⟨bV.refl _,N,⟨h1,ż Qa OD,ż RI zg⟩,ē _⟩) λc aS q=>?_)))
 ·have q2:=q.2.2
  rw[q.2.1]at q2;show D6 M gw (q.1.k.trans lD) q2.1 q2.2 (λmq out ia ib mg dA hs e=>⟨q.1.trans hs,_,N,e⟩) λout ia ib mg dA hs I hm=>⟨q.1.trans hs,N,I,hm⟩
 ·have q2:=q.2.2
  rw[q.2.1]at q2;have ha:=q2.1.ha;have hb:=q2.1.hb;have hz:=q2.2;show absurd (adW 0 (a.size+b.size)) (by lia)
 ·show ä q.2 λmq e=>?_
  rw[e.1];show Ð (h _ _ q.1 e.2)
end
noncomputable def qS:Array Ë->Array Ë->StateT Ò Sem (Array Ë):=sortPriv% PySem.Builtin.mergeHi
noncomputable def gs(a b out:Array Ë)(na nb:Nat):Array Ë:=a.extract 0 na++b.extract 0 nb++out.reverse
noncomputable def kK(a b out:Array Ë)(na nb:Nat):Array Ë:=b.extract 0 nb++a.extract 0 na++out.reverse
abbrev HS:Type:=Option (Array Ë)×Nat×Nat×Array Ë×Nat×Nat×Nat
def hD(a b out:Array Ë)(na nb mg ac bc:Nat):StateT Ò Sem (ForInStep HS):=
 elem' a (na-1)>>=λx=>
  if (na-1==0)=Æ then pure (.done (À (gs a b (out.push x) (na-1) nb),na-1,nb,out.push x,mg,ac,bc))
  else if (decide (ac<7)&&decide (bc<7))=Æ then pure (.done (Ã,na-1,nb,out.push x,mg,ac,bc))
  else pure (.yield (Ã,na-1,nb,out.push x,mg,ac,bc))
def hC(a b out:Array Ë)(na nb mg ac bc:Nat):StateT Ò Sem (ForInStep HS):=
 elem' b (nb-1)>>=λx=>
  if (nb-1==1)=Æ then pure (.done (À (kK a b (out.push x) na (nb-1)),na,nb-1,out.push x,mg,ac,bc))
  else elem' a (na-1)>>=λy=>fi Æ y b 0 (nb-1) (nb-1-1)>>=λz=>match z with
   |some k=>if nb-1-k > 0 then (if (k==1)=Æ then pure (.done (À (kK a b (out.push x++(b.extract k (nb-1)).reverse) na k),na,k,out.push x++(b.extract k (nb-1)).reverse,mg,ac,nb-1-k))
     else if (k==0)=Æ then pure (.done (À (gs a b (out.push x++(b.extract k (nb-1)).reverse) na k),na,k,out.push x++(b.extract k (nb-1)).reverse,mg,ac,nb-1-k))
     else hD a b (out.push x++(b.extract k (nb-1)).reverse) na k mg ac (nb-1-k))
    else hD a b (out.push x) na (nb-1) mg ac (nb-1-k)
   |_=>pure (.done (À (gs a b (out.push x) na (nb-1)),na,nb-1,out.push x,mg,ac,bc))
def hB(a b out:Array Ë)(na nb mg ac bc:Nat):StateT Ò Sem (ForInStep HS):=
 eM mg>>=λy=>elem' b (nb-1)>>=λx=>fi Ê x a 0 na (na-1)>>=λz=>match z with
 |some k=>if na-k > 0 then (if (k==0)=Æ then pure (.done (À (gs a b (out++(a.extract k na).reverse) k nb),k,nb,out++(a.extract k na).reverse,mg,na-k,bc))
   else hC a b (out++(a.extract k na).reverse) k nb mg (na-k) bc)
  else hC a b out na nb mg (na-k) bc
 |_=>pure (.done (À (gs a b out na nb),na,nb,out,mg,ac,bc))
abbrev JS:Type:=Option (Array Ë)×Nat×Nat×Array Ë×Nat×Nat
def Ng(a b:Array Ë)(mg:Nat)(_:Nat)(c:JS):StateT Ò Sem (ForInStep JS):=
 elem' b (c.2.2.1-1)>>=λy=>elem' a (c.2.1-1)>>=λx=>lt' y x>>=λz=>match z with
 |some t=>if t=Æ then elem' a (c.2.1-1)>>=λv=>
    if (c.2.1-1==0)=Æ then pure (.done (À (gs a b (c.2.2.2.1.push v) (c.2.1-1) c.2.2.1),c.2.1-1,c.2.2.1,c.2.2.2.1.push v,c.2.2.2.2.1+1,0))
    else if c.2.2.2.2.1+1 >= mg then pure (.done (Ã,c.2.1-1,c.2.2.1,c.2.2.2.1.push v,c.2.2.2.2.1+1,0)) else pure (.yield (Ã,c.2.1-1,c.2.2.1,c.2.2.2.1.push v,c.2.2.2.2.1+1,0))
   else elem' b (c.2.2.1-1)>>=λv=>
    if (c.2.2.1-1==1)=Æ then pure (.done (À (kK a b (c.2.2.2.1.push v) c.2.1 (c.2.2.1-1)),c.2.1,c.2.2.1-1,c.2.2.2.1.push v,0,c.2.2.2.2.2+1))
    else if c.2.2.2.2.2+1 >= mg then pure (.done (Ã,c.2.1,c.2.2.1-1,c.2.2.2.1.push v,0,c.2.2.2.2.2+1)) else pure (.yield (Ã,c.2.1,c.2.2.1-1,c.2.2.2.1.push v,0,c.2.2.2.2.2+1))
 |_=>pure (.done (À (gs a b c.2.2.2.1 c.2.1 c.2.2.1),c.2.1,c.2.2.1,c.2.2.2.1,c.2.2.2.2.1,c.2.2.2.2.2))
def Rc(a b:Array Ë)(_:Nat)(c:HS):StateT Ò Sem (ForInStep HS):=
 if c.2.2.2.2.1 > 1 then hB a b c.2.2.2.1 c.2.1 c.2.2.1 (c.2.2.2.2.1-1) c.2.2.2.2.2.1 c.2.2.2.2.2.2 else hB a b c.2.2.2.1 c.2.1 c.2.2.1 c.2.2.2.2.1 c.2.2.2.2.2.1 c.2.2.2.2.2.2
abbrev QS:Type:=Option (Array Ë)×Nat×Nat×Array Ë×Nat
def Ni(a b:Array Ë)(_:Nat)(c:QS):StateT Ò Sem (ForInStep QS):=
 forIn [0:a.size+b.size] ((Ã,c.2.1,c.2.2.1,c.2.2.2.1,0,0):JS) (Ng a b c.2.2.2.2)>>=λd=>match d.1 with
 |some q=>pure (.done (À q,d.2.1,d.2.2.1,d.2.2.2.1,c.2.2.2.2))
 |none=>(liftM (rule "list.sort.gallop"):StateT Ò Sem Unit)>>=λz=>forIn [0:a.size+b.size] ((Ã,d.2.1,d.2.2.1,d.2.2.2.1,c.2.2.2.2+1,d.2.2.2.2.1,d.2.2.2.2.2):HS) (Rc a b)>>=λf=>match f.1 with
  |some q=>pure (.done (À q,f.2.1,f.2.2.1,f.2.2.2.1,f.2.2.2.2.1))
  |none=>eM (f.2.2.2.2.1+1)>>=λz=>pure (.yield (Ã,f.2.1,f.2.2.1,f.2.2.2.1,f.2.2.2.2.1+1))
theorem w6(a b:Array Ë):qS a b =
  ((liftM (rule "list.sort.merge-hi"):StateT Ò Sem Unit)>>=λz=>elem' a (a.size-1)>>=λx=>
   if (a.size-1==0)=Æ then pure (gs a b #[x] (a.size-1) b.size) else if (b.size==1)=Æ then pure (kK a b #[x] (a.size-1) b.size)
   else get>>=λzs=>forIn [0:a.size+b.size] ((Ã,a.size-1,b.size,#[x],gallopOf zs):QS) (Ni a b)>>=λc=>match c.1 with
    |some q=>pure q
    |none=>Ġ "internal:list.sort.merge-bound"):=by kernel_rfl
section
variable{la lb rb:List Ë}{a b out:Array Ë}{na nb k n:Nat}
theorem vu(h0:0<n)(hn:n<=m):n-1<m:=Į (Ϛ h0 ź) hn
theorem Sj(hn:n<=a.size):(a.toList.take n).length=n:=(ŷ ..).trans (ų hn)
theorem AA(a:Array Ë)(n i:Nat)(hi:i<(a.toList.take n).length):a.toList[0+i]?=À (a.toList.take n)[i]:=by rw[ϋ,ael];show N' _
theorem NA(h0:0<n)(hn:n<=a.size):(a.toList.take n).reverse=(a[n-1]'(vu h0 hn))::(a.toList.take (n-1)).reverse:=by
 cases n with
 |zero=>show absurd h0 (Ŧ _)
 |succ n=>rw[List.take_succ_eq_append_getElem hn,ab4];rfl
theorem jn(a:Array Ë)(n:Nat):(a.extract 0 n).toList=a.toList.take n:=by rw[acQ,acn];rfl
theorem Mg.pushHA{r:Ë->Ë->Bool}(h0:0<na)(hn:na<=a.size)(h:Mg r la lb out.toList (a.toList.take na).reverse rb)(hk:∀y∈rb,r (a[na-1]'(vu h0 hn)) y=Æ):Mg r la lb (out.push (a[na-1]'(vu h0 hn))).toList (a.toList.take (na-1)).reverse rb:=by rw[NA h0 hn]at h;rw[ac5];show h.addA (p:=[a[na-1]'(vu h0 hn)]) λx hx y hy=>by rw[W'.mp hx];show hk y hy
theorem Mg.extHA{r:Ë->Ë->Bool}(hk:k<=na)(h:Mg r la lb out.toList (a.toList.take na).reverse rb)(hb:∀x∈(a.toList.take na).drop k,∀y∈rb,r x y=Æ):Mg r la lb (out++(a.extract k na).reverse).toList (a.toList.take k).reverse rb:=by rw[<-ũ k (a.toList.take na),ab4,aea,ų hk]at h;rw[Ž,adb,acQ,acn,<-afx];show h.addA λx hx=>hb x (ϩ.mp hx)
theorem mF{r:Ë->Ë->Bool}(tr:∀x y z,r x y=Æ->r y z=Æ->r x z=Æ)(h0:0<n)(hn:n<=a.size)(zs:kX r (a.toList.take n).reverse)(h:∀x∈p,r x (a[n-1]'(vu h0 hn))=Æ):yg r p (a.toList.take n).reverse:=by rw[NA h0 hn]at zs ⊢;show EX tr zs h
structure Iy(a b out:Array Ë)(na nb:Nat):Prop where
 mi:Mg (IB zr) a.toList.reverse b.toList.reverse out.toList (a.toList.take na).reverse (b.toList.take nb).reverse
 ha:0<na
 ha':na<=a.size
 hb:1<nb
 hb':nb<=b.size
def nV(a b:Array Ë)(m:Nat)(q:Option (Array Ë))(na nb:Nat)(out:Array Ë):Prop:=match q with
 |some mq=>fw zr a.toList b.toList mq.toList
 |none=>Iy a b out na nb/\m+na+nb<=a.size+b.size
def NR(a b:Array Ë):Prop:=∀y∈b.toList.take 1,∀x∈a.toList,zr y x=Æ
theorem ui(h:Mg (IB zr) a.toList.reverse b.toList.reverse out.toList (a.toList.take na).reverse (b.toList.take nb).reverse)(hn:na=0):fw zr a.toList b.toList (gs a b out na nb).toList:=by unfold gs;rw[hn]at h ⊢;have q:=h.endB.rev;rw[ab4,aca]at q;rw[Ž,Ž,jn,jn,adb];show q
theorem OI(h:Mg (IB zr) a.toList.reverse b.toList.reverse out.toList (a.toList.take na).reverse (b.toList.take nb).reverse)(hn:nb=0):fw zr a.toList b.toList (gs a b out na nb).toList:=by unfold gs;rw[hn]at h ⊢;have q:=h.endA.rev;rw[ab4,aca]at q;rw[Ž,Ž,jn,jn,adb,aeJ,Ľ];show q
theorem uj(first:NR a b)(h:Mg (IB zr) a.toList.reverse b.toList.reverse out.toList (a.toList.take na).reverse (b.toList.take nb).reverse)(hn:nb=1):fw zr a.toList b.toList (kK a b out na nb).toList:=by unfold kK;have q:=(h.swap.endBA λx hx y hy=>first y (by rw[hn]at hy;exact ϩ.mp hy) x (Ů (ϩ.mp hx))).swap.rev;rw[ab4,ab4,aca,aca]at q;rw[Ž,Ž,jn,jn,adb];exact q
theorem Xa(h0:0<n)(h:m+n+p<=q):m+1+(n-1)+p<=q:=by rw[ū m,ϙ 1,acX h0];show h
theorem Xb(h0:0<p)(h:m+n+p<=q):m+1+n+(p-1)<=q:=by rw[Ϭ m,ū (m+n),ϙ 1,acX h0];show h
theorem UQ(hn:n'<=n)(hp:p'<=p)(h:m+n+p<=q):m+n'+p'<=q:=z' (ϭ (ϝ hn m) hp) h
theorem w8{m i j x:Nat}{C:Prop}(ha:0<i)(hz:m+max 0 x+i+j<=x):C:=by rw[ab1 (į _)]at hz;show absurd (Į (Į (abV ha) (Ϲ (afs x m) i)) (z' (Ō _ j) hz)) (Ŧ _)
end
section
variable{a b out:Array Ë}{na nb mg ac bc m:Nat}{st:Ò}{P:ForInStep HS->Ò->Prop}
theorem MC.trF(M:MC X Y)(x y z:Ë)(h:IB zr x y=Æ)(h':IB zr y z=Æ):IB zr x z=Æ:=M.trans z y x h' h
theorem Ik(I:Iy a b out na nb)(hc:∀x∈b.toList.take nb,zr x (a[na-1]'(vu I.ha I.ha'))=Æ)(hm:m+(na-1)+nb<=a.size+b.size)(hd:∀c:HS,nV a b m c.1 c.2.1 c.2.2.1 c.2.2.2.1->P (.done c) st)(hy:∀c:HS,c.1=Ã->nV a b m c.1 c.2.1 c.2.2.1 c.2.2.2.1->P (.yield c) st):
  wpS mo zA zE zs (hD a b out na nb mg ac bc) P st:=by
 have h1:=I.mi.pushHA I.ha I.ha' λy hy=>hc y (ϩ.mp hy);show Í (bX (vu I.ha I.ha') (cn (λh2=>Ð (hd _ (ui h1 h2))) λh2=>?_));have I':Iy a b (out.push (a[na-1]'(vu I.ha I.ha'))) (na-1) nb:=⟨h1,Ϸ h2,Ģ (vu I.ha I.ha'),I.hb,I.hb'⟩;show cI (λz=>Ð (hd _ ⟨I',hm⟩)) λz=>Ð (hy _ N ⟨I',hm⟩)
theorem Ij(M:MC a.toList b.toList)(first:NR a b)(lD:kindOf st=zk)(I:Iy a b out na nb)(hc:∀x∈a.toList.take na,zr x (b[nb-1]'(vu (Ũ I.hb) I.hb'))=Æ)(hm:m+na+nb<=a.size+b.size)(hd:∀c:HS,nV a b m c.1 c.2.1 c.2.2.1 c.2.2.2.1->P (.done c) st)(hy:∀c:HS,c.1=Ã->nV a b m c.1 c.2.1 c.2.2.1 c.2.2.2.1->P (.yield c) st):
  wpS mo zA zE zs (hC a b out na nb mg ac bc) P st:=by
 have zf:0<nb:=Ũ I.hb;have pz:=vu I.ha I.ha';have zg:nb-1<=b.size:=Ģ (vu zf I.hb');have h1:=(I.mi.swap.pushHA zf I.hb' λy hy=>hc y (ϩ.mp hy)).swap;refine Í (bX (vu zf I.hb') (cn (λh2=>Ð (hd _ (uj first h1 h2))) λh2=>Í (bX pz ?_)));have hp:0<nb-1:=ab5 I.hb;refine Í (M.gY (λy hy=>Ů hy) (M.sY.sublist (acR _ _)) (Sj zg) (AA b _) (pB pz) (Ϛ hp ź) lD λk hk g1 g2=>?_);rw[aea,ų hk]at g1;refine cI (λj=>?_) λlg=>?_
 ·have h3:=(h1.swap.extHA hk λx hx=>mF M.trF I.ha I.ha' h1.srtA (p:=[x]) (λz hz=>by rw[W'.mp hz];show g2 x hx) x G').swap
  exact cn (λh4=>Ð (hd _ (uj first h3 h4))) λh4=>cn (λh5=>Ð (hd _ (OI h3 h5))) λh5=>Ik ⟨h3,I.ha,I.ha',ż (Ϸ h5) (Ne.symm h4),z' hk zg⟩ g1 (UQ (Ś _ _) (z' hk (Ś _ _)) hm) hd hy
 ·have e:k=nb-1:=Ű hk (adR (aci lg))
  rw[e]at g1;show Ik ⟨h1,I.ha,I.ha',ż hp (Ne.symm h2),zg⟩ g1 (UQ (Ś _ _) (Ś _ _) hm) hd hy
theorem Ii(M:MC a.toList b.toList)(first:NR a b)(lD:kindOf st=zk)(I:Iy a b out na nb)(hm:m+na+nb<=a.size+b.size)(hd:∀(c:HS) aS,bV st aS->nV a b m c.1 c.2.1 c.2.2.1 c.2.2.2.1->P (.done c) aS)(hy:∀(c:HS) aS,bV st aS->c.1=Ã->nV a b m c.1 c.2.1 c.2.2.1 c.2.2.2.1->P (.yield c) aS):
  wpS mo zA zE zs (hB a b out na nb mg ac bc) P st:=by
 have zf:0<nb:=Ũ I.hb;have uk:=vu zf I.hb';have hs:bV st (SortSt.mk' (kindOf st) (Ú st) (Ö st) mg (ë st)):=⟨N,N,N,N⟩;show Í ?_;rw[eA];show ù (Í (bX uk (Í (M.gX (st:=SortSt.mk' (kindOf st) (Ú st) (Ö st) mg (ë st)) (λy hy=>Ů hy) (M.sX.sublist (acR _ _)) (Sj I.ha') (AA a _) (pB uk) (Ϛ I.ha ź) lD λk hk g1 g2=>?_))));rw[aea,ų hk]at g1;show cI (λj=>?_) λlg=>?_
 ·have h3:=I.mi.extHA hk λx hx=>mF M.trF zf I.hb' I.mi.srtB (p:=[x]) (λz hz=>by rw[W'.mp hz];show g2 x hx) x G'
  exact cn (λh4=>Ð (hd _ _ hs (ui h3 h4))) λh4=>Ij M first lD ⟨h3,Ϸ h4,z' hk I.ha',I.hb,I.hb'⟩ g1 (UQ hk (ē _) hm) (λc=>hd c _ hs) λc=>hy c _ hs
 ·have e:k=na:=Ű hk (adR (aci lg))
  rw[e]at g1;exact Ij M first lD I g1 hm (λc=>hd c _ hs) λc=>hy c _ hs
theorem D3(M:MC a.toList b.toList)(first:NR a b)(lD:kindOf st=zk){y:Nat}{c:JS}(I:Iy a b c.2.2.2.1 c.2.1 c.2.2.1)(hm:m+c.2.1+c.2.2.1<=a.size+b.size){P:ForInStep JS->Ò->Prop}(hd:∀c:JS,nV a b (m+1) c.1 c.2.1 c.2.2.1 c.2.2.2.1->P (.done c) st)(hy:∀c:JS,c.1=Ã->nV a b (m+1) c.1 c.2.1 c.2.2.1 c.2.2.2.1->P (.yield c) st):
  wpS mo zA zE zs (Ng a b mg y c) P st:=by
 have zf:0<c.2.2.1:=Ũ I.hb;have pz:=vu I.ha I.ha';have uk:=vu zf I.hb';show Í (bX uk (Í (bX pz (Í (M.cmp _ (pB pz) _ (pB uk) _ _ lD ?_)))));cases hr:zr b[c.2.2.1-1] a[c.2.1-1] with
 |true=>have h2:=I.mi.pushHA I.ha I.ha' λx hx=>mF M.trF zf I.hb' I.mi.srtB (p:=[a[c.2.1-1]]) (λz hz=>by rw[W'.mp hz];show hr) _ G' x hx;show cN N (Í (bX pz (cn (λh3=>Ð (hd _ (ui h2 h3))) λh3=>?_)));have I':Iy a b (c.2.2.2.1.push a[c.2.1-1]) (c.2.1-1) c.2.2.1:=⟨h2,Ϸ h3,Ģ pz,I.hb,I.hb'⟩;show cI (λk=>Ð (hd _ ⟨I',Xa I.ha hm⟩)) λk=>Ð (hy _ N ⟨I',Xa I.ha hm⟩)
 |false=>have hr:=M.tot _ (pB pz) _ (pB uk) hr;have h2:=(I.mi.swap.pushHA zf I.hb' λx hx=>mF M.trF I.ha I.ha' I.mi.srtA (p:=[b[c.2.2.1-1]]) (λz hz=>by rw[W'.mp hz];exact hr) _ G' x hx).swap;refine cp Ļ (Í (bX uk (cn (λh3=>Ð (hd _ (uj first h2 h3))) λh3=>?_)));have I':Iy a b (c.2.2.2.1.push b[c.2.2.1-1]) c.2.1 (c.2.2.1-1):=⟨h2,I.ha,I.ha',ż (ab5 I.hb) (Ne.symm h3),Ģ uk⟩;exact cI (λk=>Ð (hd _ ⟨I',Xb zf hm⟩)) λk=>Ð (hy _ N ⟨I',Xb zf hm⟩)
theorem D5(M:MC a.toList b.toList)(first:NR a b)(lD:kindOf st=zk){x:Nat}{c:QS}(I:Iy a b c.2.2.2.1 c.2.1 c.2.2.1)(hm:m+c.2.1+c.2.2.1<=a.size+b.size){P:ForInStep QS->Ò->Prop}(hd:∀q na nb out mg aS,bV st aS->fw zr a.toList b.toList (afb q)->P (.done (À q,na,nb,out,mg)) aS)
  (hy:∀na nb out mg aS,bV st aS->Iy a b out na nb->m+1+na+nb<=a.size+b.size->P (.yield (Ã,na,nb,out,mg)) aS):wpS mo zA zE zs (Ni a b x c) P st:=by
 show Í (Ę (ã (I:=λy (d:JS) aS=>aS=st/\d.1=Ã/\nV a b (m+y) d.1 d.2.1 d.2.2.1 d.2.2.2.1) (Q:=λ(d:JS) aS=>aS=st/\nV a b (m+1) d.1 d.2.1 d.2.2.1 d.2.2.2.1) (λy d aS z hy q=>?_) (λd aS q=>?_) ⟨N,N,I,hm⟩) λd aS q=>?_)
 ·rw[q.1]
  have q2:=q.2.2;rw[q.2.1]at q2;refine D3 M first lD q2.1 q2.2 (λc o=>⟨N,?_⟩) λc e o=>⟨N,e,o⟩
  rcases c with ⟨_|mq,c⟩
  ·show⟨o.1,z' (Ϲ (Ϲ (ŧ (Ō m y)) _) _) o.2⟩
  ·show o
 ·have q2:=q.2.2
  rw[q.2.1]at q2;show w8 q2.1.ha q2.2
 ·rw[q.1]
  have q2:=q.2;rcases d with ⟨_|mq,d⟩
  ·show Í (Ķ (ú ⟨N,(Í (Ę (ã (I:=λy (f:HS) aS=>bV st aS/\f.1=Ã/\nV a b (m+1) f.1 f.2.1 f.2.2.1 f.2.2.2.1) (Q:=λ(f:HS) aS=>bV st aS/\nV a b (m+1) f.1 f.2.1 f.2.2.1 f.2.2.2.1) (λy f aS z hy q=>?_) (λf aS q=>⟨q.1,q.2.2⟩) ⟨bV.refl _,N,q2⟩) λf aS q=>?_))⟩))
   ·have q2:=q.2.2
    rw[q.2.1]at q2;have hk:=q.1.k.trans lD;exact cI (λz=>Ii M first hk q2.1 q2.2 (λc dA hs o=>⟨q.1.trans hs,o⟩) λc dA hs e o=>⟨q.1.trans hs,e,o⟩) λz=>Ii M first hk q2.1 q2.2 (λc dA hs o=>⟨q.1.trans hs,o⟩) λc dA hs e o=>⟨q.1.trans hs,e,o⟩
   ·have q2:=q.2
    rcases f with ⟨_|mq,f⟩
    ·show Í ?_
     rw[eA];show ù (Ð (hy _ _ _ _ _ (q.1.trans ⟨N,N,N,N⟩) q2.1 q2.2))
    ·show Ð (hd _ _ _ _ _ _ q.1 q2)
  ·show Ð (hd _ _ _ _ _ _ (bV.refl _) q2)
theorem x9{Q:Array Ë->Ò->Prop}(M:MC a.toList b.toList)(first:NR a b)(Qa:0<a.size)(RI:0<b.size)(gw:∀y∈b.toList,zr y (a[a.size-1]'(vu Qa (ē _)))=Æ)(lD:kindOf st=zk)
  (h:∀mq aS,bV st aS->fw zr a.toList b.toList mq.toList->Q mq aS):wpS mo zA zE zs (qS a b) Q st:=by
 rw[w6];show Í (Ķ (ú ⟨N,Í (bX (vu Qa (ē _)) ?_)⟩));have ta:∀a:Array Ë,a.toList.take a.size=a.toList:=λa=>acW (ē _)
 have h0:Mg (IB zr) a.toList.reverse b.toList.reverse (#[]:Array Ë).toList (a.toList.take a.size).reverse (b.toList.take b.size).reverse:=by rw[ta,ta];show⟨BC M.sX,BC M.sY,List.Perm.refl _⟩
 have h1:=h0.pushHA Qa (ē _) λy hy=>gw y (Ů (ϩ.mp hy));refine cn (λOD=>Ð (h _ _ (bV.refl _) (ui h1 OD))) λOD=>cn (λzg=>Ð (h _ _ (bV.refl _) (uj first h1 zg))) λzg=>Í (İ (Í (Ę (ã (I:=λx (c:QS) aS=>bV st aS/\c.1=Ã/\nV a b (1+x) c.1 c.2.1 c.2.2.1 c.2.2.2.1) (Q:=λ(c:QS) aS=>bV st aS/\∃q,c.1=À q/\fw zr a.toList b.toList q.toList) (λx c aS z hx q=>?_) (λc aS q=>?_) ⟨bV.refl _,N,⟨h1,Ϸ OD,Ś _ _,ż RI (Ne.symm zg),ē _⟩,?_⟩) λc aS q=>?_)))
 ·have q2:=q.2.2
  rw[q.2.1]at q2;exact D5 M first (q.1.k.trans lD) q2.1 q2.2 (λmq na nb out mg dA hs e=>⟨q.1.trans hs,_,N,e⟩) λna nb out mg dA hs I hm=>⟨q.1.trans hs,N,I,hm⟩
 ·have q2:=q.2.2
  rw[q.2.1]at q2;show w8 q2.1.ha q2.2
 ·show 1+0+(a.size-1)+b.size<=a.size+b.size
  rw[ϙ (1+0),acX Qa];show ē _
 ·show ä q.2 λmq e=>?_
  rw[e.1];show Ð (h _ _ q.1 e.2)
end
noncomputable def AB(p:Nat)(q:Array Ë):StateT Ò Sem Bool:=
 (modify λzs=>setArr zs (List.foldl (λa (x:Ë×Nat)=>a.setIfInBounds (p+x.snd) x.fst) (Ú zs) q.toList.zipIdx))>>=λz=>get>>=λzs=>pure (ë zs).isNone
def Nv(zs:Ò)(sa na sb nb:Nat):StateT Ò Sem Bool:=
 elem' (Ú zs) sb>>=λy=>fi Ê y (Ú zs) sa na 0>>=λz=>match z with
 |some k=>if (na-k==0)=Æ then pure Æ
  else elem' (Ú zs) (sa+k+(na-k)-1)>>=λx=>fi Æ x (Ú zs) sb nb (nb-1)>>=λz=>match z with
   |some n=>if (n==0)=Æ then pure Æ
    else if na-k<=n then qT ((Ú zs).extract (sa+k) sb) ((Ú zs).extract sb (sb+n))>>=AB (sa+k)
    else qS ((Ú zs).extract (sa+k) sb) ((Ú zs).extract sb (sb+n))>>=AB (sa+k)
   |_=>pure Ê
 |_=>pure Ê
theorem w5{i sa na pw sb nb pw2:Nat}{st:Ò}(hi:(Ö st)[i]?=À (sa,na,pw))(hj:(Ö st)[i+1]?=À (sb,nb,pw2)){Q:Bool->Ò->Prop}
  (h:wpS mo zA zE zs (Nv st sa na sb nb) Q (Č st (((Ö st).setIfInBounds i (sa,na+nb,pw)).eraseIdxIfInBounds (i+1)))):wpS mo zA zE zs (Ŋ i) Q st:=by
 have e:Ŋ i=(get>>=λzs=>match (Ö zs)[i]?,(Ö zs)[i+1]? with
  |some (sa,na,pw),À (sb,nb,_)=>set (Č zs (((Ö zs).setIfInBounds i (sa,na+nb,pw)).eraseIdxIfInBounds (i+1)))>>=λz=>Nv zs sa na sb nb
  |_,_=>Ġ "internal:list.sort.pending"):=by kernel_rfl
 rw[e];show Í (İ ?_);rw[hi,hj];show Í ?_;unfold wpS;rw[StateT.run_set];show Ç ⟨N,h⟩
theorem Ao(q:Nat)(l:List Ë){T l' P:List Ë}{n:Nat}{arr:Array Ë}(e:arr.toList=P++(l'++T))(hP:P.length=q+n)(hl:l.length=l'.length):((l.zipIdx n).foldl (λa (x:Ë×Nat)=>a.setIfInBounds (q+x.2) x.1) arr).toList=P++(l++T):=by
 induction l generalizing l' P n arr with
 |nil=>rw[϶.mp hl.symm]at e;show e
 |cons x l ih=>
  cases l' with
  |nil=>show nomatch hl
  |cons y l'=>
   rw[adU,Ϯ,ih (P:=P++[x]) (l':=l') ?_ ?_ (ad0.inj hl),Ć];rfl
   ·rw[aeb,e,<-hP,ac2 _ _ (ē _),acO,Ć];rfl
   ·rw[Ā,hP];rfl
section
variable{X Y T P Wx:List Ë}{k n:Nat}
theorem zK(sX:kX zr X)(sY:kX zr Y)(h1:yg zr (X.take k) Y)(h2:yg zr X (Y.drop n))(hm:fw zr (X.drop k) (Y.take n) Wx):fw zr X Y (X.take k++(Wx++Y.drop n)):=by
 have eX:=ũ k X;have eY:=ũ n Y;have a:=cz.mp (show kX zr (X.take k++X.drop k) by rw[eX];show sX);have b:=cz.mp (show kX zr (Y.take n++Y.drop n) by rw[eY];show sY);have pA:∀z∈Wx,z∈X.drop k\/z∈Y.take n:=λz hz=>ğ.mp (hm.pm.mem_iff.mp hz);show⟨cz.mpr ⟨a.1,cz.mpr ⟨hm.so,b.2.1,λx hx y hy=>?_⟩,λx hx z hz=>?_⟩,?_⟩
 ·show â (pA x hx) (λh=>h2 x (Ϟ h) y hy) λh=>b.2.2 x h y hy
 ·show â (ğ.mp hz) (λhz=>â (pA z hz) (λh=>a.2.2 x hx z h) λh=>h1 x hx z (Ů h)) λhz=>h1 x hx z (Ϟ hz)
 ·show((hm.pm.append_right _).append_left _).trans ?_
  rw[Ć,eY,<-Ć,eX]
theorem gW(e:l=P++(X++T))(hP:P.length=n)(i:Nat)(hi:i<X.length):l[n+i]?=À X[i]:=by rw[e,<-hP,Ϣ (Ō _ _),ϵ,ϖ hi,N' hi]
theorem Jc(tr:∀x y z,zr x y=Æ->zr y z=Æ->zr x z=Æ)(zs:kX zr Y)(h0:0<Y.length)(h:∀x∈P,zr x Y[0]=Æ):yg zr P Y:=by
 cases Y with
 |nil=>show nomatch h0
 |cons y Y=>show EX tr zs h
theorem C7(h0:0<Y.length)(h:y∈Y.take (min 1 n)):y=Y[0]:=by
 cases Y with
 |nil=>show nomatch h0
 |cons z Y=>show W'.mp ((List.take_sublist_take_left (acl 1 n)).subset h)
theorem sJ{l:List Ë}(h:l.length-1<l.length):l.drop (l.length-1)=[l[l.length-1]]:=by rw[aby h,acX (Ŷ (į _) h),adV]
theorem xK(tr:∀x y z,zr x y=Æ->zr y z=Æ->zr x z=Æ)(zs:kX zr X)(h:X.length-1<X.length){l:List Ë}(g:∀y∈l,zr X[X.length-1] y=Æ):yg zr X l:=λx hx y hy=>by
 have q:=cz.mp (show kX zr (X.take (X.length-1)++X.drop (X.length-1)) by rw[ũ];show zs);have hx:x∈X.take (X.length-1)++X.drop (X.length-1):=by rw[ũ];show hx
 rw[sJ h]at q hx;show â (ğ.mp hx) (λhx=>tr _ _ _ (q.2.2 x hx _ G') (g y hy)) λhx=>?_;rw[W'.mp hx];show g y hy
theorem AQ{arr:Array Ë}{i j:Nat}(e:arr.toList=P++(X++T))(hi:i=P.length)(hj:j=P.length+X.length):(arr.extract i j).toList=X:=by rw[acQ,acn,e,hi,hj,List.drop_left,ϵ,List.take_left]
end
section
variable{st:Ò}
theorem Ic{k n sa:Nat}{P X Y T:List Ë}{mq:Array Ë}{Q:Bool->Ò->Prop}(e:(Ú st).toList=P++(X++(Y++T)))(hP:P.length=sa)(hk:k<=X.length)(hE:fw zr (X.drop k) (Y.take n) mq.toList)(hf:ë st=Ã)
  (h:∀arr,arr.toList=P++((X.take k++(mq.toList++Y.drop n))++T)->Q Æ (setArr st arr)):wpS mo zA zE zs (AB (sa+k) mq) Q st:=by
 have hw:=Ao (sa+k) mq.toList (T:=Y.drop n++T) (l':=X.drop k++Y.take n) (P:=P++X.take k) (n:=0) (arr:=Ú st) (by
  rw[e,Ć P,Ć (X.drop k),<-Ć (X.take k),ũ,<-Ć (Y.take n),ũ]) (by rw[Ā,hP,ŷ,ų hk];rfl) hE.pm.length_eq
 show Í (ù (Í (İ (Ð ?_))));show Q (ë st).isNone _;rw[hf];show h _ (hw.trans ?_);rw[Ć,Ć,Ć]
theorem x8{i sa pw pw2:Nat}{P X Y T:List Ë}{Q:Bool->Ò->Prop}(hi:(Ö st)[i]?=À (sa,X.length,pw))(hj:(Ö st)[i+1]?=À (sa+X.length,Y.length,pw2))
  (e:(Ú st).toList=P++(X++(Y++T))) (hP:P.length=sa) (hX:0<X.length) (hY:0<Y.length) (M:MC X Y) (lD:kindOf st=zk) (hf:ë st=Ã)
  (h:∀Ù aS,fw zr X Y Ù->kindOf aS=kindOf st->(Ú aS).toList=P++(Ù++T)->Ö aS=((Ö st).setIfInBounds i (sa,X.length+Y.length,pw)).eraseIdxIfInBounds (i+1)->ë aS=Ã->Q Æ aS) :
  wpS mo zA zE zs (Ŋ i) Q st:=by
 show w5 hi hj ?_;have Tw:X.length-1<X.length:=Ϛ hX ź;have e2:(Ú st).toList=(P++X)++(Y++T):=by rw[e,Ć]
 have Vc:(P++X).length=sa+X.length:=by rw[Ā,hP]
 have eX:=gW e hP;have eY:=gW e2 Vc;show Í (jo (eY 0 hY) ?_);have same:yg zr X Y->Q Æ (Č st (((Ö st).setIfInBounds i (sa,X.length+Y.length,pw)).eraseIdxIfInBounds (i+1))):=λTK=>h (X++Y) _ ⟨cz.mpr ⟨M.sX,M.sY,TK⟩,List.Perm.refl _⟩ N (by rw[Ć];show e) N hf;show Í (M.gX (st:=Č st (((Ö st).setIfInBounds i (sa,X.length+Y.length,pw)).eraseIdxIfInBounds (i+1))) (λx hx=>hx) M.sX N eX (š hY) hX lD λk hk g1 g2=>?_);have Vf:yg zr (X.take k) Y:=Jc M.trans M.sY hY g1;show cn (λhz=>Ð (same ?_)) λhz=>?_
 ·rw[acW (adR hz)]at Vf;show Vf
 have Es:k<X.length:=Nat.lt_of_sub_pos (Ϸ hz);have ei:sa+k+(X.length-k)-1=sa+(X.length-1):=by rw[ū,acj hk,ac6 hX]
 show Í (jo (x:=X[X.length-1]) (by rw[ei];show eX _ Tw) (Í (M.gY (st:=Č st (((Ö st).setIfInBounds i (sa,X.length+Y.length,pw)).eraseIdxIfInBounds (i+1))) (λy hy=>hy) M.sY N eY (š Tw) (Ϛ hY ź) lD λn hn g3 g4=>?_)));have Vg:yg zr X (Y.drop n):=xK M.trans M.sX Tw g4;show cn (λMF=>Ð (same ?_)) λMF=>?_
 ·rw[MF]at Vg;show Vg
 have ex:((Ú st).extract (sa+k) (sa+X.length)).toList=X.drop k:=AQ (P:=P++X.take k) (T:=Y++T) (by rw[e,Ć,<-Ć (X.take k),ũ]) (by rw[Ā,hP,ŷ,ų hk]) (by rw[Ā,hP,ŷ,ų hk,ϻ,ū,acj hk]);have ey:((Ú st).extract (sa+X.length) (sa+X.length+n)).toList=Y.take n:=AQ (P:=P++X) (T:=Y.drop n++T) (by rw[e2,<-Ć (Y.take n),ũ]) Vc.symm (by rw[Vc,ŷ,ų hn]);generalize (Ú st).extract (sa+k) (sa+X.length)=xa at ex;generalize (Ú st).extract (sa+X.length) (sa+X.length+n)=ya at ey;have sx:xa.size=X.length-k:=by rw[<-ώ,ex,ϻ]
 have sy:ya.size=n:=by rw[<-ώ,ey,ŷ,ų hn]
 have M2:MC xa.toList ya.toList:=by rw[ex,ey];show⟨λx hx y hy=>M.cmp x (Ϟ hx) y (Ů hy),M.trans,M.asym,λx hx y hy=>M.tot x (Ϟ hx) y (Ů hy),M.sX.sublist (List.drop_sublist _ _),M.sY.sublist (acR _ _)⟩
 have gw:LU xa ya:=λy hy x hx=>by rw[ey]at hy;rw[ex,sx,adI,<-ac6 (ab5 Es),acj hk,sJ Tw]at hx;rw[W'.mp hx];show g3 y hy
 have first:NR xa ya:=λy hy x hx=>by rw[ex]at hx;rw[ey,aea]at hy;rw[C7 hY hy];exact g2 x hx
 have Wj:0<xa.size:=by rw[sx];show ab5 Es
 have Wk:0<ya.size:=by rw[sy];show Ϸ MF
 have H3:∀(mq:Array Ë) (dA:Ò),bV (Č st (((Ö st).setIfInBounds i (sa,X.length+Y.length,pw)).eraseIdxIfInBounds (i+1))) dA->fw zr xa.toList ya.toList mq.toList->wpS mo zA zE zs (AB (sa+k) mq) Q dA:=λmq dA hs hE=>by rw[ex,ey]at hE;show Ic ((congrArg afb hs.a).trans e) hP hk hE (hs.f.trans hf) λarr ea=>h _ _ (zK M.sX M.sY Vf Vg hE) hs.k ea hs.p (hs.f.trans hf)
 exact cI (λz=>Í (yb M2 gw Wj Wk (λx hx=>first _ (by rw[<-afy (l:=ya.toList),AM Wk];exact G') x hx) lD H3)) λz=>Í (x9 M2 first Wj Wk (λy hy=>gw y hy _ (by rw[AM (Ϛ Wj ź)];exact G')) lD H3)
end
section
variable{st:Ò}
theorem gh(h:zo v<zo u):rr zb zo u v=zb u v:=by unfold rr;rw[decide_eq_false (by show λq0=>zI (y2 0x1c080811b1011b01 N (iT h) (iT q0))),adJ,adp]
theorem uW(h:zo v<zo u)(hf:rr zb zo u v=Ê):rr zb zo v u=Æ:=by rw[gh h]at hf;show dW.mpr (.inr ⟨hf,h⟩)
theorem SO.rasym(S:SO zA zE zs zb zk zU)(x y:Ë)(h:rr zb zo x y=Æ):rr zb zo y x=Ê:=by
 cases h2:rr zb zo y x with
 |false=>rfl
 |true=>
  show â (dW.mp h) (λh=>?_) (λq=>aP q λh h'=>?_)
  ·show â (dW.mp h2) (λg=>?_) (λq=>aP q λg g'=>?_)
   ·rw[S.asym _ _ h]at g;show nomatch g
   ·rw[h]at g;show nomatch g
  ·show â (dW.mp h2) (λg=>?_) (λq=>aP q λg g'=>?_)
   ·rw[h]at g;show nomatch g
   ·show absurd g' (Nat.lt_asymm h')
theorem SO.rtrans(S:SO zA zE zs zb zk zU)(x y z:Ë)(h:rr zb zo x y=Æ)(h2:rr zb zo y z=Æ):rr zb zo x z=Æ:=by
 show â (dW.mp h) (λh=>?_) (λq=>aP q λh h'=>?_)
 ·show â (dW.mp h2) (λg=>?_) (λq=>aP q λg g'=>?_)
  ·show dW.mpr (.inl (S.trans _ _ _ h g))
  ·show â (S.neg x z y h) (λq=>?_) (λq=>?_)
   ·show dW.mpr (.inl q)
   ·rw[g]at q;show nomatch q
 ·show â (dW.mp h2) (λg=>?_) (λq=>aP q λg g'=>?_)
  ·show â (S.neg y x z g) (λq=>?_) (λq=>?_)
   ·rw[h]at q;show nomatch q
   ·show dW.mpr (.inl q)
  ·show dW.mpr (.inr ⟨?_,Ϙ h' g'⟩)
   cases q:zb z x with
   |false=>rfl
   |true=>
    show â (S.neg z y x q) (λq=>?_) (λq=>?_)
    ·rw[g]at q;show nomatch q
    ·rw[h]at q;show nomatch q
theorem DL{B T:List Ë}{u v:Ë}{arr:Array Ë}{i j:Nat}(e:arr.toList=B++(u::v::T))(hj:j=B.length)(hi:i=j+1):(arr.swapIfInBounds i j).toList=B++(v::u::T):=by
 have hsz:arr.size=B.length+(T.length+1+1):=by rw[<-ώ,e,Ā];rfl
 have h1:i<arr.size:=by rw[hsz,hi,hj];show aeQ (adi (Ŵ _)) _
 have h2:j<arr.size:=by rw[hsz,hj];show abV (Ŵ _)
 have g1:arr[i]=v:=by
  have:arr.toList[i]?=À v:=by rw[e,hi,hj,Ϣ (Ō _ 1),ϵ];rfl
  rw[ϴ,acJ h1]at this;show Option.some.inj this
 have g2:arr[j]=u:=by
  have:arr.toList[j]?=À u:=by rw[e,hj,Ϣ (ē _),acO];rfl
  rw[ϴ,acJ h2]at this;show Option.some.inj this
 unfold Array.swapIfInBounds;rw[dif_pos h1,dif_pos h2,Array.toList_swap,g1,g2,e,hi,hj,ac2 _ _ (Ō _ 1),ϵ,ac2 _ _ (ē _),acO];rfl
theorem vM:∀{B:List Ë},arr.toList=B++(R++(x::T))->(bubble arr (B.length+R.length) R.length).toList=B++(x::(R++T)):=by
 induction R with
 |nil=>show λe=>e
 |cons z R ih=>
  intro B e;have h:=ih (B:=B++[z]) (by rw[e,Ć];rfl);rw[Ā,ū,ϙ [z].length,Ć]at h;rw[show (z::R).length=R.length+1 from N,bubble_succ];show DL h ?_ ?_
  ·rw[<-ū,Ϭ,acY,acY]
  ·rw[<-ū,Ϭ,acY,acY]
structure de(st aS:Ò):Prop where
 k:kindOf aS=kindOf st
 p:Ö aS=Ö st
 f:ë aS=ë st
theorem de.refl(st:Ò):de st st:=⟨N,N,N⟩
structure gp(zb:Ë->Ë->Bool)(zo:Ë->Nat)(P R T Ù R':List Ë)(n:Nat)(arr:List Ë):Prop where
 arr:arr=P++(Ù++(R'++T))
 len:Ù.length=n
 so:kX (rr zb zo) Ù
 pm:(Ù++R').Perm R
 bf:∀x∈Ù,∀y∈R',zo x<zo y
 asc:R'.Pairwise λx y=>zo x<zo y
abbrev BS:Type:=Option Bool×Nat×Nat
noncomputable def QU(lo k:Nat)(_:Nat)(c:BS):StateT Ò Sem (ForInStep BS):=
 if c.2.1 >= c.2.2 then pure (.done (Ã,c.2.1,c.2.2)) else ltAt' (lo+k) (lo+(c.2.1+c.2.2) / 2)>>=λz=>match z with
 |some less=>if less=Æ then pure (.yield (Ã,c.2.1,(c.2.1+c.2.2) / 2)) else pure (.yield (Ã,(c.2.1+c.2.2) / 2+1,c.2.2))
 |_=>pure (.done (À Ê,c.2.1,c.2.2))
abbrev US:Type:=Option Bool×Unit
def R9(lo:Nat)(k:Nat)(_:US):StateT Ò Sem (ForInStep US):=
 forIn [0:k] ((Ã,0,k):BS) (QU lo k)>>=λc=>match c.1 with
 |some r=>pure (.done (À r,()))
 |none=>moveDown' (lo+k) (lo+c.2.1)>>=λz=>pure (.yield (Ã,()))
theorem yA(lo n ok:Nat):binarySort' lo n ok=(forIn [max ok 1:n] ((Ã,()):US) (R9 lo)>>=λc=>match c.1 with
 |some r=>pure r
 |none=>pure Æ):=by kernel_rfl
theorem Pj(h:¬ l >= r):(l+r) / 2<r:=Nat.div_lt_of_lt_mul (by rw[Nat.two_mul];show acP (ϛ.mp h) r)
theorem GR(h:¬ l >= r):l<=(l+r) / 2:=(Nat.le_div_iff_mul_le afo).mpr (by rw[Nat.mul_two];show ϝ (Ģ (ϛ.mp h)) l)
theorem SO.ltAt(S:SO zA zE zs zb zk zU)(hx:(Ú st).toList[i]?=À x)(hy:(Ú st).toList[j]?=À y)(ux:zU x)(uy:zU y)(hk:kindOf st=zk)(h:Q (À (zb x y)) st):wpS mo zA zE zs (ltAt' i j) Q st:=by rw[ltAt'_eq];show Í (İ (Í (jo hx (Í (jo hy (S.cmp _ _ ux uy _ _ hk h))))))
theorem LG{lo k:Nat}{X:List Ë}{f:Ë->Bool}{Q:BS->Ò->Prop}(hc:∀m (hm:m<X.length) (P:Option Bool->Ò->Prop),P (À (!f X[m])) st->wpS mo zA zE zs (ltAt' (lo+k) (lo+m)) P st)(hk:X.length=k)(gx:X.Pairwise λx y=>f y=Æ->f x=Æ)
  (h:∀c:BS,c.1=Ã->c.2.1<=k->(∀x∈X.take c.2.1,f x=Æ)->(∀x∈X.drop c.2.1,f x=Ê)->Q c st):wpS mo zA zE zs (forIn [0:k] ((Ã,0,k):BS) (QU lo k)) Q st:=by
 subst hk;have e:∀i (hi:i<X.length),(X[i]?).elim Ê f=f X[i]:=λi hi=>by rw[N' hi];rfl
 have Na:∀i j,i<=j->j<X.length->(X[j]?).elim Ê f=Æ->(X[i]?).elim Ê f=Æ:=λi j zl hj hb=>by show â (aeZ zl) (λcG=>?_) λq=>q▸hb;have hi:=Ϙ cG hj;rw[e j hj]at hb;rw[e i hi];show acH.mp gx i j hi hj cG hb
 have ip:∀c:BS,BQ (λi=>(X[i]?).elim Ê f) X.length c->c.2.1<=c.2.2->Q c st:=λc I J6=>by
  have eq:=Ű J6 I.eq;show h c I.no (eq▸I.hi) (λx hx=>?_) λx hx=>?_
  ·show ä (ab'.mp hx) λi q=>ä q λhi q=>?_
   have jZ:=Į hi (z' (ň (ŷ ..)) (acl _ _));rw[<-q,ael,<-e i (Į jZ (eq▸I.hi))];show I.lo i jZ
  ·show ä (ab'.mp hx) λi q=>ä q λhi q=>?_
   have jZ:c.2.1+i<X.length:=ac1 (Į hi (ň (ϻ ..)));rw[<-q,afa,<-e _ jZ];show I.up _ (z' I.eq (Ō _ _)) jZ
 show ã (I:=λx (c:BS) aS=>aS=st/\BI (λi=>(X[i]?).elim Ê f) X.length x c) (λx c aS z z q=>?_) (λc aS q=>?_) ⟨N,N,į _,ē _,(λi hi=>absurd hi (adr _)),(λi h1 h2=>absurd h2 (ľ.mpr h1)),ē _⟩
 ·rw[q.1]
  have I:=q.2;show cI (λlC=>Ð (ip (Ã,c.2.1,c.2.2) ⟨N,lC,I.hi,I.lo,I.up⟩ I.le)) λlC=>?_;have hm:=Pj lC;have hn:=Į hm I.hi;show Í (hc _ hn _ ?_);cases hb:f (X[(c.2.1+c.2.2) / 2]'hn) with
  |true=>show cp Ļ (Ð ⟨N,N,hm,I.hi,λi hi=>Na i _ (ϐ hi) hn ((e _ hn).trans hb),I.up,ŧ (z' I.t (ϝ (GR lC) _))⟩)
  |false=>show cN N (Ð ⟨N,N,GR lC,Ģ hn,I.lo,λi h6 h7=>mE Na ((e _ hn).trans hb) h6 h7,z' (acP hm x) I.t⟩)
 ·have I:=q.2
  have t:=I.t;rw[ab1 (į _),ϙ]at t;rw[q.1];show ip c ⟨I.no,acI t,I.hi,I.lo,I.up⟩ I.le
theorem Kx{Ù:List Ë}{x u:Ë}{l:Nat}(h:u∈Ù.take l++x::Ù.drop l):u=x\/u∈Ù:=
 â (ğ.mp h) (λh=>.inr (Ů h)) λh=>â (ċ.mp h) .inl λh=>.inr (Ϟ h)
theorem gp.ins{P R T Ù R' arr:List Ë}{x:Ë}{k l:Nat}(L:gp zb zo P R T Ù (x::R') k arr)(h1:∀y∈Ù.take l,rr zb zo y x=Æ)(h2:∀y∈Ù.drop l,rr zb zo x y=Æ):
  gp zb zo P R T (Ù.take l++x::Ù.drop l) R' (k+1) (P++((Ù.take l++x::Ù.drop l)++(R'++T))):=by
 have a:=cz.mp (show kX (rr zb zo) (Ù.take l++Ù.drop l) by rw[ũ];show L.so);have o:=ŏ.mp L.asc;show⟨N,?_,cz.mpr ⟨a.1,ŏ.mpr ⟨h2,a.2.1⟩,λu hu v hv=>?_⟩,?_,λu hu v hv=>?_,o.2⟩
 ·rw[<-L.len,<-ũ l Ù,Ā,Ā,ũ];rfl
 ·show â (ċ.mp hv) (λe=>by rw[e];show h1 u hu) λhv=>a.2.2 u hu v hv
 ·show List.Perm.trans ?_ L.pm
  rw[Ć,aes];show afk.trans ?_;rw[<-Ć,ũ];show afk.symm
 ·show â (Kx hu) (λe=>by rw[e];show o.1 v hv) λh=>L.bf u h v (J' _ hv)
theorem LH(S:SO zA zE zs zb zk zU){lo k:Nat}{P R T Ù R':List Ë}{x:Ë}{c:US}{Q:ForInStep US->Ò->Prop}(hk:kindOf st=zk)(hP:P.length=lo)(hU:∀x∈R,zU x)(L:gp zb zo P R T Ù (x::R') k (Ú st).toList)
  (h:∀Z' aS,de st aS->gp zb zo P R T Z' R' (k+1) (Ú aS).toList->Q (.yield (Ã,())) aS):wpS mo zA zE zs (R9 lo k c) Q st:=by
 have hx:∀y∈Ù,zo y<zo x:=λy hy=>L.bf y hy x G';have uZ:∀y∈Ù,zU y:=λy hy=>hU y (L.pm.mem_iff.mp (ž _ hy));have ux:zU x:=hU x (L.pm.mem_iff.mp (ů _ G'));have ex:(Ú st).toList[lo+k]?=À x:=gW (n:=lo+k) (P:=P++Ù) (X:=[x]) (T:=R'++T) (i:=0) (by rw[L.arr,Ć];rfl) (by rw[Ā,hP,L.len]) ź;show Í (LG (X:=Ù) (f:=λy=>!(zb x y)) (λm hm P Ek=>S.ltAt ex (gW L.arr hP m hm) ux (uZ _ (š hm)) hk (by rw[Bool.not_not]at Ek;show Ek)) L.len (L.so.imp_of_mem λ{y z} hy hz hr hb=>?_) λc e hl g1 g2=>?_)
 ·have hb':rr zb zo x z=Ê:=(gh (hx z hz)).trans ((ϔ _).mp hb)
  have:=S.rasym _ _ (S.rtrans _ _ _ hr (uW (hx z hz) hb'));rw[gh (hx y hy)]at this;rw[this];rfl
 rw[e];show Í ?_;rw[moveDown'_eq];have L':=L.ins (l:=c.2.1) (λy hy=>uW (hx y (Ů hy)) ((gh (hx y (Ů hy))).trans ((ϔ _).mp (g1 y hy)))) λy hy=>(gh (hx y (Ϟ hy))).trans ((adw _).mp (g2 y hy));show ù (Ð (h (Ù.take c.2.1++x::Ù.drop c.2.1) _ ⟨N,N,N⟩ ?_));have eb:=vM (arr:=Ú st) (B:=P++Ù.take c.2.1) (R:=Ù.drop c.2.1) (x:=x) (T:=R'++T) (by rw[L.arr,Ć,<-Ć (Ù.take c.2.1),ũ];rfl);have XT:c.2.1<=Ù.length:=by rw[L.len];show hl
 rw[Ā,hP,ŷ,ų XT,ϻ,ū,acj XT,L.len,Ć]at eb;show gp zb zo P R T _ R' (k+1) (bubble (Ú st) (lo+k) (lo+k-(lo+c.2.1))).toList;rw[aeK,eb];have:=L';rw[Ć]at this;show this
theorem x7(S:SO zA zE zs zb zk zU){lo n:Nat}{P R T Ù R':List Ë}{Q:Bool->Ò->Prop}(hk:kindOf st=zk)(hP:P.length=lo)(hU:∀x∈R,zU x)(hZ:0<Ù.length)(hn:n=Ù.length+R'.length)(L:gp zb zo P R T Ù R' Ù.length (Ú st).toList)
  (h:∀Z' aS,de st aS->gp zb zo P R T Z' [] n (Ú aS).toList->Q Æ aS):wpS mo zA zE zs (binarySort' lo n Ù.length) Q st:=by
 rw[yA,Nat.max_eq_left hZ];have hR:=L.pm.length_eq;show Í (Ę (ã (I:=λk (c:US) aS=>c.1=Ã/\de st aS/\∃Ù R',gp zb zo P R T Ù R' k (Ú aS).toList) (Q:=λ(c:US) aS=>c.1=Ã/\de st aS/\∃Ù,gp zb zo P R T Ù [] n (Ú aS).toList) (λk c aS z J4 q=>?_) (λc aS q=>?_) ⟨N,de.refl st,Ù,R',L⟩) λc aS q=>?_)
 ·show mM q.2.2 λZ1 R1 L1=>?_
  have hl:=L1.pm.length_eq.trans hR.symm;rw[Ā,Ā,<-hn,L1.len]at hl;cases R1 with
  |nil=>show absurd J4 (by rw[<-hl];show Ŧ _)
  |cons x R1=>show LH S (q.2.1.k.trans hk) hP hU L1 λZ' dA hs L2=>⟨N,⟨hs.k.trans q.2.1.k,hs.p.trans q.2.1.p,hs.f.trans q.2.1.f⟩,Z',R1,L2⟩
 ·show mM q.2.2 λZ1 R1 L1=>⟨q.1,q.2.1,Z1,?_⟩
  rw[ab1 (by rw[hn];show Ō _ _)]at L1;have hl:=L1.pm.length_eq.trans hR.symm;rw[Ā,Ā,<-hn,L1.len]at hl;rw[϶.mp (adl hl)]at L1;show L1
 ·rw[q.1]
  show ä q.2.2 λZ' L'=>Ð (h Z' aS q.2.1 L')
end
noncomputable def Oc(lo:Nat)(_:Nat)(c:Option (Option Nat)×Nat):StateT Ò Sem (ForInStep (Option (Option Nat)×Nat)):=do
 let z <-ltAt' (lo+c.2) (lo+c.2-1)
 match z with
 |some u3=>if u3=Æ then pure (ForInStep.done (Ã,c.2)) else pure (ForInStep.yield (Ã,c.2+1))
 |_=>pure (ForInStep.done (À Ã,c.2))
def H5(lo n ez:Nat):StateT Ò Sem (Option Nat):=
 œ lo (lo+n)>>=λz=>forIn [n:ez] ((Ã,n):Option (Option Nat)×Nat) (Oc lo)>>=λc=>match c.1 with
 |some r=>pure r
 |none=>pure (À c.2)
abbrev DS:Type:=Option (Option Nat)×Nat×Nat
noncomputable def Mh(lo:Nat)(_:Nat)(c:DS):StateT Ò Sem (ForInStep DS):=
 ltAt' (lo+c.2.1) (lo+c.2.1-1)>>=λz=>match z with
 |some u3=>if u3=Æ then (if c.2.2 > 0 then œ (lo+c.2.1-(c.2.2+1)) (lo+c.2.1)>>=λy=>pure (ForInStep.yield (Ã,c.2.1+1,0)) else pure (ForInStep.yield (Ã,c.2.1+1,0)))
  else ltAt' (lo+c.2.1-1) (lo+c.2.1)>>=λz=>match z with
   |some Pd=>if Pd=Æ then pure (ForInStep.done (Ã,c.2.1,c.2.2)) else pure (ForInStep.yield (Ã,c.2.1+1,c.2.2+1))
   |_=>pure (ForInStep.done (À Ã,c.2.1,c.2.2))
 |_=>pure (ForInStep.done (À Ã,c.2.1,c.2.2))
def AK(lo n ez:Nat):StateT Ò Sem (Option Nat):=
 (liftM (rule "list.sort.descending-run"):StateT Ò Sem Unit)>>=λz=>forIn [n+1:ez] ((Ã,n+1,0):DS) (Mh lo)>>=λc=>match c.1 with
 |some r=>pure r
 |none=>if c.2.2 > 0 then œ (lo+c.2.1-(c.2.2+1)) (lo+c.2.1)>>=λz=>H5 lo c.2.1 ez else H5 lo c.2.1 ez
theorem Cq(lo ez:Nat):countRun' lo ez=(forIn [1:ez] ((Ã,1):Option (Option Nat)×Nat) (Oc lo)>>=λc=>match c.1 with
 |some q=>pure q
 |none=>if (c.2==ez)=Æ then pure (À c.2) else if c.2 > 1 then ltAt' lo (lo+c.2-1)>>=λz=>(match z with
   |some t=>if t=Æ then pure (À c.2) else œ lo (lo+c.2)>>=λy=>AK lo c.2 ez
   |_=>pure Ã)
  else AK lo c.2 ez):=by kernel_rfl
theorem kn{L B C:List Ë}{arr:Array Ë}{i j:Nat}(e:arr.toList=L++(B++C))(hi:L.length=i)(hj:i+B.length=j):(mirror arr i j ((j-i) / 2)).toList=L++(B.reverse++C):=by
 have hsz:j<=arr.size:=by rw[<-ώ,e,Ā,Ā,hi,<-ū,hj];show Ō _ _
 apply aem;intro k;rw[ϴ,getElem?_mirror_all hsz];by_cases h1:i<=k/\k<j
 ·show ä (aet h1.1) λt et=>?_
  have ht:t<B.length:=by rw[et,<-hj]at h1;show Nat.lt_of_add_lt_add_left h1.2
  have hp:B.length-1-t<B.length:=Ŷ (Ś _ _) (Ϛ (Ŷ (į _) ht) ź);have hr:t<B.reverse.length:=by rw[ack];show ht
  rw[if_pos h1,et,<-hj,afO,Nat.add_left_comm 1,aeK,ϙ 1,ac6 (show t+1<=B.length from ht),ϙ t,<-afO,<-ϴ,gW e hi _ hp,gW (l:=L++(B.reverse++C)) N hi t hr,List.getElem_reverse]
 ·rw[if_neg h1,<-ϴ,e]
  show â (aeA k i) (λh2=>?_) λh2=>?_
  ·rw[<-hi]at h2
   rw[ϖ h2,ϖ h2]
  ·have h3:(L++B).length<=k:=by
    rw[Ā,hi,hj];show ľ.mp λq=>h1 ⟨h2,q⟩
   have h4:(L++B.reverse).length<=k:=by rw[Ā,ack,<-Ā];show h3
   rw[<-Ć,<-Ć,Ϣ h3,Ϣ h4,Ā,Ā,ack]
section
variable{st aS:Ò}{P R T:List Ë}{lo ez n:Nat}
theorem de.trans(x:de a b)(y:de b c):de a c:=⟨y.k.trans x.k,y.p.trans x.p,y.f.trans x.f⟩
theorem de.arr(x:de a b)(v:Array Ë):de a (setArr b v):=⟨x.k,x.p,x.f⟩
theorem SO.irr(S:SO zA zE zs zb zk zU)(x:Ë):zb x x=Ê:=by
 cases q:zb x x with
 |false=>rfl
 |true=>show(S.asym _ _ q).symm.trans q |> λe=>nomatch e
def LM(zb:Ë->Ë->Bool)(zo:Ë->Nat)(P R T:List Ë)(st:Ò)(n:Nat)(aS:Ò):Prop:=de st aS/\∃Ù R',gp zb zo P R T Ù R' n (Ú aS).toList
theorem gp.next{Ù R' arr:List Ë}{x:Ë}(L:gp zb zo P R T Ù (x::R') n arr)(hP:P.length=lo):arr[lo+n]?=À x:=
 gW (n:=lo+n) (P:=P++Ù) (X:=[x]) (T:=R'++T) (i:=0) (by rw[L.arr,Ć];rfl) (by rw[Ā,hP,L.len]) ź
theorem gp.last{Ù R' arr:List Ë}(L:gp zb zo P R T Ù R' n arr)(hP:P.length=lo)(h1:1<=n)(hl:Ù.length-1<Ù.length):arr[lo+n-1]?=À Ù[Ù.length-1]:=by rw[ac6 h1,<-L.len];show gW L.arr hP _ hl
theorem gp.snoc{Ù R' arr:List Ë}{x:Ë}(L:gp zb zo P R T Ù (x::R') n arr)(hz:∀z∈Ù,rr zb zo z x=Æ):gp zb zo P R T (Ù++[x]) R' (n+1) arr:=by have o:=ŏ.mp L.asc;show⟨by rw[L.arr,Ć Ù];rfl,by rw[Ā,L.len];rfl,cz.mpr ⟨L.so,acx _ _,λz h y hy=>by rw[W'.mp hy];show hz z h⟩,by rw[Ć];show L.pm,λu hu v hv=>â (ğ.mp hu) (λh=>L.bf u h v (J' _ hv)) λh=>by rw[W'.mp h];show o.1 v hv,o.2⟩
theorem gp.rest{Ù R' arr:List Ë}(L:gp zb zo P R T Ù R' n arr):n+R'.length=R.length:=by have h:=L.pm.length_eq;rw[Ā,L.len]at h;show h
theorem vE(S:SO zA zE zs zb zk zU)(hk:kindOf st=zk)(hP:P.length=lo)(hU:∀x∈R,zU x)(hR:R.length=ez)(h1:1<=n0)(hn:n0<=ez)(I:LM zb zo P R T st n0 aS){Q:Option (Option Nat)×Nat->Ò->Prop}
  (hE:∀dA,LM zb zo P R T st ez dA->Q (Ã,ez) dA) (hB:∀n dA Ù x R',1<=n->n<ez->de st dA->gp zb zo P R T Ù (x::R') n (Ú dA).toList->(∀hl:Ù.length-1<Ù.length,zb x Ù[Ù.length-1]=Æ)->Q (Ã,n) dA) :
  wpS mo zA zE zs (forIn [n0:ez] ((Ã,n0):Option (Option Nat)×Nat) (Oc lo)) Q aS:=by
 show ã (I:=λx c dA=>c=(Ã,x)/\LM zb zo P R T st x dA) (λx c dA hx TH q=>?_) (λc dA q=>?_) ⟨N,I⟩
 ·rw[q.1]
  show mM q.2.2 λÙ R' L=>?_;have MQ:=z' h1 hx;cases R' with
  |nil=>show absurd TH (by rw[<-hR,<-L.rest];show Ŧ _)
  |cons y R'=>
   have hl:Ù.length-1<Ù.length:=by rw[L.len];show Ϛ MQ ź
   have hm:=š hl;have ho:=L.bf _ hm y G';show Í (S.ltAt (L.next hP) (L.last hP MQ hl) (hU _ (L.pm.mem_iff.mp (ů _ G'))) (hU _ (L.pm.mem_iff.mp (ž _ hm))) (q.2.1.k.trans hk) ?_);cases hb:zb y Ù[Ù.length-1] with
   |true=>show cN N (Ð (hB x dA Ù y R' MQ TH q.2.1 L λj=>hb))
   |false=>show cp Ļ (Ð ⟨N,q.2.1,Ù++[y],R',L.snoc λz hz=>xK (l:=[y]) S.rtrans L.so hl (λu hu=>by rw[W'.mp hu];show uW ho ((gh ho).trans hb)) z hz y G'⟩)
 ·rw[q.1,ab1 hn]
  have I:=q.2;rw[ab1 hn]at I;show hE dA I
structure gV(zb:Ë->Ë->Bool)(zo:Ë->Nat)(P R T D V R':List Ë)(n neq:Nat)(arr:List Ë):Prop where
 arr:arr=P++(D++(V++(R'++T)))
 len:D.length+V.length=n
 neq:V.length=neq+1
 so:kX (rr zb zo) (V++D.reverse)
 eqk:∀x∈V,∀y∈V,zb x y=Ê
 uv:∀x∈D,∀y∈V,zo x<zo y
 pm:(D++(V++R')).Perm R
 bf:∀x∈D++V,∀y∈R',zo x<zo y
 asc:R'.Pairwise λx y=>zo x<zo y
theorem qR{D V:List Ë}{y:Ë}(h:y∈D++V.reverse):y∈D++V:=
 â (ğ.mp h) (ž _) λh=>ů _ (ϩ.mp h)
theorem gV.down{D V R' arr:List Ë}{x:Ë}{neq:Nat}(S:SO zA zE zs zb zk zU)(L:gV zb zo P R T D V (x::R') n neq arr){vl:Ë}(hv:vl∈V)(hb:zb x vl=Æ):gV zb zo P R T (D++V.reverse) [x] R' (n+1) 0 (P++(D++(V.reverse++((x::R')++T)))):=by
 have o:=ŏ.mp L.asc;have hV:∀v∈V,rr zb zo x v=Æ:=λv sS=>dW.mpr (.inl (â (S.neg x v vl hb) (λq=>q) λq=>by rw[L.eqk v sS vl hv]at q;show nomatch q))
 have hx:∀y∈V++D.reverse,rr zb zo x y=Æ:=λy hy=>
  â (ğ.mp hy) (hV y) λh=>S.rtrans _ _ _ (hV vl hv) ((cz.mp L.so).2.2 vl hv y h)
 show⟨by rw[Ć];rfl,by rw[Ā,ack,L.len];rfl,N,by rw[ab4,aca];show ŏ.mpr ⟨hx,L.so⟩,λy hy z hz=>?_,λy hy z hz=>?_,?_,λy hy z hz=>?_,o.2⟩
 ·rw[W'.mp hy,W'.mp hz];show S.irr x
 ·rw[W'.mp hz];show L.bf y (qR hy) x G'
 ·show List.Perm.trans ?_ L.pm
  rw[Ć];show((acw V).append_right _).append_left _
 ·show â (ğ.mp hy) (λh=>L.bf y (qR h) z (J' _ hz)) λh=>by rw[W'.mp h];show o.1 z hz
theorem SO.eqv(S:SO zA zE zs zb zk zU)(h1:zb x y=Ê)(h2:zb y z=Ê):zb x z=Ê:=by
 cases q:zb x z with
 |false=>rfl
 |true=>show â (S.neg x y z q) (λq=>nomatch h1.symm.trans q) λq=>nomatch h2.symm.trans q
theorem gV.same{D V R' arr:List Ë}{x:Ë}{neq:Nat}(S:SO zA zE zs zb zk zU)(L:gV zb zo P R T D V (x::R') n neq arr){vl:Ë}(hv:vl∈V)(h1:zb x vl=Ê)(h2:zb vl x=Ê):gV zb zo P R T D (V++[x]) R' (n+1) (neq+1) arr:=by
 have o:=ŏ.mp L.asc;have xv:∀v∈V,zb x v=Ê:=λv sS=>S.eqv h1 (L.eqk vl hv v sS);have vx:∀v∈V,zb v x=Ê:=λv sS=>S.eqv (L.eqk v sS vl hv) h2;have ovx:∀v∈V,zo v<zo x:=λv sS=>L.bf v (ů _ sS) x G';have q:=cz.mp L.so;show⟨by rw[L.arr,Ć V];rfl,by rw[Ā,<-ū,L.len];rfl,by rw[Ā,L.neq];rfl,?_,λy hy z hz=>?_,λy hy z hz=>?_,by rw[Ć];show L.pm,λy hy z hz=>?_,o.2⟩
 ·rw[Ć]
  show cz.mpr ⟨q.1,ŏ.mpr ⟨λu hu=>?_,q.2.1⟩,λv sS y hy=>?_⟩
  ·have g:=q.2.2 vl hv u hu
   rw[gh (L.uv u (ϩ.mp hu) vl hv)]at g;show dW.mpr (.inl (â (S.neg vl x u g) (λq=>nomatch h2.symm.trans q) λq=>q))
  ·show â (ċ.mp hy) (λe=>by rw[e];show dW.mpr (.inr ⟨xv v sS,ovx v sS⟩)) λhy=>q.2.2 v sS y hy
 ·show â (ğ.mp hy) (λhy=>â (ğ.mp hz) (λhz=>L.eqk y hy z hz) λhz=>?_) λhy=>â (ğ.mp hz) (λhz=>?_) λhz=>?_
  ·rw[W'.mp hz];show vx y hy
  ·rw[W'.mp hy];show xv z hz
  ·rw[W'.mp hy,W'.mp hz];show S.irr x
 ·show â (ğ.mp hz) (λhz=>L.uv y hy z hz) λhz=>by rw[W'.mp hz];show L.bf y (ž _ hy) x G'
 ·rw[<-Ć]at hy
  show â (ğ.mp hy) (λh=>L.bf y h z (J' _ hz)) λh=>by rw[W'.mp h];show o.1 z hz
theorem gV.rest{D V R' arr:List Ë}{neq:Nat}(L:gV zb zo P R T D V R' n neq arr):n+R'.length=R.length:=by have h:=L.pm.length_eq;rw[Ā,Ā,<-ū,L.len]at h;show h
theorem uV{V:List Ë}{neq:Nat}(h:V.length=neq+1)(h0:¬ neq > 0):V.reverse=V:=by rw[aci h0]at h;show ä (aeC.mp h) λv e=>by rw[e];rfl
theorem gV.turn{D V R':List Ë}{arr:Array Ë}{neq:Nat}(L:gV zb zo P R T D V R' n neq arr.toList)(hP:P.length=lo):(mirror arr (lo+n-(neq+1)) (lo+n) ((lo+n-(lo+n-(neq+1))) / 2)).toList=P++(D++(V.reverse++(R'++T))):=by
 have hn:lo+n-(neq+1)=lo+D.length:=by rw[<-L.len,<-L.neq,<-ū,acY]
 rw[<-Ć];show kn (by rw[L.arr,Ć]) (by rw[Ā,hP,hn]) ?_;rw[hn,ū,L.len]
variable{Q:Option Nat->Ò->Prop}
theorem tw(S:SO zA zE zs zb zk zU)(hk:kindOf st=zk)(hP:P.length=lo)(hU:∀x∈R,zU x)(hR:R.length=ez)(h1:1<=n)(hs:de st aS){D V R':List Ë}{neq:Nat}{arr:List Ë}(L:gV zb zo P R T D V R' n neq arr)(e:(Ú aS).toList=P++(D++(V.reverse++(R'++T))))
  (h:∀n dA,1<=n->n<=ez->LM zb zo P R T st n dA->Q (À n) dA):wpS mo zA zE zs (H5 lo n ez) Q aS:=by
 have hl:(D++V.reverse).length=n:=by rw[Ā,ack];show L.len
 show Í ?_;rw[ĸ];have e2:(Ú aS).toList=P++((D++V.reverse)++(R'++T)):=by rw[e,Ć]
 have I:LM zb zo P R T st n (setArr aS (mirror (Ú aS) lo (lo+n) ((lo+n-lo) / 2))):=by show⟨hs.arr _,(D++V.reverse).reverse,R',kn e2 hP (by rw[hl]),by rw[ack];show hl,by rw[ab4,aca];show L.so,((acw _).append_right _).trans (List.Perm.trans ?_ L.pm),λx hx=>L.bf x (qR (ϩ.mp hx)),L.asc⟩;rw[Ć];show((acw V).append_right _).append_left _
 have hn:n<=ez:=by rw[<-hR,<-L.rest];show Ō _ _
 show ù (Í (vE S hk hP hU hR h1 hn I (λdA I2=>Ð (h ez dA (z' h1 hn) (ē _) I2)) λm dA Ù x R2 g1 g2 Et L2 z=>Ð (h m dA g1 (Ģ g2) ⟨Et,Ù,_,L2⟩)))
def NP(zb:Ë->Ë->Bool)(zo:Ë->Nat)(P R T:List Ë)(st:Ò)(c:DS)(aS:Ò):Prop:=c.1=Ã/\de st aS/\∃D V R',gV zb zo P R T D V R' c.2.1 c.2.2 (Ú aS).toList
theorem DZ(S:SO zA zE zs zb zk zU)(hk:kindOf st=zk)(hP:P.length=lo)(hU:∀x∈R,zU x)(hs:de st aS){x:Nat}{c:DS}{D V R':List Ë}{z:Ë}(L:gV zb zo P R T D V (z::R') c.2.1 c.2.2 (Ú aS).toList){Q:ForInStep DS->Ò->Prop}
  (hd:∀dA,de st dA->gV zb zo P R T D V (z::R') c.2.1 c.2.2 (Ú dA).toList->Q (.done (Ã,c.2.1,c.2.2)) dA) (hy:∀m dA,NP zb zo P R T st (Ã,c.2.1+1,m) dA->Q (.yield (Ã,c.2.1+1,m)) dA):wpS mo zA zE zs (Mh lo x c) Q aS:=by
 have hl:V.length-1<V.length:=by rw[L.neq];show ű _
 have hm:=š hl;have ch:D.length+V.length=c.2.1:=L.len;have e1:(Ú aS).toList[lo+c.2.1]?=À z:=gW (n:=lo+c.2.1) (P:=P++(D++V)) (X:=[z]) (T:=R'++T) (i:=0) (by rw[L.arr,Ć,Ć];rfl) (by rw[Ā,Ā,hP,ch]) ź
 have e2:(Ú aS).toList[lo+c.2.1-1]?=À V[V.length-1]:=by rw[<-ch,<-ū,ac6 (by rw[L.neq];show Ŵ _)];show gW (P:=P++D) (T:=(z::R')++T) (by rw[L.arr,Ć]) (by rw[Ā,hP]) _ hl
 have uz:zU z:=hU _ (L.pm.mem_iff.mp (ů _ (ů _ G')));have uv:zU V[V.length-1]:=hU _ (L.pm.mem_iff.mp (ů _ (ž _ hm)));show Í (S.ltAt e1 e2 uz uv (hs.k.trans hk) ?_);cases hb:zb z V[V.length-1] with
 |true=>
  have L2:=L.down S hm hb;show cN N (cI (λh0=>Í ?_) λh0=>Ð (hy 0 _ ⟨N,hs,D++V.reverse,[z],R',?_⟩))
  ·rw[ĸ]
   show ù (Ð (hy 0 _ ⟨N,hs.arr _,D++V.reverse,[z],R',?_⟩));have:=L2;rw[<-L.turn hP]at this;show this
  ·have:=L2
   have e3:P++(D++(V.reverse++((z::R')++T)))=(Ú aS).toList:=by rw[uV L.neq h0,L.arr]
   rw[e3]at this;show this
 |false=>
  show cp Ļ (Í (S.ltAt e2 e1 uv uz (hs.k.trans hk) ?_));cases hc:zb V[V.length-1] z with
  |true=>show cN N (Ð (hd _ hs L))
  |false=>show cp Ļ (Ð (hy _ _ ⟨N,hs,D,V++[z],R',L.same S hm hb hc⟩))
theorem D1(S:SO zA zE zs zb zk zU)(hk:kindOf st=zk)(hP:P.length=lo)(hU:∀x∈R,zU x)(hR:R.length=ez)(hn:n+1<=ez)(hs:de st aS){D V R':List Ë}(L:gV zb zo P R T D V R' (n+1) 0 (Ú aS).toList)
  (h:∀n dA,1<=n->n<=ez->LM zb zo P R T st n dA->Q (À n) dA):wpS mo zA zE zs (AK lo n ez) Q aS:=by
 show Í (Ķ (ú ⟨N,(Í (Ę (ã (I:=λx (c:DS) dA=>c.2.1=x/\NP zb zo P R T st c dA) (Q:=λ(c:DS) dA=>1<=c.2.1/\NP zb zo P R T st c dA) (λx c dA hx TH q=>?_) (λc dA q=>⟨?_,q.2⟩) ⟨N,N,hs,D,V,R',L⟩) λc dA q=>?_))⟩))
 ·show yO q.2.2.2 λD V R' L=>?_
  cases R' with
  |nil=>show absurd TH (by rw[<-hR,<-L.rest,q.1];show Ŧ _)
  |cons z R'=>show DZ S hk hP hU q.2.2.1 L (λvv yk L3=>⟨by rw[q.1];show z' (Ŵ n) hx,N,yk,D,V,z::R',L3⟩) λm vv I3=>⟨by rw[q.1],I3⟩
 ·rw[q.1,ab1 hn];show z' (Ŵ n) hn
 ·rw[q.2.1]
  show yO q.2.2.2 λD V R' L=>cI (λh0=>Í ?_) λh0=>?_
  ·rw[ĸ]
   show ù (tw S hk hP hU hR q.1 (q.2.2.1.arr _) L (L.turn hP) h)
  ·show tw S hk hP hU hR q.1 q.2.2.1 L (by rw[uV L.neq h0];show L.arr) h
theorem DY(S:SO zA zE zs zb zk zU)(hk:kindOf st=zk)(hP:P.length=lo)(hU:∀x∈R,zU x)(hn:1<=ez)(e:(Ú st).toList=P++(R++T))(hR:R.length=ez)(asc:R.Pairwise λx y=>zo x<zo y)
  (h:∀n dA,1<=n->n<=ez->LM zb zo P R T st n dA->Q (À n) dA):wpS mo zA zE zs (countRun' lo ez) Q st:=by
 rw[Cq]
 have I:LM zb zo P R T st 1 st:=by
  cases R with
  |nil=>rw[<-hR]at hn;show nomatch hn
  |cons x R=>show⟨de.refl _,[x],R,e,N,acx _ _,.refl _,λu hu v hv=>by rw[W'.mp hu];show(ŏ.mp asc).1 v hv,(ŏ.mp asc).2⟩
 show Í (vE S hk hP hU hR (ē 1) hn I (λdA I2=>cN (beq_self_eq_true ez) (Ð (h ez dA hn (ē _) I2))) λn dA Ù x R' g1 g2 hs L Zr=>cp (λq=>Ł g2 (beq_iff_eq.mp q)) ?_);have hl:Ù.length-1<Ù.length:=by rw[L.len];show Ϛ g1 ź
 have h0:0<Ù.length:=Ŷ (į _) hl;have hx:=Zr hl;have uZ:∀z∈Ù,zU z:=λz hz=>hU _ (L.pm.mem_iff.mp (ž _ hz));have o:=ŏ.mp L.asc
 have Q2:∀vv,de st vv->(Ú vv).toList=P++(Ù.reverse++((x::R')++T))->(∀z∈Ù,zb z Ù[Ù.length-1]=Ê)->wpS mo zA zE zs (AK lo n ez) Q vv:=λvv yk e4 hq=>by
  have hxz:∀z∈Ù,rr zb zo x z=Æ:=λz hz=>dW.mpr (.inl (â (S.neg x z _ hx) (λq=>q) λq=>nomatch (hq z hz).symm.trans q));show D1 S hk hP hU hR g2 yk (D:=Ù.reverse) (V:=[x]) (R':=R') ⟨e4,by rw[ack,L.len];rfl,N,by rw[aca];show ŏ.mpr ⟨hxz,L.so⟩,λy hy z hz=>?_,λy hy z hz=>?_,((acw Ù).append_right _).trans L.pm,λy hy z hz=>?_,o.2⟩ h
  ·rw[W'.mp hy,W'.mp hz];show S.irr x
  ·rw[W'.mp hz];show L.bf y (ϩ.mp hy) x G'
  ·show â (ğ.mp hy) (λhy=>L.bf y (ϩ.mp hy) z (J' _ hz)) λhy=>by rw[W'.mp hy];show o.1 z hz
 show cI (λXk=>?_) λXk=>?_
 ·show Í (S.ltAt (x:=Ù[0]) (by rw[<-afJ lo];show gW L.arr hP 0 h0) (L.last hP g1 hl) (uZ _ (š h0)) (uZ _ (š hl)) (hs.k.trans hk) ?_)
  cases hr:zb Ù[0] Ù[Ù.length-1] with
  |true=>show cN N (Ð (h n dA g1 (Ģ g2) ⟨hs,Ù,_,L⟩))
  |false=>
   show cp Ļ (Í ?_);rw[ĸ];show ù (Q2 _ (hs.arr _) (kn L.arr hP (by rw[L.len])) λz hz=>S.eqv (y:=Ù[0]) (ä (ab'.mp hz) λi q=>ä q λhi q=>â (aeY i) (λe=>?_) λhp=>?_) hr)
   ·rw[<-q]
    have:Ù[i]=Ù[0]:=by congr 1
    rw[this];show S.irr _
   ·have g:=S.rasym _ _ (acH.mp L.so 0 i h0 hi hp)
    rw[q]at g;cases q2:zb z Ù[0] with
    |false=>rfl
    |true=>rw[dW.mpr (.inl q2)]at g;show nomatch g
 ·have e1:n=1:=Ű (ľ.mp Xk) g1
  have hZ:Ù.length=0+1:=L.len.trans e1;show Q2 dA hs (by rw[uV hZ (Ŧ _)];show L.arr) λz hz=>ä (aeC.mp hZ) λv ev=>?_;have h1:z=v:=by rw[ev]at hz;show W'.mp hz
  have h2:Ù[Ù.length-1]=v:=W'.mp (ev▸š hl);rw[h1,h2];show S.irr v
end
noncomputable abbrev Ee:=List Ë×Nat
noncomputable def eS:Nat->List Ee->List (Nat×Nat×Nat)
 |_,[]=>[]
 |n,b::t=>(n,b.1.length,b.2)::eS (n+b.1.length) t
noncomputable def bq:List Ee->List Ë
 |[]=>[]
 |b::t=>b.1++bq t
theorem jb:∀(L M:List Ee),bq (L++M)=bq L++bq M
 |[],_=>rfl
 |b::L,M=>by show b.1++bq (L++M)=(b.1++bq L)++bq M;rw[jb L M,Ć]
theorem ji:∀(n:Nat) (L M:List Ee),eS n (L++M)=eS n L++eS (n+(bq L).length) M
 |_,[],_=>rfl
 |n,b::L,M=>by show _::eS (n+b.1.length) (L++M)=_::(eS (n+b.1.length) L++eS (n+(b.1++bq L).length) M);rw[ji,Ā,ū]
theorem nr:∀(n:Nat) (L:List Ee),(eS n L).length=L.length
 |_,[]=>rfl
 |n,b::L=>congrArg (·+1) (nr _ L)
theorem wv:∀{L:List Ee},b∈L->x∈b.1->x∈bq L
 |c::L,h,hx=>â (ċ.mp h) (λe=>ž _ (e▸hx)) λh=>ů _ (wv h hx)
theorem wu:∀{L:List Ee},(∀b∈L,0<b.1.length)->L.length<=(bq L).length
 |[],_=>ē _
 |b::L,h=>by show L.length+1<=(b.1++bq L).length;rw[Ā,ϙ];show ϭ (h b G') (wu λc hc=>h c (J' _ hc))
theorem SB:∀{n:Nat},1<n->n-2+1<n
 |n+2,_=>ű (n+1)
 |0,h=>nomatch h
 |1,h=>absurd h (Ŧ 1)
theorem o6(x:α)(f:α->α):∀l:List α,(l++[x]).modify l.length f=l++[f x]
 |[]=>rfl
 |a::l=>congrArg (a::·) (o6 x f l)
section
variable{st:Ò}{a₀ R Ù:List Ë}{L Bs T:List Ee}
def T3(zo:Ë->Nat)(b c:Ee):Prop:=∀x∈b.1,∀y∈c.1,zo x<zo y
structure Yw(zb:Ë->Ë->Bool)(zo:Ë->Nat)(b:Ee):Prop where
 pos:0<b.1.length
 so:kX (rr zb zo) b.1
structure mz(zb:Ë->Ë->Bool)(zo:Ë->Nat)(zk:Ÿ)(a₀:List Ë)(Bs:List Ee)(R:List Ë)(st:Ò):Prop where
 kind:kindOf st=zk
 failed:ë st=Ã
 pend:(Ö st).toList=eS 0 Bs
 arr:(Ú st).toList=bq Bs++R
 ok:∀b∈Bs,Yw zb zo b
 bf:(Bs++[(R,0)]).Pairwise (T3 zo)
 pm:(bq Bs++R).Perm a₀
theorem mz.size(I:mz zb zo zk a₀ Bs R st):(Ö st).size=Bs.length:=by rw[<-ώ,I.pend,nr]
theorem mz.len(I:mz zb zo zk a₀ Bs R st):(bq Bs).length+R.length=a₀.length:=by rw[<-Ā];show I.pm.length_eq
theorem mz.none(I:mz zb zo zk a₀ Bs R st)(h:a₀.length<=(bq Bs).length):R=[]:=by rw[<-I.len]at h;show ϶.mp (afP.mp (acI (z' h (ň (afJ _).symm))))
theorem Dl(L:List α)(x y z:α)(T:List α):((L++x::y::T).set L.length z).eraseIdx (L.length+1)=L++z::T:=by rw[ac2 _ _ (ē _),acO,List.eraseIdx_append_of_length_le (Ō _ 1),ϵ];rfl
theorem Od(L:List α)(x:α)(T:List α):(L++x::T)[L.length]?=À x:=by rw[Ϣ (ē _),acO];rfl
theorem Jb(L:List α)(x y:α)(T:List α):(L++x::y::T)[L.length+1]?=À y:=by rw[Ϣ (Ō _ 1),ϵ];rfl
theorem EY(h:(L++(X,p)::(Y,q)::T).Pairwise (T3 zo))(hZ:∀x∈Ù,x∈X\/x∈Y):(L++(Ù,p)::T).Pairwise (T3 zo):=by
 have a:=Ϧ.mp h;have b:=ŏ.mp a.2.1;have c:=ŏ.mp b.2;show Ϧ.mpr ⟨a.1,ŏ.mpr ⟨λd hd x hx y hy=>?_,c.2⟩,λe he d hd x hx y hy=>?_⟩
 ·show â (hZ x hx) (λhx=>b.1 d (J' _ hd) x hx y hy) λhx=>c.1 d hd x hx y hy
 ·show â (ċ.mp hd) (λq=>?_) λhd=>a.2.2 e he d (J' _ (J' _ hd)) x hx y hy
  rw[q]at hy;show â (hZ y hy) (λhy=>a.2.2 e he _ G' x hx y hy) λhy=>a.2.2 e he _ (J' _ G') x hx y hy
theorem wZ(h:b∈L++c::T):b=c\/b∈L++d::T:=
 â (ğ.mp h) (λh=>.inr (ž _ h)) λh=>â (ċ.mp h) .inl λh=>.inr (ů _ (J' _ h))
theorem mz.repower(I:mz zb zo zk a₀ (L++[(X,p)]) R st)(pw:Nat):mz zb zo zk a₀ (L++[(X,pw)]) R (Č st ((Ö st).modify ((Ö st).size-1) λx=>(x.1,x.2.1,pw))):=by
 have eF:bq (L++[(X,pw)])=bq (L++[(X,p)]):=by rw[jb,jb];rfl
 show⟨I.kind,I.failed,?_,eF▸I.arr,λb hb=>?_,?_,eF▸I.pm⟩
 ·show ((Ö st).modify _ _).toList=_
  rw[Array.toList_modify,I.size,I.pend,ji,ji,Ā];show List.modify (eS 0 L++[_]) L.length _=_;rw[<-nr 0 L];show o6 ..
 ·show â (wZ (d:=(X,p)) hb) (λe=>?_) λh=>I.ok b h
  have o:=I.ok (X,p) (ů _ G');rw[e];show⟨o.pos,o.so⟩
 ·have h:=I.bf
  rw[Ć]at h ⊢;have a:=Ϧ.mp h;have b:=ŏ.mp a.2.1;show Ϧ.mpr ⟨a.1,ŏ.mpr ⟨b.1,b.2⟩,λe he d hd=>â (ċ.mp hd) (λq=>by rw[q];show a.2.2 e he (X,p) G') λhd=>a.2.2 e he d (J' _ hd)⟩
theorem mz.push(I:mz zb zo zk a₀ Bs (Ù++R) st)(hn:Ù.length=n)(hZ:0<n)(hs:kX (rr zb zo) Ù)(zR:∀x∈Ù,∀y∈R,zo x<zo y):
  mz zb zo zk a₀ (Bs++[(Ù,0)]) R (Č st ((Ö st).push ((bq Bs).length,n,0))):=by
 have eF:bq (Bs++[(Ù,0)])++R=bq Bs++(Ù++R):=by rw[jb];show (bq Bs++(Ù++[]))++R=_;rw[Ľ,Ć]
 show⟨I.kind,I.failed,?_,eF▸I.arr,λb hb=>?_,?_,eF▸I.pm⟩
 ·show ((Ö st).push _).toList=_
  rw[ac5,I.pend,ji,ϋ,<-hn];rfl
 ·show â (ğ.mp hb) (I.ok b) λh=>by rw[W'.mp h];show⟨hn▸hZ,hs⟩
 ·have a:=Ϧ.mp I.bf
  rw[Ć];show Ϧ.mpr ⟨a.1,ŏ.mpr ⟨λc hc=>by rw[W'.mp hc];show zR,acx _ _⟩,λb hb c hc x hx y hy=>a.2.2 b hb _ G' x hx y (â (ċ.mp hc) (λe=>?_) λh=>?_)⟩
  ·rw[e]at hy;show ž _ hy
  ·rw[W'.mp h]at hy;show ů _ hy
end
section
variable{st:Ò}{a₀ R:List Ë}{L Bs T:List Ee}
theorem vk(S:SO zA zE zs zb zk zU)(hU:∀x∈a₀,zU x)(I:mz zb zo zk a₀ (L++(X,p)::(Y,q)::T) R st)(hi:L.length=i)
  (h:∀Ù aS,mz zb zo zk a₀ (L++(Ù,p)::T) R aS->Q Æ aS):wpS mo zA zE zs (Ŋ i) Q st:=by
 have hX:(X,p)∈L++(X,p)::(Y,q)::T:=ů _ G';have hY:(Y,q)∈L++(X,p)::(Y,q)::T:=ů _ (J' _ G');have eF:bq (L++(X,p)::(Y,q)::T)=bq L++(X++(Y++bq T)):=by rw[jb];rfl
 have eP:(Ö st).toList=eS 0 L++((bq L).length,X.length,p)::((bq L).length+X.length,Y.length,q)::eS ((bq L).length+X.length+Y.length) T:=by rw[I.pend,ji,ϋ];rfl
 have hl:i=(eS 0 L).length:=hi.symm.trans (nr 0 L).symm;have bf:=I.bf;rw[Ć]at bf;have TK:∀x∈X,∀y∈Y,zo x<zo y:=(ŏ.mp (Ϧ.mp bf).2.1).1 (Y,q) G';have uF:∀b∈L++(X,p)::(Y,q)::T,∀x∈b.1,zU x:=λb hb x hx=>hU x (I.pm.mem_iff.mp (ž _ (wv hb hx)));have M:MC X Y:=⟨λx hx y hy st1 Q hk hq=>S.cmp y x (uF _ hY y hy) (uF _ hX x hx) st1 Q hk (by rw[<-gh (TK x hx y hy)];show hq),S.rtrans,S.rasym,λx hx y hy hr=>uW (TK x hx y hy) hr,(I.ok _ hX).so,(I.ok _ hY).so⟩;show x8 (P:=bq L) (X:=X) (Y:=Y) (T:=bq T++R) (sa:=(bq L).length) (pw:=p) (pw2:=q) ?_ ?_ ?_ N (I.ok _ hX).pos (I.ok _ hY).pos M I.kind I.failed λÙ aS hE hk ha hp hf=>?_
 ·rw[<-ϴ,eP,hl];show Od _ _ _
 ·rw[<-ϴ,eP,hl];show Jb _ _ _ _
 ·rw[I.arr,eF,Ć,Ć,Ć]
 ·have hZ:∀x∈Ù,x∈X\/x∈Y:=λx hx=>ğ.mp (hE.pm.mem_iff.mp hx)
  have Xx:Ù.length=X.length+Y.length:=by rw[hE.pm.length_eq,Ā]
  have Xg:bq (L++(Ù,p)::T)=bq L++(Ù++bq T):=by rw[jb];rfl
  have pF:(bq (L++(Ù,p)::T)).Perm (bq (L++(X,p)::(Y,q)::T)):=by rw[eF,Xg,<-Ć X];show(hE.pm.append_right _).append_left _
  show h Ù aS ⟨hk.trans I.kind,hf,?_,?_,λb hb=>?_,?_,(pF.append_right R).trans I.pm⟩
  ·rw[hp,Array.toList_eraseIdxIfInBounds,aeb,eP,hl,Dl,ji,ϋ]
   show _=eS 0 L++(_,Ù.length,p)::eS ((bq L).length+Ù.length) T;rw[Xx,ū]
  ·rw[ha,Xg,Ć,Ć]
  ·show â (wZ (d:=(X,p)) hb) (λe=>?_) λh=>?_
   ·rw[e]
    show⟨by rw[Xx];show Į (I.ok _ hX).pos (Ō _ _),hE.so⟩
   ·show I.ok b (â (ğ.mp h) (ž _) λh=>ů _ (â (ċ.mp h) (λe=>e▸G') λh=>J' _ (J' _ h)))
  ·rw[Ć]
   show EY bf hZ
theorem Ss(h:i+1<l.length):∃L x y T,l=L++x::y::T/\L.length=i:=
 ⟨l.take i,l[i]'(Ũ h),l[i+1],l.drop (i+2),by rw[<-aby,<-aby,ũ],by rw[ŷ,ų (Ģ (Ũ h))]⟩
theorem nO(S:SO zA zE zs zb zk zU)(hU:∀x∈a₀,zU x)(I:mz zb zo zk a₀ Bs R st)(hi:i+1<Bs.length)
  (h:∀pG aS,mz zb zo zk a₀ pG R aS->pG.length+1=Bs.length->Q Æ aS):wpS mo zA zE zs (Ŋ i) Q st:=by
 show Xe (Ss hi) λL x y T e hL=>?_;rw[e]at I;show vk (X:=x.1) (p:=x.2) (Y:=y.1) (q:=y.2) S hU I hL λÙ aS I'=>h _ aS I' ?_;rw[e,Ā,Ā];rfl
abbrev VS:Type:=Option Unit×Unit
abbrev WS:Type:=Option Unit×Nat
noncomputable def Mj(pw:Nat)(_:Nat)(_:VS):StateT Ò Sem (ForInStep VS):=
 get>>=λst=>match (if (Ö st).size > 1 then (Ö st)[(Ö st).size-2]? else Ã) with
 |some (_,_,older)=>if older<=pw then pure (.done (Ã,())) else Ŋ ((Ö st).size-2)>>=λb=>if (!b)=Æ then pure (.done (À (),())) else pure (.yield (Ã,()))
 |_=>pure (.done (Ã,()))
noncomputable def Hj(lo n:Nat):StateT Ò Sem (ForInStep WS):=(modify λzs=>Č zs ((Ö zs).push (lo,n,0)))>>=λz=>pure (.yield (Ã,lo+n))
def BN(md lo n:Nat):StateT Ò Sem (ForInStep WS):=
 get>>=λst=>match (Ö st).back? with
 |some (s1,n1,_)=>forIn [0:md] ((Ã,()):VS) (Mj (power' md (2*s1+n1) (2*s1+n1+n1+n) md))>>=λr=>match r.1 with
  |some a=>pure (.done (À a,lo))
  |none=>(modify λzs=>Č zs ((Ö zs).modify ((Ö zs).size-1) λx=>(x.1,x.2.1,power' md (2*s1+n1) (2*s1+n1+n1+n) md)))>>=λz=>Hj lo n
 |_=>Hj lo n
def Sx(md mr:Nat)(_:Nat)(c:WS):StateT Ò Sem (ForInStep WS):=
 if c.2 >= md then pure (.done (Ã,c.2)) else countRun' c.2 (md-c.2)>>=λz=>match z with
 |some n=>if n<mr then (liftM (rule "list.sort.binary-insertion"):StateT Ò Sem Unit)>>=λy=>binarySort' c.2 (min (md-c.2) mr) n>>=λb=>if (!b)=Æ then pure (.done (À (),c.2)) else BN md c.2 (min (md-c.2) mr)
  else BN md c.2 n
 |_=>pure (.done (À (),c.2))
noncomputable def Nl(p:Array (Nat×Nat×Nat)):Nat:=if (if p.size-2 > 0 then p[p.size-2-1]?.map (·.2.1) else Ã).any (· < (p[p.size-2+1]?.elim 0 (·.2.1))) then p.size-2-1 else p.size-2
def UZ(_:Nat)(_:VS):StateT Ò Sem (ForInStep VS):=
 get>>=λst=>if (Ö st).size<=1 then pure (.done (Ã,())) else Ŋ (Nl (Ö st))>>=λb=>if (!b)=Æ then pure (.done (À (),())) else pure (.yield (Ã,()))
theorem KW:sortRuns'=(get>>=λzs=>forIn [0:(Ú zs).size] ((Ã,0):WS) (Sx (Ú zs).size (minRun' (Ú zs).size (Ú zs).size 0))>>=λc=>match c.1 with
 |some r=>pure r
 |none=>forIn [0:(Ú zs).size] ((Ã,()):VS) UZ>>=λd=>match d.1 with
  |some r=>pure r
  |none=>pure ()):=by kernel_rfl
theorem D2(S:SO zA zE zs zb zk zU)(hU:∀x∈a₀,zU x)(I:mz zb zo zk a₀ Bs R st)(h0:Bs≠[])(hd:Q (.done (Ã,())) st)(hy:∀pG aS,mz zb zo zk a₀ pG R aS->pG≠[]->Q (.yield (Ã,())) aS):
  wpS mo zA zE zs (Mj pw x c) Q st:=by
 show Í (İ ?_);by_cases h2:(Ö st).size > 1
 ·rw[if_pos h2]
  split
  ·show cI (λz=>Ð hd) λz=>?_
   rw[I.size]at h2 ⊢;show Í (nO S hU I (SB h2) λpG aS I' hl=>cp Ļ (Ð (hy pG aS I' λe=>?_)));rw[e]at hl;show Ŧ _ (hl▸h2)
  ·show Ð hd
 ·rw[if_neg h2]
  show Ð hd
theorem Kq(h:l≠[]):∃L x,l=L++[x]:=⟨l.dropLast,l.getLast h,(List.dropLast_concat_getLast h).symm⟩
set_option tactic.hygienic true in
theorem D8(S:SO zA zE zs zb zk zU)(hU:∀x∈a₀,zU x)(I:mz zb zo zk a₀ Bs (Ù++R) st)(hn:Ù.length=n)(hZ:0<n)(hs:kX (rr zb zo) Ù)(zR:∀x∈Ù,∀y∈R,zo x<zo y)
  (h:∀pG aS,mz zb zo zk a₀ pG R aS->Q (.yield (Ã,(bq Bs).length+n)) aS):wpS mo zA zE zs (BN md (bq Bs).length n) Q st:=by
 have H3:∀pG aS,mz zb zo zk a₀ pG (Ù++R) aS->wpS mo zA zE zs (Hj (bq Bs).length n) Q aS:=λpG aS I'=>by show Í (ù (Ð (h (pG++[(Ù,0)]) _ ?_)));have e:(bq pG).length=(bq Bs).length:=aeL (I'.len.trans I.len.symm);have:=I'.push hn hZ hs zR;rw[e]at this;show this
 show Í (İ ?_);split
 ·rename_i s1 n1 p1 hb
  have eR:Bs≠[]:=λe=>by
   have h1:(Ö st).toList=[]:=by rw[I.pend,e];rfl
   rw[Array.toList_eq_nil_iff.mp h1]at hb;show nomatch hb
  generalize power' md (2*s1+n1) (2*s1+n1+n1+n) md=pw;show Í (Ę (ã (I:=λ_ (c:VS) aS=>c.1=Ã/\∃pG,mz zb zo zk a₀ pG (Ù++R) aS/\pG≠[]) (λx c aS _ _ q=>?_) (λ_ _ q=>q) ⟨N,Bs,I,eR⟩) λc aS q=>?_)
  ·show aF q.2 λpG I' h'=>D2 S hU I' h' ⟨rfl,pG,I',h'⟩ λB2 dA I2 h2=>⟨N,B2,I2,h2⟩
  ·rw[q.1]
   show aF q.2 λpG I' h'=>mM (Kq h') λL x e=>?_;rw[e]at I';show Í (ù (H3 _ _ (mz.repower (X:=x.1) (p:=x.2) I' pw)))
 ·show H3 Bs st I
theorem D7:Av zA zE zs zb zo zk zU:=by
 intro a₀ st Q S hU hk hf hp e asc h;rw[KW];show Í (İ ?_);rw[show (Ú st).size=a₀.length by rw[<-ώ,e]];generalize minRun' a₀.length a₀.length 0=mr;show Í (Ę (ã (I:=λx (c:WS) aS=>c.1=Ã/\∃Bs R,mz zb zo zk a₀ Bs R aS/\(bq Bs).length=c.2/\R.Pairwise (λx y=>zo x<zo y)/\(x<=c.2\/a₀.length<=c.2)) (Q:=λ(c:WS) aS=>c.1=Ã/\∃Bs,mz zb zo zk a₀ Bs [] aS) (λx c aS j hx q=>?_) (λc aS q=>⟨q.1,?_⟩) ⟨N,[],a₀,⟨hk,hf,by rw[hp];rfl,e,(λj h=>nomatch h),acx _ _,.refl _⟩,N,asc,.inl (ē _)⟩) λc aS q=>?_)
 ·show Jz q.2 λBs R I hl ha RW=>?_
  have ch:=I.len;unfold Sx;rw[<-hl];show cI (λlC=>Ð ⟨N,Bs,?_⟩) λlC=>?_
  ·rw[I.none lC]at I;show I
  have cG:(bq Bs).length<a₀.length:=ϛ.mp lC;have hR:R.length=a₀.length-(bq Bs).length:=by rw[<-ch,ϵ]
  have RW:x<=(bq Bs).length:=â RW (λh=>hl▸h) λh=>absurd (hl▸h) lC;have uR:∀y∈R,zU y:=λy hy=>hU y (I.pm.mem_iff.mp (ů _ hy))
  -- the state behind a run found
  have aD:∀{n vv Z' R'},de aS vv->gp zb zo (bq Bs) R [] Z' R' n (Ú vv).toList->mz zb zo zk a₀ Bs (Z'++R') vv:=λ{n vv Z' R'} hs L=>by have a:=Ϧ.mp I.bf;show⟨hs.k.trans I.kind,hs.f.trans I.failed,by rw[hs.p];show I.pend,by rw[L.arr,Ľ],I.ok,Ϧ.mpr ⟨a.1,acx _ _,λb hb c hc=>?_⟩,(L.pm.append_left _).trans I.pm⟩;rw[W'.mp hc];show λx hx y hy=>a.2.2 b hb _ G' x hx y (L.pm.mem_iff.mp hy)
  have step:∀{P:ForInStep WS->Ò->Prop},(∀c' WI,(c'.1=Ã/\∃Bs R,mz zb zo zk a₀ Bs R WI/\(bq Bs).length=c'.2/\R.Pairwise (λx y=>zo x<zo y)/\(x+1<=c'.2\/a₀.length<=c'.2))->P (.yield c') WI)->∀{n vv Z' R'},1<=n->de aS vv->gp zb zo (bq Bs) R [] Z' R' n (Ú vv).toList->wpS mo zA zE zs (BN a₀.length (bq Bs).length n) P vv:=λ{P} hP {n vv Z' R'} h1 hs L=>
   D8 S hU (aD hs L) L.len h1 L.so L.bf λpG WI I4=>hP _ _ ⟨N,pG,R',I4,aeL ((I4.len.trans ch.symm).trans (by rw[ū,L.rest])),L.asc,.inl (ϭ RW h1)⟩
  show Í (DY S I.kind (P:=bq Bs) (R:=R) (T:=[]) N uR (ab5 cG) (by rw[Ľ];show I.arr) hR ha λn dA rN yj hA=>gm (show ∃Ù R',de aS dA/\gp zb zo (bq Bs) R [] Ù R' n (Ú dA).toList from ä hA.2 λÙ q=>ä q λR' L=>⟨Ù,R',hA.1,L⟩) λÙ R' hs L=>cI (λZ4=>Í (Ķ (ú ⟨N,?_⟩))) λj=>step (λj j q=>q) rN hs L);have qG:min (a₀.length-(bq Bs).length) mr<=R.length:=by rw[hR];show acl _ _
  have RF:n<=min (a₀.length-(bq Bs).length) mr:=afA.mpr ⟨yj,Ģ Z4⟩;generalize min (a₀.length-(bq Bs).length) mr=force at qG RF;have jN:=L.rest
  have ht:force-n<=R'.length:=by rw[<-jN]at qG;show Nat.sub_le_iff_le_add'.mpr qG
  have P5:=ũ (force-n) R';have QR:=L.asc;rw[<-P5]at QR;have sp:=Ϧ.mp QR;have L1:gp zb zo (bq Bs) (Ù++R'.take (force-n)) (R'.drop (force-n)) Ù (R'.take (force-n)) Ù.length (Ú dA).toList:=⟨by rw[L.arr,Ľ,P5],N,L.so,.refl _,λy hy z hz=>L.bf y hy z (Ů hz),sp.1⟩;rw[<-L.len];show Í (x7 S (hs.k.trans I.kind) N (λy hy=>uR y (L.pm.mem_iff.mp (â (ğ.mp hy) (ž _) λhy=>ů _ (Ů hy)))) (by rw[L.len];show rN) (by rw[L.len,ŷ,ų ht,acj RF]) L1 λZ' vv yk L3=>cp Ļ (step (λj j q=>q) (Z':=Z') (R':=R'.drop (force-n)) (z' rN RF) (hs.trans yk) ?_));have pm:=L3.pm;rw[Ľ]at pm;show⟨by rw[L3.arr,Ľ,aft],L3.len,L3.so,?_,λy hy z hz=>?_,sp.2.1⟩
  ·show(pm.append_right _).trans ?_
   rw[Ć,P5];show L.pm
  ·show â (ğ.mp (pm.mem_iff.mp hy)) (λhy=>L.bf y hy z (Ϟ hz)) λhy=>sp.2.2 y hy z hz
 ·show Jz q.2 λBs R I hl ha hx=>⟨Bs,?_⟩
  have h2:a₀.length<=(bq Bs).length:=â hx (λh=>by rw[ab1 (į _)]at h;show hl▸h) λh=>hl▸h;rw[I.none h2]at I;show I
 ·rw[q.1]
  show ä q.2 λBs I=>?_;have ch:=I.len;show Í (Ę (ã (I:=λx (d:VS) dA=>d.1=Ã/\∃Bs,mz zb zo zk a₀ Bs [] dA/\(Bs.length+x<=a₀.length+1\/Bs.length<=1)) (Q:=λ(d:VS) dA=>d.1=Ã/\∃Bs,mz zb zo zk a₀ Bs [] dA/\Bs.length<=1) (λx d dA j hx q=>?_) (λd dA q=>⟨q.1,?_⟩) ⟨N,Bs,I,.inl (ϊ (ch▸wu λb hb=>(I.ok b hb).pos))⟩) λd dA q=>?_)
  ·show aF q.2 λBs I hl=>Í (İ ?_)
   unfold Nl;rw[I.size];show cI (λh1=>Ð ⟨N,Bs,I,h1⟩) λh1=>?_;have J5:=ϛ.mp h1;have p2:=SB J5
   have pick:∀(c:Prop) [Decidable c],(if c then Bs.length-2-1 else Bs.length-2)+1<Bs.length:=λc j=>by
    split
    ·show Ŷ (ŧ (Ś _ _)) p2
    ·show p2
   show Í (nO S hU I (pick _) λpG vv I' h2=>cp Ļ (Ð ⟨N,pG,I',.inl ?_⟩));have jg:Bs.length+x<=a₀.length+1:=â hl (λh=>h) λh=>absurd h h1;rw[<-h2,Ϭ]at jg;show jg
  ·show aF q.2 λBs I hl=>⟨Bs,I,â hl (λh=>?_) λh=>h⟩
   rw[ab1 (į _),ϙ]at h;show acI h
  ·rw[q.1]
   show aF q.2 λBs I hl=>Ð ?_
   match Bs,I,hl with
   |[],I,_=>show h [] dA .nil I.pm I.arr I.failed
   |[b],I,_=>
    have eF:bq [b]++[]=b.1:=by show (b.1++[])++[]=b.1;rw[Ľ,Ľ]
    show h b.1 dA (I.ok b G').so (eF▸I.pm) (eF▸I.arr) I.failed
   |_::_::_,_,hl=>show absurd hl (ϛ.mpr (adi (Ŵ _)))
end
theorem Im{blt:Ë->Ë->Bool}{kd:Ÿ}{ď:Ë->Prop}:Av A E s blt ord kd ď:=hk (P:=U7 Av) D7 (A,E,s,blt,ord,kd,ď)
end L.Lake
namespace L.Lake
open PySem PyProof.Rows PySem.W
inductive yr(h:Ô):Ä->List Int->Prop
 |one (k:Int) (t:Tok):yr h (.int k t) [k]
 |two {a:È} (x y:Int) (t u:Tok):h.IsTuple a #[.int x t,.int y u]->yr h (.ref a) [x,y]
noncomputable def Qj(h:Ô):Ä->List Int
 |.int k _=>[k]
 |.ref a=>match h.get? a with
  |some o=>match o.data with
   |.seq xs _=>xs.toList.map numOf
   |_=>[]
  |none=>[]
 |_=>[]
theorem yr.eq(x:yr h v l):Qj h v=l:=by
 cases x with
 |one=>rfl
 |two x y t u ht=>
  obtain ⟨o,ho,_,n,hd⟩:=ht
  show (match h.get? _ with
   |some o=>match o.data with
    |.seq xs _=>xs.toList.map numOf
    |_=>[]
   |none=>[])=_
  rw[ho];dsimp only;rw[hd];rfl
section
variable{A:Ñ}{E:Ä->Å->Prop}{s:Å}
theorem Ph(hx:s.heap.IsTuple x #[.int a t,.int b u])(hy:s.heap.IsTuple y #[.int c v,.int d z])(h:Q (cm [a,b] [c,d]) s):
  É mo A (keyLt' (tuples' Æ) (.ref x) (.ref y)) Q E s:=by
 obtain ⟨ox,hox,_,nx,ZD⟩:=hx;obtain ⟨oy,hoy,_,ny,ZE⟩:=hy;show kat_lt hox ZD hoy ZE (kat_cons (wpAny_eqBool_int ?_));have e:cm [a,b] [c,d]=(decide (a<c)||(a==c&&(decide (b<d)||(b==d&&Ê)))):=rfl;rw[e]at h;cases hac:a==c with
 |true=>
  have Vh:a=c:=beq_iff_eq.mp hac;show kat_yes (kat_cons (wpAny_eqBool_int ?_));rw[hac,Vh,decide_eq_false (ado c),afE,adq]at h;cases hbd:b==d with
  |true=>have Vi:b=d:=beq_iff_eq.mp hbd;rw[Vi,decide_eq_false (ado d),adJ,afE]at h;show kat_yes (kat_nil h)
  |false=>rw[adJ,adp]at h;show kat_no (kat_one _ _ (lt_int h))
 |false=>rw[hac,Bool.false_and,adp]at h;show kat_no (oneLt_int h)
theorem Lm(hk:(n=1/\kd=oneType')\/(n=2/\kd=tuples' Æ)):
  SO A E s (λx y=>cm (Qj s.heap x.1) (Qj s.heap y.1)) kd (λx=>∃l,yr s.heap x.1 l/\l.length=n):=by
 show⟨λx y hx hy st Q fv hq=>?_,λx y=>mZ _ _,λx y z=>sZ _ _ _,λx y z=>m5 _ _ _⟩;obtain ⟨lx,kx,nx⟩:=hx;obtain ⟨ly,ky,ny⟩:=hy;rw[kx.eq,ky.eq]at hq;rw[lt'_eq];show Í (İ ?_);rw[fv];obtain ⟨vx,ix⟩:=x;obtain ⟨vy,iy⟩:=y;rcases hk with ⟨rfl,rfl⟩|⟨rfl,rfl⟩
 ·cases kx with
  |two _ _ _ _ _=>show nomatch nx
  |one k t=>
   cases ky with
   |two _ _ _ _ _=>show nomatch ny
   |one k' t'=>rw[keyLt'_oneType];show Í (Ķ (ĳ (oneLt_int ⟨N,Ð ?_⟩)));have e:cm [k] [k']=(decide (k<k')||(k==k'&&Ê)):=rfl;rw[e,adJ,adp]at hq;show hq
 ·cases kx with
  |one _ _=>show nomatch nx
  |two a b t u hx=>
   cases ky with
   |one _ _=>show nomatch ny
   |two c d v z hy=>show Í (Ķ (ĳ (Ph hx hy ⟨N,Ð hq⟩)))
end
end L.Lake
namespace L.Lake
open PySem PyProof.Rows PySem.Calls PySem.SeqAt
theorem ut(hk:r2 v=À l)(x:VR gg J h v a):yr h a l/\((l.length=1/\∃k t,a=.int k t)\/(l.length=2/\∃c o xs n k t,a=.ref c/\h.get? c=À o/\o.cls=.type "tuple"/\o.data=.seq xs n/\xs[0]?=À (.int k t))):=by
 revert hk;apply VR.el x
 case int=>
  intro i t hk;apply dM hk;show⟨.one i t,.inl ⟨rfl,i,t,rfl⟩⟩
 case tup=>
  intro m c vs ht hz hv hn hk
  match m,hk,hv with
  |[],hk,_=>show no hk
  |[_],hk,_=>show no hk
  |_::_::_::_,hk,_=>show no hk
  |[p,q],hk,hv=>show ca (m:=px p) hk λi hi hk=>ca hk λj hj hk=>?_;apply dM hk;show fe (vh hv) λap aq q3 hp hq=>?_;subst q3;show ä (vI hi hp) λt q2=>?_;subst q2;show ä (vI hj hq) λu q2=>?_;subst q2;show⟨.two i j t u ht,.inr ⟨rfl,?_⟩⟩;obtain ⟨o,ho,hc,n,hd⟩:=ht;show⟨c,o,_,n,i,t,rfl,ho,hc,hd,rfl⟩
 case none=>intro hk;show no hk
 case bool=>intro _ hk;show no hk
 case str=>intro _ _ hk;show no hk
 case ref=>intro _ _ _ hk;show no hk
 case ro=>intro _ _ _ _ _ _ hk;show no hk
inductive dC:List V->List KP->Prop
 |nil:dC [] []
 |cons {v:V} {p:KP} {vs:List V} {ps:List KP}:r2 v=À p.1->dC vs ps->dC (v::vs) (p::ps)
section
variable{A:Ñ}{E:Ä->Å->Prop}{J:List È}{H:ag}{s:Å}
structure S5(J:List È)(H:ag)(Ý:Å)(a kS:È)(e1:Nat)(kvs:List V)(i:Nat)(s':Å):Prop where
 S:SE J Ý.heap J s'.heap
 R:ak gg J H s'.heap
 T:bP Ý s'
 ha:s'.heap.get? a=À (æ "list" #[] e1)
 hk:∃kA e,s'.heap.get? kS=À (æ "list" kA e)/\bz gg J s'.heap (kvs.take i) kA.toList
def QA(J:List È)(H:ag)(v:V)(s':Å)(k:Ä)(pb:Å):Prop:=SE J s'.heap J pb.heap/\ak gg J H pb.heap/\bP s' pb/\VR gg J pb.heap v k
theorem rd(hc:c = "list"):¬ j3 (æ c xs n):=by apply ba hc;show gS N
theorem SE.mvOne(S:SE J aY J h)(R':ak gg J H h')(hs:Heap.SameBut a h h')(h0:aY.get? a=Ã):SE J aY J h':=
 db.mv (wr:=[a]) S R' (λb o hb z e=>hs.extBut b o (by simpa using hb) e) (λz q=>q) (by simpa using h0)
theorem pW(R:ak gg J H h)(hs:Heap.SameBut a h h')(ho:h.get? a=À (æ "list" xs n))(ha:a∉J)(hB:gg.B.get? a=Ã):ak gg J H h':=
 R.other ha hB (λb o hb e=>hs.extBut b o hb e) λo e=>by rw[ho]at e;cases e;show rd N
theorem LA(hs:Heap.SameBut a h h')(ho:h.get? a=À (æ "list" xs n))(x:bz gg J h l vs):bz gg J h' l vs:=
 x.stepT (λz z e=>e) λb o e hh hn=>⟨hs.extBut b o (by rintro rfl;rw[ho]at e;cases e;show rd rfl hh) e,hn⟩
theorem GB{Ý:Å}{a kS:È}{e1:Nat}{kvs:List V}{st:Ò}{out:List V}{P:PySem.Fin->Å->Prop}(K:S5 J H Ý a kS e1 kvs kvs.length s)(AW:kS≠a)(oh:a∉J)(wH:kS∉J)(FZ:Ý.heap.get? a=Ã)(lg:Ý.heap.get? kS=Ã)(JW:gg.B.get? a=Ã)(OM:gg.B.get? kS=Ã)
  (hz:kvs.length<=10000000) (fv:(Ú st).size=kvs.length) (hf:ë st=Ã) (OT:∀h,bz gg J h out ((Ú st).map (·.2)).toList)
  (h:∀h' tk c,SE J Ý.heap J h'->ak gg J H h'->bP Ý {s with heap:=h',toks:=tk}->h'.get? a=À (æ "list" ((Ú st).map (·.2)) c)->P (.done (.ret .none)) {s with heap:=h',toks:=tk}) :
  É mo A (ksk_tail a Ê e1 (.ref kS) st) P E s:=by
 show gm K.hk λkA e hk rZ=>?_
 have ch:kA.size<=kvs.length:=by have h1:=rZ.length;rw[ŗ]at h1;rw[h1,ώ];show ē _
 have sl:(10000000:Nat)<=ê:=ab6 rfl;have s1:=Heap.SameBut.update s.heap kS (Obj.mapSeq λz=>(#[]:Array Ä));have R1:=pW K.R s1 hk wH OM;have S1:=SE.mvOne K.S R1 s1 lg;have TS:(s.heap.update kS (Obj.mapSeq λz=>(#[]:Array Ä))).get? a=À (æ "list" #[] e1):=(s1.2 a AW.symm).trans K.ha;have s2:=Heap.SameBut.update (s.heap.update kS (Obj.mapSeq λz=>(#[]:Array Ä))) a (Obj.mapSeq λz=>(Ú st).map (·.2));have R2:=pW R1 s2 TS oh JW;have S2:=SE.mvOne S1 R2 s2 FZ;obtain ⟨c2,P6⟩:∃c2,((s.heap.update kS (Obj.mapSeq λz=>(#[]:Array Ä))).update a (Obj.mapSeq λz=>(Ú st).map (·.2))).get? a=À (æ "list" ((Ú st).map (·.2)) c2):=⟨_,get?_update_seq TS λz=>(Ú st).map (·.2)⟩;unfold ksk_tail
 try dsimp only
 show Â (Ŕ hk N (Â (Ė (Â (seqEpoch_at TS N (Â (Ŕ TS N ?_ (į _) (z' (ň (Array.size_map ..)) (ϊ (z' (ň fv) (z' hz sl)))))))))) (z' ch (z' hz sl)) (į _));rw[hf]
 simp only[bne_self_eq_false,abY,if_false]
 show Ç (h _ _ c2 S2 R2 (K.T.trans ⟨N,N,N⟩) P6)
end
end L.Lake
namespace L.Lake
open PySem PyProof.Rows PySem.Calls PySem.SeqAt PySem.W
noncomputable def ki(ps:List KP):List V:=ps.map λp=>.int p.2
noncomputable def KJ(x:Ë):Nat:=(numOf x.2).toNat
def zC(h:Ô)(x:Ë):KP:=(Qj h x.1,numOf x.2)
theorem xk:∀{ns:List Int} {a:Int},gz a ns=Æ->∀n∈ns,a<n
 |m::r,a,h,n,hn=>by
  show aP (Ņ.mp (show (decide (a<m)&&gz m r)=Æ from h)) λh1 h2=>?_;have h1:=of_decide_eq_true h1;rcases ċ.mp hn with rfl|hn
  ·show h1
  ·show acV h1 (xk h2 n hn)
theorem H9(h:-1<a)(Mx:a<b):a.toNat<b.toNat:=by show jT (y4 0x1c2311b1010b2112b03 N Mx (aen _) (ϥ (y1 0xc00811b0e1808 N h)))
theorem wW{a b:Int}(h:a.toNat<b.toNat):a<b:=adS.mp λq=>absurd h (ľ.mpr (Int.toNat_le_toNat q))
theorem wQ(x:ñ vs ns)(h:v∈vs):∃m∈ns,∃u,v=.int m u:=by
 induction x with
 |nil=>show nomatch h
 |cons n t hr ih=>show(ċ.mp h).elim (λe=>⟨n,G',t,e⟩) λh=>aF (ih h) λm hm e=>⟨m,J' _ hm,e⟩
theorem Ch(x:ñ vs ns):∀{ks:List Ä} {a:Int},ks.length=vs.length->gz a ns=Æ->-1<=a->(ks.zip vs).Pairwise λx y=>KJ x<KJ y:=by
 induction x with
 |nil=>intro ks a hl _ _;rw[϶.mp hl];show .nil
 |@cons n t vs ns hr ih=>
  intro ks a hl h ha;cases ks with
  |nil=>show nomatch hl
  |cons k ks=>show aP (Ņ.mp (show (decide (a<n)&&gz n _)=Æ from h)) λh1 h2=>?_;have h1:=of_decide_eq_true h1;have hn:-1<n:=abX ha h1;show ŏ.mpr ⟨λy hy=>aF (wQ hr (Ź hy).2) λm hm q=>ä q λu hu=>?_,ih (ad0.inj hl) h2 (ϰ hn)⟩;show n.toNat<(numOf y.2).toNat;rw[hu];show H9 hn (xk h2 m hm)
section
variable{A:Ñ}{E:Ä->Å->Prop}{J:List È}{H:ag}{s:Å}
theorem CP(h:ñ vs (n::ns)):∃t us,vs=.int n t::us/\ñ us ns:=by
 cases h with
 |cons _ t h=>show⟨t,_,N,h⟩
theorem GD(x:dC kvs ps):∀{ks vs:List Ä},bz gg J h kvs ks->ñ vs (ps.map (·.2))->(ks.zip vs).map (zC h)=ps:=by
 induction x with
 |nil=>intro ks vs y _;rw[y.nilE];rfl
 |cons hk hr ih=>intro ks vs y hI;show y.consE λa us q hv J7=>gm (CP hI) λt us q3 Y6=>?_;rw[q,q3,adx,Œ,ih J7 Y6];show congrArg (·::_) (Prod.ext (ut hk hv).1.eq N)
theorem Kn(x:dC kvs ps):∀{ks vs:List Ä},bz gg J h kvs ks->(∀p∈ps,p.1.length=n)->∀x∈ks.zip vs,∃l,yr h x.1 l/\l.length=n:=by
 induction x with
 |nil=>intro ks vs y _ x hx;rw[y.nilE]at hx;show nomatch hx
 |@cons v p vs ps hk hr ih=>
  intro ks ws y hn x hx;show y.consE λa us q hv J7=>?_;rw[q]at hx;cases ws with
  |nil=>show nomatch hx
  |cons w ws=>show(ċ.mp hx).elim (λe=>⟨p.1,?_,hn p G'⟩) (ih J7 (λq hq=>hn q (J' _ hq)) x);rw[e];show(ut hk hv).1
theorem CX(x:dC kvs ps):∀{ks:List Ä},bz gg J h kvs ks->(∀p∈ps,p.1.length=1)->∃kz,ñ ks kz:=by
 induction x with
 |nil=>intro ks y _;rw[y.nilE];show⟨[],.nil⟩
 |@cons v p vs ps hk hr ih=>
  intro ks y hn;show y.consE λa us q hv J7=>?_;rw[q];show ä (ih J7 λq hq=>hn q (J' _ hq)) λkz h1=>?_;rcases (ut hk hv).2 with ⟨_,k,t,rfl⟩|⟨h2,_⟩
  ·show⟨k::kz,.cons k t h1⟩
  ·show nomatch h2.symm.trans (hn p G')
theorem CY(x:dC kvs ps):∀{ks:List Ä},bz gg J h kvs ks->(∀p∈ps,p.1.length=2)->∃fs,KatTups h ks fs/\fs.length=ks.length/\∀v∈fs,∃k t,v=Value.int k t:=by
 induction x with
 |nil=>intro ks y _;rw[y.nilE];show⟨[],trivial,N,λz h=>nomatch h⟩
 |@cons v p vs ps hk hr ih=>
  intro ks y hn;show y.consE λa us q hv J7=>?_;rw[q];show eK (ih J7 λq hq=>hn q (J' _ hq)) λfs h1 h2 h3=>?_;rcases (ut hk hv).2 with ⟨h2,_⟩|⟨_,c,o,xs,n,k,t,rfl,ho,hc,hd,h0⟩
  ·show nomatch h2.symm.trans (hn p G')
  ·show⟨.int k t::fs,KatTups.cons ho hc hd h0 h1,congrArg (·+1) h2,λv hv=>(ċ.mp hv).elim (λe=>⟨k,t,e⟩) (h3 v)⟩
theorem Km(h:r2 v=À l):l.length=1\/l.length=2:=by
 cases v with
 |int i=>apply dM h;show .inl N
 |tup m=>
  match m,h with
  |[],h=>show no h
  |[_],h=>show no h
  |_::_::_::_,h=>show no h
  |[p,q],h=>show ca (m:=px p) h λi hi h=>ca h λj hj h=>?_;apply dM h;show .inr N
 |none=>show no h
 |bool _=>show no h
 |str _=>show no h
 |ref _=>show no h
 |ro _=>show no h
theorem uu(h:dC kvs ps)(hs:gP ps=Æ)(eR:0<ps.length):∃n,(n=1\/n=2)/\∀p∈ps,p.1.length=n:=by
 cases h with
 |nil=>show absurd eR (Ŧ _)
 |@cons v p vs ps hk hr=>show⟨p.1.length,Km hk,λq hq=>?_⟩;have h1:=Ϫ.mp hs p G';have h2:=Ϫ.mp h1 q hq;show(beq_iff_eq.mp h2).symm
theorem cK(x:dC kvs ps):kvs.length=ps.length:=by
 induction x with
 |nil=>rfl
 |cons _ _ ih=>show congrArg (·+1) ih
theorem Bl:∀{Ù:List Ë},(∀x∈Ù,∃n t,x.2=.int n t)->bz gg J h' (ki (Ù.map (zC h))) (Ù.map (·.2))
 |[],_=>.nil
 |x::Ù,hx=>by show mM (hx x G') λn t e=>.cons ?_ (Bl λy hy=>hx y (J' _ hy));show VR gg J h' (.int (numOf x.2)) x.2;rw[e];show .int n t
theorem KV{h:Ô}{x y:Ë}(hr:rr (λx y=>cm (Qj h x.1) (Qj h y.1)) KJ x y=Æ):nU (zC h x) (zC h y):=by
 show Ba ?_;unfold lh zC;show â (dW.mp hr) (λhr=>?_) (λq=>aP q λh1 h2=>?_)
 ·rw[hr];rfl
 ·rw[h1,decide_eq_true (wW h2)]
  show afK _
theorem yd(Pb:Array Ä)(vs:List Ä):(Pb.zip vs.toArray).toList=Pb.toList.zip vs:=ksk_zip Pb vs
end
def mW(A:Ñ)(E:Ä->Å->Prop)(J:List È)(H:ag)(s:Å)(Ý:Å)(a:È)(kS:È)(e1:Nat)(e:Nat)(kvs:List V)(ps:List KP)(kA:Array Ä)(vs:List Ä)(P:PySem.Fin->Å->Prop):Prop:=∀(K:S5 J H Ý a kS e1 kvs kvs.length s) (P9:s.heap.get? kS=À (æ "list" kA e)) (rZ:bz gg J s.heap kvs kA.toList) (pN:dC kvs ps) (hI:ñ vs (ps.map (·.2))) (hr:gz (-1) (ps.map (·.2))=Æ) (sR:gP ps=Æ) (AW:kS≠a) (oh:a∉J) (wH:kS∉J) (FZ:Ý.heap.get? a=Ã) (lg:Ý.heap.get? kS=Ã) (JW:gg.B.get? a=Ã) (OM:gg.B.get? kS=Ã) (hz:kvs.length<=10000000) (h:∀h' tk c ws,SE J Ý.heap J h'->ak gg J H h'->bP Ý {s with heap:=h',toks:=tk}->h'.get? a=À (æ "list" (adA ws) c)->bz gg J h' (ki (fA ps)) ws->P (.done (.ret .none)) {s with heap:=h',toks:=tk}),É mo A (ksk_end a Ê vs.toArray e1 (.ref kS) kA) P E s
namespace key_endH
def kc:=hc (yh mW) ({},λz z=>True,[],[],dS,dS,0,0,0,0,[],[],#[],[],λz z=>True)
def A:=kc.1
def E:=kc.2.1
def J:=kc.2.2.1
def H:=kc.2.2.2.1
def s:=kc.2.2.2.2.1
def Ý:=kc.2.2.2.2.2.1
def a:=kc.2.2.2.2.2.2.1
def kS:=kc.2.2.2.2.2.2.2.1
def e1:=kc.2.2.2.2.2.2.2.2.1
def e:=kc.2.2.2.2.2.2.2.2.2.1
def kvs:=kc.2.2.2.2.2.2.2.2.2.2.1
def ps:=kc.2.2.2.2.2.2.2.2.2.2.2.1
def kA:=kc.2.2.2.2.2.2.2.2.2.2.2.2.1
def vs:=kc.2.2.2.2.2.2.2.2.2.2.2.2.2.1
def P:=kc.2.2.2.2.2.2.2.2.2.2.2.2.2.2
theorem kt:mW A E J H s Ý a kS e1 e kvs ps kA vs P:=by
 intro K P9 rZ pN hI hr sR AW oh wH FZ lg JW OM hz h;have wI:kA.toList.length=vs.length:=by rw[<-rZ.length,cK pN,hI.length,H']
 have OO:vs.length=kvs.length:=by rw[<-wI,<-rZ.length]
 have CL:=GD pN rZ hI
 have hint:∀x∈kA.toList.zip vs,∃n t,x.2=.int n t:=λx hx=>by obtain ⟨m,_,u,e⟩:=wQ hI (Ź hx).2;show⟨m,u,e⟩
 have ip:∀(st:Ò) (Ù:List Ë),(Ú st).toList=Ù->Ù.Perm (kA.toList.zip vs)->Ù.map (zC s.heap)=fA ps->ë st=Ã->É mo A (ksk_tail a Ê e1 (.ref kS) st) P E s:=λst Ù hZ hp hm hf=>by
  have Zk:∀x∈Ù,∃n t,x.2=.int n t:=λx hx=>hint x (hp.mem_iff.mp hx)
  have OT:∀h',bz gg J h' (ki (fA ps)) ((Ú st).map (·.2)).toList:=λh'=>by rw[Array.toList_map,hZ,<-hm];show Bl Zk
  show GB K AW oh wH FZ lg JW OM hz ?_ hf OT λh' tk c S' R' T' ho=>h h' tk c ((Ú st).map (·.2)).toList S' R' T' ((ac')▸ho) (OT h');rw[<-ώ,hZ,hp.length_eq,acL,wI,afc,OO]
 unfold ksk_end
 try dsimp only
 rw[if_neg Ļ];by_cases h2:vs.toArray.size<2
 ·rw[if_pos h2,if_pos h2]
  show Â (Ç ?_);rw[StateT.run_pure];show Â (Ç ?_)
  try dsimp only
  rw[ſ]at h2;show ip (SortSt.mk' general' (kA.zip vs.toArray) #[] 7 Ã) (kA.toList.zip vs) (yd kA vs) (.refl _) ?_ N;rw[CL];have V6:ps.length<2:=by rw[<-cK pN,<-OO];show h2
  match ps,V6 with
  |[],_=>rfl
  |[p],_=>rfl
  |_::_::_,h=>show absurd h (by simp only[acb];show λq0=>zI (y3 0x1c080810b00813ba180113ba181211b282 rfl (iP _) (iA _ _) (iA _ _) (iT q0)))
 ·rw[if_neg h2,if_neg h2]
  rw[ſ]at h2;have eR:0<ps.length:=by rw[<-cK pN,<-OO];show jT (y1 0x1c00810b028 N (iL (ľ.mp h2)))
  show aF (uu pN sR eR) λn hn JY=>?_
  have run:∀kd:Ÿ,((n=1/\kd=oneType')\/(n=2/\kd=tuples' Æ))->É mo A (do
    let ((),st) <-sortRuns'.run (SortSt.mk' kd (kA.zip vs.toArray) #[] 7 Ã)
    ksk_tail a Ê e1 (.ref kS) st) P E s:=λkd lD=>by
   show Â (Ï (Im (E:=E) (ord:=KJ) (Lm lD) (a₀:=kA.toList.zip vs) (st:=SortSt.mk' kd (kA.zip vs.toArray) #[] 7 Ã)
    (Q:=λz aS=>∃Ù:List Ë,(Ú aS).toList=Ù/\Ù.Perm (kA.toList.zip vs)/\Ù.map (zC s.heap)=fA ps/\ë aS=Ã) (Kn pN rZ JY) N N N (yd kA vs) (Ch hI wI hr (Ĭ _)) λÙ aS hs hp ha hf=>⟨Ù,ha,hp,?_,hf⟩) ?_ λz z x=>x)
   ·show xB ?_ ?_
    ·rw[<-CL];show hp.map _
    ·rw[aeo]
     show hs.imp KV
   ·rintro ⟨⟨⟩,aS⟩ s' ⟨rfl,Ù,hZ,hp,hm,hf⟩
    show ip aS Ù hZ hp hm hf
  rcases hn with rfl|rfl
  ·show ä (CX pN rZ JY) λkz ZZ=>?_
   rw[ksk_kind ZZ (by rw[<-ώ,wI];show ľ.mp h2)];show Â (Ç (run _ (.inl ⟨N,N⟩)))
  ·show eK (CY pN rZ JY) λfs ht Er ZJ=>?_
   rw[show kA=kA.toList.toArray from (ac' (xs:=kA)).symm];show Â (kat_kind (T:=.type "int") ht (by rw[Er,wI];show jT (y1 0x1c00810b028 N (iL (ľ.mp h2)))) (λv hv=>?_) (by decide) ?_)
   ·show mM (ZJ v hv) λk t q3=>?_;apply ba q3
    show Looks.of_pure N
   ·have:=run (tuples' Æ) (.inr ⟨N,N⟩)
    rw[show kA=kA.toList.toArray from (ac' (xs:=kA)).symm]at this;show this
end key_endH
theorem Kl{P:PySem.Fin->Å->Prop}{vs:List Ä}{kA:Array Ä}:mW A E J H s Ý a kS e1 e kvs ps kA vs P:=hk (P:=yh mW) key_endH.kt (A,E,J,H,s,Ý,a,kS,e1,e,kvs,ps,kA,vs,P)
section
variable{A:Ñ}{E:Ä->Å->Prop}{J:List È}{H:ag}{s:Å}
theorem bz.snoc(x:bz gg J h l vs)(y:VR gg J h v a):bz gg J h (l++[v]) (vs++[a]):=x.append (.one y)
def As(A:Ñ)(J:List È)(H:ag)(Ý:Å)(f:Ä)(ps:List KP)(kvs:List V):Prop:=
 ∀(j:Nat) (p:KP) (kv:V) (t:Tok),ps[j]?=À p->kvs[j]?=À kv->∀s':Å,SE J Ý.heap J s'.heap->ak gg J H s'.heap->bP Ý s'->∀E,É mo A (Á f [.int p.2 t]) (QA J H kv s') E s'
theorem GA{Ý:Å}{a kS:È}{e1:Nat}{kvs:List V}{ps:List KP}{vs:List Ä}{f:Ä}{P:PySem.Fin->Å->Prop}(K:S5 J H Ý a kS e1 kvs 0 s)(pN:dC kvs ps)(hI:ñ vs (ps.map (·.2)))(hr:gz (-1) (ps.map (·.2))=Æ)(sR:gP ps=Æ)
  (AW:kS≠a) (oh:a∉J) (wH:kS∉J) (FZ:Ý.heap.get? a=Ã) (lg:Ý.heap.get? kS=Ã) (JW:gg.B.get? a=Ã) (OM:gg.B.get? kS=Ã) (hz:kvs.length<=10000000)
  (xX:As A J H Ý f ps kvs)
  (h:∀s' c ws,SE J Ý.heap J s'.heap->ak gg J H s'.heap->bP Ý s'->s'.heap.get? a=À (æ "list" (adA ws) c)->bz gg J s'.heap (ki (fA ps)) ws->P (.done (.ret .none)) s') :
  É mo A (ksk_rest a f Ê vs.toArray e1 (.ref kS)) P E s:=by
 have hl:vs.length=kvs.length:=by rw[hI.length,H',cK pN]
 have sl:(10000000:Nat)<=ê:=ab6 N;unfold ksk_rest;show Â (ú ?_);rw[List.forIn_toArray];show Â (ksk_fold (λi s'=>S5 J H Ý a kS e1 kvs i s') vs 0 s K ?step ?done)
 case step=>
  intro j x s' hx K';rw[ϋ]at K' ⊢;have hj:j<kvs.length:=by rw[<-hl];show(ģ.mp hx).1
  have MD:kvs[j]?=À kvs[j]:=N' hj;have XO:j<ps.length:=(cK pN)▸hj
  obtain ⟨t,rfl⟩:∃t,x=.int ps[j].2 t:=by show ä (dN hI hx) λt e=>?_;rw[Ħ,N' XO]at e;show⟨t,e⟩
  show Â (ĳ (Ï (xX j ps[j] kvs[j] t (N' XO) MD s' K'.S K'.R K'.T _) (λk pb hk=>?_) λz z x=>x));show Jy hk λS2 R2 T2 V2=>?_;dsimp only;show gm K'.hk λkA e P9 rZ=>?_;have J3:pb.heap.get? kS=À (æ "list" kA e):=(S2.pres _ _ P9 wH).seq rfl;have Zl:pb.heap.get? a=À (æ "list" #[] e1):=(S2.pres _ _ K'.ha oh).seq rfl;have VP:=rZ.step K'.R S2;have s1:=Heap.SameBut.update pb.heap kS (Obj.mapSeq (·.push k));obtain ⟨c2,P6⟩:∃c2,(pb.heap.update kS (Obj.mapSeq (·.push k))).get? kS=À (æ "list" (kA.push k) c2):=⟨_,get?_update_seq J3 (·.push k)⟩
  have hsz:kA.size<=10000000:=by have h1:=rZ.length;have h2:kA.toList.length=kA.size:=ώ;rw[ŷ]at h1;show z' (ň (h2.symm.trans h1.symm)) (z' (adj _ _) hz)
  have R3:=pW R2 s1 J3 wH OM;show Â (Ŕ J3 N (Ç ⟨N,SE.mvOne (K'.S.trans S2) R3 s1 lg,R3,(K'.T.trans T2).trans ⟨N,N,N⟩,(s1.2 a AW.symm).trans Zl,kA.push k,c2,P6,?_⟩) (z' hsz sl) (z' (ň (afq ..)) (ŧ (z' hsz sl))));rw[adD,MD,ac5];show LA s1 J3 (VP.snoc V2)
 case done=>
  intro s' K';rw[ϋ,hl]at K';show gm K'.hk λkA e P9 rZ=>?_;rw[ŗ]at rZ;show Â (listItems_at P9 N (Kl K' P9 rZ pN hI hr sR AW oh wH FZ lg JW OM hz λh' tk c ws a1 a2 a3 a4 a5=>h _ c ws a1 a2 a3 a4 a5))
theorem PE{Ý:Å}{h h':Ô}(S:SE J Ý.heap J h)(hk:∀b o,h.get? b=À o->h'.get? b=À o):SE J Ý.heap J h':=SE.trans S (SE.keeps _ hk)
theorem GC{Ý:Å}{a:È}{n:Nat}{kvs:List V}{ps:List KP}{vs:List Ä}{f:Ä}{P:PySem.Fin->Å->Prop}(S:SE J Ý.heap J s.heap)(R:ak gg J H s.heap)(T:bP Ý s)(ho:s.heap.get? a=À (æ "list" vs.toArray n))(pN:dC kvs ps)(hI:ñ vs (ps.map (·.2)))(hr:gz (-1) (ps.map (·.2))=Æ)(sR:gP ps=Æ)
  (oh:a∉J) (FZ:Ý.heap.get? a=Ã) (JW:gg.B.get? a=Ã) (hz:kvs.length<=10000000)
  (xX:As A J H Ý f ps kvs)
  (h:∀s' c ws,SE J Ý.heap J s'.heap->ak gg J H s'.heap->bP Ý s'->s'.heap.get? a=À (æ "list" (adA ws) c)->bz gg J s'.heap (ki (fA ps)) ws->P (.done (.ret .none)) s') :
  É mo A (ksk_tree a f Ê) P E s:=by
 have hl:vs.length=kvs.length:=by rw[hI.length,H',cK pN]
 have sl:(10000000:Nat)<=ê:=ab6 N;have TE:vs.length<=ê:=by rw[hl];show z' hz sl
 have s1:=Heap.SameBut.update s.heap a (Obj.mapSeq λz=>(#[]:Array Ä));obtain ⟨e1,OR⟩:∃e1,(s.heap.update a (Obj.mapSeq λz=>(#[]:Array Ä))).get? a=À (æ "list" #[] e1):=⟨_,get?_update_seq ho λz=>#[]⟩;have R1:=pW R s1 ho oh JW;have S1:=SE.mvOne S R1 s1 FZ;generalize hh1:s.heap.update a (Obj.mapSeq λz=>(#[]:Array Ä))=h1 at s1 OR R1 S1;have ul:∀b o,h1.get? b=À o->((h1.push (æ "tuple" vs.toArray 0)).push (æ "list" #[] 0)).get? b=À o:=λb o e=>O' _ (O' _ e);have ZY:(h1.push (æ "tuple" vs.toArray 0)).objs.size=h1.objs.size+1:=size_push' ..;have Gf:h1.get? (h1.push (æ "tuple" vs.toArray 0)).objs.size=Ã:=abJ (by rw[ZY];show ϓ _);unfold ksk_tree;show Â (listItems_at ho rfl (Â (Ŕ ho rfl ?_ (by rw[ſ];show TE) (į _))));rw[hh1];show Â (seqEpoch_at OR rfl (Â (wpAny_newTuple (Â (wpAny_newList (ß ?_) (į _))) TE)));have R3:ak gg J H ((h1.push (æ "tuple" vs.toArray 0)).push (æ "list" #[] 0)):=R1.keeps ul;show GA (s:={s with heap:=(h1.push (æ "tuple" vs.toArray 0)).push (æ "list" #[] 0)}) (Ý:=Ý) (kS:=(h1.push (æ "tuple" vs.toArray 0)).objs.size) ⟨PE S1 ul,R3,T.trans ⟨rfl,rfl,rfl⟩,ul _ _ OR,#[],0,ŀ _ rfl,.nil⟩ pN hI hr sR ?_ oh ?_ FZ ?_ JW ?_ hz xX h
 ·intro q
  rw[q,OR]at Gf;cases Gf
 ·show aW R1 Gf
 ·show S1.back Gf
 ·show aV R1 Gf
theorem Ad(R:ak gg J H s.heap)
  (Vq:∀(Q:List Ä->Å->Prop),(∀h' tk vs,(∀b o,s.heap.get? b=À o->h'.get? b=À o)->ñ vs (ps.map (·.2))->Q vs {s with heap:=h',toks:=tk})->É mo A.in1 (collect src) Q E s)
  (pN:dC kvs ps) (hr:gz (-1) (ps.map (·.2))=Æ) (sR:gP ps=Æ) (hz:kvs.length<=10000000) (xX:As A.in1.in1 J H s (.ref q) ps kvs) :
  É mo A (Á (.builtin "sorted") [src] [(acN "key",.ref q)]) (bD gg J s (.ref H.length) (H++[.lst (ki (fA ps))])) E s:=by
 have sl:(10000000:Nat)<=ê:=ab6 N;show call_function_entry_kw kind_sorted plain_sorted entry_sorted (ksk_s1 _ _) ?_;unfold Ē.«sorted»;show Â (m:=checkCount "sorted" 1 1 _) (Ç (Â (Vq _ λh1 tk1 vs IG hI=>?_)));have hl:vs.length=kvs.length:=by rw[hI.length,H',cK pN]
 have TE:vs.length<=ê:=by rw[hl];show z' hz sl
 show Â (wpAny_newList ?_ TE);have ul:∀b o,s.heap.get? b=À o->(h1.push (æ "list" vs.toArray 0)).get? b=À o:=λb o e=>O' _ (IG b o e);have Qb:(h1.push (æ "list" vs.toArray 0)).get? h1.objs.size=À (æ "list" vs.toArray 0):=ŀ _ N;have R1:=R.keeps IG;have Ry:h1.get? h1.objs.size=Ã:=aG _;have XM:s.heap.get? h1.objs.size=Ã:=fZ IG Ry;show Â (ß (wpAny_call_entry_kw slot_list_sort ⟨_,Qb,N⟩ entry_list_sort ?body (ksk_l1 _ _)))
 case body=>
  show É mo A.in1.in1 (Ē.«list.sort» ⟨[.ref h1.objs.size],[(acN "key",.ref q)]⟩) _ _ _;rw[ksk_t1];show GC (s:={s with heap:=h1.push (æ "list" vs.toArray 0),toks:=tk1}) (Ý:=s) (SE.keeps _ ul) (R.keeps ul) ⟨N,N,N⟩ Qb pN hI hr sR (aW R1 Ry) XM (aV R1 Ry) hz xX λs' c ws S' R' T' sQ V'=>⟨_,N,Ç ⟨_,N,(⟨J++[h1.objs.size],⟨S'.pres,S'.dom,[_],N,λb hb=>by rw[W'.mp hb];show XM⟩,R'.more (aW R1 Ry) (aV R1 Ry) (.lst ⟨c,sQ⟩ ?_ V') (λo e=>by apply fQ (sm ((sQ).symm.trans e));show rd N),.ref ?_,T'⟩)⟩⟩
  ·have:(ki (fA ps)).length=kvs.length:=by rw[ki,H',(fJ ps).length_eq,cK pN]
   rw[this];show ϊ (z' hz sl)
  ·rw[<-R.len];simp
theorem Fh(hl:s.heap.IsList l vs.toArray)(hI:ñ vs ns)(hz:vs.length<=ê)
  (hQ:∀h' tk ws,(∀b o,s.heap.get? b=À o->h'.get? b=À o)->ñ ws ns->Q ws {s with heap:=h',toks:=tk}):É mo A (collect (.ref l)) Q E s:=by
 obtain ⟨o,ho,hc,n,hd⟩:=hl;show wpAny_collect_seq l (.inl rfl) ho hc hd (λh' hk=>hQ h' s.toks vs hk hI) hz
theorem A5:∀(vs:List Ä) (ns:List Int),vs.length=ns.length->(∀(j:Nat) v,vs[j]?=À v->∃k t,ns[j]?=À k/\v=.int k t)->ñ vs ns
 |[],[],_,_=>.nil
 |[],_::_,h,_=>nomatch h
 |_::_,[],h,_=>nomatch h
 |v::vs,n::ns,h,hj=>by show gm (hj 0 v N) λk t e q4=>?_;apply ba q4;rw[Option.some.inj e];show .cons k t (A5 vs ns (ad0.inj h) λj v e=>hj (j+1) v e)
theorem Cp{r:È}{a b c:Int}{t u v:Tok}{n:Nat}{Q:List Ä->Å->Prop}(hh:A.handled=Ã)(hr:IsRange s.heap r a b c t u v)(zp:Builtin.Range.small a b c=Æ)(hn:Builtin.Range.rangeSize a b c=n)(hz:n<=2 ^ 24)
  (hQ:∀h' tk ws,(∀b o,s.heap.get? b=À o->h'.get? b=À o)->ñ ws ((Đ n).map λ(i:Nat)=>a+(i:Int)*c)->Q ws {s with heap:=h',toks:=tk}):É mo A (collect (.ref r)) Q E s:=by
 unfold collect;show Â (wpAny_runValue (é F.entry_proto_collect ?_));rw[Around.under_plainId F.plain_proto_collect _];show É _ A.in1 (newList []>>=λl=>again (.builtin "list.__iadd__" ⟨[l,.ref r],[]⟩)) _ _ s;show Â (è (Ç ⟨ĉ F.plain_list_iadd _,é F.entry_list_iadd ?_⟩));rw[Around.under_plainId F.plain_list_iadd _];show É _ A.in1 (Builtin.List.listExtendWith (.ref s.heap.objs.size) (.ref r) (.ref s.heap.objs.size)) _ _ _
 show wpAny_extend_range (A:=A) (R:=λr' s'=>match r' with
  |.ok (.ret v)=>É mo A (match v with
   |.ref a=>do match (<-load a).data with
    |.seq xs _=>pure xs.toList
    |_=>Ġ "internal:collect"
   |_=>Ġ "internal:collect") Q E s'
  |.ok _=>False
  |.error e=>E e s') hh (O' _ hr) zp hn hz s.heap.objs.size _ 0 (ŀ _ N) λh' tk pv c' hk El ud=>?_
 show É _ A (load s.heap.objs.size>>=_) _ _ _;show Â (wpAny_load El (Ç (hQ h' tk pv.toList (λb o e=>hk b o (Ł (Ő e)) (O' _ e)) ?_)));show A5 _ _ (by rw[ώ,H',Ŗ];show ud.1) λj v hv=>?_;have hj:j<pv.size:=by rw[<-ώ];show(ģ.mp hv).1
 show ä (ud.2 j v ((ϴ)▸hv)) λt e=>?_;show⟨a+(j:Int)*c,t,by rw[Ħ,ϸ ((ud.1)▸hj)];rfl,e⟩
end
set_option tactic.hygienic true in
theorem yx:∀(l:List Ä),ĝ l->ė pos (l++[õ a,õ b,c])=À cv->ė pos l=À cv\/cv=c:=by
 intro l
 fun_induction ĝ l with
 |case1=>
  intro _ h;have h:(if ((a:Int)==pos.line&&(b:Int)==pos.col)=Æ then À c else ė pos [])=À cv:=h;split at h
  ·show .inr (Option.some.inj h).symm
  ·show .inl h
 |case2 i t j u x aD ih=>
  intro ht h;have h:(if (i==pos.line&&j==pos.col)=Æ then À x else ė pos (aD++[õ a,õ b,c]))=À cv:=h;show (if (i==pos.line&&j==pos.col)=Æ then À x else ė pos aD)=À cv\/_;split at h
  ·rename_i hc
   rw[if_pos hc];show .inl h
  ·rename_i hc
   rw[if_neg hc];show ih ht h
 |case3 l h1 h2=>intro ht;show ht.elim
theorem vg:∀(l:List Ä),ĝ l->ĝ (l++[õ a,õ b,c]):=by
 intro l
 fun_induction ĝ l with
 |case1=>show λz=>trivial
 |case2 i t j u x aD ih=>show λh=>ih h
 |case3 l h1 h2=>show λh=>h.elim
def lI(h:Ô)(c:È)(q:Str):Prop:=∃o vs t,h.get? c=À o/\o.cls=.type "code"/\o.data=.fields vs/\vs[1]?=À (.str q t)
theorem lI.rec(x:lI h c q):h.CodeRec (.ref c) q:=let ⟨o,vs,t,h1,_,h2,h3⟩:=x;⟨c,o,vs,t,N,h1,h2,h3⟩
section
variable{A:Ñ}{E:Ä->Å->Prop}{s:Å}{name qual:Str}{params:ĺ}{body:Ó}{scope:à}{Z:Env}{c P:È}{ps:Array Ä}{pos:Pos}{sM:Nat}{mg:Str->Option Ä}{Jm:List (Str×È)}{Q:Ä->Å->Prop}
theorem GN(zj:closureFor scope Z=pure Jm)(RA:Z.globals=Û)(Vk:Z.builtins=ą)(hg:s.heap.Ns Û mg)(AU:Z.code=.ref c)(C:CodeHd s.heap c P)(hP:s.heap.get? P=À (tabObj ps))(ht:ĝ ps.toList)(im:∀pos cv,ė pos ps.toList=À cv->∃c',cv=.ref c'/\lI s.heap c' qual)
  (VE:Û≠P) (hb:s.heap.BuiltinsAt mg P)
  (h:∀c' Cs h' tk Nn f pm,(∀b o,b≠P->s.heap.get? b=À o->h'.get? b=À o)->h'.get? P=À (tabObj Nn)->ĝ Nn.toList->(∀pos cv,ė pos Nn.toList=À cv->∃d,cv=.ref d/\(lI s.heap d qual\/(s.heap.get? d=Ã/\lI h' d qual))) ->
   (lI s.heap c' qual\/(s.heap.get? c'=Ã/\lI h' c' qual))->c'≠P->s.heap.get? f=Ã->h'.get? f=À (kla_obj name qual params body scope Jm pm c' Cs)->Q (.ref f) {s with heap:=h',toks:=tk}) :
  É mo A (makeFunction name qual params (.expr body) scope Z [] [] [] pos sM) Q E s:=by
 rw[makeFunction_eq]
 simp only[ae0,List.filterMap_nil,aeu,if_true,pure_bind]
 have WB:∀{d:È},lI s.heap d qual->d≠P:=λ⟨o,vs,t,h1,h2,_⟩ e=>by rw[e,hP]at h1;cases h1;cases h2
 cases hf:ė pos ps.toList with
 |some cv=>
  show aF (im pos cv hf) λc' q2 ff=>?_;subst q2
  show kla_makeTailHit zj RA hg AU C hP ht hf hb λCs h' tk hk hsz=>h c' Cs _ tk ps _ _ (λb o z e=>O' _ (hk b o e)) (O' _ (hk _ _ hP)) ht (λpos cv e=>by show aF (im pos cv e) λd h1 h2=>?_;show⟨d,h1,.inl h2⟩) (.inl ff) (WB ff) (abJ hsz) (ŀ _ N)
 |none=>
  show UT hb λbm ob Zq V0 XH V1 Vl F6 k5=>?_;show aP k5 λlz Ru=>?_;unfold makeTail;rw[zj,RA,Vk];show Â (Ç ?_)
  have ip:∀(bM:Ô) (Cs:Ä),(∀b o,s.heap.get? b=À o->bM.get? b=À o)->É mo A (do
    let code <-functionCode Z pos sM name qual params scope (.expr body)
    let bs <-builtinsFor Û ą
    let O <-nsGet Û "__name__"
    let doc <-(pure .none:Sem Ä)
    newObj (.type "function") (.func {name:=name,qualname:=qual,params,body:=.expr body,scope,globals:=Û,closure:=Jm,closureTuple:=Cs,code,builtins:=bs,defaults:=.none,kwdefaults:=.none,annotations:=Ã,pyModule:=O.getD .none,doc})) Q E {s with heap:=bM}:=λbM Cs jf=>by
   show Â (wpAny_functionCodeX (s:={s with heap:=bM}) AU ((C.keeps jf).code (jf _ _ hP) ht) ((C.keeps jf).tab (jf _ _ hP)) hf λc' h' tk hx lC cG Tt V8 htb CM=>?_);have IF:h'.Ns Û mg:=(hg.keeps jf).extBut hx VE;show Â (wpAny_builtinsFor IF Zq V0 (hx _ _ V1 (jf _ _ Vl)) F6 lz Ru (Â (wpAny_nsGet IF ?_)));show vo CM λP' Ek z k8 z=>?_;show Jz k8 λo vs ho Z9 hod z=>?_;show UU V8 λc2 o2 vs2 t2 e1 e2 e3 e4=>?_;cases e1;have eo:o=o2:=Option.some.inj (ho.symm.trans e2);subst eo;have fresh:s.heap.get? c'=Ã:=fZ jf (abJ lC);have oi:∀oo,lI (h'.push oo) c' qual:=λoo=>⟨o,vs2,t2,O' _ ho,Z9,e3,e4⟩;show Â (Ç (è (h c' Cs _ tk _ h'.objs.size _ (λb o hb e=>O' _ (hx b o hb (jf b o e))) (O' _ htb.2) ?_ (λPw cv e=>?_) (.inr ⟨fresh,oi _⟩) ?_ ?_ (ŀ _ N)) (by size_fits)))
   ·rw[Ž];show vg _ ht
   ·rw[Ž]at e
    rcases yx _ ht e with e|rfl
    ·show aF (im Pw cv e) λd h1 h2=>⟨d,h1,.inl h2⟩
    ·show⟨c',N,.inr ⟨fresh,oi _⟩⟩
   ·rintro rfl
    rw[fresh]at hP;show no hP
   ·have:bM.objs.size<=h'.objs.size:=z' lC (Ģ cG)
    show fZ jf (abJ this)
  cases Jm with
  |nil=>
   simp only[aeu,if_true]
   show Â (Ç (ip s.heap .none λz z e=>e))
  |cons q r=>
   simp only[List.isEmpty_cons,abY,if_false]
   show Â (wpAny_newTextTuple (ip _ _ λb o e=>O' _ e))
end
theorem jQ:∀{l:List Str} {vs:List α} {n:Str},l.length=vs.length->n∈l->((l.zip vs).lookup n).isNone=Ê
 |[],_,_,_,h=>nomatch h
 |a::l,[],_,e,_=>by simp at e
 |a::l,v::vs,n,e,h=>by
  rw[adx,Ϗ];cases hb:n==a with
  |true=>rfl
  |false=>
   show â (ċ.mp h) (λh=>?_) (λh=>?_)
   ·subst h;simp at hb
   ·show jQ (by simpa using e) h
theorem r5{α:Type}{l:List Str}{vs:List α}(hl:l.length=vs.length)(hn:l.Nodup):l.filterMap (λn=>((l.zip vs).lookup n).map (n,·))=l.zip vs:=by
 induction l generalizing vs with
 |nil=>simp
 |cons a l ih=>
  cases vs with
  |nil=>simp at hl
  |cons v vs=>
   rw[adm]
   simp only[adx,Ϗ,beq_self_eq_true,afr]
   have lU:=Ϡ.mp hn
   have gR:∀(m:List Str),(∀n∈m,n≠a)->m.filterMap (λn=>((match n==a with|true=>À v|false=>(l.zip vs).lookup n):Option α).map (n,·))=m.filterMap (λn=>((l.zip vs).lookup n).map (n,·)):=by
    intro m hm
    induction m with
    |nil=>rfl
    |cons b m ihm=>
     have hb:(b==a)=Ê:=by simpa using hm b G'
     rw[adm,adm,hb,ihm λn hn=>hm n (J' _ hn)]
   show congrArg (List.cons (a,v)) ((gR l (λn hn e=>lU.1 (e▸hn))).trans (ih (by simpa using hl) lU.2))
def tI(name:Str)(qual:Str)(as:List Arg)(body:FuncBody)(scope:à)(gl:È)(clo:List (Str×È))(kwd:Ä)(doc:Ä)(pm:Ä)(an:Option È)(code:Ä)(ct:Ä)(bl:È)(ci:List Ä):Prop:=∀(hl:ci.length=as.length) (hn:(as.map (·.arg)).Nodup),bindArgs ⟨name,qual,⟨[],as,Ã,[],[],Ã,[]⟩,body,scope,gl,clo,.none,kwd,doc,pm,an,code,ct,bl⟩ ⟨ci,[]⟩=pure ((as.map (·.arg)).zip ci)
namespace bind0H
def kc:=hc (yh tI) (default,default,[],default,default,0,[],.none,.none,.none,Ã,.none,.none,0,[])
def name:=kc.1
def qual:=kc.2.1
def as:=kc.2.2.1
def body:=kc.2.2.2.1
def scope:=kc.2.2.2.2.1
def gl:=kc.2.2.2.2.2.1
def clo:=kc.2.2.2.2.2.2.1
def kwd:=kc.2.2.2.2.2.2.2.1
def doc:=kc.2.2.2.2.2.2.2.2.1
def pm:=kc.2.2.2.2.2.2.2.2.2.1
def an:=kc.2.2.2.2.2.2.2.2.2.2.1
def code:=kc.2.2.2.2.2.2.2.2.2.2.2.1
def ct:=kc.2.2.2.2.2.2.2.2.2.2.2.2.1
def bl:=kc.2.2.2.2.2.2.2.2.2.2.2.2.2.1
def ci:=kc.2.2.2.2.2.2.2.2.2.2.2.2.2.2
theorem kt:tI name qual as body scope gl clo kwd doc pm an code ct bl ci:=by
 intro hl hn
 have hm:(aec (λx:Arg=>x.arg) as).filter (λn=>(((aec (λx:Arg=>x.arg) as).zip ci).lookup n).isNone)=[]:=by rw[List.filter_eq_nil_iff];intro n hn;rw[jQ (by simp [hl]) hn];simp
 have hz:=r5 (l:=as.map (·.arg)) (vs:=ci) (by simp [hl]) hn;have h1:¬ ((decide (ci.length > (aec (λx:Arg=>x.arg) as).length)&&Æ)=Æ):=by simp [hl]
 have h2:¬ ((!((List.take ((aec (λx:Arg=>x.arg) as).length-0) (aec (λx:Arg=>x.arg) as)).filter (λn=>(((aec (λx:Arg=>x.arg) as).zip ci).lookup n).isNone)).isEmpty)=Æ):=by rw[ae9,ŗ,hm];decide
 have sT:((aec (λx:Arg=>x.arg) as)++[]).filterMap (λn=>(((aec (λx:Arg=>x.arg) as).zip ci).lookup n).map (n,·))=(as.map (·.arg)).zip ci:=by rw[Ľ];show hz
 show(if_neg h1).trans ?_;rw[show ∀i,List.drop i (afm (none:Option (Array Ä)) #[]).toList=[] from λi=>aeV];show(if_neg h2).trans ?_;rw[ae0];show congrArg (λb=>(pure b:Sem (List (Str×Ä)))) sT
end bind0H
theorem QV{code:Ä}:tI name qual as body scope gl clo kwd doc pm an code ct bl ci:=hk (P:=yh tI) bind0H.kt (name,qual,as,body,scope,gl,clo,kwd,doc,pm,an,code,ct,bl,ci)
theorem lO{fd:ī}{as:List Arg}(hp:fd.params=⟨[],as,Ã,[],[],Ã,[]⟩)(hd:fd.defaults=.none)(ci:List Ä)(hl:ci.length=as.length)(hn:(as.map (·.arg)).Nodup):bindArgs fd ⟨ci,[]⟩=pure ((as.map (·.arg)).zip ci):=by cases fd;cases hp;cases hd;show QV hl hn
theorem kF(hk:k x=À .local):∀(b:List (Str×Ä)) (m:Str->Option Ä),(b.map (·.1)).Nodup->bindL k b m x=match b.lookup x with|some v=>À v|none=>m x
 |[],m,_=>rfl
 |(n,v)::r,m,hn=>by
  have lU:=Ϡ.mp hn;unfold bindL;rw[kF hk r _ lU.2,Ϗ];cases hb:x==n with
  |true=>
   have:x=n:=by simpa using hb
   subst this
   have hr:r.lookup x=Ã:=by
    cases q:r.lookup x with
    |none=>rfl
    |some y=>show absurd (aeR (f:=(·.1)) (mem_of_lookup q)) lU.1
   rw[hr,if_pos hk];simp
  |false=>
   have eR:x≠n:=by simpa using hb
   cases q:r.lookup x with
   |some y=>rfl
   |none=>
    by_cases J4:k n=À .local
    ·rw[if_pos J4];simp [eR]
    ·rw[if_neg J4]
structure At(scope bT:à)(O:List (Str×Nat))(nx:Nat)(x:Str):Prop where
 kind:scope.kind=.function
 gen:scope.isGenerator=Ê
 cor:scope.isCoroutine=Ê
 kinds:∀n k,(n,k)∈scope.names->k=.local\/k=.free\/k=.globalImplicit
 uniq:∀n k,(n,k)∈scope.names->scope.names.lookup n=À k
 free:∀n,(n,NameKind.free)∈scope.names->(bT.names.lookup n=À .cell\/bT.names.lookup n=À .free)/\∃i,O.lookup n=À i
 par:scope.names.lookup x=À .local
 below:∀n i,(n,i)∈O->i<nx
 lev:f0 scope=Ê
theorem GK(h:GJ scope bT O nx x=Æ):At scope bT O nx x:=by
 simp only[GJ,Ň,Ϫ,ϡ,beq_iff_eq,decide_eq_true_eq,bne_iff_ne,ne_eq,abE,ϔ]at h
 show aP h λWo h9=>?_;show aP Wo λk51 h8=>?_;show aP k51 λk73 h7=>?_;obtain ⟨⟨⟨⟨⟨h1,h2⟩,h3⟩,h4⟩,h5⟩,h6⟩:=k73;show⟨h1,h2,h3,λn k hm=>?_,λn k hm=>h5 (n,k) hm,λn hm=>?_,h7,λn i hm=>h8 (n,i) hm,h9⟩
 ·rcases h4 (n,k) hm with (h|h)|h
  ·show .inl h
  ·show .inr (.inl h)
  ·show .inr (.inr h)
 ·show â (h6 (n,.free) hm) (λh=>?_) (λh=>?_)
  ·show absurd N h
  ·show h
theorem uP(h:dw ps=Æ)(ha:ps.args=[a]):ps=⟨[],[a],Ã,[],[],Ã,[]⟩:=by
 obtain ⟨po,as,va,ko,kd,kw,df⟩:=ps
 simp only[dw,Ň,Ų,ab3]at h
 show aP h λWp h6=>?_;show aP Wp λk53 h5=>?_;show aP k53 λk75 h4=>?_;obtain ⟨⟨h1,h2⟩,h3⟩:=k75
 simp only at ha h1 h2 h3 h4 h5 h6
 subst ha h1 h2 h3 h4 h5 h6;rfl
section
variable{A:Ñ}{E:Ä->Å->Prop}{J:List È}{H:ag}{s:Å}{Z:Env}{O:List (Str×Nat)}{U:aM}
theorem ak.notCode(R:ak gg J H h)(x:lI h d q):d∉J:=λhm=>by
 obtain ⟨i,hi,rfl⟩:=ab'.mp hm;have h1:J[i]?=À J[i]:=N' hi;have jZ:i<H.length:=R.len▸hi;obtain ⟨m,h2⟩:∃m,H[i]?=À m:=⟨_,N' jZ⟩;show JA x λo vs t ho hc hd z=>?_;generalize J[i]=a at h1 ho;have mr:=R.objs i a m h1 h2;apply MR.el mr
 case lst=>intro _ _ hl _ _;show ä hl λn e=>?_;rw[e]at ho;cases ho;cases hd
 case di=>intro _ _ hx _ _;show JA hx λo' es ep e z kg z=>?_;rw[e]at ho;cases ho;show nomatch hd.symm.trans kg
 case ds=>intro _ _ hx _ _;show JA hx λo' es ep e z kg z=>?_;rw[e]at ho;cases ho;show nomatch hd.symm.trans kg
 case own=>intro _ _ e;rw[e]at ho;cases ho;cases hd
 case wd=>intro _ _ _ hn _;show tU hn λo' es ep e kg z=>?_;rw[e]at ho;cases ho;show nomatch hd.symm.trans kg
 case exn=>intro _ _ _ _ _ e ff _ _ _;rw[e]at ho;cases ho;show nomatch hc.symm.trans ff
 case tab=>intro _ _ e _ _;rw[e]at ho;cases ho;cases hc
structure LR(J:List È)(H:ag)(Z:Env)(params:ĺ)(body:Ó)(scope:à)(s:Å)(f:È)(s':Å):Prop where
 S:SE J s.heap J s'.heap
 R:ak gg J H s'.heap
 T:bP s s'
 fn:f∉J
 ob:∃pm c' Cs,s'.heap.get? f=À (kla_obj "<lambda>" (Z.qual++"<lambda>") params body scope (dD Z scope.names []) pm c' Cs)/\lI s'.heap c' (Z.qual++"<lambda>")
theorem GM(G:fO gg cx fs mg mb)(R:ak gg J H s.heap)(F:eQ (bA A) J Z O U s.heap)(ON:f0 Z.scope=Æ)(K:At scope Z.scope O nx a.arg)(hp:params=⟨[],[a],Ã,[],[],Ã,[]⟩)
  (h:∀f s',LR J H Z params body scope s f s'->Q (.ref f) s'):É mo A (eval (.Lambda params body scope lp) Z) Q E s:=by
 show Xf (F.tab ON) λj c P KE hj AU Y8 Ve zh=>aP (R.tabs j _ P hj) λzt Wm=>?_;have Rj:P∈J:=Ĥ zt;have Xu:gg.B.get? P=Ã:=R.fresh P Rj
 have C:CodeHd s.heap c P:=by show IA (CodeHd.of Y8 Ve) λo vs UY tf Q9 Se=>?_;show Xe Se λtg inF WK tt ho r=>?_;show⟨o,vs,UY,tf,Q9,tg,inF,WK,tt,R.base _ _ (zh o ho),r⟩
 have ZQ:s.heap.Ns Û mg:=G.gns.keeps R.base
 have VE:Û≠P:=λq=>by show oS G.gns λo z z e z=>?_;rw[q,Xu]at e;show no e
 show YV G.bmain λbm ob b1 b2 b3 b4 b5 b6=>?_
 have XH:bm≠Û:=λq=>by show tU G.gns λo es ep e hd z=>?_;rw[q,e]at b3;cases b3;show nomatch hd.symm.trans b6
 have Zn:bm≠P:=λq=>by rw[q,Xu]at b3;show no b3
 have cl:=ls (Z:=Z) scope λn hn=>by obtain ⟨h1,i,hi⟩:=K.free n hn;show gm (F.cells n i hi h1) λc u hc z=>⟨c,hc⟩
 have Vv:defaultsOf params Z=([],[]):=by rw[hp];rfl
 have mr:=R.objs j P _ zt Wm;cases mr with
 |@tab _ _ ps hP ht im=>
  show kla_eval Vv (GN cl F.glob F.blt ZQ AU C hP ht (λpos cv e=>?_) VE ⟨bm,ob,b1,b2,XH,Zn,R.base _ _ b3,b4,b5,b6⟩ λc' Cs h' tk Nn f pm hk Ek TC Vs oi hcP hf ZL=>?_)
  ·show UV (im pos cv e) λc' o vs t e1 z e3 e4 e5 e6=>⟨c',e1,o,vs,t,e3,e4,e5,e6⟩
  ·have hd:∃o,h'.get? P=À o:=⟨_,Ek⟩
   have S:SE J s.heap J h':=⟨λb o e hb=>.inl (hk b o (by rintro rfl;show hb Rj) e),λb o e=>by
    by_cases hb:b=P
    ·apply ba hb;show hd
    ·show⟨o,hk b o hb e⟩,[],(Ľ _).symm,λz hm=>(nomatch hm)⟩
   have up:∀{d:È},(lI s.heap d (Z.qual++"<lambda>")\/(s.heap.get? d=Ã/\lI h' d (Z.qual++"<lambda>")))->d∉J/\lI h' d (Z.qual++"<lambda>"):=λ{d} x=>by
    show â x (λx=>?_) (λq=>aP q λx y=>?_)
    ·have hn:=R.notCode x
     show JA x λo vs t e1 e2 e3 e4=>⟨hn,o,vs,t,(S.pres _ _ e1 hn).hard (.inr ⟨e2,vs,e3⟩),e2,e3,e4⟩
    ·show⟨aW R x,y⟩
   have R':ak gg J (H.set j (.tab Z.qual)) h':=R.put zt Wm hk (.tab Ek TC λpos cv e=>by show aF (Vs pos cv e) λd h1 h2=>?_;obtain ⟨h3,o,vs,t,h4,h5,h6,h7⟩:=up h2;show⟨d,o,vs,t,h1,h3,h4,h5,h6,h7⟩) λq e=>by injection e with e;rw[e]
   have YY:H.set j (.tab Z.qual)=H:=by show ä (ģ.mp Wm) λcG e=>?_;rw[<-e];show List.set_getElem_self cG
   rw[YY]at R';show h f _ ⟨S,R',⟨N,N,N⟩,aW R hf,pm,c',Cs,ZL,(up oi).2⟩
end
section
variable{A:Ñ}{E:Ä->Å->Prop}{J:List È}{H:ag}{s:Å}{Z:Env}{O:List (Str×Nat)}{U:aM}
theorem C3(K:At scope Z.scope O nx x)(R:ak gg J H s.heap)(F:eQ (bA A) J Z O U s.heap)(hv:VR gg J s.heap v av)(hk:∀b o,s.heap.get? b=À o->bM.get? b=À o)(hL:s.heap.get? L=Ã)(hG:bM.Ns L (λy=>[(x,av)].reverse.lookup y)):
  eQ (bA (A.deeper (newEnv scope L Û (dD Z scope.names []) q (À f) cd Ã ą))) J (newEnv scope L Û (dD Z scope.names []) q (À f) cd Ã ą) (cq scope O nx [x]) (cR U nx v) bM:=by
 have hf:∀n,(n,NameKind.free)∈scope.names->∃c,Z.cells.lookup n=À c:=λn hn=>by obtain ⟨h1,i,hi⟩:=K.free n hn;show gm (F.cells n i hi h1) λc u hc k=>⟨c,hc⟩
 have S:SE J s.heap J bM:=SE.keeps _ hk
 have nY:∀{x c},(dD Z scope.names []).lookup x=À c->Z.cells.lookup x=À c/\scope.names.lookup x=À .free:=λ{x c} e=>by
  show â (kG (mem_of_lookup e)) (λq=>aP q λh1 h2=>?_) (λh1=>?_)
  ·show⟨h2,K.uniq _ _ h1⟩
  ·cases h1
 have Qp:∀{y i},nx<=i->[x][i-nx]?=À y->y=x/\i=nx:=λ{y i} h1 h2=>by
  have cG:=(ģ.mp h2).1
  simp only[acb,ad5]at cG
  have e:i-nx=0:=Ű (ϐ cG) (į _);rw[e]at h2;show⟨(Option.some.inj h2).symm,Ű (by show jL (y4 0xc3211b1010ba30212ba18081 N (iT cG) (iS _ _) (iA _ _))) (h1)⟩
 show⟨K.kind,N,N,⟨_,hG,?_⟩,?_,aW R hL,aV R hL,?_,?_,?_,λq=>?_,λe he=>â (qu he) (λhe=>?_) ((F.stk.to λL o es ep h1 h2 h3=>⟨⟨o,es,ep,hk L o h1,h2⟩,h3⟩) e)⟩
 rotate_right
 ·rw[he]
  show tU hG λo es ep ho hd k=>⟨?_,L,o,es,ep,N,ho,hd,aW R hL,aV R hL⟩;show scope.kind≠.module;rw[K.kind];show nofun
 ·intro y i w hy um ym
  show â (cu hy) (λq=>aP q λh1 h2=>?_) (λq=>aP q λh1 h2=>?_)
  ·show aP (Qp h1 h2) λq1 q2=>?_;subst q1 q2
   simp only[cR,if_true]at ym
   cases ym;show⟨av,by simp,hv.step R S⟩
  ·have e1:scope.names.lookup y=À .local:=um
   rw[K.uniq _ _ h1]at e1;cases e1
 ·intro y i hy um
  show â (cu hy) (λq=>aP q λh1 h2=>?_) (λq=>aP q λh1 h2=>?_)
  ·show aP (Qp h1 h2) λq1 q2=>?_;subst q1 q2
   exfalso
   show â um (λr=>?_) (λr=>?_)
   ·have e1:scope.names.lookup y=À .cell:=r
    rw[K.par]at e1;cases e1
   ·have e1:scope.names.lookup y=À .free:=r
    rw[K.par]at e1;cases e1
  ·obtain ⟨h3,j,hj⟩:=K.free y h1
   show fe (F.cells y i h2 h3) λc u hc OG sS=>ä (dv ((sD [] hf).2 h1 hc)) λc' ff=>?_;have My:c'=c:=by have:=(nY ff).1;rw[hc]at this;show(Option.some.inj this).symm
   subst My;show⟨c',u,ff,OG.keeps hk,λw hw=>?_⟩;have cG:=K.below _ _ (mem_of_lookup h2)
   simp only[cR,if_neg (Ł cG)]at hw
   show aF (sS w hw) λa h4 h5=>⟨a,h4,h5.step R S⟩
 ·intro y c e
  show aP (nY e) λh1 k=>Jy (F.cellF y c h1) λSf h2 h3 h4=>?_;show ä Sf λu hu=>?_;show⟨⟨u,hu.keeps hk⟩,h2,λq=>aF hu λo ho k=>?_,h4⟩;rw[show c=L from q,hL]at ho;show no ho
 ·intro y z c e1 e2
  show F.cellI y z c (nY e1).1 (nY e2).1
 ·intro y z i e1 e2
  rcases cu e1 with ⟨h1,h2⟩|⟨h1,h2⟩<;>show â (cu e2) (λq=>aP q λh3 h4=>?_) (λq=>aP q λh3 h4=>?_)
  ·show(Qp h1 h2).1.trans (Qp h3 h4).1.symm
  ·show absurd (K.below _ _ (mem_of_lookup h4)) (ľ.mpr (ň (Qp h1 h2).2.symm))
  ·show absurd (K.below _ _ (mem_of_lookup h2)) (ľ.mpr (ň (Qp h3 h4).2.symm))
  ·show F.slots y z i h2 h4
 ·rw[show (newEnv scope L Û (dD Z scope.names []) _ (À f) cd Ã ą).scope=scope from N,K.lev]at q
  show absurd q Ļ
noncomputable def G6:aw:=λz z z=>Ã
theorem u4(G:fO gg cx fs mg mb):∀(n:Nat) (e:Ó) (k:KX),Eh cx Z.scope O n e=À k->aQ A Z O e (ab G6 k.ce)
 |0,_,_,h=>no h
 |n+1,e,k,h=>by
  cases e with
  |Name x p=>
   show iq h λc i h1 h2 h=>?_;apply dM h
   have hc:c=.var i:=by
    cases c<;>first|exact no h2|skip
    show congrArg _ (sm h2)
   subst hc;show rz G h1
  |Constant c m p=>
   show ca h λi h1 h=>?_;apply dM h
   have hc:c=.int i:=by
    cases c<;>first|exact no h1|skip
    show congrArg _ (sm h1)
   apply ba hc;show oH N
  |Subscript v i p=>show iq h λa b h1 h2 h=>?_;apply dM h;show Bw (λl u st q e=>?_) (u4 G n v a h1) (u4 G n i b h2);subst e;cases n<;>show no h2
  |Tuple es m p=>
   show Bk h λx y h0 h=>iq h λa b h1 h2 h=>?_;apply dM h;apply ba (ik h0);show ti (f:=λe=>(Eh cx Z.scope O n e).bind λk=>À k.ce) (λe q=>by cases n<;>rfl) (λe c hc=>?_) ?_
   ·show ca hc λk h3 hc=>?_
    apply dM hc;show u4 G n e k h3
   ·show ((Eh cx Z.scope O n x).bind λk=>À k.ce).bind _=_
    rw[show Eh cx Z.scope O n x=À a from h1];show ((((Eh cx Z.scope O n y).bind λk=>À k.ce).bind _)).bind _=_;rw[show Eh cx Z.scope O n y=À b from h2];rfl
  |_=>show no h
theorem qM:∀{ns:List Int} {ps:List KP},o5 k i U H ns=À ps->∃kvs,dC kvs ps/\ps.map (·.2)=ns/\∀(j:Nat) (p:KP) (kv:V),ps[j]?=À p->kvs[j]?=À kv->dn k (cR U i (.int p.2)) H=À kv
 |[],ps,h=>by apply dM h;show⟨[],.nil,rfl,λj p kv h=>by simp at h⟩
 |n::ns,ps,h=>by
  show iq h λv l h1 h2 h=>?_;show ca h λqs h3 h=>?_;apply dM h;show eK (qM h3) λkvs a1 a2 a3=>⟨v::kvs,.cons h2 a1,by rw[Œ,a2],λj p kv hp hk=>?_⟩;cases j with
  |zero=>cases hp;cases hk;show h1
  |succ j=>show a3 j p kv hp hk
theorem GL(G:fO gg cx fs mg mb)(wG:A.depth<í)(hp:params=⟨[],[a],Ã,[],[],Ã,[]⟩)(K:At scope Z.scope O nx a.arg)(Es:Eh cx scope (cq scope O nx [a.arg]) n body=À kx)
  (L:LR J H Z params body scope Ý f s) (F:eQ (bA A) J Z O U s.heap) (rZ:∀(j:Nat) (p:KP) (kv:V),ps[j]?=À p->kvs[j]?=À kv->dn kx (cR U nx (.int p.2)) H=À kv):As A J H s (.ref f) ps kvs:=by
 intro j p kv t hj MD s' S' R' T' E;show oS L.ob λpm c' Cs ho oi=>?_;have F':=F.step L.R S';have sQ:s'.heap.get? f=À (kla_obj "<lambda>" (Z.qual++"<lambda>") params body scope (dD Z scope.names []) pm c' Cs):=(S'.pres _ _ ho L.fn).of λes ep q=>nomatch q;have Rr:=L.R.notCode oi
 have Vo:lI s'.heap c' (Z.qual++"<lambda>"):=by show JA oi λo vs u e1 e2 e3 e4=>⟨o,vs,u,(S'.pres _ _ e1 Rr).hard (.inr ⟨e2,vs,e3⟩),e2,e3,e4⟩
 have zm:s'.heap.NoLimit:=G.nolimit.keeps R'.base;show ř (kla_callFunE (body:=body) wG sQ N K.cor K.gen N Vo.rec ?_);rw[lO (as:=[a]) hp N [.int p.2 t] N (Ϡ.mpr ⟨(λh=>nomatch h),adE⟩)];show Ç (wpAny_newFunctionEnv (λx hx e=>?_) (λx hx=>?_) (λbM hG X0=>⟨zm.fresh _ X0,kla_codeExpr ?_⟩) K.kind)
 ·rcases K.kinds x.1 x.2 hx with q|q|q<;>(rw[e]at q;cases q)
 ·rcases ċ.mp hx with rfl|hx
  ·show K.par
  ·show nomatch hx
 have jf:∀b o,s'.heap.get? b=À o->bM.get? b=À o:=λb o e=>X0.extBut b o (Ł (Ő e)) (O' _ e);have FL:=C3 (f:=f) (q:=Z.qual++"<lambda>"++".<locals>.") (cd:=.ref c') (v:=.int p.2) (av:=.int p.2 t) K R' F' (.int _ _) jf (aG _) hG;have ay:ak gg J H bM:=R'.keeps jf;have he:=kb (Á:=G6) (rZ j p kv hj MD);show Ï (u4 (A:=A.deeper _) G n body kx Es _ _ _ _ he J {s' with heap:=bM,toks:=_} ay FL _) (λv da hq=>bD.el hq λaR dg bw dH gr=>?_) λz z x=>x;show aF dg.ext λu q2 z=>?_;subst q2
 have hu:u=[]:=by have h1:=bw.len;have h2:=R'.len;rw[Ā]at h1;show ϶.mp (Ű (by show jL (y4 0xc08312b1013b1213ba320 N (iE h1) (iE h2) (iA _ _))) (į _))
 subst hu;rw[Ľ]at dg bw dH;show⟨SE.trans (SE.keeps _ jf) dg,bw,bP.trans ⟨N,N,N⟩ gr,dH⟩
end
section
variable{A:Ñ}{E:Ä->Å->Prop}{J:List È}{H:ag}{s:Å}{Z:Env}{O:List (Str×Nat)}{U:aM}{Á:aw}{d:Nat}
def Ug(A:Ñ)(J:List È)(H:ag)(xs:List V)(a:Ä)(Ì:Å):Prop:=
 ∀(s':Å),SE J Ì.heap J s'.heap->ak gg J H s'.heap->∀ns,cH xs=À ns->ns.length<=10000000->∀(E:Ä->Å->Prop) (Q:List Ä->Å->Prop),
  (∀h' tk vs,(∀b o,s'.heap.get? b=À o->h'.get? b=À o)->ñ vs ns->Q vs {s' with heap:=h',toks:=tk})->É mo A.in1 (collect a) Q E s'
theorem rt:∀(l:List Nat),cH (l.map λ(i:Nat)=>V.int (a+(i:Int)*c))=À (l.map λ(i:Nat)=>a+(i:Int)*c)
 |[]=>rfl
 |i::l=>by show (cH (l.map λ(i:Nat)=>V.int (a+(i:Int)*c))).bind _=_;rw[rt l];rfl
theorem Lj(hA:iM A d)(G:fO gg cx fs mg mb)(hs:∀e p,f (.Starred e p)=Ã)(cY:∀e c,f e=À c->aQ A Z O e (ab Á c))(h:Eg f cx Z.scope x=À it)(ho:Sa it=Æ)
  (r1:cE Á it U H=À (xs,w,Î)) (hw:BA it w=Æ) (R:ak gg J H s.heap) (F:eQ (bA A) J Z O U s.heap)
  (k:∀a Ì aj,SE J s.heap aj Ì.heap->bP s Ì->ak gg aj Î Ì.heap->eQ (bA A) aj Z O U Ì.heap->Ug A aj Î xs a Ì->Q a Ì):É mo A (eval x Z) Q E s:=by
 cases it with
 |ex c=>
  have hx:aQ A Z O x (ab Á c):=(tL _ h).elim (λq=>aF q λc' e hc=>cY _ _ (hc.trans (congrArg Wn e).symm)) λq=>q.elim (λq=>P2 q λz z z z q=>absurd (congrArg TP q.1) afu) λq=>absurd q.symm (acd 1);show dI (show cg (ab Á c U H) (λx Î=>(pc Î x).bind λp=>À (p.1,p.2,Î))=_ from r1) λv Ü h1 r1=>?_;show Bk r1 λYu w' h2 r1=>?_;show io (Nx r1) λq1 q2 q3=>?_;subst q1 q2 q3;show hx.bind h1 R F λa Ì aj S T ay a0 be=>k a Ì aj S T ay a0 ?_;intro s' S' R' ns hG hz E Q hQ;have V':=be.step ay S';cases V' with
  |ref hr=>show ca (m:=lst Ü _) h2 λl' jg h2=>?_;show aP (nS h2) λq1 z=>?_;subst q1;show eK (R'.list hr jg) λvs hl hv z=>?_;have hI:=nK hG hv;show Fh hl.isList hI (by rw[hI.length];show z' hz (ab6 N)) hQ
  |tup _ _ _ _=>show aP (nS h2) λz q2=>?_;subst q2;show absurd hw Ļ
  |ro _ _ _=>show aP (nS h2) λz q2=>?_;subst q2;show absurd hw Ļ
  |none=>show no h2
  |bool _=>show no h2
  |int _ _=>show no h2
  |str _ _=>show no h2
 |rng1 c=>
  have hx:∃y p q,x=.Call (.Name ("range":Str) p) [y] [] q/\bg Z.scope ("range":Str)=Æ/\f y=À c:=(tL _ h).elim (λq=>aF q λz e z=>absurd (congrArg TP e) Nat.one_ne_zero) λq=>q.elim (λq=>UU q λy p q c' e e1 e2 e3=>⟨y,p,q,e1,e2,e3.trans (congrArg Wn e).symm⟩) λq=>absurd (ad0.inj q.symm) (acd 0);show tU hx λy p q q4 hg hy=>?_;apply ba q4;have hG:∀e q,y≠.Starred e q:=λe q e'=>by rw[e',hs]at hy;show no hy
  show oP (show mJ (ab Á c U H) (λn Î=>if gA n then À (cy 0 n 1,[],Î) else Ã)=_ from r1) λn Ü h1 r1=>?_;show dJ r1 λyl r1=>?_;show io (Nx r1) λq1 q2 q3=>?_;subst q1 q2 q3;show aP (bJ hg) λlA lB=>?_;have fv:Ø [y] Z=(Ê,eval y Z)::Ø [] Z:=jP hG;show ÿ N (cB G F R lA lB (by decide) (v:=.type "range") (by decide +kernel) (bK (.inr ⟨_,N⟩) (å ((cY _ _ hy).bind h1 R F λb Ì aj S T ay a0 be=>Ď ?_) fv) fv N));show ä (vI N be) λt1 q2=>?_;apply ba q2;have zp:Builtin.Range.small 0 n 1=Æ:=nv (by decide) (by decide) (gi yl) (by decide);show call_range_1 ?_;have hk:∀b o,Ì.heap.get? b=À o->(Ì.heap.push {cls:=.type "range",data:=.fields #[.int 0 (Ì.toks+1),.int n t1,.int 1 (Ì.toks+2)]}).get? b=À o:=λb o e=>O' _ e;have hr:=IsRange.new Ì.heap 0 n 1 (Ì.toks+1) t1 (Ì.toks+2);show k _ _ aj (S.trans (SE.keeps _ λb o e=>O' _ e)) (T.trans ⟨N,N,N⟩) (ay.keeps λb o e=>O' _ e) (a0.step ay (SE.keeps _ λb o e=>O' _ e)) ?_;intro s' S' R' ns hG hz E Q hQ;have MF:=fH 0 n 1 (by decide);have XZ:i5 0 n 1=(Builtin.Range.rangeSize 0 n 1).toNat:=Dd 0 n 1;have RK:ns=(Đ (i5 0 n 1)).map λ(i:Nat)=>(0:Int)+(i:Int)*1:=(sm ((rt _).symm.trans hG)).symm;have ch:i5 0 n 1<=10000000:=by rw[RK,H',Ŗ]at hz;show hz
  show Cp (n:=i5 0 n 1) (a:=0) (b:=n) (c:=1) hA.handled ((S'.pres _ _ (ŀ _ N) (aW ay (aG _))).of λes ep q=>nomatch q) zp (by show ņ (y3 0xc0213b1010b12 N (iE XZ) (aen _)) (y3 0xc2012b1012b21 N (iE XZ) (ϥ (y1 0xc00810b008 N MF)))) (by lia) (by rw[<-RK];show hQ)
 |_=>show absurd ho Ļ
theorem DB(hA:iM A d)(G:fO gg cx fs mg mb)(hs:∀e p,f (.Starred e p)=Ã)(cY:∀e c,f e=À c->aQ A Z O e (ab Á c))(hg:bg Z.scope ("sorted":Str)=Æ)(h:Tb (λi=>Eg f cx Z.scope i) cx Z.scope O nx as k=À c):
  aQ A Z O (.Call (.Name ("sorted":Str) p) as [k] pos) (ab Á c):=by
 show ca h λx hx h=>?_;show aF (ob h) λk1 hl h=>?_;obtain ⟨a,body,scope⟩:=k1;show dJ h λhc h=>?_;show ca h λit sP h=>?_;show dJ h λpM h=>?_;show ca h λkx Es h=>?_;apply dM h;apply ba (bZ hx)
 simp only[Ň,beq_iff_eq]at hc
 show aP hc λk2 VU=>?_;show aP k2 λAW ON=>?_;obtain ⟨ka,kv,kp⟩:=k;obtain rfl:ka=À ("key":Str):=AW;show fe (zG hl) λps lp q3 vq Rm=>?_;subst q3;have K:=GK VU;have XX:=uP vq Rm;intro U H v ae he J s R F E;show oO (show mG (cE Á it U H) (λxs w Î=>if BA it w then me kx nx U Î xs else Ã)=_ from he) λxs w Î h1 he=>?_;show dJ he λhw he=>?_;show ca he λns hG he=>?_;show aP (cZ he) λk3 he=>?_;show aP k3 λhr hz=>?_;show ca he λkps VO he=>?_;show dJ he λsR he=>?_;show io (gb he) λhzz q2 q3=>?_;apply ba q2;apply ba q3;show eK (qM VO) λkvs AW CL rZ=>?_;show aP (bJ hg) λlA lB=>?_
 have fv:Ø [x] Z=(Ê,eval x Z)::Ø [] Z:=by
  cases x with
  |Starred e q=>
   exfalso
   have:Cj f (.Starred e q)=À it:=sP;show ca this λc' ff z=>?_;rw[hs]at ff;show no ff
  |_=>rfl
 have wG:A.in1.in1.depth<í:=by
  have h1:=hA.depth;have h2:600<í:=by decide
  show A.depth<_;show jT (y4 0x1c1310b02589011b10258910b20813ba230 N (iL h1) (iT h2) (iP _) (iA _ _))
 show wpAny_Call_Name_kw (cB G F R lA lB (by decide) (v:=.builtin "sorted") (by decide +kernel) (callWith_kw (å (Lj hA G hs cY sP pM h1 hw R F λb Ì aj S T ay a0 Ur=>Ď ?_) fv) (by rw[fv];rfl) (by rw[fv];rfl)));show Â (Â (GM (a:=a) G ay a0 ON K XX λq da L=>Â (ĕ (Ç ?_))));show Â (ß (Ç (Ç ?_)));have eH:=a0.step ay L.S;show Ï (Ad (kvs:=kvs) (ps:=kps) L.R (λQ hQ=>Ur da L.S L.R ns hG hz E Q (by rw[<-CL];show hQ)) AW (by rw[CL];show hr) sR (by rw[cK AW,<-H' (f:=(·.2)),CL];show hz) (GL G wG XX K Es L eH rZ)) (λz z x=>bD.after (S.trans L.S) (T.trans L.T) x) λz z x=>x
end
end L.Lake
namespace L.Lake
open PySem PyProof.Rows PySem.Calls PySem.SeqAt
open Builtin Builtin.ObjectAttr
structure fg(h:Ô)(C C0:È)(mN mN0:Str->Option Ä):Prop where
 c:fy h C (.ref C0::jX) mN
 c0:fy h C0 jX mN0
theorem fy.keeps(X:fy h C tl mN)(hk:∀b o,h.get? b=À o->h'.get? b=À o):fy h' C tl mN:=⟨X.obj.elim λD y=>⟨D,hk _ _ y.1,y.2.keeps hk⟩,X.quiet⟩
theorem fy.el{h:Ô}{C:È}{tl:List Ä}{mN:Str->Option Ä}{P:Prop}(X:fy h C tl mN)(k:∀D:Ew,h.get? C=À (D.obj C tl)->h.Ns D.pzJ mN->P):P:=X.obj.elim λD y=>k D y.1 y.2
section
variable{A:Ñ}{E:Ä->Å->Prop}{h:Ô}{g:Array ø}{d:Drawn}{t:Nat}{os:ò}
 {C C0 x:È} {mN mN0 mA:Str->Option Ä} {name:Str} {v:Ä}
theorem wV{n:Str}{y:Option Ä}{Q:Option Ä->Å->Prop}(S:fg h C C0 mN mN0)(hB:ă (.type "ValueError") n=pure y)
  (hq:Q (match mN n with|some v=>À v|none=>match mN0 n with|some v=>À v|none=>y) ⟨h,g,d,t,os⟩):É mo A (ă (.ref C) n) Q E ⟨h,g,d,t,os⟩:=by
 show S.c.el λD hC hn=>S.c0.el λD0 JV MF=>?_
 have jN:lookupAlong jX n=pure y:=by rw[typeLookup_eq,PySem.F.excBase_ValueError.mroIs]at hB;show hB
 rw[typeLookup_eq];show Â (wpAny_mroOf_exc hC ?_);rw[lookupAlong_cons];show Â (wpAny_classOwn_exc hC hn ?_);cases hv:mN n with
 |some v=>rw[hv]at hq;show Ç hq
 |none=>
  rw[hv]at hq;show É _ _ (lookupAlong (.ref C0::jX) n) _ _ _;rw[lookupAlong_cons];show Â (wpAny_classOwn_cls JV MF ?_);cases O3:mN0 n with
  |some v=>rw[O3]at hq;show Ç hq
  |none=>rw[O3]at hq;show É _ _ (lookupAlong jX n) _ _ _;rw[jN];show Ç hq
theorem dP(S:fg h C C0 mN mN0)(hk:n∉iz)(hB:ă (.type "ValueError") n=pure y)(hq:Q y ⟨h,g,d,t,os⟩):É mo A (ă (.ref C) n) Q E ⟨h,g,d,t,os⟩:=by show wV S hB ?_;rw[S.c.quiet n hk,S.c0.quiet n hk];show hq
theorem fj(hb:jX.contains (.type X)=b):(Value.ref C::.ref C0::jX).contains (.type X)=b:=by rw[Ϝ,Ϝ,hb];rfl
end
def jw(A:Ñ)(E:Ä->Å->Prop)(h:Ô)(g:Array ø)(d:Drawn)(t:Nat)(os:ò)(C:È)(C0:È)(mN:Str->Option Ä)(mN0:Str->Option Ä)(aD:List Ä)(Q:Unit->Å->Prop):Prop:=∀(S:fg h C C0 mN mN0) (hq:Q () ⟨h,g,d,t,os⟩),É mo A (þ "ValueError.__new__" ⟨.ref C::aD,[]⟩) Q E ⟨h,g,d,t,os⟩
namespace check_newH
def kc:=hc (QF jw) ({},λz z=>True,default,#[],{},0,default,0,0,λz=>Ã,λz=>Ã,[],λz z=>True)
def A:=kc.1
def E:=kc.2.1
def h:=kc.2.2.1
def g:=kc.2.2.2.1
def d:=kc.2.2.2.2.1
def t:=kc.2.2.2.2.2.1
def os:=kc.2.2.2.2.2.2.1
def C:=kc.2.2.2.2.2.2.2.1
def C0:=kc.2.2.2.2.2.2.2.2.1
def mN:=kc.2.2.2.2.2.2.2.2.2.1
def mN0:=kc.2.2.2.2.2.2.2.2.2.2.1
def aD:=kc.2.2.2.2.2.2.2.2.2.2.2.1
def Q:=kc.2.2.2.2.2.2.2.2.2.2.2.2
theorem kt:jw A E h g d t os C C0 mN mN0 aD Q:=by
 intro S hq;show S.c.el λD hC hn=>?_;have Fn:=PySem.F.excBase_ValueError;have Rs:(Value.ref C::.ref C0::jX).contains (.type "ValueError")=Æ:=fj Fn.hasB;have hstar:=Fn.noStar;unfold þ;rw[Fn.newKind,Fn.newSplit]at ⊢;dsimp only
 repeat (first|refine Õ hC ?_|(refine á hC ?_;rw[Rs]at ⊢)|refine wpAny_staticBase_exc hC ?_|refine wpAny_madeBy_exc hC ?_|rw[Fn.newRow]at ⊢|simp only[bne_self_eq_false,abY,if_false]|wp_step)
 show hq
end check_newH
theorem Cm{os:ò}:jw A E h g d t os C C0 mN mN0 aD Q:=hk (P:=QF jw) check_newH.kt (A,E,h,g,d,t,os,C,C0,mN,mN0,aD,Q)
def mO(A:Ñ)(h:Ô)(g:Array ø)(d:Drawn)(t:Nat)(os:ò)(C:È)(C0:È)(mN:Str->Option Ä)(mN0:Str->Option Ä)(aD:List Ä)(R:Result->Å->Prop):Prop:=∀(S:fg h C C0 mN mN0) (jN:aD.length<=ê) (hq:R (.ok (.ret (.ref (h.objs.size+1)))) ⟨(h.push {cls:=.type "tuple",data:=.seq aD.toArray}).push {cls:=.ref C,data:=.fields #[.ref h.objs.size,.none,.none,.none,.bool Ê,.none]},g,d,t,os⟩),Ğ mo A (.builtin "ValueError.__new__" ⟨.ref C::aD,[]⟩) R ⟨h,g,d,t,os⟩
namespace exc_newH
def kc:=hc (NZ mO) ({},default,#[],{},0,default,0,0,λz=>Ã,λz=>Ã,[],λz z=>True)
def A:=kc.1
def h:=kc.2.1
def g:=kc.2.2.1
def d:=kc.2.2.2.1
def t:=kc.2.2.2.2.1
def os:=kc.2.2.2.2.2.1
def C:=kc.2.2.2.2.2.2.1
def C0:=kc.2.2.2.2.2.2.2.1
def mN:=kc.2.2.2.2.2.2.2.2.1
def mN0:=kc.2.2.2.2.2.2.2.2.2.1
def aD:=kc.2.2.2.2.2.2.2.2.2.2.1
def R:=kc.2.2.2.2.2.2.2.2.2.2.2
theorem kt:mO A h g d t os C C0 mN mN0 aD R:=by
 intro S jN hq;show S.c.el λD hC hn=>?_;have Fn:=PySem.F.excBase_ValueError;have hends:=Fn.ends;have zh:(Value.ref C::.ref C0::jX).contains (.type "ValueError")=Æ:=fj Fn.hasB;have Zt:(Value.ref C::.ref C0::jX).contains (.type "AttributeError")=Ê:=fj Fn.noAttr;have Zw:(Value.ref C::.ref C0::jX).contains (.type "NameError")=Ê:=fj Fn.noName;show codeAny_builtinAt Fn.entry ?_;unfold Ē.«BaseException.__new__»;show PySem.wpAt_bind ?_;show PySem.wpAt _ _ _ (stack>>=_) _ _ _;show PySem.wpAt_bind (PySem.wpAt_stack λp below=>PySem.wpAt_of_wpAny ?_)
 wp_walk
 show PySem.wpAt_of_wpAny ?_;rw[Fn.owner]
 repeat (first|with_reducible refine wpAny_madeHere_exc Fn.canon hC ?_|with_reducible refine Õ hC ?_|(with_reducible refine á hC ?_;first|rw[zh]|rw[Zt]|rw[Zw])|wp_step)
 show R _ _;rw[ϕ];show hq
end exc_newH
theorem JJ{A:Ñ}{h:Ô}{g:Array ø}{d:Drawn}{t:Nat}{os:ò}{C:È}{C0:È}{mN:Str->Option Ä}{mN0:Str->Option Ä}{aD:List Ä}{R:Result->Å->Prop}:mO A h g d t os C C0 mN mN0 aD R:=hk (P:=NZ mO) exc_newH.kt (A,h,g,d,t,os,C,C0,mN,mN0,aD,R)
section
variable{A:Ñ}{E:Ä->Å->Prop}{h:Ô}{g:Array ø}{d:Drawn}{t:Nat}{os:ò}
 {C C0 x:È} {mN mN0 mA:Str->Option Ä} {name:Str} {v:Ä}
theorem fg.keeps(S:fg h C C0 mN mN0)(hk:∀b o,h.get? b=À o->h'.get? b=À o):fg h' C C0 mN mN0:=⟨S.c.keeps hk,S.c0.keeps hk⟩
end
def jI(A:Ñ)(E:Ä->Å->Prop)(h:Ô)(g:Array ø)(d:Drawn)(t:Nat)(os:ò)(C:È)(C0:È)(mN:Str->Option Ä)(mN0:Str->Option Ä)(aD:List Ä)(fI:È)(oI:Obj)(Q:PySem.Fin->Å->Prop):Prop:=∀(S:fg h C C0 mN mN0) (h1:mN ("__init__":Str)=Ã) (h2:mN0 ("__init__":Str)=À (.ref fI)) (Tr:h.get? fI=À oI) (Ts:oI.cls=.type "function") (jN:aD.length<=ê) (hq:∀h' e,Heap.MadeExcOf h h' e (.ref C) aD->É mo A (Á (.ref fI) (.ref e::aD)) (λr s'=>r=.none/\Q (.done (.ret (.ref e))) s') E ⟨h',g,d,t,os⟩),É mo A (Ē.«type.__call__» ⟨.ref C::aD,[]⟩) Q E ⟨h,g,d,t,os⟩
namespace type_callH
def kc:=hc (yh jI) ({},λz z=>True,default,#[],{},0,default,0,0,λz=>Ã,λz=>Ã,[],0,default,λz z=>True)
def A:=kc.1
def E:=kc.2.1
def h:=kc.2.2.1
def g:=kc.2.2.2.1
def d:=kc.2.2.2.2.1
def t:=kc.2.2.2.2.2.1
def os:=kc.2.2.2.2.2.2.1
def C:=kc.2.2.2.2.2.2.2.1
def C0:=kc.2.2.2.2.2.2.2.2.1
def mN:=kc.2.2.2.2.2.2.2.2.2.1
def mN0:=kc.2.2.2.2.2.2.2.2.2.2.1
def aD:=kc.2.2.2.2.2.2.2.2.2.2.2.1
def fI:=kc.2.2.2.2.2.2.2.2.2.2.2.2.1
def oI:=kc.2.2.2.2.2.2.2.2.2.2.2.2.2.1
def Q:=kc.2.2.2.2.2.2.2.2.2.2.2.2.2.2
theorem kt:jI A E h g d t os C C0 mN mN0 aD fI oI Q:=by
 intro S h1 h2 Tr Ts jN hq;show S.c.el λD hC hn=>?_;have Fn:=PySem.F.excBase_ValueError
 repeat (first|with_reducible refine Õ hC ?_|with_reducible refine wpAny_madeBy_exc hC ?_|wp_step)
 show codeAny_call_builtin_code (Code.quiet_builtin _ Fn.quiet) (Cm S (JJ S jN ?_));show É _ _ _ _ _ _;have kp:∀b o,h.get? b=À o->((h.push {cls:=.type "tuple",data:=.seq aD.toArray}).push {cls:=.ref C,data:=.fields #[.ref h.objs.size,.none,.none,.none,.bool Ê,.none]}).get? b=À o:=λb o e=>O' _ (O' _ e);have iR:=S.keeps kp;have Rg:=kp _ _ hC;have OH:=kp _ _ Tr
 have RB:((h.push {cls:=.type "tuple",data:=.seq aD.toArray}).push
   {cls:=.ref C,data:=.fields #[.ref h.objs.size,.none,.none,.none,.bool Ê,.none]}).get? (h.objs.size+1)=À
   {cls:=.ref C,data:=.fields #[.ref h.objs.size,.none,.none,.none,.bool Ê,.none]}:=by heap_get
 have Vm:(Value.ref C::.ref C0::jX).contains (.ref C)=Æ:=by simp
 unfold isInstance
 repeat (first|with_reducible refine Õ RB ?_|(with_reducible refine á Rg ?_;rw[Vm])|wp_step)
 show É _ _ (ă (.ref C) _) _ _ _;show wV iR Fn.init.lookup ?_;rw[h1,h2];show ß (Â ?_);unfold bindSpecial;show Â (Ş (T := "function") ⟨_,OH,Ts⟩ ?_);rw[if_pos (by decide)];show Ç (Â (Ï (hq _ (h.objs.size+1) ⟨kp,abJ (ϓ _),h.objs.size,RB,abJ (ē _),?_⟩) (λr s' hr=>?_) λz z x=>x))
 ·show O' _ (afd N N)
 ·show aP hr λq1 hQ=>?_;apply ba q1
  wp_walk
  show hQ
end type_callH
theorem DR{os:ò}:jI A E h g d t os C C0 mN mN0 aD fI oI Q:=hk (P:=yh jI) type_callH.kt (A,E,h,g,d,t,os,C,C0,mN,mN0,aD,fI,oI,Q)
section
variable{A:Ñ}{E:Ä->Å->Prop}{h:Ô}{g:Array ø}{d:Drawn}{t:Nat}{os:ò}
 {C C0 x:È} {mN mN0 mA:Str->Option Ä} {name:Str} {v:Ä}
theorem Fc{aD:List Ä}{fI:È}{oI:Obj}{Q:Ä->Å->Prop}(S:fg h C C0 mN mN0)(h1:mN ("__init__":Str)=Ã)(h2:mN0 ("__init__":Str)=À (.ref fI))(Tr:h.get? fI=À oI)(Ts:oI.cls=.type "function")(jN:aD.length<=ê)
  (hq:∀h' e,Heap.MadeExcOf h h' e (.ref C) aD->É mo (A.under (.builtin "type.__call__" ⟨.ref C::aD,[]⟩)) (Á (.ref fI) (.ref e::aD)) (λr s'=>r=.none/\Q (.ref e) s') E ⟨h',g,d,t,os⟩) :
  É mo A (Á (.ref C) aD) Q E ⟨h,g,d,t,os⟩:=by
 show S.c.el λD hC hn=>?_;have f1:=tc_lookup;have f2:=tc_bind (.ref C);have hT:(⟨h,g,d,t,os⟩:Å).TypeIs (.ref C) "type" := ⟨_,hC,N⟩;show ř (codeAny_of_tree ?_);show É _ _ (callAny (.ref C) _) _ _ _
 repeat (any_goals (first|assumption|with_reducible refine Õ hC ?_|wp_step))
 show⟨N,(codeAny_call_builtin_at (Code.quiet_builtin _ (by decide +kernel)) entry_typeCall (wpAny_check_type_call_sub hC (DR S h1 h2 Tr Ts jN λh' e hm=>hq h' e hm)))⟩
end
open Builtin Builtin.ObjectAttr
theorem Bd:ă (.type "ValueError") ("word":Str)=pure Ã:=by rw[ł,Ĝ];kernel_rfl
theorem Bi:("word":Str)∉iz:=by decide +kernel
theorem Pt:("__setattr__":Str)∉iz:=by decide +kernel
section
variable{A:Ñ}{E:Ä->Å->Prop}{h:Ô}{g:Array ø}{d:Drawn}{t:Nat}{os:ò}
 {C C0 x:È} {mN mN0:Str->Option Ä} {v:Ä} {vs:Array Ä} {sl:Array (Option Ä)}
def EH(h:Ô)(x C:È)(vs:Array Ä)(sl:Array (Option Ä))(v:Ä)(h':Ô):Prop:=
 ∃D,h'.get? x=À {cls:=.ref C,dict:=À D,data:=.fields vs,slots:=sl}/\h'.Ns1 D (λy=>if y=("word":Str) then À v else Ã)/\h.get? D=Ã/\∀b ob,b≠x->h.get? b=À ob->h'.get? b=À ob
end
def jD(A:Ñ)(E:Ä->Å->Prop)(h:Ô)(g:Array ø)(d:Drawn)(t:Nat)(os:ò)(C:È)(C0:È)(x:È)(mN:Str->Option Ä)(mN0:Str->Option Ä)(v:Ä)(vs:Array Ä)(sl:Array (Option Ä))(tk:Tok)(o:Obj)(Q:PySem.Fin->Å->Prop):Prop:=∀(S:fg h C C0 mN mN0) (hx:h.get? x=À o) (hc:o.cls=.ref C) (Rw:o.dict=Ã) (Tq:o.data=.fields vs) (sR:o.slots=sl) (hq:∀h' Lw,EH h x C vs sl v h'->Q (.done (.ret .none)) ⟨h',g,d,Lw,os⟩),É mo A (Ē.«object.__setattr__» ⟨[.ref x,.str "word" tk,v],[]⟩) Q E ⟨h,g,d,t,os⟩
namespace set_entryH
def kc:=hc (U2 λb0=>U2 λb1=>U2 λb2=>yh (jD b0 b1 b2)) ({},λz z=>True,default,#[],{},0,default,0,0,0,λz=>Ã,λz=>Ã,.none,#[],#[],default,default,λz z=>True)
def A:=kc.1
def E:=kc.2.1
def h:=kc.2.2.1
def g:=kc.2.2.2.1
def d:=kc.2.2.2.2.1
def t:=kc.2.2.2.2.2.1
def os:=kc.2.2.2.2.2.2.1
def C:=kc.2.2.2.2.2.2.2.1
def C0:=kc.2.2.2.2.2.2.2.2.1
def x:=kc.2.2.2.2.2.2.2.2.2.1
def mN:=kc.2.2.2.2.2.2.2.2.2.2.1
def mN0:=kc.2.2.2.2.2.2.2.2.2.2.2.1
def v:=kc.2.2.2.2.2.2.2.2.2.2.2.2.1
def vs:=kc.2.2.2.2.2.2.2.2.2.2.2.2.2.1
def sl:=kc.2.2.2.2.2.2.2.2.2.2.2.2.2.2.1
def tk:=kc.2.2.2.2.2.2.2.2.2.2.2.2.2.2.2.1
def o:=kc.2.2.2.2.2.2.2.2.2.2.2.2.2.2.2.2.1
def Q:=kc.2.2.2.2.2.2.2.2.2.2.2.2.2.2.2.2.2
set_option tactic.hygienic true in
theorem kt:jD A E h g d t os C C0 x mN mN0 v vs sl tk o Q:=by
 intro S hx hc Rw Tq sR hq;show S.c.el λD hC hn=>?_;have SF:=PySem.F.store_ValueError;have RR:refuseLoop (.ref x) "__setattr__" jX=pure ():=SF.passes (.ref x);unfold Ē.«object.__setattr__»
 repeat (first|rw[refuse_eq]|(rw[refuseLoop_ref,refuseLoop_ref,RR])|(with_reducible refine Õ hx ?_;rw[hc])|with_reducible refine wpAny_mroOf_exc hC ?_|with_reducible refine dP S Bi Bd ?_|wp_step)
 rw[Rw,if_neg (by simp [typeHasDict])];split
 ·rename_i oi
  show no oi
 split
 ·rename_i c oi
  show nomatch Tq.symm.trans oi
 have MS:(h.push {cls:=.type "dict",data:=.dict #[]}).get? x=À o:=O' _ hx;have TJ:x≠h.objs.size:=Ł (Ő hx);show Â (wpAny_alloc' (Â (wpAny_update' MS (Ç ?_))))
 have ZN:((h.push {cls:=.type "dict",data:=.dict #[]}).update x λo=>{cls:=o.cls,dict:=À h.objs.size,data:=o.data,slots:=o.slots}).get? h.objs.size
   = À {cls:=.type "dict",data:=.dict #[]}:=(aeS _ _ _ _ TJ.symm).trans (afd N N)
 have MG:((h.push {cls:=.type "dict",data:=.dict #[]}).update x λo=>{cls:=o.cls,dict:=À h.objs.size,data:=o.data,slots:=o.slots}).Ns h.objs.size (λ_=>Ã):=
  ⟨_,#[],_,ZN,rfl,λe he=>absurd he (by simp),λ_=>rfl⟩
 show É _ _ (storeInDict h.objs.size (.str "word" tk) "word" v) _ _ _;unfold storeInDict newKeyGuard;show Â (Ç (Â (wpAny_nsSet1 (Heap.Ns1.of_empty MG) λh' lU hs=>tU (lU.count (Within.cons ("word":Str) v Within.nil)) λoD esD epD Z7 ZA Zu=>Â (wpAny_lookBehind Z7 (by rw[ZA];show pastItsLine_dict (z' Zu (by rw[acb,ad5,sizeLine_eq];show jL (y2 0xc1012ba1808013ba1800000000000001000000d1 N (iA _ _) (iA _ _))))) ?_))))
 wp_walk
 show hq h' _ ⟨h.objs.size,?_,lU,abJ (ē _),λb ob Zs hb=>?_⟩
 ·show(hs.2 x TJ).trans ((ϣ _ MS ?_).trans ?_)
  ·show Obj.isFreed_of_fields Tq
  ·rw[hc,Tq,sR]
 ·show(hs.2 b (Ł (Ő hb))).trans ((aeS _ _ _ _ Zs).trans (O' _ hb))
end set_entryH
theorem Dk{os:ò}:jD A E h g d t os C C0 x mN mN0 v vs sl tk o Q:=hk (P:=U2 λb0=>U2 λb1=>U2 λb2=>yh (jD b0 b1 b2)) set_entryH.kt (A,E,h,g,d,t,os,C,C0,x,mN,mN0,v,vs,sl,tk,o,Q)
section
variable{A:Ñ}{E:Ä->Å->Prop}{h:Ô}{g:Array ø}{d:Drawn}{t:Nat}{os:ò}
 {C C0 x:È} {mN mN0:Str->Option Ä} {v:Ä} {vs:Array Ä} {sl:Array (Option Ä)}
theorem Fe(S:fg h C C0 mN mN0)(hx:h.get? x=À o)(hc:o.cls=.ref C)(hq:Q () ⟨h,g,d,t,os⟩):É mo A (þ "object.__setattr__" ⟨[.ref x,nameV,v],[]⟩) Q E ⟨h,g,d,t,os⟩:=by
 show S.c.el λD hC hn=>?_;have SF:=PySem.F.store_ValueError;have zh:(Value.ref C::.ref C0::jX).contains (.type "object")=Æ:=fj SF.hasOwner;have ha:=SF.args (.ref x) nameV v
 simp only[þ,SF.kind,SF.split]
 show Â ?_
 ·unfold isInstance
  repeat (first|(with_reducible refine Õ hx ?_;rw[hc])|(with_reducible refine á hC ?_;rw[zh])|wp_step)
  show hq
theorem Hr(S:fg h C C0 mN mN0)(hx:h.get? x=À {cls:=.ref C,data:=.fields vs,slots:=sl})
  (hq:∀h' Lw,EH h x C vs sl v h'->Q () ⟨h',g,d,Lw,os⟩):É mo A (setAttr (.ref x) "word" v) Q E ⟨h,g,d,t,os⟩:=by
 have SF:=PySem.F.store_ValueError;have f3:=SF.slot.bind (.ref x);unfold setAttr callSpecial? specialOf
 repeat (any_goals (first|assumption|with_reducible refine Õ hx ?_|with_reducible refine dP S Pt SF.slot.lookup ?_|wp_step))
 show č SF.slot.plain SF.entry (Fe S hx N (Dk (sl:=sl) S hx N N N N λh' Lw W=>?_))
 repeat (any_goals (first|assumption|wp_step))
 show hq h' Lw W
end
section
variable{A:Ñ}{E:Ä->Å->Prop}{s:Å}{C C0 e f:È}{mN mN0:Str->Option Ä}{v:Ä}{vs:Array Ä}
theorem CN(I:iO s.heap f)(wG:A.depth<í)(zm:s.heap.NoLimit)(S:fg s.heap C C0 mN mN0)(hx:s.heap.get? e=À {cls:=.ref C,data:=.fields vs})
  (hq:∀h' Lw,(∃D,h'.get? e=À {cls:=.ref C,dict:=À D,data:=.fields vs}/\h'.Ns1 D (λy=>if y=("word":Str) then À v else Ã)/\s.heap.get? D=Ã/\∀b ob,b≠e->s.heap.get? b=À ob->h'.get? b=À ob)->Q .none {s with heap:=h',toks:=Lw}) :
  É mo A (Á (.ref f) [.ref e,v]) Q E s:=by
 show Ej I.ex λo fd a1 a2 ho IO oi=>P2 IO.init λp1 p2 p3 p4 hb=>?_;have Ro:bindArgs fd ⟨[.ref e,v],[]⟩=pure ((([a1,a2].map (·.arg))).zip [.ref e,v]):=lO IO.params IO.df [.ref e,v] N (by rw[Œ,Œ,IO.n1,IO.n2];decide);have OE:bindArgs fd ⟨[.ref e,v],[]⟩=pure [(("self":Str),.ref e),(("word":Str),v)]:=by rw[Ro,Œ,Œ,IO.n1,IO.n2];rfl
 have M7:fd.scope.names.lookup ("self":Str)=À .local:=by rw[IO.names];decide
 have M8:fd.scope.names.lookup ("word":Str)=À .local:=by rw[IO.names];decide
 show ř (codeAny_call_cells wG ho IO.data zm oi hb OE IO.clo (λx hx=>?_) (λÌ x=>?_) IO.co IO.gen IO.kind)
 ·rcases ċ.mp hx with rfl|hx
  ·show .inl M7
  ·rw[W'.mp hx];show .inl M8
 ·have keep:=x.toInCall.keep
  show mM x.toInCall.same λbM pn Gm=>?_;have k1:(Ī fd s.heap.objs.size f).kindOf ("self":Str)=À .local:=M7;have k2:(Ī fd s.heap.objs.size f).kindOf ("word":Str)=À .local:=M8;have nd:([(("self":Str),Value.ref e),(("word":Str),v)].map (·.1)).Nodup:=by show (["self","word"]:List Str).Nodup;decide
  show ü (plainObj_wpAny_Assign_Attribute (NameLC x IO.kind k2 (v:=v) (by rw[kF k2 _ _ nd];rfl) (NameLC x IO.kind k1 (v:=.ref e) (by rw[kF k1 _ _ nd];rfl) ?_ (by decide)) (by decide)));subst Gm;show Hr (h:=bM) (S.keeps keep) (keep _ _ hx) λh' Lw W=>vo W λD w1 w2 w3 w4=>ġ (hq h' Lw ⟨D,w1,w2,fZ keep w3,λb ob hb Vl=>w4 b ob hb (keep b ob Vl)⟩)
end
def P0(f:Ä):Prop:=f=.none
def PL(L:È)(f:Ä):Prop:=f=.none\/f=õ L
structure YF where
 T:È
 o:Obj
 ts:Array Ä
 f:Ä
structure Uj(J:List È)(aY h:Ô)(P:Ä->Prop)(e:È)(vs:Array Ä)(d:YF):Prop where
 v:vs[1]?=À (.ref d.T)
 ne:d.T≠e
 ho:h.get? d.T=À d.o
 cls:d.o.cls=.type "traceback"
 data:d.o.data=.fields d.ts
 f:d.ts[3]?=À d.f
 p:P d.f
 T0:aY.get? d.T=Ã
 Tφ:d.T∉J
def Ui(J:List È)(aY h:Ô)(ď:Prop)(P:Ä->Prop)(e:È)(vs:Array Ä):Prop:=(ď/\vs[1]?=À .none)\/∃d,Uj J aY h P e vs d
structure XD where
 vs:Array Ä
 D:È
 m:Str->Option Ä
 t:Tok
 sl:Array (Option Ä)
abbrev XD.obj(x:XD)(c:Nat):Obj:={cls:=.ref (gg.cls c),dict:=À x.D,data:=.fields x.vs,slots:=x.sl}
structure XB(J:List È)(aY h:Ô)(e:È)(c:Nat)(w:Str)(x:XD):Prop where
 he:h.get? e=À (x.obj c)
 hsz:1<x.vs.size
 hD:h.Ns x.D x.m
 hm:x.m ("word":Str)=À (.str w x.t)
 D0:aY.get? x.D=Ã
 Dφ:x.D∉J
structure XF(J:List È)(aY h:Ô)(ď:Prop)(P:Ä->Prop)(e:È)(c:Nat)(w:Str)(x:XD):Prop where
 b:XB J aY h e c w x
 tb:Ui J aY h ď P e x.vs
structure S7(J:List È)(aY h:Ô)(ď:Prop)(P:Ä->Prop)(e:È)(c:Nat)(w:Str):Prop where
 ex:∃x,XF J aY h ď P e c w x
 e0:aY.get? e=Ã
 eφ:e∉J
 eB:gg.B.get? e=Ã
section
variable{A:Ñ}{E:Ä->Å->Prop}{J:List È}{H:ag}{s:Å}{aY:Ô}{P:Ä->Prop}{e L:È}{c:Nat}{w:Str}{Z:Env}
theorem ak.same(R:ak gg J H h)(hB:∀b o,gg.B.get? b=À o->h.get? b=À o->h'.get? b=À o)(zt:∀a o,a∈J->h.get? a=À o->h'.get? a=À o)(hH:∀b o,h.get? b=À o->j3 o->b∉J->h'.get? b=À o):ak gg J H h':=
 ⟨λb o e=>hB b o e (R.base b o e),R.fresh,R.len,R.nodup,λi a m h1 h2=>(R.objs i a m h1 h2).stepT (λz z e=>e) (λb o e hh hn=>⟨hH b o e hh hn,hn⟩) λo e=>zt a o (Ĥ h1) e,R.tabs⟩
structure yi(aY h h':Ô)(e:È):Prop where
 old:∀b o,h.get? b=À o->aY.get? b≠Ã->gJ h' b o
 dom:∀b o,h.get? b=À o->∃o',h'.get? b=À o'
theorem yi.trans(x:yi aY h h' e)(y:yi aY h' qE e):yi aY h qE e:=
 ⟨λb o e h0=>(x.old b o e h0).then λo' e'=>y.old b o' e' h0,λb o e=>by show ä (x.dom b o e) λo' e'=>?_;show y.dom b o' e'⟩
def T8(fr:List Env)(aY:Ô):Prop:=∀f∈fr,∀L,f.frame=À L->aY.get? L≠Ã
noncomputable def FP(fr:List Env):List È:=fr.filterMap (·.frame)
theorem AR(h:L∈FP (bA A)):∃f∈(bA A),f.frame=À L:=by show aF (acG.mp h) λf hf hl=>⟨f,hf,hl⟩
theorem r6.at(F:r6 (bA A) J h)(hL:L∈FP (bA A)):∃o es ep,h.get? L=À o/\o.data=.dict es ep/\L∉J/\gg.B.get? L=Ã:=by show aF (AR hL) λf hf hl=>?_;obtain ⟨_,L',o,es,ep,k2,k3,k4,k5,k6⟩:=F f hf;rw[hl]at k2;cases k2;show⟨o,es,ep,k3,k4,k5,k6⟩
theorem zd(F:r6 (bA A) J h)(hb:∀L∈FP (bA A),base.get? L=Ã):h.FunFrames base (bA A):=by
 unfold r6 FP at *;generalize bA A=l at F hb ⊢
 induction l with
 |nil=>trivial
 |cons f r ih=>obtain ⟨k1,L,o,es,ep,k2,k3,k4,_,_⟩:=F f G';show⟨k1,⟨L,o,k2,hb L (acG.mpr ⟨f,G',k2⟩),k3,λvs q=>nomatch k4.symm.trans q⟩,ih (λf hf=>F f (J' _ hf)) λL hL=>hb L (aF (acG.mp hL) λf' Ep jg=>acG.mpr ⟨f',J' _ Ep,jg⟩)⟩
theorem G7(b:È):(({}:Ô)).get? b=Ã:=abJ (į _)
theorem XB.De(b:XB J aY h e c w x):x.D≠e:=λq=>by show tU b.hD λo es ep ho hd z=>?_;rw[q,b.he]at ho;cases ho;cases hd
structure mn(fr:List Env)(J:List È)(H:ag)(aY h:Ô)(ď:Prop)(P:Ä->Prop)(e:È)(c:Nat)(w:Str):Prop where
 R:ak gg J H h
 FS:r6 fr J h
 F0:T8 fr aY
 dom:∀b o,aY.get? b=À o->∃o',h.get? b=À o'
 B0:∀b o,gg.B.get? b=À o->aY.get? b=À o
 X:S7 J aY h ď P e c w
theorem mn.free(Y:mn (bA A) J H aY h ď P e c w)(ha:aY.get? a=Ã)(hL:L∈FP (bA A)):L≠a:=λq=>aF (AR hL) λf hf hl=>Y.F0 f hf L hl (q▸ha)
theorem JC(Y:mn (bA A) J H aY h ď P₀ e c w)(y:XB J aY h e c w x)(hs:Heap.SlotsOnly (FP (bA A)) h bM)(hc:oT.cls=.type "traceback")(hd:oT.data=.fields ts)(h3:ts[3]?=À f)(hP:P f)
  (eh:h'=(bM.push oT).update e (Obj.mapFields (·.setIfInBounds 1 (.ref bM.objs.size)))):mn (bA A) J H aY h' False P e c w/\yi aY h h' e:=by
 have e1:bM.get? e=À (x.obj c):=(hs.2.1 e λq=>Y.free Y.X.e0 q N).trans y.he;have Xw:bM.objs.size≠e:=ō (Ő e1);have Hc:∀b,b≠e->h'.get? b=(bM.push oT).get? b:=λb hb=>(congrArg (afl · b) eh).trans (Ϩ _ _ (Ne.symm hb));have ee:h'.get? e=À (XD.obj ⟨x.vs.setIfInBounds 1 (.ref bM.objs.size),x.D,x.m,x.t,x.sl⟩ c):=(congrArg (afl · e) eh).trans (ϣ _ (O' _ e1) N);have T':h'.get? bM.objs.size=À oT:=(Hc _ Xw).trans (ŀ _ (Obj.isFreed_of_fields hd));clear eh;have keep:∀b o,b≠e->bM.get? b=À o->h'.get? b=À o:=λb o hb e2=>(Hc b hb).trans (O' _ e2);have ex:∀b o,b≠e->b∉FP (bA A)->h.get? b=À o->h'.get? b=À o:=λb o hb hf e2=>keep b o hb ((hs.2.1 b hf).trans e2);have Xi:∀b o,b∈FP (bA A)->h.get? b=À o->∃es ep,o.data=.dict es ep:=λb o hb e2=>tU (Y.FS.at hb) λo' es ep k1 k2 z=>⟨es,ep,by rw[sm (e2.symm.trans k1)];show k2⟩
 have kp:∀b o,b≠e->h.get? b=À o->gJ h' b o:=λb o hb e2=>by
  by_cases hf:b∈FP (bA A)
  ·show(hs.2.2 b o e2).elim λWH e3=>.inr ⟨Xi b o hf e2,WH,keep b _ hb e3⟩
  ·show .inl (ex b o hb hf e2)
 have W2:∀b o,h.get? b=À o->∃o',h'.get? b=À o':=λb o e2=>by
  by_cases hb:b=e
  ·show⟨_,hb▸ee⟩
  ·show(kp b o hb e2).live
 have T0:h.get? bM.objs.size=Ã:=abJ (by rw[hs.1];show ē _)
 show⟨⟨Y.R.same (λb o hb e2=>ex b o (λq=>no (Y.X.eB.symm.trans (q▸hb))) (λhf=>JA (Y.FS.at hf) λz z z z z z k4=>no (k4.symm.trans hb)) e2)
  (λa o ha e2=>ex a o (λq=>Y.X.eφ (q▸ha)) (λhf=>JA (Y.FS.at hf) λz z z z z k3 z=>k3 ha) e2)
  (λb o e2 hh hn=>ex b o (λq=>?_) (λhf=>mM (Xi b o hf e2) λes ep k2=>sG k2 hh) e2),
  Y.FS.to λL o es ep k1 k2 k3=>⟨(kp L o (λq=>?_) k1).isD k2,k3⟩,Y.F0,λb o e2=>(Y.dom b o e2).elim (W2 b),Y.B0,
  ⟨⟨⟨x.vs.setIfInBounds 1 (.ref bM.objs.size),x.D,x.m,x.t,x.sl⟩,⟨ee,by rw[Array.size_setIfInBounds];show y.hsz,gJ.ns y.hD λo e2=>kp x.D o y.De e2,y.hm,y.D0,y.Dφ⟩,.inr ⟨⟨bM.objs.size,oT,ts,f⟩,?_,Xw,T',hc,hd,h3,hP,ku λo q=>(Y.dom _ o q).elim λo' e3=>no (T0.symm.trans e3),aW Y.R T0⟩⟩,Y.X.e0,Y.X.eφ,Y.X.eB⟩⟩,⟨λb o e2 hb=>kp b o (λq=>hb (q▸Y.X.e0)) e2,W2⟩⟩
 ·have q2:=sm (y.he.symm.trans (q▸e2))
  rw[<-q2]at hh;show hh.elim (λk=>nomatch k.1) λk=>nomatch k.1
 ·have q2:=sm (y.he.symm.trans (q▸k1))
  rw[<-q2]at k2;show nomatch k2
 ·show(ac8 y.hsz)
end
section
variable{A:Ñ}{E:Ä->Å->Prop}{J:List È}{H:ag}{s:Å}{aY:Ô}{ď:Prop}{P P':Ä->Prop}{e L:È}{c:Nat}{w:Str}{Z:Env}
theorem S7.mono(X:S7 J aY h ď P e c w)(hU:ď->U')(hP:∀f,P f->P' f):S7 J aY h U' P' e c w:=
 ⟨X.ex.elim λx y=>⟨x,y.b,y.tb.imp (λq=>⟨hU q.1,q.2⟩) λq=>q.elim λd z=>⟨d,z.v,z.ne,z.ho,z.cls,z.data,z.f,hP _ z.p,z.T0,z.Tφ⟩⟩,X.e0,X.eφ,X.eB⟩
theorem mn.mono(Y:mn (bA A) J H aY h ď P e c w)(hU:ď->U')(hP:∀f,P f->P' f):mn (bA A) J H aY h U' P' e c w:=⟨Y.R,Y.FS,Y.F0,Y.dom,Y.B0,Y.X.mono hU hP⟩
theorem XB.DT(b:XB J aY h e c w x)(z:Uj J aY h P e x.vs d):x.D≠d.T:=λq=>by show tU b.hD λo es ep ho hd y=>?_;have:=sm (z.ho.symm.trans (q▸ho));rw[<-this]at hd;show nomatch z.data.symm.trans hd
theorem yi.refl(aY h:Ô)(e:È):yi aY h h e:=⟨λb o e z=>.inl e,λb o e=>⟨o,e⟩⟩
theorem ww(Y:mn (bA A) J H aY h ď P e c w)(b:XB J aY h e c w x)(z:Uj J aY h P e x.vs d)(hP:P' v)(eh:h'=h.update d.T (Obj.mapFields (·.setIfInBounds 3 v))):
  mn (bA A) J H aY h' False P' e c w/\yi aY h h' e/\XB J aY h' e c w x:=by
 have Hc:∀b,b≠d.T->h'.get? b=h.get? b:=λb hb=>(congrArg (afl · b) eh).trans (Ϩ _ _ (Ne.symm hb));have kg:=Obj.data_mapFields z.data (·.setIfInBounds 3 v);have TT:h'.get? d.T=À (Obj.mapFields (·.setIfInBounds 3 v) d.o):=(congrArg (afl · d.T) eh).trans (ϣ _ z.ho (Obj.isFreed_of_fields kg));clear eh
 have dm:∀b o,h.get? b=À o->∃o',h'.get? b=À o':=λb o e2=>by
  by_cases hb:b=d.T
  ·show⟨_,hb▸TT⟩
  ·show⟨o,(Hc b hb).trans e2⟩
 have Yg:∀{b o},h.get? b=À o->b=d.T->o=d.o:=λe2 q=>sm (e2.symm.trans (q▸z.ho));have B:XB J aY h' e c w x:=⟨(Hc e z.ne.symm).trans b.he,b.hsz,oS b.hD λo es ep ho r=>⟨o,es,ep,(Hc x.D (b.DT z)).trans ho,r⟩,b.hm,b.D0,b.Dφ⟩
 show⟨⟨Y.R.same (λb o hb e2=>(Hc b λq=>no (z.T0.symm.trans (q▸Y.B0 b o hb))).trans e2) (λa o ha e2=>(Hc a λq=>z.Tφ (q▸ha)).trans e2) (λb o e2 hh hn=>(Hc b λq=>?_).trans e2),
  Y.FS.to λL o es ep k1 k2 k3=>⟨⟨o,es,ep,(Hc L λq=>?_).trans k1,k2⟩,k3⟩,Y.F0,λb o e2=>(Y.dom b o e2).elim (dm b),Y.B0,
  ⟨⟨x,B,.inr ⟨⟨d.T,_,_,v⟩,z.v,z.ne,TT,(Obj.cls_mapFields _ _).trans z.cls,kg,?_,hP,z.T0,z.Tφ⟩⟩,Y.X.e0,Y.X.eφ,Y.X.eB⟩⟩,⟨λb o e2 hb=>.inl ((Hc b λq=>hb (q▸z.T0)).trans e2),dm⟩,B⟩
 ·rw[Yg e2 q]at hh
  show hh.elim (λk=>absurd (z.cls.symm.trans k.1) (by decide)) λk=>absurd (z.cls.symm.trans k.1) (by decide)
 ·rw[Yg k1 q]at k2
  show nomatch z.data.symm.trans k2
 ·show ac8 (acE.mp z.f).1
theorem iG(Y:mn (bA A) J H aY s.heap ď P e c w)(hP:P' (fr.elim .none λf=>õ f))
  (hQ:∀h',mn (bA A) J H aY h' ď P' e c w->yi aY s.heap h' e->Q () {s with heap:=h'}):É mo A (setFlight (.ref e) fr) Q E s:=by
 show ä Y.X.ex λx y=>?_;unfold setFlight;show â y.tb (λq=>?_) λq=>ä q λd z=>?_
 ·show Â (Þ y.b.he N q.2 ?_)
  rw[if_neg (by decide)];show Ç (hQ s.heap ⟨Y.R,Y.FS,Y.F0,Y.dom,Y.B0,⟨x,y.b,.inl q⟩,Y.X.e0,Y.X.eφ,Y.X.eB⟩ (yi.refl _ _ _))
 ·show Â (Þ y.b.he N z.v ?_)
  rw[if_pos (show (Value.ref d.T != Value.none)=Æ from by simp)];show io (ww (P':=P') Y y.b z hP rfl) λY' K' k=>Ĩ z.ho z.data (acE.mp z.f).1 (hQ _ (Y'.mono (λq=>q.elim) λk q=>q) K')
theorem sK(Gb:A.frames=À (Z::bT))(hf:Z.frame=À L)(Y:mn (bA A) J H aY s.heap ď P e c w)(y:XB J aY s.heap e c w x)(Vz:Ä)(b:Bool)
  (hQ:∀h',mn (bA A) J H aY h' False (PL L) e c w->yi aY s.heap h' e->Q () {s with heap:=h'}):É mo A (do let a <-frameOf Z;let pl <-entryPlaceOf L b;let x <-EntryCells.newEntry Vz a .none (õ L) .none pl;setField (.ref e) 1 x) Q E s:=by
 have hg:bA A=Z::bT:=by unfold bA;rw[Gb];rfl
 show Â (wpAny_frameOf_fun (base:={}) Gb (hg▸zd Y.FS λL z=>G7 L) hf λbM kh=>Â (wpAny_entryPlaceOf λpl vq=>?_));unfold EntryCells.newEntry newFields;show Â (è ?_ (vq.sizeOk5 _ _ _ _ _));have Gn:Heap.SlotsOnly (FP (bA A)) s.heap bM:=by unfold FP;rw[hg];show kh
 refine Ĩ (O' _ ((Gn.2.1 e λq=>Y.free Y.X.e0 q rfl).trans y.he)) rfl y.hsz ?_;exact aP (JC (P:=PL L) (f:=õ L) Y y Gn rfl rfl (by first|rfl|simp) (.inr rfl) rfl) λY' K'=>hQ _ Y' K'
theorem zW(Gb:A.frames=À (Z::bT))(hf:Z.frame=À L)(Y:mn (bA A) J H aY s.heap ď (PL L) e c w)
  (hQ:∀h',mn (bA A) J H aY h' False (PL L) e c w->yi aY s.heap h' e->Q () {s with heap:=h'}):É mo A (noteFrame (.ref e) Z) Q E s:=by
 show ä Y.X.ex λx y=>?_;unfold noteFrame
 simp only[hf]
 show â y.tb (λq=>?_) λq=>ä q λd z=>?_
 ·show Â (Þ y.b.he N q.2 ?_)
  rw[if_neg (by decide)];show sK Gb hf Y y.b .none _ hQ
 ·show Â (Þ y.b.he N z.v ?_)
  rw[if_pos (show (Value.ref d.T != Value.none)=Æ from by simp)];show Â (Þ z.ho z.data z.f ?_);by_cases Er:(d.f==õ L)=Æ
  ·rw[if_pos Er]
   show Ç (hQ s.heap ⟨Y.R,Y.FS,Y.F0,Y.dom,Y.B0,⟨x,y.b,.inr ⟨d,z⟩⟩,Y.X.e0,Y.X.eφ,Y.X.eB⟩ (yi.refl _ _ _))
  ·rw[if_neg Er]
   show io (ww (P':=PL L) Y y.b z (.inl N) N) λY' K' B'=>Â (Ĩ z.ho z.data (acE.mp z.f).1 ?_);show sK (s:={s with heap:=s.heap.update d.T (Obj.mapFields (·.setIfInBounds 3 Value.none))}) Gb hf Y' B' (.ref d.T) _ λh' Y2 K2=>hQ h' Y2 (K'.trans K2)
theorem Kr(Gb:A.frames=À (Z::bT))(hf:Z.frame=À L)(Y:mn (bA A) J H aY s.heap ď (PL L) e c w)
  (hQ:∀h',mn (bA A) J H aY h' False P0 e c w->yi aY s.heap h' e->Q () {s with heap:=h'}):É mo A (leaving Z (.ref e)) Q E s:=by
 unfold leaving;show Â (zW Gb hf Y λh' Y' K'=>iG (s:={s with heap:=h'}) (P':=P0) Y' N λqE Y2 K2=>hQ qE Y2 (K'.trans K2))
theorem Of(hf:Z.frame=À L)(Y:mn (bA A) J H aY s.heap False (PL L) e c w)
  (hQ:∀h',mn (bA A) J H aY h' False (PL L) e c w->yi aY s.heap h' e->E' (.ref e) {s with heap:=h'}):ĩ mo A Z E' (.ref e) s:=by
 show ä Y.X.ex λx y=>?_;unfold ĩ;show â y.tb (λq=>q.1.elim) λq=>ä q λd z=>Â (Þ y.b.he rfl z.v ?_);rw[if_neg (by simp)];show iG (P':=PL L) Y (by rw[hf];show .inr rfl) hQ
end
theorem xY(C:È)(v:Ä):(Code.builtin "type.__call__" ⟨[.ref C,v],[]⟩).weight=1:=by kernel_rfl
theorem l0(h:gZ.lookup x=À c):(c=0/\x=("LarderError":Str))\/(c=1/\x=("TooMuch":Str))\/(c=2/\x=("Short":Str))\/(c=3/\x=("ValueError":Str)):=by
 have hm:=mem_of_lookup h
 simp only[gZ,ċ,Prod.mk.injEq,acr,or_false]at hm
 rcases hm with ⟨h1,h2⟩|⟨h1,h2⟩|⟨h1,h2⟩|⟨h1,h2⟩
 ·show .inl ⟨h2,h1⟩
 ·show .inr (.inl ⟨h2,h1⟩)
 ·show .inr (.inr (.inl ⟨h2,h1⟩))
 ·show .inr (.inr (.inr ⟨h2,h1⟩))
section
variable{A:Ñ}{E:Ä->Å->Prop}{s:Å}{Z:Env}{C C0:È}{mN mN0:Str->Option Ä}
theorem z6(hh:A.handled=Ã)
  (h:É mo A x (λv Ì=>∃e t D,v=.ref e/\fg Ì.heap C C0 mN mN0/\Ì.heap.get? e=À {cls:=.ref C,dict:=À D,data:=.fields #[.ref t,.none,.none,.none,.bool Ê,.none]}/\E (.ref e) Ì) E s) :
  É mo A (raiseStmt Z (À x) Ã) Q E s:=by
 have zh:(Value.ref C::.ref C0::jX).contains (.type "BaseException")=Æ:=fj PySem.F.excBase_ValueError.hasBase;unfold raiseStmt;show Â (Ï h (λv Ì bM=>?_) λz z x=>x);show JA bM λe t D q4 S he hE=>?_;apply ba q4;show S.c.el λD hC hn=>?_;obtain ⟨hp,g,d,tk,os⟩:=Ì
 repeat (first|with_reducible refine Õ he ?_|with_reducible refine Õ hC ?_|(with_reducible refine á hC ?_;rw[zh])|wp_step)
 show wpAny_raiseNew_none hh hE
end
section
variable{A:Ñ}{E:Ä->Å->Prop}{J:List È}{H:ag}{s:Å}{Z:Env}{O:List (Str×Nat)}{U:aM}{Á:aw}{d:Nat}
theorem iO.keeps(I:iO h f)(hk:∀b o,h.get? b=À o->h'.get? b=À o):iO h' f:=by show Ej I.ex λo fd a1 a2 ho IO oi=>⟨o,fd,a1,a2,hk _ _ ho,IO,oi.keeps hk⟩
theorem u8(G:fO gg cx fs mg mb)(hc:c=1\/c=2):∃mN mN0 f,fg gg.B (gg.cls c) (gg.cls 0) mN mN0/\mN ("__init__":Str)=Ã/\mN0 ("__init__":Str)=À (.ref f)/\iO gg.B f:=by
 show fe G.exc.c0 λm0 f a1 a2 a3=>?_;rcases hc with rfl|rfl
 ·show aF G.exc.c1 λm1 b1 b2=>⟨m1,m0,f,⟨b1,a1⟩,b2,a2,a3⟩
 ·show aF G.exc.c2 λm1 b1 b2=>⟨m1,m0,f,⟨b1,a1⟩,b2,a2,a3⟩
theorem vZ(G:fO gg cx fs mg mb)(h:gZ.lookup x=À c)(hc:c=1\/c=2\/c=0):mg x=À (.ref (gg.cls c)):=by
 rcases l0 h with ⟨rfl,rfl⟩|⟨rfl,rfl⟩|⟨rfl,rfl⟩|⟨rfl,rfl⟩
 ·show G.exc.n0
 ·show G.exc.n1
 ·show G.exc.n2
 ·rcases hc with q|q|q<;>cases q
theorem KQ(hA:iM A d)(G:fO gg cx fs mg mb)(hg:bg Z.scope x=Æ)(zj:gZ.lookup x=À c)(hc:c=1\/c=2)(hG:∀y q,e≠.Starred y q)(hx:aQ A Z O e (ab Á a))(he:ab Á a U H=À (.str wd,Î))(R:ak gg J H s.heap)(F:eQ (bA A) J Z O U s.heap)
  (hE:∀ea aj s',SE J s.heap aj s'.heap->bP s s'->mn (bA A) aj Î s.heap s'.heap True P0 ea c wd->E (.ref ea) s') :
  É mo A (exec (.Raise (À (.Call (.Name x np) [e] [] py)) Ã pos) Z) Q E s:=by
 show JA (u8 G hc) λmN mN0 f S2 i1 i2 i3=>aP (bJ hg) λlA lB=>?_;have fv:Ø [e] Z=(Ê,eval e Z)::Ø [] Z:=jP hG
 have wG:A.depth<í:=by
  have h1:=hA.depth;have h2:600<í:=by decide
  show jT (y4 0x1c1310b02589011b10258910b20813ba230 N (iL h1) (iT h2) (iP _) (iA _ _))
 have Rv:∀v:Ä,(A.under (.builtin "type.__call__" ⟨[.ref (gg.cls c),v],[]⟩)).depth<í:=λv=>by
  have h1:=hA.depth;have h2:700<í:=by decide
  have h3:=xY (gg.cls c) v;show A.depth+(Code.builtin "type.__call__" ⟨[.ref (gg.cls c),v],[]⟩).weight<_;show jT (y6 0x1c1310b02589011b102bc912b18212ba24310b50813ba540 N (iL h1) (iT h2) (iE h3) (iA _ _) (iP _) (iA _ _))
 rw[arm_exec_Raise];show Â (ĕ (z6 (C:=gg.cls c) (C0:=gg.cls 0) (mN:=mN) (mN0:=mN0) hA.handled (Â (Ï (wpAny_Call_ofName (jd G F R lA lB (vZ G zj (by rcases hc with q|q;show .inl q;show .inr (.inl q))) ?_)) (λv iu eE=>Â (ĕ (Ç eE))) λz z x=>x))));show É _ _ (callWith py (.ref (gg.cls c)) [] (ĵ py (Ø [e] Z)) []) _ _ _;rw[fv];unfold callWith;show Â (ß (evalArgs_plain ?_));show É _ _ (spliced (ĵ py ((Ê,eval e Z)::Ø [] Z))) _ _ _;have spl:∀{Q':List Ä->Å->Prop},É mo A (spliced (ĵ py (Ø [e] Z))) Q' E s->É mo A (spliced (ĵ py ((Ê,eval e Z)::Ø [] Z))) Q' E s:=λh=>by rw[fv]at h;show h
 show spl (å (hx.bind he R F λb Ì aj S T ay a0 be=>Ď ?_) fv);apply WL N be;intro t;show Â (ĕ ?_);have LV:=S2.keeps ay.base;show LV.c.el λD hC hn=>?_
 have wE:∃o,gg.B.get? f=À o/\o.cls=.type "function" := by
  show Ej i3.ex λo fd a1 a2 ho IO z=>⟨o,ho,IO.cls⟩
 show aF wE λoI Z8 V3=>?_;have zm:Ì.heap.NoLimit:=G.nolimit.keeps ay.base
 have Qx:T8 (bA A) s.heap:=λf' Ep L hl=>by obtain ⟨_,L',o,es,ep,k2,k3,_⟩:=F.stk f' Ep;apply ba (sm ((hl).symm.trans k2));rw[k3];show λq=>nomatch q
 obtain ⟨hp,gg,dd,tk,os⟩:=Ì;show Â (wpAny_keeperOf_exc hC (Â (Fc LV i1 i2 (ay.base _ _ Z8) V3 (ab6 rfl) λh' ea hm=>eK hm.there λtt ZF htn MP=>Ï (CN (s:=⟨h',gg,dd,tk,os⟩) ((i3.keeps ay.base).keeps hm.keeps) (Rv _) (zm.keeps hm.keeps) (LV.keeps hm.keeps) ZF λh2 tk2 W=>vo W λD w1 w2 w3 w4=>?_) (λv s' q=>q) λz z x=>x)));have ul:∀b o,hp.get? b=À o->h2.get? b=À o:=λb o e2=>w4 b o (λq=>by rw[q,hm.new]at e2;show no e2) (hm.keeps b o e2);show⟨rfl,Â (ß (wpAny_point (Ç ⟨ea,tt,D,rfl,LV.keeps ul,w1,?_⟩)))⟩;have S':SE J s.heap aj h2:=S.trans (SE.keeps _ ul);have e0:hp.get? ea=Ã:=hm.new;have D0:hp.get? D=Ã:=fZ hm.keeps w3;show hE ea aj ⟨h2,gg,dd,tk2,os⟩ S' (T.trans ⟨rfl,rfl,rfl⟩) ⟨ay.keeps ul,(a0.step ay (SE.keeps _ ul)).stk,Qx,S'.dom,R.base,⟨⟨⟨_,D,λy=>if y=("word":Str) then À (.str wd t) else Ã,t,_⟩,⟨w1,ab6 rfl,w2.ns,(if_pos rfl:(if ("word":Str)=("word":Str) then À (Value.str wd t) else Ã)=_),S.back D0,aW ay D0⟩,.inl ⟨trivial,rfl⟩⟩,S.back e0,aW ay e0,aV ay e0⟩⟩
end
open Builtin Builtin.ObjectAttr
theorem Nd:("__getattribute__":Str)∉iz:=by decide +kernel
theorem Nf:("__getattr__":Str)∉iz:=by decide +kernel
theorem Sp:("__class__":Str)∉iz:=by decide +kernel
theorem Sk:ă (.type "ValueError") ("__class__":Str)=pure (À (.builtin "object.__class__")):=by rw[ł,Ĝ];kernel_rfl
section
variable{A:Ñ}{E:Ä->Å->Prop}{h:Ô}{g:Array ø}{d:Drawn}{t:Nat}{os:ò}
 {C C0 a D:È} {mN mN0 m:Str->Option Ä} {v:Ä} {o:Obj} {vs:Array Ä} {FB:ExcAttrBase "ValueError" jX}
theorem vW(S:fg h C C0 mN mN0)(hx:h.get? a=À o)(hc:o.cls=.ref C)(hq:Q () ⟨h,g,d,t,os⟩):É mo A (þ "BaseException.__getattribute__" ⟨[.ref a,nameV],[]⟩) Q E ⟨h,g,d,t,os⟩:=by
 show S.c.el λD hC hn=>?_;have hk:builtinKind "BaseException.__getattribute__" = À .slot:=by decide +kernel
 have OZ:splitId "BaseException.__getattribute__" = À ("BaseException","__getattribute__"):=by decide +kernel
 have zh:(Value.ref C::.ref C0::jX).contains (.type "BaseException")=Æ:=fj PySem.F.excBase_ValueError.hasBase;have ha:=PySem.F.args_bexc_ga (.ref a) nameV
 simp only[þ,hk,OZ]
 show Â ?_
 ·unfold isInstance
  repeat (first|(with_reducible refine Õ hx ?_;rw[hc])|(with_reducible refine á hC ?_;rw[zh])|wp_step)
  show hq
end
def iJ(A:Ñ)(E:Ä->Å->Prop)(h:Ô)(g:Array ø)(d:Drawn)(t:Nat)(os:ò)(C:È)(C0:È)(a:È)(D:È)(mN:Str->Option Ä)(mN0:Str->Option Ä)(m:Str->Option Ä)(v:Ä)(o:Obj)(vs:Array Ä)(tk:Tok)(Q:PySem.Fin->Å->Prop):Prop:=∀(S:fg h C C0 mN mN0) (hx:h.get? a=À o) (hc:o.cls=.ref C) (hd:o.data=.fields vs) (lz:o.dict=À D) (hD:h.Ns D m) (hw:m ("word":Str)=À v) (hq:Q (.done (.ret v)) ⟨h,g,d,t,os⟩),É mo A (Ē.«object.__getattribute__» ⟨[.ref a,.str "word" tk],[]⟩) Q E ⟨h,g,d,t,os⟩
namespace word_entryH
def kc:=hc (U2 λb0=>U2 λb1=>U2 λb2=>U2 λb3=>yh (iJ b0 b1 b2 b3)) ({},λz z=>True,default,#[],{},0,default,0,0,0,0,λz=>Ã,λz=>Ã,λz=>Ã,.none,default,#[],default,λz z=>True)
def A:=kc.1
def E:=kc.2.1
def h:=kc.2.2.1
def g:=kc.2.2.2.1
def d:=kc.2.2.2.2.1
def t:=kc.2.2.2.2.2.1
def os:=kc.2.2.2.2.2.2.1
def C:=kc.2.2.2.2.2.2.2.1
def C0:=kc.2.2.2.2.2.2.2.2.1
def a:=kc.2.2.2.2.2.2.2.2.2.1
def D:=kc.2.2.2.2.2.2.2.2.2.2.1
def mN:=kc.2.2.2.2.2.2.2.2.2.2.2.1
def mN0:=kc.2.2.2.2.2.2.2.2.2.2.2.2.1
def m:=kc.2.2.2.2.2.2.2.2.2.2.2.2.2.1
def v:=kc.2.2.2.2.2.2.2.2.2.2.2.2.2.2.1
def o:=kc.2.2.2.2.2.2.2.2.2.2.2.2.2.2.2.1
def vs:=kc.2.2.2.2.2.2.2.2.2.2.2.2.2.2.2.2.1
def tk:=kc.2.2.2.2.2.2.2.2.2.2.2.2.2.2.2.2.2.1
def Q:=kc.2.2.2.2.2.2.2.2.2.2.2.2.2.2.2.2.2.2
set_option tactic.hygienic true in
theorem kt:iJ A E h g d t os C C0 a D mN mN0 m v o vs tk Q:=by
 intro S hx hc hd lz hD hw hq;show S.c.el λD hC hn=>?_
 repeat (any_goals (first|assumption|(with_reducible refine Õ hx ?_;rw[hc])|with_reducible refine dP S Bi Bd ?_|wp_step))
 split
 ·rename_i c oi
  rw[hd]at oi;cases oi
 unfold instanceDict
 repeat (first|(with_reducible refine Õ hx ?_;rw[hc])|with_reducible refine Õ hC ?_|wp_step)
 rw[lz]
 repeat (first|(with_reducible refine wpAny_nsGet hD ?_;rw[hw])|wp_step)
 show hq
end word_entryH
theorem Am{os:ò}:iJ A E h g d t os C C0 a D mN mN0 m v o vs tk Q:=hk (P:=U2 λb0=>U2 λb1=>U2 λb2=>U2 λb3=>yh (iJ b0 b1 b2 b3)) word_entryH.kt (A,E,h,g,d,t,os,C,C0,a,D,mN,mN0,m,v,o,vs,tk,Q)
section
variable{A:Ñ}{E:Ä->Å->Prop}{h:Ô}{g:Array ø}{d:Drawn}{t:Nat}{os:ò}
 {C C0 a D:È} {mN mN0 m:Str->Option Ä} {v:Ä} {o:Obj} {vs:Array Ä} {FB:ExcAttrBase "ValueError" jX}
theorem DX(S:fg h C C0 mN mN0)(hx:h.get? a=À o)(hc:o.cls=.ref C)(hd:o.data=.fields vs)(lz:o.dict=À D)(hD:h.Ns D m)(hw:m ("word":Str)=À v)(hq:R (.ok (.ret v)) ⟨h,g,d,t,os⟩):
  Ğ mo A (.call (.builtin "BaseException.__getattribute__") ⟨[.ref a,.str "word" tk],[]⟩) R ⟨h,g,d,t,os⟩:=
 č PySem.F.attrBase_ValueError.ga.plain PySem.F.entry_bexc_ga (vW S hx hc (Am S hx hc hd lz hD hw hq))
theorem LD{tk:Tok}{fill expr:Bool}{Q:Ä->Å->Prop}(S:fg h C C0 mN mN0)(hx:h.get? a=À o)(hc:o.cls=.ref C)(hd:o.data=.fields vs)(lz:o.dict=À D)(hD:h.Ns D m)(hw:m ("word":Str)=À v)(hh:handedOut v=pure v)(hq:Q v ⟨h,g,d,t,os⟩):
  É mo A (getAttrBy (.ref a) (.str "word" tk) fill expr) Q E ⟨h,g,d,t,os⟩:=by
 have f3:=PySem.F.attrBase_ValueError.ga.bind (.ref a);have O5:(expr&&onTheHeap (Value.builtin "BaseException.__getattribute__"))=Ê:=by cases expr<;>rfl
 have Qh:(Value.builtin "BaseException.__getattribute__"==Value.builtin "object.__getattribute__")=Ê:=by decide +kernel
 have MQ:(onTheHeap (Value.ref C)&&Value.builtin "BaseException.__getattribute__"==Value.builtin "object.__getattribute__")=Ê:=by rw[Qh];rfl
 repeat (any_goals (first|assumption|(with_reducible refine Õ hx ?_;rw[hc])|with_reducible refine dP S Nd PySem.F.attrBase_ValueError.ga.lookup ?_|with_reducible refine dP S Nf PySem.F.attrBase_ValueError.noGetattr ?_|wp_step))
 show DX S hx hc hd lz hD hw ?_;show É _ _ (handedOut v) _ _ _;rw[hh];show Ç hq
theorem DW{expr:Bool}{Q:Ä->Å->Prop}(S:fg h C C0 mN mN0)(hx:h.get? a=À o)(hc:o.cls=.ref C)(hd:o.data=.fields vs)(lz:o.dict=À D)(hD:h.Ns D m)(hw:m ("word":Str)=À v)(hh:handedOut v=pure v)(hq:Q v ⟨h,g,d,t+1,os⟩):
  É mo A (getAttr (.ref a) "word" expr) Q E ⟨h,g,d,t,os⟩:=by
 unfold getAttr
 repeat (any_goals (first|assumption|with_reducible apply LD S hx hc hd lz hD hw hh|wp_step))
end
open Builtin Builtin.ObjectAttr
section
variable{A:Ñ}{E:Ä->Å->Prop}{h:Ô}{g:Array ø}{d:Drawn}{t:Nat}{os:ò}
 {C C0 a D:È} {mN mN0 m:Str->Option Ä} {v cv:Ä} {o:Obj} {vs:Array Ä} {b:Bool}
theorem Co(S:fg h C C0 mN mN0)(hx:h.get? a=À o)(hc:o.cls=.ref C)(hq:R (.ok (.ret (.ref C))) ⟨h,g,d,t,os⟩):
  Ğ mo A (.call (.builtin "getset_descriptor.__get__") ⟨[.builtin "object.__class__",.ref a,.ref C],[]⟩) R ⟨h,g,d,t,os⟩:=by
 show S.c.el λD hC hn=>?_;have Xv:(⟨h,g,d,t,os⟩:Å).TypeIs (.builtin "object.__class__") "getset_descriptor" := PySem.F.typeOf_object_class
 have zh:(Value.ref C::.ref C0::jX).contains (.type (".".intercalate ("object.__class__".cutAt '.').dropLast))=Æ:=by rw[PySem.F.owner_object_class];show fj (by decide +kernel)
 show č PySem.F.slot_gs_get.plain PySem.F.entry_gs_get (PySem.F.slot_gs_get.check _ _ _ _ _ _ _ _ Xv (PySem.F.args_gs_get _ _ _) ?_)
 repeat (any_goals (first|assumption|(with_reducible refine Õ hx ?_;rw[hc])|(with_reducible refine á hC ?_;rw[zh])|wp_step))
 show⟨Code.quiet_builtin _ (by decide +kernel),é PySem.F.entry_object_class ?_⟩
 repeat (any_goals (first|assumption|(with_reducible refine Õ hx ?_;rw[hc])|wp_step))
theorem vX(S:fg h C C0 mN mN0)(hx:h.get? a=À o)(hc:o.cls=.ref C)(hq:Q (.done (.ret (.ref C))) ⟨h,g,d,t,os⟩):
  É mo A (Ē.«object.__getattribute__» ⟨[.ref a,.str "__class__" tk],[]⟩) Q E ⟨h,g,d,t,os⟩:=by
 have Xv:(⟨h,g,d,t,os⟩:Å).TypeIs (.builtin "object.__class__") "getset_descriptor" := PySem.F.typeOf_object_class;have f5:=PySem.F.typeOf_object_class;have f6:=PySem.F.slot_gs_get.lookup;have f7:=PySem.F.slot_gs_set.lookup
 repeat (any_goals (first|assumption|(with_reducible refine Õ hx ?_;rw[hc])|with_reducible refine dP S Sp Sk ?_|wp_step))
 show Co S hx hc ?_
 repeat (any_goals (first|assumption|wp_step))
theorem yH(S:fg h C C0 mN mN0)(hx:h.get? a=À o)(hc:o.cls=.ref C)(hq:R (.ok (.ret (.ref C))) ⟨h,g,d,t,os⟩):
  Ğ mo A (.call (.builtin "BaseException.__getattribute__") ⟨[.ref a,.str "__class__" tk],[]⟩) R ⟨h,g,d,t,os⟩:=
 č PySem.F.attrBase_ValueError.ga.plain PySem.F.entry_bexc_ga (vW S hx hc (vX S hx hc hq))
theorem Ff{tk:Tok}{fill expr:Bool}{Q:Ä->Å->Prop}(S:fg h C C0 mN mN0)(hx:h.get? a=À o)(hc:o.cls=.ref C)(hq:Q (.ref C) ⟨h,g,d,t,os⟩):
  É mo A (getAttrBy (.ref a) (.str "__class__" tk) fill expr) Q E ⟨h,g,d,t,os⟩:=by
 have f3:=PySem.F.attrBase_ValueError.ga.bind (.ref a);have O5:(expr&&onTheHeap (Value.builtin "BaseException.__getattribute__"))=Ê:=by cases expr<;>rfl
 have Qh:(Value.builtin "BaseException.__getattribute__"==Value.builtin "object.__getattribute__")=Ê:=by decide +kernel
 have MQ:(onTheHeap (Value.ref C)&&Value.builtin "BaseException.__getattribute__"==Value.builtin "object.__getattribute__")=Ê:=by rw[Qh];rfl
 repeat (any_goals (first|assumption|(with_reducible refine Õ hx ?_;rw[hc])|with_reducible refine dP S Nd PySem.F.attrBase_ValueError.ga.lookup ?_|with_reducible refine dP S Nf PySem.F.attrBase_ValueError.noGetattr ?_|wp_step))
 show yH S hx hc ?_
 repeat (any_goals (first|assumption|wp_step))
theorem yG{Q:Option Ä->Å->Prop}(S:fg h C C0 mN mN0)(hx:h.get? a=À o)(hc:o.cls=.ref C)(hq:Q (À (.ref C)) ⟨h,g,d,t+1,os⟩):É mo A (getAttr? (.ref a) "__class__") Q E ⟨h,g,d,t,os⟩:=by
 unfold getAttr? getAttrBy?
 repeat (any_goals (first|assumption|with_reducible apply Ff S hx hc|wp_step))
def my(h:Ô)(cv:Ä):Prop:=(∃T,cv=.type T/\typeOf (.type T)=pure (.type "type"))\/∃C tl D,cv=.ref C/\h.get? C=À (Ew.obj D C tl)
theorem my.type{s:Å}(x:my s.heap cv):s.TypeIs cv "type" := by
 rcases x with ⟨T,rfl,h⟩|⟨C,tl,D,rfl,h⟩
 ·show h
 ·show⟨_,h,N⟩
theorem lY(x:my h cv)(hq:Q Æ ⟨h,g,d,t,os⟩):É mo A (isType cv) Q E ⟨h,g,d,t,os⟩:=by
 unfold isType;rcases x with ⟨T,rfl,h⟩|⟨C,tl,D,rfl,h⟩
 ·show Ç hq
 ·repeat (any_goals (first|assumption|with_reducible refine Õ h ?_|wp_step))
theorem zS(S:fg h C C0 mN mN0)(hx:h.get? a=À o)(hc:o.cls=.ref C)(hI:my h cv)(hb:(Value.ref C::.ref C0::jX).contains cv=b)
  (hq:∀t',Q (.done (.ret (.bool b))) ⟨h,g,d,t',os⟩) :
  É mo A (Ē.«isinstance.nested» ⟨[.ref a,cv,.int dep tk],[]⟩) Q E ⟨h,g,d,t,os⟩:=by
 show S.c.el λD hC hn=>?_;have ht:(⟨h,g,d,t,os⟩:Å).TypeIs cv "type" := my.type hI;have Zi:∀t',(⟨h,g,d,t',os⟩:Å).TypeIs (.ref C) "type" := λt'=>⟨_,hC,N⟩;have hT1:=Zi (t+1);have Y7:my h (.ref C):=.inr ⟨_,_,_,N,hC⟩;by_cases he:(Value.ref C==cv)=Æ
 ·have hb':b=Æ:=by rw[<-hb,Ϝ];simp only[beq_iff_eq]at he;rw[he];simp
  subst hb';have ML:=hq t
  repeat (any_goals (first|assumption|(with_reducible refine Õ hx ?_;rw[hc])|wp_step))
 ·have IE:(Value.ref C==cv)=Ê:=by simpa using he
  cases b with
  |true=>
   have ML:=hq t
   repeat (any_goals (first|assumption|(with_reducible refine Õ hx ?_;rw[hc])|with_reducible refine lY hI ?_|(with_reducible refine á hC ?_;rw[hb])|wp_step))
  |false=>
   have XY:=hq (t+1)
   repeat (any_goals (first|assumption|(with_reducible refine Õ hx ?_;rw[hc])|with_reducible refine lY hI ?_|with_reducible refine lY Y7 ?_|(with_reducible refine á hC ?_;rw[hb])|with_reducible apply yG S hx hc|wp_step))
theorem Kf(S:fg h C C0 mN mN0)(hx:h.get? a=À o)(hc:o.cls=.ref C)(ht:my h cv)(hb:(Value.ref C::.ref C0::jX).contains cv=b)
  (hq:∀t',Q (.bool b) ⟨h,g,d,t',os⟩):É mo A (Á (.builtin "isinstance") [.ref a,cv]) Q E ⟨h,g,d,t,os⟩:=
 call_isinstance_of (zS S hx hc ht hb λt'=>hq t') λe=>nomatch e
end
section
variable{A:Ñ}{E:Ä->Å->Prop}{J:List È}{H:ag}{s:Å}{Z:Env}{O:List (Str×Nat)}{U:aM}{Á:aw}{d:Nat}
def Jp(d:Nat):Ä:=if d=3 then .type "ValueError" else .ref (gg.cls d)
theorem E0:jX.contains (.ref C)=Ê:=by
 simp [jX]
theorem Jq(G:fO gg cx fs mg mb)(hc:c=1\/c=2)(hd:d=0\/d=1\/d=2\/d=3):(Value.ref (gg.cls c)::.ref (gg.cls 0)::jX).contains (Jp d)=nG c d:=by
 show io G.exc.ap λa1 a2 a3=>?_;rcases hd with rfl|rfl|rfl|rfl
 ·show aeq _ (Value.ref (gg.cls 0))=_
  rw[Ϝ,Ϝ,beq_self_eq_true];simp [nG]
 ·show aeq _ (Value.ref (gg.cls 1))=_
  rw[Ϝ,Ϝ,E0];rcases hc with rfl|rfl
  ·simp [nG]
  ·simp [nG,a1,a2]
 ·show aeq _ (Value.ref (gg.cls 2))=_
  rw[Ϝ,Ϝ,E0];rcases hc with rfl|rfl
  ·simp [nG,a1.symm,a3]
  ·simp [nG]
 ·show aeq _ (Value.type "ValueError")=_
  rw[fj PySem.F.excBase_ValueError.hasB];simp [nG]
theorem ow(h:gZ.lookup x=À c):c=0\/c=1\/c=2\/c=3:=by
 rcases l0 h with ⟨h,_⟩|⟨h,_⟩|⟨h,_⟩|⟨h,_⟩
 ·show .inl h
 ·show .inr (.inl h)
 ·show .inr (.inr (.inl h))
 ·show .inr (.inr (.inr h))
theorem AH(G:fO gg cx fs mg mb)(F:eQ (bA A) J Z O U s.heap)(R:ak gg J H s.heap)(hg:bg Z.scope x=Æ)(h:gZ.lookup x=À c)(hq:Q (Jp c) s):É mo A (eval (.Name x p) Z) Q E s:=by
 show aP (bJ hg) λlA lB=>?_;by_cases h3:c=3
 ·subst h3
  have hx:x=("ValueError":Str):=by
   rcases l0 h with ⟨q,_⟩|⟨q,_⟩|⟨q,_⟩|⟨_,q⟩
   ·cases q
   ·cases q
   ·cases q
   ·show q
  subst hx;show cB G F R lA lB (by decide) (v:=.type "ValueError") (by decide +kernel) hq
 ·show jd G F R lA lB (vZ G h ?_) ?_
  ·rcases ow h with q|q|q|q
   ·show .inr (.inr q)
   ·show .inl q
   ·show .inr (.inl q)
   ·show absurd q h3
  ·unfold Jp at hq;rw[if_neg h3]at hq;show hq
theorem Fg(G:fO gg cx fs mg mb)(R:ak gg J H s.heap)(h:c=0\/c=1\/c=2\/c=3):my s.heap (Jp c):=by
 have own:∀{C tl mN},fy gg.B C tl mN->my s.heap (.ref C):=λX=>by show X.el λD hC hn=>.inr ⟨_,_,_,N,R.base _ _ hC⟩
 rcases h with rfl|rfl|rfl|rfl
 ·show gm G.exc.c0 λm0 f a1 z=>?_;show own a1
 ·show aF G.exc.c1 λm0 a1 z=>?_;show own a1
 ·show aF G.exc.c2 λm0 a1 z=>?_;show own a1
 ·show .inl ⟨_,N,by kernel_rfl⟩
theorem MR.exnE(x:MR gg J h (.exn c d) a):∃o vs D,h.get? a=À o/\o.cls=.ref (gg.cls c)/\o.data=.fields vs/\o.dict=À D/\J[d]?=À D:=by
 cases x with
 |exn h1 h2 h3 h4 h5=>show⟨_,_,_,h1,h2,h3,h4,h5⟩
theorem MR.wdE(x:MR gg J h (.wd w) a):∃m t,h.Ns a m/\m ("word":Str)=À (.str w t):=by
 cases x with
 |wd h1 h2=>show⟨_,_,h1,h2⟩
set_option tactic.hygienic true in
theorem SP(hr:si x=À r)(V:VR gg J h x b):∃a,b=.ref a/\J[r]?=À a:=by
 cases V<;>first|exact no hr|skip
 rename_i n a h1;apply dM hr;show⟨a,rfl,h1⟩
theorem Lb(G:fO gg cx fs mg mb)(hG:∀e q,x≠.Starred e q)(hx:aQ A Z O x (ab Á a))(hg:bg Z.scope ("isinstance":Str)=Æ)(IF:bg Z.scope tn=Æ)(hc:gZ.lookup tn=À c):
  aQ A Z O (.Call (.Name ("isinstance":Str) p') [x,.Name tn Nk] [] pos) (ab Á (.isC c a)):=by
 intro U H v ae he J s R F E;show dI he λy Î h1 he=>ca he λv' h2 he=>?_;apply du he;show iq h2 λr m h3 h4 h2=>?_;show Bk h2 λc' D' h5 h2=>?_;apply dM h2;show aP (vC h5) λq1 My=>(aP (bJ hg) λlA lB=>?_);subst q1;have fv:Ø [x,.Name tn Nk] Z=(Ê,eval x Z)::Ø [.Name tn Nk] Z:=jP hG;show ÿ rfl (cB G F R lA lB (by decide) (v:=.builtin "isinstance") (by decide +kernel) (bK (.inl ⟨_,rfl⟩) (å (hx.bind h1 R F λb Ì aj S T' ay a0 be=>å (AH G a0 ay IF hc (Ď ?_))) fv) fv rfl));show aF (SP h3 be) λaa q2 zt=>?_;apply ba q2;show Xd ((ay.objs _ _ _ zt h4).exnE) λo vs D e1 e2 e3 e4 e5=>oS (u8 G My) λmN mN0 f S2 z=>?_;have ct:=Fg (s:=Ì) G ay (ow hc);have LV:=S2.keeps ay.base;obtain ⟨hp,gg,dd,tk,os⟩:=Ì;show Kf LV e1 e2 ct (Jq G My (ow hc)) λt'=>bD.after S T' ⟨aj,db.refl _ _ _,ay,.bool _,rfl,rfl,rfl⟩
theorem xy(G:fO gg cx fs mg mb)(hx:aQ A Z O (.Name x p) (ab Á a)):aQ A Z O (.Attribute (.Name x p) ("word":Str) pos) (ab Á (.word a)):=by intro U H v ae he J s R F E;show dI he λy Î h1 he=>ca he λv' h2 he=>?_;apply du he;show iq h2 λr m h3 h4 h2=>?_;show Bk h2 λc' d' h5 h2=>iq h2 λm' w h6 h7 h2=>?_;apply dM h2;show aP (vC h5) λq1 My=>?_;subst q1;obtain rfl:=ES h7;show Attribute_name (hx.bind h1 R F λb Ì aj S T' ay a0 be=>?_);show aF (SP h3 be) λaa q2 zt=>?_;subst q2;show Xd ((ay.objs _ _ _ zt h4).exnE) λo vs D e1 e2 e3 e4 e5=>?_;show gm ((ay.objs _ _ _ e5 h6).wdE) λmm t w1 w2=>oS (u8 G My) λmN mN0 f S2 z=>?_;have LV:=S2.keeps ay.base;obtain ⟨hp,gg,dd,tk,os⟩:=Ì;show DW LV e1 e2 e3 e4 w1 w2 rfl (bD.after S T' ⟨aj,db.refl _ _ _,ay,.str _ _,rfl,rfl,rfl⟩)
end
theorem LI{Á:aw}{k:Nat}{as:gF}{U:aM}{H:ag}:ed Á (.call k as) U H=cg (bY Á as U H) λvs Î=>cg (Á k vs Î) λr Ü=>JI Ü r:=rfl
theorem LL{Á:aw}{m:j4}{o:CE}{as:gF}{U:aM}{H:ag}:ed Á (.meth m o as) U H=cg (ab Á o U H) λx Î=>if z8 m x Î then oU Á as U Î else Ã:=rfl
theorem LK{Á:aw}{as:gF}{U:aM}{H:ag}:ed Á (.list as) U H=oU Á as U H:=rfl
theorem LJ{Á:aw}{e:CE}{r:gF}{U:aM}{H:ag}:oU Á (.cons e r) U H=TU (ed Á e U H) (cg (ab Á e U H) λz Î=>oU Á r U Î):=rfl
structure IW(fr:List Env)(J:List È)(s:Å)(c:Nat)(w:Str)(ae:ag)(ea:È)(aR:List È)(s':Å):Prop where
 hc:c=1\/c=2
 S:SE J s.heap aR s'.heap
 T:bP s s'
 X:mn fr aR ae s.heap s'.heap True P0 ea c w
def jr(A:Ñ)(Z:Env)(O:List (Str×Nat))(e:Ó)(x:aM->ag->XR):Prop:=
 ∀U H c w ae,x U H=À (c,w,ae)->∀J s,ak gg J H s.heap->eQ (bA A) J Z O U s.heap->∀(Q:Ä->Å->Prop) E,(∀ea aR s',IW (bA A) J s c w ae ea aR s'->E (.ref ea) s')->É mo A (eval e Z) Q E s
def qa(A:Ñ)(Á:aw):Prop:=
 ∀k as H c w ae,Á k as H=À (.exc c w,ae)->∀fn,fs[k]?=À fn->∀J s ci,ak gg J H s.heap->r6 (bA A) J s.heap->bz gg J s.heap as ci->∀(Q:Ä->Å->Prop) E,(∀ea aR s',IW (bA A) J s c w ae ea aR s'->E (.ref ea) s')->É mo A (PySem.call (.ref fn.addr) ci) Q E s
section
variable{A:Ñ}{E:Ä->Å->Prop}{J aj aR:List È}{H Î ae:ag}{s Ì s':Å}{Z:Env}{O:List (Str×Nat)}{U:aM}{Á:aw}{d:Nat}{c:Nat}{w:Str}{ea:È}
theorem Oz(F:r6 (bA A) J h):T8 (bA A) h:=λf hf L hl=>by obtain ⟨_,L',o,es,ep,k2,k3,_⟩:=F f hf;apply ba (sm ((hl).symm.trans k2));rw[k3];show λq=>nomatch q
theorem mn.before{ms:È->Prop}{P:Ä->Prop}(S:db ms J h aj bM)(R:ak gg J H h)(F:r6 (bA A) J h)(Y:mn (bA A) aR ae bM h' ď P ea c w):mn (bA A) aR ae h h' ď P ea c w:=by have bk:∀{b},bM.get? b=Ã->h.get? b=Ã:=λ{b} e=>ku λo q=>(S.dom b o q).elim λo' e'=>no (e.symm.trans e');show⟨Y.R,Y.FS,Oz F,λb o e=>(S.dom b o e).elim (Y.dom b),R.base,Y.X.ex.elim λx y=>⟨x,⟨y.b.he,y.b.hsz,y.b.hD,y.b.hm,bk y.b.D0,y.b.Dφ⟩,y.tb.imp id λq=>q.elim λd z=>⟨d,z.v,z.ne,z.ho,z.cls,z.data,z.f,z.p,bk z.T0,z.Tφ⟩⟩,bk Y.X.e0,Y.X.eφ,Y.X.eB⟩
theorem IW.after(S:SE J s.heap aj Ì.heap)(T:bP s Ì)(R:ak gg J H s.heap)(F:r6 (bA A) J s.heap)(x:IW (bA A) aj Ì c w ae ea aR s'):IW (bA A) J s c w ae ea aR s':=
 ⟨x.hc,S.trans x.S,T.trans x.T,x.X.before S R F⟩
theorem Dq(G:fO gg cx fs mg mb)(hC:qa A Á)(hs:∀e p,F' (.Starred e p)=Ã)(ih:∀e c,F' e=À c->aQ A Z O e (ab Á c))
  (hg:bg Z.scope f=Æ) (hk:g8 cx f=À k) (eR:as.isEmpty=Ê) (h:cj F' as=À cs):jr A Z O (.Call (.Name f p) as [] pos) (ed Á (.call k cs)):=by
 intro U H c w ae he J s R F Q E hE;rw[LI]at he;show rW he λvs Î r Ü h1 h2 he=>?_;show aP (Cy he) λq1 q2=>?_;subst q1 q2;show aF (FU G hk) λfn kY q3=>?_;subst q3;obtain ⟨hm,o,pm,cd,doc,ho,hd,oi⟩:=G.made fn (Ĥ kY);show aP (bJ hg) λlA lB=>?_;cases as with
 |nil=>cases eR
 |cons e aD=>show ca (k:=λc=>(cj F' aD).bind λcs=>À (gF.cons c cs)) h λc hc z=>ÿ N (jd G F R lA lB hm (callWith_def (o:=o) hd (Ï (gj hs ih pos h h1 R F E) (λci Ì ⟨aj,S,ay,be,T⟩=>⟨ay.base _ _ ho,(hC k vs Î _ _ _ h2 fn kY aj Ì ci ay (F.step R S).stk be _ E λea aR s' X=>hE ea aR s' (X.after S T R F.stk))⟩) λz z x=>x) (cV hs hc aD)))
theorem oE(hs:∀e p,f (.Starred e p)=Ã)(ih:∀e c,f e=À c->aQ A Z O e (ab Á c))(yn:∀e c,f e=À c->jr A Z O e (ed Á c))(pos:Pos):∀{es:List Ó} {cs:gF},cj f es=À cs ->
  ∀ ⦃U H c w ae⦄,oU Á cs U H=À (c,w,ae)->∀ ⦃J s⦄,ak gg J H s.heap->eQ (bA A) J Z O U s.heap->∀(Q:List Ä->Å->Prop) E,(∀ea aR s',IW (bA A) J s c w ae ea aR s'->E (.ref ea) s')->É mo A (spliced (ĵ pos (Ø es Z))) Q E s
 |[],cs,h=>by intro U H c w ae he J s R F Q E hE;obtain rfl:=sm h;show no he
 |e::r,cs,h=>by
  show iq h λc Fm h1 h2 h=>?_;apply dM h;intro U H c w ae he J s R F Q E hE;rw[LJ]at he;show â (Ha he) (λhe=>?_) (λq=>aP q λz he=>?_)
  ·show å (yn e _ h1 U H c w ae he J s R F _ E hE) (cV hs h1 r)
  ·show dI he λx Î hx he=>å ((ih e _ h1).bind hx R F λa Ì aj S T ay a0 be=>oE hs ih yn pos h2 he ay a0 _ E λea aR s' X=>hE ea aR s' (X.after S T R F.stk)) (cV hs h1 r)
theorem Dw(hs:∀e p,f (.Starred e p)=Ã)(ih:∀e c,f e=À c->aQ A Z O e (ab Á c))(yn:∀e c,f e=À c->jr A Z O e (ed Á c))(h:cj f es=À cs):jr A Z O (.List es pos) (ed Á (.list cs)):=by intro U H c w ae he J s R F Q E hE;rw[LK]at he;show wpAny_List_spliced (oE hs ih yn pos h he R F _ E hE)
theorem Dx(G:fO gg cx fs mg mb)(hs:∀e p,F' (.Starred e p)=Ã)(ih:∀e c,F' e=À c->aQ A Z O e (ab Á c))(yn:∀e c,F' e=À c->jr A Z O e (ed Á c))
  (ho:aQ A Z O o (ab Á a)) (OV:z9 o=Æ) (qF:(ap.endLine==pos.line)=Æ) (hp:AE m as.length=À p) (h:cj F' as=À cs):jr A Z O (.Call (.Attribute o m ap) as [] pos) (ed Á (.meth p a cs)):=by
 intro U H c w ae he J s R F Q E hE;rw[LL]at he;show dI he λx Î h1 he=>dJ he λhr he=>io (vU hp) λrN yj q3=>?_;apply ba q3;cases as with
 |nil=>cases rN
 |cons e aD=>
  show ca (k:=λc=>(cj F' aD).bind λcs=>À (gF.cons c cs)) h λc' ff h'=>ca h' λFm RT z=>ϒ ?_ ?_ qF (ho.bind h1 R F λav Ì aj S T ay a0 be=>?_)
  ·cases o with
   |Name x p=>rfl
   |Constant k n p=>rfl
   |Subscript x y p=>rfl
   |_=>cases OV
  ·rw[xO hs pos h]
   have:(e::aD).length+0+0<30:=by have:=yj;show jT (y3 0x1c001e9210b28012ba080112ba0812 N (iL yj) (iA _ _) (iA _ _))
   show decide_eq_true (p:=(e::aD).length+0+0<30) this
  ·show aP (xh (s:=Ì) hr ay be) λhT hd=>⟨qW p,qU p,qX p,s6 p,s8 p,hT,hd,callWith_method1 (oE hs ih yn pos h he ay a0 _ E λea aR s' X=>hE ea aR s' (X.after S T R F.stk)) (cV hs ff aD) (jk hs pos RT)⟩
end
theorem jt(cx:gq)(n:Nat)(sc:à)(O:List (Str×Nat))(nx:Nat)(e:Ó)(p:Pos):cr cx n sc O nx (.Starred e p)=Ã:=by cases n<;>rfl
theorem E4(h:cr cx n sc O nx x=À c):∀e q,x≠.Starred e q:=by rintro e q rfl;show no ((jt cx n sc O nx e q).symm.trans h)
theorem yD(h:cr cx n sc O nx x=À c):∀l u st p,x≠.Slice l u st p:=by rintro l u st p rfl;cases n<;>show no h
section
variable{A:Ñ}{Á:aw}{d:Nat}
theorem og(h:vO cx n sc O nx e=À it):∀x,Ě e Z x=pure x:=by
 intro x;cases e with
 |Set a b c=>show aF (ob (m:=cr cx n sc O nx (.Set a b c)) (k:=λc=>À (jq.ex c)) h) λc' h z=>?_;cases n<;>show no h
 |_=>rfl
theorem vd(h:mV it t=Æ)(hc:fX sc O e=À t):vc (o4 it) e:=by
 unfold fX at hc;cases hn:dx e with
 |some x=>
  rw[hn]at hc;show ä (bH hn) λp ht=>?_;show aF (ob hc) λi z hc=>?_;show .inr ⟨?_,x,p,ht⟩;rw[<-sm hc,mV]at h;cases hq:o4 it with
  |false=>rfl
  |true=>rw[hq]at h;show absurd h Ļ
 |none=>rw[hn]at hc;show aF (ob hc) λl hl z=>?_;show mM (qe hl) λk p ht=>?_;show .inl ⟨_,_,_,ht⟩
theorem jS(h:aQ A Z O e (ab Á c))(he:isTrue e Z (eval e Z)=(do let v <-eval e Z;standAt e.pos;holding [v] (truthy v))):
  aQ A Z O e (ab Á c)/\fC A Z O e (bW Á c):=⟨h,Dy h he⟩
def YA(A:Ñ)(Á:aw)(F:à->List (Str×Nat)->Nat->Ó->Option CE):Prop:=∀(Z:Env) O nx e c,F Z.scope O nx e=À c->aQ A Z O e (ab Á c)/\fC A Z O e (bW Á c)
theorem Hy(hA:iM A d)(lV:∃o,gg.B.get? Ą=À o)(cY:∀e c,f e=À c->aQ A Z O e (ab Á c))(h:QW f l ops rs=À c):
  aQ A Z O (.Compare l ops rs p) (ab Á c)/\fC A Z O (.Compare l ops rs p) (bW Á c):=by
 show aF (ob h) λop h1 h=>?_;show aF (ob h) λr h2 h=>?_;show aP (zy h) λhm h=>?_;show aF (ob h) λa ha h=>?_;show aF (ob h) λb hb h=>?_;obtain rfl:=sm h;obtain rfl:=bZ h1;obtain rfl:=bZ h2;show K6 hA lV (adG.mpr hm) (cY _ _ ha) (cY _ _ hb)
theorem HN(cY:∀e c,f e=À c->aQ A Z O e (ab Á c))(hG:∀e c,f e=À c->∀l u st p,e≠.Slice l u st p)(h:QY f v i=À c):
  aQ A Z O (.Subscript v i p) (ab Á c):=by
 show aF (ob h) λa ha h=>?_;by_cases hs:∃lo hi st p,i=.Slice lo hi st p
 ·show P2 hs λlo hi st q k1=>?_;subst k1
  show aP (cZ h) λfv h=>?_;show aF (ob h) λx hx h=>?_;show aF (ob h) λy hy h=>?_;obtain rfl:=sm h;cases st with
  |none=>show Li cY (cY _ _ ha) hx hy
  |some _=>show nomatch fv
 ·have h':((f i).bind λx=>À (CE.idx a x))=À c:=by
   cases i with
   |Slice lo hi st p=>show absurd ⟨lo,hi,st,p,N⟩ hs
   |_=>show h
  show aF (ob h') λx hx h=>?_;obtain rfl:=sm h;show Bw (hG _ _ hx) (cY _ _ ha) (cY _ _ hx)
theorem dq{f:Ó->Option CE}(hs:∀e p,f (.Starred e p)=Ã)(hx:f x=À a):∀e q,x≠.Starred e q:=λe q eq=>by rw[eq,hs]at hx;show no hx
theorem HE{f:Ó->Option CE}(hA:iM A d)(G:fO gg cx fs mg mb)(hs:∀e p,f (.Starred e p)=Ã)(cY:∀e c,f e=À c->aQ A Z O e (ab Á c))(hg:bg Z.scope ("isinstance":Str)=Æ)
  (h:Mb f Z.scope as=À c):aQ A Z O (.Call (.Name ("isinstance":Str) p) as [] pos) (ab Á c):=by
 show aF (ob h) λk2 hl h=>?_;obtain ⟨x,t⟩:=k2;show aF (ob h) λtn ht h=>?_;show aP (cZ h) λVG h=>?_;show aF (ob h) λq hq h=>?_;show aF (ob h) λa ha h=>?_;obtain rfl:=sm h;obtain rfl:=ik hl;show ä (bH ht) λp' k3=>?_;subst k3;show Lc hA G (dq hs ha) (cY _ _ ha) hg VG hq
theorem xr{f:Ó->Option CE}(G:fO gg cx fs mg mb)(hs:∀e p,f (.Starred e p)=Ã)(cY:∀e c,f e=À c->aQ A Z O e (ab Á c))(hg:bg Z.scope ("isinstance":Str)=Æ)
  (h:Oi f Z.scope as=À c):aQ A Z O (.Call (.Name ("isinstance":Str) p) as [] pos) (ab Á c):=by
 show aF (ob h) λk4 hl h=>?_;obtain ⟨x,t⟩:=k4;show aF (ob h) λtn ht h=>?_;show aP (cZ h) λVG h=>?_;show aF (ob h) λq hq h=>?_;show aF (ob h) λa ha h=>?_;obtain rfl:=sm h;obtain rfl:=ik hl;show ä (bH ht) λp' k5=>?_;subst k5;show Lb G (dq hs ha) (cY _ _ ha) hg VG hq
theorem Dp(hA:iM A d)(G:fO gg cx fs mg mb)(hC:tC A Á)(hs:∀e p,f (.Starred e p)=Ã)(cY:∀e c,f e=À c->aQ A Z O e (ab Á c))(hg:bg Z.scope gn=Æ)
  (h:qg f cx Z.scope gn as=À c):aQ A Z O (.Call (.Name gn p) as [] pos) (ab Á c):=by
 unfold qg at h;cases hk:g8 cx gn with
 |some k=>rw[hk]at h;show aP (zy h) λeR h=>?_;show aF (ob h) λcs im h=>?_;obtain rfl:=sm h;show xq G (hC k) hs cY hg hk (adG.mpr eR) im
 |none=>
  rw[hk]at h;by_cases hi:(gn==("isinstance":Str))=Æ
  ·replace h:=(if_pos hi).symm.trans h
   obtain rfl:=beq_iff_eq.mp hi;by_cases zj:(Me as).isSome=Æ
   ·show xr G hs cY hg ((if_pos zj).symm.trans h)
   ·show HE hA G hs cY hg ((if_neg zj).symm.trans h)
  ·replace h:=(if_neg hi).symm.trans h
   cases J8:Ir cx Z.scope gn as with
   |some q=>rw[J8]at h;show iq h λa b ha hb h=>?_;apply dM h;show dJ J8 λZO J8=>ca J8 λe he J8=>ca J8 λq2 TA J8=>dJ J8 λVH h2=>?_;obtain ⟨zn,zas⟩:=q2;rw[Ň,Ň,beq_iff_eq]at VH;show mM (iW TA) λp2 q3 En=>?_;rw[beq_iff_eq.mp ZO]at hg ⊢;rw[bZ he,En,show zn=_ from VH.1.1,show zas=_ from ik h2];show HO hA G hs cY hg VH.1.2 ha hb
   |none=>
   rw[J8]at h;show aF (ob h) λq hq h=>?_;show aF (ob h) λcs im h=>?_;obtain rfl:=sm h;show HH hA G hs cY hg hq im
set_option tactic.hygienic true in
theorem uq(h:A9 e=Æ):∃n q,e=.Constant .none n q:=by
 cases e<;>first|exact absurd h Ļ|skip
 rename_i cv n q;cases cv<;>first|exact absurd h Ļ|skip
 show⟨n,q,N⟩
theorem Do{f:Ó->Option CE}(hA:iM A d)(G:fO gg cx fs mg mb)(hs:∀e p,f (.Starred e p)=Ã)(cY:∀e c,f e=À c->aQ A Z O e (ab Á c))(hg:bg Z.scope gn=Æ)
  (h:E3 f gn as k=À c):aQ A Z O (.Call (.Name gn p) as [k] pos) (ab Á c):=by
 show aF (ob h) λx hx h=>?_;show aP (cZ h) λhc h=>?_;show aF (ob h) λa ha h=>?_;obtain rfl:=sm h
 simp only[Ň,beq_iff_eq]at hc
 show aP hc λk6 rZ=>?_;show aP k6 λWt AW=>?_;subst Wt;obtain rfl:=bZ hx;obtain ⟨ka,kv,kp⟩:=k;obtain rfl:ka=À ("default":Str):=AW;show mM (uq rZ) λn q k7=>?_;subst k7;show HG hA G (dq hs ha) (cY _ _ ha) hg
theorem Dn(hA:iM A d)(G:fO gg cx fs mg mb)(hC:tC A Á)(hs:∀e p,f (.Starred e p)=Ã)(cY:∀e c,f e=À c->aQ A Z O e (ab Á c))
  (Wb:∀as k c p,bg Z.scope ("sorted":Str)=Æ->sk as k=À c->aQ A Z O (.Call (.Name ("sorted":Str) p) as [k] pos) (ab Á c))
  (h:E2 f sk cx Z.scope fn as ks pos=À c):aQ A Z O (.Call fn as ks pos) (ab Á c):=by
 cases fn with
 |Name wA p=>
  cases ks with
  |nil=>show Dp hA G hC hs cY (cZ h).1 (cZ h).2
  |cons k ks=>
   have hk:=cZ (cZ h).2;obtain rfl:=Ų.mp hk.1;by_cases hso:(wA==("sorted":Str))=Æ
   ·have h2:=(if_pos hso).symm.trans hk.2
    obtain rfl:=beq_iff_eq.mp hso;show Wb as k c p (cZ h).1 h2
   ·have h2:=(if_neg hso).symm.trans hk.2
    show Do hA G hs cY (cZ h).1 h2
 |Attribute o m ap=>
  show aP (cZ h) λhc h=>?_;show aF (ob h) λq hq h=>?_;show aF (ob h) λa ha h=>?_;show aF (ob h) λcs im h=>?_;obtain rfl:=sm h
  simp only[Ň]at hc
  show aP hc λk8 qF=>?_;show aP k8 λhk OV=>?_;obtain rfl:=Ų.mp hk;show HF G hs cY (cY _ _ ha) OV qF hq im
 |_=>show no h
theorem Ac{Z:Env}{O:List (Str×Nat)}{f:Ó->Option CE}(hA:iM A d)(G:fO gg cx fs mg mb)(hs:∀e p,f (.Starred e p)=Ã)(cY:∀e c,f e=À c->aQ A Z O e (ab Á c)){as:List Ó}{p q:Pos}{it:jq}(hg:bg Z.scope ("range":Str)=Æ)(h:E9 f as=À it):lK A Z O (.Call (.Name ("range":Str) p) as [] q) (o4 it) (cE Á it):=by
 match as,h with
 |[],h=>show no h
 |[a],h=>show aF (ob h) λx hx h=>?_;obtain rfl:=sm h;show HJ hA G hg (dq hs hx) (cY _ _ hx)
 |[a,b],h=>show aF (ob h) λx hx h=>?_;show aF (ob h) λy hy h=>?_;obtain rfl:=sm h;show HK hA G hg (dq hs hx) (dq hs hy) (cY _ _ hx) (cY _ _ hy)
 |a::b::c::r,h=>show aF (ob h) λx hx h=>?_;show aF (ob h) λy hy h=>?_;show aF (ob h) λz hz h=>?_;show aP (cZ h) λhr h=>?_;obtain rfl:=sm h;obtain rfl:=Ų.mp hr;show HL hA G hg (dq hs hx) (dq hs hy) (dq hs hz) (cY _ _ hx) (cY _ _ hy) (cY _ _ hz)
theorem HM(hA:iM A d)(G:fO gg cx fs mg mb)(hs:∀e p,f (.Starred e p)=Ã)(cY:∀e c,f e=À c->aQ A Z O e (ab Á c))(hg:bg Z.scope gn=Æ)
  (h:Ok f gn as (.Call (.Name gn p) as [] q)=À it):lK A Z O (.Call (.Name gn p) as [] q) (o4 it) (cE Á it):=by
 unfold Ok at h;by_cases h1:(gn==("range":Str))=Æ
 ·replace h:=(if_pos h1).symm.trans h
  obtain rfl:=beq_iff_eq.mp h1;show Ac hA G hs cY hg h
 ·replace h:=(if_neg h1).symm.trans h
  by_cases h2:(gn==("zip":Str))=Æ
  ·replace h:=(if_pos h2).symm.trans h
   show aF (ob h) λk9 hl h=>?_;obtain ⟨a,b⟩:=k9;show aF (ob h) λx hx h=>?_;show aF (ob h) λy hy h=>?_;obtain rfl:=sm h;obtain rfl:=ik hl;obtain rfl:=beq_iff_eq.mp h2;show Ll hA G hg (dq hs hx) (dq hs hy) (cY _ _ hx) (cY _ _ hy)
  ·replace h:=(if_neg h2).symm.trans h
   by_cases h3:(gn==("enumerate":Str))=Æ
   ·replace h:=(if_pos h3).symm.trans h
    show aF (ob h) λa hl h=>?_;show aF (ob h) λx hx h=>?_;obtain rfl:=sm h;obtain rfl:=bZ hl;obtain rfl:=beq_iff_eq.mp h3;show K9 hA G hg (dq hs hx) (cY _ _ hx)
   ·replace h:=(if_neg h3).symm.trans h
    show aF (ob h) λc hc h=>?_;obtain rfl:=sm h;show HB hA (cY _ _ hc)
theorem Bx(hA:iM A d)(G:fO gg cx fs mg mb)(hs:∀e p,f (.Starred e p)=Ã)(cY:∀e c,f e=À c->aQ A Z O e (ab Á c))(h:Eg f cx Z.scope e=À it):lK A Z O e (o4 it) (cE Á it):=by
 have ex:Cj f e=À it->lK A Z O e (o4 it) (cE Á it):=λh=>by show aF (ob h) λc hc h=>?_;obtain rfl:=sm h;show HB hA (cY _ _ hc)
 unfold Eg at h;cases hp:j9 e with
 |none=>rw[hp]at h;show ex h
 |some p=>
  rw[hp]at h;obtain ⟨gn,as⟩:=p;by_cases hg:(bg Z.scope gn&&(g8 cx gn).isNone)=Æ
  ·replace h:=(if_pos hg).symm.trans h
   have IF:bg Z.scope gn=Æ:=(Ņ.mp hg).1;show mM (iW hp) λp q CV=>?_;subst CV;show HM hA G hs cY IF h
  ·show ex ((if_neg hg).symm.trans h)
theorem vQ(h:W6 F fI sc O nx elt ua scope=À a):
  ∃aI cU ifs it t cs c,ua=[⟨aI,cU,ifs,0⟩]/\tO scope sc O nx (bh aI)=Æ/\fI cU=À it/\fX (jh scope sc) (cq scope O nx (bh aI)) aI=À t /\
   cj (F (jh scope sc) (cq scope O nx (bh aI)) (nx+2)) ifs=À cs/\F (jh scope sc) (cq scope O nx (bh aI)) (nx+2) elt=À c/\mV it t=Æ/\a=.comp c t it cs:=by
 show aF (ob h) λGy h1 h=>?_;obtain ⟨aI,cU,ifs,as⟩:=Gy;show aP (cZ h) λpM h=>?_;show aP (Ņ.mp pM) λha pM=>?_;show aF (ob h) λit sP h=>?_;show aF (ob h) λt ht h=>?_;show aF (ob h) λcs im h=>?_;show aF (ob h) λc hc h=>?_;show aP (cZ h) λMP h=>?_;have ff:=(sm h).symm;obtain rfl:=bZ h1;obtain rfl:as=0:=beq_iff_eq.mp ha;show⟨aI,cU,ifs,it,t,cs,c,rfl,pM,sP,ht,im,hc,MP,ff⟩
theorem nz(hA:iM A d)(G:fO gg cx fs mg mb)(hC:tC A Á):∀n,YA A Á (cr cx n):=by
 intro n
 induction n with
 |zero=>show λZ O nx e c h=>no h
 |succ n ih=>
  intro Z O nx e;have hs:∀e p,cr cx n Z.scope O nx (.Starred e p)=Ã:=λe p=>jt ..;have cY:∀e c,cr cx n Z.scope O nx e=À c->aQ A Z O e (ab Á c):=λe c h=>(ih Z O nx e c h).1;have MY:∀e c,cr cx n Z.scope O nx e=À c->fC A Z O e (bW Á c):=λe c h=>(ih Z O nx e c h).2;show Gd (λc=>aQ A Z O e (ab Á c)/\fC A Z O e (bW Á c)) (yC (cr cx n) (λi=>Eg (cr cx n Z.scope O nx) cx Z.scope i) cx Z.scope O nx e);cases e with
  |Constant k _ _=>show ah λv hv=>aK (jS (oH hv) N)
  |Name x p=>show λc h=>jS (rz G h) N
  |BinOp l op r p=>show ah λa ha=>ah λb hb=>aK (jS (K0 (cY _ _ ha) (cY _ _ hb)) N)
  |UnaryOp op x p=>
   show ah λa ha=>?_;cases op with
   |Not=>show aK (Bz (cY _ _ ha) (MY _ _ ha))
   |USub=>show aK (jS (By (cY _ _ ha)) N)
   |_=>show eO
  |BoolOp op vs p=>show λc h=>⟨oF cY _ _ _ _ h,λU H b ae he J s R F E=>oG MY _ _ _ _ _ h U H b ae he J s R F E⟩
  |IfExp t a b p=>show ah λx hx=>ah λy hy=>ah λz hz=>aK (Ld (MY _ _ hx) (cY _ _ hy) (MY _ _ hy) (cY _ _ hz) (MY _ _ hz))
  |Compare l ops rs p=>show λc h=>Hy hA G.sys cY h
  |List es p=>show ah λcs im=>aK (jS (xw hs cY im) N)
  |Tuple es k p=>show ah λcs im=>aK (jS (ti hs cY im) N)
  |Dict ks vs p=>show c7 λhk=>aK ?_;show aP (Ņ.mp hk) λh1 h2=>?_;obtain rfl:=Ų.mp h1;obtain rfl:=Ų.mp h2;show jS Du rfl
  |Subscript v i p=>show λc h=>jS (HN cY (λe c h=>yD h) h) N
  |Call fn as ks p=>show λc h=>jS (Dn hA G hC hs cY (λas k c q hg hk=>DB hA G hs cY hg hk) h) N
  |Attribute o a p=>
   show c7 λhw=>ah λc' ff=>aK ?_
   simp only[Ň,beq_iff_eq]at hw
   show aP hw λKi hn=>?_;subst Ki;show ä (abE.mp hn) λx hx=>?_;show ä (bH hx) λq Sb=>?_;subst Sb;show jS (xy G (cY _ _ ff)) N
  |ListComp elt ua scope pos=>
   intro c h;show IA (vQ h) λaI cU ifs it t k27=>?_;show UT k27 λcs c' Sc pM sP ht im ff k28=>?_;show aP k28 λMP Sd=>?_;subst Sc;subst Sd;show jS (Hz hA (sE pM) (og sP) (vd MP ht) (Bx hA G hs cY sP) ht (λe' IE=>?_) im λe' IE e c h=>?_) N
   ·rw[<-IE]at ff;show(ih _ _ _ _ _ ff).1
   ·rw[<-IE]at h;show(ih _ _ _ _ _ h).2
  |_=>show eO
theorem xt(hA:iM A d)(G:fO gg cx fs mg mb)(hC:tC A Á)(n:Nat)(Z:Env)(O:List (Str×Nat))(nx:Nat)(e:Ó)(it:jq)(h:vO cx n Z.scope O nx e=À it):lK A Z O e (o4 it) (cE Á it):=
 Bx hA G (λe p=>jt ..) (λe c h=>(nz hA G hC n Z O nx e c h).1) h
theorem cb(h:∀U H,ed Á c U H=Ã):jr A Z O e (ed Á c):=λU H c w ae he=>no ((h U H).symm.trans he)
theorem Ab(G:fO gg cx fs mg mb)(hC:qa A Á)(hs:∀e p,f (.Starred e p)=Ã)(cY:∀e c,f e=À c->aQ A Z O e (ab Á c))(yn:∀e c,f e=À c->jr A Z O e (ed Á c))
  (Wb:∀as k c,sk as k=À c->∃a b d,c=.sortK a b d):Gd (λc=>jr A Z O (.Call fn as ks pos) (ed Á c)) (E2 f sk cx Z.scope fn as ks pos):=by
 cases fn with
 |Name wA p=>
  cases ks with
  |nil=>
   show c7 λhg=>?_;show Gd _ (qg f cx Z.scope wA as);unfold qg;cases hk:g8 cx wA with
   |some k=>show qB λeR=>ah λcs im=>aK (Dq G hC hs cY hg hk (adG.mpr eR) im)
   |none=>show kf (λz=>kf (λz=>ah λz z=>ah λz z=>c7 λz=>ah λz z=>ah λz z=>aK (cb λz z=>rfl)) λz=>ah λz z=>ah λz z=>c7 λz=>ah λz z=>ah λz z=>aK (cb λz z=>rfl)) λz=>(by
    cases Ir cx Z.scope wA as with
    |some q=>show ah λz z=>ah λz z=>aK (cb λz z=>rfl)
    |none=>show ah λz z=>ah λz z=>aK (cb λz z=>rfl))
  |cons k ks=>
   show c7 λhg=>c7 λhk=>kf (λz c h=>?_) λz=>?_
   ·show yO (Wb _ _ _ h) λz z z k39=>?_;subst k39
    show cb λz z=>rfl
   ·show ah λz z=>c7 λz=>ah λz z=>aK (cb λz z=>rfl)
 |Attribute o m ap=>
  show c7 λhc=>ah λq hq=>ah λa ha=>ah λcs im=>aK ?_
  simp only[Ň]at hc
  show aP hc λWs qF=>?_;show aP Ws λhk OV=>?_;obtain rfl:=Ų.mp hk;show Dx G hs cY yn (cY _ _ ha) OV qF hq im
 |_=>show eO
theorem Fa(h:Tb fI cx sc O nx as k=À c):∃a b d,c=.sortK a b d:=by show aF (ob h) λz z h=>?_;show aF (ob h) λz z h=>?_;show aF (ob (cZ h).2) λz z h=>?_;show aF (ob (cZ h).2) λz z h=>?_;show⟨_,_,_,(sm h).symm⟩
theorem rx(hA:iM A d)(G:fO gg cx fs mg mb)(hC:tC A Á)(hX:qa A Á):∀n (Z:Env) O nx e c,cr cx n Z.scope O nx e=À c->jr A Z O e (ed Á c):=by
 intro n
 induction n with
 |zero=>show λZ O nx e c h=>no h
 |succ n ih=>
  intro Z O nx e;have hs:∀e p,cr cx n Z.scope O nx (.Starred e p)=Ã:=λe p=>jt ..;have cY:∀e c,cr cx n Z.scope O nx e=À c->aQ A Z O e (ab Á c):=λe c h=>(nz hA G hC n Z O nx e c h).1;show Gd (λc=>jr A Z O e (ed Á c)) (yC (cr cx n) (λi=>Eg (cr cx n Z.scope O nx) cx Z.scope i) cx Z.scope O nx e);cases e with
  |Constant k _ _=>show ah λv hv=>aK (cb λj j=>rfl)
  |Name x p=>show qB λj=>ah λk j=>kf (λj=>ah λi j=>aK (cb λj j=>rfl)) λj=>c7 λj=>ah λi j=>aK (cb λj j=>rfl)
  |BinOp l op r p=>show ah λa ha=>ah λb hb=>aK (cb λj j=>rfl)
  |UnaryOp op x p=>
   show ah λa ha=>?_;cases op with
   |Not=>show aK (cb λj j=>rfl)
   |USub=>show aK (cb λj j=>rfl)
   |_=>show eO
  |BoolOp op vs p=>
   cases vs with
   |nil=>show eO
   |cons e r=>
    cases r with
    |nil=>show λc h U H c w ae he J s R F Q E hE=>BoolOp_one (ih _ _ _ _ _ h U H c w ae he J s R F _ E hE)
    |cons e' r=>show ah λa ha=>ah λb hb=>aK (by cases op<;>show cb λj j=>rfl)
  |IfExp t a b p=>show ah λx hx=>ah λy hy=>ah λz hz=>aK (cb λj j=>rfl)
  |Compare l ops rs p=>show ah λj j=>ah λj j=>qB λj=>ah λj j=>ah λj j=>aK (cb λj j=>rfl)
  |List es p=>show ah λcs im=>aK (Dw hs cY (λe c h=>ih _ _ _ _ _ h) im)
  |Tuple es k p=>show ah λcs im=>aK (cb λj j=>rfl)
  |Dict ks vs p=>show c7 λhk=>aK (cb λj j=>rfl)
  |Subscript v i p=>
   show ah λa ha=>?_;cases i with
   |Slice lo hi st p=>show c7 λj=>ah λj j=>ah λj j=>aK (cb λj j=>rfl)
   |_=>show ah λj j=>aK (cb λj j=>rfl)
  |Call fn as ks p=>show Ab G hX hs cY (λe c h=>ih _ _ _ _ _ h) (sk:=Tb (λi=>Eg (cr cx n Z.scope O nx) cx Z.scope i) cx Z.scope O nx) (λas k c h=>Fa h)
  |Attribute o a p=>show c7 λj=>ah λj j=>aK (cb λj j=>rfl)
  |ListComp elt ua scope pos=>show ah λj j=>c7 λj=>ah λj j=>ah λj j=>ah λj j=>ah λj j=>c7 λj=>aK (cb λj j=>rfl)
  |_=>show eO
theorem Dv(hA:iM A d)(G:fO gg cx fs mg mb)(hC:tC A Á)(hX:qa A Á)(n:Nat)(Z:Env)(O:List (Str×Nat))(nx:Nat)(e:Ó)(it:jq)(h:vO cx n Z.scope O nx e=À it):jr A Z O e (JH Á it):=by
 cases it with
 |ex c=>have gR:cr cx n Z.scope O nx e=À c:=(tL _ (show Eg (cr cx n Z.scope O nx) cx Z.scope e=À (.ex c) from h)).elim (λq=>aF q λc' e hc=>hc.trans (congrArg Wn e).symm) λq=>q.elim (λq=>P2 q λz z z z q=>absurd (congrArg TP q.1) afu) λq=>absurd q.symm (acd 1);show rx hA G hC hX n Z O nx e c gR
 |_=>show λU H c w ae he=>no he
end
section
variable{A:Ñ}{Á:aw}{d:Nat}
theorem Ji(cx:gq)(n:Nat)(sc:à)(O:List (Str×Nat))(e:Ó)(p:Pos):cQ cx sc O n (.Starred e p)=Ã:=by cases n<;>rfl
theorem Hx(G:fO gg cx fs mg mb)(hQ:∀k∈cx.calm,r7 A Á k)(Z:Env)(O:List (Str×Nat)):∀n e c,cQ cx Z.scope O n e=À c->aQ A Z O e (ab Á c)/\fC A Z O e (bW Á c):=by
 intro n
 induction n with
 |zero=>show λe c h=>no h
 |succ n ih=>
  intro e;have hs:∀e p,cQ cx Z.scope O n (.Starred e p)=Ã:=λe p=>Ji ..;have cY:∀e c,cQ cx Z.scope O n e=À c->aQ A Z O e (ab Á c):=λe c h=>(ih e c h).1;have MY:∀e c,cQ cx Z.scope O n e=À c->fC A Z O e (bW Á c):=λe c h=>(ih e c h).2;show Gd (λc=>aQ A Z O e (ab Á c)/\fC A Z O e (bW Á c)) (W7 (cQ cx Z.scope O n) cx Z.scope O e);cases e with
  |Constant k _ _=>show ah λv hv=>aK (jS (oH hv) N)
  |Name x p=>show λc h=>jS (rz G h) N
  |UnaryOp op x p=>
   show ah λa ha=>?_;cases op with
   |Not=>show aK (Bz (cY _ _ ha) (MY _ _ ha))
   |USub=>show aK (jS (By (cY _ _ ha)) N)
   |_=>show eO
  |BoolOp op vs p=>show λc h=>⟨oF cY _ _ _ _ h,λU H b ae he J s R F E=>oG MY _ _ _ _ _ h U H b ae he J s R F E⟩
  |List es p=>show ah λcs im=>aK (jS (xw hs cY im) N)
  |Attribute o a p=>
   show c7 λhw=>ah λc' ff=>aK ?_
   simp only[Ň,beq_iff_eq]at hw
   show aP hw λq1 hn=>(ä (abE.mp hn) λx hx=>?_);apply ba q1;show ä (bH hx) λq q2=>?_;subst q2;show jS (xy G (cY _ _ ff)) N
  |Call fn as ks p=>
   show ah λgn hn=>c7 λhc=>ä (bH hn) λp' q2=>?_;apply ba q2
   simp only[Ň]at hc
   show aP hc λhk hg=>?_;apply ba (Ų.mp hk);cases hk:g8 cx gn with
   |some k=>
    show qB λeR=>ah λcs im=>aK ?_
    simp only[ϡ,not_or,afg,ϔ,Bool.not_eq_false]at eR
    show jS (xq G (hQ k (by simpa using eR.2)) hs cY hg hk eR.1 im) rfl
   |none=>show c7 λhi c h=>?_;obtain rfl:=beq_iff_eq.mp hi;show jS (xr G hs cY hg h) rfl
  |_=>show eO
end
def yq(fr:List Env)(J:List È)(Z:Env)(O:List (Str×Nat))(s:Å):cA->aM->ag->PySem.Flow->Å->Prop
 |.next,aT,ae,f,s'=>f=.next/\IL fr J Z O s aT ae s'
 |.ret v,_,ae,f,s'=>∃a aR,f=.ret a/\db (FM J Z) J s.heap aR s'.heap/\ak gg aR ae s'.heap/\VR gg aR s'.heap v a/\bP s s'
 |.exc _ _,_,_,_,_=>False
def Ax(ď:Prop)(fr:List Env)(J:List È)(Z:Env)(s:Å):cA->ag->Ä->Å->Prop
 |.exc c w,ae,e,s'=>∃aR ea L,e=.ref ea/\Z.frame=À L/\(c=1\/c=2)/\db (FM J Z) J s.heap aR s'.heap/\bP s s'/\mn fr aR ae s.heap s'.heap ď (PL L) ea c w
 |_,_,_,_=>False
abbrev S8(fr:List Env)(J:List È)(Z:Env)(s:Å)(fl:cA)(ae:ag)(e:Ä)(s':Å):Prop:=Ax True fr J Z s fl ae e s'
structure FX(A:Ñ)(Z:Env):Prop where
 top:∃bT,A.frames=À (Z::bT)
 own:∃L,Z.frame=À L
def kW(A:Ñ)(Z:Env)(O:List (Str×Nat))(st:đ)(m:aM->ag->Option (cA×aM×ag)):Prop:=
 ∀U H fl aT ae,m U H=À (fl,aT,ae)->∀J s,ak gg J H s.heap->eQ (bA A) J Z O U s.heap->∀E,(∀e s',S8 (bA A) J Z s fl ae e s'->E e s')->É mo A (exec st Z) (yq (bA A) J Z O s fl aT ae) E s
def lq(A:Ñ)(Z:Env)(O:List (Str×Nat))(st:List đ)(m:aM->ag->Option (cA×aM×ag)):Prop:=
 ∀U H fl aT ae,m U H=À (fl,aT,ae)->∀J s,ak gg J H s.heap->eQ (bA A) J Z O U s.heap->∀E,(∀e s',S8 (bA A) J Z s fl ae e s'->E e s')->É mo A (execs st Z) (yq (bA A) J Z O s fl aT ae) E s
section
variable{A:Ñ}{E:Ä->Å->Prop}{J aj:List È}{H Î ae:ag}{s Ì:Å}{Z:Env}{O:List (Str×Nat)}{U aT:aM}{Á:aw}{d:Nat}
theorem yq.after(S:db (FM J Z) J s.heap aj Ì.heap)(T:bP s Ì)(h:yq (bA A) aj Z O Ì fl aT ae f da):yq (bA A) J Z O s fl aT ae f da:=by
 cases fl with
 |next=>obtain ⟨e,aR,S',R',F',T'⟩:=h;show⟨e,aR,FM.trans S S',R',F',T.trans T'⟩
 |ret v=>show Mk h λa aR e S' R' V' T'=>⟨a,aR,e,FM.trans S S',R',V',T.trans T'⟩
 |exc c w=>show h.elim
theorem Ax.after(S:db (FM J Z) J s.heap aj Ì.heap)(T:bP s Ì)(R:ak gg J H s.heap)(F:r6 (bA A) J s.heap)(h:Ax ď (bA A) aj Z Ì fl ae e da):Ax ď (bA A) J Z s fl ae e da:=by
 cases fl with
 |next=>show h
 |ret v=>show h
 |exc c w=>show Te h λaR ea L h1 h2 h3 S' T' X=>⟨aR,ea,L,h1,h2,h3,FM.trans S S',T.trans T',X.before S R F⟩
theorem IW.stm(K:FX A Z)(x:IW (bA A) J s c w ae ea aR s'):S8 (bA A) J Z s (.exc c w) ae (.ref ea) s':=by show ä K.own λL hL=>⟨aR,ea,L,N,hL,x.hc,db.ofSE x.S Z,x.T,x.X.mono (λq=>q) λf q=>.inl q⟩
theorem db.xkp(S:db ms J aY aR h)(K:yi aY h h' e):db ms J aY aR h':=
 ⟨λb o e hb=>(S.pres b o e hb).then λo' e'=>K.old b o' e' (by rw[e];show λq=>nomatch q),λb o e=>by show ä (S.dom b o e) λo' e'=>?_;show K.dom b o' e',S.ext⟩
theorem Ax.note(K:FX A Z)(x:Ax ď (bA A) J Z s fl ae e s')(hQ:∀pb,Ax False (bA A) J Z s fl ae e pb->Q () pb):É mo A (noteFrame e Z) Q E s':=by
 cases fl with
 |next=>show x.elim
 |ret v=>show x.elim
 |exc c w=>show Te x λaR ea L q4 h2 h3 S' T' X=>(ä K.top λbT ho=>?_);subst q4;show zW ho h2 X λh' X' K'=>hQ _ ⟨aR,ea,L,N,h2,h3,S'.xkp K',T'.trans ⟨N,N,N⟩,X'⟩
theorem Ax.back(x:Ax False (bA A) J Z s fl ae e s')(hE:∀pb,S8 (bA A) J Z s fl ae e pb->E' e pb):ĩ mo A Z E' e s':=by
 cases fl with
 |next=>show x.elim
 |ret v=>show x.elim
 |exc c w=>show Te x λaR ea L q4 h2 h3 S' T' X=>?_;subst q4;show Of h2 X λh' X' K'=>hE _ ⟨aR,ea,L,N,h2,h3,S'.xkp K',T'.trans ⟨N,N,N⟩,X'.mono (λq=>q.elim) λz q=>q⟩
theorem Af(hv:∀a b c d,v≠.ListComp a b c d)(hc:cr cx n sc O nx v=À c):ķ v (À t) ln Z=pure Ê:=by
 cases v with
 |ListComp a b c d=>show absurd N (hv a b c d)
 |SetComp a b c d=>cases n<;>show no hc
 |DictComp a b c d e=>cases n<;>show no hc
 |_=>rfl
theorem ry(hA:iM A d)(ht:fX Z.scope O (.Name x p)=À t)(hs:ķ v (À (.Name x p)) pos.line Z=pure Ê)(K:FX A Z)(Wf:jr A Z O v (ed Á a))(hv:aQ A Z O v (ab Á a)):
  kW A Z O (.Assign [.Name x p] v pos) (bL Á (.assign t a)):=by
 intro U H fl aT ae he J s R F E hE;rw[gQ]at he;rcases fW he with he|⟨c,w,rfl,rfl,hx⟩
 rotate_left
 ·show wpAny_Assign_Name (Wf _ H c w ae hx J s R F _ E λea aR s' X=>hE _ _ (X.stm K)) hs
 show dI he λx' Î h1 he=>ca he λcO hp he=>?_;apply i6 he;show wpAny_Assign_Name (hv.bind h1 R F λav Ì aj S T ay a0 be=>?_) hs;show eK (sA ht) λi q2 hx hk=>?_;subst q2;apply dM hp;show fK a0 ay hx hk be λh' tk S' R' F' z=>⟨N,aj,FM.trans (db.ofSE S Z) (S'.mono λb hb=>â hb (λhb=>?_) (λhb=>?_)),R',F',T.trans ⟨N,N,N⟩⟩
 ·show .inr (.inl hb)
 ·show .inr (.inr ⟨x,hb⟩)
theorem xp(hA:iM A d)(ht:fX Z.scope O (.Tuple ts k p)=À t)(hs:swapsWithSole [.Tuple ts k p] v pos.line Z=pure Ê)(hw:swappedStores [.Tuple ts k p] v Z=pure Ã)(K:FX A Z)(Wf:jr A Z O v (ed Á a))(hv:aQ A Z O v (ab Á a)):
  kW A Z O (.Assign [.Tuple ts k p] v pos) (bL Á (.assign t a)):=by
 intro U H fl aT ae he J s R F E hE;rw[gQ]at he;rcases fW he with he|⟨c,w,rfl,rfl,hx⟩
 rotate_left
 ·show Assign_Tuple (Wf _ H c w ae hx J s R F _ E λea aR s' X=>hE _ _ (X.stm K)) hs hw
 show dI he λx' Î h1 he=>ca he λcO hp he=>?_;apply i6 he;show Assign_Tuple (hv.bind h1 R F λav Ì aj S T ay a0 be=>?_) hs hw;show ve hA.handled ht hp ay a0 be λh' tk S' R' F' z=>⟨N,aj,FM.trans (db.ofSE S Z) (S'.mono λb hb=>hb.fm),R',F',T.trans ⟨N,N,N⟩⟩
theorem xo{x:Str}{p pos:Pos}{elt aI cU:Ó}{ifs:List Ó}{scope:à}{py:Pos}{nx:Nat}{t t':jR}{it:jq}{c:CE}{cs:gF}{F':Ó->Option CE}{two:Bool}
  (hA:iM A d) (ht:fX Z.scope O (.Name x p)=À t') (Qf:ķ (.ListComp elt [⟨aI,cU,ifs,0⟩] scope py) (À (.Name x p)) pos.line Z=pure Æ)
  (K:lJ scope Z.scope O nx (bh aI)) (hs:∀x,Ě cU Z x=pure x) (Eu:vc two aI)
  (hi:lK A Z O cU two (cE Á it)) (CK:fX (jh scope Z.scope) (cq scope O nx (bh aI)) aI=À t)
  (hE:∀e',e'.scope=jh scope Z.scope->aQ A e' (cq scope O nx (bh aI)) elt (ab Á c)) (im:cj F' ifs=À cs) (hT:∀e',e'.scope=jh scope Z.scope->∀e c,F' e=À c->fC A e' (cq scope O nx (bh aI)) e (bW Á c)) :
  kW A Z O (.Assign [.Name x p] (.ListComp elt [⟨aI,cU,ifs,0⟩] scope py) pos) (bL Á (.assign t' (.comp c t it cs))):=by
 intro U H fl aT ae he J s R F E hE0;rw[gQ]at he;rcases fW he with he|⟨c,w,rfl,rfl,hx⟩
 rotate_left
 ·show no hx
 show dI he λx' bC IC he=>oO IC λxs w Î h1 IC=>dI IC λl Ü h2 IC=>ca he λcO hp he=>?_;apply i6 he;show io (gb IC) λhz q2 q3=>?_;subst q2 q3
 ····show eK (sA ht) λi q2 hx hk=>?_;subst q2
     apply dM hp;rw[exec_Assign_Name_used _ _ _ _ Qf];show Â (ĕ (Â ?_));show É _ A (do let _ <-comprehension (.ListComp elt [⟨aI,cU,ifs,0⟩] scope py) scope Z _ (newList []) Ê (eval cU Z) (À (assign (.Name x p) Z))) _ _ s;show Â (Ï (sF (use:=À (assign (.Name x p) Z)) (Q:=λz s'=>yq (bA A) J Z O s .next (cR U i (.ref Ü.length)) (Ü++[.lst l]) .next s') hA K hs Eu hi CK hE im hT h1 h2 hz R F λD C s' En hC=>?_) (λz s' hq=>Ç (Ç hq)) λz z e=>e);obtain ⟨aR,S,R',V',T,FV,m,hn⟩:=id En;have a0:=F.step R S
     have Xm:C≠Z.locals:=by rintro rfl;show aF F.ns λm' k5 z=>?_;show oS k5 λo z z ho z=>?_;rw[hC]at ho;show no ho
     have Xn:∀y,Z.cells.lookup y≠À C:=λy e=>by show aP (F.cellF y C e) λk6 z=>?_;show gm k6 λu o ho z=>?_;rw[hC]at ho;show no ho
     show É _ A (assign (.Name x p) Z (.ref D)) _ _ _;show Ĳ (fK a0 R' hx hk V' λjA tk dg bw eH up=>?_);have AX:jA.Ns C m:=gJ.ns hn λo ho=>dg.pres _ _ ho (λq=>by rcases q with q|q;show Xm q;show Xn x q);show⟨m,AX,λeE hW=>⟨rfl,aR,?_,?_,?_,T.trans ⟨rfl,rfl,rfl⟩⟩⟩
     ·have IQ:db (FM J Z) J s.heap aR jA:=FM.trans (db.ofSE S Z) (dg.mono λb hb=>by rcases hb with hb|hb;show .inr (.inl hb);show .inr (.inr ⟨x,hb⟩))
      have iQ:ak gg aR (Ü++[.lst l]) eE:=bw.other FV (aV R hC) (λb o hb e=>hW.extBut b o hb e) (Ns.noSeq AX);show db.mv (wr:=[C]) IQ iQ (λb o hb z e=>hW.extBut b o (λq=>hb (W'.mpr q)) e) (λz q=>.inl q) (by simpa using hC)
     ·show bw.other FV (aV R hC) (λb o hb e=>hW.extBut b o hb e) (Ns.noSeq AX)
     ·show eH.mv (wr:=[C]) (λb o hb z e=>hW.extBut b o (λq=>hb (W'.mpr q)) e) (λb hb o e=>?_) (by simpa using λq=>Xm q.symm) (λy c e=>by simp;rintro rfl;show Xn y e) λe he L hf=>?_
      ·simp at hb;subst hb
       show Ns.noSeq AX o e
      ·obtain ⟨_,L',o,es,ep,k2,k3,_⟩:=F.stk e he
       apply ba (sm ((hf).symm.trans k2))
       simp only[W'];rintro rfl
       rw[hC]at k3;show no k3
theorem xx(hs:ķ v (À (.Subscript o i p)) pos.line Z=pure Ê)(ho:aQ A Z O o (ab Á a))(hi:aQ A Z O i (ab Á b))(hv:aQ A Z O v (ab Á c)):
  kW A Z O (.Assign [.Subscript o i p] v pos) (bL Á (.setItem a b c)):=by
 intro U H fl aT ae he J s R F E hE;rw[qn]at he;show rW he λx Î y Ü h1 h2 he=>?_;show dI he λz bC h3 he=>ca he λlH h4 he=>?_;apply i6 he;show wpAny_Assign_Subscript (hv.bind h1 R F λa Ì aj S T ay a0 be=>ho.bind h2 ay a0 λb da cP dg gr bw eH dH=>hi.bind h3 bw eH λc iu tz iU tD iQ p8 EG=>?_) hs;show KZ h4 iQ (dH.step bw iU) EG ((be.step ay dg).step bw iU) λh' tk S' R'=>⟨N,tz,db.ofSE (S.trans (dg.trans (iU.trans S'))) Z,R',p8.step iQ S',T.trans (gr.trans (tD.trans ⟨N,N,N⟩))⟩
theorem HD(hm:m.isStep=Æ)(hk:Z.scope.kind=.function)(hs:ķ e Ã pos.line Z=pure Ê)(K:FX A Z)(hX:jr A Z O e (ed Á (.meth m o as)))(he:aQ A Z O e (ab Á (.meth m o as))):
  kW A Z O (.Expr e pos) (bL Á (.expr (.meth m o as))):=by
 intro U H fl aT ae h J s R F E hE;rw[AP]at h;rcases fW h with h|⟨c,w,rfl,rfl,hx⟩
 rotate_left
 ·show wpAny_Expr (hX _ H c w ae hx J s R F _ E λea aR s' X=>hE _ _ (X.stm K)) (by unfold interactive;rw[hk];rfl) hs
 show gm (i7 h) λv Î q h=>io (Nx h) λCV Gy Ki=>?_;apply fQ CV;apply fQ Gy;apply fQ Ki
 have hv:v=.none:=by show gm (i7 q) λx Ü z q=>aP (cZ q) λz q=>gm (i7 q) λvs bC z q=>DG hm q
 subst hv;show wpAny_Expr (he.bind q R F λa Ì aj S T ay a0 be=>?_) (by unfold interactive;rw[hk];rfl) hs;cases be;show⟨N,aj,db.ofSE S Z,ay,a0,T⟩
theorem PM(ht:fC A Z O t (bW Á c))(ha:lq A Z O a (aN Á x))(hb:lq A Z O b (aN Á y)):kW A Z O (.If t a b pos) (bL Á (.ite c x y)):=by
 intro U H fl aT ae h J s R F E hE;show j8 h λp Î h1 h=>wpAny_If (ht.bind (bN h1) R F λÌ aj S T ay a0=>?_);cases p with
 |true=>show Ï (ha U Î fl aT ae h aj Ì ay a0 E λe s' X=>hE e s' (X.after (db.ofSE S Z) T R F.stk)) (λz z x=>yq.after (db.ofSE S Z) T x) λz z x=>x
 |false=>show Ï (hb U Î fl aT ae h aj Ì ay a0 E λe s' X=>hE e s' (X.after (db.ofSE S Z) T R F.stk)) (λz z x=>yq.after (db.ofSE S Z) T x) λz z x=>x
theorem Lh(K:FX A Z)(hX:jr A Z O e (ed Á c))(he:aQ A Z O e (ab Á c)):kW A Z O (.Return (À e) pos) (bL Á (.ret c)):=by
 intro U H fl aT ae h J s R F E hE;rw[lT]at h;rcases fW h with h|⟨c',w,rfl,rfl,hx⟩
 rotate_left
 ·show ę (hX _ H c' w ae hx J s R F _ E λea aR s' X=>hE _ _ (X.stm K))
 show dI h λv Î q h=>?_;apply i6 h;show ę (he.bind q R F λa Ì aj S T ay a0 be=>⟨a,aj,N,db.ofSE S Z,ay,be,T⟩)
theorem DA(hA:iM A d)(G:fO gg cx fs mg mb)(K:FX A Z)(hg:bg Z.scope x=Æ)(zj:gZ.lookup x=À c)(hc:c=1\/c=2)(hG:∀y q,e≠.Starred y q)(hx:aQ A Z O e (ab Á a)):
  kW A Z O (.Raise (À (.Call (.Name x np) [e] [] py)) Ã pos) (bL Á (.raise_ c a)):=by
 intro U H fl aT ae h J s R F E hE;rw[wg]at h;show dI h λv Î h1 h=>ca h λw h2 h=>io (Nx h) λq1 q2 q3=>?_;subst q1 q2 q3
 have hv:v=.str w:=by
  cases v<;>first|exact no h2|skip
  show congrArg _ (sm h2)
 subst hv;show KQ hA G hg zj hc hG hx h1 R F λea aj s' S T X=>hE _ _ (IW.stm K ⟨hc,S,T,X⟩)
theorem Lf:lq A Z O [] (aN Á .nil):=by intro U H fl aT ae h J s R F E hE;apply i6 h;show ġ ⟨rfl,J,db.refl _ _ _,R,F,bP.refl _⟩
theorem HA{st:đ}{aD:List đ}{c:CS}{cs:fx}(h1:kW A Z O st (bL Á c))(h2:lq A Z O aD (aN Á cs)):lq A Z O (st::aD) (aN Á (.cons c cs)):=by
 intro U H fl aT ae h J s R F E hE;show â (jj h) (λq=>gm q λcO Î hx h=>?_) (λq=>aP q λhx eR=>?_)
 ·show ü (Ï (h1 U H .next cO Î hx J s R F E λe s' X=>X.elim) (λf Ì hf=>?_) λz z x=>x)
  obtain ⟨rfl,aj,S,ay,a0,T⟩:=hf;show Ï (h2 cO Î fl aT ae h aj Ì ay a0 E λe s' X=>hE e s' (X.after S T R F.stk)) (λz z x=>yq.after S T x) λz z x=>x
 ·show ü (Ï (h1 U H fl aT ae hx J s R F E hE) (λf Ì hf=>?_) λz z x=>x)
  cases fl with
  |next=>show absurd N eR
  |ret v=>show gm hf λa aR q3 r=>?_;apply ba q3;show⟨a,aR,N,r⟩
  |exc c w=>show hf.elim
end
section
variable{A:Ñ}{E:Ä->Å->Prop}{s:Å}{Z:Env}
theorem wX{h:Ô}{g:Array ø}{d:Drawn}{t:Nat}{os:ò}{C C0 e:È}{mN mN0:Str->Option Ä}{oe:Obj}{Q:Bool->Å->Prop}(S:fg h C C0 mN mN0)(he:h.get? e=À oe)(F6:oe.cls=.ref C)
  (hq:Q Æ ⟨h,g,d,t,os⟩):É mo A (excMatches (.ref e) (.ref C0)) Q E ⟨h,g,d,t,os⟩:=by
 show S.c.el λD hC hn=>S.c0.el λD0 JV MF=>?_;have zh:(Value.ref C0::jX).contains (.type "BaseException")=Æ:=by rw[Ϝ,show jX.contains (.type "BaseException")=Æ from PySem.F.excBase_ValueError.hasBase,afK]
 have Vm:(Value.ref C::.ref C0::jX).contains (.ref C0)=Æ:=by rw[Ϝ,Ϝ,beq_self_eq_true];simp
 have f:=tc_notTuple;unfold excMatches
 repeat (first|(with_reducible refine Õ he ?_;rw[F6])|with_reducible refine Õ JV ?_|(with_reducible refine á JV ?_;rw[zh])|(with_reducible refine á hC ?_;rw[Vm])|wp_step)
 show hq
end
def fS(A:Ñ)(E:Ä->Å->Prop)(s:Å)(Z:Env)(e:È)(t:Ó)(n:Str)(b₀:đ)(gk:List đ)(pos:Pos)(aD:List ŕ)(Q:PySem.Flow->Å->Prop):Prop:=∀(h:É mo (A.mark (À (.ref e))) (eval t Z) (λc Ì=>∃C C0 mN mN0,c=.ref C0/\fg Ì.heap C C0 mN mN0/\(∃oe,Ì.heap.get? e=À oe/\oe.cls=.ref C) /\
   É mo (A.mark (À (.ref e))) (setFlight (.ref e) Ã) (λz da=>
     É mo (A.mark (À (.ref e))) (storeName Z n (.ref e)) (λz iu=>
      É mo (A.mark (À (.ref e))) (execs (b₀::gk) Z)
       (λf Ag=>É mo A (do bindName Z n .none;unbindBehindTheSuite Z n pos) (λz H1=>Q f H1) E Ag)
       (AsSuiteRaised mo (A.mark (À (.ref e))) Z n pos (notedBy mo (A.mark (À (.ref e))) Z (ĩ mo A Z E))) iu) (notedBy mo (A.mark (À (.ref e))) Z (ĩ mo A Z E)) da) (notedBy mo (A.mark (À (.ref e))) Z (ĩ mo A Z E)) Ì) (notedBy mo (A.mark (À (.ref e))) Z (ĩ mo A Z E)) s),É mo A (handleBy (.ref e) Z (.ExceptHandler (À t) (À n) (b₀::gk) pos::aD)) Q E s
namespace handleBy_subH
def kc:=hc (NZ fS) ({},λz z=>True,dS,default,0,default,default,default,[],default,[],λz z=>True)
def A:=kc.1
def E:=kc.2.1
def s:=kc.2.2.1
def Z:=kc.2.2.2.1
def e:=kc.2.2.2.2.1
def t:=kc.2.2.2.2.2.1
def n:=kc.2.2.2.2.2.2.1
def b₀:=kc.2.2.2.2.2.2.2.1
def gk:=kc.2.2.2.2.2.2.2.2.1
def pos:=kc.2.2.2.2.2.2.2.2.2.1
def aD:=kc.2.2.2.2.2.2.2.2.2.2.1
def Q:=kc.2.2.2.2.2.2.2.2.2.2.2
theorem kt:fS A E s Z e t n b₀ gk pos aD Q:=by intro h;show wpAny_handleBy_cons (codeAny_handlers_test (Ï h (λc Ì bM=>?_) λz z y=>y)) (by intro q;cases q);show UU bM λC C0 mN mN0 k25 S k26 hk=>?_;show aF k26 λoe he F6=>?_;apply ba k25;obtain ⟨hh,g,d,tk,os⟩:=Ì;show wX S he F6 (codeAny_handlers_suite_as hk)
end handleBy_subH
theorem ue:fS A E s Z e t n b₀ gk pos aD Q:=hk (P:=NZ fS) handleBy_subH.kt (A,E,s,Z,e,t,n,b₀,gk,pos,aD,Q)
def Yk:cA->Prop
 |.exc _ _=>False
 |_=>True
def LO(J:List È)(s:Å)(U:aM):cA->aM->ag->PySem.Flow->Å->Prop
 |.next,aT,ae,f,s'=>f=.next/\aT=U/\∃aR,SE J s.heap aR s'.heap/\ak gg aR ae s'.heap/\bP s s'
 |.ret v,_,ae,f,s'=>∃a aR,f=.ret a/\SE J s.heap aR s'.heap/\ak gg aR ae s'.heap/\VR gg aR s'.heap v a/\bP s s'
 |.exc _ _,_,_,_,_=>False
def EE(A:Ñ)(Z:Env)(O:List (Str×Nat))(st:đ)(m:aM->ag->Option (cA×aM×ag)):Prop:=
 ∀U H fl aT ae,m U H=À (fl,aT,ae)->Yk fl->∀J s,ak gg J H s.heap->eQ (bA A) J Z O U s.heap->∀E,É mo A (exec st Z) (LO J s U fl aT ae) E s
def r8(A:Ñ)(Z:Env)(O:List (Str×Nat))(st:List đ)(m:aM->ag->Option (cA×aM×ag)):Prop:=
 ∀U H fl aT ae,m U H=À (fl,aT,ae)->Yk fl->∀J s,ak gg J H s.heap->eQ (bA A) J Z O U s.heap->∀E,É mo A (execs st Z) (LO J s U fl aT ae) E s
section
variable{A:Ñ}{E:Ä->Å->Prop}{J aj:List È}{H Î ae:ag}{s Ì:Å}{Z:Env}{O:List (Str×Nat)}{U aT:aM}{Á:aw}{d:Nat}
theorem LO.after(S:SE J s.heap aj Ì.heap)(T:bP s Ì)(h:LO aj Ì U fl aT ae f da):LO J s U fl aT ae f da:=by
 cases fl with
 |next=>obtain ⟨e,e',aR,S',R',T'⟩:=h;show⟨e,e',aR,S.trans S',R',T.trans T'⟩
 |ret v=>show Mk h λa aR e S' R' V' T'=>⟨a,aR,e,S.trans S',R',V',T.trans T'⟩
 |exc c w=>show h.elim
theorem Lg(ht:fC A Z O t (bW Á c))(ha:r8 A Z O a (aN Á x))(hb:r8 A Z O b (aN Á y)):EE A Z O (.If t a b pos) (bL Á (.ite c x y)):=by
 intro U H fl aT ae h pM J s R F E;show j8 h λp Î h1 h=>wpAny_If (ht.bind (bN h1) R F λÌ aj S T ay a0=>?_);cases p with
 |true=>show Ï (ha U Î fl aT ae h pM aj Ì ay a0 E) (λz z x=>LO.after S T x) λz z x=>x
 |false=>show Ï (hb U Î fl aT ae h pM aj Ì ay a0 E) (λz z x=>LO.after S T x) λz z x=>x
theorem HI(he:aQ A Z O e (ab Á c)):EE A Z O (.Return (À e) pos) (bL Á (.ret c)):=by
 intro U H fl aT ae h pM J s R F E;rw[lT]at h;rcases fW h with h|⟨c',w,rfl,rfl,hx⟩
 ·show dI h λv Î q h=>?_
  apply i6 h;show ę (he.bind q R F λa Ì aj S T ay a0 be=>⟨a,aj,N,S,ay,be,T⟩)
 ·show pM.elim
theorem Dz{st:đ}{aD:List đ}{c:CS}{cs:fx}(h1:EE A Z O st (bL Á c))(h2:r8 A Z O aD (aN Á cs)):r8 A Z O (st::aD) (aN Á (.cons c cs)):=by
 intro U H fl aT ae h pM J s R F E;show â (jj h) (λq=>gm q λcO Î hx h'=>?_) (λq=>aP q λhx eR=>?_)
 ·show ü (Ï (h1 U H .next cO Î hx trivial J s R F E) (λf Ì hf=>?_) λz z x=>x)
  obtain ⟨rfl,rfl,aj,S,ay,T⟩:=hf;show Ï (h2 _ Î fl aT ae h' pM aj Ì ay (F.step R S) E) (λz z x=>LO.after S T x) λz z x=>x
 ·show ü (Ï (h1 U H fl aT ae hx pM J s R F E) (λf Ì hf=>?_) λz z x=>x)
  cases fl with
  |next=>show absurd N eR
  |ret v=>show gm hf λa aR q3 r=>?_;apply ba q3;show⟨a,aR,N,r⟩
  |exc c w=>show hf.elim
theorem ii(ih:∀st c,S st=À c->EE A Z O st (bL Á c)):∀{ss:List đ} {c:fx},eD S ss=À c->r8 A Z O ss (aN Á c)
 |[],c,h=>by apply dM h;intro U H fl aT ae h pM J s R F E;apply i6 h;show ġ ⟨N,N,J,SE.refl _ _,R,bP.refl _⟩
 |st::r,c,h=>by show iq h λa b ha hb h=>?_;apply dM h;show Dz (ih _ _ ha) (ii ih hb)
theorem rB(G:fO gg cx fs mg mb)(hQ:∀k∈cx.calm,r7 A Á k)(Z:Env)(O:List (Str×Nat)):∀n st c,Jh cx Z.scope O n st=À c->EE A Z O st (bL Á c):=by
 intro n
 induction n with
 |zero=>show λst c h=>no h
 |succ n ih=>
  have Qi:=Hx G hQ Z O n;intro st c h;replace h:QX (cQ cx Z.scope O n) (eD (Jh cx Z.scope O n)) st=À c:=h;cases st with
  |If t a b pos=>show iq h λx y hx hy h=>?_;show ca h λz hz h=>?_;apply dM h;show Lg (Qi _ _ hx).2 (ii ih hy) (ii ih hz)
  |Return v pos=>show iq h λe c' he ff h=>?_;apply dM h;apply ba he;show HI (Qi _ _ ff).1
  |_=>show no h
theorem mn.rep{aY h:Ô}{ď:Prop}{P:Ä->Prop}{ea:È}{c:Nat}{w:Str}(X:mn (bA A) J H aY h ď P ea c w):∃D,ak gg (J++[D,ea]) (H++[.wd w,.exn c H.length]) h/\aY.get? D=Ã/\∃o,h.get? ea=À o/\o.cls=.ref (gg.cls c):=by
 show ä X.X.ex λx y=>?_;have len:=X.R.len;have R1:ak gg (J++[x.D]) (H++[.wd w]) h:=X.R.more y.b.Dφ (ku λo q=>no (y.b.D0.symm.trans (X.B0 _ _ q))) (.wd y.b.hD y.b.hm) (Ns.noSeq y.b.hD)
 have R2:=R1.more (m:=.exn c H.length) (a:=ea) (λq=>â (ğ.mp q) X.X.eφ λq=>y.b.De (W'.mp q).symm) X.X.eB (.exn y.b.he N N N (by rw[<-len];show List.getElem?_concat_length)) λo e hh=>by rw[<-sm (y.b.he.symm.trans e)]at hh;show hh.elim (λk=>nomatch k.1) λk=>nomatch k.1
 rw[Ć,Ć]at R2;show⟨x.D,R2,y.b.D0,_,y.b.he,N⟩
theorem Cz(h:aN Á (.cons (.ret a) .nil) U H=À (f,cO,Î)):(∃v,f=.ret v/\cO=U/\ab Á a U H=À (v,Î))\/∃c w,f=.exc c w/\cO=U/\ed Á a U H=À (c,w,Î):=by
 have gR:∀{f cO Î},bL Á (.ret a) U H=À (f,cO,Î)->(∃v,f=.ret v/\cO=U/\ab Á a U H=À (v,Î))\/∃c w,f=.exc c w/\cO=U/\ed Á a U H=À (c,w,Î):=λ{f cO Î} h=>by
  rw[lT]at h;rcases fW h with h|⟨c,w,rfl,rfl,hx⟩
  ·show dI h λv Ü q h=>?_
   apply i6 h;show .inl ⟨v,N,N,q⟩
  ·show .inr ⟨c,w,N,N,hx⟩
 show â (jj h) (λq=>gm q λIv Ü hx h=>?_) (λq=>aP q λhx eR=>?_)
 ·rcases gR hx with ⟨v,e,_⟩|⟨c,w,e,_⟩<;>cases e
 ·show gR hx
end
def nB(A:Ñ)(Z:Env)(O:List (Str×Nat))(Á:aw)(n:Str)(i:Nat)(e:Ó)(a:CE)(b₀:đ)(gk:List đ)(y:fx)(rp:Pos)(tp:Pos)(wK:Pos)(pos:Pos):Prop:=∀(G:fO gg cx fs mg mb) (K:FX A Z) (hg:bg Z.scope ("LarderError":Str)=Æ) (hl:Z.kindOf n=À .local) (hi:O.lookup n=À i) (hX:jr A Z O e (ed Á a)) (he:aQ A Z O e (ab Á a)) (hH:∀ea,r8 (A.mark (À (.ref ea))) Z O (b₀::gk) (aN Á y)),kW A Z O (.Try [.Return (À e) rp] [.ExceptHandler (À (.Name ("LarderError":Str) tp)) (À n) (b₀::gk) wK] [] [] pos) (bL Á (.try_ (.cons (.ret a) .nil) i y))
namespace snd_tryH
def kc:=hc (yh nB) ({},default,[],λz z z=>Ã,default,0,default,.dict0,default,[],.nil,default,default,default,default)
def A:=kc.1
def Z:=kc.2.1
def O:=kc.2.2.1
def Á:=kc.2.2.2.1
def n:=kc.2.2.2.2.1
def i:=kc.2.2.2.2.2.1
def e:=kc.2.2.2.2.2.2.1
def a:=kc.2.2.2.2.2.2.2.1
def b₀:=kc.2.2.2.2.2.2.2.2.1
def gk:=kc.2.2.2.2.2.2.2.2.2.1
def y:=kc.2.2.2.2.2.2.2.2.2.2.1
def rp:=kc.2.2.2.2.2.2.2.2.2.2.2.1
def tp:=kc.2.2.2.2.2.2.2.2.2.2.2.2.1
def wK:=kc.2.2.2.2.2.2.2.2.2.2.2.2.2.1
def pos:=kc.2.2.2.2.2.2.2.2.2.2.2.2.2.2
theorem kt:nB A Z O Á n i e a b₀ gk y rp tp wK pos:=by
 intro G K hg hl hi hX he hH;intro U H fl aT ae h0 J s R F E hE;rw[yS]at h0;show oO h0 λf cO Î h1 h=>?_;clear h0;rcases Cz h1 with ⟨v,rfl,rfl,q⟩|⟨c,w,rfl,rfl,hx⟩
 ·apply i6 h
  show wpAny_Try_except (ü (ę (he.bind q R F λa Ì aj S T ay a0 be=>⟨a,aj,N,db.ofSE S Z,ay,be,T⟩)))
 ·show oO h λf2 Iv Ü h2 h=>?_
  cases f2 with
  |next=>show no h
  |exc c' w'=>show no h
  |ret v2=>
  apply i6 h;show wpAny_Try_except (ü (ę (hX _ H c w Î hx J s R F _ _ λea aj Ì X=>ä K.top λbT ho=>ä K.own λL hL=>oS (u8 G X.hc) λmN mN0 fI S2 z=>zW ho hL (X.X.mono (λq=>q) λf q=>.inl q) λjA Us Ub=>iG (s:={Ì with heap:=jA}) (P':=P0) Us N λeE IX Uc=>?_)));have iU:SE J s.heap aj eE:=db.xkp (db.xkp X.S Ub) Uc;show ue (AH (A:=A.mark _) (s:={Ì with heap:=eE}) (c:=0) G (F.step R iU) IX.R hg N ⟨gg.cls c,gg.cls 0,mN,mN0,N,S2.keeps IX.R.base,?_,?_⟩)
  ·show IX.X.ex.elim λx y=>⟨_,y.b.he,N⟩
  show iG (A:=A.mark _) (s:={Ì with heap:=eE}) (P':=P0) IX rfl λlW QI Ud=>?_;obtain ⟨D,rU,D0,o,_⟩:=QI.rep;have EF:SE J s.heap aj lW:=db.xkp iU Ud
  have lL:SE J s.heap (aj++[D,ea]) lW:=by
   show aF EF.ext λt ht hf=>⟨EF.pres,EF.dom,t++[D,ea],by rw[ht,Ć],λb hb=>â (ğ.mp hb) (λhb=>?_) (λhb=>?_)⟩
   ·show hf b hb
   ·simp only[ċ,acr,or_false]at hb
    rcases hb with rfl|rfl
    ·show D0
    ·show X.X.X.e0
  have Ey:=F.step R lL
  have zt:(aj++[D,ea])[Î.length+1]?=À ea:=by have len:aj.length=Î.length:=QI.R.len;rw[<-len,Ϣ (ϓ _),show aj.length.succ-aj.length=1 from (ϵ aj.length 1)];rfl
  show fK (A:=A.mark _) (s:={Ì with heap:=lW}) Ey rU hi (.inl hl) (.ref zt) λjU SL IV IN NS up5=>Ï (hH ea _ _ (.ret v2) _ _ h2 trivial _ {Ì with heap:=jU,toks:=SL} IN NS _) (λf SI hf=>?_) λz z x=>x;show Mk hf λav B1 q3 QC Uf Up Ul=>?_;apply ba q3;have NU:=NS.step IN QC;show aF NU.ns λm₆ MJ z=>?_;have ns:=Ns.noSeq MJ;show wpAny_nameGoes hl MJ (by rw[F.kind];rfl) λJ9 m₇ RL AY=>?_;have kp:∀b o,b≠Z.locals->SI.heap.get? b=À o->J9.get? b=À o:=λb o hb e=>AY.extBut b o hb e
  have Uh:db (FM B1 Z) B1 SI.heap B1 J9:=by
   show⟨λb o e hb=>.inl (kp b o (λq=>hb (.inr (.inl q))) e),λb o e=>?_,[],(Ľ _).symm,λz hm=>nomatch hm⟩;by_cases hb:b=Z.locals
   ·show oS RL λo' z z sQ z=>⟨o',hb▸sQ⟩
   ·show⟨o,kp b o hb e⟩
  have IU:db (FM J Z) J s.heap (aj++[D,ea]) jU:=FM.trans (db.ofSE lL Z) (IV.mono λb hb=>by
   show â hb (λhb=>?_) (λhb=>?_)
   ·show .inr (.inl hb)
   ·show .inr (.inr ⟨n,hb⟩))
  show⟨av,B1,rfl,FM.trans IU (FM.trans (db.ofSE QC Z) Uh),Uf.other NU.locN NU.locB kp ns,Up.stepT (λz z e=>e) λb o e wM hn=>⟨kp b o (by rintro rfl;show ns o e wM) e,hn⟩,(X.T.trans ⟨rfl,rfl,rfl⟩).trans (Ul.trans ⟨rfl,rfl,rfl⟩)⟩
end snd_tryH
theorem Lk{A:Ñ}{Z:Env}{O:List (Str×Nat)}{Á:aw}{n:Str}{i:Nat}{e:Ó}{a:CE}{b₀:đ}{gk:List đ}{y:fx}{rp:Pos}{tp:Pos}{wK:Pos}{pos:Pos}:nB A Z O Á n i e a b₀ gk y rp tp wK pos:=hk (P:=yh nB) snd_tryH.kt (A,Z,O,Á,n,i,e,a,b₀,gk,y,rp,tp,wK,pos)
section
variable{A:Ñ}{E:Ä->Å->Prop}{J aj ļ:List È}{H Î ae:ag}{s Ì Ý:Å}{Z:Env}{O:List (Str×Nat)}{U aT:aM}{Á:aw}{d:Nat}
theorem VR.stepF(F:eQ (bA A) J Z O U h)(S:db (FM J Z) J h aj h')(x:VR gg J h v a):VR gg aj h' v a:=by
 show x.stepT (λn a e=>S.pre e) λb o e hs hn=>⟨(S.pres b o e λq=>?_).hard hs,S.notin e hn⟩;rcases q with q|q|⟨y,q⟩
 ·show hn q
 ·subst q
  show aF F.ns λm hG z=>Ns.noSeq hG o e hs
 ·show aP (F.cellF y b q) λk1 z=>?_;show ä k1 λu hu=>?_
  show Ez.noSeq hu o e hs
theorem bz.stepF(F:eQ (bA A) J Z O U h)(S:db (FM J Z) J h aj h')(x:bz gg J h l vs):bz gg aj h' l vs:=by
 induction vs generalizing l with
 |nil=>cases x;show .nil
 |cons v vs ih=>cases x with|cons h1 h2=>show .cons (h1.stepF F S) (ih h2)
structure S3 where
 A:Ñ
 ļ:List È
 Ý:Å
 Z:Env
 O:List (Str×Nat)
 ys:List V
 vs:List Ä
 wr:List È
 kp:List È
structure S4(c:S3):Prop where
 wL:∀b,b∈c.wr\/b∈c.kp->b≠c.Z.locals
 wC:∀b,b∈c.wr\/b∈c.kp->∀x,c.Z.cells.lookup x≠À b
 w0:∀b∈c.wr,c.Ý.heap.get? b=Ã
structure FI(c:S3)(U:aM)(J:List È)(h:Ô):Prop where
 S:db (FM c.ļ c.Z) c.ļ c.Ý.heap J h
 F:eQ (bA c.A) J c.Z c.O U h
 ys:bz gg J h c.ys c.vs
 hn:∀b,b∈c.wr\/b∈c.kp->b∉J
section
variable{c:S3}{J aR:List È}{h h':Ô}
theorem FI.mv(X:S4 c)(I:FI c U J h)(M:Mv c.wr J h h')(R':ak gg J H h')(w:∀b∈c.wr,eI h b):FI c U J h':=
 ⟨db.mv I.S R' M (λz q=>.inl q) X.w0,I.F.mvN M w (λq=>X.wL _ (.inl q) N) λx b e q=>X.wC b (.inl q) x e,M.vrsT (λb hb=>(w b hb).nt) I.ys,I.hn⟩
theorem FI.tgt(I:FI c U J h)(S':db (TM c.Z ns) J h J h')(F':eQ (bA c.A) J c.Z c.O aT h')(up:∀{v:V} {a:Ä},VR gg J h v a->VR gg J h' v a):FI c aT J h':=
 ⟨FM.trans I.S (S'.mono λb hb=>hb.fm),F',I.ys.upG up,I.hn⟩
theorem S4.nFM(X:S4 c)(hn:∀b,b∈c.wr\/b∈c.kp->b∉J)(b:È)(hb:b∈c.wr\/b∈c.kp):¬ FM J c.Z b:=λq=>by
 rcases q with q|q|⟨x,q⟩
 ·show hn b hb q
 ·show X.wL b hb q
 ·show X.wC b hb x q
theorem FI.body(I:FI c U J h)(S':db (FM J c.Z) J h aR h')(F':eQ (bA c.A) aR c.Z c.O aT h')(lv:∀b,b∈c.wr\/b∈c.kp->∃o,h.get? b=À o):FI c aT aR h':=
 ⟨FM.trans I.S S',F',bz.stepF I.F S' I.ys,λb hb=>(lv b hb).elim λo e=>S'.notin e (I.hn b hb)⟩
end
structure FT(c:S3)(m:aM->ag->Option (cA×aM×ag))(t:jR)(w:List (Nat×bp))(xs:List V)(r:cA×aM×ag)(St:Nat->Ô->Prop)(n k:Nat)(J:List È)(H:ag)(U:aM)(s:Å):Prop where
 I:FI c U J s.heap
 T:bP c.Ý s
 R:ak gg J H s.heap
 st:St k s.heap
 hk:k<=xs.length
 n:n=xs.length-k
 hc:lG m t w (xs.drop k) U H=À r
theorem JO{aI:Ó}{body:List đ}{t:jR}{I:È}{xs ys:List V}{vs:List Ä}{w:List (Nat×bp)}{two:Bool}{wr kp:List È}{St:Nat->Ô->Prop}{rT:Nat->Ä->Ô->Prop}{m:aM->ag->Option (cA×aM×ag)}{fl:cA}{p6:aM}{σe iK:ag}{Q:Result->Å->Prop}
  (hA:iM A d) (K:FX A Z) (Ue:ak gg ļ iK Ý.heap) (T9:r6 (bA A) ļ Ý.heap) (Ti:rS A I xs w two ys vs wr kp St rT) (Eu:vc two aI) (CK:fX Z.scope O aI=À t)
  (hb:lq A Z O body m)
  (Yb:∀b,b∈wr\/b∈kp->b≠Z.locals) (X9:∀b,b∈wr\/b∈kp->∀x,Z.cells.lookup x≠À b) (qI:∀b∈wr,Ý.heap.get? b=Ã) (hB:∀b∈wr,gg.B.get? b=Ã)
  (hc:lG m t w xs U H=À (fl,p6,σe)) (Zf:∀e s',Ax False (bA A) ļ Z Ý fl σe e s'->Q (.error e) s')
  (S:db (FM ļ Z) ļ Ý.heap J s.heap) (T:bP Ý s) (R:ak gg J H s.heap) (F:eQ (bA A) J Z O U s.heap) (h0:St 0 s.heap) (MT:bz gg J s.heap ys vs) (hn:∀b,b∈wr\/b∈kp->b∉J)
  (hQ:∀f s',yq (bA A) ļ Z O Ý fl p6 σe f s'->Q (.ok f) s') :
  Ğ mo A (.forLoop aI (.ref I) body [] Z) Q s:=by
 have X:S4 ⟨A,ļ,Ý,Z,O,ys,vs,wr,kp⟩:=⟨Yb,X9,qI⟩;show codeAny_forLoop_any (λn s=>∃k J H U,FT ⟨A,ļ,Ý,Z,O,ys,vs,wr,kp⟩ m t w xs (fl,p6,σe) St n k J H U s) ?_ xs.length ⟨0,J,H,U,⟨S,F,MT,hn⟩,T,R,h0,į _,N,hc⟩;intro n s q;show P2 q λk J H U Ù=>â (aeA k xs.length) (λcG=>?_) (λlC=>?_)
 ·have hc:=Ù.hc
  rw[aby cG]at hc;show qD hc λhw hc=>ca hc λaT Gl hc=>Ti.item k J H s _ _ xs[k] Ù.st Ù.R Ù.I.ys hw Ù.I.hn hB (N' cG) λa bM pn yt ay be qY=>?_;have tA:=Ù.I.mv X yt ay (Ti.wrN k _ Ù.st);show Ti.go aI Eu k J H a _ _ _ qY ay Ù.I.hn hB λjA EC bw xQ=>?_;have Io:=Ti.wrM k a _ qY;have EA:=tA.mv X EC bw Io;show ve (s:={s with heap:=jA,toks:=pn}) hA.handled CK Gl bw EA.F (EC.vrT (λb hb=>(Io b hb).nt) be) λeE rJ iU iQ p8 pr=>?_;have B4:=EA.tgt iU p8 pr;have rG:St (k+1) eE:=Ti.frame _ _ _ xQ λb hb o e=>Ti.kp xQ hb e (iU.pres b o e λq=>â q (Yb b hb) λq=>aF q λx z q=>X9 b hb x q);have tD:bP Ý {s with heap:=eE,toks:=rJ}:=Ù.T.trans ⟨N,N,N⟩;show â (jj hc) (λq=>gm q λiv il F3 hc=>?_) (λq=>aP q λhc eR=>?_)
  ·show Ï (hb aT H .next iv il F3 J {s with heap:=eE,toks:=rJ} iQ p8 _ λe s' X=>X.elim) (λf Ag hf=>aP hf λq hf=>?_) λz z x=>x
   rw[q];show hf.el λIx lL rU Ey NY=>⟨xs.length-(k+1),by rw[Ù.n];show aeP cG (ű k),k+1,Ix,il,iv,B4.body lL Ey (Ti.live rG),tD.trans NY,rU,Ti.frame _ _ _ rG λb hb o e=>Ti.kp rG hb e (lL.pres b o e (X.nFM Ù.I.hn b hb)),cG,N,hc⟩
  ·show Ï (hb aT H fl p6 σe hc J {s with heap:=eE,toks:=rJ} iQ p8 _ λe s' X=>Ax.note K (Ax.after B4.S tD Ue T9 X) λpb X'=>Zf e pb X') (λf Ag hf=>?_) λz z x=>x
   cases fl with
   |next=>show absurd N eR
   |ret v=>have Ep:=yq.after B4.S tD hf;show gm hf λa' aR q3 r=>?_;rw[q3]at Ep ⊢;show hQ _ _ Ep
   |exc c w=>show hf.elim
 ·have lc:k=xs.length:=Ű Ù.hk lC
  have hc:=Ù.hc;have st:=Ù.st;rw[lc,adV]at hc;rw[lc]at st;show qD hc λhw hc=>Ti.done J _ s _ _ st Ù.R Ù.I.ys hw Ù.I.hn hB λbM pn yt ay=>?_;have tA:=Ù.I.mv X yt ay (Ti.wrN _ _ st);show ġ (hQ _ _ ?_);apply i6 hc;show⟨N,J,tA.S,ay,tA.F,Ù.T.trans ⟨N,N,N⟩⟩
theorem La{aI cU:Ó}{body:List đ}{pos:Pos}{t:jR}{it:jq}{b:fx}{two:Bool}(hA:iM A d)(K:FX A Z)(hs:∀x,Ě cU Z x=pure x)(Eu:vc two aI)(CK:fX Z.scope O aI=À t)(ZU:jr A Z O cU (JH Á it))
  (hi:lK A Z O cU two (cE Á it)) (hb:lq A Z O body (aN Á b)):kW A Z O (.For aI cU body [] pos) (bL Á (.for_ t it b)):=by
 intro U H fl aT ae h J s R F E hE
 have Ww:∀xs w Î,cE Á it U H=À (xs,w,Î)->lG (aN Á b) t w xs U Î=À (fl,aT,ae)->É mo A (exec (.For aI cU body [] pos) Z) (yq (bA A) J Z O s fl aT ae) E s:=λxs w Î h1 h2=>by
  show wpAny_For (Ï (hi U H xs w Î h1 J s R F E) (λxv Ì hp=>vo hp λaR iR ay yw mk=>mk E _ λI ys vs wr kp St rT h' Ti nF hk MT qI hn hB=>?_) λz z x=>x) hs;have a0:=F.step R iR;have LW:SE aR Ì.heap aR h':=SE.keeps _ hk;have eH:=a0.step ay LW;show JO (Ý:=s) (ļ:=J) (s:={Ì with heap:=h'}) hA K R F.stk Ti Eu CK hb ?_ ?_ qI hB h2 (λe s' X=>X.back λpb X'=>hE e pb X') (db.ofSE (iR.trans LW) Z) (yw.trans ⟨N,N,N⟩) (ay.keeps hk) eH nF MT hn λf s' hf=>hf
  ·rintro b hb rfl
   show â hb (λhb=>?_) (λhb=>?_)
   ·show aF F.ns λm' k3 z=>?_;show oS k3 λo z z ho z=>?_
    rw[qI _ hb]at ho;show no ho
   ·show oS (Ti.kpN _ _ nF _ hb) λo' cX n' e' kg=>aF eH.ns λm' hG z=>tU hG λo2 es2 ep2 RM Rt z=>?_
    rw[e']at RM;cases RM;show nomatch kg.symm.trans Rt
  ·intro b hb x e
   show â hb (λhb=>?_) (λhb=>?_)
   ·show aP (F.cellF x b e) λk4 z=>?_;show gm k4 λu o ho z=>?_
    rw[qI _ hb]at ho;show no ho
   ·show oS (Ti.kpN _ _ nF _ hb) λo' cX n' e' kg=>aP (eH.cellF x b e) λk5 z=>?_;show ä k5 λu hu=>?_
    show aF hu λo2 RM Rt=>?_;rw[e']at RM;cases RM;show nomatch kg.symm.trans Rt
 rw[yR]at h;rcases fW h with h|⟨c,w,rfl,rfl,hx⟩
 rotate_left
 ·show wpAny_For (ZU _ H c w ae hx J s R F _ E λea aR s' X=>hE _ _ (X.stm K)) hs
 show oO h λxs w Î h1 h2=>Ww xs w Î h1 h2
theorem IL.after(S:db (FM J Z) J s.heap aj Ì.heap)(T:bP s Ì)(h:IL (bA A) aj Z O Ì aT ae da):IL (bA A) J Z O s aT ae da:=h.el λaR S' R' F' T'=>⟨aR,FM.trans S S',R',F',T.trans T'⟩
theorem yq.isRet(h:yq (bA A) J Z O s fl aT ae f da)(eR:fl≠.next):∃a,f=.ret a:=by
 cases fl with
 |next=>show absurd N eR
 |ret v=>show gm h λa z q z=>⟨a,q⟩
 |exc c w=>show h.elim
theorem DD(K:FX A Z)(ht:fC A Z O t (bW Á c))(hb:lq A Z O body (aN Á b)):kW A Z O (.While t body [] pos) (bL Á (.while_ c b)):=by
 intro U H fl aT ae h J s R F E hE;show wpAny_While (codeAny_whileLoop (λn s'=>∃cO Î,IL (bA A) J Z O s cO Î s'/\oL (bW Á c) (aN Á b) n cO Î=À (fl,aT,ae)) (λn Ì q=>gm q λcO Î X bM=>X.el λaj iR ay a0 yw=>?_) kU ⟨U,H,⟨J,db.refl _ _ _,R,F,bP.refl _⟩,h⟩);cases n with
 |zero=>show no bM
 |succ n=>
  show dI bM λp Ü Go bM=>ht.bind Go ay a0 λda cP dg gr bw eH=>?_;have pH:=FM.trans iR (db.ofSE dg Z);have pI:=yw.trans gr;cases p with
  |false=>apply i6 bM;show ġ ⟨N,cP,pH,bw,eH,pI⟩
  |true=>
   show â (jj bM) (λq=>gm q λNK bC F3 bM=>?_) (λq=>aP q λbM eR=>?_)
   ·show Ï (hb cO Ü .next NK bC F3 cP da bw eH _ λe s' X=>X.elim) (λf iu hf=>?_) λz z x=>x
    apply ba hf.1;show⟨n,ű _,NK,bC,hf.2.after pH pI,bM⟩
   ·show Ï (hb cO Ü fl aT ae bM cP da bw eH _ λe s' X=>Ax.note K (Ax.after pH pI R F.stk X) λpb X'=>X'.back λs3 X2=>hE e s3 X2) (λf iu hf=>?_) λz z x=>x
    have Ep:=yq.after pH pI hf;show ä (hf.isRet eR) λa q=>?_;rw[q]at Ep ⊢;show Ep
theorem SG(hc:cr cx n sc O nx v=À c):swapsWithSole [.Tuple ts k p] v ln Z=pure Ê:=by
 cases v with
 |SetComp a b c d=>cases n<;>show no hc
 |DictComp a b c d e=>cases n<;>show no hc
 |_=>rfl
theorem SD:ķ v (À (.Subscript o i p)) ln Z=pure Ê:=by cases v<;>rfl
theorem SH(h:¬ zx v=Æ):swappedStores [.Tuple ts k p] v Z=pure Ã:=by
 cases v with
 |Tuple a b c=>show(h N).elim
 |_=>rfl
theorem Hw(hA:iM A d)(G:fO gg cx fs mg mb)(hC:tC A Á)(hX:qa A Á)(K:FX A Z)(ht:fX Z.scope O (.Name x p)=À t)(ha:cr cx n Z.scope O nx v=À a):
  kW A Z O (.Assign [.Name x p] v pos) (bL Á (.assign t a)):=by
 have ih:=(nz hA G hC n Z O nx v a ha).1;have yn:=rx hA G hC hX n Z O nx v a ha;by_cases hv:∃a b c d,v=.ListComp a b c d
 ·show P2 hv λelt ua scope py q5=>?_;subst q5
  cases n with
  |zero=>show no ha
  |succ n=>
   have Qf:∃b,ķ (.ListComp elt ua scope py) (À (.Name x p)) pos.line Z=pure b:=⟨_,N⟩;show ä Qf λb Qf=>?_;cases b with
   |false=>show ry hA ht Qf K yn ih
   |true=>
    show IA (vQ ha) λaI cU ifs it t' Wq=>?_;show UT Wq λcs c' k7 pM sP TC im ff Se=>?_;show aP Se λMP k8=>?_;apply ba k7;apply ba k8;have jE:=nz hA G hC n;show xo hA ht Qf (sE pM) (og sP) (vd MP TC) (xt hA G hC n Z O nx cU it sP) TC (λe' IE=>?_) im λe' IE e c h=>?_
    ·rw[<-IE]at ff;show(jE _ _ _ _ _ ff).1
    ·rw[<-IE]at h;show(jE _ _ _ _ _ h).2
 ·show ry hA ht (Af (λa b c d e=>hv ⟨a,b,c,d,e⟩) ha) K yn ih
theorem yE(h:Mc c=À r):∃m o as,c=.meth m o as/\m.isStep=Æ/\r=.expr (.meth m o as):=by
 cases c with
 |meth m o as=>show⟨m,o,as,N,(cZ h).1,(sm (cZ h).2).symm⟩
 |_=>show no h
theorem gU(ih:∀st c,S st=À c->kW A Z O st (bL Á c)):∀{ss:List đ} {c:fx},eD S ss=À c->lq A Z O ss (aN Á c)
 |[],c,h=>by apply dM h;show Lf
 |st::r,c,h=>by show iq h λa b ha hb h=>?_;apply dM h;show HA (ih _ _ ha) (gU ih hb)
theorem DC(hA:iM A d)(G:fO gg cx fs mg mb)(hC:tC A Á)(hX:qa A Á)(hQ:∀ea,∀k∈cx.calm,r7 (A.mark (À (.ref ea))) Á k)(Z:Env)(K:FX A Z)(O:List (Str×Nat))(nx:Nat)(hk:Z.scope.kind=.function):∀n st c,sw cx Z.scope O nx n st=À c->kW A Z O st (bL Á c):=by
 intro n
 induction n with
 |zero=>show λst c h=>no h
 |succ n ih=>
  have Qi:=nz hA G hC n Z O nx;have cY:∀{e c},cr cx n Z.scope O nx e=À c->aQ A Z O e (ab Á c):=λh=>(Qi _ _ h).1;have yn:∀{e c},cr cx n Z.scope O nx e=À c->jr A Z O e (ed Á c):=λh=>rx hA G hC hX n Z O nx _ _ h;intro st;show Gd (λc=>kW A Z O st (bL Á c)) (Fb (cr cx n Z.scope O nx) (vO cx n Z.scope O nx) (eD (sw cx Z.scope O nx n)) (eD (Jh cx Z.scope O n)) Z.scope O st);cases st with
  |Assign ts v pos=>
   show ah λt ht=>?_;apply ba (bZ ht);cases t with
   |Name x p=>show ah (m:=fX Z.scope O (.Name x p)) (k:=λt=>(cr cx n Z.scope O nx v).bind λa=>À (CS.assign t a)) λt ht=>ah λa ha=>aK (Hw hA G hC hX K ht ha)
   |Tuple ts k p=>show qB (b:=zx v=Æ) (x:=(fX Z.scope O (.Tuple ts k p)).bind λt=>(cr cx n Z.scope O nx v).bind λa=>À (CS.assign t a)) λMI=>ah λt ht=>ah λa ha=>aK (xp hA ht (SG ha) (SH MI) K (yn ha) (cY ha))
   |Subscript o i p=>show ah (m:=cr cx n Z.scope O nx o) (k:=λa=>(cr cx n Z.scope O nx i).bind λb=>(cr cx n Z.scope O nx v).bind λc=>À (CS.setItem a b c)) λa ha=>ah λb hb=>ah λc' ff=>aK (xx SD (cY ha) (cY hb) (cY ff))
   |_=>show eO
  |Expr e pos=>
   cases e with
   |Call fn as ks p=>show ah λa ha c h=>tU (yE h) λm o W3 q4 hm q6=>?_;subst q4 q6;show HD hm hk N K (yn ha) (cY ha)
   |_=>show eO
  |If t a b pos=>show ah λx hx=>ah λy hy=>ah λz hz=>aK (PM (Qi _ _ hx).2 (gU ih hy) (gU ih hz))
  |For t it body kB pos=>show c7 λho=>ah λx hx=>ah λy hy=>ah λz hz=>c7 λMP=>aK ?_;apply ba (Ų.mp ho);show La hA K (og hy) (vd MP hx) hx (Dv hA G hC hX n Z O nx _ _ hy) (xt hA G hC n Z O nx _ _ hy) (gU ih hz)
  |While t body kB pos=>show c7 λho=>ah λx hx=>ah λz hz=>aK ?_;apply ba (Ų.mp ho);show DD K (Qi _ _ hx).2 (gU ih hz)
  |Return v pos=>show ah λe he=>ah λc' ff=>aK ?_;apply ba he;show Lh K (yn ff) (cY ff)
  |Raise exc Md pos=>show c7 λRr=>ah λp hr=>c7 λhg=>ah λk lc=>c7 λII=>ah λa ha=>aK ?_;obtain ⟨x,e⟩:=p;show mM (uT hr) λp q q3=>?_;apply ba q3;apply ba (ab3.mp Rr);show DA hA G K hg lc (by simpa using II) (E4 ha) (cY ha)
  |Try body hs kB ip pos=>
   show c7 λho=>ah λq hh=>c7 λhc=>ah λi hi=>ah λst fv=>ah λe j=>ah λa ha=>ah λy hy=>aK ?_;obtain ⟨x,nn,gk⟩:=q
   simp only[Ň,beq_iff_eq,ϔ]at hc ho
   show aP hc λWr hl=>?_;show aP Wr λSf eR=>?_;show aP Sf λhg k38=>?_;subst k38;apply ba (Ų.mp ho.1);apply ba (Ų.mp ho.2);apply ba (bZ fv);show ä e.2 λrp q2=>?_;apply ba q2;show mM (wD hh) λtp hp q3=>?_;apply ba q3;cases gk with
   |nil=>cases eR
   |cons b₀ gk=>show Lk G K hg hl (cZ hi).2 (yn ha) (cY ha) λea=>ii (rB G (hQ ea) Z O n) hy
  |_=>show eO
end
theorem sn(hk:k x=À .cell):∀(b:List (Str×Ä)) (m:Str->Option Ä),(b.map (·.1)).Nodup->bindC k b m x=match b.lookup x with|some v=>À v|none=>m x
 |[],m,_=>rfl
 |(n,v)::r,m,hn=>by
  have lU:=Ϡ.mp hn;unfold bindC;rw[sn hk r _ lU.2,Ϗ];cases hb:x==n with
  |true=>
   have:x=n:=by simpa using hb
   subst this
   have hr:r.lookup x=Ã:=by
    cases q:r.lookup x with
    |none=>rfl
    |some y=>show absurd (aeR (f:=(·.1)) (mem_of_lookup q)) lU.1
   rw[hr,if_neg (by rw[hk];decide)];simp
  |false=>
   have eR:x≠n:=by simpa using hb
   cases q:r.lookup x with
   |some y=>rfl
   |none=>
    by_cases J4:k n=À .local
    ·rw[if_pos J4]
    ·rw[if_neg J4];simp [eR]
theorem BY:∀{l:List Str} {vs:List α} {i:Nat} {x:Str} {v:α},l.Nodup->l[i]?=À x->vs[i]?=À v->(l.zip vs).lookup x=À v
 |[],_,_,_,_,_,h,_=>by simp at h
 |a::l,[],_,_,_,_,_,h=>by simp at h
 |a::l,b::vs,0,x,v,_,h1,h2=>by
  simp at h1 h2;apply ba h1;apply ba h2
  simp
 |a::l,b::vs,i+1,x,v,hn,h1,h2=>by
  have lU:=Ϡ.mp hn
  simp only[aer]at h1 h2
  rw[adx,Ϗ]
  have:(x==a)=Ê:=by
   simp only[beq_eq_false_iff_ne,ne_eq];rintro rfl;show lU.1 (Ĥ h1)
  rw[this];show BY lU.2 h1 h2
structure Ar(cx:gq)(fn:Fn)(cf:bj)(as:List Arg)(b:fx):Prop where
 params:fn.params=⟨[],as,Ã,[],[],Ã,[]⟩
 kind:fn.scope.kind=.function
 gen:fn.scope.isGenerator=Ê
 cor:fn.scope.isCoroutine=Ê
 uniq:∀n k,(n,k)∈fn.scope.names->fn.scope.names.lookup n=À k
 kinds:∀n k,(n,k)∈fn.scope.names->k=.local\/k=.cell\/k=.globalImplicit
 nodup:((eC fn.scope).map (·.1)).Nodup
 pre:as.map (·.arg)=((eC fn.scope).map (·.1)).take as.length
 body:eD (sw cx fn.scope (eC fn.scope) (eC fn.scope).length 200) fn.body=À b
 cf:cf=⟨as.length,b⟩
theorem kD(h:dw p=Æ):p=⟨[],p.args,Ã,[],[],Ã,[]⟩:=by
 obtain ⟨a,b,c,d,e,f,g⟩:=p
 simp only[dw,Ň,Ų,ab3]at h
 show aP h λk2 k3=>?_;show aP k2 λk6 k7=>?_;show aP k6 λCV Gy=>?_;obtain ⟨⟨rfl,rfl⟩,rfl⟩:=CV;apply ba Gy;apply ba k7;apply ba k3;rfl
theorem qw(h:E5 cx fn.params fn.scope fn.body=À cf):∃as b,Ar cx fn cf as b:=by
 show dJ h λhc h=>ca h λb hb h=>?_;apply dM h
 simp only[Ň,beq_iff_eq,ϔ,Ϫ,ϡ,decide_eq_true_eq]at hc
 show aP hc λk4 h6=>?_;show aP k4 λk8 h5=>?_;show aP k8 λKi h4=>?_;obtain ⟨⟨⟨h0,h1⟩,h2⟩,h3⟩:=Ki;show⟨fn.params.args,b,kD h0,h1,h2,h3,λn k hm=>(h4 (n,k) hm).1,λn k hm=>?_,h6,h5,hb,rfl⟩;rcases (h4 (n,k) hm).2 with (h|h)|h
 ·show .inl h
 ·show .inr (.inl h)
 ·show .inr (.inr h)
theorem jc(h:(eC sc).lookup x=À i):((eC sc).map (·.1))[i]?=À x/\∃k,(x,k)∈sc.names/\(k=.local\/k=.cell):=by
 unfold eC at h ⊢;have h1:=mj h
 simp only[į,ae9,true_and]at h1
 show⟨by simpa using h1,?_⟩;have hm:=Ĥ h1;rw[ş]at hm;show aF hm λk1 pA k2=>?_;obtain ⟨n,k⟩:=k1;apply fQ k2;show aP (Š.mp pA) λh2 h3=>?_
 simp only[ϡ,beq_iff_eq]at h3
 show⟨k,h2,h3⟩
section
variable{A:Ñ}
structure PX(A:Ñ)(d:Nat):Prop where
 depth:A.depth+d<=600
 units:A.units+3*d<=9000
theorem PX.deeper(h:PX A (d+1))(Z:Env):PX (A.deeper Z) d:=by
 show⟨?_,?_⟩
 ·have:=h.depth
  show A.depth+1+d<=600;show jL (y6 0xc02589310b02589012ba182112ba41313ba184513ba520 N (iL this) (iA _ _) (iA _ _) (iA _ _) (iA _ _))
 ·have:=h.units
  show A.units+3+3*d<=9000;lia
theorem iM.room(h:iM A d):PX A d:=⟨h.depth,h.units⟩
theorem CF(û:Ar cx fn cf as b)(R:ak gg J H s.heap)(hv:bz gg J s.heap vs ci)(hl:vs.length=as.length)(We:QD (Ī (ŋ fn.name fn.params fn.body fn.scope pm cd doc) s.heap.objs.size a))(O0:r6 (bA A) J Ì.heap)
  (x:InCallC s (Ī (ŋ fn.name fn.params fn.body fn.scope pm cd doc) s.heap.objs.size a).locals (bindL (Ī (ŋ fn.name fn.params fn.body fn.scope pm cd doc) s.heap.objs.size a).kindOf ((as.map (·.arg)).zip ci) λj=>Ã)
   (Ī (ŋ fn.name fn.params fn.body fn.scope pm cd doc) s.heap.objs.size a).cells (bindC (Ī (ŋ fn.name fn.params fn.body fn.scope pm cd doc) s.heap.objs.size a).kindOf ((as.map (·.arg)).zip ci) λj=>Ã) Ì) :
  eQ (bA A) J (Ī (ŋ fn.name fn.params fn.body fn.scope pm cd doc) s.heap.objs.size a) (eC fn.scope) (bu vs) Ì.heap:=by
 have hk:=x.toInCall.keep;have S:SE J s.heap J Ì.heap:=SE.keeps _ hk;have OO:vs.length=ci.length:=hv.length
 have MG:(((as.map (·.arg)).zip ci).map (·.1)).Nodup:=by rw[List.map_fst_zip (by simp;show z' (ň hl.symm) (ň OO)),û.pre];show û.nodup.sublist (acR _ _)
 have OP:(as.map (·.arg)).Nodup:=by rw[û.pre];show û.nodup.sublist (acR _ _)
 have bound:∀{x i v},(eC fn.scope).lookup x=À i->bu vs i=À v->∃av,((as.map (·.arg)).zip ci).lookup x=À av/\VR gg J Ì.heap v av:=λ{x i v} hx hi=>by show aP (jc hx) λh1 j=>?_;show aF (hv.get hi) λav h2 h3=>?_;have jZ:i<vs.length:=(ģ.mp hi).1;show⟨av,BY OP ?_ h2,h3.step R S⟩;rw[û.pre,List.getElem?_take,if_pos (Į jZ (ň hl))];show h1
 have On:∀{y c},(ì (s.heap.objs.size+1) fn.scope.names []).lookup y=À c->s.heap.objs.size<c:=λ{y c} e=>x.above y c (mem_of_lookup e);show⟨û.kind,N,N,⟨_,x.toInCall.ns,?_⟩,?_,aW R (aG _),aV R (aG _),?_,?_,?_,λj=>We,O0⟩
 ·intro y i v hy um ym
  show aF (bound hy ym) λav h1 h2=>?_;show⟨av,?_,h2⟩;rw[kF um _ _ MG,h1]
 ·intro y i hy um
  obtain ⟨_,k,hm,ul⟩:=jc hy;have II:=û.uniq y k hm
  have F5:k=.cell:=by
   show â ul (λq=>?_) (λq=>?_)
   ·subst q
    show â um (λr=>?_) (λr=>?_)
    ·have r':fn.scope.names.lookup y=À .cell:=r
     rw[II]at r';cases r'
    ·have r':fn.scope.names.lookup y=À .free:=r
     rw[II]at r';cases r'
   ·show q
  subst F5;show ä (eJ fn.scope.names (s.heap.objs.size+1) hm) λc hc=>?_;show ä (dv hc) λc' ff=>?_;show⟨c',_,ff,x.cell y c' ff,λv ym=>?_⟩;show aF (bound hy ym) λav h1 h2=>?_;show⟨av,?_,h2⟩;rw[sn (by show II) _ _ MG,h1]
 ·intro y c e
  have:=On e;have hf:s.heap.get? c=Ã:=g7 (Ģ this);show⟨⟨_,x.cell y c e⟩,aW R hf,ō this,aV R hf⟩
 ·intro y z c e1 e2
  show name_of_addr x.apart (mem_of_lookup e1) (mem_of_lookup e2)
 ·intro y z i e1 e2
  show aP (jc e1) λh1 j=>?_;show aP (jc e2) λh2 j=>?_;rw[h1]at h2;show Option.some.inj h2
theorem mn.out{P:Ä->Prop}(X:mn (bA A') J H aY h ď P e c w)(hs:∀f∈bA A,f∈bA A'):mn (bA A) J H aY h ď P e c w:=
 ⟨X.R,λf hf=>X.FS f (hs f hf),λf hf=>X.F0 f (hs f hf),X.dom,X.B0,⟨X.X.ex,X.X.e0,X.X.eφ,X.X.eB⟩⟩
structure YB(A:Ñ)(fn:Fn)(J:List È)(H:ag)(vs:List V)(s:Å)(Z:Env)(Ì:Å):Prop where
 F:eQ (bA (A.deeper Z)) J Z (eC fn.scope) (bu vs) Ì.heap
 R:ak gg J H Ì.heap
 S:SE J s.heap J Ì.heap
 T:bP s Ì
 back:∀{aR:List È} {h':Ô},db (FM J Z) J Ì.heap aR h'->SE J s.heap aR h'
 scope:Z.scope=fn.scope
 frame:Z.frame=À Z.locals
theorem qz{fn:Fn}{cf:bj}{as:List Arg}{b:fx}{A:Ñ}{d k:Nat}{vs:List V}{J:List È}{H:ag}{s:Å}{ci:List Ä}{Q:Ä->Å->Prop}{E:Ä->Å->Prop}(G:fO gg cx fs mg mb)(û:Ar cx fn cf as b)(kY:fs[k]?=À fn)(hA:PX A (d+1))(ch:vs.length=as.length)
  (R:ak gg J H s.heap) (FS:r6 (bA A) J s.heap) (hv:bz gg J s.heap vs ci)
  (h:∀Z Ì,YB A fn J H vs s Z Ì->É mo (A.deeper Z) (execs fn.body Z) (λf s'=>Q (match f with|.ret v=>v|_=>.none) s') (λe s'=>É mo (A.deeper Z) (leaving Z e) (λz pb=>E e pb) (λe' pb=>E e' pb) s') Ì) :
  É mo A (PySem.call (.ref fn.addr) ci) Q E s:=by
 obtain ⟨hm,o,pm,cd,doc,ho,hd,oi⟩:=G.made fn (Ĥ kY);have zm:s.heap.NoLimit:=G.nolimit.keeps R.base;have OO:ci.length=as.length:=(hv.length)▸ch;have OP:(as.map (·.arg)).Nodup:=by rw[û.pre];show û.nodup.sublist (acR _ _)
 have wG:A.depth<í:=by
  have h1:=hA.depth;have:600<í:=by decide
  show jT (y5 0x1c1410b02589011b10258910b20813ba182313ba340 N (iL h1) (iT this) (iP _) (iA _ _) (iA _ _))
 show ř (codeAny_call_cells (body:=fn.body) (binds:=(as.map (·.arg)).zip ci) wG (R.base _ _ ho) hd zm (oi.keeps R.base) N (lO û.params N ci OO OP) N ?_ (λÌ x=>?_) û.cor û.gen û.kind)
 ·intro y hy
  have qG:y.1∈as.map (·.arg):=(Ź hy).1;rw[û.pre]at qG;have RF:y.1∈(eC fn.scope).map (·.1):=Ů qG;show aF (ş.mp RF) λk6 pA e=>?_;obtain ⟨n,i⟩:=k6;show ä (dv pA) λi' jZ=>?_;have e':n=y.1:=e;rw[e']at jZ;obtain ⟨_,kk,VM,II⟩:=jc jZ;show â II (λq=>?_) (λq=>?_)
  ·subst q;show .inl (û.uniq _ _ VM)
  ·subst q
   show .inr ⟨û.uniq _ _ VM,?_⟩;show ä (eJ fn.scope.names (s.heap.objs.size+1) VM) λc hc=>?_;show ä (dv hc) λc' ff=>?_;show ((ì (s.heap.objs.size+1) fn.scope.names []).lookup y.1).isSome=Æ;rw[ff];rfl
 ·have hk:=x.toInCall.keep
  have iR:SE J s.heap J Ì.heap:=SE.keeps _ hk;show mM x.toInCall.same λbM pn Gm=>?_;have yw:bP s Ì:=by rw[Gm];show⟨N,N,N⟩
  have O0:r6 (bA (A.deeper (Ī (ŋ fn.name fn.params fn.body fn.scope pm cd doc) s.heap.objs.size fn.addr))) J Ì.heap:=λf hf=>by
   rcases qu hf with rfl|hf
   ·show tU x.toInCall.ns λo' es ep sQ kg z=>?_
    show⟨?_,_,o',es,ep,N,sQ,kg,aW R (aG _),aV R (aG _)⟩;show fn.scope.kind≠.module;rw[û.kind];decide
   ·obtain ⟨k1,L,o',es,ep,k2,k3,k4,k5,k6⟩:=FS f hf
    show⟨k1,L,o',es,ep,k2,hk _ _ k3,k4,k5,k6⟩
  show h _ Ì ⟨CF û R hv ch (G.tab fn (Ĥ kY) o _ ho hd) O0 x,R.keeps hk,iR,yw,λdg=>?_,rfl,rfl⟩;show db.trans iR dg (λz z z hb=>hb) λb o e hb q=>?_;rcases q with q|q|⟨y,q⟩
  ·show hb q
  ·have q':b=s.heap.objs.size:=q
   show absurd (Ő e) (by rw[q'];show Ŧ _)
  ·have:=x.above y b (mem_of_lookup q)
   show absurd (Ő e) (ľ.mpr (Ģ this))
theorem ju(wE:P[k]?=À cf)(h:az P (d+1) k vs H=À r):vs.length=cf.arity/\ip (aN (az P d) cf.body (bu vs) H)=À r:=by show ca (m:=P[k]?) (k:=λfn=>if vs.length=fn.arity then ip (aN (az P d) fn.body (bu vs) H) else Ã) h λYK Vp h=>?_;apply ba (sm (wE.symm.trans Vp));show cZ h
theorem qq(h:ip m=À (r,ae)):∃fl aT,m=À (fl,aT,ae)/\(fl=.next/\r=.ok .none\/(∃v,fl=.ret v/\r=.ok v)\/∃c w,fl=.exc c w/\r=.exc c w):=by
 show oO h λfl aT Ü hb h=>?_;cases fl with
 |ret v'=>apply du h;show⟨_,_,hb,.inr (.inl ⟨_,N,N⟩)⟩
 |next=>apply du h;show⟨_,_,hb,.inl ⟨N,N⟩⟩
 |exc c w=>apply du h;show⟨_,_,hb,.inr (.inr ⟨_,_,N,N⟩)⟩
theorem pp(hP:IM cx fs P)(kY:fs[k]?=À fn)(h:az P (d+1) k vs H=À r):∃cf,P[k]?=À cf/\E5 cx fn.params fn.scope fn.body=À cf:=by show aF (hP k fn kY) λcf wE hc=>hc.elim (λe=>?_) λhc=>⟨cf,wE,hc⟩;show aP (ju wE h) λz h=>?_;rw[e]at h;show no h
theorem Dt(G:fO gg cx fs mg mb)(hP:IM cx fs P)(hQ:NW cx fs P):
  ∀d (A:Ñ),PX A d->∀k∈cx.calm,r7 A (az P d) k:=by
 intro d
 induction d with
 |zero=>intro A hA k hk as H v ae h;show no h
 |succ d ih=>
  intro A hA k hk vs H v ae h fn kY J s ci R FS hv E;show aF (pp hP kY h) λcf wE wF=>?_;show mM (qw wF) λas b û=>?_;show aP (ju wE h) λch h=>?_;have hq:=hQ k hk fn cf kY wE;rw[û.cf]at ch h hq;show qz G û kY hA ch R FS hv λZ Ì I=>?_;have P3:=hA.deeper Z;have q':eD (Jh cx Z.scope (eC fn.scope) 200) fn.body=À b:=by rw[I.scope];show hq
  have B:=ii (rB (Á:=az P d) G (ih _ P3) Z (eC fn.scope) 200) q';show gm (qq h) λfl aT hb hr=>?_;rcases hr with ⟨rfl,hr⟩|⟨v',rfl,hr⟩|⟨_,_,_,hr⟩
  ·apply ba (yv.ok.inj hr)
   show Ï (B _ H _ aT ae hb trivial J Ì I.R I.F _) (λf s' hf=>?_) λz z y=>y;obtain ⟨rfl,_,aR,dg,bw,gr⟩:=hf;show⟨aR,I.S.trans dg,bw,.none,I.T.trans gr⟩
  ·apply ba (yv.ok.inj hr)
   show Ï (B _ H _ aT ae hb trivial J Ì I.R I.F _) (λf s' hf=>?_) λz z y=>y;show Mk hf λav aR q3 dg bw dH gr=>?_;apply ba q3;show⟨aR,I.S.trans dg,bw,dH,I.T.trans gr⟩
  ·cases hr
theorem Dr(G:fO gg cx fs mg mb)(hP:IM cx fs P)(hQ:NW cx fs P):
  ∀d l (A:Ñ),iM A d->A.frames=À l->tC A (az P d)/\qa A (az P d):=by
 intro d
 induction d with
 |zero=>intro l A hA hl;show⟨λk as H v ae h=>no h,λk as H c w ae h=>no h⟩
 |succ d ih=>
  intro l A hA hl
  have gR:∀(Z:Env) (fn:Fn) (cf:bj) (as:List Arg) (b:fx),Ar cx fn cf as b->Z.scope=fn.scope->Z.frame=À Z.locals->lq (A.deeper Z) Z (eC fn.scope) fn.body (aN (az P d) b):=λZ fn cf as b û Wa Gb=>by
   have P3:iM (A.deeper Z) d:=⟨hA.handled,(hA.room.deeper Z).depth,(hA.room.deeper Z).units⟩
   have jg:(A.deeper Z).frames=À (Z::l):=by show A.frames.map (Z::·)=_;rw[hl];rfl
   show aP (ih (Z::l) _ P3 jg) λh1 h2=>?_;have q':eD (sw cx Z.scope (eC fn.scope) (eC fn.scope).length 200) fn.body=À b:=by rw[Wa];show û.body
   show gU (DC P3 G h1 h2 (λea=>Dt G hP hQ d _ ⟨P3.depth,P3.units⟩) Z ⟨⟨l,jg⟩,_,Gb⟩ (eC fn.scope) (eC fn.scope).length (by rw[Wa];show û.kind) 200) q'
  show⟨λk vs H v ae h fn kY J s ci R FS hv E=>?_,λk vs H c w ae h fn kY J s ci R FS hv Q E hE=>?_⟩
  ·show aF (pp hP kY h) λcf wE wF=>?_
   show mM (qw wF) λas b û=>?_;show aP (ju wE h) λch h=>?_;rw[û.cf]at ch h;show qz G û kY hA.room ch R FS hv λZ Ì I=>?_;have B:=gR Z fn cf as b û I.scope I.frame;show gm (qq h) λfl aT hb hr=>?_;rcases hr with ⟨rfl,hr⟩|⟨v',rfl,hr⟩|⟨_,_,_,hr⟩
   ·apply ba (yv.ok.inj hr)
    show Ï (B _ H _ aT ae hb J Ì I.R I.F _ λe s' X=>X.elim) (λf s' hf=>?_) λz z y=>y;obtain ⟨rfl,aR,dg,bw,eH,gr⟩:=hf;show⟨aR,I.back dg,bw,.none,I.T.trans gr⟩
   ·apply ba (yv.ok.inj hr)
    show Ï (B _ H _ aT ae hb J Ì I.R I.F _ λe s' X=>X.elim) (λf s' hf=>?_) λz z y=>y;show Mk hf λav aR q3 dg bw dH gr=>?_;apply ba q3;show⟨aR,I.back dg,bw,dH,I.T.trans gr⟩
   ·cases hr
  ·show aF (pp hP kY h) λcf wE wF=>?_
   show mM (qw wF) λas b û=>?_;show aP (ju wE h) λch h=>?_;rw[û.cf]at ch h;show qz G û kY hA.room ch R FS hv λZ Ì I=>?_;have B:=gR Z fn cf as b û I.scope I.frame;show gm (qq h) λfl aT hb hr=>?_;rcases hr with ⟨rfl,hr⟩|⟨v',rfl,hr⟩|⟨c',w',rfl,hr⟩
   ·cases hr
   ·cases hr
   ·injection hr with e1 e2
    subst e1;subst e2;show Ï (B _ H _ aT ae hb J Ì I.R I.F _ λe s' X=>?_) (λf s' hf=>hf.elim) λz z y=>y;obtain ⟨aR,ea,L,rfl,hL,hc,dg,gr,X⟩:=X
    have jg:(A.deeper Z).frames=À (Z::l):=by show A.frames.map (Z::·)=_;rw[hl];rfl
    show Kr jg hL X λh' X' K'=>?_;show hE ea aR _ ⟨hc,I.back (db.xkp dg K'),I.T.trans (gr.trans ⟨N,N,N⟩),?_⟩;show((X'.out λf hf=>OA hl hf).before I.S R FS).mono (λq=>q.elim) λz q=>q
theorem JR:r6 (bA callerA) J h:=λz hf=>nomatch hf
theorem DO:vw kk:=λG hP hQ d hd k as H v ae h fn kY J s ci R V E=>by
 have c1:callerA.depth<=500:=by decide
 have c2:callerA.units<=500:=by decide
 have hA:iM callerA d:=⟨N,(by show jL (y3 0xc02589210b00649010b01f49112ba012 N (iL hd) (iL c1) (iA _ _))),by lia⟩;show(Dr G hP hQ d [] callerA hA N).1 k as H v ae h fn kY J s ci R JR V E
end
end L.Lake
namespace L.Lake
open PySem PySem.W PyProof.Rows PySem.Calls PySem.SeqAt
noncomputable def Ct(p:ö)(consts:List (Str×Int))(calm:List Nat):gq:=⟨(ô p).map (·.name),consts,[],calm⟩
def y9(p:ö)(loose:List Str):Bool:=eV.all λx=>!(startupNames.contains x) && !(loose.contains x) && !(((ô p).map (·.name)).contains x) && !(((litsOf p).map (·.1)).contains x) && !(((clssOf p loose).map (·.name)).contains x)&&x != ("__name__":Str)
noncomputable def Mf:PyData->Option Int
 |.int j=>À j
 |_=>Ã
theorem yK{d:PyData}{i:Int}(h:Mf d=À i):d=.int i:=by cases d<;>first|exact no h|exact congrArg _ (sm h)
def constsOk(p:ö)(consts:List (Str×Int)):Bool:=consts.all λc=>(valOf p c.1).bind Mf==À c.2
theorem FK{mg:Str->Option Ä}{h:Ô}:∀(l:List DefRec),(∀d∈l,∃a o pm code doc,mg d.name=À (.ref a)/\h.get? a=À o/\o.data=.func (ŋ d.name d.params d.body d.scope pm code doc)/\h.CodeRec code d.name) ->
  ∃fs:List Fn,fs.map (·.name)=l.map (·.name)/\fs.map (λf=>(f.params,f.scope,f.body))=l.map (λd=>(d.params,d.scope,d.body)) /\
   ∀f∈fs,mg f.name=À (.ref f.addr)/\∃o pm cd doc,h.get? f.addr=À o/\o.data=.func (ŋ f.name f.params f.body f.scope pm cd doc)/\h.CodeRec cd f.name
 |[],_=>⟨[],N,N,λz hf=>nomatch hf⟩
 |d::l,hl=>by
  show YW (hl d G') λa o pm code doc h1 h2 h3 h4=>eK (FK l λd hd=>hl d (J' _ hd)) λfs e1 e2 e3=>⟨⟨d.name,a,d.params,d.body,d.scope⟩::fs,by simp [e1],by simp [e2],λf hf=>?_⟩;rcases ċ.mp hf with rfl|hf
  ·show⟨h1,o,pm,code,doc,h2,h3,h4⟩
  ·show e3 f hf
set_option backward.match.sparseCases false
noncomputable def qd:Ä->Option È
 |.ref a=>À a
 |_=>Ã
theorem sj{v:Ä}{a:È}(h:qd v=À a):v=.ref a:=by cases v<;>first|exact no h|exact congrArg _ (sm h)
noncomputable def I8:Data->Option ī
 |.func fd=>À fd
 |_=>Ã
theorem Ce{v:Data}{a:ī}(h:I8 v=À a):v=.func a:=by cases v<;>first|exact no h|exact congrArg _ (sm h)
noncomputable def QN:Data->Option ClassData
 |.cls c=>À c
 |_=>Ã
theorem Cc{v:Data}{a:ClassData}(h:QN v=À a):v=.cls a:=by cases v<;>first|exact no h|exact congrArg _ (sm h)
noncomputable def Ob:Data->Option (Array Ä)
 |.fields vs=>À vs
 |_=>Ã
noncomputable def QM:FuncBody->Option (List đ)
 |.stmts b=>À b
 |_=>Ã
theorem Cb{v:FuncBody}{a:List đ}(h:QM v=À a):v=.stmts a:=by cases v<;>first|exact no h|exact congrArg _ (sm h)
def QK:đ->Option (Ó×Ó)
 |.Assign ts v _=>(li ts).bind λt=>À (t,v)
 |_=>Ã
set_option tactic.hygienic true in
theorem B9{st:đ}{t v:Ó}(h:QK st=À (t,v)):∃p,st=.Assign [t] v p:=by
 cases st<;>first|exact no h|skip
 rename_i ts v' p;show ca h λt' h1 h2=>?_;apply du h2;apply ba (bZ h1);show⟨p,rfl⟩
noncomputable def QL:Ó->Option (Ó×Str)
 |.Attribute o a _=>À (o,a)
 |_=>Ã
theorem Ca{e o:Ó}{a:Str}(h:QL e=À (o,a)):∃p,e=.Attribute o a p:=by
 cases e<;>first|exact no h|skip
 apply du h;show⟨_,N⟩
set_option backward.match.sparseCases true
def Ah(h:Ô)(mv:Option Ä):Option È:=mv.bind λv=>(qd v).bind λa=>(h.get? a).bind λo=>(I8 o.data).bind λfd=>(qd fd.code).bind λc=>(h.get? c).bind λoc=>(Ob oc.data).bind λvs=>(vs[11]?).bind qd
theorem Ai{h h':Ô}{mv:Option Ä}{P:È}(x:Ah h mv=À P)(hk:∀b o,h.get? b=À o->h'.get? b=À o):Ah h' mv=À P:=by show iq x λv a h1 h2 x=>?_;show iq x λo fd h3 h4 x=>?_;show iq x λc oc h5 h6 x=>?_;unfold Ah;rw[h1];simp only[ace];rw[h2];simp only[ace];rw[hk _ _ h3];simp only[ace];rw[h4];simp only[ace];rw[h5];simp only[ace];rw[hk _ _ h6];show x
def nH(h:Ô)(mg:Str->Option Ä):List DefRec->Option (List È)
 |[]=>À []
 |d::r=>(Ah h (mg d.name)).bind λP=>(nH h mg r).bind λPs=>À (P::Ps)
theorem pf{h h':Ô}{mg:Str->Option Ä}(hk:∀b o,h.get? b=À o->h'.get? b=À o):∀{l:List DefRec} {Ps:List È},nH h mg l=À Ps->nH h' mg l=À Ps
 |[],Ps,x=>x
 |d::r,Ps,x=>by show iq x λP Qs h1 h2 x=>?_;show (Ah h' (mg d.name)).bind _=_;rw[Ai h1 hk];show (nH h' mg r).bind _=_;rw[pf hk h2];show x
theorem kR{h:Ô}{mg:Str->Option Ä}:∀{l:List DefRec} {Ps:List È},nH h mg l=À Ps->Ps.length=l.length/\∀(i:Nat) (d:DefRec),l[i]?=À d->∃P,Ps[i]?=À P/\Ah h (mg d.name)=À P
 |[],Ps,x=>by apply dM x;show⟨rfl,λi d e=>by simp at e⟩
 |d::r,Ps,x=>by
  show iq x λP Qs h1 h2 x=>?_;apply dM x;show aP (kR h2) λk1 k2=>⟨by simp [k1],λi d' e=>?_⟩;cases i with
  |zero=>apply fQ (Option.some.inj e);show⟨P,N,h1⟩
  |succ i=>show k2 i d' e
theorem b1{a b:Bool}(h:(a&&b)=Æ):a=Æ:=(Ņ.mp h).1
theorem b2{a b:Bool}(h:(a&&b)=Æ):b=Æ:=(Ņ.mp h).2
theorem nb{a:Bool}(h:(!a)=Æ):a=Ê:=by cases a;rfl;cases h
theorem KH{o:Obj}{c:Ä}{dt:Data}{sl:Array (Option Ä)}(h1:o.cls=c)(h2:o.dict=Ã)(h3:o.data=dt)(h4:o.slots=sl):o={cls:=c,dict:=Ã,data:=dt,slots:=sl}:=by show Obj.mk o.cls o.dict o.data o.slots=_;rw[h1,h2,h3,h4]
theorem Om{cd:ClassData}{mro:List Ä}(h1:cd.mro=mro)(h2:cd.hasDict=Æ)(h3:cd.slotNames=[])(h4:cd.abstract=Ê)(h5:cd.collection=Ã)(h6:cd.hasDel=Ê):cd={name:=cd.name,bases:=cd.bases,mro:=mro,ns:=cd.ns,qualname:=cd.qualname,hasDict:=Æ,slotNames:=[],subclasses:=cd.subclasses,abstract:=Ê,collection:=Ã,hasDel:=Ê}:=by show ClassData.mk cd.name cd.bases cd.mro cd.ns cd.qualname cd.hasDict cd.slotNames cd.subclasses cd.abstract cd.collection cd.hasDel=_;rw[h1,h2,h3,h4,h5,h6]
theorem Dm{sl:Array (Option Ä)}{v:Option Ä}(h1:sl.size=6)(h2:sl[4]?=À v):∃k0 k1 k2 k3 k5,sl=#[k0,k1,k2,k3,v,k5]:=by obtain ⟨l⟩:=sl;show IA (six_places (l:=l) h1 (by simpa using h2)) λk0 k1 k2 k3 k5 q6=>?_;apply ba q6;show⟨k0,k1,k2,k3,k5,rfl⟩
theorem UG{a b c d:Bool}{C:Prop}(h:(a&&(b&&(c&&d)))=Æ)(k:a=Æ->b=Æ->c=Æ->d=Æ->C):C:=k (b1 h) (b1 (b2 h)) (b1 (b2 (b2 h))) (b2 (b2 (b2 h)))
theorem QT{a b c d e:Bool}{C:Prop}(h:(a&&(b&&(c&&(d&&e))))=Æ)(k:a=Æ->b=Æ->c=Æ->d=Æ->e=Æ->C):C:=UG h λx y z w=>k x y z (b1 w) (b2 w)
def Op(h:Ô)(tl:List Ä)(C:È)(o:Obj)(cd:ClassData):Bool:=o.cls==.type "type" && (o.dict.isNone&&(o.slots.size==6&&(o.slots[4]?==À (À (.builtin "ValueError.__new__"))&&(cd.mro==.ref C::tl&&(cd.hasDict&&(cd.slotNames.isEmpty&&(!cd.abstract&&(cd.collection.isNone&&(!cd.hasDel&&(h.isNs cd.ns&&(h.nsKeys cd.ns).all iz.contains))))))))))
def Jo(h:Ô)(mv:Option Ä)(tl:List Ä):Option (È×È):=mv.bind λv=>(qd v).bind λC=>(h.get? C).bind λo=>(QN o.data).bind λcd=>if Op h tl C o cd then À (C,cd.ns) else Ã
theorem Jn{h:Ô}{tl:List Ä}{C:È}{o:Obj}{cd:ClassData}(c1:Op h tl C o cd=Æ)(ho:h.get? C=À o)(hd:o.data=.cls cd):fy h C tl (h.nsMap cd.ns)/\h.isNs cd.ns=Æ:=by
 unfold Op at c1;show QT c1 λd1 d2 d3 d4 r=>QT r λd5 d6 d7 d8 r=>UG r λd9 UM Tc UN=>IA (Dm (beq_iff_eq.mp (d3)) (beq_iff_eq.mp (d4))) λk0 k1 k2 k3 k5 sR=>?_;have oi:=Om (beq_iff_eq.mp (d5)) (d6) (Ų.mp (d7)) (nb (d8)) (ab3.mp (d9)) (nb (UM));have hoo:=KH (beq_iff_eq.mp (d1)) (ab3.mp (d2)) (hd.trans (congrArg _ oi)) sR;show⟨⟨⟨⟨cd.ns,cd.name,cd.qualname,cd.bases,cd.subclasses,k0,k1,k2,k3,k5⟩,ho.trans (congrArg À hoo),.of_isNs (Tc)⟩,λn hn=>Heap.nsMap_none λhm=>hn ?_⟩,Tc⟩
 simpa using Ϫ.mp (UN) n hm
theorem nZ{h:Ô}{mv:Option Ä}{tl:List Ä}{C pzJ:È}(x:Jo h mv tl=À (C,pzJ)):mv=À (.ref C)/\fy h C tl (h.nsMap pzJ)/\h.isNs pzJ=Æ:=by show iq x λv C' h1 h2 x=>?_;show iq x λo cd h3 h4 x=>?_;show dJ x λhc x=>?_;apply du x;show⟨h1.trans (congrArg À (sj h2)),Jn hc h3 (Cc h4)⟩
structure Ua where
 f:È
 o:Obj
 fd:ī
 x:Str
 n:Str
 y:Str
 a:Arg×Arg
def MZ(h:Ô)(mv:Option Ä):Option Ua:=mv.bind λv=>(qd v).bind λf=>(h.get? f).bind λo=>(I8 o.data).bind λfd=>(QM fd.body).bind λb=>(li b).bind λst=>(QK st).bind λq=>(QL q.1).bind λr=>(dx r.1).bind λx=>(dx q.2).bind λy=>(two fd.params.args).bind λa=>À ⟨f,o,fd,x,r.2,y,a⟩
theorem zu{h:Ô}{mv:Option Ä}{p:Ua}{C:Prop}(z:MZ h mv=À p)(k:mv=À (.ref p.f)->h.get? p.f=À p.o->p.o.data=.func p.fd->(∃p1 p2 p3 p4,p.fd.body=.stmts [.Assign [.Attribute (.Name p.x p1) p.n p2] (.Name p.y p3) p4])->p.fd.params.args=[p.a.1,p.a.2]->C):C:=by show iq z λv f h1 h2 z=>iq z λo fd h3 h4 z=>iq z λb st h5 h6 z=>Bk z λt v' h7 z=>Bk z λWC O h8 z=>iq z λx y h9 Y3 z=>ca z λa Y4 z=>?_;revert k;apply dM z;intro k;show ä (B9 h7) λp1 e7=>ä (Ca h8) λp2 e8=>ä (bH h9) λp3 e9=>ä (bH Y3) λp4 Td=>k (h1.trans (congrArg À (sj h2))) h3 (Ce h4) ⟨p3,p2,p4,p1,(Cb h5).trans (by rw[bZ h6,e7,show t=_ from e8,show WC=_ from e9,show v'=_ from Td])⟩ (ik Y4)
def R8(h:Ô)(p:Ua):Bool:=p.o.cls==.type "function" && (p.x==("self":Str)&&(p.n==("word":Str)&&(p.y==("word":Str)&&(dw p.fd.params&&(p.a.1.arg==("self":Str)&&(p.a.2.arg==("word":Str)&&(decide (p.fd.scope.names=[(("self":Str),NameKind.local),(("word":Str),NameKind.local)]) &&
  (p.fd.scope.kind==.function&&(!p.fd.scope.isGenerator&&(!p.fd.scope.isCoroutine&&(p.fd.globals==Û&&(p.fd.closure.isEmpty&&(p.fd.defaults==.none&&(p.fd.builtins==ą&&h.codeRecOk p.fd.code p.fd.qualname))))))))))))))
def M0(h:Ô)(mv:Option Ä):Option Unit:=(MZ h mv).bind λp=>if R8 h p then À () else Ã
theorem zv{h:Ô}{mv:Option Ä}(z:M0 h mv=À ()):∃f,mv=À (.ref f)/\iO h f:=by show ca z λp h0 z=>zu h0 λh1 h2 h3 h4 h5=>⟨p.f,h1,(QT (cZ z).1 λd1 d2 d3 d4 r=>QT r λd5 d6 d7 d8 r=>QT r λd9 UM Tc UN r=>UG r λYM YN YO YQ=>?_)⟩;have hp:=kD d5;rw[h5]at hp;rw[beq_iff_eq.mp d2,beq_iff_eq.mp d3,beq_iff_eq.mp d4]at h4;show⟨p.o,p.fd,p.a.1,p.a.2,h2,⟨beq_iff_eq.mp d1,h3,h4,hp,beq_iff_eq.mp d6,beq_iff_eq.mp d7,of_decide_eq_true d8,beq_iff_eq.mp d9,nb UM,nb Tc,beq_iff_eq.mp UN,Ų.mp YM,beq_iff_eq.mp YN,beq_iff_eq.mp YO⟩,.of_ok YQ⟩
structure XC(mg:Str->Option Ä)(h:Ô)(C0 C1 C2:È)(m0 m1 m2:Str->Option Ä)(f:È):Prop where
 n0:mg ("LarderError":Str)=À (.ref C0)
 n1:mg ("TooMuch":Str)=À (.ref C1)
 n2:mg ("Short":Str)=À (.ref C2)
 c0:fy h C0 jX m0
 c1:fy h C1 (.ref C0::jX) m1
 c2:fy h C2 (.ref C0::jX) m2
 i0:m0 ("__init__":Str)=À (.ref f)
 i:iO h f
 j1:m1 ("__init__":Str)=Ã
 j2:m2 ("__init__":Str)=Ã
 q:C1≠C2/\C1≠C0/\C2≠C0
structure XE(q:ö)(mg:Str->Option Ä)(h:Ô):Prop where
 tabs:∃Ps,nH h mg (ô q)=À Ps/\Ps.Nodup
 exc:∃C0 C1 C2 m0 m1,∃m2 f,XC mg h C0 C1 C2 m0 m1 m2 f
theorem XE.keeps{q:ö}{mg:Str->Option Ä}{h h':Ô}(X:XE q mg h)(hk:∀b o,h.get? b=À o->h'.get? b=À o):XE q mg h':=
 ⟨aF X.tabs λPs h1 h2=>⟨Ps,pf hk h1,h2⟩,IA X.exc λC0 C1 C2 m0 m1 k=>mM k λm2 f x=>⟨C0,C1,C2,m0,m1,m2,f,x.n0,x.n1,x.n2,x.c0.keeps hk,x.c1.keeps hk,x.c2.keeps hk,x.i0,x.i.keeps hk,x.j1,x.j2,x.q⟩⟩
def xeT(q:ö)(h:Ô):Option Unit:=(Jo h (h.nsMap Û ("LarderError":Str)) jX).bind λp0=>(Jo h (h.nsMap Û ("TooMuch":Str)) (.ref p0.1::jX)).bind λp1=>(Jo h (h.nsMap Û ("Short":Str)) (.ref p0.1::jX)).bind λp2=>
 (M0 h (h.nsMap p0.2 ("__init__":Str))).bind λz=>(nH h (h.nsMap Û) (ô q)).bind λPs=>if (h.nsMap p1.2 ("__init__":Str)).isNone&&(h.nsMap p2.2 ("__init__":Str)).isNone&&p1.1 != p2.1&&p1.1 != p0.1&&p2.1 != p0.1&&decide Ps.Nodup then À () else Ã
def Ys(q:ö)(s:Å):Bool:=(xeT q s.heap).isSome
theorem Yt{q:ö}{s:Å}(x:Ys q s=Æ):XE q (s.heap.nsMap Û) s.heap:=by
 show ä (abE.mp x) λu x=>Bk x λC0 N0 h0 x=>Bk x λC1 N1 h1 x=>Bk x λC2 N2 h2 x=>iq x λz Ps h3 h4 x=>?_;show dJ x λhc z=>?_
 simp only[Ň,ab3,bne_iff_ne,ne_eq,decide_eq_true_eq]at hc
 obtain ⟨⟨⟨⟨⟨c1,c2⟩,c3⟩,c4⟩,c5⟩,c6⟩:=hc;show io (nZ h0) λa1 a2 z=>io (nZ h1) λb1 b2 z=>io (nZ h2) λd1 d2 z=>aF (zv h3) λf e1 e2=>⟨⟨Ps,h4,c6⟩,C0,C1,C2,_,_,_,f,a1,b1,d1,a2,b2,d2,e1,e2,c1,c2,c3,c4,c5⟩
theorem Ls{h:Ô}{mv:Option Ä}{a c P:È}{o:Obj}{fd:ī}(x1:mv=À (.ref a))(x2:h.get? a=À o)(x3:o.data=.func fd)(x4:fd.code=.ref c)(x6:h.TableAt c P #[]):Ah h mv=À P:=by
 obtain ⟨⟨oo,ws,z1,z2,z3,z4⟩,z5⟩:=x6
 have e1:(Ob oo.data).bind (λvs=>(vs[11]?).bind qd)=À P:=by rw[z3];show (ws[11]?).bind qd=_;rw[z4];rfl
 have e2:(I8 o.data).bind (λfd=>(qd fd.code).bind λc=>(h.get? c).bind λoc=>(Ob oc.data).bind λvs=>(vs[11]?).bind qd)=À P:=by rw[x3];show (qd fd.code).bind _=_;rw[x4];show (h.get? c).bind _=_;rw[z1];show e1
 rw[x1];show (h.get? a).bind _=_;rw[x2];show e2
noncomputable def QZ(C0 C1 C2:È)(n:Nat):È:=if n=0 then C0 else if n=1 then C1 else C2
noncomputable def fL(l:List DefRec)(Ps:List È):List (Str×È):=(l.map (λd=>(d.name++".<locals>.":Str))).zip Ps
structure B3(h:Ô)(Ps:List È):Prop where
 at_:∀P∈Ps,h.get? P=À {cls:=.none,data:=.fields #[]}/\isCodeTable h P
theorem B3.up{h:Ô}{Ps:List È}(KE:B3 h Ps)(b:È)(o:Obj)(e:h.get? b=À o)(hd:o.data≠.fields #[]):(Ŀ h Ps).get? b=À o:=
 hideAll_get Ps e λhm=>hd (by rw[Option.some.inj (e.symm.trans (KE.at_ b hm).1)])
theorem B3.ns{h:Ô}{Ps:List È}(KE:B3 h Ps){a:È}{m:Str->Option Ä}(x:h.Ns a m):(Ŀ h Ps).Ns a m:=
 tU x λo es ep e hd r=>⟨o,es,ep,KE.up _ _ e (by rw[hd];show λq=>nomatch q),hd,r⟩
theorem B3.cdr{h:Ô}{Ps:List È}(KE:B3 h Ps){cd:Ä}{q:Str}(x:h.CodeRec cd q):(Ŀ h Ps).CodeRec cd q:=by obtain ⟨c,o,vs,t,y1,y2,y3,y4⟩:=x;show⟨c,o,vs,t,y1,KE.up _ _ y2 ?_,y3,y4⟩;rw[y3];intro q';injection q' with q';subst q';simp at y4
theorem B3.cls{h:Ô}{Ps:List È}(KE:B3 h Ps){C:È}{tl:List Ä}{mN:Str->Option Ä}(x:fy h C tl mN):fy (Ŀ h Ps) C tl mN:=
 ⟨x.obj.elim λD y=>⟨D,KE.up _ _ y.1 (λq=>nomatch q),KE.ns y.2⟩,x.quiet⟩
theorem B3.init{h:Ô}{Ps:List È}(KE:B3 h Ps){f:È}(x:iO h f):iO (Ŀ h Ps) f:=
 ⟨Ej x.ex λo fd a1 a2 ho IO oi=>⟨o,fd,a1,a2,KE.up _ _ ho (by rw[IO.data];show λq=>nomatch q),IO,KE.cdr oi⟩⟩
structure LY(mg:Str->Option Ä)(h:Ô)(Ps:List È)(n:Str)(k:Nat)(a:È)(o:Obj)(fd:ī)(c P:È):Prop where
 O:mg n=À (.ref a)
 ho:h.get? a=À o
 hd:o.data=.func fd
 hc:fd.code=.ref c
 is:h.IsCode c P #[]
 ta:h.TableAt c P #[]
 pk:Ps[k]?=À P
theorem H2{p:ö}{loose:List Str}{qP:ExcName->Option Ä}{mg mb:Str->Option Ä}{h:Ô}(T:Top p loose qP mg mb h){Ps:List È}(t1:nH h mg (ô p)=À Ps)(k:Nat)(d:DefRec)(hd:(ô p)[k]?=À d):∃a o fd c P,LY mg h Ps d.name k a o fd c P:=by obtain ⟨a,o,fd,c,P,x1,x2,x3,x4,x5,x6⟩:=T.tab d (Ĥ hd);show aF ((kR t1).2 k d hd) λP' y1 y2=>?_;rw[Option.some.inj (y2.symm.trans (Ls x1 x2 x3 x4 x6))]at y1;show⟨a,o,fd,c,P,x1,x2,x3,x4,x5,x6,y1⟩
theorem OJ{p:ö}{loose:List Str}{qP:ExcName->Option Ä}{mg mb:Str->Option Ä}{h:Ô}(T:Top p loose qP mg mb h){Ps:List È}(t1:nH h mg (ô p)=À Ps):B3 h Ps:=⟨λP hP=>by
 show ä (List.getElem_of_mem hP) λk q=>ä q λhk e=>?_;have lc:k<(ô p).length:=(kR t1).1▸hk;show IA (H2 T t1 k _ (N' lc)) λa o fd c P' x=>?_
 have q:P'=P:=by have:=x.pk;rw[N' hk,e]at this;show(Option.some.inj this).symm
 rw[<-q];show⟨x.ta.2,x.ta.isCodeTable⟩⟩
theorem Hh{p:ö}{loose:List Str}{qP:ExcName->Option Ä}{mg mb:Str->Option Ä}{h:Ô}(T:Top p loose qP mg mb h)(hf:y9 p loose=Æ)(x:Str)(hx:x∈eV):mg x=Ã/\mb x=ě x:=by
 have:=Ϫ.mp hf x hx
 simp only[Ň,ϔ,List.contains_eq_mem,decide_eq_false_iff_not,bne_iff_ne,ne_eq]at this
 obtain ⟨⟨⟨⟨⟨h1,h2⟩,h3⟩,h4⟩,h5⟩,h6⟩:=this;show⟨T.free x h1 h2 h3 h4 h5,T.builtins x h6⟩
theorem consts_of{p:ö}{loose:List Str}{qP:ExcName->Option Ä}{mg mb:Str->Option Ä}{h:Ô}(T:Top p loose qP mg mb h){consts:List (Str×Int)}(hc:constsOk p consts=Æ)(x:Str)(i:Int)(hx:consts.lookup x=À i):∃t,mg x=À (.int i t):=by show ca (beq_iff_eq.mp (Ϫ.mp hc _ (mem_of_lookup hx))) λd h1 h2=>?_;rw[yK h2]at h1;show aF (T.const x _ h1) λv h3 h4=>?_;have:=h4 h;cases this;show⟨_,h3⟩
theorem B3.tabC{mg:Str->Option Ä}{h:Ô}{Ps:List È}(KE:B3 h Ps){l:List DefRec}{d:DefRec}{k:Nat}(hd:l[k]?=À d){a:È}{o:Obj}{fd:ī}{c P:È}(x:LY mg h Ps d.name k a o fd c P)(hq:fd.qualname=d.name){prog:ö}{w:World}{cl:Nat->È}:NX ⟨prog,w,Ŀ h Ps,fL l Ps,cl⟩ (fd.qualname++".<locals>.") fd.code:=by
 show⟨k,c,P,h,?_,x.hc,x.is,x.ta,λo ho=>KE.up _ _ ho ?_⟩
 ·show (fL l Ps)[k]?=_
  unfold fL;rw[aco];show⟨?_,x.pk⟩;rw[Ħ,hd,hq];rfl
 ·obtain ⟨⟨oo,ws,z1,z2,z3,z4⟩,z5⟩:=x.ta
  rw[<-Option.some.inj (z1.symm.trans ho),z3];intro q';injection q' with q';subst q';simp at z4
theorem Lx{p prog:ö}{w:World}{loose:List Str}{qP:ExcName->Option Ä}{mg mb:Str->Option Ä}{h:Ô}(T:Top p loose qP mg mb h)(X:XE p mg h)(hi:importsNone p=Æ)(consts:List (Str×Int))(calm:List Nat)(hc:constsOk p consts=Æ)(hf:y9 p loose=Æ):
  ∃fs Ps C0 C1 C2,fO ⟨prog,w,Ŀ h Ps,fL (ô p) Ps,QZ C0 C1 C2⟩ (Ct p consts calm) fs mg mb/\fs.map (λf=>(f.params,f.scope,f.body))=(ô p).map (λd=>(d.params,d.scope,d.body))/\Ps.Nodup/\Ps.length=(ô p).length /\
   ∀P∈Ps,h.get? P=À {cls:=.none,data:=.fields #[]}/\isCodeTable h P:=by
 show eK (FK (ô p) T.fn) λfs e1 e2 e3=>aF X.tabs λPs t1 t2=>IA X.exc λC0 C1 C2 m0 m1 k=>mM k λm2 f x=>?_;have KE:=OJ T t1;show⟨fs,Ps,C0,C1,C2,⟨KE.ns T.g,KE.ns T.b,aF T.nolimit λmc h1 h2=>⟨mc,KE.ns h1,h2⟩,aF ((T.seer hi).mods) λmm hm z=>oS (KE.ns hm) λo z z ho z=>⟨o,ho⟩,Hh T hf,consts_of T hc,e1,λf hf=>?_,?_,⟨x.n0,x.n1,x.n2,⟨m0,f,KE.cls x.c0,x.i0,KE.init x.i⟩,⟨m1,KE.cls x.c1,x.j1⟩,⟨m2,KE.cls x.c2,x.j2⟩,x.q⟩,λf hf o fd ho hd=>?_⟩,e2,t2,(kR t1).1,KE.at_⟩
 ·obtain ⟨h1,o,pm,cd,doc,h2,h3,h4⟩:=e3 f hf
  show⟨h1,o,pm,cd,doc,KE.up _ _ h2 (by rw[h3];show λq=>nomatch q),h3,KE.cdr h4⟩
 ·obtain ⟨bm,WC,b1,b2,b3,b4,b5,b6⟩:=T.bmain
  show⟨bm,WC,b1,b2,KE.up _ _ b3 (by rw[b6];show λq=>nomatch q),b4,b5,b6⟩
 ·show ä (ac9 hf) λk hk=>?_
  have MH:(fs.map (·.name))[k]?=À f.name:=by rw[Ħ,hk];rfl
  rw[e1,Ħ,ϧ]at MH;show aF MH λd kg Rw=>IA (H2 T t1 k d kg) λa o' YZ c P y=>?_;obtain ⟨y1,o2,pm,cd,doc,y2,y3,y4⟩:=e3 f hf
  have ha:f.addr=a:=by have:=y.O;rw[Rw,y1]at this;show Value.ref.inj (Option.some.inj this)
  have sQ:=of_hideAll Ps ho;have eo:o'=o:=Option.some.inj (y.ho.symm.trans (ha▸sQ));have ef:YZ=fd:=Data.func.inj (y.hd.symm.trans (eo▸hd));rw[ef]at y;show KE.tabC kg y ?_;have:=(hd.symm.trans (congrArg Obj.data (Option.some.inj (sQ.symm.trans y2)))).trans y3;rw[Data.func.inj this];show Rw.symm
theorem Pv{h h':Ô}{Ps:List È}(hk:∀b o,h.get? b=À o->b∉Ps->h'.get? b=À o)(hP:∀P∈Ps,h.get? P=À {cls:=.none,data:=.fields #[]}/\isCodeTable h P)(hQ:∀P∈Ps,∃vs,h'.get? P=À {cls:=.none,data:=.fields vs}):OldK h h':=by
 show⟨λb o e=>?_,λb o e=>?_⟩
 ·by_cases hb:b∈Ps
  ·show aP (hP b hb) λh1 h2=>ä (hQ b hb) λvs h3=>?_
   apply fQ (Option.some.inj (h1.symm.trans e));show .inr (.inl ⟨h2,rfl,#[],vs,rfl,by rw[h3];simp⟩)
  ·show .inl (hk b o e hb)
 ·by_cases hb:b∈Ps
  ·show ä (hQ b hb) λvs h3=>⟨_,h3⟩
  ·show⟨o,hk b o e hb⟩
theorem law_run{p prog:ö}{w:World}{loose:List Str}{qP:ExcName->Option Ä}{mg mb:Str->Option Ä}{s:Å}(T:Top p loose qP mg mb s.heap)(X:XE p mg s.heap)(hi:importsNone p=Æ)(consts:List (Str×Int))(calm:List Nat)(hc:constsOk p consts=Æ)(hf:y9 p loose=Æ)
  {P:List bj} (Q1:List Nat) (hP:(ô p).zipIdx.map (λd=>bif Q1.contains d.2 then À lu else E5 (Ct p consts calm) d.1.params d.1.scope d.1.body)=P.map À) (Zg:∀k∈calm,∃d cf,(ô p)[k]?=À d/\P[k]?=À cf/\eD (Jh (Ct p consts calm) d.scope (eC d.scope) 200) d.body=À cf.body) {k:Nat} {name:Str} (hk:((ô p).map (·.name))[k]?=À name) {fa:È} (VY:mg name=À (.ref fa)) {a:È} {vs:List Ä} {ns:List Int} (hl:s.heap.IsList a vs.toArray) (hz:ns.length<=ax+1) (hv:ñ vs ns)
  {d:Nat} (hd:d<=100) (h:∀H,∃ae,az P d k [.ro ns] H=À (.ok (.bool Æ),ae)) {E:Ä->Å->Prop} {Q:Ä->Å->Prop} (hQ:∀s',OldK s.heap s'.heap->s'.gens=s.gens->s'.os=s.os->Q (.bool Æ) s') :
  É (model prog w) callerA (PySem.call (.ref fa) [.ref a]) Q E s:=by
 show YX (Lx (prog:=prog) (w:=w) T X hi consts calm hc hf) λfs Ps C0 C1 C2 G Rz MG ch hT=>?_
 have Nr:∀(k:Nat) (fn:Fn),fs[k]?=À fn->∃dr,(ô p)[k]?=À dr/\dr.params=fn.params/\dr.scope=fn.scope/\dr.body=fn.body:=λk fn kY=>by
  have h1:(fs.map (λf=>(f.params,f.scope,f.body)))[k]?=À (fn.params,fn.scope,fn.body):=by simp [kY]
  rw[Rz,Ħ,ϧ]at h1;show aF h1 λdr Rx e=>?_;injection e with e1 e
  injection e with e2 e3
  show⟨dr,Rx,e1,e2,e3⟩
 have Zd:∀(k:Nat) (fn:Fn),fs[k]?=À fn->∃cf,P[k]?=À cf/\(cf=lu\/E5 (Ct p consts calm) fn.params fn.scope fn.body=À cf):=λk fn kY=>by
  show vo (Nr k fn kY) λdr Rx e1 e2 e3=>?_;have h2:=congrArg (·[k]?) hP;rw[Ħ,List.getElem?_zipIdx,Rx,Ħ]at h2;show aF (ϧ.mp h2.symm) λcf wE e4=>⟨cf,wE,?_⟩;rw[<-e1,<-e2,<-e3];dsimp only at e4;cases hb:Q1.contains (0+k) with
  |true=>rw[hb]at e4;show .inl (sm e4)
  |false=>rw[hb]at e4;show .inr e4.symm
 have Ze:∀k∈(Ct p consts calm).calm,∀fn cf,fs[k]?=À fn->P[k]?=À cf->eD (Jh (Ct p consts calm) fn.scope (eC fn.scope) 200) fn.body=À cf.body:=λk VL fn cf kY wE=>by show fe (Zg k VL) λd' YK h1 h2 h3=>vo (Nr k fn kY) λdr Rx e1 e2 e3=>?_;obtain rfl:=Option.some.inj (h1.symm.trans Rx);apply fQ (Option.some.inj (h2.symm.trans wE));rw[<-e2,<-e3];show h3
 have kY:∃fn,fs[k]?=À fn/\fn.name=name:=by rw[show (ô p).map (·.name)=fs.map (·.name) from G.names.symm,Ħ,ϧ]at hk;show hk
 show aF kY λfn kY oZ=>?_
 have Rl:fn.addr=fa:=by have:=(G.made fn (Ĥ kY)).1;rw[oZ,VY]at this;injection this with this;injection this with this;show this.symm
 have SM:(fL (ô p) Ps).length=Ps.length:=by unfold fL;simp [ch]
 have PR:∀(j:Nat) (q:Str) (P:È),(fL (ô p) Ps)[j]?=À (q,P)->Ps[j]?=À P:=λj q P hj=>by unfold fL at hj;rw[aco]at hj;show hj.2
 have R:ak ⟨prog,w,Ŀ s.heap Ps,fL (ô p) Ps,QZ C0 C1 C2⟩ Ps ((fL (ô p) Ps).map λt=>.tab t.1) s.heap:=by show⟨λb o e=>of_hideAll Ps e,λa ha=>hideAll_none Ps ha,by rw[H',SM],MG,λi a m h1 h2=>?_,λj q P hj=>⟨PR j q P hj,by rw[Ħ,hj];rfl⟩⟩;rw[Ħ,ϧ]at h2;obtain ⟨⟨q,P⟩,h2,rfl⟩:=h2;apply ba (Option.some.inj ((PR i q P h2).symm.trans h1));show .tab (hT _ (Ĥ h1)).1 trivial λpos cv e=>no (e)
 have jg:(Ŀ s.heap Ps).IsList a vs.toArray:=by show eK hl λo e ff kg=>⟨o,hideAll_get Ps e λhm=>?_,ff,kg⟩;have:=(hT a hm).1;rw[e]at this;cases this;cases ff
 show ä (h ((fL (ô p) Ps).map λt=>.tab t.1)) λae OW=>?_;have:=Cn DO ⟨_,_,fs,mg,mb,P⟩ G Zd Ze d hd k [.ro ns] _ (.bool Æ) ae OW fn kY Ps s [.ref a] R (.cons (.ro jg hz hv) .nil) E;rw[Rl]at this;show Ï this (λv s' hp=>?_) λz z x=>x;obtain ⟨aR,S,R',V',T'⟩:=hp;cases V';show hQ s' (Pv (λb o e hb=>R'.base b o (hideAll_get Ps e hb)) hT λP hP=>ä (ac9 hP) λj hj=>?_) T'.1 T'.2.2;have ZX:j<(fL (ô p) Ps).length:=by rw[SM];show(ģ.mp hj).1
 obtain ⟨⟨q,P'⟩,hq⟩:∃t,(fL (ô p) Ps)[j]?=À t:=⟨_,N' ZX⟩;apply fQ (Option.some.inj ((PR j q P' hq).symm.trans hj));show aP (R'.tabs j q P' hq) λk1 k2=>?_;cases R'.objs j P' _ k1 k2 with
 |tab h1 _ _=>show⟨_,h1⟩
theorem Ks{p q:ö}{loose:List Str}{Xt:Å->Bool}{α:Type}{Yf:Å->α}{Ya:World->α}{pzJ:Nat}{g0:Bool}
  (e:opening p=plainProg p.main.scope.names) (hN:Nat.ble 600 pzJ=Æ) (f:∀s,fenceModules? p s=À s)
  (run:∀w os,(topFrom treeTable p w pzJ ⟨boot_heap w.params,Array.mk [],boot_drawn,boot_toks,os⟩).map (λs=>(openSeen q loose (importedModules p.main.body) Xt g0 s,Yf s))=À (openGood q loose,Ya w)) :
  LeftO p q loose Xt Yf Ya pzJ g0:=λw=>by
 show aF (ϧ.mp (boot_open e hN f w)) λs e1 e2=>?_;have q:=Prod.mk.inj e2;have q2:=Prod.mk.inj q.2;have q3:=Prod.mk.inj q2.2
 have es:s=⟨boot_heap w.params,Array.mk [],boot_drawn,boot_toks,s.os⟩:=by show Shared.mk s.heap s.gens s.drawn s.toks s.os=_;rw[q.1,q2.1,q3.1,q3.2]
 unfold openEnds;rw[e1,es];show run w s.os
theorem PT{p q:ö}{loose So:List Str}{w:World}{pzJ:Nat}{s:Å}{Xt:Å->Bool}{g0:Bool}{α:Type}{Yf:Å->α}:
  (topFrom treeTable p w pzJ s).map (λs=>(openSeen q loose So Xt g0 s,Yf s)) =
  (match s.heap.isNs Û&&s.gens.size==0 with
  |true=>(PySem.W.Fast.tw14082659384304107361 PySem.W.Fast.tw14364793385576792824 p w s.heap.objs.size (s.heap.nsMap Û "__annotations__") pzJ s (topStub p)).bind λÌ=>match staticsOk (importedModules p.main.body) s.heap Ì.heap&&namesBound p Ì.heap&&gensDone Ì&&laidKept s.heap Ì.heap with
   |true=>À Ì
   |false=>Ã
  |false=>Ã).map (λs=>(PySem.W.Fast.tw4187177175401517315 q loose So Xt g0 s,Yf s)):=by
 rw[<-PySem.W.Fast.te14082659384304107361,<-PySem.W.Fast.te14364793385576792824,<-PySem.W.Fast.te4187177175401517315];rfl
end L.Lake
namespace L.Lake
open PySem
noncomputable abbrev xv(i:Nat):CE:=.var i
noncomputable abbrev xn(i:Int):CE:=.cst (.int i)
noncomputable abbrev xz(s:Str):CE:=.cst (.str s)
noncomputable abbrev xA(a b:CE):CE:=.bin .Add a b
noncomputable abbrev xS(a b:CE):CE:=.bin .Sub a b
noncomputable abbrev xM(a b:CE):CE:=.bin .Mult a b
noncomputable abbrev xD(a b:CE):CE:=.bin .FloorDiv a b
noncomputable abbrev xR(a b:CE):CE:=.bin .Mod a b
noncomputable abbrev xE(a b:CE):CE:=.cmp .Eq a b
noncomputable abbrev xN(a b:CE):CE:=.cmp .NotEq a b
noncomputable abbrev xL(a b:CE):CE:=.cmp .Lt a b
noncomputable abbrev xLE(a b:CE):CE:=.cmp .LtE a b
noncomputable abbrev xG(a b:CE):CE:=.cmp .Gt a b
noncomputable abbrev NG(a b:CE):CE:=.cmp .GtE a b
noncomputable abbrev xI(a b:CE):CE:=.cmp .Is a b
noncomputable abbrev xIN(a b:CE):CE:=.cmp .IsNot a b
noncomputable abbrev a1(a:CE):gF:=.cons a .nil
abbrev a2(a b:CE):gF:=.cons a (a1 b)
abbrev a3(a b c:CE):gF:=.cons a (a2 b c)
abbrev a4(a b c d:CE):gF:=.cons a (a3 b c d)
abbrev xi(a:CE)(i:Int):CE:=.idx a (xn i)
abbrev xu(a:Nat)(i:Int):CE:=xi (.var a) i
noncomputable abbrev sa(i:Nat)(e:CE):CS:=.assign (.one i) e
abbrev ap(i:Nat)(e:CE):CS:=.expr (.meth .append (.var i) (a1 e))
noncomputable abbrev jV(c:CE)(t:fx):CS:=.ite c t .nil
noncomputable abbrev fr(i:Nat)(e:CE)(t:fx):CS:=.for_ (.one i) (.ex e) t
noncomputable abbrev dL(a:CS):fx:=.cons a .nil
abbrev uX(a b:CS):fx:=.cons a (dL b)
abbrev rQ(a b c:CS):fx:=.cons a (uX b c)
abbrev Dj(a b c d:CS):fx:=.cons a (rQ b c d)
abbrev Ql(a b c d e:CS):fx:=.cons a (Dj b c d e)
abbrev Qm(a b c d e f:CS):fx:=.cons a (Ql b c d e f)
def za:bj:=⟨1,(rQ (sa 1 .dict0) (fr 2 (xv 0) (dL (.for_ (.two 3 4) (.ex (xu 2 1)) (dL (.setItem (xv 1) (xv 3) (.cst (.bool Æ))))))) (.ret (.prim .tuple (a1 (.prim .sorted (a1 (xv 1)))))))⟩
def JN:bj:=⟨2,(rQ (sa 2 (xM (.list (a1 (xn 0))) (xn 7))) (.for_ (.two 3 4) (.ex (xv 0)) (dL (.for_ (.two 5 6) (.ex (xv 4)) (dL (jV (xE (xv 5) (xv 1)) (dL (.setItem (xv 2) (xS (xv 3) (xn 1)) (xA (.idx (xv 2) (xS (xv 3) (xn 1))) (xv 6))))))))) (.ret (.prim .tuple (a1 (xv 2)))))⟩
def CA:bj:=⟨1,(dL (.ret (.prim .tuple (a1 (.comp (.prim .sum (a1 (.slc (xv 0) (xv 1) (.cst .none)))) (.one 1) (.rng1 (xn 7)) .nil)))))⟩
def t6:bj:=⟨4,(uX (sa 4 (.comp (xv 5) (.two 5 6) (.enm (xv 0)) (a1 (.and (xE (xu 6 0) (xv 2)) (.and (NG (xu 6 2) (xv 3)) (xG (.idx (xv 1) (xv 5)) (xn 0))))))) (.ret (.sortK (.ex (xv 4)) 5 (.pair (.idx (.idx (.var 0) (.var 5)) (.num 2)) (.var 5)))))⟩
def CG:bj:=⟨4,(Ql (sa 4 (.list .nil)) (.assign (.two 5 6) (xv 2)) (fr 7 (.call 3 (a4 (xv 0) (xv 1) (xv 5) (xv 3))) (dL (jV (xG (xv 6) (xn 0)) (Dj (sa 8 (.prim .min2 (a2 (xv 6) (.idx (xv 1) (xv 7))))) (.setItem (xv 1) (xv 7) (xS (.idx (xv 1) (xv 7)) (xv 8))) (sa 6 (xS (xv 6) (xv 8))) (ap 4 (.tuple (a2 (xv 7) (xv 8)))))))) (jV (xG (xv 6) (xn 0)) (dL (.raise_ 2 (xv 5)))) (.ret (xv 4)))⟩
def JL:bj:=⟨2,(Dj (sa 2 (.comp (xu 9 1) (.one 9) (.ex (xv 1)) .nil)) (sa 3 (xM (.list (a1 (.tuple .nil))) (.prim .len (a1 (xv 0))))) (fr 4 (.sortK (.rng1 (.prim .len (a1 (xv 0)))) 9 (.idx (.idx (.var 0) (.var 9)) (.num 0))) (Dj (.assign (.two 5 6) (.idx (xv 0) (xv 4))) (sa 7 (.list .nil)) (fr 8 (xv 6) (dL (.expr (.meth .extend (xv 7) (a1 (.call 4 (a4 (xv 1) (xv 2) (xv 8) (xv 5)))))))) (.setItem (xv 3) (xv 4) (.prim .tuple (a1 (xv 7)))))) (.ret (.prim .tuple (a1 (xv 3)))))⟩
def Q7:bj:=⟨2,(Ql (sa 2 (xM (.list (a1 (xn 0))) (.prim .len (a1 (xv 0))))) (fr 3 (xv 1) (dL (.for_ (.two 4 5) (.ex (xv 3)) (dL (.setItem (xv 2) (xv 4) (xA (.idx (xv 2) (xv 4)) (xv 5))))))) (sa 6 (.list .nil)) (.for_ (.two 4 7) (.enm (xv 0)) (uX (sa 8 (xS (xu 7 1) (.idx (xv 2) (xv 4)))) (.ite (xL (xu 7 2) (xn 7)) (dL (ap 6 (.tuple (a3 (.idx (xv 2) (xv 4)) (xv 8) (xn 0))))) (dL (ap 6 (.tuple (a3 (.idx (xv 2) (xv 4)) (xn 0) (xv 8)))))))) (.ret (.prim .tuple (a1 (xv 6)))))⟩
def Q8:bj:=⟨2,(rQ (sa 2 (.list .nil)) (.for_ (.one 3) (.rng2 (xn 1) (xA (xn 7) (xn 1))) (dL (ap 2 (.prim .sum (a1 (.comp (xu 4 1) (.one 4) (.ex (xv 0)) (a1 (.and (xE (xu 4 0) (xv 1)) (NG (xu 4 2) (xv 3)))))))))) (.ret (.prim .tuple (a1 (xv 2)))))⟩
def FJ:bj:=⟨3,(rQ (sa 3 (.call 2 (a1 (.call 1 (a2 (xv 0) (xv 2)))))) (sa 4 (.call 7 (a2 (xv 1) (xv 2)))) (.ret (.prim .tuple (a1 (.comp (.prim .max2 (a2 (xn 0) (xS (.idx (xv 3) (xv 5)) (.idx (xv 4) (xv 5))))) (.one 5) (.rng1 (xn 7)) .nil)))))⟩
def yY:bj:=⟨2,(dL (.ret (xE (.prim .min2 (a2 (xu 0 2) (xn 7))) (xv 1))))⟩
def CB:bj:=⟨4,(uX (jV (xE (xv 2) (xn 7)) (dL (.ret (.ite (xE (xv 3) (xn 0)) (xn 0) (.cst .none))))) (.ret (.idx (.idx (xv 0) (xA (xv 2) (xn 1))) (.prim .max2 (a2 (xv 3) (.idx (xv 1) (xv 2)))))))⟩
def wy:bj:=⟨3,(rQ (sa 3 (.idx (xv 0) (.prim .max2 (a2 (xn 0) (xS (xv 2) (xu 1 0)))))) (jV (xI (xv 3) (.cst .none)) (dL (.ret (.cst .none)))) (.ret (xA (xv 3) (xu 1 1))))⟩
def JQ:bj:=⟨4,(Dj (sa 4 (.comp (xv 8) (.one 8) (.ex (xv 0)) (a1 (.call 9 (a2 (xv 8) (xv 3)))))) (sa 5 (.list (a1 (.call 10 (a4 (xv 2) (xv 1) (xv 3) (xn 0)))))) (.for_ (.one 6) (.rng2 (xn 1) (xA (.prim .max1 (a1 (xv 1))) (xn 1))) (uX (sa 7 (xA (.list (a1 (.call 10 (a4 (xv 2) (xv 1) (xv 3) (xv 6))))) (.comp (.call 11 (a3 (xv 5) (xv 8) (xv 6))) (.one 8) (.ex (xv 4)) .nil))) (ap 5 (.prim .minD (a1 (.comp (xv 8) (.one 8) (.ex (xv 7)) (a1 (xIN (xv 8) (.cst .none))))))))) (.ret (.prim .tuple (a1 (xv 5)))))⟩
def t9:bj:=⟨2,(rQ (sa 2 .dict0) (.for_ (.one 3) (.rng1 (xn 7)) (uX (sa 4 (xS (xn 7) (xv 3))) (.setItem (xv 2) (xv 4) (.call 12 (a4 (xv 0) (xv 1) (xv 2) (xv 4)))))) (.ret (xv 2)))⟩
def t7:bj:=⟨4,(uX (.for_ (.two 4 5) (.enm (xv 0)) (dL (jV (.and (.call 9 (a2 (xv 5) (xv 2))) (xE (.call 11 (a3 (xv 1) (xv 5) (xv 3))) (.idx (xv 1) (xv 3)))) (dL (.ret (xv 4)))))) (.ret (.cst .none)))⟩
def JK:bj:=⟨2,(.cons (sa 2 (.call 13 (a2 (xv 0) (xv 1)))) (Qm (sa 3 (xn 1)) (sa 4 (xu 1 0)) (jV (xI (.idx (.idx (xv 2) (xv 3)) (xv 4)) (.cst .none)) (dL (.ret (.cst .none)))) (sa 5 (xM (.list (a1 (xn 0))) (.prim .len (a1 (xv 0))))) (.while_ (xLE (xv 3) (xn 7)) (dL (.ite (xE (.idx (.idx (xv 2) (xv 3)) (xv 4)) (.call 10 (a4 (xv 2) (xv 1) (xv 3) (xv 4)))) (uX (jV (xL (xv 3) (xn 7)) (dL (sa 4 (.prim .max2 (a2 (xv 4) (.idx (xv 1) (xv 3))))))) (sa 3 (xA (xv 3) (xn 1)))) (rQ (sa 6 (.call 14 (a4 (xv 0) (.idx (xv 2) (xv 3)) (xv 3) (xv 4)))) (.setItem (xv 5) (xv 6) (xA (.idx (xv 5) (xv 6)) (xn 1))) (sa 4 (.prim .max2 (a2 (xn 0) (xS (xv 4) (xi (.idx (xv 0) (xv 6)) 0))))))))) (.ret (.prim .tuple (a1 (xv 5))))))⟩
def yW:bj:=⟨4,(Ql (jV (xG (.prim .sum (a1 (.call 1 (a2 (xv 0) (xv 3))))) (xn 200)) (dL (.raise_ 1 (xv 3)))) (sa 4 (.comp (xv 6) (.two 6 7) (.enm (xv 2)) (a1 (xE (xu 7 0) (xv 3))))) (sa 5 (.call 15 (a2 (.prim .tuple (a1 (.comp (.slc (.idx (xv 2) (xv 6)) (xn 1) (.cst .none)) (.one 6) (.ex (xv 4)) .nil))) (.call 8 (a3 (xv 0) (xv 1) (xv 3)))))) (jV (xI (xv 5) (.cst .none)) (dL (.raise_ 2 (xv 3)))) (.ret (.zipl (xv 4) (xv 5))))⟩
def FQ:bj:=⟨3,(rQ (sa 3 (xM (.list (a1 (xn 0))) (.prim .len (a1 (xv 2))))) (fr 4 (.call 0 (a1 (xv 0))) (dL (.for_ (.two 5 6) (.ex (.call 16 (a4 (xv 0) (xv 1) (xv 2) (xv 4)))) (dL (.setItem (xv 3) (xv 5) (xv 6)))))) (.ret (.prim .tuple (a1 (xv 3)))))⟩
def FR:bj:=⟨3,(rQ (sa 3 (.prim .list (a1 (xv 0)))) (.for_ (.two 4 5) (.zip (xv 1) (xv 2)) (dL (.for_ (.one 6) (.rng1 (xv 5)) (dL (ap 3 (.tuple (a3 (xu 4 0) (xu 4 1) (xu 4 3)))))))) (.ret (.prim .tuple (a1 (xv 3)))))⟩
def OB:bj:=⟨2,(dL (.ret (.prim .sum (a1 (.comp (xM (xu 2 2) (xv 3)) (.two 2 3) (.zip (xv 0) (xv 1)) .nil)))))⟩
def Rb:bj:=⟨3,(Dj (sa 3 (.call 17 (a3 (xv 0) (xv 1) (xv 2)))) (sa 4 (.call 18 (a3 (xv 1) (xv 2) (xv 3)))) (sa 5 (.call 5 (a2 (xv 0) (xv 4)))) (.ret (.tuple (a4 (xv 3) (xv 4) (xv 5) (.call 6 (a2 (xv 4) (xv 5)))))))⟩
def oV:bj:=⟨1,(Dj (sa 1 (.list .nil)) (sa 2 (xn 1)) (fr 3 (xv 0) (uX (sa 2 (xR (xA (xA (xM (xv 2) (xn 6364136223846793005)) (xv 3)) (xn 1442695040888963407)) (xn 1000000000000000003))) (ap 1 (xv 2)))) (.ret (xv 1)))⟩
def iY:bj:=⟨2,(uX (jV (xL (xv 1) (.prim .len (a1 (xv 0)))) (dL (.ret (.idx (xv 0) (xv 1))))) (.ret (xM (xM (xA (xv 1) (xn 3)) (xA (xv 1) (xn 7))) (xn 7919))))⟩
def sL:bj:=⟨2,(uX (sa 2 (xR (xA (xA (xv 0) (xM (xn 104729) (xv 1))) (xM (xM (xn 7919) (xv 1)) (xv 1))) (xn 998244353))) (.ret (xR (xM (xR (xM (xv 2) (xv 2)) (xn 998244353)) (xn 1000003)) (xn 998244353))))⟩
def iZ:bj:=⟨2,(.cons (sa 2 (xz "abcdefghijklmnopqrstuvwxyz")) (.cons (sa 3 (.list (.cons (xz "total") (.cons (xz "day") (.cons (xz "flour") (.cons (xz "salt") (.cons (xz "left") (.cons (xz "used") (.cons (xz "short") (a4 (xz "salts") (xz "a") (xz "z") (xz "oil"))))))))))) (.cons (sa 4 (xD (xv 0) (xn 6))) (.cons (jV (.and (xE (xR (xv 0) (xn 6)) (xn 0)) (xL (xv 1) (xn 4))) (dL (.ret (.idx (xv 3) (xR (xA (xv 4) (xv 1)) (xn 11)))))) (.cons (sa 5 (xz "")) (.cons (sa 6 (xD (xv 4) (xn 7))) (Qm (.for_ (.one 7) (.rng1 (xA (xn 1) (xR (xv 4) (xn 7)))) (uX (sa 6 (xA (xA (xv 6) (xn 1)) (xR (xD (xv 4) (xn 182)) (xn 25)))) (sa 5 (xA (xv 5) (.idx (xv 2) (xR (xv 6) (xn 26))))))) (sa 8 (xR (xD (xv 4) (xn 4550)) (.prim .len (a1 (xv 5))))) (jV (xG (xv 1) (xn 3)) (uX (sa 9 (xA (.idx (xv 2) (xR (xA (xv 6) (xD (xv 1) (xn 26))) (xn 26))) (.idx (xv 2) (xR (xv 1) (xn 26))))) (.ret (xA (xA (.slc (xv 5) (.cst .none) (.prim .min2 (a2 (xv 8) (xn 6)))) (xv 9)) (.slc (xv 5) (.prim .min2 (a2 (xv 8) (xn 6))) (xn 6)))))) (jV (xG (xR (xv 0) (xn 6)) (xn 3)) (dL (.ret (xA (.idx (xv 2) (xR (xA (xD (xv 4) (xn 7)) (xv 1)) (xn 26))) (xv 5))))) (jV (xE (xv 1) (xn 1)) (uX (sa 10 (.idx (xv 2) (xR (xA (.meth .find (xv 2) (a1 (.idx (xv 5) (xv 8)))) (xn 1)) (xn 26)))) (.ret (xA (xA (.slc (xv 5) (.cst .none) (xv 8)) (xv 10)) (.slc (xv 5) (xA (xv 8) (xn 1)) (.cst .none)))))) (.ret (xA (xv 5) (.idx (.list (a4 (xz "") (xz "") (.idx (xv 2) (xR (xv 6) (xn 26))) (.idx (xv 2) (xR (xA (xv 6) (xn 1)) (xn 26))))) (xv 1)))))))))))⟩
def mP:bj:=⟨2,(Dj (sa 2 (xR (xv 0) (xn 8))) (jV (xE (xv 2) (xn 0)) (dL (.ret (xA (xn 1) (xR (xD (xv 0) (xn 8)) (xv 1)))))) (jV (xE (xv 2) (xn 1)) (dL (.ret (xA (xn 1) (xR (xD (xv 0) (xn 8)) (xn 60)))))) (.ret (xA (xn 1) (xR (xD (xv 0) (xn 8)) (xn 12)))))⟩
def qo:bj:=⟨1,(rQ (jV (xE (xR (xv 0) (xn 6)) (xn 0)) (dL (.ret (xA (xn 1) (xR (xD (xv 0) (xn 6)) (xn 99)))))) (jV (xL (xR (xv 0) (xn 6)) (xn 3)) (dL (.ret (xA (xn 7) (xR (xD (xv 0) (xn 6)) (xn 2)))))) (.ret (xA (xn 1) (xR (xD (xv 0) (xn 6)) (xn 9)))))⟩
def tX:bj:=⟨3,(rQ (sa 3 (.list .nil)) (.for_ (.one 4) (.rng1 (xv 2)) (Ql (sa 5 (.call 23 (a2 (.call 22 (a2 (xv 0) (xA (xn 3) (xR (xv 4) (xn 20))))) (xv 4)))) (sa 6 (.list .nil)) (sa 7 (.idx (.list (a2 (xR (xD (xv 5) (xn 7)) (xn 4)) (xR (xD (xv 5) (xn 7)) (xn 21)))) (.prim .int (a1 (.and (xE (xR (xD (xv 5) (xn 147)) (xn 40)) (xn 0)) (xL (xv 4) (xn 2))))))) (.for_ (.one 8) (.rng1 (xv 7)) (Dj (sa 9 (.call 23 (a2 (xD (xv 5) (xn 28)) (xA (xv 8) (xn 1))))) (sa 10 (xA (xn 1) (xR (xD (xv 9) (xn 60)) (xn 12)))) (jV (xE (xR (xD (xv 9) (xn 720)) (xn 40)) (xn 0)) (dL (sa 10 (.call 27 (a2 (xD (xv 9) (xn 28800)) (xn 200)))))) (ap 6 (.tuple (a2 (.call 26 (a2 (xu 1 0) (xR (xR (xv 9) (xn 60)) (xu 1 1)))) (xv 10)))))) (ap 3 (.tuple (a2 (xA (xn 1) (xR (xv 5) (xn 7))) (.prim .tuple (a1 (xv 6)))))))) (.ret (.prim .tuple (a1 (xv 3)))))⟩
def tZ:bj:=⟨3,(rQ (sa 3 (.list .nil)) (.for_ (.one 4) (.rng1 (xv 2)) (rQ (sa 5 (.call 23 (a2 (.call 22 (a2 (xv 0) (xA (xn 23) (xR (xv 4) (xn 10))))) (xA (xn 40) (xv 4))))) (sa 6 (.call 23 (a2 (xv 5) (xv 4)))) (ap 3 (.tuple (a3 (.call 26 (a2 (xu 1 0) (xR (xR (xv 5) (xn 60)) (xu 1 1)))) (.call 27 (a2 (xD (xv 5) (xn 60)) (xn 200))) (.call 28 (a1 (xv 6)))))))) (.ret (.prim .tuple (a1 (xv 3)))))⟩
def oW:bj:=⟨1,(rQ (jV (xE (xR (xv 0) (xn 9)) (xn 0)) (dL (.ret (xR (xD (xv 0) (xn 9)) (xn 1000001))))) (jV (xE (xR (xv 0) (xn 9)) (xn 1)) (dL (.ret (xn 0)))) (.ret (xR (xD (xv 0) (xn 9)) (xn 30))))⟩
def wm:bj:=⟨3,(rQ (sa 3 (.list .nil)) (.for_ (.one 4) (.rng1 (xv 2)) (Dj (sa 5 (.call 23 (a2 (.call 22 (a2 (xv 0) (xA (xn 33) (xR (xv 4) (xn 10))))) (xA (xn 80) (xv 4))))) (sa 6 (.call 23 (a2 (xv 5) (xA (xv 4) (xn 1))))) (sa 7 (.call 26 (a2 (xu 1 0) (xR (xR (xv 5) (xn 60)) (xu 1 1))))) (ap 3 (.tuple (a4 (xv 7) (.call 27 (a2 (xD (xv 5) (xn 60)) (xn 200))) (.call 31 (a1 (xv 6))) (.call 28 (a1 (xD (xv 6) (xn 997))))))))) (.ret (.prim .tuple (a1 (xv 3)))))⟩
def wl:bj:=⟨1,(Dj (sa 1 (.call 22 (a2 (xv 0) (xn 0)))) (sa 2 (.idx (.list (a4 (xn 1) (xn 2) (xn 3) (xn 4))) (xR (.call 22 (a2 (xv 0) (xn 1))) (xn 4)))) (jV (xE (xR (xD (.call 22 (a2 (xv 0) (xn 1))) (xn 4)) (xn 16)) (xn 0)) (dL (sa 2 (xn 12)))) (.ret (.list (a2 (xv 1) (xv 2)))))⟩
def qp:bj:=⟨3,(uX (jV (xE (xR (xv 0) (xn 24)) (xn 0)) (dL (.ret (xR (xD (xv 0) (xn 24)) (xA (xv 2) (xn 1)))))) (.ret (xR (xD (xv 0) (xn 24)) (xA (xv 1) (xn 1)))))⟩
def wk:bj:=⟨3,(rQ (sa 3 (.list .nil)) (.for_ (.one 4) (.rng2 (xn 1) (xn 8)) (Dj (sa 5 (xn 0)) (fr 6 (xv 0) (dL (jV (NG (xu 6 0) (xv 4)) (dL (sa 5 (xA (xv 5) (.prim .sum (a1 (.comp (xu 8 1) (.one 8) (.ex (xu 6 1)) (a1 (xE (xu 8 0) (xv 2)))))))))))) (fr 7 (xv 1) (dL (jV (.and (xE (xu 7 0) (xv 2)) (NG (xu 7 2) (xv 4))) (dL (sa 5 (xS (xv 5) (xu 7 1))))))) (ap 3 (.prim .max2 (a2 (xn 0) (xv 5)))))) (.ret (xv 3)))⟩
def t0:bj:=⟨2,(rQ (sa 2 (xn 0)) (fr 3 (xv 0) (dL (sa 2 (xA (xv 2) (.prim .sum (a1 (.comp (xu 4 1) (.one 4) (.ex (xu 3 1)) (a1 (xE (xu 4 0) (xv 1)))))))))) (.ret (xv 2)))⟩
def t4:bj:=⟨1,(rQ (sa 1 .dict0) (fr 2 (xv 0) (dL (fr 3 (xu 2 1) (dL (.setItem (xv 1) (xu 3 0) (.cst (.bool Æ))))))) (.ret (.prim .sorted (a1 (xv 1)))))⟩
def tW:bj:=⟨2,(rQ (sa 2 (.list .nil)) (.for_ (.one 3) (.rng1 (.prim .len (a1 (xv 0)))) (uX (sa 4 (.call 23 (a2 (xv 1) (xA (xv 3) (xn 50))))) (ap 2 (.idx (.list (.cons (xn 0) (a4 (xR (xD (xv 4) (xn 5)) (xn 3)) (xR (xD (xv 4) (xn 5)) (xn 3)) (xR (xD (xv 4) (xn 5)) (xn 7)) (xn 0)))) (xR (xv 4) (xn 5)))))) (.ret (xv 2)))⟩
def tY:bj:=⟨4,(uX (.for_ (.one 4) (.rng3 (xn 7) (xn 0) (.neg (xn 1))) (Dj (sa 6 (.comp (xv 9) (.one 9) (.rng1 (.prim .len (a1 (xv 0)))) (a1 (NG (xi (.idx (xv 0) (xv 9)) 2) (xv 4))))) (sa 7 (.prim .sum (a1 (.comp (xM (xi (.idx (xv 0) (xv 9)) 0) (.idx (xv 1) (xv 9))) (.one 9) (.ex (xv 6)) .nil)))) (jV (.and (xL (xv 7) (.idx (xv 2) (xS (xv 4) (xn 1)))) (xE (xv 6) (.list .nil))) (dL (.ret (.cst .none)))) (jV (xL (xv 7) (.idx (xv 2) (xS (xv 4) (xn 1)))) (rQ (sa 5 (.idx (xv 6) (xR (.call 23 (a2 (xv 3) (xv 4))) (.prim .len (a1 (xv 6)))))) (sa 8 (xS (xA (xS (.idx (xv 2) (xS (xv 4) (xn 1))) (xv 7)) (xi (.idx (xv 0) (xv 5)) 0)) (xn 1))) (.setItem (xv 1) (xv 5) (xA (.idx (xv 1) (xv 5)) (xD (xv 8) (xi (.idx (xv 0) (xv 5)) 0)))))))) (.ret (xv 1)))⟩
def FC:bj:=⟨2,(dL (.ret (.comp (xv 2) (.one 2) (.rng1 (.prim .len (a1 (xv 0)))) (a1 (xE (xi (.idx (xv 0) (xv 2)) 0) (xv 1))))))⟩
def n9:bj:=⟨4,(rQ (sa 4 (xM (.list (a1 (xn 0))) (.prim .len (a1 (xv 2))))) (fr 5 (.call 37 (a1 (xv 0))) (Ql (sa 6 (.call 45 (a2 (xv 2) (xv 5)))) (sa 8 (.comp (.slc (.idx (xv 2) (xv 10)) (xn 1) (.cst .none)) (.one 10) (.ex (xv 6)) .nil)) (sa 9 (.call 44 (a4 (xv 8) (.call 43 (a2 (xv 8) (xv 3))) (.call 35 (a3 (xv 0) (xv 1) (xv 5))) (xD (xv 3) (xn 7))))) (jV (xI (xv 9) (.cst .none)) (dL (.ret (.cst .none)))) (.for_ (.one 7) (.rng1 (.prim .len (a1 (xv 6)))) (dL (.setItem (xv 4) (.idx (xv 6) (xv 7)) (.idx (xv 9) (xv 7))))))) (.ret (xv 4)))⟩
def yU:bj:=⟨3,(Qm (sa 3 (xS (xA (xn 199) (xR (xv 2) (xn 3))) (.call 36 (a2 (xv 0) (xv 1))))) (jV (xL (xv 3) (xn 2)) (dL (.ret (xv 0)))) (sa 4 (xA (xn 1) (xR (xD (xv 2) (xn 3)) (xS (xv 3) (xn 1))))) (sa 5 (.tuple (a2 (.tuple (a2 (xA (xn 1) (xR (xD (xv 2) (xn 600)) (xn 7))) (.tuple (a1 (.tuple (a2 (xv 1) (xv 4))))))) (.tuple (a2 (xA (xn 1) (xR (xD (xv 2) (xn 4200)) (xn 7))) (.tuple (a1 (.tuple (a2 (xv 1) (xS (xv 3) (xv 4))))))))))) (sa 6 (xR (xD (xv 2) (xn 30000)) (xA (.prim .len (a1 (xv 0))) (xn 1)))) (.ret (xA (xA (.slc (xv 0) (.cst .none) (xv 6)) (xv 5)) (.slc (xv 0) (xv 6) (.cst .none)))))⟩
def wt:bj:=⟨1,(.cons (sa 1 (.call 33 (a1 (xv 0)))) (.cons (sa 2 (.call 22 (a2 (xv 0) (xn 2)))) (.cons (sa 3 (.call 29 (a3 (xv 0) (xv 1) (.call 34 (a3 (xv 2) (xn 5) (xn 24)))))) (.cons (sa 4 (.call 30 (a3 (xv 0) (xv 1) (.call 34 (a3 (xD (xv 2) (xn 1500)) (xn 5) (xn 120)))))) (Qm (sa 5 (.call 32 (a3 (xv 0) (xv 1) (xR (xD (xv 2) (xn 60000)) (xn 6))))) (sa 5 (.prim .tuple (a1 (.comp (xA (.tuple (a2 (xu 9 0) (.prim .max2 (a2 (xn 4) (xu 9 1))))) (.slc (xv 9) (xn 2) (.cst .none))) (.one 9) (.ex (xv 5)) .nil)))) (sa 6 (xD (xv 2) (xn 700000))) (jV (.and (xG (xR (xv 6) (xn 3)) (xn 0)) (xL (xu 1 1) (xn 5))) (dL (.for_ (.one 7) (.rng1 (xu 1 1)) (uX (sa 8 (.call 26 (a2 (xu 1 0) (xv 7)))) (sa 5 (xA (xv 5) (.tuple (a1 (.tuple (a4 (xv 8) (xA (xn 4) (xR (xA (xD (xv 6) (xn 3)) (xv 7)) (xn 17))) (xA (xR (xD (xv 6) (xn 60)) (xn 50)) (xv 7)) (xA (xn 7) (xR (xv 7) (xn 3))))))))))))) (jV (xE (xR (xD (xv 6) (xn 9000)) (xn 9)) (xn 0)) (dL (sa 3 (.call 47 (a3 (xv 3) (.call 26 (a2 (xu 1 0) (xR (xD (xv 6) (xn 81000)) (xu 1 1)))) (xD (xv 6) (xn 1000000))))))) (.ret (.list (a3 (xv 3) (xv 4) (xv 5)))))))))⟩
def wj:bj:=⟨1,(dL (.ret (.list (.cons (.isC 1 (xv 0)) (a4 (.isC 2 (xv 0)) (.cst (.bool Ê)) (.isC 3 (xv 0)) (.word (xv 0)))))))⟩
def wq:bj:=⟨3,(dL (.try_ (dL (.ret (.list (a2 (.call 20 (a3 (xv 0) (xv 1) (xv 2))) (.list .nil))))) 3 (dL (.ret (.list (a2 (.cst .none) (.call 49 (a1 (xv 3)))))))))⟩
def wi:bj:=⟨2,(dL (.try_ (dL (.ret (.call 5 (a2 (xv 0) (xv 1))))) 2 (uX (jV (.or (.isC 1 (xv 2)) (.or (.not (.isC 2 (xv 2))) (.not (.isC 3 (xv 2))))) (dL (.ret (.cst .none)))) (.ret (.list (a1 (.word (xv 2))))))))⟩
def wn:bj:=⟨2,(dL (.ret (.prim .sum (a1 (.comp (xM (xi (.idx (xv 0) (xv 2)) 2) (.idx (xv 1) (xv 2))) (.one 2) (.rng1 (.prim .len (a1 (xv 0)))) .nil)))))⟩
def Ra:bj:=⟨1,(Qm (sa 1 (.call 21 (a1 (xv 0)))) (sa 2 (.call 48 (a1 (xv 1)))) (sa 3 (.call 50 (a3 (xu 2 0) (xu 2 1) (xu 2 2)))) (fr 4 (.call 37 (a1 (xu 2 0))) (dL (jV (xG (.call 36 (a2 (xu 2 0) (xv 4))) (xn 200)) (dL (.ret (xN (xu 3 1) (.list .nil))))))) (.for_ (.one 5) (.rng1 (xn 2)) (Qm (sa 6 (.call 46 (a4 (xu 2 0) (xu 2 1) (xu 2 2) (.call 23 (a2 (.call 22 (a2 (xv 1) (xn 1))) (xA (xv 5) (xn 5))))))) (jV (xI (xv 6) (.cst .none)) (dL (.ret (xN (xu 3 1) (.list .nil))))) (sa 7 (.call 18 (a3 (xu 2 1) (xu 2 2) (.prim .tuple (a1 (xv 6)))))) (jV (.or (xI (xu 3 0) (.cst .none)) (.not (.prim .isTuple (a1 (.call 51 (a2 (xu 2 0) (xv 7))))))) (dL (.ret (.cst (.bool Ê))))) (sa 8 (.call 19 (a2 (xu 2 2) (xi (xu 3 0) 0)))) (jV (.or (xN (xv 8) (.call 52 (a2 (xu 2 2) (xi (xu 3 0) 0)))) (xG (xv 8) (.call 52 (a2 (xu 2 2) (xv 6))))) (dL (.ret (.cst (.bool Ê))))))) (.ret (.cst (.bool Æ))))⟩
def PP:List bj:=[za,JN,CA,t6,CG,JL,Q7,Q8,FJ,yY,CB,wy,JQ,t9,t7,JK,yW,FQ,FR,OB,Rb,oV,iY,sL,lu,lu,iZ,mP,qo,tX,tZ,oW,wm,wl,qp,wk,t0,t4,lu,lu,lu,lu,lu,tW,tY,FC,n9,yU,wt,wj,wq,wi,wn,Ra]
noncomputable def constsP:List (Str×Int):=[("DAYS",7),("MOST",200)]
def aE(H ae:ag):Prop:=∀(i:Nat) (o:bp),H[i]?=À o->ae[i]?=À o
theorem aE.refl(H:ag):aE H H:=λz z h=>h
theorem aE.trans{a b c:ag}(x:aE a b)(y:aE b c):aE a c:=λi o h=>y i o (x i o h)
theorem aE.app(H τ:ag):aE H (H++τ):=λi o h=>by rw[ϖ (ģ.mp h).1];show h
theorem aE.set{H ae:ag}{r:Nat}{m:bp}(h:aE H ae)(hr:H.length<=r):aE H (ae.set r m):=λi o e=>by have hi:i<H.length:=(ģ.mp e).1;rw[acu (by show λq0=>(by show zI (y3 0x1c080810b1011b0212b21 N (iL hr) (iT hi) (iE q0))))];show h i o e
theorem aE.len{H ae:ag}(h:aE H ae):H.length<=ae.length:=by
 show â (aeA ae.length H.length) (λhl=>?_) (λhl=>?_)
 ·have e:H[ae.length]?=À H[ae.length]:=N' hl
  have:=h _ _ e
  simp at this
 ·show hl
theorem mK{P:List bj}{d k:Nat}{f:bj}{as:List V}{H:ag}(hk:P[k]?=À f)(ha:as.length=f.arity):az P (d+1) k as H=ip (aN (az P d) f.body (bu as) H):=by
 simp only[az,hk,ace,ha,if_true]
theorem R5(a b:Int):(a==b)=decide (a=b):=by by_cases h:a=b<;>simp [h]
theorem bG{a b:Int}(h:0<b):0<=a.fmod b/\a.fmod b<b:=⟨Int.fmod_nonneg_of_pos a h,Int.fmod_lt_of_pos a h⟩
theorem KA{a b:Int}(h:a.natAbs<18446744073709551616):qZ a b=Æ:=abR.mpr (.inl (decide_eq_true h))
theorem fT{a b:Int}(h:b.natAbs<18446744073709551616):qZ a b=Æ:=abR.mpr (.inr (decide_eq_true h))
theorem mB{x:Int}{k:Nat}(h0:0<=x)(h1:x<k):x.natAbs<k:=Ř.mp ((Int.natAbs_of_nonneg h0).symm▸h1)
noncomputable def uG(x y:Int):Int:=((((((x+104729*y)+(7919*y)*y).fmod 998244353)*(((x+104729*y)+(7919*y)*y).fmod 998244353)).fmod 998244353)*1000003).fmod 998244353
noncomputable def cellF(cs:List Int)(k:Nat):Int:=match cs[k]? with|some x=>x|none=>((k:Int)+3)*((k:Int)+7)*7919
noncomputable def gK(x m:Int):Int:=if x.fmod 8=0 then 1+(x.fdiv 8).fmod m else if x.fmod 8=1 then 1+(x.fdiv 8).fmod 60 else 1+(x.fdiv 8).fmod 12
theorem Su{x b:Int}(a:0<=x/\x<b)(hb:b<=200):1<=1+x/\1+x<=200:=⟨y1 0xca0181810b008 N a.1,Ċ (adK 1 x▸a.2) hb⟩
theorem iV(x:Int):1<=gK x 200/\gK x 200<=200:=by
 have h {b:Int} (hb:0<b) (hb':b<=200):=Su (bG (a:=x.fdiv 8) hb) hb';unfold gK;by_cases h1:x.fmod 8=0
 ·rw[if_pos h1];show h (by decide) (by decide)
 ·rw[if_neg h1]
  by_cases h2:x.fmod 8=1
  ·rw[if_pos h2];show h (by decide) (by decide)
  ·rw[if_neg h2];show h (by decide) (by decide)
noncomputable def sV(x:Int):Int:=if x.fmod 6=0 then 1+(x.fdiv 6).fmod 99 else if x.fmod 6<3 then 7+(x.fdiv 6).fmod 2 else 1+(x.fdiv 6).fmod 9
theorem bx(H:ag):cD H []:=λz h=>nomatch h
theorem gE{H:ag}{r:Nat}{m:bp}(h:H[r]?=À m):cD H [(r,m)]:=λp hp=>by rw[W'.mp hp];show h
theorem aB(H:ag)(m:bp):(H++[m])[H.length]?=À m:=by simp
theorem bR{α β:Type}{m:Option (α×ag)}{k:α->ag->Option β}{a:α}{H:ag}{r:Option β}(h:m=À (a,H))(e:k a H=r):cg m k=r:=by rw[h];show e
theorem tJ{α β γ:Type}{m:Option (α×β×ag)}{k:α->β->ag->Option γ}{a:α}{b:β}{H:ag}{r:Option γ}(h:m=À (a,b,H))(e:k a b H=r):mG m k=r:=by rw[h];show e
theorem mI{β:Type}{m:Option (V×ag)}{k:Bool->ag->Option β}{a:Bool}{H:ag}{r:Option β}(h:m=À (.bool a,H))(e:k a H=r):lP m k=r:=by rw[h];show e
theorem tK{β:Type}{m:Option (V×ag)}{k:Int->ag->Option β}{a:Int}{H:ag}{r:Option β}(h:m=À (.int a,H))(e:k a H=r):mJ m k=r:=by rw[h];show e
theorem dF{α β:Type}{m:Option α}{k:α->Option β}{a:α}{r:Option β}(h:m=À a)(e:k a=r):m.bind k=r:=by rw[h];show e
theorem n8{Á:aw}{U:aM}{H Î Ü:ag}{a i:CE}{x y r:V}(ha:ab Á a U H=À (x,Î))(hi:ab Á i U Î=À (y,Ü))(h:lF x y Ü=À r):ab Á (.idx a i) U H=À (r,Ü):=bR ha (bR hi (dF h N))
theorem kM{l:List V}{k:Int}{x:V}(lg:0<=k)(hx:l[k.toNat]?=À x):Gu l (.int k)=À x:=(if_pos lg).trans hx
theorem br{Á:aw}{U:aM}{H Î Ü:ag}{a i:CE}(r:Nat)(k:Int)(l:List V)(x:V)(ha:ab Á a U H=À (.ref r,Î))(hi:ab Á i U Î=À (.int k,Ü))(hr:Ü[r]?=À (.lst l))(lg:0<=k)(hx:l[k.toNat]?=À x):ab Á (.idx a i) U H=À (x,Ü):=n8 ha hi (dF hr (kM lg hx))
theorem aZ{Á:aw}{U:aM}{H Î Ü:ag}{a i:CE}(k:Int)(l:List V)(x:V)(ha:ab Á a U H=À (.tup l,Î))(hi:ab Á i U Î=À (.int k,Ü))(lg:0<=k)(hx:l[k.toNat]?=À x):ab Á (.idx a i) U H=À (x,Ü):=
 n8 ha hi (kM lg hx)
theorem af{Á:aw}{f:Nat}{as:gF}{U:aM}{H Î Ü:ag}{vs:List V}{v:V}(h:bY Á as U H=À (vs,Î))(hc:Á f vs Î=À (.ok v,Ü)):ab Á (.call f as) U H=À (v,Ü):=bR h (bR hc N)
theorem aJ{Á:aw}{op:Operator}{a b:CE}{U:aM}{H Î Ü:ag}{x y:V}{r:Option (V×ag)}(ha:ab Á a U H=À (x,Î))(hb:ab Á b U Î=À (y,Ü))(h:oN op x y Ü=r):ab Á (.bin op a b) U H=r:=bR ha (bR hb h)
theorem ig{x y:Int}{H:ag}(m:qZ x y=Æ):oN .Mult (.int x) (.int y) H=À (.int (x*y),H):=if_pos m
theorem dz{x y:Int}{H:ag}(m:y≠0):oN .Mod (.int x) (.int y) H=À (.int (x.fmod y),H):=by show (if y=0 then Ã else À (x.fmod y)).bind (λz=>À (V.int z,H))=_;rw[if_neg m];rfl
theorem yM{x y:Int}{H:ag}(m:y≠0)(m':y.natAbs<1073741824):oN .FloorDiv (.int x) (.int y) H=À (.int (x.fdiv y),H):=by show (if y=0\/1073741824<=y.natAbs then Ã else À (x.fdiv y)).bind (λz=>À (V.int z,H))=_;rw[if_neg (not_or.mpr ⟨m,ϛ.mpr m'⟩)];rfl
theorem bU{Á:aw}{op:CmpOp}{a b:CE}{U:aM}{H Î Ü:ag}{x y:V}{c:Bool}(ha:ab Á a U H=À (x,Î))(hb:ab Á b U Î=À (y,Ü))(h:AJ op x y Ü=À c):ab Á (.cmp op a b) U H=À (.bool c,Ü):=bR ha (bR hb (dF h N))
theorem Oy{Á:aw}{a:CE}{U:aM}{H Î:ag}{b:Bool}(ha:ab Á a U H=À (.bool b,Î)):ab Á (.not a) U H=À (.bool (!b),Î):=mI ha N
theorem yP{Á:aw}{a b:CE}{U:aM}{H Î:ag}{r:Option (V×ag)}(ha:ab Á a U H=À (.bool Æ,Î))(hb:ab Á b U Î=r):ab Á (.and a b) U H=r:=mI ha hb
theorem tV{Á:aw}{a b:CE}{U:aM}{H Î:ag}(ha:ab Á a U H=À (.bool Ê,Î)):ab Á (.and a b) U H=À (.bool Ê,Î):=mI ha N
theorem Mo{Á:aw}{a b:CE}{U:aM}{H Î:ag}{r:Option (V×ag)}(ha:ab Á a U H=À (.bool Ê,Î))(hb:ab Á b U Î=r):ab Á (.or a b) U H=r:=mI ha hb
theorem aL{Á:aw}{p:nW}{as:gF}{U:aM}{H Î:ag}{vs:List V}{r:Option (V×ag)}(h:bY Á as U H=À (vs,Î))(hp:gy p vs Î=r):ab Á (.prim p as) U H=r:=bR h hp
theorem al{Á:aw}{e:CE}{U:aM}{H Î:ag}{v:V}(h:ab Á e U H=À (v,Î)):bY Á (.cons e .nil) U H=À ([v],Î):=bR h N
theorem aA{Á:aw}{e:CE}{r:gF}{U:aM}{H Î Ü:ag}{v:V}{vs:List V}(h:ab Á e U H=À (v,Î))(hr:bY Á r U Î=À (vs,Ü)):bY Á (.cons e r) U H=À (v::vs,Ü):=bR h (bR hr N)
theorem aC{Á:aw}{i:Nat}{U:aM}{H:ag}{v:V}(h:U i=À v):ab Á (.var i) U H=À (v,H):=dF h N
theorem eN{Á:aw}{elt:CE}{t:jR}{it:jq}{ifs:gF}{U:aM}{H Î Ü:ag}{xs l:List V}{w:List (Nat×bp)}(hs:cE Á it U H=À (xs,w,Î))(hc:fY (ab Á elt) (cW Á ifs) t w xs U Î=À (l,Ü))(hz:l.length<=ax):ab Á (.comp elt t it ifs) U H=À (.ref Ü.length,Ü++[.lst l]):=tJ hs (bR hc (if_pos hz))
theorem H0{H:ag}{r:Nat}{ns:List Int}{l:List V}(hr:H[r]?=À (.lst l))(hi:cH l=À ns):gy .sum [.ref r] H=À (.int (ns.foldl (·+·) 0),H):=(show Ϥ (Ϥ _ _) _=_ from dF (dF (c8 hr) N) (dF hi N))
theorem iC{H:ag}(l:List V):gy .len [.tup l] H=À (.int l.length,H):=rfl
theorem bB{H:ag}{r:Nat}{l:List V}(hr:H[r]?=À (.lst l))(hz:l.length<=ax):gy .tuple [.ref r] H=À (.tup l,H):=(show Ϥ (lst H r) _=_ from dF (c8 hr) (if_pos hz))
def Le(a b:aM):Prop:=∀i v,a i=À v->b i=À v
theorem Le.refl(a:aM):Le a a:=λz z h=>h
theorem Le.trans{a b c:aM}(x:Le a b)(y:Le b c):Le a c:=λi v h=>y i v (x i v h)
theorem Le.upd{a b:aM}(x:Le a b)(i:Nat)(v:V):Le (cR a i v) (cR b i v):=λj w h=>by
 unfold L.Lake.cR at h ⊢;by_cases hj:j=i
 ·rw[if_pos hj]at h ⊢;show h
 ·rw[if_neg hj]at h ⊢;show x j w h
noncomputable def cw(l:List (Option V)):aM:=λi=>(l[i]?).join
def p7(U:aM):Nat->List (Option V)->Prop
 |_,[]=>True
 |i,Ã::r=>p7 U (i+1) r
 |i,À v::r=>U i=À v/\p7 U (i+1) r
theorem p7.get{U:aM}:∀{l:List (Option V)} {k i:Nat} {v:V},p7 U k l->(l[i]?).join=À v->U (k+i)=À v
 |[],_,_,_,_,h=>by simp at h
 |none::r,k,0,_,_,h=>by simp at h
 |none::r,k,i+1,v,ha,h=>by
  have:=p7.get (k:=k+1) ha (by simpa using h)
  rwa [Ϭ]at this
 |some w::r,k,0,v,ha,h=>by
  obtain rfl:w=v:=by simpa using h
  show ha.1
 |some w::r,k,i+1,v,ha,h=>by
  have:=p7.get ha.2 (by simpa using h)
  rwa [Ϭ]at this
theorem ar{U:aM}{l:List (Option V)}(h:p7 U 0 l):Le (cw l) U:=λi v e=>by
 have:=h.get e
 rwa [ϋ]at this
theorem z0{t:jR}{x:V}{a b a':aM}(hl:Le a b)(h:t.put x a=À a'):∃b',t.put x b=À b'/\Le a' b':=by
 cases t with
 |one i=>apply dM h;show⟨_,N,hl.upd _ _⟩
 |two i j=>show ca h λp hp h=>?_;apply dM h;show⟨_,?_,(hl.upd i p.1).upd j p.2⟩;show (tF x).bind _=_;rw[hp];rfl
theorem bQ{α β:Type}{m m':Option (α×ag)}{k k':α->ag->Option β}{r:β}(h:cg m k=À r)(hm:∀p,m=À p->m'=À p)(hk:∀a H,k a H=À r->k' a H=À r):cg m' k'=À r:=dI h λa H h1 h2=>bR (hm _ h1) (hk a H h2)
theorem AD{α β γ:Type}{m m':Option (α×β×ag)}{k k':α->β->ag->Option γ}{r:γ}(h:mG m k=À r)(hm:∀p,m=À p->m'=À p)(hk:∀a b H,k a b H=À r->k' a b H=À r):mG m' k'=À r:=oO h λa b H h1 h2=>tJ (hm _ h1) (hk a b H h2)
theorem mH{β:Type}{m m':Option (V×ag)}{k k':Bool->ag->Option β}{r:β}(h:lP m k=À r)(hm:∀p,m=À p->m'=À p)(hk:∀a H,k a H=À r->k' a H=À r):lP m' k'=À r:=bQ h hm λa H e=>ca e λb h1 h2=>dF h1 (hk b H h2)
theorem js{β:Type}{m m':Option (V×ag)}{k k':Int->ag->Option β}{r:β}(h:mJ m k=À r)(hm:∀p,m=À p->m'=À p)(hk:∀a H,k a H=À r->k' a H=À r):mJ m' k'=À r:=bQ h hm λa H e=>ca e λb h1 h2=>dF h1 (hk b H h2)
theorem qi{elt Q3:aM->ag->Option (V×ag)}{cond cond':aM->ag->Option (Bool×ag)}{t:jR}{w:List (Nat×bp)}(he:∀a b H r,Le a b->elt a H=À r->Q3 b H=À r)(hc:∀a b H r,Le a b->cond a H=À r->cond' b H=À r):
  ∀{xs:List V} {a b:aM} {H:ag} {r:List V×ag},Le a b->fY elt cond t w xs a H=À r->fY Q3 cond' t w xs b H=À r
 |[],a,b,H,r,hl,h=>h
 |x::xs,a,b,H,r,hl,h=>by
  show qD h λhw h=>ca h λa' hp h=>aF (z0 hl hp) λb' V4 jg=>?_;show gv H w ((t.put x b).bind λaT=>_)=_;rw[je hw,V4,ace];show bQ h (λp e=>hc _ _ _ _ jg e) λc Î h=>?_;cases c with
  |false=>show qi he hc hl h
  |true=>rw[if_pos N]at h ⊢;show bQ h (λp e=>he _ _ _ _ jg e) λv Ü h=>bQ h (λp e=>qi he hc hl e) λl bC h=>h
theorem ke:∀{k:KX} {a b:aM} {H:ag} {v:V},Le a b->dn k a H=À v->dn k b H=À v
 |.var i,a,b,H,v,hl,h=>hl i v h
 |.num i,a,b,H,v,hl,h=>h
 |.idx x y,a,b,H,v,hl,h=>by show ca h λu h1 h=>ca h λz h2 h=>?_;show (dn x b H).bind _=_;rw[ke hl h1];show (dn y b H).bind _=_;rw[ke hl h2];show h
 |.pair x y,a,b,H,v,hl,h=>by show ca h λu h1 h=>ca h λz h2 h=>?_;show (dn x b H).bind _=_;rw[ke hl h1];show (dn y b H).bind _=_;rw[ke hl h2];show h
theorem wT{k:KX}{i:Nat}{H:ag}{a b:aM}(hl:Le a b):∀{ns:List Int} {ps:List KP},o5 k i a H ns=À ps->o5 k i b H ns=À ps
 |[],ps,h=>h
 |n::r,ps,h=>by show ca h λv h1 h=>ca h λl h2 h=>ca h λqs h3 h=>?_;show (dn k (cR b i (.int n)) H).bind _=_;rw[ke (hl.upd i (.int n)) h1];show (r2 v).bind _=_;rw[h2];show (o5 k i b H r).bind _=_;rw[wT hl h3];show h
theorem DE{k:KX}{i:Nat}{H:ag}{a b:aM}{xs:List V}{r:V×ag}(hl:Le a b)(h:me k i a H xs=À r):me k i b H xs=À r:=by show ca h λns h1 h=>dJ h λh2 h=>ca h λps h3 h=>?_;show (cH xs).bind _=_;rw[h1];show (if _ then _ else _)=_;rw[if_pos h2,wT hl h3];show h
mutual
theorem aH{Á:aw}:∀(e:CE) {a b:aM} {H:ag} {r:V×ag},Le a b->ab Á e a H=À r->ab Á e b H=À r
 |.cst v,_,_,_,_,_,h=>h
 |.var i,a,b,H,r,hl,h=>by show ca h λv h1 h2=>?_;show (b i).bind _=_;rw[hl i v h1];show h2
 |.bin op x y,a,b,H,r,hl,h=>bQ h (λp e=>aH x hl e) λj j h=>bQ h (λp e=>aH y hl e) λj j h=>h
 |.cmp op x y,a,b,H,r,hl,h=>bQ h (λp e=>aH x hl e) λj j h=>bQ h (λp e=>aH y hl e) λj j h=>h
 |.not x,a,b,H,r,hl,h=>mH h (λp e=>aH x hl e) λj j h=>h
 |.neg x,a,b,H,r,hl,h=>js h (λp e=>aH x hl e) λj j h=>h
 |.and x y,a,b,H,r,hl,h=>mH h (λp e=>aH x hl e) λc j h=>by
  cases c with
  |true=>show aH y hl h
  |false=>show h
 |.or x y,a,b,H,r,hl,h=>mH h (λp e=>aH x hl e) λc j h=>by
  cases c with
  |true=>show h
  |false=>show aH y hl h
 |.ite t x y,a,b,H,r,hl,h=>mH h (λp e=>aH t hl e) λc j h=>by
  cases c with
  |true=>show aH x hl h
  |false=>show aH y hl h
 |.list es,a,b,H,r,hl,h=>bQ h (λp e=>dZ es hl e) λj j h=>h
 |.tuple es,a,b,H,r,hl,h=>bQ h (λp e=>dZ es hl e) λj j h=>h
 |.dict0,_,_,_,_,_,h=>h
 |.idx x y,a,b,H,r,hl,h=>bQ h (λp e=>aH x hl e) λj j h=>bQ h (λp e=>aH y hl e) λj j h=>h
 |.slc x y z,a,b,H,r,hl,h=>bQ h (λp e=>aH x hl e) λj j h=>bQ h (λp e=>aH y hl e) λj j h=>bQ h (λp e=>aH z hl e) λj j h=>h
 |.call f as,a,b,H,r,hl,h=>bQ h (λp e=>dZ as hl e) λj j h=>h
 |.prim p as,a,b,H,r,hl,h=>bQ h (λp e=>dZ as hl e) λj j h=>h
 |.meth m o as,a,b,H,r,hl,h=>bQ h (λp e=>aH o hl e) λx Î h=>by show dJ h λhr h=>?_;rw[if_pos hr];show bQ h (λp e=>dZ as hl e) λj j h=>h
 |.sortK it i k,a,b,H,r,hl,h=>AD h (λp e=>u5 it hl e) λxs w Î h=>by show dJ h λh1 h=>?_;rw[if_pos h1];show DE hl h
 |.word x,a,b,H,r,hl,h=>bQ h (λp e=>aH x hl e) λj j h=>h
 |.zipl x y,a,b,H,r,hl,h=>bQ h (λp e=>aH x hl e) λj j h=>bQ h (λp e=>aH y hl e) λj j h=>h
 |.isC c x,a,b,H,r,hl,h=>bQ h (λp e=>aH x hl e) λj j h=>h
 |.comp elt t it ifs,a,b,H,r,hl,h=>AD h (λp e=>u5 it hl e) λxs w Î h=>bQ h (λp e=>qi (cond':=cW Á ifs) (λa b H r hl e=>aH elt (H:=H) hl e) (λa b H r hl e=>tu ifs hl e) hl e) λj j h=>h
theorem tu{Á:aw}:∀(e:gF) {a b:aM} {H:ag} {r:Bool×ag},Le a b->cW Á e a H=À r->cW Á e b H=À r
 |.nil,_,_,_,_,_,h=>h
 |.cons x y,a,b,H,r,hl,h=>mH h (λp e=>aH x hl e) λc z h=>by
  cases c with
  |true=>show tu y hl h
  |false=>show h
theorem dZ{Á:aw}:∀(e:gF) {a b:aM} {H:ag} {r:List V×ag},Le a b->bY Á e a H=À r->bY Á e b H=À r
 |.nil,_,_,_,_,_,h=>h
 |.cons x y,a,b,H,r,hl,h=>bQ h (λp e=>aH x hl e) λz z h=>bQ h (λp e=>dZ y hl e) λz z h=>h
theorem u5{Á:aw}:∀(e:jq) {a b:aM} {H:ag} {r:List V×List (Nat×bp)×ag},Le a b->cE Á e a H=À r->cE Á e b H=À r
 |.ex x,a,b,H,r,hl,h=>by rw[kP]at h ⊢;show bQ h (λp e=>aH x hl e) λk k h=>h
 |.rng1 x,a,b,H,r,hl,h=>js h (λp e=>aH x hl e) λk k h=>h
 |.rng2 x y,a,b,H,r,hl,h=>js h (λp e=>aH x hl e) λk k h=>js h (λp e=>aH y hl e) λk k h=>h
 |.rng3 x y z,a,b,H,r,hl,h=>js h (λp e=>aH x hl e) λk k h=>js h (λp e=>aH y hl e) λk k h=>js h (λp e=>aH z hl e) λk k h=>h
 |.zip x y,a,b,H,r,hl,h=>by rw[rD]at h ⊢;show bQ h (λp e=>aH x hl e) λk k h=>bQ h (λp e=>aH y hl e) λk k h=>h
 |.enm x,a,b,H,r,hl,h=>by rw[rC]at h ⊢;show bQ h (λp e=>aH x hl e) λk k h=>h
end
def W(Á:aw)(ss:fx)(a:aM)(H:ag)(Q:cA->aM->ag->Prop):Prop:=∀U,Le a U->∃fl b aT ae,Le b aT/\aN Á ss U H=À (fl,aT,ae)/\Q fl b ae
def TQ(Á:aw)(aD:fx)(Q:cA->aM->ag->Prop)(fl:cA)(U:aM)(H:ag):Prop:=match fl with
 |.next=>W Á aD U H Q
 |fl=>Q fl U H
def RQ(R:V->ag->Prop)(fl:cA)(_:aM)(H:ag):Prop:=∃v,fl=.ret v/\R v H
def LQ(I:Nat->aM->ag->Prop)(k:Nat)(fl:cA)(U:aM)(H:ag):Prop:=fl=.next/\∃a,Le a U/\I (k+1) a H
def LX(I:Nat->aM->ag->Prop)(ó:cA->ag->Prop)(k:Nat)(fl:cA)(U:aM)(H:ag):Prop:=(fl=.next/\∃a,Le a U/\I (k+1) a H)\/(fl≠.next/\ó fl H)
theorem uY{fl:cA}{U:aM}{H:ag}{k:aM->ag->Ex}(h:fl≠.next):ir (À (fl,U,H)) k=À (fl,U,H):=by
 cases fl with
 |next=>show absurd N h
 |ret v=>rfl
 |exc c w=>rfl
section
variable{Á:aw}{aD:fx}{U a:aM}{H Î Ü bC:ag}{Q:cA->aM->ag->Prop}
theorem W.nil(h:Q .next a H):W Á .nil a H Q:=λU hl=>⟨_,a,U,H,hl,N,h⟩
theorem W.le{ss:fx}(hl:Le a U)(h:W Á ss a H Q):W Á ss U H Q:=λr h2=>h r (hl.trans h2)
theorem W.mono{ss:fx}{Q':cA->aM->ag->Prop}(h:W Á ss a H Q)(hq:∀fl aT ae,Q fl aT ae->Q' fl aT ae):W Á ss a H Q':=λU hl=>Ej (h U hl) λfl b aT ae h1 h2 h3=>⟨fl,b,aT,ae,h1,h2,hq _ _ _ h3⟩
theorem W.step{s:CS}{b:aM}(h:∀U,Le a U->∃aT,Le b aT/\bL Á s U H=À (.next,aT,Î))(k:W Á aD b Î Q):W Á (.cons s aD) a H Q:=λU hl=>by show aF (h U hl) λaT jg e=>Ej (k aT jg) λfl b iv il h1 h2 h3=>⟨fl,b,iv,il,h1,?_,h3⟩;show ir (bL Á s U H) (aN Á aD)=_;rw[e];show h2
theorem W.out{s:CS}{fl:cA}(eR:fl≠.next)(h:∀U,Le a U->bL Á s U H=À (fl,U,Î))(k:Q fl a Î):W Á (.cons s aD) a H Q:=λU hl=>by show⟨fl,a,U,Î,hl,?_,k⟩;show ir (bL Á s U H) (aN Á aD)=_;rw[h U hl];show uY eR
theorem W.block{s:CS}{t:fx}(e:∀U,Le a U->bL Á s U H=aN Á t U Î)(k:W Á t a Î (TQ Á aD Q)):W Á (.cons s aD) a H Q:=λU hl=>by
 show Ej (k U hl) λfl b aT ae h1 h2 h3=>?_
 have h4:aN Á (.cons s aD) U H=ir (À (fl,aT,ae)) (aN Á aD):=by show ir (bL Á s U H) (aN Á aD)=_;rw[e U hl,h2]
 cases fl with
 |next=>show Ej (h3 aT h1) λfl b SW dY g1 g2 g3=>⟨fl,b,SW,dY,g1,h4.trans g2,g3⟩
 |ret v=>show⟨_,b,aT,ae,h1,h4,h3⟩
 |exc c w=>show⟨_,b,aT,ae,h1,h4,h3⟩
theorem W.set{i:Nat}{e:CE}{v:V}{Î:ag}(h:ab Á e a H=À (v,Î))(k:W Á aD (cR a i v) Î Q):W Á (.cons (.assign (.one i) e) aD) a H Q:=
 W.step (λU hl=>⟨_,hl.upd i v,by rw[gQ];show lM (by rw[aH e hl h];rfl)⟩) k
theorem W.put{t:jR}{e:CE}{v:V}{b:aM}(h:ab Á e a H=À (v,Î))(hp:t.put v a=À b)(k:W Á aD b Î Q):W Á (.cons (.assign t e) aD) a H Q:=
 W.step (λU hl=>aF (z0 hl hp) λaT h1 h2=>⟨aT,h2,by
  rw[gQ];show lM ?_;rw[aH e hl h];show (t.put v U).bind _=_;rw[h1];rfl⟩) k
theorem W.expr{e:CE}{v:V}(h:ab Á e a H=À (v,Î))(k:W Á aD a Î Q):W Á (.cons (.expr e) aD) a H Q:=
 W.step (λU hl=>⟨U,hl,by rw[AP];show lM (by rw[aH e hl h];rfl)⟩) k
theorem W.retE{e:CE}{v:V}{Î:ag}(h:ab Á e a H=À (v,Î))(k:Q (.ret v) a Î):W Á (.cons (.ret e) aD) a H Q:=
 W.out (fl:=.ret v) (λq=>nomatch q) (λU hl=>by rw[lT];show lM (by rw[aH e hl h];rfl)) k
theorem W.ifB{c:CE}{t e:fx}{b:Bool}{Î:ag}(h:ab Á c a H=À (.bool b,Î))(hT:b=Æ->W Á t a Î (TQ Á aD Q))(hF:b=Ê->W Á e a Î (TQ Á aD Q)):W Á (.cons (.ite c t e) aD) a H Q:=by
 cases b with
 |true=>show W.block (λU hl=>by rw[FA,aH c hl h];rfl) (hT N)
 |false=>show W.block (λU hl=>by rw[FA,aH c hl h];rfl) (hF N)
theorem W.iteT{c:CE}{t e:fx}(Î:ag)(h:bW Á c a H=À (Æ,Î))(k:W Á t a Î (TQ Á aD Q)):W Á (.cons (.ite c t e) aD) a H Q:=W.ifB (dX h) (λz=>k) λq=>nomatch q
theorem W.iteF{c:CE}{t e:fx}(Î:ag)(h:bW Á c a H=À (Ê,Î))(k:W Á e a Î (TQ Á aD Q)):W Á (.cons (.ite c t e) aD) a H Q:=W.ifB (dX h) (λq=>nomatch q) λz=>k
theorem W.if_{c:CE}{t e:fx}{p:Prop}[Decidable p]{Î:ag}(h:ab Á c a H=À (.bool (decide p),Î))(hT:p->W Á t a Î (TQ Á aD Q))(hF:¬ p->W Á e a Î (TQ Á aD Q)):W Á (.cons (.ite c t e) aD) a H Q:=
 W.ifB h (λq=>hT (of_decide_eq_true q)) λq=>hF (of_decide_eq_false q)
theorem Hl{m:j4}(hm:m=.append\/m=.extend){r:Nat}{l:List V}(hr:H[r]?=À (.lst l)):z8 m (.ref r) H=Æ:=by
 have:(lst H r).isSome=Æ:=by rw[c8 hr];rfl
 rcases hm with rfl|rfl<;>show this
theorem AO{m:j4}(hm:m=.append\/m=.extend){o e:CE}{r:Nat}{l:List V}{v x:V}(ho:ab Á o a H=À (.ref r,H))(hr:H[r]?=À (.lst l))(he:ab Á e a H=À (v,Î))(RP:oz m (.ref r) [v] Î=À (x,Ü)):ab Á (.meth m o (.cons e .nil)) a H=À (x,Ü):=by show cg (ab Á o a H) (λx Î=>if z8 m x Î then cg (bY Á (.cons e .nil) a Î) λvs Ü=>oz m x vs Ü else Ã)=_;rw[ho];show (if z8 m (.ref r) H then cg (bY Á (.cons e .nil) a H) λvs Ü=>oz m (.ref r) vs Ü else Ã)=_;rw[if_pos (Hl hm hr),al he];show RP
theorem W.append{o e:CE}(r:Nat)(l:List V)(v:V)(Î:ag)(ho:ab Á o a H=À (.ref r,H))(hr:H[r]?=À (.lst l))(he:ab Á e a H=À (v,Î))(hr1:Î[r]?=À (.lst l))(hz:l.length<=ax)
  (k:W Á aD a (Î.set r (.lst (l++[v]))) Q):W Á (.cons (.expr (.meth .append o (.cons e .nil))) aD) a H Q:=
 W.expr (AO (.inl N) ho hr he (by
  show (lst Î r).bind (λl=>if l.length<=ax then À (V.none,Î.set r (.lst (l++[v]))) else Ã)=_;rw[c8 hr1];show if_pos hz)) k
theorem W.append0{o e:CE}(r:Nat)(l:List V)(v:V)(ho:ab Á o a H=À (.ref r,H))(hr:H[r]?=À (.lst l))(he:ab Á e a H=À (v,H))(hz:l.length<=ax)
  (k:W Á aD a (H.set r (.lst (l++[v]))) Q):W Á (.cons (.expr (.meth .append o (.cons e .nil))) aD) a H Q:=W.append r l v H ho hr he hr hz k
theorem W.setV{o i v:CE}{x y z:V}(hv:ab Á v a H=À (x,Î))(ho:ab Á o a Î=À (y,Î))(hi:ab Á i a Î=À (z,Î))(hs:ru y z x Î=À Ü)(c:W Á aD a Ü Q):W Á (.cons (.setItem o i v) aD) a H Q:=
 W.step (λU hl=>⟨U,hl,by
  rw[qn,aH v hl hv];show cg (ab Á o U Î) (λy Ü=>cg (ab Á i U Ü) λz bC=>(ru y z x bC).bind λlH=>À (cA.next,U,lH))=_;rw[aH o hl ho];show cg (ab Á i U Î) (λz bC=>(ru y z x bC).bind λlH=>À (cA.next,U,lH))=_;rw[aH i hl hi];show (ru y z x Î).bind (λlH=>À (cA.next,U,lH))=_;rw[hs];rfl⟩) c
theorem W.setItem{o i v:CE}(r:Nat)(k:Int)(l:List V)(x:V)(Î:ag)(hv:ab Á v a H=À (x,Î))(ho:ab Á o a Î=À (.ref r,Î))(hi:ab Á i a Î=À (.int k,Î))(hr:Î[r]?=À (.lst l))(lg:0<=k)(IG:k.toNat<l.length)
  (c:W Á aD a (Î.set r (.lst (l.set k.toNat x))) Q):W Á (.cons (.setItem o i v) aD) a H Q:=W.setV hv ho hi (dF N (dF hr (if_pos ⟨lg,IG⟩))) c
theorem W.setItem0{o i v:CE}(r:Nat)(k:Int)(l:List V)(x:V)(hv:ab Á v a H=À (x,H))(ho:ab Á o a H=À (.ref r,H))(hi:ab Á i a H=À (.int k,H))(hr:H[r]?=À (.lst l))(lg:0<=k)(IG:k.toNat<l.length)
  (c:W Á aD a (H.set r (.lst (l.set k.toNat x))) Q):W Á (.cons (.setItem o i v) aD) a H Q:=W.setItem r k l x H hv ho hi hr lg IG c
theorem C6{body:fx}{t:jR}{w:List (Nat×bp)}{xs:List V}(I:Nat->aM->ag->Prop)(ó:cA->ag->Prop)(hw:∀k U H,I k U H->cD H w)
  (step:∀k x U H,xs[k]?=À x->I k U H->∃aT,t.put x U=À aT/\W Á body aT H (LX I ó k)) :
  ∀(ys:List V) (k:Nat) (a U:aM) (H:ag),xs.drop k=ys->k<=xs.length->Le a U->I k a H->∃fl p6 σe,lG (aN Á body) t w ys U H=À (fl,p6,σe)/\((fl=.next/\∃b,Le b p6/\I xs.length b σe)\/(fl≠.next/\ó fl σe)):=by
 intro ys
 induction ys with
 |nil=>intro k a U H hd hk hl hI;have lc:k=xs.length:=Ű hk (List.drop_eq_nil_iff.mp hd);subst lc;show⟨.next,U,H,je (hw _ _ _ hI),.inl ⟨N,a,hl,hI⟩⟩
 |cons y ys ih=>
  intro k a U H hd hk hl hI
  have hx:xs[k]?=À y:=by
   have:=congrArg (·[0]?) hd
   simpa using this
  have cG:k<xs.length:=(ģ.mp hx).1;show aF (step k y a H hx hI) λa' h1 h2=>aF (z0 hl h1) λaT g1 g2=>Ej (h2 aT g2) λfl b iv il h4 h5 h3=>?_
  have e:lG (aN Á body) t w (y::ys) U H=ir (À (fl,iv,il)) λiv il=>lG (aN Á body) t w ys iv il:=by show gv H w ((t.put y U).bind λaT=>ir (aN Á body aT H) λiv il=>lG (aN Á body) t w ys iv il)=_;rw[je (hw _ _ _ hI),g1];show ir (aN Á body aT H) _=_;rw[h5]
  rw[e];rcases h3 with ⟨rfl,c,h6,h7⟩|⟨eR,h3⟩
  ·show ih (k+1) c iv il (by rw[<-adI,hd];rfl) cG (h6.trans h4) h7
  ·show⟨fl,iv,il,uY eR,.inr ⟨eR,h3⟩⟩
theorem W.loopE{t:jR}{it:jq}{body:fx}{xs:List V}{w:List (Nat×bp)}(h:cE Á it U H=À (xs,w,Î))(I:Nat->aM->ag->Prop)(ó:cA->ag->Prop){a:aM}(ha:Le a U)(h0:I 0 a Î)(hw:∀k U H,I k U H->cD H w)
  (step:∀k x U H,xs[k]?=À x->I k U H->∃aT,t.put x U=À aT/\W Á body aT H (LX I ó k))
  (k:∀aT ae,I xs.length aT ae->W Á aD aT ae Q) (kr:∀fl aT ae,ó fl ae->Q fl aT ae):W Á (.cons (.for_ t it body) aD) U H Q:=λr hr=>by
 show oS (C6 I ó hw step xs 0 a r Î N (į _) (ha.trans hr) h0) λfl p6 σe h1 h2=>?_
 have ex:bL Á (.for_ t it body) r H=À (fl,p6,σe):=by rw[yR];show lM (by rw[u5 it hr h];show h1)
 have eq:aN Á (.cons (.for_ t it body) aD) r H=ir (À (fl,p6,σe)) (aN Á aD):=by show ir (bL Á (.for_ t it body) r H) (aN Á aD)=_;rw[ex]
 rcases h2 with ⟨rfl,b,hl,hI⟩|⟨eR,hJ⟩
 ·show Ej (k b σe hI p6 hl) λfl b SW dY g1 g2 g3=>⟨fl,b,SW,dY,g1,eq.trans g2,g3⟩
 ·show⟨fl,p6,p6,σe,Le.refl _,eq.trans (uY eR),kr fl p6 σe hJ⟩
theorem W.loop{t:jR}{it:jq}{body:fx}{xs:List V}{w:List (Nat×bp)}{Î:ag}(h:cE Á it U H=À (xs,w,Î))(I:Nat->aM->ag->Prop){a:aM}(ha:Le a U)(h0:I 0 a Î)(hw:∀k U H,I k U H->cD H w)
  (step:∀k x U H,xs[k]?=À x->I k U H->∃aT,t.put x U=À aT/\W Á body aT H (LQ I k))
  (k:∀aT ae,I xs.length aT ae->W Á aD aT ae Q):W Á (.cons (.for_ t it body) aD) U H Q:=
 W.loopE h I (λz z=>False) ha h0 hw (λk x U H hx hI=>aF (step k x U H hx hI) λaT h1 h2=>⟨aT,h1,h2.mono λz z z=>.inl⟩) k λz z z q=>q.elim
end
theorem fh{P:List bj}{d k:Nat}{f:bj}{as:List V}{H:ag}(hk:P[k]?=À f)(ha:as.length=f.arity){R:V->ag->Prop}(h:W (az P d) f.body (bu as) H (RQ R)):∃v ae,az P (d+1) k as H=À (.ok v,ae)/\R v ae:=by obtain ⟨fl,b,aT,ae,_,h1,v,rfl,h2⟩:=h _ (Le.refl _);show⟨v,ae,by rw[mK hk ha,h1];rfl,h2⟩
section
variable{Á:aw}{U:aM}{H Î Ü:ag}
theorem fE{a b:CE}{x y:Int}(ha:ab Á a U H=À (.int x,Î))(hb:ab Á b U Î=À (.int y,Ü)):ab Á (.cmp .Eq a b) U H=À (.bool (decide (x=y)),Ü):=by rw[<-R5];show bU ha hb N
theorem mX{r:Nat}{l:List V}(hr:H[r]?=À (.lst l)):gy .len [.ref r] H=À (.int l.length,H):=(show Ϥ (Ϥ _ _) _=_ from dF (dF (c8 hr) N) N)
end
theorem jv{P:List bj}{d k:Nat}{f:bj}{as:List V}{H:ag}{v:V}(hk:P[k]?=À f)(ha:as.length=f.arity)(h:W (az P d) f.body (bu as) H (RQ λu ae=>u=v/\ae=H)):az P (d+1) k as H=À (.ok v,H):=by show fe (fh hk ha h) λv' ae h1 q4 q5=>?_;subst q4 q5;show h1
theorem ie{P:List bj}{k d:Nat}{H:ag}(hk:P[k]?=À sL)(x y:Int)(hy:y.natAbs<18446744073709551616):az P (d+1) k [.int x,.int y] H=À (.ok (.int (uG x y)),H):=by have b1:=bG (a:=(x+104729*y)+(7919*y)*y) (b:=998244353) (by decide);show jv hk N (W.set (aJ (aJ (aJ N (aJ N N (ig (fT hy))) N) (aJ (aJ N N (ig (fT hy))) N (ig (fT hy))) N) N (dz (by decide))) ?_);have m4:qZ (((x+104729*y)+(7919*y)*y).fmod 998244353) (((x+104729*y)+(7919*y)*y).fmod 998244353)=Æ:=fT (mB b1.1 (acV b1.2 (by decide)));have em:uG x y=(((((x+104729*y)+(7919*y)*y).fmod 998244353)*(((x+104729*y)+(7919*y)*y).fmod 998244353)).fmod 998244353*1000003).fmod 998244353:=rfl;rw[em];generalize ((x+104729*y)+(7919*y)*y).fmod 998244353=z at m4;show W.retE (aJ (aJ (aJ (aJ N N (ig m4)) N (dz (by decide))) N (ig (fT (by decide)))) N (dz (by decide))) ⟨_,N,N,N⟩
theorem sC{P:List bj}{k d:Nat}{H:ag}{r:Nat}{cs:List Int}(hk:P[k]?=À iY)(hr:H[r]?=À (.lst (cs.map .int)))(j:Nat)(hj:j<1000000):az P (d+1) k [.ref r,.int j] H=À (.ok (.int (cellF cs j)),H):=by
 have m1:qZ ((j:Int)+3) ((j:Int)+7)=Æ:=fT (show j+7<18446744073709551616 from Į (acP hj 7) (by decide));show jv hk N (W.if_ (bU N (aL N ((mX hr).trans (by rw[H']))) N) (λhc=>?_) λhc=>W.nil ?_)
 ·have cG:j<cs.length:=by (show Ř.mp ‹_›)
  have e:cs[j]?=À cs[j]:=N' cG;show W.retE (br r j _ (.int cs[j]) N N hr (Ĕ _) (by rw[ĭ,Ħ,e];rfl)) ⟨_,N,?_,N⟩;rw[cellF,e]
 ·have e:cs[j]?=Ã:=ϳ (by show jL (y2 0xc0115b10 N hc))
  show W.retE (aJ (aJ N N (ig m1)) N (ig (fT (by decide)))) ⟨_,N,?_,N⟩;rw[cellF,e]
theorem j5{P:List bj}{k d:Nat}{H:ag}(hk:P[k]?=À mP)(x m:Int)(hm:m≠0):az P (d+1) k [.int x,.int m] H=À (.ok (.int (gK x m)),H):=by
 show jv hk N (W.set (Î:=H) N (W.if_ (fE N N) (λhc=>?_) λhc=>W.nil ?_))
 ·show W.retE (aJ N (aJ N N (dz hm)) N) ⟨_,N,by rw[gK,if_pos hc],N⟩
 ·show W.if_ (fE N N) (λF4=>?_) λF4=>W.nil ?_
  ·show W.retE N ⟨_,N,by rw[gK,if_neg hc,if_pos F4],N⟩
  ·show W.retE N ⟨_,N,by rw[gK,if_neg hc,if_neg F4],N⟩
theorem sW{P:List bj}{k d:Nat}{H:ag}(hk:P[k]?=À qo)(x:Int):az P (d+1) k [.int x] H=À (.ok (.int (sV x)),H):=by
 show jv hk N (W.if_ (fE N N) (λhc=>?_) λhc=>W.nil ?_)
 ·show W.retE N ⟨_,N,by rw[sV,if_pos hc],N⟩
 ·show W.if_ (bU N N N) (λF4=>?_) λF4=>W.nil ?_
  ·show W.retE N ⟨_,N,by rw[sV,if_neg hc,if_pos F4],N⟩
  ·show W.retE N ⟨_,N,by rw[sV,if_neg hc,if_neg F4],N⟩
noncomputable def kq:Int->List Int->List Int
 |_,[]=>[]
 |m,c::cs=>(m*6364136223846793005+c+1442695040888963407).fmod 1000000000000000003::kq ((m*6364136223846793005+c+1442695040888963407).fmod 1000000000000000003) cs
theorem Hq(H:ag)(a b:bp):(H++[a]).set H.length b=H++[b]:=by simp
theorem PN{Á:aw}{U:aM}{H Î:ag}{e:CE}{l:List Int}(h:ab Á e U H=À (.ro l,Î)):cE Á (.ex e) U H=À (l.map .int,[],Î):=kP.trans (bR h N)
def iD(P:List bj)(k:Nat)(d:Nat)(H:ag)(ns:List Int):Prop:=∀(hk:P[k]?=À oV) (hn:ns.length<=63),az P (d+1) k [.ro ns] H=À (.ok (.ref H.length),H++[.lst ((kq 1 ns).map .int)])
namespace mixed_callH
def kc:=hc (U5 iD) ([],0,0,[],[])
def P:=kc.1
def k:=kc.2.1
def d:=kc.2.2.1
def H:=kc.2.2.2.1
def ns:=kc.2.2.2.2
theorem kt:iD P k d H ns:=by
 intro hk hn;have hsz:ax=16777216:=rfl
 obtain ⟨v,ae,h,rfl,rfl⟩:=fh (R:=λv ae=>v=.ref H.length/\ae=H++[.lst ((kq 1 ns).map .int)]) (d:=d) hk (as:=[.ro ns]) rfl (by
  show W.set (Î:=H++[.lst []]) N (W.set N (W.loop (PN N)
   (λj U ae=>∃m acc,U=cw [Ã,À (.ref H.length),À (.int m)]/\ae=H++[.lst (acc.map .int)]/\acc++kq m (ns.drop j)=kq 1 ns/\acc.length<=j/\j<=ns.length)
   (a:=cw [Ã,À (.ref H.length),À (.int 1)]) (ar ⟨N,N,trivial⟩) ⟨1,[],N,N,N,ē _,į _⟩ (λy y y y=>bx _) ?_ ?_))
  ·rintro j x _ _ hx ⟨m,acc,rfl,rfl,h3,h4,hj⟩
   have cG:j<ns.length:=by have:=(ģ.mp hx).1;rwa [H']at this
   have hxe:x=.int ns[j]:=by rw[Ħ,N' cG]at hx;show(sm hx).symm
   apply ba hxe;rw[aby cG]at h3;show⟨_,rfl,?_⟩;generalize hz:(m*6364136223846793005+ns[j]+1442695040888963407).fmod 1000000000000000003=z;show W.set (v:=.int z) (by rw[<-hz];show aJ (aJ (aJ (aJ rfl rfl (ig (fT (by decide)))) rfl rfl) rfl rfl) rfl (dz (by decide))) (W.append0 H.length (acc.map .int) (.int z) rfl (aB _ _) rfl (by rw[H'];show jL (y4 0xc1210b003f9013b00000000000001000000d110b3211b03 rfl (iL hn) (iE hsz) (iL h4) (iT cG))) ?_);rw[Hq];show W.nil ⟨rfl,cw [Ã,À (.ref H.length),À (.int z)],ar ⟨rfl,rfl,trivial⟩,z,acc++[z],rfl,by simp,?_,by simp;show h4,cG⟩;rw[<-h3,kq,hz];simp
  ·rintro _ _ ⟨m,acc,rfl,rfl,h3,_⟩
   rw[H',adV,kq,Ľ]at h3;apply ba h3;show W.retE N ⟨_,N,N,N⟩)
 show h
end mixed_callH
theorem zN{P:List bj}:iD P k d H ns:=hk (P:=U5 iD) mixed_callH.kt (P,k,d,H,ns)
structure bI where
 a:Int
 p:Int
 l:Int
noncomputable def bI.v(o:bI):V:=.tup [.int o.a,.int o.p,.int o.l]
theorem pU(a b:Nat):i5 a b 1=b-a:=by
 show (if (a:Int)<b then ((b:Int)-a-1) / 1+1 else 0).toNat=b-a;by_cases h:(a:Int)<b
 ·rw[if_pos h,ae7,adv];show aep b a
 ·rw[if_neg h];show(adO (Ŝ.mp (ŉ.mp h))).symm
theorem ma(a b:Nat):(cy a b 1).length=b-a:=(H' _).trans (Ŗ.trans (pU a b))
theorem rq{a b j:Nat}{x:V}(h:(cy a b 1)[j]?=À x):j<b-a/\x=.int ((a:Int)+j):=by have hj:j<b-a:=ma a b▸(ģ.mp h).1;unfold cy at h;rw[Ħ,ϸ (pU a b▸hj)]at h;show⟨hj,(sm h).symm.trans (congrArg (λz=>V.int ((a:Int)+z)) (ϗ j))⟩
theorem l7{n:Nat}{j:Nat}{x:V}(h:(cy 0 n 1)[j]?=À x):j<n/\x=.int j:=ť j▸rq (a:=0) h
theorem l9(n:Nat):(cy 0 n 1).length=n:=ma 0 n
theorem lX(l:List Int):cH (l.map .int)=À l:=by
 induction l with
 |nil=>rfl
 |cons x l ih=>show (cH (l.map .int)).bind (λl=>À (x::l))=_;rw[ih];rfl
theorem dj{α:Type}{elt:aM->ag->Option (V×ag)}{cond:aM->ag->Option (Bool×ag)}{t:jR}{w:List (Nat×bp)}{U:aM}{H:ag}{g:α->V}{p:α->Bool}{f:α->V}(hw:cD H w){xs:List α}:
  (∀x∈xs,∃aT,t.put (g x) U=À aT/\cond aT H=À (p x,H)/\(p x=Æ->elt aT H=À (f x,H)))->fY elt cond t w (xs.map g) U H=À ((xs.filter p).map f,H):=by
 induction xs with
 |nil=>show λz=>je hw
 |cons x xs ih=>
  intro h;show eK (h x G') λaT h1 h2 h3=>?_;have ih:=ih λy hy=>h y (J' _ hy);show gv H w ((t.put (g x) U).bind λaT=>cg (cond aT H) λb Î=>if b then cg (elt aT Î) λv Ü=>cg (fY elt cond t w (xs.map g) U Ü) λl bC=>À (v::l,bC) else fY elt cond t w (xs.map g) U Î)=_;rw[je hw,h1];show (cg (cond aT H) λb Î=>if b then cg (elt aT Î) λv Ü=>cg (fY elt cond t w (xs.map g) U Ü) λl bC=>À (v::l,bC) else fY elt cond t w (xs.map g) U Î)=_;rw[h2,aev];show (if p x=Æ then cg (elt aT H) λv Ü=>cg (fY elt cond t w (xs.map g) U Ü) λl bC=>À (v::l,bC) else fY elt cond t w (xs.map g) U H)=_;by_cases hp:p x=Æ
  ·rw[if_pos hp,if_pos hp,h3 hp]
   show (cg (fY elt cond t w (xs.map g) U H) λl bC=>À (f x::l,bC))=_;rw[ih];rfl
  ·rw[if_neg hp,if_neg hp];show ih
noncomputable def aX(l:List Int):Int:=l.foldl (·+·) 0
theorem tq(l:List Int)(x:Int):aX (l++[x])=aX l+x:=by simp [aX]
theorem jm{α:Type}{Á:aw}{elt:CE}{t:jR}{it:jq}{ifs:gF}{U:aM}{H Î:ag}{w:List (Nat×bp)}{g:α->V}{p:α->Bool}{f:α->Int}{xs:List α}(hs:cE Á it U H=À (xs.map g,w,Î))(hw:cD Î w)(hz:xs.length<=ax)
  (h:∀x∈xs,∃aT,t.put (g x) U=À aT/\cW Á ifs aT Î=À (p x,Î)/\(p x=Æ->ab Á elt aT Î=À (.int (f x),Î))) :
  ab Á (.prim .sum (.cons (.comp elt t it ifs) .nil)) U H=À (.int (aX ((xs.filter p).map f)),Î++[.lst (((xs.filter p).map f).map .int)]):=by
 have hc:=dj hw h;rw[show (xs.filter p).map (λx=>V.int (f x))=((xs.filter p).map f).map .int from by simp]at hc
 have sT:(((xs.filter p).map f).map V.int).length<=ax:=by
  have:=abS p xs
  simp;show z' this hz
 show aL (al (eN hs hc sT)) (H0 (aB _ _) (lX _))
theorem nI{Á:aw}{e:CE}{U:aM}{H Î:ag}{b:Bool}(h:ab Á e U H=À (.bool b,Î)):cW Á (.cons e .nil) U H=À (b,Î):=mI h (by cases b<;>rfl)
theorem HU{Á:aw}{a b:CE}{U:aM}{H:ag}{xs ys:List V}(ha:ab Á a U H=À (.tup xs,H))(hb:ab Á b U H=À (.tup ys,H)):cE Á (.zip a b) U H=À (bF xs ys,[(H.length,.own)],H++[.own]):=rD.trans (bR ha (bR hb N))
theorem cM{Á:aw}{a:CE}{U:aM}{H Î:ag}{n:Nat}(ha:ab Á a U H=À (.int n,Î))(hn:n<=1000000000):cE Á (.rng1 a) U H=À (cy 0 n 1,[],Î):=tK ha (if_pos (by simp [gA];(show Ŝ.mpr ‹_›)))
theorem cT{α:Type}(l:List α):l.filter (λz=>Æ)=l:=List.filter_eq_self.mpr λz z=>rfl
theorem Sw{Á:aw}{e:CE}{U:aM}{H Î:ag}{v:V}(h:ab Á e U H=À (v,Î)):ip (aN Á (.cons (.ret e) .nil) U H)=À (.ok v,Î):=by show ip (ir (bL Á (.ret e) U H) _)=_;rw[lT,lM (r:=(.ret v,U,Î)) (by rw[h];rfl)];rfl
theorem dT(n:Nat):cy 0 n 1=(Đ n).map λj:Nat=>V.int j:=by unfold cy;rw[show i5 0 n 1=n from pU 0 n];show ŭ λj z=>by rw[ϗ,ť]
theorem JT{os:List bI}{j:Nat}(hj:j<os.length):(os.map bI.v)[((j:Nat):Int).toNat]?=À (((os[j]?).getD ⟨0,0,0⟩).v):=by rw[ĭ,Ħ,N' hj];rfl
theorem AT{cs:List Int}{j:Nat}(hj:j<cs.length):(cs.map V.int)[((j:Nat):Int).toNat]?=À (.int ((cs[j]?).getD 0)):=by rw[ĭ,Ħ,N' hj];rfl
theorem No{n:Nat}{j:Nat}{x:V}(h:(cy 1 (n+1:Nat) 1)[j]?=À x):j<n/\x=.int ((j:Int)+1):=adK 1 j▸rq (a:=1) h
theorem Np(n:Nat):(cy 1 (n+1:Nat) 1).length=n:=ma 1 (n+1)
section
variable{Á:aw}{U:aM}{H Î Ü bC:ag}
theorem cJ{es:gF}{vs:List V}(h:bY Á es U H=À (vs,Î))(hz:vs.length<=ax):ab Á (.list es) U H=À (.ref Î.length,Î++[.lst vs]):=bR h (if_pos hz)
theorem cC{es:gF}{vs:List V}(h:bY Á es U H=À (vs,Î))(hz:vs.length<=ax):ab Á (.tuple es) U H=À (.tup vs,Î):=bR h (if_pos hz)
theorem eU{a b:CE}{x y:Str}(ha:ab Á a U H=À (.str x,Î))(hb:ab Á b U Î=À (.str y,Ü))(hz:x.length+y.length<=ax):ab Á (.bin .Add a b) U H=À (.str (x++y),Ü):=
 aJ ha hb (if_pos hz)
theorem lS{a lo hi:CE}{x y z:V}{r:Option (V×ag)}(ha:ab Á a U H=À (x,Î))(hl:ab Á lo U Î=À (y,Ü))(hh:ab Á hi U Ü=À (z,bC))(h:xm x y z bC=r):ab Á (.slc a lo hi) U H=r:=bR ha (bR hl (bR hh h))
theorem JF{o e:CE}{x y:Str}(ho:ab Á o U H=À (.str x,Î))(he:ab Á e U Î=À (.str y,Ü)):ab Á (.meth .find o (.cons e .nil)) U H=À (.int (Txt.find x y),Ü):=bR ho (bR (al he) N)
theorem qN{k:Int}(h:0<=k/\k<4611686018427387904):m6 (.int k)=À k.toNat:=if_pos h
theorem mS{k:Int}{n:Nat}(h:0<=k/\k<4611686018427387904):kZ n (.int k)=À (min n k.toNat):=if_pos h
theorem Ye{k:Nat}(h:k<=1000):0<=(k:Int)/\(k:Int)<4611686018427387904:=⟨Ĕ k,abX (Ŝ.mpr h) (by decide)⟩
theorem tQ{α:Type}(l:List α)(i j:Nat):(oQ l i j).length<=l.length:=by unfold oQ;rw[ϻ,ŷ];show z' (Ś _ _) (adj _ _)
theorem Cw{e:CE}{x:Str}(h:ab Á e U H=À (.str x,Î))(hx:x.length<=ax):ab Á (.prim .len (.cons e .nil)) U H=À (.int x.length,Î):=
 aL (al h) (if_pos hx)
theorem Fz{a b:CE}{p q:Prop}[Decidable p][Decidable q](ha:ab Á a U H=À (.bool (decide p),H))(hb:ab Á b U H=À (.bool (decide q),H)):ab Á (.and a b) U H=À (.bool (decide (p/\q)),H):=by
 by_cases hp:p
 ·rw[decide_eq_true hp]at ha
  rw[yP ha hb]
  simp [hp]
 ·rw[decide_eq_false hp]at ha
  rw[tV ha]
  simp [hp]
theorem fm{a b:Int}(h:0<b):∃n:Nat,a.fmod b=n/\(n:Int)<b:=by show aP (bG (a:=a) h) λh1 h2=>⟨(a.fmod b).toNat,(ϥ h1).symm,by rw[ϥ h1];show h2⟩
end
noncomputable def sg:Str := "abcdefghijklmnopqrstuvwxyz"
theorem PH:sg.length=26:=by decide +kernel
noncomputable def nM:List Str:=["total","day","flour","salt","left","used","short","salts","a","z","oil"]
structure cF where
 n:Str
 a:Int
 l:Int
noncomputable def cF.v(b:cF):V:=.tup [.str b.n,.int b.a,.int b.l]
theorem fu{H:ag}{r:Nat}{m m':bp}(e:H[r]?=À m):(H.set r m')[r]?=À m':=adB (ģ.mp e).1
theorem lQ{P:List bj}{k d:Nat}{H:ag}{r:Nat}{cs:List Int}(hk:P[k]?=À iY)(hr:H[r]?=À (.lst (cs.map .int)))(j:Nat)(hj:j<1000){z:Int}(hz:z=j):az P (d+1) k [.ref r,.int z] H=À (.ok (.int (cellF cs j)),H):=by apply ba hz;show sC hk hr j (by show jT (y1 0x1c000000000000000f4240d011b03e890 N (iT hj)))
theorem JP{n:Nat}(h:n<4):([V.int 1,.int 2,.int 3,.int 4]:List V)[n]?=À (.int (n+1:Nat)):=show ((Đ 4).map λj:Nat=>V.int (j+1:Nat))[n]?=_ by rw[Ħ,ϸ h];rfl
def iF(d:Nat)(H:ag)(r:Nat)(cs:List Int):Prop:=∀(hr:H[r]?=À (.lst (cs.map .int))),∃(q:Nat) (aO:Int) (m:Nat) (ae:ag),az PP (d+2) 33 [.ref r] H=À (.ok (.ref q),ae)/\ae[q]?=À (.lst [.int aO,.int m])/\aE H ae/\1<=m/\m<=12
namespace names_callH
def kc:=hc (U4 iF) (0,[],0,[])
def d:=kc.1
def H:=kc.2.1
def r:=kc.2.2.1
def cs:=kc.2.2.2
theorem kt:iF d H r cs:=by
 intro hr;have ec:∀(j:Nat),j<1000->∀ae,aE H ae->az PP (d+1) 22 [.ref r,.int j] ae=À (.ok (.int (cellF cs j)),ae):=λj hj ae hK=>sC N (hK _ _ hr) j (Į ‹_<_› (by decide))
 obtain ⟨v,ae,h,q,aO,m,rfl,h1,h2,h3,h4⟩:=fh (P:=PP) (k:=33) (d:=d+1) rfl (as:=[.ref r]) rfl (by
  show W.set (af N (ec 0 (by decide) H (aE.refl _))) ?_;generalize cellF cs 0=aO;have UW:=ec 1 (by decide);generalize cellF cs 1=c at UW;show aF (fm (a:=c) (b:=4) (by decide)) λn hn lU=>?_;have K1:aE H (H++[.lst [V.int 1,.int 2,.int 3,.int 4]]):=aE.app _ _;show W.set (v:=.int (n+1:Nat)) (br H.length n _ _ (cJ (vs:=[V.int 1,.int 2,.int 3,.int 4]) N (by decide)) (by rw[<-hn];show aJ (af N (UW _ K1)) N (dz (by decide))) (aB _ _) (Ĕ _) (JP (Ř.mp ‹_›))) ?_;generalize H++[.lst [V.int 1,.int 2,.int 3,.int 4]]=bi at K1
  have ip:∀(m:Nat) (U:aM),U 1=À (.int aO)->U 2=À (.int m)->1<=m->m<=12->W (az PP (d+1)) (.cons (.ret (.list (.cons (.var 1) (.cons (.var 2) .nil)))) .nil) U bi (λfl z ae=>∃v,fl=.ret v/\∃(q:Nat) (aO:Int) (m:Nat),v=.ref q/\ae[q]?=À (.lst [.int aO,.int m])/\aE H ae/\1<=m/\m<=12):=by intro m U g1 g2 h1 h2;show W.retE (cJ (aA (aC g1) (al (aC g2))) (by simp only[acb,ad5];decide)) ⟨_,rfl,_,aO,m,rfl,aB _ _,K1.trans (aE.app _ _),h1,h2⟩
  show W.if_ (fE (aJ (aJ (af N (UW _ K1)) N (yM (by decide) (by decide))) N (dz (by decide))) N) (λhc=>?_) λhc=>W.nil ?_
  ·show W.set N (W.nil (ip 12 _ N N (by decide) (by decide)))
  ·show ip (n+1) _ N N (by show jL (y2 0xc11810b00813ba1801 N (iP _) (iA _ _))) (by (show Į (Ř.mp ‹_<_›) (by decide))))
 show⟨q,aO,m,ae,h,h1,h2,h3,h4⟩
end names_callH
theorem zQ:iF d H r cs:=hk (P:=U4 iF) names_callH.kt (d,H,r,cs)
theorem s5{P:List bj}{k d:Nat}{H:ag}(hk:P[k]?=À qp)(c:Int)(few Dh:Nat)(Gb:few<=Dh):∃n:Nat,az P (d+1) k [.int c,.int few,.int Dh] H=À (.ok (.int n),H)/\n<=Dh:=by
 obtain ⟨v,ae,h,rfl,n,rfl,h2⟩:=fh (R:=λv ae=>ae=H/\∃n:Nat,v=.int n/\n<=Dh) (H:=H) hk (as:=[.int c,.int few,.int Dh]) rfl (by
  show aF (fm (a:=c.fdiv 24) (b:=(Dh:Int)+1) (by (show acz (Ĕ _) (by decide)))) λn hn lU=>aF (fm (a:=c.fdiv 24) (b:=(few:Int)+1) (by (show acz (Ĕ _) (by decide)))) λm hm Tx=>W.if_ (fE N N) (λhc=>?_) λhc=>W.nil ?_
  ·show W.retE (aJ N N (dz (by (show aeB (acz (Ĕ _) (by decide)))))) ⟨_,N,N,n,by rw[hn],Ŝ.mp (adc lU)⟩
  ·show W.retE (aJ N N (dz (by (show aeB (acz (Ĕ _) (by decide)))))) ⟨_,N,N,m,by rw[hm],z' (Ŝ.mp (adc Tx)) Gb⟩)
 show⟨n,h,h2⟩
section
variable{Á:aw}{U:aM}{H Î Ü bC:ag}
theorem dh{e:CE}{l:List V}(h:ab Á e U H=À (.tup l,Î)):cE Á (.ex e) U H=À (l,[],Î):=kP.trans (bR h N)
theorem nC{e:CE}{l:List V}(h:ab Á e U H=À (.tup l,Î)):cE Á (.enm e) U H=À (dR 0 l,[],Î):=rC.trans (bR h N)
end
noncomputable def pV(p:Nat×Int):V:=.tup [.int p.1,.int p.2]
def BO(ps:List (Nat×Int)):V:=.tup (ps.map pV)
noncomputable def EU:cF:=⟨adX,0,0⟩
theorem bn{α:Type}{l:List α}{k:Nat}{x:α}(h:l[k]?=À x):l.take (k+1)=l.take k++[x]:=by rw[adD,h];rfl
theorem uD{α:Type}{f:α->V}{l:List α}{k:Nat}{x:V}(h:(l.map f)[k]?=À x):∃y,l[k]?=À y/\x=f y:=by
 rw[Ħ]at h;cases hy:l[k]? with
 |none=>rw[hy]at h;show no h
 |some y=>rw[hy]at h;show⟨y,N,(sm h).symm⟩
noncomputable def Ka(x:Str)(n:Nat):Str:=⟨#[(x.cps[n]?).getD 0]⟩
def Qn(x:Str)(i j:Nat):Str:=⟨(oQ x.cps.toList i j).toArray⟩
def Hs(z:Int):Str:=Ka sg (z.fmod 26).toNat
theorem pZ(x:Str)(i j:Nat):(Qn x i j).length<=x.length:=by show (oQ x.cps.toList i j).toArray.size<=_;rw[ſ];show tQ _ _ _
section
variable{Á:aw}{U:aM}{H Î Ü bC:ag}
theorem qm{a i:CE}{x:Str}{k:Int}(ha:ab Á a U H=À (.str x,Î))(hi:ab Á i U Î=À (.int k,Ü))(h0:0<=k)(h1:k<x.length)(hx:x.length<=1000):ab Á (.idx a i) U H=À (.str (Ka x k.toNat),Ü):=by
 have cG:k.toNat<x.cps.size:=by have:x.length=x.cps.size:=rfl;show jT (y4 0x1c2311b1012b2112b03 N h1 (iE this) (ϥ (y1 0xc00810b008 N h0)))
 have e:x.cps[k.toNat]?=À x.cps[k.toNat]:=acJ cG;have hk:0<=k/\k<4611686018427387904:=by show⟨y1 0xc00810b008 N h0,y2 0x1c00004000000000000000d011b1010b03e891 N h1 (iL hx)⟩
 show n8 ha hi ?_;show (Ϥ (À k) λk=>if 0<=k/\k<4611686018427387904 then (x.cps[k.toNat]?).bind (λc=>À (V.str ⟨#[c]⟩)) else Ã)=_;unfold Ka;rw[ace,if_pos hk,e];rfl
theorem jz{a lo hi:CE}{x:Str}{u v:V}{i j:Nat}(ha:ab Á a U H=À (.str x,Î))(hl:ab Á lo U Î=À (u,Ü))(hh:ab Á hi U Ü=À (v,bC))(h0:m6 u=À i)(h1:kZ x.length v=À j)(hx:x.length<=1000):
  ab Á (.slc a lo hi) U H=À (.str (Qn x i j),bC):=by
 have hc:(oQ x.cps.toList i j).length<=x.length:=tQ _ _ _;have hz:(oQ x.cps.toList i j).toArray.size<=ax:=by rw[ſ];unfold ax;show jL (y2 0xc00000000000001000000d110b03e89010b01 N (iL hx) (iL hc))
 show lS ha hl hh ?_;show ((m6 u).bind λi=>(kZ x.length v).bind λj=>Pr bC ⟨(oQ x.cps.toList i j).toArray⟩)=_;rw[h0,h1];show if_pos hz
theorem g6{i:CE}{z:Int}(hv:U 2=À (.str sg))(hi:ab Á i U H=À (.int (z.fmod 26),Î)):ab Á (.idx (.var 2) i) U H=À (.str (Hs z),Î):=by have b:=bG (a:=z) (b:=26) (by decide);have:=PH;show qm (aC hv) hi b.1 (by show y2 0x1c1011b001a9013b001a91 N b.2 (iE this)) (by show jL (y1 0xc03e89012b001a90 N (iE this)))
end
def s4(fG:Int):Nat->Str×Int
 |0=>(("":Str),fG.fdiv 7)
 |j+1=>((s4 fG j).1++Hs ((s4 fG j).2+1+(fG.fdiv 182).fmod 25),(s4 fG j).2+1+(fG.fdiv 182).fmod 25)
theorem uC(fG:Int):∀j,(s4 fG j).1.length=j
 |0=>by show ("":Str).length=0;decide +kernel
 |j+1=>by show ((s4 fG j).1++Hs _).length=_;rw[ac7,uC fG j];rfl
def H4(Ja:Int)(i:Nat):Str:=([("":Str),("":Str),Hs Ja,Hs (Ja+1)]:List Str)[i]?.getD ("":Str)
def gI(aO:Int)(i:Nat):Str:=
 if aO.fmod 6=0/\(i:Int)<4 then (nM[((aO.fdiv 6+i).fmod 11).toNat]?).getD ("":Str)
 else if (3:Int)<i then Qn (s4 (aO.fdiv 6) (1+((aO.fdiv 6).fmod 7).toNat)).1 0 (min (1+((aO.fdiv 6).fmod 7).toNat) (min (((aO.fdiv 6).fdiv 4550).fmod (1+((aO.fdiv 6).fmod 7).toNat:Nat)) 6).toNat)++(Hs ((s4 (aO.fdiv 6) (1+((aO.fdiv 6).fmod 7).toNat)).2+(i:Int).fdiv 26)++Hs i)++Qn (s4 (aO.fdiv 6) (1+((aO.fdiv 6).fmod 7).toNat)).1 (min (((aO.fdiv 6).fdiv 4550).fmod (1+((aO.fdiv 6).fmod 7).toNat:Nat)) 6).toNat (min (1+((aO.fdiv 6).fmod 7).toNat) 6)
 else if (3:Int)<aO.fmod 6 then Hs ((aO.fdiv 6).fdiv 7+(i:Int))++(s4 (aO.fdiv 6) (1+((aO.fdiv 6).fmod 7).toNat)).1
 else if (i:Int)=1 then Qn (s4 (aO.fdiv 6) (1+((aO.fdiv 6).fmod 7).toNat)).1 0 (min (1+((aO.fdiv 6).fmod 7).toNat) (((aO.fdiv 6).fdiv 4550).fmod (1+((aO.fdiv 6).fmod 7).toNat:Nat)).toNat)++Hs (Txt.find sg (Ka (s4 (aO.fdiv 6) (1+((aO.fdiv 6).fmod 7).toNat)).1 (((aO.fdiv 6).fdiv 4550).fmod (1+((aO.fdiv 6).fmod 7).toNat:Nat)).toNat)+1)++Qn (s4 (aO.fdiv 6) (1+((aO.fdiv 6).fmod 7).toNat)).1 ((((aO.fdiv 6).fdiv 4550).fmod (1+((aO.fdiv 6).fmod 7).toNat:Nat))+1).toNat (1+((aO.fdiv 6).fmod 7).toNat)
 else (s4 (aO.fdiv 6) (1+((aO.fdiv 6).fmod 7).toNat)).1++H4 (s4 (aO.fdiv 6) (1+((aO.fdiv 6).fmod 7).toNat)).2 i
theorem H6{a:Int}{i:Nat}(h:i<4):([V.str ("":Str),V.str ("":Str),V.str (Hs a),V.str (Hs (a+1))]:List V)[(i:Int).toNat]?=À (.str (H4 a i))/\(H4 a i).length<=1:=by
 have h0:("":Str).length<=1:=by decide +kernel
 cases i with
 |zero=>show⟨N,h0⟩
 |succ i=>cases i with
  |zero=>show⟨N,h0⟩
  |succ i=>cases i with
   |zero=>show⟨N,ē _⟩
   |succ i=>cases i with
    |zero=>show⟨N,ē _⟩
    |succ i=>show absurd h (ľ.mpr (afs 4 i))
theorem l6{P:List bj}{k d:Nat}{H:ag}(hk:P[k]?=À iZ)(aO:Int)(i:Nat)(hi:i<100):∃ae,az P (d+1) k [.int aO,.int i] H=À (.ok (.str (gI aO i)),ae)/\aE H ae:=by
 have hsz:ax=16777216:=rfl
 obtain ⟨v,ae,h,rfl,h1⟩:=fh (R:=λv ae=>v=.str (gI aO i)/\aE H ae) hk (as:=[.int aO,.int i]) rfl (by
  show W.set (v:=.str sg) (Î:=H) N (W.set (Î:=H++[.lst (nM.map .str)]) (cJ N (by decide)) ?_);have hw:(H++[.lst (nM.map .str)])[H.length]?=À (.lst (nM.map .str)):=aB _ _;have kw:aE H (H++[.lst (nM.map .str)]):=aE.app _ _;generalize H++[.lst (nM.map .str)]=bi at hw kw;show W.set (Î:=bi) N ?_;unfold gI;generalize hm:aO.fdiv 6=fG;show W.if_ (Fz (fE N N) (bU N N N)) (λhc=>?_) λhc=>W.nil ?_
  ·rw[if_pos hc]
   obtain ⟨n,hn,lU⟩:=fm (b:=11) (by decide);have cG:n<nM.length:=by show n<11;show jT (y1 0x1cb8011bb80 rfl lU)
   have hx:(nM.map V.str)[(n:Int).toNat]?=À (.str nM[n]):=by rw[ĭ,Ħ,N' cG];rfl
   have he:ab (az P d) (.bin .Mod (.bin .Add (.var 4) (.var 1)) (.cst (.int 11))) (cR (cR (cR (bu [.int aO,.int i]) 2 (.str sg)) 3 (.ref H.length)) 4 (.int fG)) bi=À (.int n,bi):=by rw[<-hn];rfl
   show W.retE (br H.length n _ _ N he hw (by show y1 0xc00810b008 N (iP _)) hx) ⟨_,N,by rw[hn,ĭ,N' cG];rfl,kw⟩
  ·rw[if_neg hc]
   show W.set rfl (W.set (Î:=bi) rfl ?_);obtain ⟨n,hn,lU⟩:=fm (b:=7) (by decide)
   show W.loop (xs:=cy 0 (1+n:Nat) 1) (cM (by show À (V.int (1+fG.fmod 7),bi)=_;rw[hn];rfl) (by show jL (y2 0xc0000000000003b9aca00d111b78012ba0181 N lU (iA _ _))))
    (λj U ae=>U=cw [À (.int aO),À (.int i),À (.str sg),Ã,À (.int fG),À (.str (s4 fG j).1),À (.int (s4 fG j).2)]/\ae=bi/\j<=7)
    (a:=cw [À (.int aO),À (.int i),À (.str sg),Ã,À (.int fG),À (.str ("":Str)),À (.int (fG.fdiv 7))]) (ar ⟨N,N,N,N,N,N,trivial⟩) ⟨N,N,į _⟩ (λz z z z=>bx _) ?_ ?_
   ·rintro j x _ ae hx ⟨rfl,e0,hj⟩
    subst e0;obtain ⟨cG,rfl⟩:=l7 hx;show⟨_,rfl,?_⟩;have hl:=uC fG j;show W.set (Î:=ae) rfl (W.set (Î:=ae) (eU (aC rfl) (g6 rfl rfl) (by show _+1<=_;show jL (y4 0xc0313b00000000000001000000d010b78112b1212ba1823 rfl (iE hsz) (iL hj) (iE hl) (iA _ _)))) (W.nil ⟨rfl,cw [À (.int aO),À (.int i),À (.str sg),Ã,À (.int fG),À (.str (s4 fG (j+1)).1),À (.int (s4 fG (j+1)).2)],ar ⟨rfl,rfl,rfl,rfl,rfl,rfl,trivial⟩,rfl,rfl,by show jL (y4 0xc78311b78011b2112ba181312ba0182 rfl lU (iT cG) (iA _ _) (iA _ _))⟩))
   ·rintro _ ae ⟨rfl,e0,hj⟩
    subst e0;rw[l9]at hj ⊢;rw[show (fG.fmod 7).toNat=n by rw[hn];rfl];have hx:=uC fG (1+n);generalize (s4 fG (1+n)).1=x at hx;generalize (s4 fG (1+n)).2=Ja;have Wi:0<1+n:=by show jT (y2 0x1c10810b00813ba0181 N (iP _) (iA _ _))
    generalize 1+n=w at hx hj Wi;subst hx;have hx7:x.length<=7:=hj;have O5:0<(x.length:Int):=by show y1 0x1c00811b008 N (iT Wi)
    obtain ⟨sp,X1,OX⟩:=fm O5;rw[X1];show W.set (v:=.int sp) (by rw[<-X1];show aJ (aJ rfl rfl (yM (by decide) (by decide))) (Cw (aC rfl) (by show jL (y2 0xc0113b00000000000001000000d010b781 rfl (iE hsz) (iL hj)))) (dz (by show λq0=>zI (y1 0x1c080811b00812b080 rfl (iT Wi) q0)))) ?_
    -- the names of fG than four
    show W.if_ (bU N N N) (λhc=>?_) λh3=>W.nil ?_
    ·rw[if_pos hc]
     have RG:0<=min (sp:Int) 6/\min (sp:Int) 6<4611686018427387904:=by show(adh _ _).elim (λd0=>⟨y2 0xc10810b00813b01 N (iP _) (acy d0),y1 0x1c00004000000000000000d010b680 N (acC _ _)⟩) λd0=>⟨y1 0xc00813b680 N (acq d0),y1 0x1c00004000000000000000d010b680 N (acC _ _)⟩
     show W.set (Î:=ae) (eU (g6 N N) (g6 N N) (by show 1+1<=_;show jL (y2 0xc0113b00000000000001000000d012ba18181 N (iE hsz) (iA _ _)))) ?_;have l3:=pZ x 0 (min x.length (min (sp:Int) 6).toNat);have l4:=pZ x (min (sp:Int) 6).toNat (min x.length 6);show W.retE (eU (eU (jz (aC N) N N N (mS RG) (by show jL (y1 0xc03e89010b780 N (iL hj)))) (aC N) ?_) (jz (aC N) N N (qN RG) (mS (by decide)) (by show jL (y1 0xc03e89010b780 N (iL hj)))) ?_) ⟨_,N,N,kw⟩
     ·rw[ac7];show _+(1+1)<=_;show jL (y5 0xc0413b00000000000001000000d010b78110b1212ba1818312ba324 N (iE hsz) (iL hj) (iL l3) (iA _ _) (iA _ _))
     ·rw[ac7,ac7];show _+(1+1)+_<=_;show z' (ϭ (Ϲ l3 _) l4) (by show jL (y5 0xc0413b00000000000001000000d020b78112ba1818212ba21312ba134 N (iE hsz) (iL hj) (iA _ _) (iA _ _) (iA _ _)))
    ·rw[if_neg h3]
     show W.if_ (bU N N N) (λhc=>?_) λhc=>W.nil ?_
     ·rw[if_pos hc]
      show W.retE (eU (g6 N N) (aC N) (by show 1+_<=_;show jL (y3 0xc0213b00000000000001000000d010b78112ba1182 N (iE hsz) (iL hj) (iA _ _)))) ⟨_,N,N,kw⟩
     ·rw[if_neg hc]
      show W.if_ (fE N N) (λhc=>?_) λhc=>W.nil ?_
      ·rw[if_pos hc]
       have OY:0<=(sp:Int)/\(sp:Int)<4611686018427387904:=by show⟨y1 0xc00810b008 N (iP _),y2 0x1c00004000000000000000d110b78011b01 N (iL hj) OX⟩
       have Wc:0<=(sp:Int)+1/\(sp:Int)+1<4611686018427387904:=by show⟨y1 0xca1800810b008 N OY.1,y2 0x1c00004000000000000000da18110b78011b01 N (iL hj) OX⟩
       show W.set (Î:=ae) (g6 N (aJ (aJ (JF (aC N) (qm (aC N) (aC N) (by show y1 0xc00810b008 N OY.1) (by show y2 0x1c1011b10 N OX) (by show jL (y1 0xc03e89010b780 N (iL hj))))) N N) N (dz (by decide)))) ?_;have l3:=pZ x 0 (min x.length (sp:Int).toNat);have l4:=pZ x ((sp:Int)+1).toNat x.length;show W.retE (eU (eU (jz (aC N) N N N (mS OY) (by show jL (y1 0xc03e89010b780 N (iL hj)))) (aC N) ?_) (jz (aC N) N N (qN Wc) N (by show jL (y1 0xc03e89010b780 N (iL hj)))) ?_) ⟨_,N,N,kw⟩
       ·show _+1<=_;show jL (y4 0xc0313b00000000000001000000d010b78110b1212ba1823 N (iE hsz) (iL hj) (iL l3) (iA _ _))
       ·rw[ac7];show _+1+_<=_;show z' (ϭ (Ϲ l3 _) l4) (by show jL (y4 0xc0313b00000000000001000000d020b78112ba181212ba123 N (iE hsz) (iL hj) (iA _ _) (iA _ _)))
      ·rw[if_neg hc]
       have ZR:i<4:=ϫ (Ŝ.mp (ŉ.mp h3));obtain ⟨hs,r0⟩:=H6 ZR;show W.retE (eU (aC rfl) (br ae.length i _ _ (cJ (aA rfl (aA rfl (aA (g6 rfl rfl) (al (g6 rfl rfl))))) (by show 4<=ax;show jL (y1 0xc04813b00000000000001000000d0 rfl (iE hsz)))) (aC rfl) (aB _ _) (Ĕ i) hs) (by show jL (y4 0xc0313b00000000000001000000d010b78110b18212ba213 rfl (iE hsz) (iL hj) (iL r0) (iA _ _)))) ⟨_,rfl,rfl,kw.trans (aE.app _ _)⟩)
 show⟨ae,h,h1⟩
structure bo where
 d:Nat
 ns:List (Str×Int)
noncomputable def Bh(p:Str×Int):V:=.tup [.str p.1,.int p.2]
def bo.v(x:bo):V:=.tup [.int x.d,.tup (x.ns.map Bh)]
def bo.ok(x:bo):Prop:=1<=x.d/\x.d<=7/\x.ns.length<=20
theorem CC(l:List Int):∀a:Int,l.foldl (·+·) a=a+l.foldl (·+·) 0:=by
 induction l with
 |nil=>intro a;simp
 |cons x l ih=>intro a;rw[Ϯ,Ϯ,ih (a+x),ih (0+x)];show ņ (y3 0xcaa2a1080a2a10 N) (y3 0xca2a10aa2a1080 N)
theorem aU(x:Int)(l:List Int):aX (x::l)=x+aX l:=by unfold aX;rw[Ϯ,CC];show ņ (y2 0xca10a1a008 N) (y2 0xca1a008a10 N)
section
variable{Á:aw}{aD:fx}{U:aM}{H Î Ü bC:ag}{Q:cA->aM->ag->Prop}
theorem jy{a b:CE}{p q:Bool}(ha:ab Á a U H=À (.bool p,H))(hb:ab Á b U H=À (.bool q,H)):ab Á (.and a b) U H=À (.bool (p&&q),H):=by
 cases p with
 |true=>show yP ha hb
 |false=>show tV ha
end
def gM(ns:List (Str×Int))(O:Str):Int:=aX ((ns.filter λp=>p.1==O).map (·.2))
def wx(ds:List bo)(O:Str)(t:Nat):Int:=aX ((ds.filter λx=>decide (t<x.d)).map λx=>gM x.ns O)
def f8(bs:List cF)(O:Str)(t:Nat):Int:=aX ((bs.filter λb=>b.n==O&&decide ((t:Int)<b.l)).map cF.a)
def YC(aO:Int)(ns:List (Str×Int)):Prop:=∀p∈ns,∃k,k<12/\p.1=gI aO k
def bo.okN(aO:Int)(x:bo):Prop:=x.ok/\YC aO x.ns
theorem G4{P:List bj}{d iN:Nat}{H:ag}{U:aM}{q m:Nat}{aO c:Int}{i0 i1:Nat}(hN:P[iN]?=À iZ)(qG:1<=m)(hm:m<=12)(hq:H[q]?=À (.lst [.int aO,.int m]))(g1:U i1=À (.ref q))(g5:U i0=À (.int c)):
  ∃O ae,ab (az P (d+1)) (.call iN (.cons (.idx (.var i1) (.cst (.int 0))) (.cons (.bin .Mod (.bin .Mod (.var i0) (.cst (.int 60))) (.idx (.var i1) (.cst (.int 1)))) .nil))) U H=À (.str O,ae)/\aE H ae/\∃k,k<12/\O=gI aO k:=by
 obtain ⟨k,hk,lc⟩:=fm (b:=m) (by show y1 0x1c00810b018 rfl (iL qG));obtain ⟨ae,h,h1⟩:=l6 hN aO k (by show jT (y2 0x1c00649110bc8011b01 rfl (iL hm) lc));show⟨_,ae,af (aA (br q 0 _ _ (aC g1) rfl hq (by decide) rfl) (al ?_)) h,h1,k,by show jT (y2 0x1cc8110bc8011b01 rfl (iL hm) lc),rfl⟩;rw[<-hk];show aJ (aJ (aC g5) rfl (dz (by decide))) (br q 1 _ _ (aC g1) rfl hq (by decide) rfl) (dz (by show λq0=>zI (y1 0x1c080810b01812b080 rfl (iL qG) q0)))
section
variable{Á:aw}{aD:fx}{U:aM}{H Î:ag}{Q:cA->aM->ag->Prop}
theorem W.setStr{o i v:CE}(r:Nat)(k:Str)(l:List (Str×V))(x:V)(hv:ab Á v U H=À (x,H))(ho:ab Á o U H=À (.ref r,H))(hi:ab Á i U H=À (.str k,H))(hr:H[r]?=À (.ds l))(hz:l.length<=ax)
  (c:W Á aD U (H.set r (.ds (eZ l k x))) Q):W Á (.cons (.setItem o i v) aD) U H Q:=W.setV hv ho hi (dF N (dF hr (if_pos hz))) c
end
def DN(l:List Str):List (Str×V):=l.foldl (λacc n=>eZ acc n (.bool Æ)) []
theorem xW(l:List Str)(n:Str):DN (l++[n])=eZ (DN l) n (.bool Æ):=by unfold DN;rw[ac4];rfl
theorem sI{v:V}{k:Str}:∀(l:List (Str×V)),(l.map (·.1)).Nodup->((eZ l k v).map (·.1)).Nodup/\∀x∈(eZ l k v).map (·.1),x=k\/x∈l.map (·.1)
 |[],_=>by show ([k]:List Str).Nodup/\∀x∈([k]:List Str),_;show⟨Ϡ.mpr ⟨(λh=>nomatch h),adE⟩,λx hx=>.inl (W'.mp hx)⟩
 |(a,b)::r,h=>by
  obtain ⟨h1,h2⟩:=Ϡ.mp (show (a::r.map (·.1)).Nodup from h);obtain ⟨h3,h4⟩:=sI r h2;show ((if a=k then (a,v)::r else (a,b)::eZ r k v).map (·.1)).Nodup/\∀x∈(if a=k then (a,v)::r else (a,b)::eZ r k v).map (·.1),_;by_cases hk:a=k
  ·rw[if_pos hk]
   show⟨h,λx hx=>.inr hx⟩
  ·rw[if_neg hk]
   show⟨Ϡ.mpr ⟨λhm=>?_,h3⟩,λx hx=>?_⟩
   ·rcases h4 a hm with e|e
    ·show hk e
    ·show h1 e
   ·rcases ċ.mp hx with e|e
    ·show .inr (ċ.mpr (.inl e))
    ·rcases h4 x e with e|e
     ·show .inl e
     ·show .inr (J' _ e)
theorem rI:∀(l acc:List Str),((DN acc).map (·.1)).Nodup/\(∀x∈(DN acc).map (·.1),x∈acc)->((DN (acc++l)).map (·.1)).Nodup/\∀x∈(DN (acc++l)).map (·.1),x∈acc++l
 |[],acc,h=>by rw[Ľ];show h
 |n::l,acc,h=>by
  have:=rI l (acc++[n]) (by
   obtain ⟨h1,h2⟩:=sI (DN acc) h.1;rw[xW];show⟨h1,λx hx=>?_⟩;rcases h2 x hx with e|e
   ·rw[e];show ů _ G'
   ·show ž _ (h.2 x e))
  rwa [Ć]at this
theorem xb{α:Type}[DecidableEq α]:∀(l m:List α),l.Nodup->(∀x∈l,x∈m)->l.length<=m.length
 |[],_,_,_=>į _
 |x::l,m,h,hm=>by obtain ⟨h1,h2⟩:=Ϡ.mp h;have hx:=hm x G';have ih:=xb l (m.erase x) h2 λy hy=>(List.mem_erase_of_ne (λe=>h1 (by rw[<-e];show hy))).mpr (hm y (J' _ hy));have wK:=List.length_pos_of_mem hx;rw[List.length_erase_of_mem hx]at ih;rw[acb];show jL (y4 0xc3210b1012ba180212be1831 rfl (iL ih) (iA _ _) (ϯ (jL (y1 0xc01811b008 rfl (iT wK)))))
def NL(aO:Int)(l:List Str):Prop:=∀n∈l,∃k,k<12/\n=gI aO k
theorem oK{aO:Int}{l:List Str}(h:NL aO l):(DN l).length<=12:=by
 obtain ⟨h1,h2⟩:=rI l [] ⟨adE,λx hx=>nomatch hx⟩;rw[aft]at h1 h2
 have:=xb _ ((Đ 12).map (gI aO)) h1 λx hx=>by obtain ⟨k,hk,e⟩:=h x (h2 x hx);show ş.mpr ⟨k,ń.mpr hk,e.symm⟩
 rwa [H',H',Ŗ]at this
noncomputable def qb(ds:List bo):List Str:=ds.flatMap λx=>x.ns.map (·.1)
theorem r9(l:List bo)(x:bo):qb (l++[x])=qb l++x.ns.map (·.1):=by unfold qb;rw[aeT];simp
theorem pJ{aO:Int}{ds:List bo}(h:∀x∈ds,x.okN aO):NL aO (qb ds):=λn hn=>by obtain ⟨x,hx,hp⟩:=adY.mp hn;obtain ⟨p,V4,rfl⟩:=ş.mp hp;show(h x hx).2 p V4
theorem mf(l:List Str):(jO l).Perm l:=by
 unfold jO;by_cases h:∃m:List Str,m.Perm l/\p9 m
 ·rw[dif_pos h];show(aeF h).1
 ·rw[dif_neg h]
theorem tj(l:List Str):(jO l).length=l.length:=(mf l).length_eq
theorem pe{H:ag}{r:Nat}{l:List (Str×V)}(hr:H[r]?=À (.ds l))(hz:l.length<=12):gy .sorted [.ref r] H=À (.ref H.length,H++[.lst ((jO (l.map (·.1))).map .str)]):=by show (Ϥ (Ϥ H[r]? Oa) λl=>if l.length<64 then rO H ((jO (l.map (·.1))).map .str) else Ã)=_;rw[hr];show (if l.length<64 then rO H ((jO (l.map (·.1))).map .str) else Ã)=_;rw[if_pos (by show jT (y1 0x1c00409010bc80 N (iL hz)))];show if_pos (by rw[H',tj,H'];unfold ax;show jL (y1 0xc00000000000001000000d010bc80 N (iL hz)))
def kL(Á:aw)(aD:fx)(H:ag)(Q:cA->aM->ag->Prop)(U:aM)(t:jR)(kx:CE)(aO:Int)(r:Nat)(ds:List bo):Prop:=∀(MB:∀x∈ds,x.okN aO) (g0:U 0=À (.tup (ds.map bo.v))) (g1:U 1=À (.ref r)) (hr:H[r]?=À (.ds [])) (ht:∀(p:Str×Int) (U:aM),U 1=À (.ref r)->∃aT,t.put (Bh p) U=À aT/\aT 1=À (.ref r)/\∀H,ab Á kx aT H=À (.str p.1,H)) (k:∀ae,(∀i m,i≠r->H[i]?=À m->ae[i]?=À m)->ae[r]?=À (.ds (DN (qb ds)))->W Á aD (cw [Ã,À (.ref r)]) ae Q),W Á (.cons (.for_ (.one 2) (.ex (.var 0)) (.cons (.for_ t (.ex (.idx (.var 2) (.cst (.int 1)))) (.cons (.setItem (.var 1) kx (.cst (.bool Æ))) .nil)) .nil)) aD) U H Q
namespace gather_WH
def kc:=hc (Um kL) (λz z z=>Ã,.nil,[],λz z z=>True,λz=>Ã,.one 0,.dict0,0,0,[])
def Á:=kc.1
def aD:=kc.2.1
def H:=kc.2.2.1
def Q:=kc.2.2.2.1
def U:=kc.2.2.2.2.1
def t:=kc.2.2.2.2.2.1
def kx:=kc.2.2.2.2.2.2.1
def aO:=kc.2.2.2.2.2.2.2.1
def r:=kc.2.2.2.2.2.2.2.2.1
def ds:=kc.2.2.2.2.2.2.2.2.2
theorem kt:kL Á aD H Q U t kx aO r ds:=by
 intro MB g0 g1 hr ht k;have hsz:ax=16777216:=rfl;have JY:=pJ MB
 show W.loop (dh (aC g0))
  (λj U ae=>U=cw [Ã,À (.ref r)]/\(∀i m,i≠r->H[i]?=À m->ae[i]?=À m)/\ae[r]?=À (.ds (DN (qb (ds.take j)))))
  (a:=cw [Ã,À (.ref r)]) (ar ⟨g1,trivial⟩) ⟨N,λz z z h=>h,by rw[aeJ];show hr⟩ (λz z z z=>bx _) ?_ ?_
 ·rintro j x _ bi O5 ⟨rfl,hK,hD⟩
  obtain ⟨x,hx,rfl⟩:=uD O5;show⟨_,rfl,?_⟩
  have OQ:NL aO (qb (ds.take j)++x.ns.map (·.1)):=by rw[<-r9,<-bn hx];show pJ λy hy=>MB y (Ů hy)
  show W.loop (dh (aZ 1 _ _ (aC N) N (by decide) N))
   (λi U ae=>U=cw [Ã,À (.ref r)]/\(∀i m,i≠r->H[i]?=À m->ae[i]?=À m)/\ae[r]?=À (.ds (DN (qb (ds.take j)++(x.ns.take i).map (·.1)))))
   (a:=cw [Ã,À (.ref r)]) (ar ⟨N,trivial⟩) ⟨N,hK,by rw[aeJ,List.map_nil,Ľ];show hD⟩ (λz z z z=>bx _) ?_ ?_
  ·rintro i y _ dG hy ⟨rfl,Ms,Rh⟩
   obtain ⟨p,hp,rfl⟩:=uD hy;obtain ⟨aT,Gl,Xj,Es⟩:=ht p (cw [Ã,À (.ref r)]) rfl;show⟨aT,Gl,?_⟩
   have O1:NL aO (qb (ds.take j)++(x.ns.take i).map (·.1)):=λn hn=>by
    rcases ğ.mp hn with h|h
    ·show OQ n (ž _ h)
    ·obtain ⟨p,hp,rfl⟩:=ş.mp h
     show OQ _ (ů _ (ş.mpr ⟨p,Ů hp,N⟩))
   have yl:=oK O1;show W.setStr r p.1 _ (.bool Æ) N (aC Xj) (Es _) Rh (by show jL (y2 0xc0113b00000000000001000000d010bc81 N (iE hsz) (iL yl))) (W.nil ⟨N,cw [Ã,À (.ref r)],ar ⟨Xj,trivial⟩,N,λi m hi e=>?_,?_⟩)
   ·rw[acu (Ne.symm hi)];show Ms i m hi e
   ·rw[fu Rh,bn hp,ŝ,<-Ć,<-xW];rfl
  ·rintro _ dG ⟨rfl,Ms,Rh⟩
   rw[H',ŗ]at Rh;show W.nil ⟨N,cw [Ã,À (.ref r)],ar ⟨N,trivial⟩,N,Ms,by rw[Rh,bn hx,r9]⟩
 ·rintro _ bi ⟨rfl,hK,hD⟩
  rw[H',ŗ]at hD;show k bi hK hD
end gather_WH
theorem wz{Á:aw}{aD:fx}{Q:cA->aM->ag->Prop}{t:jR}{kx:CE}{ds:List bo}:kL Á aD H Q U t kx aO r ds:=hk (P:=Um kL) gather_WH.kt (Á,aD,H,Q,U,t,kx,aO,r,ds)
theorem ur{H ae:ag}{m:bp}(h:∀i m',i≠H.length->(H++[m])[i]?=À m'->ae[i]?=À m'):aE H ae:=λi o e=>h i o (Ł (ģ.mp e).1) (aE.app _ _ _ _ e)
structure Pk where
 n:Str
 a:Int
 p:Int
 l:Int
noncomputable def Pk.v(b:Pk):V:=.tup [.str b.n,.int b.a,.int b.p,.int b.l]
noncomputable def zY(x:Int):Int:=if x.fmod 9=0 then (x.fdiv 9).fmod 1000001 else if x.fmod 9=1 then 0 else (x.fdiv 9).fmod 30
theorem Py(x:Int):0<=zY x:=by
 unfold zY;split
 ·show(bG (by decide)).1
 ·split
  ·show Ĭ 0
  ·show(bG (by decide)).1
theorem Hf{P:List bj}{k d:Nat}{H:ag}(hk:P[k]?=À oW)(x:Int):az P (d+1) k [.int x] H=À (.ok (.int (zY x)),H):=by
 show jv hk N (W.if_ (fE N N) (λhc=>?_) λhc=>W.nil ?_)
 ·show W.retE N ⟨_,N,by rw[zY,if_pos hc],N⟩
 ·show W.if_ (fE N N) (λF4=>?_) λF4=>W.nil ?_
  ·show W.retE N ⟨_,N,by rw[zY,if_neg hc,if_pos F4],N⟩
  ·show W.retE N ⟨_,N,by rw[zY,if_neg hc,if_neg F4],N⟩
def Ym(x:Pk×Int):V:=.tup [x.1.v,.int x.2]
theorem He:∀(ps:List Pk) (cs:List Int),bF (ps.map Pk.v) (cs.map .int)=(ps.zip cs).map Ym
 |[],_=>rfl
 |_::_,[]=>rfl
 |p::ps,c::cs=>congrArg (V.tup [p.v,.int c]::·) (He ps cs)
theorem HR{Á:aw}{a b:CE}{U:aM}{H:ag}{ps:List Pk}{cs:List Int}(ha:ab Á a U H=À (.tup (ps.map Pk.v),H))(hb:ab Á b U H=À (.tup (cs.map .int),H)):cE Á (.zip a b) U H=À ((ps.zip cs).map Ym,[(H.length,.own)],H++[.own]):=by rw[<-He];show HU ha hb
theorem C5{H:ag}{l:List V}(hz:l.length<=ax):gy .list [.tup l] H=À (.ref H.length,H++[.lst l]):=if_pos hz
noncomputable def GI(bs:List cF)(i:Nat):Int:=((bs[i]?).map cF.l).getD 0
noncomputable def bv(lf:List Int)(i:Nat):Int:=(lf[i]?).getD 0
def JB(bs:List cF)(lf:List Int)(O:Str)(dy:Int)(i:Nat):Bool:=match bs[i]? with
 |some b=>b.n==O&&(decide (dy<=b.l)&&decide (0<bv lf i))
 |none=>Ê
def Bf(bs:List cF)(i j:Nat):Prop:=GI bs i<GI bs j\/(GI bs i=GI bs j/\i<j)
theorem Bf.asym{bs:List cF}{i j:Nat}(h:Bf bs i j):¬ Bf bs j i:=λk=>h.elim (λa=>k.elim (λb=>ado _ (acV a b)) λb=>afL a b.1.symm) λa=>k.elim (λb=>afL b a.1.symm) λb=>Ŧ _ (Ϙ a.2 b.2)
def CZ(bs:List cF)(i:Nat):KP:=([GI bs i,(i:Int)],(i:Int))
def Qo(bs:List cF)(l:List Nat):List Nat:=(fA (l.map (CZ bs))).map λp=>p.2.toNat
theorem BB(bs:List cF)(l:List Nat):fA (l.map (CZ bs))=(Qo bs l).map (CZ bs):=by
 unfold Qo;rw[Ŭ]
 conv=>lhs;rw[<-afQ (fA (l.map (CZ bs)))]
 show ŭ λp hp=>aF (ş.mp ((fJ _).mem_iff.mp hp)) λi z q3=>?_;apply fQ q3;rfl
theorem rF(bs:List cF)(l:List Nat):(Qo bs l).Perm l:=by
 have h:=(fJ (l.map (CZ bs))).map λp=>p.2.toNat;rw[Ŭ]at h
 have e:((λp:KP=>p.2.toNat) ∘ CZ bs)=id:=by
  funext i;show ĭ i
 rw[e,afQ]at h;show h
theorem Sh{bs:List cF}{i j:Nat}(h:Bf bs i j):lh (CZ bs i) (CZ bs j)=Æ:=by show abR.mpr (.inl (abR.mpr (h.imp (λa=>decide_eq_true a) λa=>Ņ.mpr ⟨beq_iff_eq.mpr a.1,abR.mpr (.inl (decide_eq_true (Ř.mpr a.2)))⟩)))
theorem Sg{bs:List cF}{i j:Nat}(h:nU (CZ bs i) (CZ bs j))(eR:i≠j):Bf bs i j:=by
 have n:¬ Bf bs j i:=λk=>Ļ (h.symm.trans (Sh k));rcases aek (GI bs i) (GI bs j) with q|q|q
 ·show .inl q
 ·show .inr ⟨q,(Nat.lt_or_gt_of_ne eR).elim id λz=>absurd (.inr ⟨q.symm,z⟩) n⟩
 ·show absurd (.inl q) n
theorem PQ{bs:List cF}{l:List Nat}(hn:l.Nodup):(Qo bs l).Pairwise (Bf bs):=by have h1:=jF (l.map (CZ bs));rw[BB,aeo]at h1;have h2:(Qo bs l).Pairwise (·≠·):=(rF bs l).nodup_iff.mpr hn;show(h1.and h2).imp λ⟨a,b⟩=>Sg a b
def Fv(bs:List cF)(lf:List Int)(O:Str)(dy:Int):List Nat:=(Đ bs.length).filter (JB bs lf O dy)
def bE(bs:List cF)(lf:List Int)(O:Str)(dy:Int):List Nat:=Qo bs (Fv bs lf O dy)
theorem qk{bs:List cF}{lf:List Int}{O:Str}{dy:Int}{i:Nat}(h:JB bs lf O dy i=Æ):i<bs.length:=by
 unfold JB at h;cases e:bs[i]? with
 |none=>rw[e]at h;cases h
 |some b=>show(ģ.mp e).1
theorem j7{bs:List cF}{lf:List Int}{O:Str}{dy:Int}{i:Nat}:i∈bE bs lf O dy↔JB bs lf O dy i=Æ:=by rw[bE,(rF _ _).mem_iff,Fv,Š,ń];show⟨λh=>h.2,λh=>⟨qk h,h⟩⟩
theorem Ma(bs:List cF)(lf:List Int)(O:Str)(dy:Int):(bE bs lf O dy).Pairwise (Bf bs):=PQ (adk.filter _)
theorem Oe(bs:List cF)(lf:List Int)(O:Str)(dy:Int):(bE bs lf O dy).length<=bs.length:=by rw[bE,(rF _ _).length_eq,Fv];show z' (abS _ _) (by rw[Ŗ];show ē _)
theorem pQ{lf:List Int}{i j:Nat}{x:Int}(h:i<lf.length):bv (lf.set i x) j=if i=j then x else bv lf j:=by
 unfold bv;rw[List.getElem?_set];by_cases zl:i=j
 ·apply fQ zl;rw[if_pos N,if_pos h,if_pos N];rfl
 ·rw[if_neg zl,if_neg zl]
structure Tk where
 ps:List (Nat×Int)
 lf:List Int
 am:Int
def nJ(t:Tk)(i:Nat):Int:=min t.am (bv t.lf i)
def r4(t:Tk)(i:Nat):Tk:=if 0<t.am then ⟨t.ps++[(i,nJ t i)],t.lf.set i (bv t.lf i-nJ t i),t.am-nJ t i⟩ else t
theorem nD:∀(l:List Nat) (t:Tk),¬ 0<t.am->l.foldl r4 t=t
 |[],t,_=>rfl
 |i::l,t,h=>by rw[Ϯ,show r4 t i=t from if_neg h];show nD l t h
theorem BD(t:Tk)(i:Nat):(r4 t i).lf.length=t.lf.length:=by
 unfold r4;split
 ·show Ϻ
 ·rfl
theorem nE:∀(l:List Nat) (t:Tk),(l.foldl r4 t).lf.length=t.lf.length
 |[],t=>rfl
 |i::l,t=>by rw[Ϯ,nE l,BD]
def pD(bs:List cF)(lf:List Int)(O:Str)(am dy:Int):Tk:=(bE bs lf O dy).foldl r4 ⟨[],lf,am⟩
noncomputable def dp{α β:Type}(f:α->β->Except Str α):α->List β->Except Str α
 |a,[]=>.ok a
 |a,x::r=>match f a x with
  |.ok b=>dp f b r
  |.error e=>.error e
theorem od{α β:Type}{f:α->β->Except Str α}:∀(l m:List β) (a:α),dp f a (l++m)=match dp f a l with|.ok b=>dp f b m|.error e=>.error e
 |[],m,a=>rfl
 |x::l,m,a=>by
  show (match f a x with|.ok b=>dp f b (l++m)|.error e=>.error e)=match (match f a x with|.ok b=>dp f b l|.error e=>.error e) with|.ok b=>dp f b m|.error e=>.error e
  cases f a x with
  |error e=>rfl
  |ok b=>show od l m b
theorem yZ{α β:Type}{f:α->β->Except Str α}{l:List β}{a b:α}{x:β}(h:dp f a l=.ok b):dp f a (l++[x])=f b x:=by rw[od,h];show (match f b x with|.ok b=>afS b|.error e=>.error e)=f b x;cases f b x<;>rfl
def IJ(bs:List cF)(dy:Int)(st:List Int×List (Nat×Int))(p:Str×Int):Except Str (List Int×List (Nat×Int)):=
 if 0<(pD bs st.1 p.1 p.2 dy).am then .error p.1 else .ok ((pD bs st.1 p.1 p.2 dy).lf,st.2++(pD bs st.1 p.1 p.2 dy).ps)
noncomputable abbrev LN:=List Int×List (List (Nat×Int))
def sH(bs:List cF)(ds:List bo)(st:LN)(k:Nat):Except Str LN:=match ds[k]? with
 |none=>.ok st
 |some x=>match dp (IJ bs x.d) (st.1,[]) x.ns with
  |.ok p=>.ok (p.1,st.2.set k p.2)
  |.error e=>.error e
noncomputable def rX(ds:List bo)(k:Nat):Nat:=((ds[k]?).map bo.d).getD 0
def m9(ds:List bo):List Nat:=(Đ 7).flatMap λt=>(Đ ds.length).filter λk=>rX ds k==t+1
noncomputable def Ei(bs:List cF)(ds:List bo):LN:=(bs.map cF.a,ś ds.length [])
def wa(bs:List cF)(ds:List bo):Except Str LN:=dp (sH bs ds) (Ei bs ds) (m9 ds)
def Qk(ds:List bo)(i:Nat):KP:=([(rX ds i:Int)],(i:Int))
theorem uN{ds:List bo}(hd:∀x∈ds,x.ok){k:Nat}:k∈m9 ds↔k<ds.length:=by
 unfold m9;rw[adY];show⟨λ⟨t,_,h⟩=>ń.mp (Š.mp h).1,λh=>?_⟩;have hx:=hd _ (š h);have e:rX ds k=ds[k].d:=by unfold rX;rw[N' h];rfl
 show io hx λh1 h2 z=>⟨ds[k].d-1,ń.mpr (by show jT (y2 0x1c78110b78012be1801 N (iL h2) (ϯ (jL (y1 0xc01810b018 N (iL h1)))))),Š.mpr ⟨ń.mpr h,?_⟩⟩;rw[e,beq_iff_eq];show(acX h1).symm
theorem zX(ds:List bo):(m9 ds).Pairwise λi j=>rX ds i<rX ds j\/(rX ds i=rX ds j/\i<j):=by
 unfold m9;rw[List.pairwise_flatMap];show⟨λt z=>?_,?_⟩
 ·show((acZ).filter _).imp_of_mem λ{i j} hi hj h=>.inr ⟨?_,h⟩
  have h1:=beq_iff_eq.mp (Š.mp hi).2;have h2:=beq_iff_eq.mp (Š.mp hj).2;show Ű (z' (ň h1) (ň h2.symm)) (z' (ň h2) (ň h1.symm))
 ·show(acZ).imp λ{t u} htu i hi j hj=>.inl ?_
  have h1:=beq_iff_eq.mp (Š.mp hi).2;have h2:=beq_iff_eq.mp (Š.mp hj).2;show jT (y6 0x1c4211b1012b3213b5412ba180313ba1815 N (iT htu) (iE h1) (iE h2) (iA _ _) (iA _ _))
theorem Hb{ds:List bo}(hd:∀x∈ds,x.ok):fA ((Đ ds.length).map (Qk ds))=(m9 ds).map (Qk ds):=by
 show(xB ?_ ?_).symm
 ·show List.Perm.map _ ((aed ((zX ds).imp λh q=>by subst q;show h.elim (λd0=>zI (y1 0x1c080811b00 N (iT d0))) λd0=>zI (y1 0x1c080811b00 N (iT d0.2))) adk).mpr λk=>(uN hd).trans ń.symm)
 ·rw[aeo]
  show(zX ds).imp λ{i j} h=>?_;unfold nU lh Qk
  simp only[cm,aeu,Bool.not_true,adJ,adp,acM,decide_eq_false_iff_not,adP,adw,decide_eq_true_eq]
  show h.elim (λd0=>⟨ŉ.mpr (y2 0xc1011b10 N (iT d0)),.inl (y2 0x1c1011b10 N (iT d0))⟩) λd0=>⟨ŉ.mpr (y2 0xc1012b10 N (iE d0.1)),.inr (ŉ.mpr (y2 0xc1011b10 N (iT d0.2)))⟩
section
variable{Á:aw}{aD:fx}{U aT:aM}{H Î Ü bC:ag}{Q:cA->aM->ag->Prop}
theorem ql{f:Nat}{as:gF}{vs:List V}{c:Nat}{w:Str}(h:bY Á as U H=À (vs,Î))(hc:Á f vs Î=À (.exc c w,Ü)):ab Á (.call f as) U H=Ã/\ed Á (.call f as) U H=À (c,w,Ü):=⟨bR h (bR hc N),(show cg (bY Á as U H) (λvs Î=>cg (Á f vs Î) λr Ü=>JI Ü r)=_ from bR h (bR hc N))⟩
theorem W.raise{e:CE}{c:Nat}{w:Str}(h:ab Á e U H=À (.str w,Î))(k:Q (.exc c w) U Î):W Á (.cons (.raise_ c e) aD) U H Q:=
 W.out (fl:=.exc c w) (λq=>nomatch q) (λr hl=>by rw[wg,aH e hl h];rfl) k
theorem W.extend{o e:CE}(r q:Nat)(l m:List V)(ho:ab Á o U H=À (.ref r,H))(hr:H[r]?=À (.lst l))(he:ab Á e U H=À (.ref q,Î))(RP:pR Î (.ref r) (.ref q)=À (.none,Î.set r (.lst (l++m))))
  (k:W Á aD U (Î.set r (.lst (l++m))) Q):W Á (.cons (.expr (.meth .extend o (.cons e .nil))) aD) U H Q:=W.expr (AO (.inr N) ho hr he RP) k
def RX(R:yv->ag->Prop)(fl:cA)(_:aM)(H:ag):Prop:=(∃v,fl=.ret v/\R (.ok v) H)\/∃c w,fl=.exc c w/\R (.exc c w) H
theorem Ol{P:List bj}{d k:Nat}{f:bj}{as:List V}(hk:P[k]?=À f)(ha:as.length=f.arity){R:yv->ag->Prop}(h:W (az P d) f.body (bu as) H (RX R)):∃r ae,az P (d+1) k as H=À (r,ae)/\R r ae:=by
 show Ej (h _ (Le.refl _)) λfl b aT ae z h1 h2=>?_;rcases h2 with ⟨v,rfl,h2⟩|⟨c,w,rfl,h2⟩
 ·show⟨_,ae,by rw[mK hk ha,h1];rfl,h2⟩
 ·show⟨_,ae,by rw[mK hk ha,h1];rfl,h2⟩
theorem wf{it:jq}{i:Nat}{k:KX}{xs:List V}{w:List (Nat×bp)}{r:Option (V×ag)}(h:cE Á it U H=À (xs,w,Î))(hs:BA it w=Æ)(hk:me k i U Î xs=r):ab Á (.sortK it i k) U H=r:=tJ h ((if_pos hs).trans hk)
end
theorem td:∀{l:List Nat} {a:Int},(∀i∈l,a<(i:Int))->l.Pairwise (· < ·)->gz a (l.map λi:Nat=>(i:Int))=Æ
 |[],_,_,_=>rfl
 |i::l,a,h1,h2=>by have h3:=ŏ.mp h2;show (decide (a<(i:Int))&&gz (i:Int) (l.map λi:Nat=>(i:Int)))=Æ;rw[decide_eq_true (h1 i G'),adq];show td (λj hj=>by have:=h3.1 j hj;(show Ř.mpr ‹_›)) h3.2
theorem GH{k:KX}{i:Nat}{U:aM}{H:ag}{f:Nat->KP}:∀{l:List Nat},(∀n∈l,∃v,dn k (cR U i (.int n)) H=À v/\r2 v=À (f n).1/\(f n).2=n)->o5 k i U H (l.map λi:Nat=>(i:Int))=À (l.map f)
 |[],_=>rfl
 |n::l,h=>by show eK (h n G') λv h1 h2 h3=>?_;show (dn k (cR U i (.int n)) H).bind _=_;rw[h1];show (r2 v).bind _=_;rw[h2];show (o5 k i U H (l.map λi:Nat=>(i:Int))).bind _=_;rw[GH λm hm=>h m (J' _ hm)];show À (((f n).1,(n:Int))::l.map f)=_;rw[<-h3];rfl
theorem Ho{f:Nat->KP}{c:Nat}(h:∀n,(f n).1.length=c)(l:List Nat):gP (l.map f)=Æ:=by unfold gP;rw[Ϫ];intro p hp;rw[Ϫ];intro q hq;show aF (ş.mp hp) λi z q3=>?_;apply fQ q3;show aF (ş.mp hq) λj z q3=>?_;apply fQ q3;rw[h,h];show beq_self_eq_true _
theorem sU(l:List Nat):cH (l.map λi:Nat=>V.int i)=À (l.map λi:Nat=>(i:Int)):=by
 have e:(l.map λi:Nat=>V.int i)=(l.map λi:Nat=>(i:Int)).map V.int:=by rw[Ŭ];rfl
 rw[e];show lX _
theorem pd{k:KX}{i:Nat}{U:aM}{H:ag}{f:Nat->KP}{l:List Nat}{c:Nat}(hp:l.Pairwise (· < ·))(hl:l.length<=10000000)(hc:∀n,(f n).1.length=c)(h:∀n∈l,∃v,dn k (cR U i (.int n)) H=À v/\r2 v=À (f n).1/\(f n).2=n){m:List Nat}(hm:fA (l.map f)=m.map f)(hf:∀n∈m,(f n).2=n):
  me k i U H (l.map λi:Nat=>V.int i)=À (.ref H.length,H++[.lst (m.map λi:Nat=>V.int i)]):=by
 have Tu:m.length=l.length:=by have:=congrArg ady hm;rw[(fJ _).length_eq,H',H']at this;show this.symm
 unfold me;rw[sU];show (if _ then _ else _)=_;rw[if_pos ⟨td (λi z=>by (show Ĕ _)) hp,by rw[H'];show hl⟩,GH h];show (if gP (l.map f) then _ else _)=_;rw[if_pos (Ho hc l),hm,Ŭ]
 have e:(m.map ((λp:KP=>V.int p.2) ∘ f))=m.map λi:Nat=>V.int i:=ŭ λn hn=>by show V.int (f n).2=_;rw[hf n hn]
 rw[e];unfold rO;show if_pos (by rw[H',Tu];show z' hl (by decide))
def eT(L:Nat)(H ae:ag):Prop:=∀(i:Nat) (o:bp),i≠L->H[i]?=À o->ae[i]?=À o
theorem eT.trans{L:Nat}{a b c:ag}(x:eT L a b)(y:eT L b c):eT L a c:=λi o hi h=>y i o hi (x i o hi h)
theorem aE.b{L:Nat}{a b:ag}(x:aE a b):eT L a b:=λi o z h=>x i o h
theorem eT.refl(L:Nat)(H:ag):eT L H H:=λz z z h=>h
theorem eG{H:ag}{i j:Nat}{m:bp}(h:i≠j):(H.set i m)[j]?=H[j]?:=acu h
def vH(bs:List cF)(i:Nat):cF:=(bs[i]?).getD EU
theorem qf{bs:List cF}{i:Nat}(h:i<bs.length):bs[i]?=À (vH bs i):=by unfold vH;rw[N' h];rfl
theorem Og{bs:List cF}{i:Nat}(h:i<bs.length):(bs.map cF.v)[((i:Nat):Int).toNat]?=À (vH bs i).v:=by rw[ĭ,Ħ,qf h];rfl
theorem Ko{bs:List cF}{i:Nat}(h:i<bs.length):GI bs i=(vH bs i).l:=by unfold GI;rw[qf h];rfl
theorem Os{bs:List cF}{lf:List Int}{O:Str}{dy:Int}{i:Nat}(h:i<bs.length):JB bs lf O dy i=((vH bs i).n==O&&(decide (dy<=(vH bs i).l)&&decide (0<bv lf i))):=by unfold JB;rw[qf h]
theorem zH{lf:List Int}{i:Nat}(h:i<lf.length):(lf.map V.int)[((i:Nat):Int).toNat]?=À (.int (bv lf i)):=AT h
theorem gc{α:Type}{f:α->V}(x0:α):∀(l:List α) (j:Nat),dR j (l.map f)=(Đ l.length).map λi=>.tup [.int ((j+i:Nat):Int),f ((l[i]?).getD x0)]
 |[],j=>rfl
 |b::l,j=>by show V.tup [.int j,f b]::dR (j+1) (l.map f)=_;rw[gc x0 l (j+1),acb,List.range_succ_eq_map,Œ,Ŭ];show congr (congrArg _ N) (ŭ λi z=>?_);show V.tup [.int ((j+1+i:Nat):Int),f ((l[i]?).getD x0)]=V.tup [.int ((j+(i+1):Nat):Int),f (((b::l)[i+1]?).getD x0)];rw[Ϭ j 1 i];rfl
theorem ij{Á:aw}{U:aM}{H Î:ag}{e:CE}{r:Nat}{l:List V}(h:ab Á e U H=À (.ref r,Î))(hr:Î[r]?=À (.lst l)):cE Á (.ex e) U H=À (l,[(r,.lst l)],Î):=kP.trans (bR h (dF (dF (c8 hr) N) N))
theorem Kk{U:aM}{H:ag}{bs:List cF}{n:Nat}(h0:U 0=À (.tup (bs.map cF.v)))(hn:n<bs.length):∃v,dn (.pair (.idx (.idx (.var 0) (.var 5)) (.num 2)) (.var 5)) (cR U 5 (.int n)) H=À v/\r2 v=À (CZ bs n).1/\(CZ bs n).2=n:=by
 show⟨.tup [.int (GI bs n),.int n],?_,N,N⟩;rw[Ko hn]
 have e1:dn (.idx (.var 0) (.var 5)) (cR U 5 (.int n)) H=À (vH bs n).v:=by show ((cR U 5 (.int n)) 0).bind _=_;rw[show (cR U 5 (.int n)) 0=U 0 from N,h0];show kM (Ĕ _) (Og hn)
 show ((dn (.idx (.var 0) (.var 5)) (cR U 5 (.int n)) H).bind λx=>(dn (.num 2) (cR U 5 (.int n)) H).bind λy=>lF x y H).bind _=_;rw[e1];rfl
noncomputable abbrev bO(l:List Nat):List V:=l.map λi:Nat=>V.int i
theorem Pn{l:List Nat}{k:Nat}{x:V}(h:(bO l)[k]?=À x):∃i:Nat,l[k]?=À i/\x=.int i:=by rw[bO,Ħ,ϧ]at h;obtain ⟨i,h1,h2⟩:=h;show⟨i,h1,h2.symm⟩
theorem dQ(l:List Int)(i:Nat)(x:Int):(l.map V.int).set i (.int x)=(l.set i x).map V.int:=by rw[afM]
noncomputable def s0(p:cF->Bool):List cF->List Int->Int
 |[],_=>0
 |b::bs,lf=>(if p b then bv lf 0 else 0)+s0 p bs lf.tail
theorem f9(lf:List Int)(i:Nat):bv lf.tail i=bv lf (i+1):=by cases lf<;>rfl
set_option tactic.hygienic true in
theorem km{p:cF->Bool}:∀{bs:List cF} {lf lf':List Int},(∀i b,bs[i]?=À b->p b=Æ->bv lf i<=bv lf' i)->s0 p bs lf<=s0 p bs lf'
 |[],_,_,_=>Ĭ _
 |b::bs,lf,lf',h=>by
  show ada ?_ (km λi c hc hp=>?_)
  ·split
   ·rename_i hb;show h 0 b rfl hb
   ·show Ĭ _
  ·rw[f9,f9];show h (i+1) c hc hp
theorem ov{p:cF->Bool}{bs:List cF}{lf lf':List Int}(h:∀i b,bs[i]?=À b->p b=Æ->bv lf i=bv lf' i):s0 p bs lf=s0 p bs lf':=
 ņ (km λi b e q=>ŵ (h i b e q)) (km λi b e q=>ŵ (h i b e q).symm)
theorem uB(p:cF->Bool):∀bs:List cF,s0 p bs []=0
 |[]=>rfl
 |b::bs=>by show (if p b then (0:Int) else 0)+s0 p bs []=0;rw[uB p bs,ite_self];rfl
theorem Ku{p:cF->Bool}(bs:List cF):∀{lf lf':List Int} {i:Nat} {b:cF},bs[i]?=À b->p b=Æ->(∀j,j≠i->bv lf' j=bv lf j)->s0 p bs lf'=s0 p bs lf+(bv lf' i-bv lf i):=by
 induction bs with
 |nil=>show λhb=>no hb
 |cons c bs ih=>
  intro lf lf' i b hb hp h;show (if p c then bv lf' 0 else 0)+s0 p bs lf'.tail=(if p c then bv lf 0 else 0)+s0 p bs lf.tail+_;cases i with
  |zero=>rw[sm hb,if_pos hp,if_pos hp,ov (lf:=lf'.tail) (lf':=lf.tail) λi b z z=>by rw[f9,f9];show h _ (acd i)];show ņ (y3 0xcae20a12a10 N) (y3 0xca12ae02a10 N)
  |succ i=>
   have e:=ih (lf:=lf.tail) (lf':=lf'.tail) (i:=i) hb hp λj hj=>by rw[f9,f9];show h _ λq=>hj (ad0.inj q)
   rw[f9,f9]at e;rw[e,h 0 (acd i).symm];show ņ (y4 0xcae32a10aae3210 N) (y4 0xcaae3210ae32a10 N)
structure WY(R:Nat->Nat->Prop)(l:List Nat)(t t':Tk):Prop where
 out:∀i,i∉l->bv t'.lf i=bv t.lf i
 inn:∀i∈l,0<=bv t'.lf i/\bv t'.lf i<=bv t.lf i
 bad:0<t'.am->∀i∈l,bv t'.lf i=0
 ord:∀i∈l,∀j∈l,R i j->bv t'.lf j≠bv t.lf j->bv t'.lf i=0
 nn:0<=t.am->0<=t'.am
 few:(∀i∈l,0<bv t.lf i)->(t'.ps.length:Int)+t'.am<=t.ps.length+t.am
 sum:∀bs p,(∀i∈l,∃b,bs[i]?=À b/\p b=Æ)->s0 p bs t.lf+t'.am=s0 p bs t'.lf+t.am
 mem:∀p∈t'.ps,p∈t.ps\/p.1∈l
theorem BM{R:Nat->Nat->Prop}(as:∀i j,R i j->¬ R j i):∀{l:List Nat} {t:Tk},l.Pairwise R->(∀i∈l,i<t.lf.length/\0<=bv t.lf i)->WY R l t (l.foldl r4 t):=by
 intro l
 induction l with
 |nil=>intro t _ _;show⟨λy y=>rfl,(λy h=>nomatch h),(λy y h=>nomatch h),(λy h=>nomatch h),id,λy=>Ĭ _,λy y y=>rfl,λy h=>.inl h⟩
 |cons i l IH=>
  intro t hp h;by_cases h0:0<t.am
  ·have hp:=ŏ.mp hp
   have hi:=h i G';have P7:i∉l:=λq=>as i i (hp.1 i q) (hp.1 i q);have e1:r4 t i=⟨t.ps++[(i,nJ t i)],t.lf.set i (bv t.lf i-nJ t i),t.am-nJ t i⟩:=if_pos h0;have f1:∀j,j≠i->bv (r4 t i).lf j=bv t.lf j:=λj hj=>by rw[e1];show(pQ hi.1).trans (if_neg (Ne.symm hj))
   have f2:bv (r4 t i).lf i=bv t.lf i-nJ t i:=by rw[e1];show(pQ hi.1).trans (if_pos N)
   have f3:(r4 t i).am=t.am-nJ t i:=by rw[e1]
   have f5:(r4 t i).ps=t.ps++[(i,nJ t i)]:=by rw[e1]
   have f4:nJ t i<=t.am/\nJ t i<=bv t.lf i/\0<=nJ t i/\(nJ t i=t.am\/nJ t i=bv t.lf i):=by unfold nJ;show(adh _ _).elim (λd0=>⟨y2 0xc1010b10 N (acK _ _),⟨y2 0xc1010b10 N (acC _ _),⟨y2 0xc10811b00813b01 N h0 (acy d0),.inl (ņ (y2 0xc1010b10 N (acK _ _)) (y2 0xc0113b10 N (acy d0)))⟩⟩⟩) λd0=>⟨y2 0xc1010b10 N (acK _ _),⟨y2 0xc1010b10 N (acC _ _),⟨y2 0xc10810b00813b01 N hi.2 (acq d0),.inr (ņ (y2 0xc1010b10 N (acC _ _)) (y2 0xc0113b10 N (acq d0)))⟩⟩⟩
   generalize nJ t i=x at f2 f3 f4 f5;generalize e2:r4 t i=t1 at f1 f2 f3 f5;have wI:t1.lf.length=t.lf.length:=by rw[<-e2,BD]
   have ne:∀j∈l,j≠i:=λj hj q=>P7 (q▸hj);have ih:=IH hp.2 λj hj=>by rw[wI,f1 j (ne j hj)];show h j (J' _ hj)
   rw[Ϯ,e2];have o1:=ih.out i P7;show⟨λj hj=>?_,λj hj=>?_,λhb j hj=>?_,λa ha b hb hr hc=>?_,λy=>ih.nn (by show y3 0xc20810b1013be012 N f4.1 f3),λhp=>?_,λbs p hs=>?_,λp hp=>?_⟩
   ·rw[ih.out j λq=>hj (J' _ q),f1 j λq=>hj (q▸G')]
   ·show â (ċ.mp hj) (λq=>?_) λq=>?_
    ·rw[q,o1];show⟨y3 0xc20810b1013be012 N f4.2.1 f2,y3 0xc2110b00812be021 N f4.2.2.1 f2⟩
    ·rw[<-f1 j (ne j q)];show ih.inn j q
   ·show â (ċ.mp hj) (λq=>?_) λq=>ih.bad hb j q
    rw[q,o1];by_cases h1:0<t1.am
    ·show f4.2.2.2.elim (λd0=>ņ ((zI (y3 0x1c080812be21011b00813b12 N f3 h1 d0)).elim) (y3 0xc20810b1013be012 N f4.2.1 f2)) λd0=>ņ (y3 0xc08012be21013b12 N f2 d0) (y3 0xc20810b1013be012 N f4.2.1 f2)
    ·rw[nD l t1 h1]at hb;show absurd hb h1
   ·show â (ċ.mp hb) (λq=>?_) λq=>?_
    ·subst q
     show â (ċ.mp ha) (λq=>absurd (q▸hr) (as _ _ (q▸hr))) λq=>absurd hr (as _ _ (hp.1 a q))
    ·show â (ċ.mp ha) (λz=>?_) λz=>ih.ord a z b q hr (f1 b (ne b q)▸hc)
     rw[z,o1];by_cases h1:0<t1.am
     ·show f4.2.2.2.elim (λd0=>ņ ((zI (y3 0x1c080812be21011b00813b12 N f3 h1 d0)).elim) (y3 0xc20810b1013be012 N f4.2.1 f2)) λd0=>ņ (y3 0xc08012be21013b12 N f2 d0) (y3 0xc20810b1013be012 N f4.2.1 f2)
     ·rw[nD l t1 h1,f1 b (ne b q)]at hc;show absurd N hc
   ·have h1:=ih.few λj hj=>by rw[f1 j (ne j hj)];show hp j (J' _ hj)
    have h2:=hp i G';have h3:t1.ps.length=t.ps.length+1:=by rw[f5,Ā];rfl
    rw[f3,h3]at h1;show f4.2.2.2.elim (λd0=>y6 0xca05a2111b00810bae403a2112ba185313b04 N h0 h1 (iA _ _) d0) λd0=>y7 0xca36a1010bae432a1011b50812ba186213b54 N h1 h2 (iA _ _) d0
   ·have s1:=ih.sum bs p λj hj=>hs j (J' _ hj)
    show aF (hs i G') λb hb hpb=>?_;have s2:=Ku bs hb hpb f1;rw[f3]at s1;rw[f2]at s2;show ņ (y7 0xca32a1512bae432a1013bae6e4650 N s1 s2) (y7 0xca15a3213bae432a1012bae6e4650 N s1 s2)
   ·show(ih.mem p hp).elim (λq=>by rw[f5]at q;show(ğ.mp q).imp id λq=>by rw[W'.mp q];show G') λq=>.inr (J' _ q)
  ·rw[nD _ t h0]
   show⟨λy y=>rfl,λj hj=>⟨(h j hj).2,Ĭ _⟩,λq=>absurd q h0,λy y y y y q=>absurd N q,id,λy=>Ĭ _,λy y y=>rfl,λy h=>.inl h⟩
noncomputable def pk(O:Str)(t:Nat)(b:cF):Bool:=b.n==O&&decide ((t:Int)<b.l)
structure HC(bs:List cF)(lf:List Int)(D:Str->Nat->Int):Prop where
 len:lf.length=bs.length
 nn:∀i,0<=bv lf i
 le:∀(O:Str) (t:Nat),D O t+s0 (pk O t) bs lf<=f8 bs O t
 ex:∀(O:Str) (t:Nat),D O t+s0 (pk O t) bs lf=f8 bs O t\/(1<=t/\∀i b,bs[i]?=À b->b.n=O->b.l=(t:Int)->bv lf i=0)
theorem pK{bs:List cF}{lf:List Int}{O:Str}{dy:Int}{i:Nat}:JB bs lf O dy i=Æ↔∃b,bs[i]?=À b/\b.n=O/\dy<=b.l/\0<bv lf i:=by
 unfold JB;cases bs[i]? with
 |none=>show⟨(λq=>nomatch q),λq=>q.elim λb q=>nomatch q.1⟩
 |some c=>dsimp only;rw[Ň,Ň,beq_iff_eq,decide_eq_true_iff,decide_eq_true_iff];show⟨λq=>⟨c,rfl,q⟩,λq=>aF q λb q1 q2=>Option.some.inj q1▸q2⟩
def mw(bs:List cF)(lf:List Int)(D:Str->Nat->Int)(O:Str)(am:Int)(dy:Nat):Prop:=∀(I:HC bs lf D) (hd:1<=dy),HC bs (pD bs lf O am dy).lf (λn t=>D n t+if n=O/\t<dy then am-(pD bs lf O am dy).am else 0) /\
  (0<=am->0<=(pD bs lf O am dy).am)/\(0<(pD bs lf O am dy).am->∀i b,bs[i]?=À b->b.n=O->(dy:Int)<=b.l->bv (pD bs lf O am dy).lf i=0)
namespace HC_takeH
def kc:=hc (U6 mw) ([],[],λz z=>0,default,0,0)
def bs:=kc.1
def lf:=kc.2.1
def D:=kc.2.2.1
def O:=kc.2.2.2.1
def am:=kc.2.2.2.2.1
def dy:=kc.2.2.2.2.2
theorem kt:mw bs lf D O am dy:=by
 intro I hd;have T:=BM (λy y=>Bf.asym) (t:=⟨[],lf,am⟩) (Ma bs lf O dy) λi hi=>⟨I.len▸qk (j7.mp hi),I.nn i⟩;have hl:=nE (bE bs lf O dy) ⟨[],lf,am⟩;change WY _ _ _ (pD bs lf O am dy) at T;change (pD bs lf O am dy).lf.length=lf.length at hl;generalize pD bs lf O am dy=u at T hl;have mem:∀{i},i∈bE bs lf O dy->∃b,bs[i]?=À b/\b.n=O/\(dy:Int)<=b.l/\0<bv lf i:=λhi=>pK.mp (j7.mp hi);have WA:∀i,bv lf i=0->bv u.lf i=0:=λi h=>(T.out i λq=>vo (mem q) λy y y y q=>by show zI (y1 0x1c080812b08011b008 N h q)).trans h;have ip:∀i b,bs[i]?=À b->b.n=O->(dy:Int)<=b.l->(0<bv lf i->bv u.lf i=0)->bv u.lf i=0:=λi b e1 e2 e3 k=>â (ae1 (I.nn i)) k λq=>WA i q.symm
 have YR:∀i,bv u.lf i<=bv lf i:=λi=>by
  by_cases hi:i∈bE bs lf O dy
  ·show(T.inn i hi).2
  ·show ŵ (T.out i hi)
 have same:∀(n:Str) (t:Nat),s0 (pk n t) bs u.lf=s0 (pk n t) bs lf->D n t+s0 (pk n t) bs u.lf=f8 bs n t\/(1<=t/\∀i b,bs[i]?=À b->b.n=n->b.l=(t:Int)->bv u.lf i=0):=λn t e=>by rw[e];show(I.ex n t).imp id λq=>⟨q.1,λi b h1 h2 h3=>WA i (q.2 i b h1 h2 h3)⟩
 show⟨⟨hl.trans I.len,λi=>?_,λn t=>?_,λn t=>?_⟩,T.nn,λh0 i b e1 e2 e3=>ip i b e1 e2 e3 λhp=>T.bad h0 i (j7.mpr (pK.mpr ⟨b,e1,e2,e3,hp⟩))⟩
 ·by_cases hi:i∈bE bs lf O dy
  ·show(T.inn i hi).1
  ·rw[T.out i hi];show I.nn i
 ·have h1:=I.le n t
  by_cases hc:n=O/\t<dy
  ·rw[if_pos hc]
   have h2:=T.sum bs (pk n t) λi hi=>vo (mem hi) λb e1 e2 e3 y=>⟨b,e1,by unfold pk;rw[e2,hc.1,beq_self_eq_true,adq];show decide_eq_true (by show y3 0x1c2011b1010b21 rfl (iT hc.2) e3)⟩;dsimp only at h2;show y6 0xc2a4ae35010b2a1013ba54a31 rfl h1 h2
  ·rw[if_neg hc]
   have h2:=km (p:=pk n t) (bs:=bs) λi b y y=>YR i;show y4 0xc2a3a08010b2a1010b13 N h1 h2
 ·by_cases hc:n=O/\t<dy
  ·have h2:=T.sum bs (pk n t) λi hi=>vo (mem hi) λb e1 e2 e3 y=>⟨b,e1,by unfold pk;rw[e2,hc.1,beq_self_eq_true,adq];show decide_eq_true (by show y3 0x1c2011b1010b21 N (iT hc.2) e3)⟩
   dsimp only at h2;rw[if_pos hc];show(I.ex n t).imp (λq=>by show ņ (y6 0xc5a2ae13413ba32a1012b5a04 rfl h2 q) (y6 0xca2ae134512ba32a1013b5a04 rfl h2 q)) λq=>⟨q.1,λi b h1 h2 h3=>WA i (q.2 i b h1 h2 h3)⟩
  ·rw[if_neg hc,Ť]
   by_cases he:∀i b,bs[i]?=À b->pk n t b=Æ->bv u.lf i=bv lf i
   ·show same n t (ov he)
   ·show .inr ?_
    obtain ⟨i,b,e1,hp,eR⟩:∃i b,bs[i]?=À b/\pk n t b=Æ/\bv u.lf i≠bv lf i:=abK λq=>he λi b e1 e2=>abK λz=>q ⟨i,b,e1,e2,z⟩;have hi:i∈bE bs lf O dy:=abK λq=>eR (T.out i q);have hp:=Ņ.mp hp;have hn:n=O:=vo (mem hi) λc q1 q2 y y=>(beq_iff_eq.mp hp.1).symm.trans ((Option.some.inj (e1.symm.trans q1))▸q2);have ht:¬ t<dy:=λq=>hc ⟨hn,q⟩;show⟨z' hd (ľ.mp ht),λj c f1 f2 f3=>ip j c f1 (f2.trans hn) (by show y3 0xc2010b1013b12 rfl (iL (ľ.mp ht)) f3) λh0=>T.ord j (j7.mpr (pK.mpr ⟨c,f1,f2.trans hn,by show y3 0xc2010b1013b12 rfl (iL (ľ.mp ht)) f3,h0⟩)) i hi (.inl ?_) eR⟩;unfold GI;rw[f1,e1];show c.l<b.l;rw[f3];show of_decide_eq_true hp.2
end HC_takeH
theorem HC.take:mw bs lf D O am dy:=hk (P:=U6 mw) HC_takeH.kt (bs,lf,D,O,am,dy)
theorem HC.fail{bs:List cF}{lf:List Int}{D:Str->Nat->Int}(I:HC bs lf D){O:Str}:∀{dy:Nat},1<=dy->(∀i b,bs[i]?=À b->b.n=O->(dy:Int)<=b.l->bv lf i=0)->∃t,t<dy/\f8 bs O t=D O t
 |t+1,_,hz=>by have e:s0 (pk O t) bs lf=0:=(ov λi b h1 h2=>hz i b h1 (beq_iff_eq.mp (Ņ.mp h2).1) (of_decide_eq_true (Ņ.mp h2).2)).trans (uB _ _);show â (I.ex O t) (λq=>⟨t,ű t,by show ņ (y3 0xc1212b08013b2a01 N e q) (y3 0xc2113b08012b2a01 N e q)⟩) λq=>aF (I.fail q.1 λi b h1 h2 h3=>â (ae1 h3) (λz=>hz i b h1 h2 z) λz=>q.2 i b h1 h2 z.symm) λu h1 h2=>⟨u,acf h1,h2⟩
theorem mC(p:Str×Int)(l:List (Str×Int))(n:Str):gM (p::l) n=(if n=p.1 then p.2 else 0)+gM l n:=by
 unfold gM;by_cases h:n=p.1
 ·rw[if_pos h,List.filter_cons_of_pos (by rw[h];show beq_self_eq_true _),Œ,aU]
 ·rw[if_neg h,List.filter_cons_of_neg (by intro q;show h (beq_iff_eq.mp q).symm),ť]
theorem qc{n:Str}:∀{l:List (Str×Int)},(∀p∈l,0<=p.2)->0<=gM l n
 |[],_=>Ĭ _
 |p::l,h=>by
  have h1:=h p G';have h2:=qc (n:=n) λq hq=>h q (J' _ hq);rw[mC];show ϟ ?_ h2;split
  ·show h1
  ·show Ĭ 0
theorem Po{bs:List cF}{dy:Nat}(hd:1<=dy)(ns:List (Str×Int)):∀{st:List Int×List (Nat×Int)} {D:Str->Nat->Int},HC bs st.1 D->(∀p∈ns,0<=p.2) ->
  (∀aS,dp (IJ bs dy) st ns=.ok aS->HC bs aS.1 λn t=>D n t+if t<dy then gM ns n else 0)/\∀e,dp (IJ bs dy) st ns=.error e->(∃t,t<dy/\f8 bs e t<D e t+gM ns e)/\∃a,(e,a)∈ns:=by
 induction ns with
 |nil=>show λ{st D} I _=>⟨λaS h=>by
   injection h with h;subst h
   have:(λn t=>D n t+if t<dy then gM [] n else 0)=D:=by funext n t;show D n t+(if t<dy then (0:Int) else 0)=_;rw[ite_self,Ť]
   rw[this];show I,λe h=>nomatch h⟩
 |cons p ns IH=>
  intro st D I hp;have h0:=hp p G';have hn:=λq hq=>hp q (J' _ hq);show io (I.take (O:=p.1) (am:=p.2) hd) λI1 h1 h2=>?_;have h1:=h1 h0;unfold dp IJ;by_cases hb:0<(pD bs st.1 p.1 p.2 dy).am
  ·rw[if_pos hb]
   show⟨(λy h=>nomatch h),λe h=>?_⟩;injection h with h;subst h
   show⟨aF (I1.fail hd (h2 hb)) λt ht e=>⟨t,ht,?_⟩,p.2,G'⟩;rw[if_pos ⟨N,ht⟩]at e;have:=qc (n:=p.1) hn;rw[e,mC,if_pos N];show y4 0x1caa132ae03211b00810b108 N hb this
  ·rw[if_neg hb]
   dsimp only;rw[show (pD bs st.1 p.1 p.2 dy).am=0 by show ņ (y1 0xc08015b008 rfl hb) (y1 0xc00810b008 rfl h1),afI]at I1;have ih:=IH (st:=((pD bs st.1 p.1 p.2 dy).lf,st.2++(pD bs st.1 p.1 p.2 dy).ps)) I1 hn;show⟨λaS h=>?_,λe h=>?_⟩
   ·have:=ih.1 aS h
    have q:(λn t=>D n t+if t<dy then gM (p::ns) n else 0)=λn t=>D n t+(if n=p.1/\t<dy then p.2 else 0)+if t<dy then gM ns n else 0:=by
     funext n t
     rw[mC];by_cases a:n=p.1<;>by_cases b:t<dy<;>simp [a,b]<;>show ņ (y3 0xca2a10aa210 rfl) (y3 0xcaa210a2a10 rfl)
    rw[q];show this
   ·show aP (ih.2 e h) λq1 q2=>⟨aF q1 λt ht q=>⟨t,ht,?_⟩,q2.elim λa ha=>⟨a,J' _ ha⟩⟩
    rw[mC];by_cases a:e=p.1
    ·rw[if_pos ⟨a,ht⟩]at q;rw[if_pos a];show y4 0x1caa321011ba3a210 N q
    ·rw[if_neg λz=>a z.1]at q;rw[if_neg a];show y3 0x1caa2081011ba2a0810 N q
def bo.nn(x:bo):Prop:=∀p∈x.ns,0<=p.2
def eW(n:Str)(t:Nat)(x:bo):Int:=if t<x.d then gM x.ns n else 0
def lN(ds:List bo)(n:Str)(t k:Nat):Int:=((ds[k]?).map (eW n t)).getD 0
theorem Jr{bs:List cF}{ds:List bo}(hd:∀x∈ds,x.ok/\x.nn)(o:List Nat):∀{st:LN} {D:Str->Nat->Int},HC bs st.1 D ->
  (∀aS,dp (sH bs ds) st o=.ok aS->HC bs aS.1 λn t=>D n t+aX (o.map (lN ds n t)))/\∀e,dp (sH bs ds) st o=.error e->(∃t,t<7/\f8 bs e t<D e t+aX (o.map (lN ds e t)))/\∃x∈ds,∃a,(e,a)∈x.ns:=by
 induction o with
 |nil=>show λ{st D} I=>⟨λaS h=>by
   injection h with h;subst h
   have:(λn t=>D n t+aX (([]:List Nat).map (lN ds n t)))=D:=by funext n t;show Ť _
   rw[this];show I,λe h=>nomatch h⟩
 |cons k o IH=>
  intro st D I
  have pos:∀n t,0<=aX (o.map (lN ds n t)):=λn t=>by
   clear IH
   induction o with
   |nil=>show Ĭ _
   |cons j o ih=>
    rw[Œ,aU];show ϟ ?_ ih;unfold lN eW;cases e:ds[j]? with
    |none=>show Ĭ _
    |some x=>
     show 0<=if t<x.d then gM x.ns n else 0;split
     ·show qc (hd x (Ĥ e)).2
     ·show Ĭ _
  unfold dp sH;cases ek:ds[k]? with
  |none=>
   dsimp only;have ih:=IH I
   have q:∀n t,aX ((k::o).map (lN ds n t))=aX (o.map (lN ds n t)):=λn t=>by rw[Œ,aU];unfold lN;rw[ek];show ť _
   show⟨λaS h=>?_,λe h=>?_⟩
   ·simp only[q];show ih.1 aS h
   ·simp only[q];show ih.2 e h
  |some x=>
   have hx:=hd x (Ĥ ek)
   have q:∀n t,aX ((k::o).map (lN ds n t))=eW n t x+aX (o.map (lN ds n t)):=λn t=>by
    rw[Œ,aU]
    congr 1
    unfold lN;rw[ek];rfl
   dsimp only;have pzJ:=Po hx.1.1 x.ns (st:=(st.1,[])) I hx.2;cases hf:dp (IJ bs x.d) (st.1,[]) x.ns with
   |error e'=>
    show⟨(λy h=>nomatch h),λe h=>?_⟩;injection h with h;subst h
    show aP (pzJ.2 e' hf) λq1 q2=>⟨aF q1 λt ht z=>⟨t,Į ht hx.1.2.1,?_⟩,x,Ĥ ek,q2⟩;have:=pos e' t;rw[q];unfold eW;rw[if_pos ht];show y4 0x1caa321011ba21010b308 N z this
   |ok p=>
    dsimp only;have ih:=IH (st:=(p.1,st.2.set k p.2)) (pzJ.1 p hf);show⟨λaS h=>?_,λe h=>?_⟩
    ·simp only[q,<-Ż];show ih.1 aS h
    ·simp only[q,<-Ż];show ih.2 e h
theorem HZ{l m:List Int}(h:l.Perm m):aX l=aX m:=by
 induction h with
 |nil=>rfl
 |cons x _ ih=>rw[aU,aU,ih]
 |swap x y l=>rw[aU,aU,aU,aU];show ņ (y3 0xcaa201aa210 N) (y3 0xcaa201aa210 N)
 |trans _ _ h1 h2=>show h1.trans h2
theorem kQ{α:Type}{p:α->Bool}{f:α->Int}:∀l:List α,aX ((l.filter p).map f)=aX (l.map λx=>if p x then f x else 0)
 |[]=>rfl
 |x::l=>by
  rw[Œ,aU,aev,<-kQ l];cases p x with
  |true=>show aU _ _
  |false=>show(ť _).symm
theorem AS(ds:List bo)(n:Str)(t:Nat):wx ds n t=aX (ds.map (eW n t)):=by
 unfold wx;rw[kQ];show congrArg aX (ŭ λx z=>?_);unfold eW;by_cases h:t<x.d
 ·rw[if_pos h,if_pos (decide_eq_true h)]
 ·rw[if_neg h,if_neg (by rw[decide_eq_true_iff];show h)]
theorem I9{ds:List bo}(hd:∀x∈ds,x.ok)(n:Str)(t:Nat):aX ((m9 ds).map (lN ds n t))=wx ds n t:=by
 have e:(Đ ds.length).map (lN ds n t)=ds.map (eW n t):=by
  show aem λi=>?_;rw[Ħ,Ħ];by_cases h:i<ds.length
  ·rw[ϸ h,N' h]
   show À (lN ds n t i)=_;unfold lN;rw[N' h];rfl
  ·rw[ϳ (by rw[Ŗ];show ľ.mp h),ϳ (ľ.mp h)];rfl
 have nd:(m9 ds).Nodup:=(zX ds).imp λh q=>by subst q;show h.elim (λd0=>zI (y1 0x1c080811b00 N (iT d0))) λd0=>zI (y1 0x1c080811b00 N (iT d0.2))
 rw[HZ (((aed nd adk).mpr λk=>(uN hd).trans ń.symm).map _),e,AS]
theorem YL{bs:List cF}(hb:∀b∈bs,0<=b.a):HC bs (bs.map cF.a) λz z=>0:=by
 have e:∀(bs:List cF) O t,s0 (pk O t) bs (bs.map cF.a)=f8 bs O t:=λbs O t=>by
  unfold f8;rw[kQ]
  induction bs with
  |nil=>rfl
  |cons b bs ih=>rw[Œ,Œ,aU,<-ih];rfl
 show⟨H' _,λi=>?_,λO t=>?_,λO t=>.inl ?_⟩
 ·unfold bv
  rw[Ħ];cases h:bs[i]? with
  |none=>show Ĭ _
  |some b=>show hb b (Ĥ h)
 ·rw[e,ť];show Ĭ _
 ·rw[e,ť]
theorem Js{bs:List cF}{ds:List bo}(hb:∀b∈bs,0<=b.a)(hd:∀x∈ds,x.ok/\x.nn):
  (∀st,wa bs ds=.ok st->∀O t,wx ds O t<=f8 bs O t)/\∀e,wa bs ds=.error e->(∃t,t<7/\f8 bs e t<wx ds e t)/\∃x∈ds,∃a,(e,a)∈x.ns:=by
 have C:=Jr hd (m9 ds) (st:=Ei bs ds) (YL hb);have a:=I9 λx hx=>(hd x hx).1
 simp only[a,ť]at C
 show⟨λst h O t=>?_,C.2⟩;have I:=C.1 st h;have h1:=I.le O t;have h2:=km (p:=pk O t) (bs:=bs) (lf:=[]) λi b z z=>I.nn i;rw[uB]at h2;show y3 0xc2010b2a1010b108 N h1 h2
structure PY{α:Type}(f:α->V)(P:α->Prop)(iK:ag)(q n:Nat)(xs:List α)(H:ag):Prop where
 k:aE iK H
 b:H[q]?=À (.lst (xs.map f))
 l:xs.length=n
 ok:∀x∈xs,P x
def T4{α:Type}(f:α->V)(P:α->Prop)(iK:ag)(q n:Nat)(L:aM)(fl:cA)(U:aM)(H:ag):Prop:=fl=.next/\Le L U/\∃xs,PY f P iK q n xs H
section
variable{α:Type}{Á:aw}{aD:fx}{U L:aM}{H iK Î:ag}{Q:cA->aM->ag->Prop}{f:α->V}{P:α->Prop}{q n j:Nat}{xs:List α}
theorem W.build{it:jq}{body:fx}{i:Nat}(f:α->V)(P:α->Prop)(q:Nat)(hs:cE Á it U H=À (cy 0 n 1,[],Î))(hl:Le L U)(hk:aE iK Î)(h0:Î[q]?=À (.lst []))
  (step:∀j xs ae,j<n->PY f P iK q j xs ae->W Á body (cR L i (.int j)) ae (T4 f P iK q (j+1) L))
  (k:∀xs ae,PY f P iK q n xs ae->W Á aD L ae Q):W Á (.cons (.for_ (.one i) it body) aD) U H Q:=by
 show W.loop hs (λj U ae=>U=L/\∃xs,PY f P iK q j xs ae) hl ⟨N,[],hk,h0,N,λz h=>nomatch h⟩ (λz z z z=>bx _) (λj x SV bi hx h=>?_) λSV bi h=>?_
 ·show aP (l7 hx) λhj e=>?_;apply ba e
  show aP h λe h=>?_;apply ba e;show⟨_,N,h.elim λxs I=>W.mono (step j xs bi hj I) λfl aT ae q=>⟨q.1,L,q.2.1,N,q.2.2⟩⟩
 ·rw[l9]at h
  show aP h λe h=>?_;apply ba e;show h.elim λxs I=>k xs bi I
theorem W.lay{o e:CE}(x:α)(I:PY f P iK q j xs H)(hq:iK.length<=q)(ho:ab Á o U H=À (.ref q,H))(he:ab Á e U H=À (f x,Î))(K:aE H Î)(hP:P x)(hz:j<=1000)(hl:Le L U):
  W Á (.cons (.expr (.meth .append o (.cons e .nil))) .nil) U H (T4 f P iK q (j+1) L):=by
 have hb:=K _ _ I.b;show W.append q (xs.map f) (f x) Î ho I.b he hb (by rw[H',I.l];show z' hz (by decide)) (W.nil ⟨N,hl,xs++[x],(I.k.trans K).set hq,?_,by rw[Ā,I.l];rfl,λy hy=>?_⟩)
 ·rw[fu hb,ŝ];rfl
 ·show â (ğ.mp hy) (I.ok y) λh=>W'.mp h▸hP
end
section
variable{d r q m j:Nat}{H:ag}{U:aM}{cs:List Int}{aO:Int}
theorem Oq{a b y:Int}{e:CE}(hr:H[r]?=À (.lst (cs.map .int)))(g0:U 0=À (.ref r))(g4:U 4=À (.int j))(hb:0<b)(ha:0<=a)(Mx:a+b<=100)(hy:y.natAbs<1000000)(he:ab (az PP (d+1)) e U H=À (.int y,H)):
  ∃c:Int,ab (az PP (d+1)) (.call 23 (.cons (.call 22 (.cons (.var 0) (.cons (.bin .Add (.cst (.int a)) (.bin .Mod (.var 4) (.cst (.int b)))) .nil))) (.cons e .nil))) U H=À (.int c,H):=by
 have hm:=bG (a:=(j:Int)) hb;show⟨_,af (aA (af (aA (aC g0) (al (aJ N (aJ (aC g4) N (dz (by show λq0=>zI (y1 0x1c080811b00812b080 N hb q0)))) N))) (lQ N hr _ ((Int.toNat_lt' (by decide)).mpr (ab9 (ad8 hm.2 a) (Ċ Mx (by decide)))) (by show ņ (y3 0xc2a1010b2a10 N (aen _)) (y3 0xca21012ba210 N (ϥ (y2 0xca100810b00810b108 N ha hm.1)))))) (al he)) (ie N _ _ (by show jT (y1 0x1c00010000000000000000d011b000000000000000f4240d0 N (iT hy))))⟩
theorem zO{i0:Nat}{c:Int}(qG:1<=m)(hm:m<=12)(hq:H[q]?=À (.lst [.int aO,.int m]))(g1:U 1=À (.ref q))(g5:U i0=À (.int c)):
  ∃O ae,ab (az PP (d+1)) (.call 26 (.cons (.idx (.var 1) (.cst (.int 0))) (.cons (.bin .Mod (.bin .Mod (.var i0) (.cst (.int 60))) (.idx (.var 1) (.cst (.int 1)))) .nil))) U H=À (.str O,ae)/\aE H ae/\∃k,k<12/\O=gI aO k:=G4 N qG hm hq g1 g5
abbrev gL(r q p:Nat):aM:=cw [À (.ref r),À (.ref q),Ã,À (.ref p)]
theorem GO(hr:H[r]?=À (.lst (cs.map .int)))(hq:H[q]?=À (.lst [.int aO,.int m]))(qG:1<=m)(hm:m<=12)(n:Nat)(hn:n<=200):
  ∃(bs:List cF) (ae:ag),az PP (d+2) 30 [.ref r,.ref q,.int n] H=À (.ok (.tup (bs.map cF.v)),ae)/\aE H ae/\bs.length=n/\∀b∈bs,0<=b.a:=by
 obtain ⟨v,ae,h,bs,rfl,h1⟩:=fh (R:=λv ae=>∃bs:List cF,v=.tup (bs.map cF.v)/\aE H ae/\bs.length=n/\∀b∈bs,0<=b.a) (P:=PP) (k:=30) rfl (as:=[.ref r,.ref q,.int n]) rfl (by
  show W.set (v:=.ref H.length) (Î:=H++[.lst []]) N (W.build (L:=gL r q H.length) cF.v (λb=>0<=b.a) H.length (cM N (by show jL (y1 0xc0000000000003b9aca00d010b00c890 N (iL hn)))) (ar ⟨N,N,N,trivial⟩) (aE.app _ _) (aB _ _) (λj bs bi hj I=>?_) λbs bi I=>?_)
  ·show ä (Oq (d:=d) (a:=23) (b:=10) (U:=cR (gL r q H.length) 4 (.int j)) (e:=.bin .Add (.cst (.int 40)) (.var 4)) (I.k _ _ hr) N N (by decide) (by decide) (by decide) (mB (ϟ (by decide) (Ĕ j)) (ab9 (ad8 (Ř.mpr (Į hj hn)) 40) (by decide))) N) λc e1=>W.set e1 (W.set (af N (ie N _ _ (by show jT (y2 0x1c00010000000000000000d110b00c89011b01 N (iL hn) (iT hj))))) ?_)
   generalize uG c j=sm;show fe (zO (d:=d) (U:=cR (cR (cR (gL r q H.length) 4 (.int j)) 5 (.int c)) 6 (.int sm)) (i0:=5) qG hm (I.k _ _ hq) N N) λO dG e2 k2 z=>W.lay (⟨O,gK (c.fdiv 60) 200,sV sm⟩:cF) I (ē _) N (cC (aA e2 (aA (af N (j5 N _ _ (by decide))) (al (af N (sW N _))))) (show 3<=ax by decide)) k2 ?_ (Ģ (Į hj (z' hn (by decide)))) (ar ⟨N,N,N,trivial⟩);have:=iV (c.fdiv 60);show Ċ (by decide) this.1
  ·show W.retE (aL N (bB I.b (by rw[H',I.l];show z' hn (by decide)))) ⟨_,N,bs,N,I.k,I.l,I.ok⟩)
 show⟨bs,ae,h,h1⟩
def Pk.okP(p:Pk):Prop:=(1<=p.a/\p.a<=200)/\0<=p.p
theorem KL(hr:H[r]?=À (.lst (cs.map .int)))(hq:H[q]?=À (.lst [.int aO,.int m]))(qG:1<=m)(hm:m<=12)(n:Nat)(hn:n<=200):
  ∃(bs:List Pk) (ae:ag),az PP (d+2) 32 [.ref r,.ref q,.int n] H=À (.ok (.tup (bs.map Pk.v)),ae)/\aE H ae/\bs.length=n/\∀b∈bs,b.okP:=by
 obtain ⟨v,ae,h,bs,rfl,h1⟩:=fh (R:=λv ae=>∃bs:List Pk,v=.tup (bs.map Pk.v)/\aE H ae/\bs.length=n/\∀b∈bs,b.okP) (P:=PP) (k:=32) rfl (as:=[.ref r,.ref q,.int n]) rfl (by
  show W.set (v:=.ref H.length) (Î:=H++[.lst []]) N (W.build (L:=gL r q H.length) Pk.v Pk.okP H.length (cM N (by show jL (y1 0xc0000000000003b9aca00d010b00c890 N (iL hn)))) (ar ⟨N,N,N,trivial⟩) (aE.app _ _) (aB _ _) (λj bs bi hj I=>?_) λbs bi I=>?_)
  ·show ä (Oq (d:=d) (a:=33) (b:=10) (U:=cR (gL r q H.length) 4 (.int j)) (e:=.bin .Add (.cst (.int 80)) (.var 4)) (I.k _ _ hr) N N (by decide) (by decide) (by decide) (mB (ϟ (by decide) (Ĕ j)) (ab9 (ad8 (Ř.mpr (Į hj hn)) 80) (by decide))) N) λc e1=>W.set e1 (W.set (af N (ie N _ _ (show j+1<18446744073709551616 from Į (adi (Į hj hn)) (by decide)))) ?_)
   generalize uG c (j+1)=sm;show fe (zO (d:=d) (U:=cR (cR (cR (gL r q H.length) 4 (.int j)) 5 (.int c)) 6 (.int sm)) (i0:=5) qG hm (I.k _ _ hq) N N) λO dG e2 k2 z=>W.set e2 (W.lay (⟨O,gK (c.fdiv 60) 200,zY sm,sV (sm.fdiv 997)⟩:Pk) ⟨I.k.trans k2,k2 _ _ I.b,I.l,I.ok⟩ (ē _) N (cC (aA N (aA (af N (j5 N _ _ (by decide))) (aA (af N (Hf N _)) (al (af N (sW N _)))))) (show 4<=ax by decide)) (aE.refl _) ⟨iV (c.fdiv 60),Py _⟩ (Ģ (Į hj (z' hn (by decide)))) (ar ⟨N,N,N,trivial⟩))
  ·show W.retE (aL N (bB I.b (by rw[H',I.l];show z' hn (by decide)))) ⟨_,N,bs,N,I.k,I.l,I.ok⟩)
 show⟨bs,ae,h,h1⟩
def G5(aO:Int)(p:Str×Int):Prop:=(∃k,k<12/\p.1=gI aO k)/\1<=p.2/\p.2<=201
def bo.okA(aO:Int)(x:bo):Prop:=x.ok/\∀p∈x.ns,G5 aO p
abbrev nL(r q p:Nat)(c:Int)(u:Nat):aM:=cw [À (.ref r),À (.ref q),Ã,À (.ref p),Ã,À (.int c),À (.ref u)]
theorem Fp(hr:H[r]?=À (.lst (cs.map .int)))(hq:H[q]?=À (.lst [.int aO,.int m]))(qG:1<=m)(hm:m<=12)(n:Nat)(hn:n<=200):
  ∃(ds:List bo) (ae:ag),az PP (d+2) 29 [.ref r,.ref q,.int n] H=À (.ok (.tup (ds.map bo.v)),ae)/\aE H ae/\ds.length=n/\∀x∈ds,x.okA aO:=by
 obtain ⟨v,ae,h,bs,rfl,h1⟩:=fh (R:=λv ae=>∃ds:List bo,v=.tup (ds.map bo.v)/\aE H ae/\ds.length=n/\∀x∈ds,x.okA aO) (P:=PP) (k:=29) rfl (as:=[.ref r,.ref q,.int n]) rfl (by
  show W.set (v:=.ref H.length) (Î:=H++[.lst []]) N (W.build (L:=gL r q H.length) bo.v (bo.okA aO) H.length (cM N (by show jL (y1 0xc0000000000003b9aca00d010b00c890 N (iL hn)))) (ar ⟨N,N,N,trivial⟩) (aE.app _ _) (aB _ _) (λj ds bi hj I=>?_) λbs bi I=>?_)
  ·show ä (Oq (d:=d) (a:=3) (b:=20) (U:=cR (gL r q H.length) 4 (.int j)) (e:=.var 4) (I.k _ _ hr) N N (by decide) (by decide) (by decide) (by show jT (y2 0x1c000000000000000f4240d110b00c89011b01 N (iL hn) (iT hj))) N) λc e1=>W.set e1 (W.set (v:=.ref bi.length) (Î:=bi++[.lst []]) N (aF (fm (a:=c.fdiv 7) (b:=4) (by decide)) λt1 f1 l1=>aF (fm (a:=c.fdiv 7) (b:=21) (by decide)) λt2 f2 l2=>?_))
   have hc:∃t:Nat,t<=20/\ab (az PP (d+1)) (.idx (.list (.cons (.bin .Mod (.bin .FloorDiv (.var 5) (.cst (.int 7))) (.cst (.int 4))) (.cons (.bin .Mod (.bin .FloorDiv (.var 5) (.cst (.int 7))) (.cst (.int 21))) .nil))) (.prim .int (.cons (.and (.cmp .Eq (.bin .Mod (.bin .FloorDiv (.var 5) (.cst (.int 147))) (.cst (.int 40))) (.cst (.int 0))) (.cmp .Lt (.var 4) (.cst (.int 2)))) .nil))) (cR (cR (cR (gL r q H.length) 4 (.int j)) 5 (.int c)) 6 (.ref bi.length)) (bi++[.lst []])=À (.int t,bi++[.lst []]++[.lst [.int ((c.fdiv 7).fmod 4),.int ((c.fdiv 7).fmod 21)]]):=by
    have el:=cJ (Á:=az PP (d+1)) (U:=cR (cR (cR (gL r q H.length) 4 (.int j)) 5 (.int c)) 6 (.ref bi.length)) (H:=bi++[.lst []]) (es:=.cons (.bin .Mod (.bin .FloorDiv (.var 5) (.cst (.int 7))) (.cst (.int 4))) (.cons (.bin .Mod (.bin .FloorDiv (.var 5) (.cst (.int 7))) (.cst (.int 21))) .nil)) (vs:=[.int ((c.fdiv 7).fmod 4),.int ((c.fdiv 7).fmod 21)]) rfl (show 2<=ax by decide);obtain ⟨b,hb⟩:∃b,ab (az PP (d+1)) (.and (.cmp .Eq (.bin .Mod (.bin .FloorDiv (.var 5) (.cst (.int 147))) (.cst (.int 40))) (.cst (.int 0))) (.cmp .Lt (.var 4) (.cst (.int 2)))) (cR (cR (cR (gL r q H.length) 4 (.int j)) 5 (.int c)) 6 (.ref bi.length)) (bi++[.lst []]++[.lst [.int ((c.fdiv 7).fmod 4),.int ((c.fdiv 7).fmod 21)]])=À (.bool b,_):=⟨_,jy rfl rfl⟩;cases b with
    |true=>show⟨t2,by show jL (y1 0xc00149011b001590 N l2),br _ 1 _ _ el (aL (al hb) N) (aB _ _) (by decide) (by rw[<-f2];rfl)⟩
    |false=>show⟨t1,by show jL (y1 0xc00149011b480 N l1),br _ 0 _ _ el (aL (al hb) N) (aB _ _) (by decide) (by rw[<-f1];rfl)⟩
   show aF hc λt ht e2=>W.set e2 ?_;have hK:aE bi (bi++[.lst []]++[.lst [.int ((c.fdiv 7).fmod 4),.int ((c.fdiv 7).fmod 21)]]):=(aE.app _ _).trans (aE.app _ _);have hN:=aE.app (bi++[.lst []]) [.lst [.int ((c.fdiv 7).fmod 4),.int ((c.fdiv 7).fmod 21)]] _ _ (aB bi (.lst []));generalize bi++[.lst []]++[.lst [.int ((c.fdiv 7).fmod 4),.int ((c.fdiv 7).fmod 21)]]=dG at hK hN;show W.build (L:=nL r q H.length c bi.length) Bh (G5 aO) bi.length (cM N (by show jL (y1 0xc0000000000003b9aca00d010b001490 N (iL ht)))) (ar ⟨N,N,N,N,N,trivial⟩) hK hN (λi ns dY hi ó=>?_) λns dY ó=>?_
   ·show W.set (af N (ie N _ _ (show i+1<18446744073709551616 from Į (adi (Į hi ht)) (by decide)))) ?_
    generalize uG (c.fdiv 28) (i+1)=sm;show W.set N ?_
    have Yh:∀(am:Int) (U:aM),1<=am/\am<=201->Le (nL r q H.length c bi.length) U->U 9=À (.int sm)->U 10=À (.int am)->W (az PP (d+1)) (.cons (.expr (.meth .append (.var 6) (.cons (.tuple (.cons (.call 26 (.cons (.idx (.var 1) (.cst (.int 0))) (.cons (.bin .Mod (.bin .Mod (.var 9) (.cst (.int 60))) (.idx (.var 1) (.cst (.int 1)))) .nil))) (.cons (.var 10) .nil))) .nil))) .nil) U dY (T4 Bh (G5 aO) bi bi.length (i+1) (nL r q H.length c bi.length)):=λam U ha hl g9 Y1=>by show fe (zO (d:=d) qG hm (ó.k _ _ (I.k _ _ hq)) (hl 1 _ N) g9) λO nT e3 k4 MH=>W.lay (O,am) ó (ē _) (aC (hl 6 _ N)) (cC (aA e3 (al (aC Y1))) (show 2<=ax by decide)) k4 ⟨MH,ha⟩ (by show jL (y2 0xc03e89110b00149011b01 N (iL ht) (iT hi))) hl
    show W.if_ (fE N N) (λz=>?_) λz=>W.nil ?_
    ·show W.set (af N (j5 N _ _ (by decide))) (W.nil (Yh _ _ ?_ (ar ⟨N,N,N,N,N,trivial⟩) N N))
     have:=iV (sm.fdiv 28800);show⟨y1 0xc01810b018 N this.1,y1 0xc00c99010b00c890 N this.2⟩
    ·show Yh _ _ ?_ (ar ⟨N,N,N,N,N,trivial⟩) N N
     have:=bG (a:=sm.fdiv 60) (b:=12) (by decide);show⟨y1 0xca0181810b008 N this.1,y1 0xc00c99a01811bc80 N this.2⟩
   ·show aF (fm (a:=c) (b:=7) (by decide)) λdy f3 l3=>W.lay (⟨1+dy,ns⟩:bo) ⟨I.k.trans ó.k,ó.k _ _ I.b,I.l,I.ok⟩ (ē _) N (cC (aA (by show À (V.int (1+c.fmod 7),dY)=_;rw[f3];rfl) (al (aL N (bB ó.b (by rw[H',ó.l];show z' ht (by decide)))))) (show 2<=ax by decide)) (aE.refl _) ⟨⟨?_,?_,?_⟩,ó.ok⟩ (by show jL (y2 0xc03e89110b00c89011b01 N (iL hn) (iT hj))) (ar ⟨N,N,N,trivial⟩)
    ·show 1<=1+dy;show jL (y2 0xc11810b00813ba0181 N (iP _) (iA _ _))
    ·show 1+dy<=7;show jL (y2 0xc78111b78012ba0181 N l3 (iA _ _))
    ·show ns.length<=20;rw[ó.l];show ht
  ·show W.retE (aL N (bB I.b (by rw[H',I.l];show z' hn (by decide)))) ⟨_,N,bs,N,I.k,I.l,I.ok⟩)
 show⟨bs,ae,h,h1⟩
end
section
variable{Á:aw}{aD:fx}{U:aM}{H Î:ag}{Q:cA->aM->ag->Prop}
theorem W.acc{α:Type}{e:CE}{body:fx}{i:Nat}{xs:List α}{v:α->V}(B:Int->aM)(g:α->Int)(hs:ab Á e U H=À (.tup (xs.map v),H))(z:Int)(hl:Le (B z) U)
  (step:∀x∈xs,∀z ae,aE H ae->W Á body (cR (B z) i (v x)) ae λfl aT il=>fl=.next/\Le (B (z+g x)) aT/\aE H il) (k:∀ae,aE H ae->W Á aD (B (z+aX (xs.map g))) ae Q):W Á (.cons (.for_ (.one i) (.ex e) body) aD) U H Q:=by
 show W.loop (dh hs) (λj U ae=>U=B (z+aX ((xs.take j).map g))/\aE H ae) hl ⟨congrArg B (Ť z).symm,aE.refl _⟩ (λt t t t=>bx _) (λj y SV bi hy q1=>?_) λSV bi q1=>?_
 ·show aP q1 λq1 hK=>?_;apply ba q1
  show aF (uD hy) λx hx q3=>?_;apply ba q3;show⟨_,N,W.mono (step x (Ĥ hx) _ bi hK) λfl aT ae q=>⟨q.1,_,q.2.1,?_,q.2.2⟩⟩;rw[bn hx,ŝ,List.map_singleton,tq,Ż]
 ·show aP q1 λq1 hK=>?_;apply ba q1
  rw[H',ŗ];show k bi hK
end
section
variable{d r q m j:Nat}{H:ag}{U:aM}{cs:List Int}{aO:Int}{ds:List bo}
theorem bo.okA.nn{x:bo}(h:x.okA aO):x.nn:=λp hp=>Ċ (by decide) (h.2 p hp).2.1
theorem BG:∀{l:List Int},(∀x∈l,0<=x)->0<=aX l
 |[],_=>Ĭ _
 |x::l,h=>by rw[aU];show ϟ (h x G') (BG λy hy=>h y (J' _ hy))
theorem PU(hd:∀x∈ds,x.okA aO)(O:Str):0<=aX (ds.map (eW O 0)):=BG λy hy=>by
 show aF (ş.mp hy) λx hx e=>?_;apply fQ e;unfold eW;split
 ·show qc (hd x hx).nn
 ·show Ĭ _
theorem xc(hd:∀x∈ds,x.okA aO)(O:Str):∃ae,az PP (d+1) 36 [.tup (ds.map bo.v),.str O] H=À (.ok (.int (aX (ds.map (eW O 0)))),ae)/\aE H ae:=by show fe (fh (R:=λv ae=>v=.int (aX (ds.map (eW O 0)))/\aE H ae) (P:=PP) (k:=36) (H:=H) (d:=d) N (as:=[.tup (ds.map bo.v),.str O]) N (W.set N (W.acc (λz=>cw [Ã,À (.str O),À (.int z)]) (eW O 0) N 0 (ar ⟨N,N,trivial⟩) (λx hx z bi hK=>?_) λbi hK=>W.retE N ⟨_,N,congrArg V.int (ť _),hK⟩))) λv ae h q k=>⟨ae,q▸h,k⟩;have pM:=hd x hx;have hs:=jm (Á:=az PP d) (elt:=xu 4 1) (t:=.one 4) (it:=.ex (xu 3 1)) (ifs:=a1 (xE (xu 4 0) (xv 1))) (U:=cR (cw [Ã,À (.str O),À (.int z)]) 3 x.v) (H:=bi) (p:=λp:Str×Int=>p.1==O) (f:=Prod.snd) (dh N) (bx _) (z' pM.1.2.2 (by decide)) λp hp=>⟨_,N,nI N,λy=>rfl⟩;show W.set (v:=.int (z+gM x.ns O)) (aJ N hs N) (W.nil ⟨N,?_,hK.trans (aE.app _ _)⟩);rw[show eW O 0 x=gM x.ns O from if_pos pM.1.1];show ar ⟨N,N,trivial⟩
theorem PK{l:List V}{a:Nat}(h:a<=l.length)(hl:l.length<=1000):xm (.tup l) .none (.int a) H=À (.tup (l.take a),H):=by show ((m6 V.none).bind λi=>(kZ l.length (.int a)).bind λj=>rc H (oQ l i j))=_;rw[mS (Ye (z' h hl)),ĭ,adf h];show if_pos (z' (tQ l 0 a) (z' hl (by decide)))
theorem u1{l:List V}{a:Nat}(h:a<=l.length)(hl:l.length<=1000):xm (.tup l) (.int a) .none H=À (.tup (l.drop a),H):=by
 show ((m6 (.int a)).bind λi=>(kZ l.length .none).bind λj=>rc H (oQ l i j))=_;rw[qN (Ye (z' h hl)),ĭ];have:oQ l a l.length=l.drop a:=by unfold oQ;rw[ŗ]
 show rc H (oQ l a l.length)=_;rw[this];show if_pos (z' (by rw[ϻ];show Ś _ _) (z' hl (by decide)))
theorem IY{a b:List V}(h:a.length+b.length<=1000):oN .Add (.tup a) (.tup b) H=À (.tup (a++b),H):=if_pos (by rw[Ā];show z' h (by decide))
end
def pS(d:Nat)(H:ag)(aO:Int)(ds:List bo)(k:Nat)(c:Int):Prop:=∀(hd:∀x∈ds,x.okA aO) (hl:ds.length<=24) (hk:k<12),∃(Fu:List bo) (ae:ag),az PP (d+2) 47 [.tup (ds.map bo.v),.str (gI aO k),.int c] H=À (.ok (.tup (Fu.map bo.v)),ae)/\aE H ae/\Fu.length<=26/\∀x∈Fu,x.okA aO
namespace near11H
def kc:=hc (U6 pS) (0,[],0,[],0,0)
def d:=kc.1
def H:=kc.2.1
def aO:=kc.2.2.1
def ds:=kc.2.2.2.1
def k:=kc.2.2.2.2.1
def c:=kc.2.2.2.2.2
theorem kt:pS d H aO ds k c:=by
 intro hd hl hk;generalize hn:gI aO k=O
 obtain ⟨v,ae,h,Fu,rfl,h1⟩:=fh (R:=λv ae=>∃Fu:List bo,v=.tup (Fu.map bo.v)/\aE H ae/\Fu.length<=26/\∀x∈Fu,x.okA aO) (P:=PP) (k:=47) rfl (as:=[.tup (ds.map bo.v),.str O,.int c]) rfl (by
  show aF (xc (d:=d) (H:=H) hd O) λbi e1 k1=>?_;have hz:=PU hd O;generalize aX (ds.map (eW O 0))=z at e1 hz;show W.set (aJ N (af N e1) N) ?_;have h3:=bG (a:=c) (b:=3) (by decide);generalize hw:199+c.fmod 3-z=w;have X5:w<=201:=by show y3 0xc00c99210b00811b38113b2e0a100c79 N hz h3.2 hw
  show W.if_ N (λj=>W.retE N ⟨_,N,ds,N,k1,by show jL (y1 0xc001a9010b001890 N (iL hl)),hd⟩) λh2=>W.nil ?_;have hm:=bG (a:=c.fdiv 3) (b:=w-1) (by show y1 0x1ce1800815b280 N h2);show W.set (aJ N (aJ N N (dz (by show λq0=>zI (y1 0x1c080815b28012b08e180 N h2 q0)))) N) ?_;generalize (c.fdiv 3).fmod (w-1)=t at hm;show aF (fm (a:=c.fdiv 600) (b:=7) (by decide)) λd1 f1 g1=>aF (fm (a:=c.fdiv 4200) (b:=7) (by decide)) λd2 f2 g2=>?_
  have nd:∀(H:ag) (U:aM) (e b:CE) (i:Nat) (y:Int),ab (az PP (d+1)) e U H=À (.int ((1+i:Nat):Int),H)->ab (az PP (d+1)) b U H=À (.int y,H)->U 1=À (.str O)->ab (az PP (d+1)) (.tuple (.cons e (.cons (.tuple (.cons (.tuple (.cons (.var 1) (.cons b .nil))) .nil)) .nil))) U H=À (bo.v ⟨1+i,[(O,y)]⟩,H):=λH U e b i y h1 h2 h3=>
   cC (aA h1 (al (cC (al (cC (aA (aC h3) (al h2)) (show 2<=ax by decide))) (show 1<=ax by decide)))) (show 2<=ax by decide)
  show W.set (v:=.tup ([⟨1+d1,[(O,1+t)]⟩,⟨1+d2,[(O,w-(1+t))]⟩].map bo.v)) (Î:=bi) (cC (aA (nd _ _ _ _ d1 _ (by show À (V.int (1+(c.fdiv 600).fmod 7),bi)=_;rw[f1];rfl) N N) (al (nd _ _ _ _ d2 _ (by show À (V.int (1+(c.fdiv 4200).fmod 7),bi)=_;rw[f2];rfl) N N))) (show 2<=ax by decide)) (aF (fm (a:=c.fdiv 30000) (b:=(ds.map bo.v).length+1) (by show y1 0x1ca1800810b008 N (iP _))) λa f3 g3=>?_);have Tv:(ds.map bo.v).length<=1000:=by rw[H'];show jL (y1 0xc03e89010b001890 N (iL hl))
  show W.set (Î:=bi) (f3▸aJ N (aJ (aL N (iC _)) N N) (dz (by show λq0=>zI (y1 0x1c080810b00812b08a180 N (iP _) q0)))) ?_;have ha:a<=(ds.map bo.v).length:=by show jL (y2 0xc1011ba1810 N g3)
  show W.retE (v:=.tup ((ds.take a++[(⟨1+d1,[(O,1+t)]⟩:bo),⟨1+d2,[(O,w-(1+t))]⟩]++ds.drop a).map bo.v)) (aJ (aJ (lS (aC N) N N (PK ha Tv)) (aC N) (IY ?_)) (lS (aC N) N N (u1 ha Tv)) ((IY ?_).trans ?_)) ⟨_,N,_,N,k1,?_,λx hx=>?_⟩
  ·rw[ŷ,H'];show z' (Ϲ (z' (adj _ _) hl) 2) (by decide)
  ·rw[Ā,ŷ,ϻ,H',H'];show z' (ϭ (Ϲ (z' (adj _ _) hl) 2) (z' (Ś _ _) hl)) (by decide)
  ·rw[ŝ,ŝ,List.map_take,afF]
  ·rw[H']at ha
   rw[Ā,Ā,ŷ,ϻ,ų ha];show a+2+_<=_;show jL (y5 0xc001a9310b00189012ba282112ba41312be204 N (iL hl) (iA _ _) (iA _ _) (ϯ (jL (y2 0xc1010b10 N (iL ha)))))
  ·have nw:∀(i:Nat) (b:Int),(i:Int)<7->1<=b->b<=201->bo.okA aO ⟨1+i,[(O,b)]⟩:=λi b h1 h2 h3=>⟨⟨Ō 1 i,(by show jL (y2 0xc78111b78012ba0181 N h1 (iA _ _)):1+i<=7),(by decide:1<=20)⟩,λp hp=>W'.mp hp▸⟨⟨k,hk,hn.symm⟩,h2,h3⟩⟩
   rcases ğ.mp hx with hx|hx
   ·rcases ğ.mp hx with hx|hx
    ·show hd x (Ů hx)
    ·rcases ċ.mp hx with hx|hx
     ·show hx▸nw d1 _ g1 (by show y1 0xca0181810b008 N hm.1) (by show y2 0xc00c99a11810b00c99011be1801 N X5 hm.2)
     ·show W'.mp hx▸nw d2 _ g2 (by show y2 0xcea01811811be1810 N hm.2) (by show y2 0xc00c99ea118010b00c99010b108 N X5 hm.1)
   ·show hd x (Ϟ hx))
 show⟨Fu,ae,h,h1⟩
end near11H
theorem Pq{ds:List bo}:pS d H aO ds k c:=hk (P:=U6 pS) near11H.kt (d,H,aO,ds,k,c)
section
variable{Á:aw}{aD body y:fx}{U L:aM}{H Î Ü:ag}{Q:cA->aM->ag->Prop}{t:jR}{it:jq}{ws:List (Nat×bp)}{e:CE}{as:gF}{vs:List V}{c f i:Nat}{w:Str}{v:V}
def EQ(L:aM)(I:Nat->ag->Prop)(ó:cA->ag->Prop)(j:Nat)(fl:cA)(U:aM)(H:ag):Prop:=(fl=.next/\Le L U/\I (j+1) H)\/(fl≠.next/\ó fl H)
theorem W.each{α:Type}{xs:List α}{g:α->V}(L:aM)(I:Nat->ag->Prop)(ó:cA->ag->Prop)(hs:cE Á it U H=À (xs.map g,ws,Î))(hl:Le L U)(h0:I 0 Î)(hw:∀j H,I j H->cD H ws)
  (step:∀j x H,xs[j]?=À x->I j H->∃aT,t.put (g x) L=À aT/\W Á body aT H (EQ L I ó j)) (k:∀ae,I xs.length ae->W Á aD L ae Q) (kj:∀fl aT ae,ó fl ae->Q fl aT ae):W Á (.cons (.for_ t it body) aD) U H Q:=by
 show W.loopE hs (λj U H=>U=L/\I j H) ó hl ⟨N,h0⟩ (λj z H h=>hw j H h.2) (λj y SV bi hy q=>?_) (λSV bi q=>?_) kj
 ·show aP q λq hI=>?_;apply ba q
  show aF (uD hy) λx hx q3=>?_;apply ba q3;show aF (step j x bi hx hI) λaT h1 h2=>⟨aT,h1,h2.mono λfl aT ae q=>q.imp (λq=>⟨q.1,L,q.2.1,N,q.2.2⟩) id⟩
 ·show aP q λq hI=>?_;apply ba q
  rw[H']at hI;show k bi hI
theorem W.forX(h:bY Á as U H=À (vs,Î))(hc:Á f vs Î=À (.exc c w,Ü))(k:Q (.exc c w) U Ü):W Á (.cons (.for_ t (.ex (.call f as)) body) aD) U H Q:=
 W.out (fl:=.exc c w) (λq=>nomatch q) (λr hl=>by have X:=ql (dZ as hl h) hc;rw[yR];show tE (by rw[kP,X.1];rfl) X.2) k
theorem W.setX(h:bY Á as U H=À (vs,Î))(hc:Á f vs Î=À (.exc c w,Ü))(k:Q (.exc c w) U Ü):W Á (.cons (.assign t (.call f as)) aD) U H Q:=
 W.out (fl:=.exc c w) (λq=>nomatch q) (λr hl=>by have X:=ql (dZ as hl h) hc;rw[gQ];show tE (by rw[X.1];rfl) X.2) k
theorem W.tryO(h:ab Á e U H=À (v,Ü))(k:Q (.ret v) U Ü):W Á (.cons (.try_ (.cons (.ret e) .nil) i y) aD) U H Q:=
 W.out (fl:=.ret v) (λq=>nomatch q) (λr hl=>by
  have e1:aN Á (.cons (.ret e) .nil) r H=À (.ret v,r,Ü):=by show ir (bL Á (.ret e) r H) _=_;rw[lT,lM (r:=(.ret v,r,Ü)) (by rw[aH e hl h];rfl)];rfl
  rw[yS,e1];rfl) k
theorem W.tryE(h:bY Á as U H=À (vs,Î))(hc:Á f vs Î=À (.exc c w,Ü))(hy:W Á y (cR U i (.ref (Ü.length+1))) (Ü++[.wd w,.exn c Ü.length]) λfl aT ae=>fl=.ret v/\Q (.ret v) aT ae):W Á (.cons (.try_ (.cons (.ret (.list (.cons (.call f as) (.cons e .nil)))) .nil) i y) aD) U H Q:=λr hl=>by
 obtain ⟨fl,b,aT,ae,h1,h2,rfl,h3⟩:=hy _ (hl.upd i _);show⟨.ret v,b,aT,ae,h1,?_,h3⟩;have X:=ql (dZ as hl h) hc
 have e1:aN Á (.cons (.ret (.list (.cons (.call f as) (.cons e .nil)))) .nil) r H=À (.exc c w,r,Ü):=by
  show ir (bL Á (.ret (.list (.cons (.call f as) (.cons e .nil)))) r H) _=_;rw[lT,tE (c:=c) (w:=w) (H:=Ü)];rfl
  ·show cg (cg (cg (ab Á (.call f as) r H) _) _) _=_
   rw[X.1];rfl
  ·show TU (ed Á (.call f as) r H) _=_
   rw[X.2];rfl
 show ir (bL Á (.try_ (.cons (.ret (.list (.cons (.call f as) (.cons e .nil)))) .nil) i y) r H) (aN Á aD)=_;rw[yS,e1];show ir (handled (aN Á y _ _)) _=_;rw[h2];rfl
end
def pt(d k:Nat)(as:List V)(H:ag)(R:V->ag->Prop):Prop:=∃v ae,az PP d k as H=À (.ok v,ae)/\aE H ae/\R v ae
def QB(d k:Nat)(as:List V)(H:ag)(R:yv->ag->Prop):Prop:=∃v ae,az PP d k as H=À (v,ae)/\aE H ae/\R v ae
theorem eL{f:bj}{as:List V}{d k:Nat}(hk:PP[k]?=À f)(ha:as.length=f.arity)(h:W (az PP d) f.body (bu as) H (RQ λv ae=>aE H ae/\R v ae)):pt (d+1) k as H R:=fh hk ha h
theorem Hm{f:bj}{as:List V}{d k:Nat}(hk:PP[k]?=À f)(ha:as.length=f.arity)(h:W (az PP d) f.body (bu as) H (RX λv ae=>aE H ae/\R v ae)):QB (d+1) k as H R:=Ol hk ha h
structure ml(H:ag)(q:Nat)(l:List V)(ae:ag):Prop where
 hq:H.length<=q
 hk:aE H ae
 hl:ae[q]?=À (.lst l)
theorem ml.set(û:ml H q l ae)(m:List V):ml H q m (ae.set q (.lst m)):=⟨û.hq,û.hk.set û.hq,fu û.hl⟩
theorem ml.keep(û:ml H q l ae)(K:aE ae il):ml H q l il:=⟨û.hq,û.hk.trans K,K _ _ û.hl⟩
theorem ml.new(H:ag)(l:List V):ml H H.length l (H++[.lst l]):=⟨ē _,aE.app _ _,aB _ _⟩
theorem nQ{Á:aw}{U:aM}{H:ag}{e:CE}{n:Nat}(he:∀ae,ab Á e U ae=À (.int n,ae))(hn:n<=100000):
  ∃q ae,ab Á (.bin .Mult (.list (.cons (.cst (.int 0)) .nil)) e) U H=À (.ref q,ae)/\ml H q ((ś n (0:Int)).map .int) ae:=by
 have hr:Dg [V.int 0] n=(ś n (0:Int)).map V.int:=by
  clear he hn
  induction n with
  |zero=>rfl
  |succ n ih=>show V.int 0::Dg [V.int 0] n=_;rw[ih];rfl
 show⟨_,_,aJ (cJ (vs:=[.int 0]) N (show 1<=ax by decide)) (he _) ?_,z' (aE.app H [.lst [.int 0]]).len (ē _),(aE.app _ _).trans (aE.app _ _),aB _ _⟩;show ((lst (H++[.lst [.int 0]]) H.length).bind λx=>if 0<=(n:Int)/\(n:Int)<=100000/\x.length<=100 then rO (H++[.lst [.int 0]]) (Dg x (n:Int).toNat) else Ã)=_;rw[c8 (aB _ _)];show (if 0<=(n:Int)/\(n:Int)<=100000/\1<=100 then rO (H++[bp.lst [.int 0]]) (Dg [.int 0] (n:Int).toNat) else Ã)=_;rw[if_pos ⟨Ĕ n,Ŝ.mpr hn,by decide⟩,ĭ,hr];show if_pos (by rw[H',ϲ];show z' hn (by decide))
theorem u9:∀{l:List Int} {i:Nat} (t:Nat),i<l.length->aX ((l.set i (bv l i+a)).drop t)=aX (l.drop t)+if t<=i then a else 0
 |x::l,0,0,_=>by show aX ((x+a)::l)=aX (x::l)+a;rw[aU,aU];show ņ (y3 0xca1a20a2a10 N) (y3 0xca1a20a2a10 N)
 |x::l,0,t+1,_=>by show aX (l.drop t)=aX (l.drop t)+if t+1<=0 then a else 0;rw[if_neg (ad1 t),Ť]
 |x::l,i+1,0,h=>by have:=u9 (a:=a) 0 (adL h);rw[if_pos (į _)]at this;show aX (x::l.set i (bv l i+a))=aX (x::l)+if 0<=i+1 then a else 0;rw[aU,aU,if_pos (į _)];change aX (l.set i (bv l i+a))=aX l+a at this;rw[this,Ż]
 |x::l,i+1,t+1,h=>by
  have:=u9 (a:=a) t (adL h);show aX ((l.set i (bv l i+a)).drop t)=aX (l.drop t)+if t+1<=i+1 then a else 0;rw[this];by_cases q:t<=i
  ·rw[if_pos q,if_pos (ŧ q)]
  ·rw[if_neg q,if_neg λz=>q (adM z)]
theorem EK(l:List (Str×Int))(p:Str×Int)(n:Str):gM (l++[p]) n=gM l n+if p.1==n then p.2 else 0:=by
 unfold gM;rw[List.filter_append,ŝ,aev,List.filter_nil];cases p.1==n with
 |true=>rw[if_pos N];show tq _ _
 |false=>rw[if_neg Ļ];show(congrArg aX (Ľ _)).trans (Ť _).symm
def Pk.okQ(p:Pk):Prop:=(4<=p.a/\p.a<=200)/\0<=p.p
structure QH where
 ds:List bo
 bs:List cF
 ps:List Pk
 sd:Int
 dl:ds.length<=26
 dk:∀x∈ds,x.okA sd
 bl:bs.length<=120
 bk:∀b∈bs,0<=b.a
 pl:ps.length<=9
 pk:∀p∈ps,p.okQ
def QH.v(c:QH):List V:=[.tup (c.ds.map bo.v),.tup (c.bs.map cF.v),.tup (c.ps.map Pk.v)]
def Uq(v:V)(ae:ag):Prop:=∃(w:Nat) (c:QH),v=.ref w/\ae[w]?=À (.lst c.v)
abbrev wL(q:Nat)(ds:List bo)(bs:List cF)(ps:List Pk)(z:Int):aM:=cw [Ã,À (.ref q),Ã,À (.tup (ds.map bo.v)),À (.tup (bs.map cF.v)),À (.tup (ps.map Pk.v)),À (.int z)]
def nN(d:Nat)(r:Nat)(H:ag)(cs:List Int):Prop:=∀(hr:H[r]?=À (.lst (cs.map .int))),pt (d+4) 48 [.ref r] H Uq
namespace world11H
def kc:=hc (U4 nN) (0,0,[],[])
def d:=kc.1
def r:=kc.2.1
def H:=kc.2.2.1
def cs:=kc.2.2.2
theorem kt:nN d r H cs:=by
 intro hr;show eL N N ?_;show Xf (zQ (d:=d+1) hr) λq aO m bi e1 hq k1 qG hm=>W.set (af (vs:=[.ref r]) N e1) ?_;have h1:=k1 _ _ hr;show W.set (af (vs:=[.ref r,.int 2]) N (lQ (P:=PP) (k:=22) (d:=d+2) N h1 2 (by decide) N)) ?_;generalize cellF cs 2=c;show aF (s5 (P:=PP) (k:=34) (d:=d+2) (H:=bi) N c 5 24 (by decide)) λn1 f1 rN=>Jz (Fp (d:=d+1) h1 hq qG hm n1 (by show jL (y1 0xc00c89010b001890 N (iL rN)))) λds dG e2 k2 MA Tp=>W.set (af (vs:=[.ref r,.ref q,.int n1]) (aA N (aA N (al (af (vs:=[.int c,.int 5,.int 24]) N f1)))) e2) (aF (s5 (P:=PP) (k:=34) (d:=d+2) (H:=dG) N (c.fdiv 1500) 5 120 (by decide)) λn2 f2 yj=>Jz (GO (d:=d+1) (k2 _ _ h1) (k2 _ _ hq) qG hm n2 (by show jL (y1 0xc00c89010b007890 N (iL yj)))) λbs dY e3 k3 Zp Zo=>W.set (af (vs:=[.ref r,.ref q,.int n2]) (aA N (aA N (al (af (vs:=[.int (c.fdiv 1500),.int 5,.int 120]) N f2)))) e3) ?_);have k3:=k2.trans k3;show aF (fm (a:=c.fdiv 60000) (b:=6) (by decide)) λn3 f3 RH=>Jz (KL (d:=d+1) (k3 _ _ h1) (k3 _ _ hq) qG hm n3 (by show jL (y1 0xc00c89011b680 N RH))) λps nT e4 k4 vq Gj=>W.set (af (vs:=[.ref r,.ref q,.int n3]) (aA N (aA N (al (by show À (V.int ((c.fdiv 60000).fmod 6),dY)=_;rw[f3])))) e4) ?_;have k4:=k3.trans k4;have hq4:=k4 _ _ hq;have Y9:=k1.trans k4;have hz:(ps.map λp:Pk=>Pk.v ⟨p.n,max 4 p.a,p.p,p.l⟩).length<=ax:=by rw[H',vq];show z' (by show jL (y1 0xc68011b680 N RH):n3<=6) (by decide)
 have ec:=dj (elt:=ab (az PP (d+3)) (.bin .Add (.tuple (.cons (.idx (.var 9) (.cst (.int 0))) (.cons (.prim .max2 (.cons (.cst (.int 4)) (.cons (.idx (.var 9) (.cst (.int 1))) .nil))) .nil))) (.slc (.var 9) (.cst (.int 2)) (.cst .none)))) (cond:=cW (az PP (d+3)) .nil) (t:=.one 9) (w:=[]) (U:=cR (cR (cR (cR (cR (bu [.ref r]) 1 (.ref q)) 2 (.int c)) 3 (.tup (ds.map bo.v))) 4 (.tup (bs.map cF.v))) 5 (.tup (ps.map Pk.v))) (H:=nT) (g:=Pk.v) (p:=λu=>Æ) (f:=λp:Pk=>Pk.v ⟨p.n,max 4 p.a,p.p,p.l⟩) (bx _) (xs:=ps) λp hp=>
  ⟨_,N,N,λu=>aJ (x:=.tup [.str p.n,.int (max 4 p.a)]) (cC (aA (aZ 0 _ _ (aC (v:=p.v) N) N (by decide) N) (al (aL (vs:=[.int 4,.int p.a]) (aA N (al (aZ 1 _ _ (aC (v:=p.v) N) N (by decide) N))) N))) (show 2<=ax by decide)) (lS (aC (v:=p.v) N) N N (u1 (a:=2) (l:=[.str p.n,.int p.a,.int p.p,.int p.l]) (show 2<=4 by decide) (show 4<=1000 by decide))) (IY (show 4<=1000 by decide))⟩
 rw[cT]at ec;show W.set (aL (al (eN (dh N) ec hz)) (bB (aB _ _) hz)) ?_
 have pN:∀p∈ps.map λp:Pk=>(⟨p.n,max 4 p.a,p.p,p.l⟩:Pk),p.okQ:=λp hp=>by show aF (ş.mp hp) λx hx e=>?_;apply fQ e;have:=Gj x hx;unfold Pk.okP at this;show⟨⟨ads _ _,aeD.mpr ⟨by decide,this.1.2⟩⟩,this.2⟩
 rw[show (ps.map λp:Pk=>Pk.v ⟨p.n,max 4 p.a,p.p,p.l⟩)=(ps.map λp:Pk=>(⟨p.n,max 4 p.a,p.p,p.l⟩:Pk)).map Pk.v by rw[Ŭ];rfl];have Va:aE H (nT++[.lst ((ps.map λp:Pk=>(⟨p.n,max 4 p.a,p.p,p.l⟩:Pk)).map Pk.v)]):=Y9.trans (aE.app _ _);have Qe:=aE.app nT [.lst ((ps.map λp:Pk=>(⟨p.n,max 4 p.a,p.p,p.l⟩:Pk)).map Pk.v)] _ _ hq4;have vq:(ps.map λp:Pk=>(⟨p.n,max 4 p.a,p.p,p.l⟩:Pk)).length<=5:=by rw[H'];show jL (y2 0xc58111b68012b01 N RH (iE vq))
 generalize nT++[.lst ((ps.map λp:Pk=>(⟨p.n,max 4 p.a,p.p,p.l⟩:Pk)).map Pk.v)]=ll at Va Qe;generalize (ps.map λp:Pk=>(⟨p.n,max 4 p.a,p.p,p.l⟩:Pk))=ps1 at pN vq;show W.set (v:=.int (c.fdiv 700000)) N ?_;generalize c.fdiv 700000=z
 -- the gw part,from any packs
 have ip:∀(ps:List Pk) (U:aM) (ll:ag),ps.length<=9->(∀p∈ps,p.okQ)->aE H ll->ll[q]?=À (.lst [.int aO,.int m])->Le (wL q ds bs ps z) U ->
   W (az PP (d+3)) (.cons (.ite (.cmp .Eq (.bin .Mod (.bin .FloorDiv (.var 6) (.cst (.int 9000))) (.cst (.int 9))) (.cst (.int 0))) (.cons (.assign (.one 3) (.call 47 (.cons (.var 3) (.cons (.call 26 (.cons (.idx (.var 1) (.cst (.int 0))) (.cons (.bin .Mod (.bin .FloorDiv (.var 6) (.cst (.int 81000))) (.idx (.var 1) (.cst (.int 1)))) .nil))) (.cons (.bin .FloorDiv (.var 6) (.cst (.int 1000000))) .nil))))) .nil) .nil)
    (.cons (.ret (.list (.cons (.var 3) (.cons (.var 4) (.cons (.var 5) .nil))))) .nil)) U ll (RQ λv ae=>aE H ae/\Uq v ae):=λps U ll vq Gj hK hq hl=>by
  show W.le hl ?_
  have ret:∀(ds:List bo) (U:aM) (ll:ag),ds.length<=26->(∀x∈ds,x.okA aO)->aE H ll->U 3=À (.tup (ds.map bo.v))->U 4=À (.tup (bs.map cF.v))->U 5=À (.tup (ps.map Pk.v))->W (az PP (d+3)) (.cons (.ret (.list (.cons (.var 3) (.cons (.var 4) (.cons (.var 5) .nil))))) .nil) U ll (RQ λv ae=>aE H ae/\Uq v ae):=λds U ll MA Tp hK g3 g4 g5=>
   W.retE (cJ (aA (aC g3) (aA (aC g4) (al (aC g5)))) (show 3<=ax by decide)) ⟨_,N,hK.trans (aE.app _ _),_,⟨ds,bs,ps,aO,MA,Tp,by show jL (y2 0xc00789110b00789012b01 N (iL yj) (iE Zp)),Zo,vq,Gj⟩,N,aB _ _⟩
  show W.if_ (p:=(z.fdiv 9000).fmod 9=0) (fE N N) (λu=>aF (fm (a:=z.fdiv 81000) (b:=m) (by show y1 0x1c00810b018 N (iL qG))) λk fk hk=>aF (l6 (P:=PP) (k:=26) (d:=d+2) (H:=ll) N aO k (by show jT (y2 0x1c00649110bc8011b01 N (iL hm) hk))) λIw e6 k6=>Jz (Pq (d:=d+1) (H:=Iw) (k:=k) (c:=z.fdiv 1000000) Tp (by show jL (y2 0xc00189110b00189012b01 N (iL rN) (iE MA))) (by show jT (y2 0x1cc8110bc8011b01 N (iL hm) hk))) λFu PW e7 k7 Vy Vx=>W.set (af (vs:=[.tup (ds.map bo.v),.str (gI aO k),.int (z.fdiv 1000000)]) (aA N (aA (af (vs:=[.int aO,.int k]) (aA (br q 0 _ _ N N hq (by decide) N) (al (fk▸aJ (x:=.int (z.fdiv 81000)) (y:=.int m) N (br q 1 _ _ N N hq (by decide) N) (dz (by show λq0=>zI (y1 0x1c080810b01812b080 N (iL qG) q0)))))) e6) (al N))) e7) (W.nil (ret Fu _ _ Vy Vx ((hK.trans k6).trans k7) N N N))) λu=>W.nil (ret ds _ _ (by show jL (y2 0xc001a9110b00189012b01 N (iL rN) (iE MA))) Tp hK N N N)
 have Zx:=jy (Á:=az PP (d+3)) (U:=wL q ds bs ps1 z) (H:=ll) (a:=.cmp .Gt (.bin .Mod (.var 6) (.cst (.int 3))) (.cst (.int 0))) (b:=.cmp .Lt (.idx (.var 1) (.cst (.int 1))) (.cst (.int 5))) N (bU (br q 1 _ _ N N Qe (by decide) N) N N);show W.le (a:=wL q ds bs ps1 z) (ar ⟨N,N,N,N,N,trivial⟩) (W.ifB Zx (λhb=>?_) λu=>W.nil (ip ps1 _ _ (by show jL (y1 0xc98010b580 N (iL vq))) pN Va Qe (Le.refl _)));have VX:m<5:=by have:=of_decide_eq_true (Ņ.mp hb).2;show jT (y1 0x1c58011b580 N this)
 show W.loop (cM (n:=m) (br q 1 _ _ N N Qe (by decide) N) (by show jL (y1 0xc0000000000003b9aca00d010bc80 N (iL hm))))
  (λj U ae=>∃ps:List Pk,U=wL q ds bs ps z/\ps.length<=5+j/\(∀p∈ps,p.okQ)/\aE ll ae) (a:=wL q ds bs ps1 z) (Le.refl _) ⟨ps1,N,vq,pN,aE.refl _⟩ (λu u u u=>bx _) (λj y ρ6 Iw hy q1=>?_) λρ6 Iw q1=>?_
 ·show vo q1 λps q1 hl hk hK=>?_;apply ba q1
  show aP (l7 hy) λhj q2=>?_;apply ba q2;show aF (l6 (P:=PP) (k:=26) (d:=d+2) (H:=Iw) N aO j (Ϙ hj (Ϙ VX (by decide)))) λPW e7 k7=>?_;have b1:=bG (a:=z.fdiv 3+j) (b:=17) (by decide);show⟨_,N,W.set (af (vs:=[.int aO,.int j]) (aA (br q 0 _ _ N N (hK _ _ Qe) (by decide) N) (al N)) e7) (W.set (v:=.tup ((ps++[(⟨gI aO j,4+(z.fdiv 3+j).fmod 17,(z.fdiv 60).fmod 50+j,7+(j:Int).fmod 3⟩:Pk)]).map Pk.v)) (Î:=PW) (aJ (aC N) (cC (vs:=[Pk.v ⟨gI aO j,4+(z.fdiv 3+j).fmod 17,(z.fdiv 60).fmod 50+j,7+(j:Int).fmod 3⟩]) (al (cC (vs:=[.str (gI aO j),.int (4+(z.fdiv 3+j).fmod 17),.int ((z.fdiv 60).fmod 50+j),.int (7+(j:Int).fmod 3)]) N (show 4<=ax by decide))) (show 1<=ax by decide)) ((IY (by rw[H'];show z' (ŧ (z' hl (ϝ (Ģ (Ϙ hj VX)) 5))) (by decide))).trans (by rw[ŝ];rfl))) (W.nil ⟨N,wL q ds bs (ps++[(⟨gI aO j,4+(z.fdiv 3+j).fmod 17,(z.fdiv 60).fmod 50+j,7+(j:Int).fmod 3⟩:Pk)]) z,ar ⟨N,N,N,N,N,trivial⟩,_,N,by rw[Ā];show ŧ hl,λp hp=>â (ğ.mp hp) (hk p) λh=>W'.mp h▸⟨⟨add b1.1,Ċ (acT (ϰ b1.2) 4) (by decide)⟩,ϟ (bG (by decide)).1 (Ĕ j)⟩,hK.trans k7⟩))⟩
 ·show vo q1 λps q1 hl hk hK=>?_;apply ba q1
  rw[l9]at hl;show W.nil (ip ps _ _ (z' hl (ϝ (ϐ VX) 5)) hk (Va.trans hK) (hK _ _ Qe) (Le.refl _))
end world11H
theorem LF:nN d r H cs:=hk (P:=U4 nN) world11H.kt (d,r,H,cs)
def lawR:fx:=match Ra.body with
 |.cons _ (.cons _ r)=>r
 |_=>.nil
def NO(c:QH):Prop:=∀(w r:Nat) (cs:List Int) (H:ag),H[w]?=À (.lst c.v)->H[r]?=À (.lst (cs.map .int))->W (az PP 19) lawR (cw [Ã,À (.ref r),À (.ref w)]) H (RQ λv z=>v=.bool Æ)
def kw:QH:=hc NO ⟨[],[],[],0,į _,λz h=>absurd h acr,į _,λz h=>absurd h acr,į _,λz h=>absurd h acr⟩
def Ds:List bo:=kw.ds
def Bs:List cF:=kw.bs
def Ps:List Pk:=kw.ps
def vD:V:=.tup (Ds.map bo.v)
def vG:V:=.tup (Bs.map cF.v)
def vP:V:=.tup (Ps.map Pk.v)
theorem SQ:Ds.length<=26:=kw.dl
theorem PV:∀x∈Ds,x.okA kw.sd:=kw.dk
theorem Qq:∀x∈Ds,x.ok:=λx hx=>(PV x hx).1
theorem LC:∀x∈Ds,x.okN kw.sd:=λx hx=>⟨Qq x hx,λp hp=>((PV x hx).2 p hp).1⟩
theorem WN:Bs.length<=120:=kw.bl
theorem Yp:∀b∈Bs,0<=b.a:=kw.bk
theorem yp:Ps.length<=30:=z' kw.pl (by decide)
theorem WO:∀p∈Ps,1<=p.a:=λp hp=>Ċ (by decide) (kw.pk p hp).1.1
theorem wpa:∀p∈Ps,p.a<=200:=λp hp=>(kw.pk p hp).1.2
theorem Yr:∀p∈Ps,0<=p.p:=λp hp=>(kw.pk p hp).2
def CJ(n:Str)(t:Nat)(b:cF):Int:=if pk n t b then b.a else 0
def fz(n:Str)(t:Nat):Int:=max 0 (0+aX (Ds.map (eW n t))+aX (Bs.map λb=>- CJ n t b))
abbrev Wv(n:Str)(p:Nat)(t:Nat)(z:Int):aM:=cw [À vD,À vG,À (.str n),À (.ref p),À (.int (1+(t:Int)*1)),À (.int z)]
theorem jl:∀l m:List Int,aX (l++m)=aX l+aX m
 |[],m=>(ť _).symm
 |x::l,m=>by rw[aes,aU,aU,jl l m,Ż]
theorem xU(f:α->Int):∀l:List α,aX (l.map λx=>- f x) =-aX (l.map f)
 |[]=>rfl
 |x::l=>by rw[Œ,Œ,aU,aU,xU f l,Int.neg_add]
theorem jB(bs:List cF)(n:Str)(t:Nat):f8 bs n t=aX (bs.map (CJ n t)):=kQ bs
theorem uw(n:Str)(t:Nat):fz n t=max 0 (aX (Ds.map (eW n t))-f8 Bs n t):=by unfold fz;rw[xU,<-jB,ť];rfl
theorem nj(x:Int):∀n:Nat,aX (ś n x)=x*n
 |0=>(ade x).symm
 |n+1=>by rw[ad6,aU,nj x n,Int.natCast_add,aej,adK];show congrArg _ (ϗ x).symm
def j0:List Str:=jO ((DN (qb Ds)).map (·.1))
def Bb(n:Str):List Int:=(Đ 7).map (fz n)
theorem fo{n j x:Nat}(h:(Đ n)[j]?=À x):x=j/\j<n:=by have hj:j<n:=Ŗ (n:=n)▸(ģ.mp h).1;rw[ϸ hj]at h;show⟨(sm h).symm,hj⟩
section
variable{Á:aw}{U:aM}{H Î:ag}{ws:List (Nat×bp)}
theorem rK{α:Type}{elt:CE}{t:jR}{it:jq}{ifs:gF}{g f:α->V}{p:α->Bool}{xs:List α}(hs:cE Á it U H=À (xs.map g,ws,Î))(hw:cD Î ws)(hz:xs.length<=ax)
  (h:∀x∈xs,∃aT,t.put (g x) U=À aT/\cW Á ifs aT Î=À (p x,Î)/\(p x=Æ->ab Á elt aT Î=À (f x,Î))) :
  ab Á (.prim .tuple (.cons (.comp elt t it ifs) .nil)) U H=À (.tup ((xs.filter p).map f),Î++[.lst ((xs.filter p).map f)]):=by
 have sT:((xs.filter p).map f).length<=ax:=by rw[H'];show z' (abS p xs) hz
 show aL (al (eN hs (dj hw h) sT)) (bB (aB _ _) sT)
theorem BH(l:List Int):gy .sum [.tup (l.map .int)] H=À (.int (aX l),H):=by show (cH (l.map .int)).bind (λns=>À (V.int (ns.foldl (·+·) 0),H))=_;rw[lX];rfl
theorem PC:cE Á (.rng1 (.cst (.int 7))) U H=À ((Đ 7).map λj:Nat=>V.int j,[],H):=by rw[<-dT];rfl
theorem fR{l:List Int}{t:Nat}(h:t<l.length):(l.map V.int)[((t:Nat):Int).toNat]?=À (.int (bv l t)):=AT h
end
section
variable{d:Nat}{H:ag}{O:Str}
theorem DP:pt (d+1) 0 [vD] H λv z=>v=.tup (j0.map .str):=by have hs:=oK (pJ LC);show eL N N (W.set (Î:=H++[.ds []]) N (wz LC N N (aB _ _) (λp U ym=>⟨_,N,ym,λz=>rfl⟩) λbi hK hD=>W.retE (aL (al (aL (al (aC N)) (pe hD hs))) (bB (aB _ _) (by rw[H',tj,H'];show z' hs (by decide)))) ⟨_,N,(ur hK).trans (aE.app _ _),N⟩))
abbrev neL(O:Str)(q:Nat):aM:=cw [Ã,À (.str O),À (.ref q)]
def WX(H:ag)(q:Nat)(S:Nat->Int)(ae:ag):Prop:=∃l:List Int,ml H q (l.map .int) ae/\l.length=7/\∀t,aX (l.drop t)=S t
theorem o7(O:Str):pt (d+1) 1 [vD,.str O] H λv k=>∃l:List Int,v=.tup (l.map .int)/\l.length=7/\∀t,aX (l.drop t)=aX (Ds.map (eW O t)):=by
 show eL N N (gm (nQ (Á:=az PP d) (U:=bu [vD,.str O]) (H:=H) (n:=7) (e:=xn 7) (λk=>rfl) (by decide)) λq bi e1 û=>W.set e1 (W.each (neL O q) (λj=>WX H q λt=>aX ((Ds.take j).map (eW O t))) (λk k=>False) (dh N) (ar ⟨N,N,trivial⟩) ⟨_,û,N,λt=>by rw[List.drop_replicate,nj,ό];rfl⟩ (λk k k=>bx _) (λj x dG hx I=>⟨_,N,?_⟩) (λdG I=>?_) λk k k q=>q.elim))
 ·have MQ:=Qq x (Ĥ hx)
  obtain ⟨dy,ns⟩:=x;cases dy with
  |zero=>show absurd MQ.1 (ad1 0)
  |succ i=>
   have hi:i<7:=MQ.2.1;show W.each (cw [Ã,À (.str O),À (.ref q),À (.int ((i+1:Nat):Int))]) (λm=>WX H q λt=>aX ((Ds.take j).map (eW O t))+if t<=i then gM (ns.take m) O else 0) (λk k=>False) (dh N) (ar ⟨N,N,N,trivial⟩) ?_ (λk k k=>bx _) (λm p dY hp ó=>⟨_,N,?_⟩) (λdY ó=>?_) λk k k q=>q.elim
   ·show eK I λl û h1 h2=>⟨l,û,h1,λt=>(h2 t).trans (by show _=_+ite _ (0:Int) 0;rw[ite_self,Ť])⟩
   ·have hS:∀t,(aX ((Ds.take j).map (eW O t))+if t<=i then gM (ns.take (m+1)) O else 0)=(aX ((Ds.take j).map (eW O t))+if t<=i then gM (ns.take m) O else 0)+if t<=i then (if p.1==O then p.2 else 0) else 0:=λt=>by
     rw[bn hp,EK];split
     ·rw[Ż]
     ·show(Ť _).symm
    show W.ifB (b:=p.1==O) N (λhb=>?_) λhb=>W.nil (W.nil (.inl ⟨N,ar ⟨N,N,N,trivial⟩,?_⟩))
    ·show eK ó λl û h1 h2=>?_
     have ei:∀U ae,U 3=À (.int ((i+1:Nat):Int))->ab (az PP d) (xS (xv 3) (xn 1)) U ae=À (.int i,ae):=λU ae h=>(aJ (y:=.int 1) (Ü:=ae) (aC h) N N).trans (congrArg (λz:Int=>À (V.int z,ae)) (ad' (i:Int) 1));show W.setItem0 q i (l.map .int) (.int (bv l i+p.2)) (aJ (br q i _ _ N (ei _ _ N) û.hl (Ĕ _) (fR (h1▸hi))) N N) N (ei _ _ N) û.hl (Ĕ _) (by rw[ĭ,H',h1];show hi) (W.nil (W.nil (.inl ⟨N,ar ⟨N,N,N,trivial⟩,l.set i (bv l i+p.2),?_,(Ϻ ..).trans h1,λt=>?_⟩)))
     ·rw[ĭ,dQ];show û.set _
     ·show(u9 t (h1▸hi)).trans ((congrArg (·+_) (h2 t)).trans (by show _=_+ite _ (gM (ns.take (m+1)) O) 0;rw[hS,if_pos hb]))
    ·show eK ó λl û h1 h2=>⟨l,û,h1,λt=>(h2 t).trans (by show _=_+ite _ (gM (ns.take (m+1)) O) 0;rw[hS,if_neg (λq=>Ļ (hb.symm.trans q)),ite_self,Ť])⟩
   ·show W.nil (.inl ⟨N,ar ⟨N,N,trivial⟩,eK ó λl û h1 h2=>⟨l,û,h1,λt=>(h2 t).trans ?_⟩⟩)
    show _+ite _ (gM (ns.take ns.length) O) 0=aX ((Ds.take (j+1)).map (eW O t));rw[bn hx,ŝ,jl,ŗ];show _=_+(0+eW O t ⟨i+1,ns⟩);rw[ť];unfold eW;by_cases h:t<=i
    ·rw[if_pos h,if_pos (ϫ h)]
    ·rw[if_neg h,if_neg λq=>h (ϐ q)]
 ·show eK I λl û h1 h2=>W.retE (aL N (bB û.hl (by rw[H',h1];decide))) ⟨_,N,û.hk,l,N,h1,λt=>(h2 t).trans (by rw[ŗ])⟩
theorem CD(l:List Int)(hl:l.length=7):pt (d+1) 2 [.tup (l.map .int)] H λv z=>v=.tup (((Đ 7).map λt=>aX (l.drop t)).map .int):=by
 show eL N N (W.retE (rK (p:=λz=>Æ) (f:=λt=>.int (aX (l.drop t))) PC (bx _) (by decide) λt ht=>⟨_,N,N,λz=>aL (al (lS N N N (u1 (by rw[H',hl];show Ģ (ń.mp ht)) (by rw[H',hl];decide)))) ?_⟩) ⟨_,N,aE.app _ _,?_⟩)
 ·rw[<-afF];show BH _
 ·rw[cT,Ŭ];rfl
theorem yL(j:Nat)(x:Int):decide (1+(j:Int)*1<=x)=decide ((j:Int)<x):=by rw[ϗ,adK];rfl
theorem CW(O:Str):pt (d+1) 7 [vG,.str O] H λv z=>v=.tup (((Đ 7).map (f8 Bs O)).map .int):=by
 show eL N N (W.set (Î:=H++[.lst []]) N (W.each (xs:=Đ 7) (g:=λj:Nat=>V.int (1+(j:Int)*1)) (cw [À vG,À (.str O),À (.ref H.length)]) (λj=>ml H H.length (((Đ j).map (f8 Bs O)).map .int)) (λz z=>False) N (ar ⟨N,N,N,trivial⟩) (ml.new _ _) (λz z z=>bx _) (λj x dG hx I=>⟨_,N,?_⟩) (λdG I=>?_) λz z z q=>q.elim))
 ·show aP (fo hx) λq hj=>?_;apply ba q
  have hs:=jm (Á:=az PP d) (elt:=xu 4 1) (t:=.one 4) (it:=.ex (xv 0)) (ifs:=a1 (.and (xE (xu 4 0) (xv 1)) (NG (xu 4 2) (xv 3)))) (U:=cR (cw [À vG,À (.str O),À (.ref H.length)]) 3 (.int (1+(j:Int)*1))) (H:=dG) (p:=λb=>b.n==O&&decide ((j:Int)<b.l)) (f:=cF.a) (dh N) (bx _) (z' WN (by decide)) λb z=>⟨_,N,nI (yL j b.l▸jy N N),λz=>rfl⟩;show W.append H.length _ _ _ N I.hl hs ((I.keep (aE.app _ _)).hl) (by rw[H',H',Ŗ];show z' (Ģ hj) (by decide)) (W.nil (.inl ⟨N,ar ⟨N,N,N,trivial⟩,?_⟩));show ml H H.length (((Đ (j+1)).map (f8 Bs O)).map .int) _;rw[adu,ŝ,ŝ];show(I.keep (aE.app _ _)).set _
 ·show W.retE (aL N (bB I.hl (by rw[H',H',Ŗ];decide))) ⟨_,N,I.hk,N⟩
theorem uA(O:Str):pt (d+2) 8 [vD,vG,.str O] H λv z=>v=.tup ((Bb O).map .int):=by
 show eL N N (fe (o7 (d:=d) (H:=H) O) λv1 bi e1 k1 q=>eK q λl q1 h1 h2=>?_);rw[q1]at e1;show fe (CD (d:=d) (H:=bi) l h1) λv2 dG e2 k2 q2=>?_;rw[q2]at e2;show fe (CW (d:=d) (H:=dG) O) λv3 dY e3 k3 q3=>?_;rw[q3]at e3;show W.set (af (al (af N e1)) e2) (W.set (af N e3) (W.retE (rK (p:=λz=>Æ) (f:=λt=>.int (fz O t)) PC (bx _) (by decide) λt ht=>⟨_,N,N,λz=>aL (aA N (al (aJ (aZ t _ _ N N (Ĕ _) (fR (by rw[H'];show ń.mp ht |> λh=>by rw[Ŗ];show h))) (aZ t _ _ N N (Ĕ _) (fR (by rw[H',Ŗ];show ń.mp ht))) N))) ?_⟩) ⟨_,N,(k1.trans k2).trans (k3.trans (aE.app _ _)),?_⟩))
 ·have ht:=ń.mp ht
  rw[uw,<-h2];unfold bv;rw[Ħ,Ħ,ϸ ht];rfl
 ·rw[cT,Bb,Ŭ];rfl
theorem Kp:pt (d+1) 35 [vD,vG,.str O] H λv ae=>v=.ref H.length/\ae[H.length]?=À (.lst (((Đ 7).map (fz O)).map .int)):=by
 show eL N N (W.set (Î:=H++[.lst []]) N (W.each (xs:=Đ 7) (g:=λj:Nat=>V.int (1+(j:Int)*1)) (cw [À vD,À vG,À (.str O),À (.ref H.length)]) (λj=>ml H H.length (((Đ j).map (fz O)).map .int)) (λy y=>False) N (ar ⟨N,N,N,N,trivial⟩) (ml.new _ _) (λy y y=>bx _) (λj x bi hx I=>⟨_,N,?_⟩) (λbi I=>W.retE N ⟨_,N,I.hk,N,I.hl⟩) λy y y q=>q.elim));show aP (fo hx) λq hj=>?_;apply ba q;show W.set N (W.acc (Wv O H.length j) (eW O j) N 0 (ar ⟨N,N,N,N,N,N,trivial⟩) (λx hx z dG Ms=>?_) λdG Ms=>W.acc (Wv O H.length j) (λb=>- CJ O j b) N (0+aX (Ds.map (eW O j))) (Le.refl _) (λb hb z dY Tl=>?_) λdY Tl=>?_)
 ·unfold eW
  show W.if_ (p:=(j:Int)<x.d) (bU (aZ 0 _ _ (aC N) N (by decide) N) N (congrArg À (yL j x.d))) (λhc=>?_) λhc=>W.nil (W.nil ⟨N,?_,Ms⟩)
  ·have hs:=jm (Á:=az PP d) (elt:=xu 8 1) (t:=.one 8) (it:=.ex (xu 6 1)) (ifs:=a1 (xE (xu 8 0) (xv 2))) (U:=cR (Wv O H.length j z) 6 x.v) (H:=dG) (dh (aZ 1 _ _ (aC N) N (by decide) N)) (bx _) (z' (Qq x hx).2.2 (by decide)) λp hp=>⟨_,N,nI (bU (aZ 0 _ _ (aC N) N (by decide) N) N N),λy=>aZ 1 _ _ (aC N) N (by decide) N⟩
   show W.set (v:=.int (z+gM x.ns O)) (aJ N hs N) (W.nil (W.nil ⟨N,?_,Ms.trans (aE.app _ _)⟩));rw[if_pos (Ř.mp hc)];show ar ⟨N,N,N,N,N,N,trivial⟩
  ·rw[if_neg λz=>hc (Ř.mpr z),Ť]
   show ar ⟨N,N,N,N,N,N,trivial⟩
 ·unfold CJ
  show W.ifB (b:=pk O j b) (jy (bU (aZ 0 _ _ (aC N) N (by decide) N) N N) (bU (aZ 2 _ _ (aC N) N (by decide) N) N (congrArg À (yL j b.l)))) (λhc=>?_) λhc=>W.nil (W.nil ⟨N,?_,Tl⟩)
  ·show W.set (aJ N (aZ 1 _ _ (aC N) N (by decide) N) N) (W.nil (W.nil ⟨N,?_,Tl⟩))
   rw[if_pos hc];show ar ⟨N,N,N,N,N,N,trivial⟩
  ·rw[if_neg λq=>Ļ (hc.symm.trans q),Int.neg_zero,Ť]
   show ar ⟨N,N,N,N,N,N,trivial⟩
 ·have û:=I.keep (Ms.trans Tl)
  show W.append0 H.length _ (.int (fz O j)) N û.hl (aL N N) (by rw[H',H',Ŗ];show z' (Ģ hj) (by decide)) (W.nil (.inl ⟨N,ar ⟨N,N,N,N,trivial⟩,?_⟩));show ml H H.length (((Đ (j+1)).map (fz O)).map .int) _;rw[adu,ŝ,ŝ];show û.set _
end
noncomputable abbrev tB:=List (Option Int)
noncomputable def rA(r:tB)(i:Nat):Option Int:=(r[i]?).getD Ã
noncomputable def nA(l:List Nat)(i:Nat):Nat:=(l[i]?).getD 0
noncomputable def pT(D:Nat)(o:bI):Bool:=min o.l 7==(D:Int)
def lw(ln:List Nat)(nx:tB)(D a:Nat):Option Int:=if D=7 then (if a=0 then À 0 else Ã) else rA nx (max a (nA ln D))
def rR(r:tB)(a:Nat)(o:bI):Option Int:=(rA r (a-o.a.toNat)).map (·+o.p)
noncomputable def fq(os:List bI)(ln:List Nat)(nx:tB)(D:Nat):Nat->tB
 |0=>[lw ln nx D 0]
 |n+1=>fq os ln nx D n++[ic ((lw ln nx D (n+1)::(os.filter (pT D)).map (rR (fq os ln nx D n) (n+1))).filterMap id)]
noncomputable def gT(os:List bI)(ln:List Nat)(M:Nat):Nat->tB
 |0=>[]
 |k+1=>fq os ln (gT os ln M k) (7-k) M
section
variable{os:List bI}{ln:List Nat}{nx r:tB}{D a n M:Nat}
theorem ft:∀n,(fq os ln nx D n).length=n+1
 |0=>rfl
 |n+1=>by unfold fq;rw[Ā,ft n];rfl
theorem KO{s:tB}(h:a<r.length):rA (r++s) a=rA r a:=by unfold rA;rw[ϖ h]
theorem nq(h:a<=n):rA (fq os ln nx D n) a=rA (fq os ln nx D a) a:=by
 induction n with
 |zero=>rw[afP.mp h]
 |succ n ih=>
  by_cases q:a=n+1
  ·rw[q]
  ·have h:=ϐ (ż h q)
   show(KO (by rw[ft];show ϫ h)).trans (ih h)
theorem Bt(n:Nat):rA (fq os ln nx D (n+1)) (n+1)=ic ((lw ln nx D (n+1)::(os.filter (pT D)).map (rR (fq os ln nx D n) (n+1))).filterMap id):=by unfold rA;rw[show fq os ln nx D (n+1)=fq os ln nx D n++[_] from N,Ϣ (by rw[ft];show ē _),ft,acO];rfl
theorem qr(l:List Int):∀x:Int,(l.foldl (λa b=>min a b) x=x\/l.foldl (λa b=>min a b) x∈l)/\l.foldl (λa b=>min a b) x<=x/\∀y∈l,l.foldl (λa b=>min a b) x<=y:=by
 induction l with
 |nil=>show λx=>⟨.inl N,Ĭ x,λk h=>nomatch h⟩
 |cons y l ih=>intro x;rw[Ϯ];show io (ih (min x y)) λh1 h2 h3=>⟨(h1.elim (λh=>?_) λh=>.inr (J' _ h)),Ċ h2 (acK _ _),λz hz=>(ċ.mp hz).elim (λq=>by rw[q];show Ċ h2 (acC _ _)) (h3 z)⟩;rw[h];show(adh x y).elim (λq=>.inl (acy q)) λq=>.inr (by rw[acq q];show G')
theorem Ky{l:List Int}{m:Int}(h:ic l=À m):m∈l:=by
 cases l with
 |nil=>show no h
 |cons x l=>show sm h▸(qr l x).1.elim (λq=>ċ.mpr (.inl q)) λq=>J' _ q
theorem Pm{l:List Int}{w:Int}(h:w∈l):∃m,ic l=À m/\m<=w:=by
 cases l with
 |nil=>show nomatch h
 |cons x l=>show⟨_,N,(ċ.mp h).elim (λq=>q▸(qr l x).2.1) ((qr l x).2.2 w)⟩
theorem aa1{a b:Nat}(h:max a b=0):a=0/\b=0:=⟨aeE (h▸afv a b),aeE (h▸adW a b)⟩
theorem BF{x:Int}(h:1<=x)(n:Nat):n+1-x.toNat<=n:=ad7 (afe.mpr h) (n+1)
structure ED(os:List bI)(ln:List Nat)(nx r:tB)(D M:Nat):Prop where
 zero:rA r 0=lw ln nx D 0
 pick:∀a,a<=M->(rA r a).isSome=Æ->rA r a≠lw ln nx D a->∃o∈os,pT D o=Æ/\rR r a o=rA r a
 le:∀a w,a<=M->(lw ln nx D a=À w\/0<a/\∃o∈os,pT D o=Æ/\rR r a o=À w)->∃v,rA r a=À v/\v<=w
theorem PD(vp:∀o∈os,1<=o.a):ED os ln nx (fq os ln nx D M) D M:=by
 have wo:∀n o,n+1<=M->o∈os->rR (fq os ln nx D n) (n+1) o=rR (fq os ln nx D M) (n+1) o:=λn o h ho=>by have:=vp o ho;unfold rR;rw[nq (a:=n+1-o.a.toNat) (n:=n) (BF this n),nq (a:=n+1-o.a.toNat) (n:=M) (z' (Ś _ _) h)]
 show⟨nq (į M),λa ha h eR=>?_,λa w ha h=>?_⟩
 ·rw[nq ha]at h eR ⊢
  cases a with
  |zero=>show absurd N eR
  |succ n=>
   rw[Bt]at h eR ⊢;cases hm:ic ((lw ln nx D (n+1)::(os.filter (pT D)).map (rR (fq os ln nx D n) (n+1))).filterMap id) with
   |none=>rw[hm]at h;show nomatch h
   |some m=>rw[hm]at eR;show aF (acG.mp (Ky hm)) λx hx e=>(ċ.mp hx).elim (λq=>absurd (e.symm.trans q) eR) λq=>aF (ş.mp q) λo ho e2=>?_;have ho:=Š.mp ho;show⟨o,ho.1,ho.2,by rw[<-wo n o ha ho.1,e2];show e⟩
 ·rw[nq ha]
  cases a with
  |zero=>show h.elim (λe=>⟨w,e,Ĭ w⟩) λh=>absurd h.1 (Ŧ 0)
  |succ n=>rw[Bt];show Pm (acG.mpr (h.elim (λe=>⟨_,G',e⟩) λh=>eK h.2 λo ho h1 h2=>⟨_,J' _ (ş.mpr ⟨o,Š.mpr ⟨ho,h1⟩,N⟩),(wo n o ha ho).trans h2⟩))
theorem Bu(vp:∀o∈os,1<=o.a)(k:Nat):ED os ln (gT os ln M k) (gT os ln M (k+1)) (7-k) M:=PD vp
end
abbrev jW(r:tB):List V:=r.map dK
theorem pX{r:tB}{i:Nat}(h:i<r.length):(jW r)[((i:Nat):Int).toNat]?=À (dK (rA r i)):=by rw[ĭ,Ħ,N' h,rA,N' h];rfl
theorem uI{l:List Nat}{i:Nat}(h:i<l.length):(bO l)[((i:Nat):Int).toNat]?=À (.int (nA l i:Nat)):=by rw[ĭ,Ħ,N' h,nA,N' h];rfl
theorem u7{a:Nat}{x:Int}(h:1<=x):max 0 ((a:Int)-x)=((a-x.toNat:Nat):Int):=by show(adz (Ċ (by decide) h)).elim λn e=>?_;rw[e,ĭ,<-aep,Int.ofNat_toNat,Int.max_comm]
theorem uE(a b:Nat):max (a:Int) b=((max a b:Nat):Int):=(Lean.Omega.Int.ofNat_max ..).symm
section
variable{d q D a M:Nat}{H Î:ag}{os:List bI}{ln:List Nat}{nx r:tB}{o:bI}{rv:V}{Á:aw}{U:aM}{x y:CE}
theorem Gv{l:List (Int×V)}{k:Int}{v:V}(ha:ab Á x U H=À (.ref q,H))(hi:ab Á y U H=À (.int k,H))(hr:H[q]?=À (.di l))(hv:i8 l k=À v):ab Á (.idx x y) U H=À (v,H):=n8 ha hi (dF hr hv)
theorem re:az PP (d+1) 9 [o.v,.int D] H=À (.ok (.bool (pT D o)),H):=jv N N (W.retE N ⟨_,N,N,N⟩)
theorem qC(h7:ln.length=7)(hq:D<7->∃l,H[q]?=À (.di l)/\i8 l ((D:Int)+1)=À (.tup (jW nx)))(hl:D<7->max a (nA ln D)<nx.length)(hD:D<=7):az PP (d+1) 10 [.ref q,.tup (bO ln),.int D,.int a] H=À (.ok (dK (lw ln nx D a)),H):=by
 show jv N N (W.if_ (fE N N) (λh=>?_) λh=>W.nil ?_)
 ·have h:D=7:=ad9.inj h
  rw[lw,if_pos h];have e:ab (az PP d) (xE (xv 3) (xn 0)) (bu [.ref q,.tup (bO ln),.int D,.int a]) H=À (.bool (decide (a=0)),H):=(fE N N).trans (congrArg (λb=>À (V.bool b,H)) (decide_eq_decide.mpr Int.natCast_eq_zero));by_cases z:a=0
  ·rw[if_pos z]
   show W.retE (v:=.int 0) (Î:=H) ?_ ⟨_,N,N,N⟩;show lP (ab (az PP d) (xE (xv 3) (xn 0)) _ H) _=_;rw[e,decide_eq_true z];rfl
  ·rw[if_neg z]
   show W.retE (v:=.none) (Î:=H) ?_ ⟨_,N,N,N⟩;show lP (ab (az PP d) (xE (xv 3) (xn 0)) _ H) _=_;rw[e,decide_eq_false z];rfl
 ·have h:D<7:=ż hD λz=>h (congrArg ad9 z)
  show aF (hq h) λl wI hg=>?_;rw[lw,if_neg (Ł h)];show W.retE (aZ ((max a (nA ln D):Nat):Int) _ _ (Gv N N wI hg) (aL (aA N (al (aZ D _ _ N N (Ĕ _) (uI (h7▸h))))) (congrArg (λz=>À (V.int z,H)) (uE ..))) (Ĕ _) (pX (hl h))) ⟨_,N,N,N⟩
theorem rg(ho:1<=o.a)(hr:lF rv (.int ((a-o.a.toNat:Nat):Int)) H=À (dK (rA r (a-o.a.toNat)))):az PP (d+1) 11 [rv,o.v,.int a] H=À (.ok (dK (rR r a o)),H):=by
 show jv N N (W.set (n8 N (aL N (congrArg (λz=>À (V.int z,H)) (u7 ho))) hr) ?_);unfold rR;cases rA r (a-o.a.toNat) with
 |none=>show W.iteT H N (W.retE N ⟨_,N,N,N⟩)
 |some z=>show W.iteF H N (W.nil (W.retE N ⟨_,N,N,N⟩))
end
theorem qK:∀l:List (Option Int),cH ((l.filter aeW).map dK)=À (l.filterMap id)
 |[]=>rfl
 |none::l=>qK l
 |some x::l=>by show (cH ((l.filter aeW).map dK)).bind (λl=>À (x::l))=_;rw[qK l];rfl
theorem Fx(x y:Option Int)(H:ag):AJ .Eq (dK x) (dK y) H=À (decide (x=y)):=by
 cases x with
 |none=>cases y with
  |none=>rfl
  |some y=>rfl
 |some x=>cases y with
  |none=>rfl
  |some y=>show congrArg À ((R5 x y).trans (decide_eq_decide.mpr ⟨congrArg À,Option.some.inj⟩))
theorem N5{H:ag}{i j:Nat}{x y:List V}(hi:H[i]?=À (.lst x))(hj:H[j]?=À (.lst y))(hz:(x++y).length<=ax):oN .Add (.ref i) (.ref j) H=À (.ref H.length,H++[.lst (x++y)]):=(show Ϥ (lst H i) _=_ from dF (c8 hi) (dF (c8 hj) (if_pos hz)))
def Br(os:List bI)(ln:List Nat)(M k:Nat):List (Int×V):=(Đ k).map λb=>(((7-b:Nat):Int),V.tup (jW (gT os ln M (b+1))))
theorem KS(os:List bI)(ln:List Nat)(M k:Nat):Br os ln M (k+1)=Br os ln M k++[(((7-k:Nat):Int),V.tup (jW (gT os ln M (k+1))))]:=by unfold Br;rw[adu,ŝ];rfl
theorem Fq{l:List (Int×V)}{k:Int}{v:V}:(∀p∈l,p.1≠k)->eZ l k v=l++[(k,v)]:=by
 induction l with
 |nil=>show λz=>rfl
 |cons p l ih=>intro h;show (if p.1=k then _ else p::eZ l k v)=_;rw[if_neg (h p G'),ih λq hq=>h q (J' _ hq)];rfl
theorem Fo{l m:List (Int×V)}{k:Int}{v:V}:(∀p∈l,p.1≠k)->i8 (l++(k,v)::m) k=À v:=by
 induction l with
 |nil=>show λz=>if_pos N
 |cons p l ih=>intro h;show (if p.1=k then _ else i8 (l++(k,v)::m) k)=_;rw[if_neg (h p G')];show ih λq hq=>h q (J' _ hq)
theorem Nq{os:List bI}{ln:List Nat}{M k:Nat}(hk:k<7):∀p∈Br os ln M k,p.1≠((7-k:Nat):Int):=λp hp=>by show aF (ş.mp hp) λb hb e=>?_;have hb:=ń.mp hb;rw[<-e];show ((7-b:Nat):Int)≠_;show λq0=>zI (y4 0x1c080811b1010ba027812be178312b32 N (iT hb) (iS _ _) (ϯ (jL (y1 0xc78011b780 N (iT hk)))) q0)
theorem z7{os:List bI}{ln:List Nat}{M b:Nat}:∀{k:Nat},b<k->b<7->i8 (Br os ln M k) ((7-b:Nat):Int)=À (.tup (jW (gT os ln M (b+1)))):=by
 have:∀m,Br os ln M (b+1+m)=Br os ln M b++(((7-b:Nat):Int),V.tup (jW (gT os ln M (b+1))))::(Đ m).map λi=>(((7-(b+1+i):Nat):Int),V.tup (jW (gT os ln M (b+1+i+1)))):=λm=>by unfold Br;rw[List.range_add,ŝ,adu,ŝ,Ć,Ŭ];rfl
 intro k h1 h2;show(aet h1).elim λm e=>?_;rw[e,this];show Fo (Nq h2)
theorem PA(M:Nat):((Đ M).map λj:Nat=>V.int ((j+1:Nat):Int))=cy 1 ((M+1:Nat):Int) 1:=by unfold cy;rw[show i5 1 ((M+1:Nat):Int) 1=M from pU 1 (M+1)];show ŭ λj z=>congrArg V.int (by rw[ϗ];show adK (j:Int) 1)
theorem HT{Á:aw}{U:aM}{H Î Ü:ag}{a b:CE}{n m:Int}(ha:ab Á a U H=À (.int m,Î))(hb:ab Á b U Î=À (.int n,Ü))(hs:(gA m&&gA n)=Æ)(e:cy m n 1=l):cE Á (.rng2 a b) U H=À (l,[],Ü):=(show mJ _ _=_ from tK ha (tK hb ((if_pos hs).trans (by rw[e]))))
theorem C9{H:ag}{r:Nat}{l:List V}{ns:List Int}(hr:H[r]?=À (.lst l))(hi:cH l=À ns):gy .minD [.ref r] H=À (dK (ic ns),H):=(show Ϥ (Ϥ _ _) _=_ from dF (dF (c8 hr) N) (dF hi N))
section
variable{d q D a M:Nat}{H Î:ag}{os:List bI}{ln:List Nat}{nx r:tB}{o:bI}{rv:V}{Á:aw}{U:aM}{x y:CE}
structure nX(os:List bI)(ln:List Nat)(M:Nat):Prop where
 h7:ln.length=7
 oa:∀o∈os,1<=o.a
 ol:os.length<=30
 mx:m7 (ln.map λi:Nat=>(i:Int))=À (M:Int)
 le:∀i,nA ln i<=M
 M2:M<=200
end
def kO(d:Nat)(q:Nat)(D:Nat)(M:Nat)(H:ag)(os:List bI)(ln:List Nat)(nx:tB):Prop:=∀(T:nX os ln M) (hq:D<7->∃l,H[q]?=À (.di l)/\i8 l ((D:Int)+1)=À (.tup (jW nx))) (hl:D<7->nx.length=M+1) (hD:D<=7),pt (d+2) 12 [.tup (os.map bI.v),.tup (bO ln),.ref q,.int D] H λv z=>v=.tup (jW (fq os ln nx D M))
namespace row_callH
def kc:=hc (U8 kO) (0,0,0,0,[],[],[],[])
def d:=kc.1
def q:=kc.2.1
def D:=kc.2.2.1
def M:=kc.2.2.2.1
def H:=kc.2.2.2.2.1
def os:=kc.2.2.2.2.2.1
def ln:=kc.2.2.2.2.2.2.1
def nx:=kc.2.2.2.2.2.2.2
theorem kt:kO d q D M H os ln nx:=by
 intro T hq hl hD
 have go:∀a ae,a<=M->aE H ae->az PP (d+1) 10 [.ref q,.tup (bO ln),.int D,.int a] ae=À (.ok (dK (lw ln nx D a)),ae):=λa ae ha K=>
  qC T.h7 (λh=>aF (hq h) λl h1 h2=>⟨l,K _ _ h1,h2⟩) (λh=>hl h▸ϫ (aee.mpr ⟨ha,T.le D⟩)) hD
 have hz:((os.filter (pT D)).map bI.v).length<=30:=by rw[H'];show z' (abS _ _) T.ol
 show eL N N (W.set (eN (dh N) (dj (p:=pT D) (f:=bI.v) (bx _) λo z=>⟨_,N,nI (af N re),λz=>rfl⟩) (z' hz (by decide))) ?_);have K1:=aE.app H [.lst ((os.filter (pT D)).map bI.v)];have h4:=aB H (.lst ((os.filter (pT D)).map bI.v));generalize H++[.lst ((os.filter (pT D)).map bI.v)]=bi at K1 h4;show W.set (cJ (vs:=[dK (lw ln nx D 0)]) (al (af N (go 0 bi (į _) K1))) (show 1<=ax by decide)) (W.each (xs:=Đ M) (g:=λj:Nat=>V.int ((j+1:Nat):Int)) (cw [À (.tup (os.map bI.v)),À (.tup (bO ln)),À (.ref q),À (.int D),À (.ref H.length),À (.ref bi.length)]) (λj=>ml bi bi.length (jW (fq os ln nx D j))) (λz z=>False) ?_ (ar ⟨N,N,N,N,N,N,trivial⟩) (ml.new _ _) (λz z z=>bx _) (λj x dG hx I=>⟨_,N,?_⟩) (λdG I=>?_) λz z z q=>q.elim)
 ·show HT (n:=((M+1:Nat):Int)) N (aJ (aL N (?_:gy .max1 [.tup (bO ln)] _=À (.int M,_))) N N) (Ņ.mpr ⟨N,Ņ.mpr ⟨decide_eq_true (Ċ (by decide) (Ĕ _)),decide_eq_true (Ŝ.mpr (z' (ŧ T.M2) (by decide)))⟩⟩) (PA M).symm
  show (cH (bO ln)).bind (λns=>((m7 ns).bind λm=>À (V.int m)).bind λv=>À (v,_))=_;rw[sU];show ((m7 (ln.map λi:Nat=>(i:Int))).bind λm=>À (V.int m)).bind _=_;rw[T.mx];rfl
 ·show aP (fo hx) λqx hj=>?_;apply ba qx
  have I1:=I.keep (aE.app dG [.lst [dK (lw ln nx D (j+1))]])
  have ec:=dj (elt:=ab (az PP (d+1)) (.call 11 (a3 (xv 5) (xv 8) (xv 6)))) (cond:=cW (az PP (d+1)) .nil) (t:=.one 8) (w:=[(H.length,.lst ((os.filter (pT D)).map bI.v))]) (U:=cR (cw [À (.tup (os.map bI.v)),À (.tup (bO ln)),À (.ref q),À (.int D),À (.ref H.length),À (.ref bi.length)]) 6 (.int ((j+1:Nat):Int))) (H:=dG++[.lst [dK (lw ln nx D (j+1))]]) (g:=bI.v) (p:=λz=>Æ) (f:=λo=>dK (rR (fq os ln nx D j) (j+1) o)) (gE (I1.hk _ _ h4)) (xs:=os.filter (pT D)) λo ho=>
   ⟨_,N,N,λz=>af N (rg (T.oa o (Š.mp ho).1) (by
    have:=T.oa o (Š.mp ho).1;show ((dG++[bp.lst [dK (lw ln nx D (j+1))]])[bi.length]?).bind (O6 (.int _))=_;rw[I1.hl];show kM (Ĕ _) (pX (by rw[ft];show ϫ (BF this j)))))⟩
  rw[cT]at ec;have Yc:((os.filter (pT D)).map λo=>dK (rR (fq os ln nx D j) (j+1) o)).length<=30:=by rw[H']at hz ⊢;show hz
  have I2:=I1.keep (aE.app _ [.lst ((os.filter (pT D)).map λo=>dK (rR (fq os ln nx D j) (j+1) o))]);have g1:=aE.app _ [.lst ((os.filter (pT D)).map λo=>dK (rR (fq os ln nx D j) (j+1) o))] _ _ (aB dG (.lst [dK (lw ln nx D (j+1))]));show W.set (aJ (cJ (vs:=[dK (lw ln nx D (j+1))]) (al (af N (go (j+1) dG hj (K1.trans I.hk)))) (show 1<=ax by decide)) (eN (ij N (I1.hk _ _ h4)) ec (z' Yc (by decide))) (N5 g1 (aB _ _) (by rw[Ā];show z' (ϝ Yc 1) (by decide)))) ?_;rw[show [dK (lw ln nx D (j+1))]++((os.filter (pT D)).map λo=>dK (rR (fq os ln nx D j) (j+1) o))=(lw ln nx D (j+1)::(os.filter (pT D)).map (rR (fq os ln nx D j) (j+1))).map dK by rw[Œ,Ŭ];rfl];have Yd:(lw ln nx D (j+1)::(os.filter (pT D)).map (rR (fq os ln nx D j) (j+1))).length<=31:=by rw[acb,H'];rw[H']at hz;show ŧ hz
  generalize hp:lw ln nx D (j+1)::(os.filter (pT D)).map (rR (fq os ln nx D j) (j+1))=pl at Yd;have I3:=I2.keep (aE.app _ [.lst (pl.map dK)]);generalize (dG++[.lst [dK (lw ln nx D (j+1))]])++[.lst ((os.filter (pT D)).map λo=>dK (rR (fq os ln nx D j) (j+1) o))]=nT at I2 I3;show W.append bi.length (jW (fq os ln nx D j)) (dK (ic (pl.filterMap id))) _ N I3.hl (aL (al (eN (ij N (aB _ _)) (dj (p:=aeW) (f:=dK) (gE (aB _ _)) λx z=>⟨_,N,nI (b:=x.isSome) (by cases x<;>rfl),λz=>rfl⟩) (by rw[H'];show z' (abS _ _) (z' Yd (by decide))))) (C9 (aB _ _) (qK pl))) ((I3.keep (aE.app _ _)).hl) (by rw[H',ft];show z' (z' hj T.M2) (by decide)) (W.nil (.inl ⟨N,ar ⟨N,N,N,N,N,N,trivial⟩,?_⟩));rw[show jW (fq os ln nx D j)++[dK (ic (pl.filterMap id))]=jW (fq os ln nx D (j+1)) by unfold jW;rw[<-hp];show(ŝ (l₂:=[_])).symm];show(I3.keep (aE.app _ _)).set _
 ·rw[Ŗ]at I
  show W.retE (aL N (bB I.hl (by rw[H',ft];show z' (ŧ T.M2) (by decide)))) ⟨_,N,K1.trans I.hk,N⟩
end row_callH
theorem Hn{os:List bI}:kO d q D M H os ln nx:=hk (P:=U8 kO) row_callH.kt (d,q,D,M,H,os,ln,nx)
section
variable{d q D a M:Nat}{H Î:ag}{os:List bI}{ln:List Nat}{nx r:tB}{o:bI}{rv:V}{Á:aw}{U:aM}{x y:CE}
def dO(os:List bI)(ln:List Nat)(M:Nat):Nat->bp
 |0=>.ds []
 |k+1=>.di (Br os ln M (k+1))
end
def jC(d:Nat)(M:Nat)(H:ag)(os:List bI)(ln:List Nat):Prop:=∀(T:nX os ln M),pt (d+3) 13 [.tup (os.map bI.v),.tup (bO ln)] H λv ae=>∃q,v=.ref q/\ae[q]?=À (.di (Br os ln M 7))
namespace rows_callH
def kc:=hc (U5 jC) (0,0,[],[],[])
def d:=kc.1
def M:=kc.2.1
def H:=kc.2.2.1
def os:=kc.2.2.2.1
def ln:=kc.2.2.2.2
theorem kt:jC d M H os ln:=by
 intro T;show eL N N (W.set (v:=.ref H.length) (Î:=H++[.ds []]) N (W.each (xs:=Đ 7) (cw [À (.tup (os.map bI.v)),À (.tup (bO ln)),À (.ref H.length)]) (λj ae=>aE H ae/\ae[H.length]?=À (dO os ln M j)) (λy y=>False) PC (ar ⟨N,N,N,trivial⟩) ⟨aE.app _ _,aB _ _⟩ (λy y y=>bx _) (λj x bi hx I=>⟨_,N,?_⟩) (λbi I=>W.retE N ⟨_,N,I.1,_,N,I.2⟩) λy y y q=>q.elim));show aP (fo hx) λqx hj=>?_;apply ba qx;show W.set (v:=.int ((7-j:Nat):Int)) (Î:=bi) (congrArg (λz=>À (V.int z,bi)) (by show ņ (y2 0xc0e17810ba1078 N (iS _ _)) (y2 0xce178012be1780 N (ϯ (jL (y1 0xc78011b780 N (iT hj))))))) (fe (Hn (d:=d) (H:=bi) (q:=H.length) (D:=7-j) (nx:=gT os ln M j) T (λh=>?_) (λh=>?_) (Ś _ _)) λv dG e2 k2 q2=>?_)
 ·cases j with
  |zero=>show absurd h (Ŧ 7)
  |succ k=>show⟨_,I.2,by rw[show (((7-(k+1):Nat):Int)+1)=((7-k:Nat):Int) by show ņ (y4 0xc2a18313ba181010ba127812be0783 N (iA _ _) (iS _ _) (ϯ (jL (y1 0xc78011b780 N (iT hj))))) (y4 0xca182312ba181010ba027812be1783 N (iA _ _) (iS _ _) (ϯ (jL (y2 0xc78111b78013ba1810 N (iT hj) (iA _ _)))))];show z7 (ű k) (Ũ hj)⟩
 ·cases j with
  |zero=>show absurd h (Ŧ 7)
  |succ k=>show ft M
 ·rw[q2]at e2
  have h2:=k2 _ _ I.2;show W.setV (Ü:=dG.set H.length (dO os ln M (j+1))) (af N e2) N N ?_ (W.nil (.inl ⟨N,ar ⟨N,N,N,trivial⟩,(I.1.trans k2).set (ē _),fu h2⟩));show (dG[H.length]?).bind (Sy dG H.length _ _)=_;rw[h2];cases j with
  |zero=>rfl
  |succ k=>show (if (Br os ln M (k+1)).length<=ax then À (dG.set H.length (.di (eZ (Br os ln M (k+1)) _ _))) else Ã)=_;rw[if_pos (by unfold Br;rw[H',Ŗ];show z' (Ģ hj) (by decide)),Fq (Nq hj)];show congrArg (λz=>À (dG.set H.length (.di z))) (KS os ln M (k+1)).symm
end rows_callH
theorem Di{os:List bI}:jC d M H os ln:=hk (P:=U5 jC) rows_callH.kt (d,M,H,os,ln)
section
variable{d q D a M:Nat}{H Î:ag}{os:List bI}{ln:List Nat}{nx r:tB}{o:bI}{rv:V}{Á:aw}{U:aM}{x y:CE}
def rP(r:tB)(D a:Nat)(o:bI):Bool:=pT D o&&decide (rR r a o=rA r a)
noncomputable def bS(os:List bI)(i:Nat):bI:=(os[i]?).getD ⟨0,0,0⟩
theorem c9{i:Nat}(h:i<os.length):bS os i∈os:=by unfold bS;rw[N' h];show š h
end
def iB(d:Nat)(D:Nat)(a:Nat)(H:ag)(os:List bI)(r:tB):Prop:=∀(vp:∀o∈os,1<=o.a) (hr:a<r.length) (hp:∃o∈os,rP r D a o=Æ),os.findIdx (rP r D a)<os.length/\rP r D a (bS os (os.findIdx (rP r D a)))=Æ/\az PP (d+2) 14 [.tup (os.map bI.v),.tup (jW r),.int D,.int a] H=À (.ok (.int (os.findIdx (rP r D a):Nat)),H)
namespace first_callH
def kc:=hc (U6 iB) (0,0,0,[],[],[])
def d:=kc.1
def D:=kc.2.1
def a:=kc.2.2.1
def H:=kc.2.2.2.1
def os:=kc.2.2.2.2.1
def r:=kc.2.2.2.2.2
theorem kt:iB d D a H os r:=by
 intro vp hr hp;have cG:os.findIdx (rP r D a)<os.length:=adN hp
 have Xz:rP r D a (bS os (os.findIdx (rP r D a)))=Æ:=by unfold bS;rw[N' cG];show aeM (w:=cG)
 show⟨cG,Xz,jv N N (W.each (xs:=Đ os.length) (cw [Ã,À (.tup (jW r)),À (.int D),À (.int a)]) (λj ae=>ae=H/\j<=os.findIdx (rP r D a)) (λfl ae=>fl=.ret (.int (os.findIdx (rP r D a):Nat))/\ae=H) ((gc (⟨0,0,0⟩:bI) os 0)▸nC N) (ar ⟨N,N,N,trivial⟩) ⟨N,į _⟩ (λy y y=>bx _) (λj x bi hx I=>⟨_,N,?_⟩) (λbi I=>?_) λfl aT ae q=>⟨_,q.1,N,q.2⟩)⟩
 ·show aP (fo hx) λqx hj=>?_;apply ba qx
  show aP I λq1 J6=>?_;apply ba q1;have ho:=c9 hj;have hi:∀i,i<=a->lF (.tup (jW r)) (.int ((i:Nat):Int)) H=À (dK (rA r i)):=λi hi=>kM (Ĕ _) (pX (Ŷ hi hr));show W.ifB (b:=rP r D a (bS os j)) (jy (af N re) (bU (af N (rg (r:=r) (vp _ ho) (hi _ (Ś _ _)))) (n8 N N (hi a (ē a))) (Fx ..))) (λhb=>?_) λhb=>W.nil (W.nil (.inl ⟨N,ar ⟨N,N,N,trivial⟩,N,?_⟩))
  ·have e:os.findIdx (rP r D a)=j:=Ű (ľ.mp λz=>by
    have:=List.not_of_lt_findIdx z;unfold bS at hb;rw[N' hj]at hb;show Ļ (this.symm.trans hb)) J6
   rw[e];show W.retE (congrArg (λz:Nat=>À (V.int z,H)) (ϋ j)) (.inr ⟨(λq=>nomatch q),N,N⟩)
  ·show ż J6 λz=>?_
   rw[z]at hb;show Ļ (hb.symm.trans Xz)
 ·rw[Ŗ]at I
  show absurd cG (ľ.mpr I.2)
end first_callH
theorem yX{os:List bI}:iB d D a H os r:=hk (P:=U6 iB) first_callH.kt (d,D,a,H,os,r)
section
variable{Á:aw}{aD body:fx}{Q:cA->aM->ag->Prop}{c:CE}
theorem BP{I:Nat->aM->ag->Prop}(step:∀n a H,I n a H->∃b,ab Á c a H=À (.bool b,H)/\(b=Ê->W Á aD a H Q)/\(b=Æ->∃m,n=m+1/\W Á body a H λfl aT ae=>fl=.next/\∃a',Le a' aT/\I m a' ae)):
  ∀F n,n<F->∀(a U:aM) (H:ag),Le a U->I n a H->∃p6 σe b,oL (bW Á c) (aN Á body) F U H=À (.next,p6,σe)/\Le b p6/\W Á aD b σe Q
 |0,_,h=>absurd h (adr _)
 |F+1,n,h=>λa U H hl hI=>by
  show eK (step n a H hI) λb h1 h2 h3=>?_;show ∃p6 σe b,cg (bW Á c U H) (λb ae=>if b then ir (aN Á body U ae) (λiv il=>oL (bW Á c) (aN Á body) F iv il) else À (.next,U,ae))=À (.next,p6,σe)/\Le b p6/\W Á aD b σe Q;rw[bN (aH c hl h1)];cases b with
  |false=>show⟨U,H,a,N,hl,h2 N⟩
  |true=>show aF (h3 rfl) λm e hb=>?_;obtain ⟨fl,b,aT,ae,g1,g2,rfl,a',g3,g4⟩:=hb U hl;show tU (BP step F m (by rw[e]at h;show adL h) a' aT ae (g3.trans g1) g4) λp6 σe b k1 k2 k3=>⟨p6,σe,b,?_,k2,k3⟩;show ir (aN Á body U H) _=_;rw[g2];show k1
theorem W.whl(I:Nat->aM->ag->Prop)(hn:n<100000)(h:I n a H)(step:∀n a H,I n a H->∃b,ab Á c a H=À (.bool b,H)/\(b=Ê->W Á aD a H Q)/\(b=Æ->∃m,n=m+1/\W Á body a H λfl aT ae=>fl=.next/\∃a',Le a' aT/\I m a' ae)):W Á (.cons (.while_ c body) aD) a H Q:=λr hl=>by show tU (BP step kU n hn a r H hl h) λp6 σe b k1 k2 k3=>Ej (k3 p6 k2) λfl b SW dY g1 g2 g3=>⟨fl,b,SW,dY,g1,?_,g3⟩;show ir (oL (bW Á c) (aN Á body) kU r H) (aN Á aD)=_;rw[k1];show g2
end
def ck(g:bI->Int)(os:List bI)(cs:List Int):Int:=aX ((Đ os.length).map λi=>g (bS os i)*bv cs i)
def jY(f:bI->Int)(t:Nat)(o:bI):Int:=if (t:Int)<o.l then f o else 0
theorem kE{f g:α->Int}:∀{l:List α},(∀x∈l,f x<=g x)->aX (l.map f)<=aX (l.map g)
 |[],_=>Ĭ _
 |x::l,h=>by rw[Œ,Œ,aU,aU];show ada (h x G') (kE λy hy=>h y (J' _ hy))
theorem HY(f:Nat->Int)(x:Int)(k:Nat):∀n,aX ((Đ n).map λi=>f i+if i=k then x else 0)=aX ((Đ n).map f)+if k<n then x else 0
 |0=>rfl
 |n+1=>by
  rw[adu,ŝ,ŝ,jl,jl,HY f x k n];show _+(0+(f n+if n=k then x else 0))=_+(0+f n)+_;rcases ae4 k n with h|h|h
  ·rw[if_pos h,if_neg (ō h),if_pos (acf h)];show ņ (y3 0xca1aa2080aaa08208a10 N) (y3 0xcaaa08108a20a2aa1080 N)
  ·rw[if_neg (by show λq0=>zI (y2 0x1c080813b1011b10 N (iE h) (iT q0))),if_pos h.symm,if_pos (by show jT (y3 0x1c2012b1013ba1812 N (iE h) (iA _ _)))];show ņ (y3 0xca2aa1080aaa2108a080 N) (y3 0xcaaa2108a080a2aa1080 N)
  ·rw[if_neg (by show λq0=>zI (y2 0x1c080811b1011b01 N (iT h) (iT q0))),if_neg (by show λq0=>zI (y2 0x1c080811b1013b10 N (iT h) (iE q0))),if_neg (by show λq0=>zI (y3 0x1c080811b1012ba180211b21 N (iT h) (iA _ _) (iT q0)))];show ņ (y2 0xca08aa1080aaa08108a080 N) (y2 0xcaaa08108a080a08aa1080 N)
section
variable{os:List bI}{ln:List Nat}{M n c a t k:Nat}{cs:List Int}
theorem mR(g:bI->Int)(x:Int)(hk:k<os.length)(hl:cs.length=os.length):ck g os (cs.set k (bv cs k+x))=ck g os cs+g (bS os k)*x:=by
 unfold ck;rw[<-if_pos (c:=k<os.length) (t:=g (bS os k)*x) (e:=0) hk,<-HY];show congrArg aX (ŭ λi z=>?_);rw[pQ (hl▸hk)];by_cases h:k=i
 ·rw[if_pos h,if_pos h.symm,h,aej]
 ·rw[if_neg h,if_neg (Ne.symm h),Ť]
noncomputable def IK(os:List bI)(ln:List Nat)(M:Nat):Nat->Nat->Nat->List Int->List Int
 |0,_,_,cs=>cs
 |n+1,c,a,cs=>match c with
  |0=>cs
  |c+1=>if rA (gT os ln M (c+1)) a=lw ln (gT os ln M c) (7-c) a then IK os ln M n c (max a (nA ln (7-c))) cs
   else IK os ln M n (c+1) (a-(bS os (os.findIdx (rP (gT os ln M (c+1)) (7-c) a))).a.toNat) (cs.set (os.findIdx (rP (gT os ln M (c+1)) (7-c) a)) (bv cs (os.findIdx (rP (gT os ln M (c+1)) (7-c) a))+1))
def L5(os:List bI)(ln:List Nat)(M:Nat):Nat->Nat->Prop
 |0,a=>a=0
 |c+1,a=>c<7/\a<=M/\(rA (gT os ln M (c+1)) a).isSome=Æ
theorem s7(h:c<7):8-c=7-c+1:=Nat.succ_sub (Ģ h)
theorem BU(h:(c+1)*(M+1)+a<=0):False:=ad1 M (z' (z' (adH (M+1) (Ŵ c)) (Ō _ a)) h)
theorem NE(hn:(c+1)*(M+1)+a<=n+1)(h:k<=M):c*(M+1)+k<=n:=adM (z' (ŧ (ϝ h _)) (z' (ň (Nat.succ_mul c (M+1)).symm) (z' (Ō _ a) hn)))
theorem NF{x:Int}(hn:k+a<=n+1)(ha:0<a)(h:1<=x):k+(a-x.toNat)<=n:=adM (z' (aeQ (Ϛ ha (afe.mpr h)) k) hn)
theorem LB:IK os ln M n 0 a cs=cs:=by cases n<;>rfl
theorem n7(T:nX os ln M):nA ln 7=0:=by unfold nA;rw[ϳ (ň T.h7)];rfl
theorem ND(T:nX os ln M)(h:L5 os ln M (c+1) a)(e:rA (gT os ln M (c+1)) a=lw ln (gT os ln M c) (7-c) a):L5 os ln M c (max a (nA ln (7-c))):=by
 show io h λh1 h2 h3=>?_;rw[e,lw]at h3;cases c with
 |zero=>
  rw[if_pos N]at h3;have:a=0:=abK λz=>by rw[if_neg z]at h3;show nomatch h3
  show max a (nA ln 7)=0;rw[this,n7 T];rfl
 |succ c=>rw[if_neg (by show λq0=>zI (y3 0x1c080810b00813ba180112be178213b782 N (iP _) (iA _ _) (ϯ (jL (y1 0xc78011b780 N (iT h1)))) (iE q0)))]at h3;show⟨Ũ h1,aee.mpr ⟨h2,T.le _⟩,h3⟩
theorem BV(T:nX os ln M)(h:L5 os ln M (c+1) a)(e:rA (gT os ln M (c+1)) a≠lw ln (gT os ln M c) (7-c) a):0<a/\∃o∈os,rP (gT os ln M (c+1)) (7-c) a o=Æ:=by show io h λh1 h2 h3=>?_;have R:=Bu (ln:=ln) (M:=M) T.oa c;show⟨Ϸ λz=>e (z▸R.zero),eK (R.pick a h2 h3 e) λo ho p1 p2=>⟨o,ho,Ņ.mpr ⟨p1,decide_eq_true p2⟩⟩⟩
theorem BR(T:nX os ln M)(h:L5 os ln M (c+1) a){o:bI}(hp:rP (gT os ln M (c+1)) (7-c) a o=Æ):L5 os ln M (c+1) (a-o.a.toNat):=by show io h λh1 h2 h3=>⟨h1,z' (Ś _ _) h2,?_⟩;have:=of_decide_eq_true (Ņ.mp hp).2;rw[<-this,rR,Option.isSome_map]at h3;show h3
structure N3(os:List bI)(ln:List Nat)(M:Nat)(B:Int)(c a:Nat)(cs Fm:List Int):Prop where
 len:Fm.length=os.length
 bd:∀x∈Fm,0<=x/\x<=B
 cost:∀v,(if c=0 then À 0 else rA (gT os ln M c) a)=À v->ck bI.p os Fm=ck bI.p os cs+v
 held:∀t,t<7->ck (jY bI.a t) os cs+(if t<8-c then (a:Int) else nA ln t)<=ck (jY bI.a t) os Fm
end
def vi(os:List bI)(ln:List Nat)(M:Nat)(B:Int):Prop:=∀(T:nX os ln M),∀n {c a:Nat} {cs:List Int},L5 os ln M c a->c*(M+1)+a<=n->cs.length=os.length->(∀x∈cs,0<=x/\x+n<=B)->N3 os ln M B c a cs (IK os ln M n c a cs)
namespace wk_okH
def kc:=hc (U4 vi) ([],[],0,0)
def os:=kc.1
def ln:=kc.2.1
def M:=kc.2.2.1
def B:=kc.2.2.2
theorem kt:vi os ln M B:=by
 intro T;have z:∀(n:Nat) {a:Nat} {cs:List Int},L5 os ln M 0 a->cs.length=os.length->(∀x∈cs,0<=x/\x+n<=B)->N3 os ln M B 0 a cs cs:=λn a cs h hl hb=>⟨hl,λx hx=>⟨(hb x hx).1,by have:=hb x hx;show y3 0xc2010b2a1010b108 N this.2 (iP _)⟩,λv hv=>by rw[<-sm (show À (0:Int)=À v from hv),Ť],λt ht=>by rw[if_pos (acf ht),show a=0 from h];show ŵ (Ť _)⟩;intro n
 induction n with
 |zero=>
  intro c a cs h hn hl hb;cases c with
  |zero=>show z 0 h hl hb
  |succ c=>show(BU hn).elim
 |succ n ih=>
  intro c a cs h hn hl hb;cases c with
  |zero=>show z (n+1) h hl hb
  |succ c=>
   have h2:=h.2.1;show N3 os ln M B (c+1) a cs (if rA (gT os ln M (c+1)) a=lw ln (gT os ln M c) (7-c) a then _ else _);by_cases e:rA (gT os ln M (c+1)) a=lw ln (gT os ln M c) (7-c) a
   ·rw[if_pos e]
    have:=ih (ND T h e) (NE hn (aee.mpr ⟨h2,T.le _⟩)) hl λx hx=>⟨(hb x hx).1,by have:=(hb x hx).2;show y4 0xc2a3010b2a1013ba1831 N this (iA _ _)⟩;have hc:=h.1;show⟨this.len,this.bd,λv hv=>this.cost v ?_,λt ht=>Ċ (acT ?_ _) (this.held t ht)⟩
    ·rw[if_neg (acd c),e,lw]at hv
     cases c with
     |zero=>
      rw[if_pos N]at hv;by_cases z:a=0
      ·rw[if_pos z]at hv;show hv
      ·rw[if_neg z]at hv;show no hv
     |succ c=>rw[if_neg (Ł (Ϛ (by decide) (Ŵ c)))]at hv;rw[if_neg (acd c)];show hv
    by_cases q:t<8-(c+1)
    ·rw[if_pos q,if_pos (Į q (ad7 (ϓ c) 8))];show Ŝ.mpr (afv ..)
    ·rw[if_neg q]
     by_cases q2:t<8-c
     ·rw[if_pos q2,show t=7-c from Ű (ϐ (Į q2 (ň (s7 hc)))) (ľ.mp (ac3 7 1 c▸q))];show Ŝ.mpr (adW ..)
     ·rw[if_neg q2];show y1 0xc00 N
   ·rw[if_neg e]
    show aP (BV T h e) λha hp=>?_;have hk:os.findIdx (rP (gT os ln M (c+1)) (7-c) a)<os.length:=adN hp
    have Gj:rP (gT os ln M (c+1)) (7-c) a (bS os (os.findIdx (rP (gT os ln M (c+1)) (7-c) a)))=Æ:=by unfold bS;rw[N' hk];show aeM (w:=hk)
    generalize os.findIdx (rP (gT os ln M (c+1)) (7-c) a)=k at hk Gj;have Qc:=T.oa _ (c9 hk)
    have O5:∀x∈cs.set k (bv cs k+1),0<=x/\x+n<=B:=λx hx=>(acp hx).elim (λq=>by have:=hb x q;show⟨y1 0xc00810b008 N this.1,y4 0xc2a3010b2a1013ba1831 N this.2 (iA _ _)⟩) λq=>by have:=hb (bv cs k) (by unfold bv;rw[N' (hl▸hk)];show š _);show⟨y2 0xc00813ba181010b108 N q this.1,y5 0xc3a4012ba181010b3a2113ba1842 N q this.2 (iA _ _)⟩
    have:=ih (BR T h Gj) (NF hn ha Qc) ((Ϻ ..).trans hl) O5;show⟨this.len,this.bd,λv hv=>?_,λt ht=>Ċ ?_ (this.held t ht)⟩
    ·rw[if_neg (acd c),<-of_decide_eq_true (Ņ.mp Gj).2]at hv
     show aF (ϧ.mp hv) λv' h1 h2=>?_;rw[this.cost v' ((if_neg (acd c)).trans h1),mR _ _ hk hl,<-h2,ϗ,Ż,adK v']
    rw[mR _ _ hk hl,ϗ,Ż];show acT ?_ _;have hd:=beq_iff_eq.mp (Ņ.mp Gj).1;have hc:=h.1;by_cases q:t<8-(c+1)
    ·unfold jY
     rw[if_pos q,if_pos q,if_pos (ab9 (Ř.mpr (ac3 7 1 c▸q)) (hd▸acK _ _))];show y4 0xca13010ba21012b32 N (iS _ _) (ϥ (y1 0xc00810b018 N Qc))
    ·rw[if_neg q,if_neg q]
     show aeh ?_;unfold jY;split
     ·show Ċ (by decide) Qc
     ·show Ĭ 0
end wk_okH
theorem SS{os:List bI}:vi os ln M B:=hk (P:=U4 vi) wk_okH.kt (os,ln,M,B)
section
variable{os:List bI}{ln:List Nat}{M n c a t k:Nat}{cs:List Int}{g g':bI->Int}
theorem kl(hc:∀x∈cs,0<=x)(i:Nat):0<=bv cs i:=by
 unfold bv;cases h:cs[i]? with
 |none=>show Ĭ 0
 |some x=>show hc x (Ĥ h)
theorem BJ(l:List α):aX (l.map λz=>(0:Int))=0:=by rw[afw,nj,ό]
theorem ug(h:∀i,i<os.length->g (bS os i)*bv cs i<=g' (bS os i)*bv cs i):ck g os cs<=ck g' os cs:=kE λi hi=>h i (ń.mp hi)
theorem qA(h:∀o∈os,0<=g o)(t:Nat):∀o∈os,0<=jY g t o:=λo ho=>by
 unfold jY;split
 ·show h o ho
 ·show Ĭ 0
theorem pL(hg:∀o∈os,0<=g o)(hc:∀x∈cs,0<=x):0<=ck g os cs:=Ċ (ŵ (BJ (Đ os.length)).symm) (kE λi hi=>aef (hg _ (c9 (ń.mp hi))) (kl hc i))
structure Sv(os:List bI)(ln:List Nat)(M t a:Nat)(cs:List Int):Prop where
 le:a<=M
 len:cs.length=os.length
 nn:∀x∈cs,0<=x
 now:(a:Int)<=ck (jY bI.a t) os cs
 then_:∀u,t<u->u<7->(nA ln u:Int)<=ck (jY bI.a u) os cs
theorem GP(T:nX os ln M)(hD:t+c=6)(go:∀a cs,Sv os ln M t a cs->(∀i,i<os.length->pT (t+1) (bS os i)=Æ->0<bv cs i->a=0)->∃w,lw ln (gT os ln M c) (t+1) a=À w/\w<=ck (jY bI.p t) os cs):∀a cs,Sv os ln M t a cs->∃v,rA (gT os ln M (c+1)) a=À v/\v<=ck (jY bI.p t) os cs:=by
 have R:ED os ln (gT os ln M c) (gT os ln M (c+1)) (t+1) M:=(Nat.sub_eq_of_eq_add (by rw[Ϭ,hD]):7-c=t+1)▸Bu T.oa c;intro a
 induction a using Nat.strongRecOn with
 |_ a ih=>
  intro cs S;by_cases q:∃i,i<os.length/\pT (t+1) (bS os i)=Æ/\0<bv cs i/\0<a
  ·show vo q λi hi ho Rq h0=>?_
   have oa:=T.oa _ (c9 hi);have hm:=beq_iff_eq.mp ho;have cG:(t:Int)<(bS os i).l:=ab9 (Ř.mpr (ű t)) (hm▸acK _ _);have hc:∀x∈cs.set i (bv cs i+-1),0<=x:=λx hx=>(acp hx).elim (S.nn x) λe=>by rw[e];show ϱ Rq
   have e:=λg=>mR g (-1) hi S.len;have e1:∀f:bI->Int,jY f t (bS os i)*-1 =-f (bS os i):=λf=>by unfold jY;rw[if_pos cG,Int.mul_neg,ϗ]
   show aF (ih (a-(bS os i).a.toNat) (Ϛ h0 (afe.mpr oa)) (cs.set i (bv cs i+-1)) ⟨z' (Ś _ _) S.le,(Ϻ ..).trans S.len,hc,?_,λu h3 h4=>?_⟩) λv hv J6=>?_
   ·rw[<-u7 oa]
    show aeD.mpr ⟨pL (qA (λo ho=>Ċ (by decide) (T.oa o ho)) t) hc,?_⟩;rw[e,e1];show acv S.now _
   ·rw[e,show jY bI.a u (bS os i)=0 from if_neg λz=>?_,ό,Ť]
    ·show S.then_ u h3 h4
    ·have:(u:Int)<min (bS os i).l 7:=Int.lt_min.mpr ⟨z,Ř.mpr h4⟩
     rw[hm]at this;show Ŧ _ (Į (Ř.mp this) h3)
   ·rw[e,e1]at J6
    show aF (R.le a (v+(bS os i).p) S.le (.inr ⟨h0,_,c9 hi,ho,by unfold rR;rw[hv];rfl⟩)) λv' h5 h6=>⟨v',h5,Ċ h6 ?_⟩;show Ċ (acv J6 _) (ŵ (Int.neg_add_cancel_right _ _))
  ·show aF (go a cs S λi hi ho Rq=>aci λz=>q ⟨i,hi,ho,Rq,z⟩) λw h3 h4=>aF (R.le a w S.le (.inl h3)) λv h5 h6=>⟨v,h5,Ċ h6 h4⟩
theorem KU(T:nX os ln M)(hp:∀o∈os,0<=o.p)(c:Nat):∀t,t+c=6->∀a cs,Sv os ln M t a cs->∃v,rA (gT os ln M (c+1)) a=À v/\v<=ck (jY bI.p t) os cs:=by
 have oa:∀o∈os,0<=o.a:=λo ho=>Ċ (by decide) (T.oa o ho);have zz:∀{a:Nat} {cs:List Int} {t i},Sv os ln M t a cs->(0<bv cs i->a=0)->0<a->bv cs i=0:=λ{a cs t i} S h h0=>ņ (ŉ.mp λz=>ō h0 (h z)) (kl S.nn i)
 induction c with
 |zero=>
  intro t ht;show GP T ht λa cs S h=>?_;have h6:t=6:=ht;unfold lw;rw[if_pos (congrArg ad0 h6)];by_cases z:a=0
  ·rw[if_pos z];show⟨0,N,pL (qA hp t) S.nn⟩
  ·have h0:=Ϸ z
   show absurd (Ċ S.now (Ċ (kE (g:=λy=>0) λi hi=>?_) (ŵ (BJ _)))) (adS.mpr (Ř.mpr h0));have hi:=ń.mp hi;by_cases q:(t:Int)<(bS os i).l
   ·rw[zz S (h i hi (beq_iff_eq.mpr (by rw[h6]at q ⊢;show acq q))) h0,ade];show Ĭ 0
   ·rw[show jY bI.a t (bS os i)=0 from if_neg q,ό];show Ĭ 0
 |succ c ih=>
  intro t ht;have h7:t+1<7:=ϫ (z' (ϝ (Ŵ c) t) (ň ht));show GP T ht λa cs S h=>?_;unfold lw;rw[if_neg (Ł h7)]
  have st:∀(f:bI->Int),(∀o∈os,0<=f o)->ck (jY f (t+1)) os cs<=ck (jY f t) os cs:=λf hf=>ug λi hi=>by
   show adZ ?_ (kl S.nn i);unfold jY;by_cases q:((t+1:Nat):Int)<(bS os i).l
   ·rw[if_pos q,if_pos (acV (Ř.mpr (ű t)) q)];show Ĭ _
   ·rw[if_neg q]
    split
    ·show hf _ (c9 hi)
    ·show Ĭ 0
  show aF (ih (t+1) (by rw[Ϭ];show ht) (max a (nA ln (t+1))) cs ⟨aee.mpr ⟨S.le,T.le _⟩,S.len,S.nn,?_,λu hu=>S.then_ u (Ũ hu)⟩) λv h1 h2=>⟨v,h1,Ċ h2 (st bI.p hp)⟩;rw[<-uE];show aeD.mpr ⟨?_,S.then_ _ (ű t) h7⟩;cases hz:a with
  |zero=>show pL (qA oa _) S.nn
  |succ b=>
   rw[<-hz];show Ċ S.now (ug λi hi=>?_);unfold jY;by_cases q:((t+1:Nat):Int)<(bS os i).l
   ·rw[if_pos q]
    split
    ·show Ĭ _
    ·rw[ό];show aef (oa _ (c9 hi)) (kl S.nn i)
   ·rw[if_neg q]
    by_cases q2:(t:Int)<(bS os i).l
    ·rw[zz S (h i hi (beq_iff_eq.mpr (by rw[show (bS os i).l=((t+1:Nat):Int) from ņ (ŉ.mp q) q2];show acy (Ŝ.mpr (Ģ h7))))) (hz▸Ŵ b),ade,ade];show Ĭ 0
    ·rw[if_neg q2];show Ĭ _
end
def Je(os:List bI)(ln:List Nat)(M:Nat):Option (List Int):=if (rA (gT os ln M 7) (nA ln 0)).isSome then À (IK os ln M 1700 7 (nA ln 0) (ś os.length 0)) else Ã
noncomputable def W5:Option (List Int)->V
 |none=>.none
 |some cs=>.tup (cs.map .int)
section
variable{os:List bI}{ln:List Nat}{M d c a n:Nat}{H:ag}
theorem SR(h0:a<=M)(h1:M<=200):7*(M+1)+a<=1700:=z' (ϭ (adn 7 (ŧ h1)) (z' h0 h1)) (by decide)
theorem F7(g:bI->Int)(os:List bI):ck g os (ś os.length 0)=0:=by show Eq.trans (congrArg aX (ŭ λi hi=>?_)) (BJ (Đ os.length));rw[show bv (ś os.length 0) i=0 by unfold bv;rw[aew,if_pos (ń.mp hi)];rfl,ade]
structure Yx(os:List bI)(ln:List Nat)(M:Nat)(cs:List Int):Prop where
 len:cs.length=os.length
 bd:∀x∈cs,0<=x/\x<=1700
 held:∀t,t<7->(nA ln t:Int)<=ck (jY bI.a t) os cs
 cost:rA (gT os ln M 7) (nA ln 0)=À (ck bI.p os cs)
theorem vK(T:nX os ln M){cs:List Int}(h:Je os ln M=À cs):Yx os ln M cs:=by
 unfold Je at h;cases hv:rA (gT os ln M 7) (nA ln 0) with
 |none=>rw[hv]at h;show nomatch h
 |some v=>
  have q:(rA (gT os ln M 7) (nA ln 0)).isSome=Æ:=by rw[hv];rfl
  rw[if_pos q]at h;have h0:=T.le 0;have h1:=T.M2;have W:=SS T (B:=1700) 1700 (c:=7) (a:=nA ln 0) (cs:=ś os.length 0) ⟨by decide,h0,q⟩ (SR h0 h1) ϲ λx hx=>by rw[(ac0.mp hx).2];decide
  rw[sm h]at W;show⟨W.len,W.bd,λt ht=>?_,by rw[hv,W.cost v hv,F7,ť]⟩;have:=W.held t ht;rw[F7]at this;by_cases z:t<1
  ·rw[if_pos z,ť]at this;show(congrArg (nA ln) (Nat.lt_one_iff.mp z))▸this
  ·rw[if_neg z,ť]at this;show this
theorem E1(T:nX os ln M)(hp:∀o∈os,0<=o.p){cs:List Int}(S:Sv os ln M 0 (nA ln 0) cs):∃bs,Je os ln M=À bs/\ck bI.p os bs<=ck bI.p os cs:=by
 show aF (KU T hp 6 0 N _ cs S) λv h1 h2=>?_;cases hb:Je os ln M with
 |none=>unfold Je at hb;rw[h1]at hb;show nomatch hb
 |some bs=>
  show⟨bs,N,?_⟩;rw[sm ((vK T hb).cost.symm.trans h1)];show Ċ h2 (ug λi hi=>adZ ?_ (kl S.nn i));unfold jY;split
  ·show Ĭ _
  ·show hp _ (c9 hi)
abbrev Oh(os:List bI)(ln:List Nat)(q r D a:Nat):aM:=cw [À (.tup (os.map bI.v)),À (.tup (bO ln)),À (.ref q),À (.int (D:Nat)),À (.int (a:Nat)),À (.ref r)]
structure WU(os:List bI)(ln:List Nat)(M q r:Nat)(H:ag)(mq:List Int)(n:Nat)(U:aM)(ae:ag)(c a:Nat)(cs:List Int):Prop where
 e:U=Oh os ln q r (8-c) a
 o:ml H r (cs.map .int) ae
 s:L5 os ln M c a
 hn:c*(M+1)+a<=n
 l:cs.length=os.length
 w:IK os ln M n c a cs=mq
end
def gN(os:List bI)(ln:List Nat)(M:Nat)(d:Nat)(H:ag):Prop:=∀(T:nX os ln M),pt (d+4) 15 [.tup (os.map bI.v),.tup (bO ln)] H λv z=>v=W5 (Je os ln M)
namespace bought_callH
def kc:=hc (U5 gN) ([],[],0,0,[])
def os:=kc.1
def ln:=kc.2.1
def M:=kc.2.2.1
def d:=kc.2.2.2.1
def H:=kc.2.2.2.2
theorem kt:gN os ln M d H:=by
 intro T;show eL N N (fe (Di (d:=d) (H:=H) T) λv bi e1 K1 q1=>aF q1 λq q1 hq=>?_);rw[q1]at e1;have h0:=T.le 0
 have Yn:∀(ae:ag) (U:aM) (c a:Nat),c<7->a<=M->ae[q]?=À (.di (Br os ln M 7))->U 2=À (.ref q)->U 3=À (.int ((7-c:Nat):Int))->U 4=À (.int a)->ab (az PP (d+3)) (.idx (xv 2) (xv 3)) U ae=À (.tup (jW (gT os ln M (c+1))),ae)/\ab (az PP (d+3)) (.idx (.idx (xv 2) (xv 3)) (xv 4)) U ae=À (dK (rA (gT os ln M (c+1)) a),ae):=λae U c a hc ha hq g2 g3 g4=>by have e:=Gv (Á:=az PP (d+3)) (aC g2) (aC g3) hq (z7 hc hc);show⟨e,aZ a _ _ e (aC g4) (Ĕ _) (pX (Ŷ ha (by rw[show (gT os ln M (c+1)).length=M+1 from ft M];show ű M)))⟩
 show W.set (af N e1) (W.set (v:=.int ((7-6:Nat):Int)) N (W.set (aZ 0 _ (.int (nA ln 0:Nat)) N N (by decide) (uI (i:=0) (by rw[T.h7];decide))) ?_));have e6:=(Yn bi (cR (cR (cR (bu [.tup (os.map bI.v),.tup (bO ln)]) 2 (.ref q)) 3 (.int ((7-6:Nat):Int))) 4 (.int (nA ln 0:Nat))) 6 (nA ln 0) (by decide) h0 hq N N N).2;unfold Je;have en:∀x:Option Int,Kg (dK x) .none=À (!x.isSome):=λx=>by cases x<;>rfl
 show W.ifB (bU e6 N (en _)) (λhb=>?_) λhb=>W.nil ?_
 ·rw[if_neg (by rw[ϔ]at hb;rw[hb];show Ļ)]
  show W.retE N ⟨_,N,K1,N⟩
 have hs:(rA (gT os ln M 7) (nA ln 0)).isSome=Æ:=by rw[adw]at hb;show hb
 rw[if_pos hs];show gm (nQ (Á:=az PP (d+3)) (U:=cR (cR (cR (bu [.tup (os.map bI.v),.tup (bO ln)]) 2 (.ref q)) 3 (.int ((7-6:Nat):Int))) 4 (.int (nA ln 0:Nat))) (H:=bi) (n:=os.length) (e:=.prim .len (a1 (xv 0))) (λae=>aL N ((iC _).trans (by rw[H']))) (z' T.ol (by decide))) λr dG e2 û=>W.set e2 ?_;have Zc:=T.M2;show W.le (a:=Oh os ln q r 1 (nA ln 0)) (ar ⟨N,N,N,N,N,N,trivial⟩) (W.whl (n:=1700) (λn U ae=>∃c a cs,WU os ln M q r bi (IK os ln M 1700 7 (nA ln 0) (ś os.length 0)) n U ae c a cs) (by decide) ⟨7,_,_,rfl,û,⟨by decide,h0,hs⟩,SR h0 Zc,ϲ,rfl⟩ λn U dY I=>yO I λc a cs I=>?_);apply ba I.e;have RS:=I.o.hk _ _ hq;cases c with
 |zero=>show⟨Ê,N,λj=>W.retE (aL N (bB I.o.hl (by rw[H',I.l];show z' T.ol (by decide)))) ⟨_,N,K1.trans I.o.hk,?_⟩,λq=>nomatch q⟩;rw[<-I.w,LB];rfl
 |succ c=>
  have S:=I.s;show io (id S) λhc ha h3=>?_;rw[show 8-(c+1)=7-c from ac3 7 1 c];show⟨Æ,congrArg (λb=>À (V.bool b,dY)) (decide_eq_true (Ŝ.mpr (Ś _ _))),(λq=>nomatch q),λj=>?_⟩;have hn:=I.hn;have hw:=I.w;cases n with
  |zero=>show(BU hn).elim
  |succ n=>
   show⟨n,N,(aP (Yn dY (Oh os ln q r (7-c) a) c a hc ha RS N N N) λer ea=>?_)⟩
   have eg:=qC (d:=d+2) (H:=dY) (q:=q) (D:=7-c) (a:=a) (nx:=gT os ln M c) T.h7 (λh=>⟨_,RS,by
    cases c with
    |zero=>show absurd h (Ŧ 7)
    |succ b=>rw[show (((7-(b+1):Nat):Int)+1)=((7-b:Nat):Int) from congrArg ad9 (Nat.succ_pred_eq_of_pos (ab5 (Ũ hc)))];show z7 (Ũ hc) (Ũ hc)⟩) (λh=>by
    cases c with
    |zero=>show absurd h (Ŧ 7)
    |succ b=>rw[show (gT os ln M (b+1)).length=M+1 from ft M];show ϫ (aee.mpr ⟨ha,T.le _⟩)) (Ś _ _)
   show W.if_ (bU ea (af N eg) (Fx ..)) (λe=>?_) λe=>?_
   ·rw[IK,if_pos e]at hw
    have G:=ND T S e
    have ip:∀x:Nat,x=max a (nA ln (7-c))->W (az PP (d+3)) (dL (sa 3 (xA (xv 3) (xn 1)))) (Oh os ln q r (7-c) x) dY (TQ (az PP (d+3)) .nil λfl aT ae=>fl=.next/\∃a',Le a' aT/\∃c a cs,WU os ln M q r bi (IK os ln M 1700 7 (nA ln 0) (ś os.length 0)) n a' ae c a cs):=λx hx=>by show W.set (v:=.int ((8-c:Nat):Int)) (congrArg (λz=>À (V.int z,dY)) (congrArg ad9 (s7 hc).symm)) (W.nil (W.nil ⟨N,Oh os ln q r (8-c) x,ar ⟨N,N,N,N,N,N,trivial⟩,c,x,cs,N,I.o,hx▸G,?_,I.l,hx▸hw⟩));show hx▸NE hn (aee.mpr ⟨ha,T.le _⟩)
    show W.if_ (p:=((7-c:Nat):Int)<7) N (λh=>?_) λh=>W.nil (ip a ?_)
    ·show W.set (aL (aA N (al (aZ ((7-c:Nat):Int) _ _ N N (Ĕ _) (uI (by rw[T.h7];show Ř.mp h))))) (congrArg (λz=>À (V.int z,dY)) (uE ..))) (W.nil (W.le (a:=Oh os ln q r (7-c) (max a (nA ln (7-c)))) (ar ⟨N,N,N,N,N,N,trivial⟩) (ip _ N)))
    ·rw[show 7-c=7 from Ű (Ś _ _) (Ŝ.mp (ŉ.mp h)),n7 T];show(Nat.max_zero a).symm
   ·rw[IK,if_neg e]at hw
    show aP (BV T S e) λFZ hp=>io (yX (d:=d+1) (H:=dY) T.oa (r:=gT os ln M (c+1)) (Ŷ ha (by rw[show (gT os ln M (c+1)).length=M+1 from ft M];show ű M)) hp) λhk Gj ef=>?_;generalize os.findIdx (rP (gT os ln M (c+1)) (7-c) a)=k at hk Gj ef hw;have Qc:=T.oa _ (c9 hk);show W.set (af (aA N (aA er (aA N (al N)))) ef) (W.setItem0 r k (cs.map .int) (.int (bv cs k+1)) (aJ (br r k _ _ N N I.o.hl (Ĕ _) (fR (I.l▸hk))) N N) N N I.o.hl (Ĕ _) (by rw[ĭ,H',I.l];show hk) ?_);rw[ĭ,dQ];show W.set (v:=.int ((a-(bS os k).a.toNat:Nat):Int)) (aL (aA N (al (aJ (y:=.int (bS os k).a) N (aZ 0 _ _ (aZ k _ (bS os k).v N N (Ĕ _) (by rw[ĭ,Ħ,N' hk];unfold bS;rw[N' hk];rfl)) N (by decide) N) N))) (congrArg (λz=>À (V.int z,_)) (u7 Qc))) (W.nil (W.nil ⟨N,Oh os ln q r (8-(c+1)) (a-(bS os k).a.toNat),?_,c+1,_,_,N,I.o.set _,BR T S Gj,?_,(Ϻ ..).trans I.l,hw⟩))
    ·rw[show 8-(c+1)=7-c from ac3 7 1 c];show ar ⟨N,N,N,N,N,N,trivial⟩
    ·show NF hn FZ Qc
end bought_callH
theorem vL{os:List bI}:gN os ln M d H:=hk (P:=U5 gN) bought_callH.kt (os,ln,M,d,H)
noncomputable def jp(i:Nat):Pk:=(Ps[i]?).getD ⟨adX,0,0,0⟩
noncomputable def Pk.off(p:Pk):bI:=⟨p.a,p.p,p.l⟩
def fU(O:Str):List Nat:=(Đ Ps.length).filter λi=>(jp i).n==O
def fc(O:Str):List bI:=(fU O).map λi=>(jp i).off
theorem uO{i:Nat}(h:i<Ps.length):jp i∈Ps:=by unfold jp;rw[N' h];show š h
theorem Bn{i:Nat}(h:i<Ps.length):(Ps.map Pk.v)[((i:Nat):Int).toNat]?=À (jp i).v:=by rw[ĭ,Ħ,N' h];unfold jp;rw[N' h];rfl
theorem pa{O:Str}{i:Nat}(h:i∈fU O):i<Ps.length:=ń.mp (Š.mp h).1
theorem kC(O:Str):(fU O).length<=Ps.length:=z' (abS _ _) (by rw[Ŗ];show ē _)
def lj(O:Str):Int:=aX (Ds.map (eW O 0))
def gH(O:Str):List Nat:=(Đ 7).map λt=>(fz O t).toNat
def KD(l:List Nat):Nat:=((m7 (l.map λi:Nat=>(i:Int))).getD 0).toNat
def i4(O:Str):Option (List Int):=Je (fc O) (gH O) (KD (gH O))
def ja(O:Str):Option Nat:=if 200<lj O then À 1 else if (i4 O).isNone then À 2 else Ã
theorem t5(h:200<lj O):ja O=À 1:=if_pos h
theorem yV(h:¬ 200<lj O)(h2:(i4 O).isNone=Æ):ja O=À 2:=(if_neg h).trans (if_pos h2)
theorem FD(h:¬ 200<lj O)(h2:i4 O=À cs):ja O=Ã:=(if_neg h).trans (by rw[h2];rfl)
theorem pP(O:Str)(t:Nat):((fz O t).toNat:Int)=fz O t:=ϥ (ads _ _)
theorem Pc(O:Str):(Bb O).map V.int=bO (gH O):=by unfold Bb gH bO;rw[Ŭ,Ŭ];show ŭ λt z=>congrArg V.int (pP O t).symm
theorem FN(l:List Int):∀x:Int,(l.foldl (λa b=>max a b) x=x\/l.foldl (λa b=>max a b) x∈l)/\x<=l.foldl (λa b=>max a b) x/\∀y∈l,y<=l.foldl (λa b=>max a b) x:=by
 induction l with
 |nil=>show λx=>⟨.inl N,Ĭ x,λk h=>nomatch h⟩
 |cons y l ih=>intro x;rw[Ϯ];show io (ih (max x y)) λh1 h2 h3=>⟨(h1.elim (λh=>?_) λh=>.inr (J' _ h)),Ċ (ads _ _) h2,λz hz=>(ċ.mp hz).elim (λq=>by rw[q];show Ċ (adT _ _) h2) (h3 z)⟩;rw[h];show(adh x y).elim (λq=>.inr (by rw[adg q];show G')) λq=>.inl (ad4 q)
theorem GZ{l:List Nat}(h:l≠[]):m7 (l.map λi:Nat=>(i:Int))=À (KD l:Int)/\KD l∈l/\∀i,nA l i<=KD l:=by
 cases l with
 |nil=>show absurd N h
 |cons x l=>
  have F:=FN (l.map λi:Nat=>(i:Int)) (x:Int);have e:m7 ((x::l).map λi:Nat=>(i:Int))=À ((l.map λi:Nat=>(i:Int)).foldl (λa b=>max a b) (x:Int)):=rfl;have m:∃y∈x::l,(y:Int)=(l.map λi:Nat=>(i:Int)).foldl (λa b=>max a b) (x:Int):=F.1.elim (λq=>⟨x,G',q.symm⟩) λq=>aF (ş.mp q) λy hy q=>⟨y,J' _ hy,q⟩;show aF m λy hy q=>?_;have mx:KD (x::l)=y:=by unfold KD;rw[e,<-q];rfl
  show⟨by rw[mx,e,q],mx▸hy,λi=>?_⟩;rw[mx];show Ŝ.mp (q▸?_);unfold nA;cases hi:(x::l)[i]? with
  |none=>show Ċ (Ĕ x) F.2.1
  |some z=>show(ċ.mp (Ĥ hi)).elim (λq=>q▸F.2.1) λq=>F.2.2 _ (ş.mpr ⟨z,q,N⟩)
section
variable{O:Str}{d:Nat}{H:ag}
theorem Kj(t:Nat):0<=f8 Bs O t:=by
 rw[jB];show Ċ (ŵ ?_) (kE (f:=λz=>0) λb hb=>?_)
 ·rw[afw,nj,ό]
 ·unfold CJ
  split
  ·show Yp b hb
  ·show Ĭ _
theorem wU(t:Nat):fz O t<=max 0 (lj O):=by
 rw[uw];have h1:=Kj (O:=O) t
 have h2:aX (Ds.map (eW O t))<=lj O:=kE λx hx=>by
  have h:=qc (n:=O) (PV x hx).nn;have h0:=(PV x hx).1.1;unfold eW;rw[if_pos (show 0<x.d from h0)];split
  ·show Ĭ _
  ·show h
 show(adh _ _).elim (λd0=>y5 0xc3410b00810b2110b3212be014 N h1 h2 (adT _ _) (adg d0)) λd0=>y2 0xc0110b00812b081 N (ads _ _) (ad4 d0)
theorem rH(h:¬ 200<lj O):nX (fc O) (gH O) (KD (gH O)):=by
 have eR:gH O≠[]:=λq=>nomatch (congrArg ady q:(7:Nat)=0);show io (GZ eR) λh1 h2 h3=>⟨N,λo ho=>?_,z' (by unfold fc;rw[H'];show kC O) yp,h1,h3,?_⟩
 ·show aF (ş.mp ho) λi hi e=>?_;apply fQ e
  show WO _ (uO (pa hi))
 ·show aF (ş.mp h2) λt z e=>?_
  have:=wU (O:=O) t;rw[<-e];show aey.mpr (Ċ this (aeD.mpr ⟨by decide,ŉ.mp h⟩))
theorem Hv(p:Pk):xm p.v (.int 1) .none H=À (p.off.v,H):=u1 (l:=[.str p.n,.int p.a,.int p.p,.int p.l]) (a:=1) (show 1<=4 by decide) (show 4<=1000 by decide)
theorem Kd(x:Option (List Int)):Kg (W5 x) .none=À x.isNone:=by cases x<;>rfl
theorem Bm:∀(l:List Nat) (cs:List Int),bF (bO l) (cs.map .int)=(l.zip cs).map pV
 |[],_=>rfl
 |_::_,[]=>rfl
 |p::ps,c::cs=>congrArg (V.tup [.int p,.int c]::·) (Bm ps cs)
structure Yz(O:Str)(L:Nat)(r:yv)(ae:ag):Prop where
 bad:∀c,ja O=À c->r=.exc c O
 ok:ja O=Ã->∃q cs,r=.ok (.ref q)/\L<=q/\i4 O=À cs/\ae[q]?=À (.lst (((fU O).zip cs).map pV))
end
def jx(d:Nat)(H:ag)(O:Str):Prop:=QB (d+5) 16 [vD,vG,vP,.str O] H (Yz O H.length)
namespace counts_ofH
def kc:=hc (U3 jx) (0,[],default)
def d:=kc.1
def H:=kc.2.1
def O:=kc.2.2
theorem kt:jx d H O:=by
 show Hm N N (fe (o7 (d:=d+3) (H:=H) O) λv bi e1 k1 q=>eK q λl q1 h1 h2=>?_);rw[q1]at e1;have hs:aX l=lj O:=h2 0;show W.if_ (p:=200<lj O) (bU (aL (al (af N e1)) (BH l)) N (by rw[hs];rfl)) (λhc=>W.raise N (.inr ⟨1,O,N,k1,λc h=>by rw[<-sm ((t5 hc).symm.trans h)],λh=>no (h.symm.trans (t5 hc))⟩)) λhc=>W.nil ?_;have ec:=dj (elt:=ab (az PP (d+4)) (xv 6)) (cond:=cW (az PP (d+4)) (a1 (xE (xu 7 0) (xv 3)))) (t:=.two 6 7) (w:=[]) (U:=bu [vD,vG,vP,.str O]) (H:=bi) (g:=λi=>V.tup [.int ((0+i:Nat):Int),(jp i).v]) (p:=λi=>(jp i).n==O) (f:=λi:Nat=>V.int i) (bx _) (xs:=Đ Ps.length) λi y=>⟨_,N,nI N,λy=>congrArg (λz:Nat=>À (V.int z,bi)) (ϋ i)⟩;show W.set (eN ((gc (⟨adX,0,0,0⟩:Pk) Ps 0)▸nC N) ec (by rw[H'];show z' (kC O) (z' yp (by decide)))) ?_;have k2:=aE.app bi [.lst (bO (fU O))];have g2:=aB bi (.lst (bO (fU O)));change W _ _ _ (bi++[.lst (bO (fU O))]) _;generalize bi++[.lst (bO (fU O))]=dG at k2 g2;have et:=rK (Á:=az PP (d+4)) (elt:=.slc (.idx (xv 2) (xv 6)) (xn 1) (.cst .none)) (t:=.one 6) (it:=.ex (xv 4)) (ifs:=.nil) (U:=cR (bu [vD,vG,vP,.str O]) 4 (.ref bi.length)) (H:=dG) (f:=λi=>(jp i).off.v) (p:=λy=>Æ) (ij N g2) (gE g2) (z' (kC O) (z' yp (by decide))) λi hi=>⟨_,N,N,λy=>lS (aZ i _ _ N N (Ĕ _) (Bn (pa hi))) N N (Hv _)⟩;rw[cT,show ((fU O).map λi=>(jp i).off.v)=(fc O).map bI.v by unfold fc;rw[Ŭ];rfl]at et;have k3:=aE.app dG [.lst ((fc O).map bI.v)];generalize dG++[.lst ((fc O).map bI.v)]=dY at et k3;show fe (uA (d:=d+2) (H:=dY) O) λv4 nT e4 k4 q4=>?_;rw[q4,Pc]at e4;show fe (vL (d:=d) (H:=nT) (rH hc)) λv5 ll e5 k5 q5=>?_;rw[q5,show Je (fc O) (gH O) (KD (gH O))=i4 O from N]at e5;have K5:=k2.trans (k3.trans (k4.trans k5));show W.set (af (aA et (al (af N e4))) e5) (W.ifB (bU N N (Kd _)) (λhb=>W.raise N (.inr ⟨2,O,N,k1.trans K5,λc h=>by rw[<-sm ((yV hc hb).symm.trans h)],λh=>no (h.symm.trans (yV hc hb))⟩)) λhb=>W.nil ?_);cases hf:i4 O with
 |none=>rw[hf]at hb;show nomatch hb
 |some cs=>show W.retE (v:=.ref (ll++[bp.own]).length) (Î:=ll++[.own]++[.lst (((fU O).zip cs).map pV)]) ?_ (.inl ⟨_,N,(k1.trans K5).trans ((aE.app _ _).trans (aE.app _ _)),λc h=>no ((FD hc hf).symm.trans h),λy=>⟨_,cs,N,((k1.trans K5).trans (aE.app _ _)).len,hf,aB _ _⟩⟩);show (lst ll bi.length).bind (λx=>rO (ll++[.own]) (bF x (cs.map .int)))=_;rw[c8 ((k3.trans (k4.trans k5)) _ _ g2)];show rO (ll++[.own]) (bF (bO (fU O)) (cs.map .int))=_;rw[Bm];show if_pos (by rw[H',acL];show z' (acl _ _) (z' (kC O) (z' yp (by decide))))
end counts_ofH
theorem Cr:jx d H O:=hk (P:=U3 jx) counts_ofH.kt (d,H,O)
noncomputable def ng(cs:List Int)(z:List (Nat×Int)):List Int:=z.foldl (λcs p=>cs.set p.1 p.2) cs
theorem xg(cs:List Int)(z:List (Nat×Int))(p:Nat×Int):ng cs (z++[p])=(ng cs z).set p.1 p.2:=by unfold ng;rw[ac4];rfl
theorem nh:∀(z:List (Nat×Int)) (cs:List Int),(ng cs z).length=cs.length
 |[],_=>rfl
 |p::z,cs=>(nh z (cs.set p.1 p.2)).trans Ϻ
def SA(cs:List Int)(O:Str):List Int:=ng cs ((fU O).zip ((i4 O).getD []))
def Aa(l:List Str):List Int:=l.foldl (SA) (ś Ps.length 0)
def Mn(l:List Str):Option (Nat×Str):=l.findSome? λO=>(ja O).map λc=>(c,O)
def i9:Option (Nat×Str):=Mn j0
def Bv:List Int:=Aa j0
section
variable{O:Str}{d c j:Nat}{H:ag}{l:List Str}
theorem pY(l:List Str)(O:Str):Aa (l++[O])=SA (Aa l) O:=by unfold Aa;rw[ac4];rfl
theorem oC:∀l:List Str,(Aa l).length=Ps.length:=λl=>by
 unfold Aa;generalize hc:ś Ps.length (0:Int)=cs;rw[show Ps.length=cs.length by rw[<-hc,ϲ]];clear hc
 induction l generalizing cs with
 |nil=>rfl
 |cons n l ih=>rw[Ϯ,ih];show nh _ _
theorem Ov(h:Mn (l.take j)=Ã)(hx:l[j]?=À O)(hf:ja O=À c):Mn l=À (c,O):=by rw[<-ũ j l,List.drop_eq_getElem?_toList_append,hx];unfold Mn at h ⊢;rw[aeH,h,afB];show List.findSome? _ (O::l.drop (j+1))=_;rw[aeU,hf];rfl
theorem JE(h:Mn (l.take j)=Ã)(hx:l[j]?=À O)(hf:ja O=Ã):Mn (l.take (j+1))=Ã:=by rw[bn hx];unfold Mn at h ⊢;rw[aeH,h,afB,aeU,hf];rfl
def YE(r:yv)(_:ag):Prop:=(∀c O,i9=À (c,O)->r=.exc c O)/\(i9=Ã->r=.ok (.tup ((Bv).map .int)))
abbrev Sz(q:Nat):List (Option V):=[À vD,À vG,À vP,À (.ref q)]
theorem yc{Á:aw}{U:aM}(h2:U 2=À vP):∃q ae,ab Á (xM (.list (a1 (xn 0))) (.prim .len (a1 (xv 2)))) U H=À (.ref q,ae)/\ml H q ((Aa []).map .int) ae:=
 nQ (λae=>aL (al (aC h2)) ((iC _).trans (by rw[H']))) (z' yp (by decide))
end
def fV(d:Nat)(H:ag):Prop:=QB (d+6) 17 [vD,vG,vP] H (YE)
namespace shopped_callH
def kc:=hc (U2 fV) (0,[])
def d:=kc.1
def H:=kc.2
theorem kt:fV d H:=by
 show Hm N N (gm (yc (H:=H) (Á:=az PP (d+5)) (U:=bu [vD,vG,vP]) N) λq bi e1 û=>W.set e1 (fe (DP (d:=d+4) (H:=bi)) λv dG e2 k2 q2=>?_));rw[q2]at e2;show W.each (cw (Sz q)) (λj ae=>ml H q ((Aa (j0.take j)).map .int) ae/\Mn (j0.take j)=Ã) (λfl ae=>∃c O,fl=.exc c O/\i9=À (c,O)/\aE H ae) (dh (af N e2)) (ar ⟨N,N,N,N,trivial⟩) ⟨û.keep k2,N⟩ (λz z z=>bx _) (λj O dY hx I=>⟨_,N,?_⟩) (λdY I=>?_) λfl aT ae h=>fe h λc O h1 h2 h3=>.inr ⟨c,O,h1,h3,λc' nm' e=>?_,λe=>no (e.symm.trans h2)⟩
 ·show fe (Cr (d:=d) (H:=dY) (O:=O)) λr nT e4 k4 R=>?_
  have O4:=I.1.keep k4;cases hf:ja O with
  |some c=>rw[R.bad c hf]at e4;show W.forX N e4 (.inr ⟨(λq=>nomatch q),c,O,N,Ov I.2 hx hf,O4.hk⟩)
  |none=>
   show Jz (R.ok hf) λp cs h1 hp h2 h3=>?_;rw[h1]at e4;have Tz:p≠q:=ō (Į (ģ.mp I.1.hl).1 hp);have ch:=oC (j0.take j);show W.each (cw (Sz q)) (λi ae=>ml H q ((ng (Aa (j0.take j)) (((fU O).zip cs).take i)).map .int) ae/\ae[p]?=À (.lst (((fU O).zip cs).map pV))) (λz z=>False) (ij (af N e4) h3) (ar ⟨N,N,N,N,trivial⟩) ⟨O4,h3⟩ (λz z h=>gE h.2) (λi x ll hy ó=>⟨_,N,?_⟩) (λll ó=>?_) λz z z q=>q.elim
   ·have RW:x.1<Ps.length:=pa (Ź (Ĥ hy)).1
    show W.setItem0 q x.1 _ (.int x.2) N N N ó.1.hl (Ĕ _) (by rw[ĭ,H',nh,ch];show RW) (W.nil (.inl ⟨N,ar ⟨N,N,N,N,trivial⟩,?_,(eG (Ne.symm Tz)).trans ó.2⟩));rw[ĭ,dQ,bn hy,xg];show ó.1.set _
   ·show W.nil (.inl ⟨N,ar ⟨N,N,N,N,trivial⟩,?_,JE I.2 hx hf⟩)
    have:=ó.1;rw[ŗ]at this;rw[bn hx,pY,SA,h2];show this
 ·show W.retE (aL N (bB I.1.hl (by rw[H',oC];show z' yp (by decide)))) (.inl ⟨_,N,I.1.hk,λc O e=>?_,λz=>?_⟩)
  ·have:=I.2;rw[ŗ]at this;show no (this.symm.trans e)
  ·rw[ŗ];rfl
 ·show aP (nS (h2.symm.trans e)) λa b=>by rw[<-a,<-b]
end shopped_callH
theorem u0:fV d H:=hk (P:=U2 fV) shopped_callH.kt (d,H)
section
variable{O:Str}{d c j:Nat}{H:ag}{l:List Str}
theorem pj:pt (d+1) 37 [vD] H λv ae=>∃r,v=.ref r/\H.length<=r/\ae[r]?=À (.lst (j0.map .str)):=by show eL N N (W.set (Î:=H++[.ds []]) N (wz LC N N (aB _ _) (λp U ym=>⟨_,N,ym,λz=>aZ 0 _ _ (aC N) N (by decide) N⟩) λbi hK hD=>W.retE (aL (al (aC N)) (pe hD (oK (pJ LC)))) ⟨_,N,(ur hK).trans (aE.app _ _),_,N,(ur hK).len,aB _ _⟩))
theorem lR(h:i9=Ã)(hn:O∈j0):ja O=Ã:=by have:=aeg.mp h O hn;show Option.map_eq_none_iff.mp this
theorem mQ(h:ja O=Ã):¬ 200<lj O/\∃cs,i4 O=À cs:=by
 have h1:¬ 200<lj O:=λq=>no (h.symm.trans (t5 q));show⟨h1,?_⟩;cases e:i4 O with
 |none=>show no (h.symm.trans (yV h1 (by rw[e];rfl)))
 |some cs=>show⟨cs,N⟩
theorem oB(x0:α)(l:List α):(Đ l.length).map (λi=>(l[i]?).getD x0)=l:=by
 show aem λi=>?_;rw[Ħ];by_cases h:i<l.length
 ·rw[ϸ h,N' h];show À ((l[i]?).getD x0)=_;rw[N' h];rfl
 ·rw[ϳ (by rw[Ŗ];show ľ.mp h),ϳ (ľ.mp h)];rfl
end
section
variable{O:Str}{d c j t r:Nat}{H:ag}{l:List Str}{cs:List Int}
theorem uH(ht:t<7):nA (gH O) t=(fz O t).toNat:=by unfold nA gH;rw[Ħ,ϸ ht];rfl
def hN(g:bI->Int)(O:Str)(cs:List Int):Int:=ck g (fc O) ((fU O).map (bv cs))
theorem Mt(g:bI->Int)(O:Str)(cs:List Int):hN g O cs=aX ((Đ Ps.length).map λk=>if (jp k).n==O then g (jp k).off*bv cs k else 0):=by
 rw[<-kQ];unfold hN ck fc;show _=aX ((fU O).map λk=>g (jp k).off*bv cs k)
 conv=>rhs;rw[<-oB 0 (fU O)]
 rw[H',Ŭ];show congrArg aX (ŭ λi hi=>?_);have hi:=ń.mp hi;show g (bS ((fU O).map λi=>(jp i).off) i)*bv ((fU O).map (bv cs)) i=g (jp (((fU O)[i]?).getD 0)).off*bv cs (((fU O)[i]?).getD 0);unfold bS;rw[show bv ((fU O).map (bv cs)) i=bv cs (fU O)[i] by (conv=>lhs;unfold bv);rw[Ħ,N' hi];rfl,Ħ,N' hi];rfl
theorem uM{o:bI}(ho:o∈fc O):1<=o.a/\o.a<=200/\0<=o.p:=aF (ş.mp ho) λi hi e=>by have h:=uO (pa hi);rw[<-e];show⟨WO _ h,wpa _ h,Yr _ h⟩
structure Aw(l:List Str)(cs:List Int):Prop where
 len:cs.length=Ps.length
 bd:∀x∈cs,0<=x/\x<=1700
 srv:∀O∈l,∀t,t<7->fz O t<=hN (jY bI.a t) O cs
theorem Aw.sv(S:Aw l cs)(hn:O∈l):Sv (fc O) (gH O) (KD (gH O)) 0 (nA (gH O) 0) ((fU O).map (bv cs)):=by
 have h:∀t,t<7->(nA (gH O) t:Int)<=ck (jY bI.a t) (fc O) ((fU O).map (bv cs)):=λt ht=>by rw[uH ht,pP];show S.srv O hn t ht
 show⟨(GZ (l:=gH O) λq=>nomatch (congrArg ady q:(7:Nat)=0)).2.2 0,by unfold fc;rw[H',H'],λx hx=>aF (ş.mp hx) λi z e=>e▸kl (λy hy=>(S.bd y hy).1) i,h 0 (by decide),λu z=>h u⟩
theorem N8(h2:∀O∈j0,¬ 200<lj O)(S:Aw j0 cs):i9=Ã:=aeg.mpr λO hn=>by show aF (E1 (rH (h2 O hn)) (λo ho=>(uM ho).2.2) (S.sv hn)) λbs hb z=>?_;rw[FD (h2 O hn) hb];rfl
theorem Pu(h:i9=Ã)(hn:O∈j0)(ht:t<7)(h0:0<fz O t):∃i,i<(fc O).length/\(t:Int)<(bS (fc O) i).l:=by show abK λq=>aP (mQ (lR h hn)) λhc hf=>hf.elim λcs hf=>?_;have:=(vK (rH hc) hf).held t ht;rw[uH ht,pP]at this;show adS.mpr h0 (Ċ this (Ċ (kE (g:=λy=>0) λi hi=>?_) (ŵ (BJ _))));rw[show jY bI.a t (bS (fc O) i)=0 from if_neg λz=>q ⟨i,ń.mp hi,z⟩,ό];show Ĭ 0
theorem ni{k:Nat}:∀{z:List (Nat×Int)} {cs:List Int},(∀p∈z,p.1≠k)->bv (ng cs z) k=bv cs k
 |[],_,_=>rfl
 |p::z,cs,h=>by show(ni (cs:=cs.set p.1 p.2) λq hq=>h q (J' _ hq)).trans ?_;unfold bv;rw[acu (h p G')]
theorem uQ:∀{l:List Nat} {cs c0:List Int},l.Nodup->l.length=cs.length->(∀k∈l,k<c0.length)->l.map (bv (ng c0 (l.zip cs)))=cs
 |[],[],_,_,_,_=>rfl
 |k::l,c::cs,c0,hn,hl,hk=>by
  have hn:=Ϡ.mp hn;have ih:=uQ (c0:=c0.set k c) hn.2 (ad0.inj hl) λi hi=>by rw[Ϻ];show hk i (J' _ hi)
  show bv (ng (c0.set k c) (l.zip cs)) k::l.map (bv (ng (c0.set k c) (l.zip cs)))=_;rw[ih,ni (k:=k) λp hp q=>hn.1 (q▸(Ź hp).1),pQ (hk k G'),if_pos N]
theorem uS{x:Int}:∀{z:List (Nat×Int)} {cs:List Int},x∈ng cs z->x∈cs\/∃p∈z,x=p.2
 |[],_,h=>.inl h
 |p::z,cs,h=>(uS (z:=z) h).elim (λh=>(acp h).imp id λq=>⟨p,G',q⟩) λh=>aF h λq hq e=>.inr ⟨q,J' _ hq,e⟩
theorem xl(hn:∀n∈l,ja n=Ã){cs:List Int}(hf:i4 O=À cs)(hc:¬ 200<lj O):O∈l->(fU O).map (bv (Aa l))=cs:=by
 have zj:(fU O).length=cs.length:=((vK (rH hc) hf).len.trans (H' _)).symm
 suffices KE:∀k,k<=l.length->O∈l.take k->(fU O).map (bv (Aa (l.take k)))=cs from λh=>by have:=KE l.length (ē _) (by rw[ŗ];show h);rwa [ŗ]at this
 intro k
 induction k with
 |zero=>show λy h=>nomatch h
 |succ k ih=>
  intro hk h;have hx:l[k]?=À l[k]:=N' hk;rw[bn hx]at h ⊢;rw[pY,SA];by_cases q:O=l[k]
  ·rw[<-q,hf]
   show uQ (adk.filter _) zj λi hi=>by rw[oC];show pa hi
  ·show Eq.trans (ŭ λi hi=>ni λp hp e=>q ?_) (ih (Ģ hk) ((ğ.mp h).resolve_right λz=>q (W'.mp z)))
   have h1:=beq_iff_eq.mp (Š.mp hi).2;have h2:=beq_iff_eq.mp (Š.mp (Ź hp).1).2;rw[e]at h2;show h1.symm.trans h2
theorem Ht(h:i9=Ã):∀x∈Bv,0<=x/\x<=1700:=by
 suffices KE:∀k,k<=j0.length->∀x∈Aa (j0.take k),0<=x/\x<=1700 from λx hx=>KE j0.length (ē _) x (by rw[ŗ];show hx)
 intro k
 induction k with
 |zero=>show λz x hx=>by rw[(ac0.mp hx).2];decide
 |succ k ih=>intro hk x hx;rw[bn (N' hk),pY]at hx;show(uS hx).elim (ih (Ģ hk) x) λq=>aF q λp hp e=>aP (mQ (lR h (š hk))) λhc hf=>hf.elim λcs hf=>?_;rw[hf]at hp;rw[e];show(vK (rH hc) hf).bd _ (Ź hp).2
theorem PJ(h:i9=Ã):Aw j0 Bv:=⟨oC _,Ht h,λO hn t ht=>by show aP (mQ (lR h hn)) λhc hf=>hf.elim λcs hf=>?_;have:=(vK (rH hc) hf).held t ht;rw[uH ht,pP,<-xl (λn hn=>lR h hn) hf hc hn]at this;show this⟩
theorem PI(k:Nat)(l:List Str)(h:(jp k).n∉l):bv (Aa l) k=0:=by
 suffices KE:∀j,j<=l.length->bv (Aa (l.take j)) k=0 by have:=KE l.length (ē _);rwa [ŗ]at this
 intro j
 induction j with
 |zero=>intro _;show bv (ś Ps.length 0) k=0;unfold bv;rw[aew];split<;>rfl
 |succ j ih=>intro hj;rw[bn (N' hj),pY,SA];show(ni λp hp e=>?_).trans (ih (Ģ hj));have:=beq_iff_eq.mp (Š.mp (Ź hp).1).2;rw[e]at this;show h (this▸š hj)
def Ly(cs:List Int):Int:=aX ((Đ Ps.length).map λk=>(jp k).p*bv cs k)
def R6(l:List Str)(cs:List Int):Int:=aX ((Đ Ps.length).map λk=>if (jp k).n∈l then (jp k).p*bv cs k else 0)
theorem Lq(f g:α->Int)(l:List α):aX (l.map λx=>f x+g x)=aX (l.map f)+aX (l.map g):=by
 induction l with
 |nil=>rfl
 |cons x l ih=>rw[Œ,Œ,Œ,aU,aU,aU,ih,Ż,Ż,ae2 (g x)]
theorem A3(hn:O∉l)(cs:List Int):R6 (O::l) cs=hN bI.p O cs+R6 l cs:=by
 rw[Mt];unfold R6;rw[<-Lq];show congrArg aX (ŭ λk x=>?_);by_cases q:(jp k).n=O
 ·rw[if_pos (q▸G'),if_pos (beq_iff_eq.mpr q),if_neg (q▸hn),Ť];rfl
 ·rw[if_neg λz=>q (beq_iff_eq.mp z),ť]
  by_cases z:(jp k).n∈l
  ·rw[if_pos z,if_pos (J' _ z)]
  ·rw[if_neg z,if_neg λy=>z ((ċ.mp y).resolve_left q)]
theorem R7{a b:List Int}(l:List Str):l.Nodup->(∀O∈l,hN bI.p O a<=hN bI.p O b)->R6 l a<=R6 l b:=by
 induction l with
 |nil=>show λz z=>Ĭ _
 |cons O l ih=>intro hd h;have hd:=Ϡ.mp hd;rw[A3 hd.1,A3 hd.1];show ada (h O G') (ih hd.2 λn hn=>h n (J' _ hn))
theorem Hu(h:i9=Ã)(S:Aw j0 cs):Ly Bv<=Ly cs:=by
 have hd:j0.Nodup:=(mf _).nodup_iff.mpr (rI (qb Ds) [] ⟨adE,λx h=>nomatch h⟩).1;show Ċ (ŵ (congrArg aX (ŭ λk x=>?_))) (Ċ (R7 (a:=Bv) (b:=cs) j0 hd λO hn=>?_) (kE λk hk=>?_))
 ·by_cases z:(jp k).n∈j0
  ·rw[if_pos z]
  ·rw[if_neg z,show bv Bv k=0 from PI k j0 z,ade]
 ·show aP (mQ (lR h hn)) λhc x=>aF (E1 (rH hc) (λo ho=>(uM ho).2.2) (S.sv hn)) λbs hb J6=>?_
  unfold hN;rw[show (fU O).map (bv Bv)=bs from xl (λn hn=>lR h hn) hb hc hn];show J6
 ·split
  ·show Ĭ _
  ·show aef (Yr _ (uO (ń.mp hk))) (kl (λy hy=>(S.bd y hy).1) k)
end
noncomputable def Jx:Option (Nat×Str)->List V
 |none=>[]
 |some p=>[.bool (p.1==1),.bool (p.1==2),.bool Ê,.bool Æ,.str p.2]
theorem yQ{Á:aw}{U:aM}{H:ag}{i r c d e:Nat}(h:U i=À (.ref r))(hr:H[r]?=À (.exn c e))(hc:(c==1||c==2)=Æ):ab Á (.isC d (.var i)) U H=À (.bool (nG c d),H):=by
 show cg (ab Á (.var i) U H) (λx Î=>(A7 Î d x).bind λv=>À (v,Î))=_;rw[aC h];show (A7 H d (.ref r)).bind _=_
 have e1:A7 H d (.ref r)=À (.bool (nG c d)):=by show (H[r]?).bind (λm=>(QQ m).bind λp=>À (V.bool (nG p.1 d)))=_;rw[hr];show (if (c==1||c==2)=Æ then À (c,e) else Ã).bind _=_;rw[if_pos hc];rfl
 rw[e1];rfl
theorem JG{Á:aw}{U:aM}{H:ag}{i r c e:Nat}{w:Str}(h:U i=À (.ref r))(hr:H[r]?=À (.exn c e))(he:H[e]?=À (.wd w))(hc:(c==1||c==2)=Æ):ab Á (.word (.var i)) U H=À (.str w,H):=by
 show cg (ab Á (.var i) U H) (λx Î=>(vj Î x).bind λv=>À (v,Î))=_;rw[aC h];show (vj H (.ref r)).bind _=_
 have e1:vj H (.ref r)=À (.str w):=by show (H[r]?).bind (λm=>(QQ m).bind λp=>(H[p.2]?).bind λm'=>(Uu m').bind λw=>À (V.str w))=_;rw[hr];show (if (c==1||c==2)=Æ then À (c,e) else Ã).bind _=_;rw[if_pos hc];show (H[e]?).bind _=_;rw[he];rfl
 rw[e1];rfl
section
variable{O:Str}{d c j t r e:Nat}{H:ag}{l:List Int}
theorem zB(hr:H[r]?=À (.exn c e))(he:H[e]?=À (.wd O))(hc:c=1\/c=2):az PP (d+1) 49 [.ref r] H=À (.ok (.ref H.length),H++[.lst (Jx (À (c,O)))]):=by
 have h:(c==1||c==2)=Æ:=by rcases hc with rfl|rfl<;>rfl
 rw[show Jx (À (c,O))=[.bool (nG c 1),.bool (nG c 2),.bool Ê,.bool (nG c 3),.str O] by rcases hc with rfl|rfl<;>rfl];show(mK rfl rfl).trans (Sw (cJ (aA (yQ rfl hr h) (aA (yQ rfl hr h) (aA rfl (aA (yQ rfl hr h) (al (JG rfl hr he h)))))) (show 5<=ax by decide)))
theorem Q5(h:i9=À (c,O)):c=1\/c=2:=by
 show aF (List.exists_of_findSome?_eq_some h) λn z h=>?_;show aF (ϧ.mp h) λc' h1 h2=>?_;rw[show c=c' from (congrArg Prod.fst h2).symm];unfold ja at h1;split at h1
 ·show .inl (sm h1).symm
 ·split at h1
  ·show .inr (sm h1).symm
  ·show nomatch h1
structure WZ(P:V->Prop)(v:V)(ae:ag)(q p:Nat)(x:V):Prop where
 v:v=.ref q
 q:ae[q]?=À (.lst [x,.ref p])
 p:ae[p]?=À (.lst (Jx (i9)))
 x:i9=Ã->P x
theorem Ia{f k:Nat}{a b u:V}{P:V->Prop}(hk:PP[k]?=À ⟨3,dL (.try_ (dL (.ret (.list (a2 (.call f (a3 (xv 0) (xv 1) (xv 2))) (.list .nil))))) 3 (dL (.ret (.list (a2 (.cst .none) (.call 49 (a1 (xv 3))))))))⟩)
  (X:QB (d+1) f [a,b,u] H λr z=>(∀c O,i9=À (c,O)->r=.exc c O)/\(i9=Ã->∃v,r=.ok v/\P v)):pt (d+2) k [a,b,u] H λv ae=>∃q p x,WZ P v ae q p x:=by
 show eL hk N (fe X λr bi e1 k1 h=>?_);cases he:i9 with
 |none=>show aF (h.2 he) λv q hP=>?_;rw[q]at e1;show W.tryO (cJ (vs:=[v,.ref bi.length]) (aA (af N e1) (al (cJ (vs:=[]) N (į _)))) (show 2<=ax by decide)) ⟨_,N,k1.trans ((aE.app _ _).trans (aE.app _ _)),_,_,v,N,aB _ _,aE.app _ _ _ _ ?_,λz=>hP⟩;rw[he];show aB _ _
 |some p=>
  obtain ⟨c,w⟩:=p;rw[h.1 c w he]at e1;have h1:(bi++[.wd w,.exn c bi.length])[bi.length]?=À (.wd w):=by rw[Ϣ (ē _),acO];rfl
  have h2:(bi++[.wd w,.exn c bi.length])[bi.length+1]?=À (.exn c bi.length):=by rw[Ϣ (ϓ _)];show [bp.wd w,.exn c bi.length][bi.length+1-bi.length]?=_;rw[ϵ];rfl
  have h3:aE H (bi++[.wd w,.exn c bi.length]):=k1.trans (aE.app _ _);show W.tryE N e1 (v:=.ref ((bi++[bp.wd w,.exn c bi.length])++[bp.lst (Jx (À (c,w)))]).length) ?_;generalize bi++[.wd w,.exn c bi.length]=dG at h1 h2 h3;show W.retE (cJ (vs:=[.none,.ref dG.length]) (aA N (al (af N (zB h2 h1 (Q5 he))))) (show 2<=ax by decide)) ⟨N,_,N,h3.trans ((aE.app _ _).trans (aE.app _ _)),_,_,.none,N,aB _ _,aE.app _ _ _ _ ?_,λq=>no (q.symm.trans he)⟩;rw[he];show aB _ _
end
noncomputable def Pk.bat(p:Pk):cF:=⟨p.n,p.a,p.l⟩
def pC(z:List (Pk×Int)):List cF:=z.flatMap λx=>ś x.2.toNat x.1.bat
theorem HV{z:List (Pk×Int)}:(∀x∈z,0<=x.2/\x.2<=1700)->(pC z).length<=1700*z.length:=by
 induction z with
 |nil=>show λk=>ē _
 |cons x z ih=>intro h;unfold pC at ih ⊢;rw[aff,Ā,ϲ,acb,Nat.mul_succ,ϙ];show ϭ (ih λy hy=>h y (J' _ hy)) (aey.mpr (h x G').2)
abbrev stL(q:Nat):aM:=cw [Ã,Ã,Ã,À (.ref q)]
section
variable{d j t:Nat}{H:ag}{O:Str}{cs:List Int}
def zP(cs:List Int):List (Pk×Int):=Ps.zip cs
def LP(cs:List Int):List cF:=Bs++pC (zP cs)
def TV(cs:List Int):V:=.tup ((LP cs).map cF.v)
def PZ(cs:List Int):Prop:=∀x∈cs,0<=x/\x<=1700
theorem HX(hc:PZ cs)(j:Nat):(Bs++pC ((zP cs).take j)).length<=60000:=by
 have h1:=HV (z:=(zP cs).take j) λx hx=>hc _ (Ź (Ů hx)).2;have h2:=ad2 j (zP cs);have h3:(zP cs).length<=Ps.length:=by unfold zP;rw[acL];show acl _ _
 rw[Ā];show z' (ϭ WN (z' h1 (adn _ (z' h2 (z' h3 yp))))) (by decide)
theorem u6(hc:PZ cs):(LP cs).length<=60000:=by have:=HX hc (zP cs).length;rw[ŗ]at this;show this
theorem HW{p:Pk}{n:Nat}(hx:(zP cs)[j]?=À (p,(n:Int))):Bs++pC ((zP cs).take (j+1))=Bs++pC ((zP cs).take j)++ś n p.bat:=by rw[bn hx,Ć];unfold pC;rw[aeT];show congrArg (λz=>Bs++(_++z)) (Ľ (ś n p.bat))
theorem tm(hc:PZ cs):pt (d+1) 18 [vG,vP,.tup (cs.map .int)] H λv z=>v=TV cs:=by
 show eL N N (W.set (v:=.ref H.length) (Î:=H++[bp.lst (Bs.map cF.v)]) (aL (vs:=[vG]) (Î:=H) N (C5 (l:=Bs.map cF.v) (by rw[H'];show z' WN (by decide)))) ?_);have CM:H.length≠(H++[bp.lst (Bs.map cF.v)]).length:=by rw[Ā];show Ł (ű _)
 show W.each (xs:=zP cs) (stL H.length) (λj ae=>ml H H.length ((Bs++pC ((zP cs).take j)).map cF.v) ae/\ae[(H++[bp.lst (Bs.map cF.v)]).length]?=À .own) (λz z=>False) (HR (aC N) (aC N)) (ar ⟨N,trivial⟩) ⟨(show Bs++pC ((zP cs).take 0)=Bs from Ľ _).symm▸(ml.new H _).keep (aE.app _ _),aB _ _⟩ (λz z h=>gE h.2) (λj x bi hx I=>?_) (λbi I=>?_) λz z z q=>q.elim
 ·have Qh:=hc _ (Ź (Ĥ hx)).2
  obtain ⟨p,m⟩:=x;obtain ⟨n,rfl⟩:=adz Qh.1;have vt:=HX hc (j+1);have hs:=HW hx;rw[hs]at vt;have I1:=I.1;generalize Bs++pC ((zP cs).take j)=B at I1 vt hs;rw[Ā,ϲ]at vt;show⟨_,rfl,W.each (xs:=Đ n) (cw [Ã,Ã,Ã,À (.ref H.length),À p.v]) (λi ae=>ml H H.length ((B++ś i p.bat).map cF.v) ae/\ae[(H++[bp.lst (Bs.map cF.v)]).length]?=À .own) (λz z=>False) ((dT n)▸cM (aC rfl) (z' (Ŝ.mp Qh.2) (by decide))) (ar ⟨rfl,rfl,trivial⟩) ⟨(Ľ B).symm▸I1,I.2⟩ (λz z z=>bx _) (λi y dG hy ó=>⟨_,rfl,?_⟩) (λdG ó=>W.nil (.inl ⟨rfl,ar ⟨rfl,trivial⟩,?_,ó.2⟩)) λz z z q=>q.elim⟩
  ·show aP (fo hy) λz cG=>W.append0 H.length _ p.bat.v N ó.1.hl (cC (vs:=[.str p.n,.int p.a,.int p.l]) N (show 3<=ax by decide)) ?_ (W.nil (.inl ⟨N,ar ⟨N,N,trivial⟩,?_,(eG CM).trans ó.2⟩))
   ·rw[H',Ā,ϲ];show z' (ϝ (Ģ cG) _) (z' vt (by decide))
   ·rw[List.replicate_succ',<-Ć,ŝ (l₁:=B++_)];show ó.1.set _
  ·have J1:=ó.1
   rw[Ŗ,<-hs]at J1;show J1
 ·have h:=I.1
  rw[ŗ]at h;show W.retE (aL N (bB h.hl (by rw[H'];show z' (u6 hc) (by decide)))) ⟨_,N,h.hk,N⟩
def zF(n:Str)(t:Nat)(x:Pk×Int):Int:=if pk n t x.1.bat then x.1.a*x.2 else 0
theorem wS:∀{z:List (Pk×Int)},(∀x∈z,0<=x.2)->f8 (pC z) n t=aX (z.map (zF n t))
 |[],_=>rfl
 |x::z,h=>by
  have h0:=h x G';rw[Œ,aU,<-wS λy hy=>h y (J' _ hy),jB,jB];unfold pC;rw[aff,ŝ,jl,List.map_replicate,nj,ϥ h0];unfold CJ zF;split
  ·rfl
  ·rw[ό]
theorem Ga(hl:cs.length=Ps.length)(n:Str)(t:Nat):hN (jY bI.a t) n cs=aX ((zP cs).map (zF n t)):=by
 have hz:(zP cs).length=Ps.length:=by unfold zP;rw[acL,hl,afc]
 rw[Mt]
 conv=>rhs;rw[<-oB ((⟨adX,0,0,0⟩,0):Pk×Int) (zP cs)]
 rw[Ŭ,hz];show congrArg aX (ŭ λi hi=>?_);show _=zF n t (((zP cs)[i]?).getD (⟨adX,0,0,0⟩,0));have hi:=ń.mp hi;have hc:i<cs.length:=hl.symm▸hi
 have e:(zP cs)[i]?=À (jp i,bv cs i):=by unfold zP jp bv;rw[aco,N' hi,N' hc];show⟨N,N⟩
 rw[e];show (if (jp i).n==n then (if (t:Int)<(jp i).l then (jp i).a else 0)*bv cs i else 0)=if (jp i).n==n&&decide ((t:Int)<(jp i).l) then (jp i).a*bv cs i else 0;cases (jp i).n==n with
 |false=>rfl
 |true=>
  by_cases h:(t:Int)<(jp i).l
  ·rw[if_pos N,if_pos h,adq,decide_eq_true h];rfl
  ·rw[if_pos N,if_neg h,adq,decide_eq_false h,ό];rfl
theorem qj{k:Str}{v:V}:∀{l:List (Str×V)},k∈(eZ l k v).map (·.1)/\∀x∈l.map (·.1),x∈(eZ l k v).map (·.1)
 |[]=>⟨G',λx h=>nomatch h⟩
 |(a,b)::r=>by
  show k∈(if a=k then (a,v)::r else (a,b)::eZ r k v).map (·.1)/\∀x∈a::r.map (·.1),x∈(if a=k then (a,v)::r else (a,b)::eZ r k v).map (·.1);by_cases h:a=k
  ·rw[if_pos h];show⟨h▸G',λx hx=>hx⟩
  ·rw[if_neg h]
   have ih:=qj (v:=v) (k:=k) (l:=r);show⟨J' _ ih.1,λx hx=>(ċ.mp hx).elim (λe=>e▸G') λq=>J' _ (ih.2 x q)⟩
theorem BL:∀{l:List Str} {acc:List (Str×V)},n∈acc.map (·.1)\/n∈l->n∈(l.foldl (λacc n=>eZ acc n (.bool Æ)) acc).map (·.1)
 |[],_,h=>h.resolve_right λq=>nomatch q
 |x::l,acc,h=>BL (l:=l) (h.elim (λq=>.inl (qj.2 n q)) λq=>(ċ.mp q).elim (λe=>.inl (by rw[e];show qj.1)) .inr)
theorem Lv{x:bo}{a:Int}(hx:x∈Ds)(h:(O,a)∈x.ns):O∈j0:=(mf _).mem_iff.mpr (BL (.inr (adY.mpr ⟨x,hx,ş.mpr ⟨_,h,N⟩⟩)))
theorem Mq:∀b∈LP cs,0<=b.a:=λb hb=>(ğ.mp hb).elim (Yp b) λh=>by show aF (adY.mp h) λx hx hb=>?_;rw[(ac0.mp hb).2];show Ċ (by decide) (WO _ (Ź hx).1)
theorem Jt(S:Aw j0 cs):∃st,wa (LP cs) Ds=.ok st:=by
 have C:=Js (bs:=LP cs) Mq λx hx=>⟨Qq x hx,(PV x hx).nn⟩;cases e:wa (LP cs) Ds with
 |ok st=>show⟨st,N⟩
 |error O=>show aP (C.2 O e) λq1 q2=>aF q1 λt ht q=>?_;have h1:=S.srv O (aF q2 λx hx h=>h.elim λa h=>Lv hx h) t ht;unfold LP at q;rw[jB,ŝ,jl,<-jB,<-jB,wS (z:=zP cs) λx hx=>(S.bd _ (Ź hx).2).1,<-Ga S.len,AS]at q;rw[uw]at h1;show absurd q (ŉ.mpr (aei (Ċ (adT _ _) h1)))
end
def T5(cs:List Int):Prop:=Aw j0 cs->∀d H,pt (d+3) 5 [vD,TV cs] H λv z=>(∃us:List (List (Nat×Int)),v=.tup (us.map BO))/\∀d' ae,pt (d'+1) 6 [TV cs,v] ae λz z=>True
def Kc:List Int:=hc T5 []
def Fs:List cF:=LP Kc
def vF:V:=.tup (Fs.map cF.v)
theorem H8{α:Type}{l:List α}{x:α}(h:l[j]?=À x):l.take j++x::l.drop (j+1)=l:=by have hj:=ģ.mp h;show(congrArg (l.take j++·) ?_).trans (ũ j l);rw[aby hj.1,hj.2]
theorem sN{α β:Type}{f:α->β->Except Str α}{l:List β}{a b c:α}{x:β}(h:dp f a l=.ok b)(hc:dp f a (l.take j)=.ok c)(hx:l[j]?=À x):∃c',f c x=.ok c'/\dp f a (l.take (j+1))=.ok c':=by
 rw[<-H8 hx,od,hc]at h;rw[bn hx,yZ hc];cases e:f c x with
 |ok c'=>show⟨c',N,N⟩
 |error w=>change (match f c x with|.ok b=>dp f b (l.drop (j+1))|.error e=>.error e)=_ at h;rw[e]at h;show nomatch h
structure S6(ns:List (Str×Int))(st:List Int×List (Nat×Int)):Prop where
 len:st.1.length=Fs.length
 nn:∀i,0<=bv st.1 i
 mem:∀p∈st.2,p.1<Fs.length
 le:st.2.length<=201*ns.length
theorem KG{l:List (Str×Int)}{p:Str×Int}{dy:Int}(G:S6 l st)(hp:0<=p.2)(hp2:p.2<=201)(h:IJ Fs dy st p=.ok aS):S6 (l++[p]) aS:=by
 unfold IJ at h;by_cases hb:0<(pD Fs st.1 p.1 p.2 dy).am
 ·rw[if_pos hb]at h;show nomatch h
 rw[if_neg hb]at h;injection h with h
 rw[<-h];have T:=BM (R:=Bf Fs) (t:=⟨[],st.1,p.2⟩) (λy y=>Bf.asym) (Ma Fs st.1 p.1 dy) λi hi=>⟨by rw[G.len];show qk (j7.mp hi),G.nn i⟩;show⟨(nE _ _).trans G.len,λi=>?_,λq hq=>(ğ.mp hq).elim (G.mem q) λhq=>(T.mem q hq).elim (λz=>nomatch z) λz=>qk (j7.mp z),?_⟩
 ·by_cases hi:i∈bE Fs st.1 p.1 dy
  ·show(T.inn i hi).1
  ·show(T.out i hi).symm▸G.nn i
 ·have F:((pD Fs st.1 p.1 p.2 dy).ps.length:Int)+(pD Fs st.1 p.1 p.2 dy).am<=0+p.2:=T.few λi hi=>vo (pK.mp (j7.mp hi)) λy y y y q=>q
  rw[Ā,Ā];show ϭ G.le (Ŝ.mp (Ċ (add (T.nn hp)) (Ċ F (Ċ (ŵ (ť p.2)) hp2))))
structure Qu(st:LN):Prop where
 len:st.1.length=Fs.length
 len2:st.2.length=Ds.length
 nn:∀i,0<=bv st.1 i
 mem:∀u∈st.2,∀p∈u,p.1<Fs.length
theorem Jw(G:Qu st)(pzJ:S6 ns p)(k:Nat):Qu (p.1,st.2.set k p.2):=⟨pzJ.len,(Ϻ ..).trans G.len2,pzJ.nn,λu hu=>(acp hu).elim (G.mem u) λe=>e▸pzJ.mem⟩
theorem UR:Qu (Ei Fs Ds):=⟨H' _,ϲ,λi=>kl (λx hx=>aF (ş.mp hx) λb hb e=>e▸Mq b hb) i,λu hu p hp=>by rw[(ac0.mp hu).2]at hp;show nomatch hp⟩
section
variable{d L j:Nat}{H:ag}{lf:List Int}{O:Str}{am dy:Int}{Á:aw}{U:aM}
theorem tG(hf:Fs.length<=60000)(hl:lf.length=Fs.length)(hL:H[L]?=À (.lst (lf.map .int))):pt (d+1) 3 [vF,.ref L,.str O,.int dy] H λv ae=>∃q,v=.ref q/\H.length<=q/\ae[q]?=À (.lst (bO (bE Fs lf O dy))):=by
 have hc:=dj (elt:=ab (az PP d) (xv 5)) (cond:=cW (az PP d) (a1 (.and (xE (xu 6 0) (xv 2)) (.and (NG (xu 6 2) (xv 3)) (xG (.idx (xv 1) (xv 5)) (xn 0)))))) (t:=.two 5 6) (U:=bu [vF,.ref L,.str O,.int dy]) (g:=λi=>V.tup [.int ((0+i:Nat):Int),(vH Fs i).v]) (p:=JB Fs lf O dy) (f:=λi:Nat=>V.int i) (H:=H) (bx _) (xs:=Đ Fs.length) λi hi=>by have jZ:=ń.mp hi;show⟨_,N,?_,λy=>congrArg (λz:Nat=>À (V.int z,H)) (ϋ i)⟩;rw[Os jZ];show nI (jy (bU (aZ 0 _ _ (aC N) N (by decide) N) N N) (jy (bU (aZ 2 _ _ (aC N) N (by decide) N) N N) (bU (br L ((0+i:Nat):Int) _ (.int (bv lf i)) N N hL (Ĕ _) ?_) N N)));rw[ϋ];show zH (hl▸jZ)
 have hz:(Fv Fs lf O dy).length<=60000:=z' (abS _ _) (by rw[Ŗ];show hf);show eL N N (W.set (eN ((gc EU Fs 0)▸nC N) hc (by rw[H'];show z' hz (by decide))) (W.retE (wf (ij (aC N) (aB H (.lst (bO (Fv Fs lf O dy))))) N (pd (c:=2) ((acZ).filter _) (z' hz (by decide)) (λy=>rfl) (λn hn=>Kk N (ń.mp (Š.mp hn).1)) (BB Fs _) λy y=>rfl)) ⟨_,N,(aE.app _ _).trans (aE.app _ _),_,N,(aE.app _ _).len,aB _ _⟩))
structure LZ(L:Nat)(H:ag)(t:Tk)(q:Nat)(ae:ag):Prop where
 keep:eT L H ae
 lf:ae[L]?=À (.lst (t.lf.map .int))
 hq:H.length<=q
 ps:ae[q]?=À (.lst (t.ps.map pV))
theorem y0{t:Tk}{l:List Nat}{k i:Nat}(h:l[k]?=À i):(l.take (k+1)).foldl r4 t=r4 ((l.take k).foldl r4 t) i:=by rw[bn h,ac4];rfl
theorem Pz(l:List Nat):∀t:Tk,(l.foldl r4 t).ps.length<=t.ps.length+l.length:=by
 induction l with
 |nil=>show λz=>ē _
 |cons i l ih=>
  intro t;show z' (ih (r4 t i)) ?_;rw[acb,ϙ l.length,<-ū];show Ϲ ?_ _;unfold r4;split
  ·rw[Ā];show ē _
  ·show ϓ _
abbrev uL(L:Nat)(dy:Int)(p:Nat)(O:Str)(a:Int):aM:=cw [À vF,À (.ref L),Ã,À (.int dy),À (.ref p),À (.str O),À (.int a)]
structure YH(l:List Nat)(lf:List Int)(am:Int)(L q:Nat)(H:ag)(k:Nat)(ae:ag)(t:Tk):Prop where
 ht:(l.take k).foldl r4 ⟨[],lf,am⟩=t
 h1:ae[L]?=À (.lst (t.lf.map .int))
 h2:ae[H.length]?=À (.lst (t.ps.map pV))
 h3:ae[q]?=À (.lst (bO l))
 hK:eT L H ae
end
def jJ(d:Nat)(H:ag)(L:Nat)(lf:List Int)(O:Str)(am:Int)(dy:Int):Prop:=∀(hf:Fs.length<=60000) (hl:lf.length=Fs.length) (hL:H[L]?=À (.lst (lf.map .int))) (h0:¬ 0<(pD Fs lf O am dy).am),∃q ae,az PP (d+2) 4 [vF,.ref L,.tup [.str O,.int am],.int dy] H=À (.ok (.ref q),ae)/\LZ L H (pD Fs lf O am dy) q ae
namespace used_callH
def kc:=hc (U7 jJ) (0,[],0,[],default,0,0)
def d:=kc.1
def H:=kc.2.1
def L:=kc.2.2.1
def lf:=kc.2.2.2.1
def O:=kc.2.2.2.2.1
def am:=kc.2.2.2.2.2.1
def dy:=kc.2.2.2.2.2.2
theorem kt:jJ d H L lf O am dy:=by
 intro hf hl hL h0;have Vb:L<H.length:=(ģ.mp hL).1;show gm (fh (P:=PP) (k:=4) (d:=d+1) (H:=H) (R:=λv ae=>∃q,v=.ref q/\LZ L H (pD Fs lf O am dy) q ae) N (as:=[vF,.ref L,.tup [.str O,.int am],.int dy]) N (W.set (v:=.ref H.length) (Î:=H++[.lst []]) N (W.put N N (fe (tG (d:=d) (H:=H++[.lst []]) (O:=O) (dy:=dy) hf hl (aE.app _ _ _ _ hL)) λv bi e1 k1 q1=>eK q1 λq q1 hq V7=>?_)))) λv ae e q=>aF q λq e1 R=>⟨q,ae,e1▸e,R⟩;rw[q1]at e1;rw[Ā]at hq;have ML:H.length<q:=hq;generalize hE:bE Fs lf O dy=l at V7;have ch:l.length<=60000:=by rw[<-hE];show z' (Oe _ _ _ _) hf
 have cG:∀i∈l,i<Fs.length:=λi hi=>qk (j7.mp (hE▸hi));have htk:pD Fs lf O am dy=l.foldl r4 ⟨[],lf,am⟩:=by unfold pD;rw[hE]
 rw[htk]at h0 ⊢
 show W.loop (ij (af N e1) V7)
  (λk U ae=>∃t,U=(uL L dy H.length O t.am)/\YH l lf am L q H k ae t)
  (a:=(uL L dy H.length O am)) (ar ⟨N,N,N,N,N,N,trivial⟩) ⟨⟨[],lf,am⟩,N,N,k1 _ _ (aE.app _ _ _ _ hL),k1 _ _ (aB _ _),V7,((aE.app _ _).trans k1).b⟩ (λ_ _ _ ⟨_,_,I⟩=>gE I.h3) ?_ ?_
 ·intro j x ρ2 dG hx q1
  show aF q1 λt q1 I=>?_;apply ba q1;show aF (Pn hx) λi hi q3=>?_;apply ba q3;have uk:=cG i (Ĥ hi);have vq:=Pz (l.take j) ⟨[],lf,am⟩;have XS:=nE (l.take j) ⟨[],lf,am⟩;have Rz:=y0 (t:=⟨[],lf,am⟩) hi;rw[I.ht]at vq XS Rz;have P7:i<t.lf.length:=by rw[XS];show hl▸uk
  have hpz:(t.ps.map pV).length<=ax:=by rw[H'];show z' vq (z' (by rw[ad5,ϋ];show z' (ad2 j l) ch) (by decide:60000<=ax))
  show⟨_,N,W.if_ (Î:=dG) N (λh0=>?_) λh0=>?_⟩
  ·show W.set (v:=.int (nJ t i)) (aL (aA N (al (br L (i:Int) _ _ N N I.h1 (Ĕ _) (zH P7)))) N) (W.setItem0 L (i:Int) (t.lf.map .int) (.int (bv t.lf i-nJ t i)) (aJ (br L (i:Int) _ _ N N I.h1 (Ĕ _) (zH P7)) N N) N N I.h1 (Ĕ _) (by rw[ĭ,H'];show P7) ?_)
   rw[ĭ,dQ];show W.set N ?_;have g1:=fu (m':=.lst ((t.lf.set i (bv t.lf i-nJ t i)).map .int)) I.h1;have g2:=(eG (m:=.lst ((t.lf.set i (bv t.lf i-nJ t i)).map .int)) (Ł Vb)).trans I.h2;have g3:=(eG (m:=.lst ((t.lf.set i (bv t.lf i-nJ t i)).map .int)) (Ł (Ϙ Vb ML))).trans I.h3;have K3:eT L H (dG.set L (.lst ((t.lf.set i (bv t.lf i-nJ t i)).map .int))):=λb o hb e=>(eG (Ne.symm hb)).trans (I.hK b o hb e);generalize dG.set L (.lst ((t.lf.set i (bv t.lf i-nJ t i)).map .int))=dY at g1 g2 g3 K3
   show W.append0 H.length (t.ps.map pV) (pV (i,nJ t i)) N g2 N hpz (W.nil (W.nil ⟨N,(uL L dy H.length O (t.am-nJ t i)),ar ⟨N,N,N,N,N,N,trivial⟩,⟨t.ps++[(i,nJ t i)],t.lf.set i (bv t.lf i-nJ t i),t.am-nJ t i⟩,N,Rz.trans (if_pos h0),(eG (ō Vb)).trans g1,
    (fu g2).trans (congrArg (λz=>À (bp.lst z)) (ŝ (l₂:=[(i,nJ t i)])).symm),(eG (Ł ML)).trans g3,λb o hb e=>(eG (ō (ģ.mp e).1)).trans (K3 b o hb e)⟩))
  ·show W.nil (W.nil ⟨N,(uL L dy H.length O t.am),ar ⟨N,N,N,N,N,N,trivial⟩,t,N,Rz.trans (if_neg h0),I.h1,I.h2,I.h3,I.hK⟩)
 ·intro ρ2 dG q1
  show aF q1 λt q1 I=>?_;apply ba q1;have ht:=I.ht;rw[show (bO l).length=l.length from H' _,ŗ]at ht;rw[ht]at h0 ⊢;show W.iteF dG (bN (congrArg (λb=>À (V.bool b,dG)) (decide_eq_false h0))) (W.nil (W.retE N ⟨_,N,_,N,I.hK,I.h1,ē _,I.h2⟩))
end used_callH
theorem DU:jJ d H L lf O am dy:=hk (P:=U7 jJ) used_callH.kt (d,H,L,lf,O,am,dy)
section
variable{d L j A B C q:Nat}{H:ag}{Á:aw}{U:aM}
theorem KT(n:Nat):Dg [V.tup []] n=(ś n ([]:List (Nat×Int))).map BO:=by
 induction n with
 |zero=>rfl
 |succ n ih=>rw[ad6,Œ,<-ih];rfl
theorem FO(h:U 0=À vD):ab Á (xM (.list (a1 (.tuple .nil))) (.prim .len (a1 (xv 0)))) U H=À (.ref (H.length+1),H++[.lst [.tup []]]++[.lst ((ś Ds.length ([]:List (Nat×Int))).map BO)]):=by show aJ (cJ (vs:=[.tup []]) N (by decide)) (aL (vs:=[vD]) (al (aC h)) ((iC _).trans (by rw[H']))) ?_;show ((lst (H++[.lst [.tup []]]) H.length).bind λx=>if 0<=(Ds.length:Int)/\(Ds.length:Int)<=100000/\x.length<=100 then rO (H++[.lst [.tup []]]) (Dg x (Ds.length:Int).toNat) else Ã)=_;rw[c8 (aB _ _),ace,if_pos ⟨Ĕ _,Ŝ.mpr (z' SQ (by decide)),(by decide:1<=100)⟩,KT,ĭ];unfold rO;rw[if_pos (by rw[H',ϲ];show z' SQ (by decide)),Ā];rfl
theorem AL{x:bo}{i:Nat}(h:Ds[i]?=À x):(Ds.map bo.v)[((i:Nat):Int).toNat]?=À x.v:=by rw[ĭ,Ħ,h];rfl
theorem Gz{n:Nat}(h0:U 0=À vD)(hn:n<Ds.length):∃v,dn (.idx (.idx (.var 0) (.var 9)) (.num 0)) (cR U 9 (.int n)) H=À v/\r2 v=À (Qk Ds n).1/\(Qk Ds n).2=n:=by
 have hx:=N' hn;show⟨.int (rX Ds n),?_,N,N⟩
 have e1:dn (.idx (.var 0) (.var 9)) (cR U 9 (.int n)) H=À Ds[n].v:=by show ((cR U 9 (.int n)) 0).bind _=_;rw[show (cR U 9 (.int n)) 0=U 0 from N,h0];show kM (l:=Ds.map bo.v) (Ĕ _) (AL hx)
 unfold rX;show (dn (.idx (.var 0) (.var 9)) (cR U 9 (.int n)) H).bind _=_;rw[e1,hx];rfl
theorem qL{bi dG:ag}(h:aE H bi)(hA:H.length<=A)(hB:eT A bi dG):aE H dG:=λi o e=>hB i o (Ł (Į (ģ.mp e).1 hA)) (h i o e)
abbrev cL(A B:Nat):aM:=cw [À vD,À vF,À (.ref A),À (.ref B)]
abbrev YJ(A B k d C:Nat):aM:=cw [À vD,À vF,À (.ref A),À (.ref B),À (.int k),À (.int d),Ã,À (.ref C)]
structure Yy(H:ag)(q j:Nat)(ae:ag)(st:LN):Prop where
 hf:dp (sH Fs Ds) (Ei Fs Ds) ((m9 Ds).take j)=.ok st
 g:Qu st
 e1:ae[H.length]?=À (.lst (st.1.map .int))
 e2:ae[H.length+2]?=À (.lst (st.2.map BO))
 e3:ae[q]?=À (.lst (bO (m9 Ds)))
 hK:aE H ae
structure YD(H:ag)(q C:Nat)(x:bo)(st:LN)(j:Nat)(ae:ag)(s:List Int×List (Nat×Int)):Prop where
 hf:dp (IJ Fs x.d) (st.1,[]) (x.ns.take j)=.ok s
 g:S6 (x.ns.take j) s
 e1:ae[H.length]?=À (.lst (s.1.map .int))
 e2:ae[H.length+2]?=À (.lst (st.2.map BO))
 e3:ae[q]?=À (.lst (bO (m9 Ds)))
 e4:ae[C]?=À (.lst (s.2.map pV))
 hK:aE H ae
theorem Fk(S:Aw j0 Kc):pt (d+3) 5 [vD,vF] H λv y=>∃st,v=.tup (st.2.map BO)/\Qu st:=by
 have hf:Fs.length<=60000:=u6 S.bd;show(show ∃st,wa Fs Ds=.ok st from Jt S).elim λCk Zy=>?_;have hl:=dj (elt:=ab (az PP (d+2)) (xu 9 1)) (cond:=cW (az PP (d+2)) .nil) (t:=.one 9) (w:=[]) (U:=bu [vD,vF]) (H:=H) (g:=cF.v) (p:=λy=>Æ) (f:=λb=>V.int b.a) (bx _) (xs:=Fs) λb y=>⟨_,N,N,λy=>aZ 1 _ _ (aC N) N (by decide) N⟩;rw[cT,show (Fs.map λb=>V.int b.a)=(Ei Fs Ds).1.map .int by unfold Ei;rw[Ŭ];rfl]at hl;show eL N N (W.set (eN (dh N) hl (by rw[H'];show z' (ň (H' _)) (z' hf (by decide)))) (W.set (FO N) ?_));have b1:=aE.app _ [bp.lst ((ś Ds.length ([]:List (Nat×Int))).map BO)] _ _ (aE.app _ [.lst [V.tup []]] _ _ (aB H (.lst ((Ei Fs Ds).1.map .int))));have b2:=aB (H++[.lst ((Ei Fs Ds).1.map .int)]++[.lst [V.tup []]]) (.lst ((ś Ds.length ([]:List (Nat×Int))).map BO));have b3:=(aE.app H [.lst ((Ei Fs Ds).1.map .int)]).trans ((aE.app _ [.lst [V.tup []]]).trans (aE.app _ [.lst ((ś Ds.length ([]:List (Nat×Int))).map BO)]));rw[Ā,Ā]at b2;rw[show (H++[bp.lst ((Ei Fs Ds).1.map .int)]).length+1=H.length+2 by rw[Ā];rfl];generalize H++[.lst ((Ei Fs Ds).1.map .int)]++[.lst [.tup []]]++[.lst ((ś Ds.length ([]:List (Nat×Int))).map BO)]=σ0 at b1 b2 b3 ⊢;have ML:H.length+2<σ0.length:=(ģ.mp b2).1;have hs:cE (az PP (d+2)) (.rng1 (.prim .len (a1 (xv 0)))) (cR (cR (bu [vD,vF]) 2 (.ref H.length)) 3 (.ref (H.length+2))) σ0=À ((Đ Ds.length).map λj:Nat=>V.int j,[],σ0):=(dT Ds.length)▸cM (aL (vs:=[vD]) N ((iC _).trans (by rw[H']))) (z' SQ (by decide));show W.each (xs:=m9 Ds) (cL H.length (H.length+2)) (λj ae=>∃st,Yy H σ0.length j ae st) (λy y=>False) (ij (wf hs N (pd (f:=Qk Ds) (c:=1) (m:=m9 Ds) (l:=Đ Ds.length) acZ (by rw[Ŗ];show z' SQ (by decide)) (λy=>rfl) (λn hn=>Gz N (ń.mp hn)) (Hb Qq) λy y=>rfl)) (aB _ _)) (ar ⟨N,N,N,N,trivial⟩) ⟨Ei Fs Ds,N,UR,aE.app _ _ _ _ b1,aE.app _ _ _ _ b2,aB _ _,b3.trans (aE.app _ _)⟩ (λy y I=>I.elim λy I=>gE I.e3) (λj i bi hi I=>I.elim λst I=>⟨_,N,?_⟩) (λbi I=>I.elim λst I=>?_) λy y y q=>q.elim
 ·have VK:i<Ds.length:=(uN Qq).mp (Ĥ hi)
  have hx:Ds[i]?=À Ds[i]:=N' VK;have TG:=PV _ (š VK);have r0:σ0.length<bi.length:=(ģ.mp I.e3).1;have hC:∀k,k<σ0.length->bi.length≠k:=λk hk=>ō (Ϙ hk r0);have h0:H.length<σ0.length:=Ϙ (abV (Ŵ 1)) ML;show aF (sN Zy I.hf hi) λaS Eo Rt=>?_;unfold sH at Eo;rw[hx]at Eo;dsimp only at Eo;generalize Ds[i]=x at hx TG Eo;cases hp:dp (IJ Fs x.d) (st.1,[]) x.ns with
  |error _=>rw[hp]at Eo;show nomatch Eo
  |ok p=>
   rw[hp]at Eo;injection Eo with Eo
   show W.put (v:=x.v) (Î:=bi) (aZ (i:Int) _ _ N N (Ĕ _) (AL hx)) N (W.set (v:=.ref bi.length) (Î:=bi++[.lst []]) N (W.each (xs:=x.ns) (YJ H.length (H.length+2) i x.d bi.length) (λm ae=>∃s,YD H σ0.length bi.length x st m ae s) (λy y=>False) (dh (aC N)) (ar ⟨N,N,N,N,N,N,N,trivial⟩) ⟨(st.1,[]),N,⟨I.g.len,I.g.nn,(λy h=>nomatch h),į _⟩,aE.app _ _ _ _ I.e1,aE.app _ _ _ _ I.e2,aE.app _ _ _ _ I.e3,aB _ _,I.hK.trans (aE.app _ _)⟩ (λy y y=>bx _) (λm p dG hm ó=>ó.elim λs ó=>⟨_,N,?_⟩) (λdG ó=>ó.elim λs ó=>?_) λy y y q=>q.elim))
   ·show aF (sN hp ó.hf hm) λs' rN yj=>?_
    have XW:=(TG.2 _ (Ĥ hm)).2;have pzJ:=KG ó.g (Ċ (by decide) XW.1) XW.2 rN;unfold IJ at rN;by_cases hb:0<(pD Fs s.1 p.1 p.2 x.d).am
    ·rw[if_pos hb]at rN;show nomatch rN
    rw[if_neg hb]at rN;injection rN with rN
    rw[<-rN]at pzJ yj;show gm (DU (d:=d) (H:=dG) hf ó.g.len ó.e1 hb) λu dY e3 ď=>?_;have f3:dY[bi.length]?=À (.lst (s.2.map pV)):=ď.keep _ _ (hC _ h0) ó.e4;have Y5:bi.length≠u:=Ł (Į (ģ.mp ó.e4).1 ď.hq)
    have RP:pR dY (.ref bi.length) (.ref u)=À (.none,dY.set bi.length (.lst (s.2.map pV++(pD Fs s.1 p.1 p.2 x.d).ps.map pV))):=by show (lst dY bi.length).bind (λl=>(lst dY u).bind λk=>if l.length+k.length<=ax/\bi.length≠u then À (V.none,dY.set bi.length (.lst (l++k))) else Ã)=_;rw[c8 f3];show (lst dY u).bind _=_;rw[c8 ď.ps];show if_pos ⟨?_,Y5⟩;have:=pzJ.le;rw[Ā]at this;rw[H',H'];show z' this (z' (adn 201 (z' (ň (congrArg ady (bn hm).symm)) (z' (ad2 _ _) TG.1.2.2))) (by decide))
    show W.extend bi.length u _ _ N ó.e4 (af N e3) RP (W.nil (.inl ⟨N,ar ⟨N,N,N,N,N,N,N,trivial⟩,_,yj,bn hm▸pzJ,(eG (hC _ h0)).trans ď.lf,(eG (hC _ ML)).trans (ď.keep _ _ (ō (abV (Ŵ 1))) ó.e2),(eG (ō r0)).trans (ď.keep _ _ (ō h0) ó.e3),?_,(qL ó.hK (ē _) ď.keep).set (z' (Ģ h0) (Ģ r0))⟩));rw[fu f3];show congrArg (λz=>À (bp.lst z)) (ŝ ..).symm
   ·have Jf:=ó.hf
    have pzJ:=ó.g;rw[ŗ]at Jf pzJ;have es:s=p:=by rw[hp]at Jf;injection Jf with Jf;show Jf.symm
    have e4:=ó.e4;have e1:=ó.e1;rw[es]at pzJ e4 e1;show W.setItem0 (H.length+2) (i:Int) (st.2.map BO) (BO p.2) (aL (vs:=[.ref bi.length]) N (bB e4 (by rw[H'];show z' pzJ.le (z' (adn 201 TG.1.2.2) (by decide))))) N N ó.e2 (Ĕ _) (by rw[ĭ,H',I.g.len2];show VK) (W.nil (.inl ⟨N,ar ⟨N,N,N,N,trivial⟩,aS,Rt,?_,?_,?_,?_,ó.hK.set (Ō _ _)⟩))
    ·rw[<-Eo];show Jw I.g pzJ i
    ·rw[eG (ō (abV (Ŵ 1))),<-Eo];show e1
    ·rw[fu ó.e2,<-Eo,ĭ,afM]
    ·rw[eG (Ł ML)];show ó.e3
 ·show W.retE (aL (vs:=[.ref (H.length+2)]) N (bB I.e2 (by rw[H',I.g.len2];show z' SQ (by decide)))) ⟨_,N,I.hK,st,N,I.g⟩
theorem Cv{us:List (List (Nat×Int))}(hf:Fs.length<=60000)(hu:∀u∈us,∀p∈u,p.1<Fs.length):pt (d+1) 6 [vF,.tup (us.map BO)] H λz z=>True:=by
 show eL N N (gm (nQ (Á:=az PP d) (U:=bu [vF,.tup (us.map BO)]) (H:=H) (n:=Fs.length) (e:=.prim .len (a1 (xv 0))) (λae=>aL N ((iC _).trans (by rw[H']))) (z' hf (by decide))) λq bi e1 û=>W.set e1 (W.each (cw [À vF,Ã,À (.ref q)]) (λz ae=>∃l:List Int,ml H q (l.map .int) ae/\l.length=Fs.length) (λz z=>False) (dh N) (ar ⟨N,N,trivial⟩) ⟨_,û,ϲ⟩ (λz z z=>bx _) (λj u dG hx I=>⟨_,N,?_⟩) (λdG I=>aF I λl O2 hl=>?_) λz z z q=>q.elim))
 ·have hu:=hu u (Ĥ hx)
  show W.each (cw [À vF,Ã,À (.ref q)]) (λz ae=>∃l:List Int,ml H q (l.map .int) ae/\l.length=Fs.length) (λz z=>False) (dh N) (ar ⟨N,N,trivial⟩) I (λz z z=>bx _) (λi p dY hp ó=>⟨_,N,?_⟩) (λdY ó=>W.nil (.inl ⟨N,Le.refl _,ó⟩)) λz z z q=>q.elim;have hp:=hu p (Ĥ hp);show aF ó λl û hl=>W.setItem0 q p.1 _ (.int (bv l p.1+p.2)) (aJ (br q p.1 _ _ N N û.hl (Ĕ _) (fR (hl▸hp))) N N) N N û.hl (Ĕ _) (by rw[ĭ,H',hl];show hp) (W.nil (.inl ⟨N,ar ⟨N,N,trivial⟩,l.set p.1 (bv l p.1+p.2),?_,(Ϻ ..).trans hl⟩));rw[ĭ,dQ];show û.set _
 ·have TA:q≠dG.length:=Ł (ģ.mp O2.hl).1
  show W.set (v:=.ref dG.length) (Î:=dG++[.lst []]) N (W.each (xs:=Đ Fs.length) (cw [À vF,Ã,À (.ref q),Ã,Ã,Ã,À (.ref dG.length)]) (λj ae=>ml H q (l.map .int) ae/\∃m,ae[dG.length]?=À (.lst m)/\m.length=j) (λz z=>False) ((gc EU Fs 0)▸nC N) (ar ⟨N,N,N,trivial⟩) ⟨O2.keep (aE.app _ _),[],aB _ _,N⟩ (λz z z=>bx _) (λj x dY hx ó=>⟨_,N,?_⟩) (λdY ó=>aF ó.2 λm h1 h2=>W.retE (aL N (bB h1 (by rw[h2,Ŗ];show z' hf (by decide)))) ⟨_,N,ó.1.hk,trivial⟩) λz z z q=>q.elim);show aP (fo hx) λqx hj=>(aF ó.2 λm h1 h2=>?_);apply ba qx;have eu:∀U:aM,U 2=À (.ref q)->U 4=À (.int ((0+j:Nat):Int))->ab (az PP d) (.idx (xv 2) (xv 4)) U dY=À (.int (bv l j),dY):=λU g2 g4=>br q _ _ _ (aC g2) (aC g4) ó.1.hl (Ĕ _) (by rw[ϋ];show fR (hl▸hj));have hm:m.length<=ax:=by rw[h2];show z' (Ģ hj) (z' hf (by decide))
  show W.set (aJ (x:=.int ((Fs[j]?).getD EU).a) N (eu _ N N) N) (W.ifB (b:=decide (((Fs[j]?).getD EU).l<7)) N (λz=>?_) λz=>?_)
  ·show W.append0 dG.length m _ N h1 (cC (aA (eu _ N N) (aA N (al N))) (show 3<=ax by decide)) hm (W.nil (W.nil (.inl ⟨N,ar ⟨N,N,N,trivial⟩,⟨ó.1.hq,ó.1.hk.set (z' O2.hk.len (ē _)),(eG TA.symm).trans ó.1.hl⟩,_,fu h1,by rw[Ā,h2];rfl⟩)))
  ·show W.append0 dG.length m _ N h1 (cC (aA (eu _ N N) (aA N (al N))) (show 3<=ax by decide)) hm (W.nil (W.nil (.inl ⟨N,ar ⟨N,N,N,trivial⟩,⟨ó.1.hq,ó.1.hk.set (z' O2.hk.len (ē _)),(eG TA.symm).trans ó.1.hl⟩,_,fu h1,by rw[Ā,h2];rfl⟩)))
theorem wb(cs:List Int):T5 cs:=hk (P:=T5) (λS d H=>fe (Fk S) λv ae e k q=>aF q λst q G=>⟨v,ae,e,k,⟨st.2,q⟩,λd' il=>q▸Cv (u6 S.bd) G.mem⟩) cs
end
section
variable{d t p q j:Nat}{H:ag}{cs:List Int}
def Yq(v:V):Prop:=∃y,v=.tup (.tup (Bv.map .int)::y)
theorem DV:QB (d+7) 20 [vD,vG,vP] H λr z=>(∀c O,i9=À (c,O)->r=.exc c O)/\(i9=Ã->∃v,r=.ok v/\Yq v):=by
 show Hm N N (fe (u0 (d:=d) (H:=H)) λr bi e1 k1 R=>?_);cases he:i9 with
 |some p=>obtain ⟨c,O⟩:=p;rw[R.1 c O he]at e1;show W.setX rfl e1 (.inr ⟨c,O,rfl,k1,λc' nm' e=>aP (nS e) λa b=>by rw[a,b],λe=>nomatch e⟩)
 |none=>rw[R.2 he]at e1;show W.set (af N e1) (fe (tm (d:=d+5) (H:=bi) (Ht he)) λv2 dG e2 k2 q2=>?_);rw[q2]at e2;show W.set (af N e2) (fe (wb Bv (PJ he) (d+3) dG) λv3 dY e3 k3 q3=>W.set (af N e3) (fe (q3.2 (d+5) dY) λv nT e4 k4 z=>W.retE (cC (aA N (aA N (aA N (al (af N e4))))) (show 4<=ax by decide)) (.inl ⟨_,N,k1.trans (k2.trans (k3.trans k4)),(λc O e=>nomatch e),λz=>⟨_,N,_,N⟩⟩)))
theorem Ak:pt (d+8) 50 [vD,vG,vP] H λv ae=>∃q p x,WZ Yq v ae q p x:=Ia (d:=d+6) (f:=20) N (DV (d:=d))
theorem yJ(S:Aw j0 cs):pt (d+4) 51 [vD,TV cs] H λv z=>∃l,v=.tup l:=eL N N (fe (wb cs S d H) λv bi e k q=>q.1.elim λus q=>W.tryO (af N e) ⟨_,N,k,_,q⟩)
theorem SU(hl:cs.length=Ps.length)(h:j<Ps.length):(zP cs)[j]?=À (jp j,bv cs j):=by unfold zP jp bv;rw[aco,N' h,N' (hl.symm▸h)];show⟨N,N⟩
theorem YI(h:PZ cs)(j:Nat):(bv cs j).natAbs<18446744073709551616:=by
 unfold bv;cases e:cs[j]? with
 |none=>decide
 |some x=>show mB (h x (Ĥ e)).1 (abX (h x (Ĥ e)).2 (by decide))
theorem Aj(hb:PZ cs)(hl:cs.length=Ps.length):pt (d+1) 19 [vP,.tup (cs.map .int)] H λv z=>v=.int (Ly cs):=by
 have hz:(zP cs).length<=30:=by unfold zP;rw[acL];show z' (acl _ _) yp
 have hs:=jm (Á:=az PP d) (elt:=xM (xu 2 2) (xv 3)) (t:=.two 2 3) (it:=.zip (xv 0) (xv 1)) (ifs:=.nil) (U:=bu [vP,.tup (cs.map .int)]) (H:=H) (xs:=zP cs) (p:=λz=>Æ) (f:=λx=>x.1.p*x.2) (HR N N) (gE (aB _ _)) (z' hz (by decide)) λx hx=>⟨_,N,N,λz=>aJ (aZ 2 _ _ (aC N) N (by decide) N) N (ig (fT (mB (hb _ (Ź hx).2).1 (abX (hb _ (Ź hx).2).2 (by decide)))))⟩;show eL N N (W.retE hs ⟨_,N,(aE.app _ _).trans (aE.app _ _),?_⟩);rw[cT];show congrArg V.int ?_
 conv=>lhs;rw[<-oB ((⟨adX,0,0,0⟩,0):Pk×Int) (zP cs)]
 rw[show (zP cs).length=Ps.length by unfold zP;rw[acL,hl,afc],Ŭ];show congrArg aX (ŭ λi hi=>?_);show (((zP cs)[i]?).getD (⟨adX,0,0,0⟩,0)).1.p*(((zP cs)[i]?).getD (⟨adX,0,0,0⟩,0)).2=_;rw[SU hl (ń.mp hi)];rfl
theorem GY(hb:PZ cs){a:V}(ha:∀(U:aM) i,i<Ps.length->U 1=À a->U 2=À (.int i)->ab (az PP d) (.idx (xv 1) (xv 2)) U H=À (.int (bv cs i),H)):pt (d+1) 52 [vP,a] H λv z=>v=.int (Ly cs):=by have hs:=jm (Á:=az PP d) (elt:=xM (xi (.idx (xv 0) (xv 2)) 2) (.idx (xv 1) (xv 2))) (t:=.one 2) (it:=.rng1 (.prim .len (a1 (xv 0)))) (ifs:=.nil) (U:=bu [vP,a]) (H:=H) (xs:=Đ Ps.length) (p:=λz=>Æ) (f:=λk=>(jp k).p*bv cs k) ((dT Ps.length)▸cM (aL N ((iC _).trans (by rw[H']))) (z' yp (by decide))) (bx _) (z' (ň Ŗ) (z' yp (by decide))) λk hk=>⟨_,N,N,λz=>aJ (aZ 2 _ _ (aZ k _ _ N N (Ĕ _) (Bn (ń.mp hk))) N (by decide) N) (ha _ k (ń.mp hk) N N) (ig (fT (YI hb k)))⟩;rw[cT]at hs;show eL N N (W.retE hs ⟨_,N,aE.app _ _,N⟩)
end
section
variable{d o l r j n q:Nat}{H:ag}{U:aM}{c:Int}{O:Str}
theorem Fl{os:List V}(ho:H[o]?=À (.lst os))(hn:os.length<=30)(c:Int):pt (d+2) 43 [.ref o,.int c] H λv ae=>∃cs,v=.ref H.length/\PY V.int (λx=>0<=x/\x<=6) H H.length os.length cs ae:=by
 show eL N N (W.set (Î:=H++[.lst []]) N (W.build (L:=cw [À (.ref o),À (.int c),À (.ref H.length)]) V.int (λx=>0<=x/\x<=6) H.length (cM (aL N (mX (aE.app _ _ _ _ ho))) (z' hn (by decide))) (ar ⟨N,N,N,trivial⟩) (aE.app _ _) (aB _ _) (λj bs bi hj I=>?_) λcs bi I=>W.retE N ⟨_,N,I.k,cs,N,I⟩));show W.set (af N (ie N _ _ (show j+50<18446744073709551616 from Į (acP (Į hj hn) 50) (by decide)))) ?_;generalize uG c (j+50)=s;have b:=bG (a:=s) (b:=5) (by decide);have b3:=bG (a:=s.fdiv 5) (b:=3) (by decide);have b7:=bG (a:=s.fdiv 5) (b:=7) (by decide)
 have hl:∀y∈([0,(s.fdiv 5).fmod 3,(s.fdiv 5).fmod 3,(s.fdiv 5).fmod 7,0]:List Int),0<=y/\y<=6:=by have c3:0<=(s.fdiv 5).fmod 3/\(s.fdiv 5).fmod 3<=6:=⟨b3.1,Ċ (ϰ b3.2) (by decide)⟩;show acS.mpr ⟨by decide,acS.mpr ⟨c3,acS.mpr ⟨c3,acS.mpr ⟨⟨b7.1,adc b7.2⟩,acS.mpr ⟨by decide,λz h=>absurd h acr⟩⟩⟩⟩⟩
 have hk:(s.fmod 5).toNat<5:=(aez b.1).mpr b.2;show W.lay ([0,(s.fdiv 5).fmod 3,(s.fdiv 5).fmod 3,(s.fdiv 5).fmod 7,0]:List Int)[(s.fmod 5).toNat] I (ē _) N (br bi.length (s.fmod 5) (([0,(s.fdiv 5).fmod 3,(s.fdiv 5).fmod 3,(s.fdiv 5).fmod 7,0]:List Int).map .int) _ (cJ N (show 5<=ax by decide)) N (aB _ _) b.1 (by rw[Ħ,N' hk];rfl)) (aE.app _ _) (hl _ (š _)) (z' (Ģ hj) (z' hn (by decide))) (ar ⟨N,N,N,trivial⟩)
theorem Jj{x s:Int}(hs:1<=s)(hx:1<=x):0<=(x+s-1).fdiv s/\(x+s-1).fdiv s<=x/\x<=s*(x+s-1).fdiv s:=by
 have h0:0<s:=hs;have h1:0<=x+s-1:=ϱ (Ċ hs (aeh (Ċ (by decide) hx)));rw[Int.fdiv_eq_ediv_of_nonneg _ (ϰ h0)];show⟨afp h1 (ϰ h0),adc (Int.ediv_lt_of_lt_mul h0 ?_),?_⟩
 ·have:x*1<=x*s:=ad3 hs (Ċ (by decide) hx)
  rw[ϗ]at this;rw[afN,acU];show ab9 (Int.sub_lt_self _ (by decide)) (acv this s)
 ·have h2:=Int.mul_ediv_add_emod (x+s-1) s
  have h3:=Int.emod_lt_of_pos (x+s-1) h0;have h4:x+s=s*((x+s-1) / s)+((x+s-1) % s+1):=by rw[<-Ż,h2,adv]
  show Int.le_of_add_le_add_right (b:=s) (Ċ (ŵ h4) (acT h3 _))
theorem F9(os:List bI)(cs:List Int)(t:Nat):aX (((Đ os.length).filter λi=>decide ((t:Int)<(bS os i).l)).map λi=>(bS os i).a*bv cs i)=ck (jY bI.a t) os cs:=by
 rw[kQ];show congrArg aX (ŭ λi y=>?_);unfold jY;by_cases h:(t:Int)<(bS os i).l
 ·rw[if_pos h,if_pos (decide_eq_true h)]
 ·rw[if_neg h,if_neg λz=>h (of_decide_eq_true z),ό]
noncomputable def Jv:List Nat:=[6,5,4,3,2,1,0]
structure WV(os:List bI)(f:Nat->Int)(r:Nat)(H:ag)(j:Nat)(ae:ag)(cs:List Int):Prop where
 k:eT r H ae
 u:ae[r]?=À (.lst (cs.map .int))
 l:cs.length=os.length
 p:∀x∈cs,0<=x/\x<=6+200*j
 s:∀t∈Jv.take j,f t<=ck (jY bI.a t) os cs
theorem eT.set{L:Nat}{ae:ag}(h:eT L H ae)(m:bp):eT L H (ae.set L m):=λb o hb e=>(eG (Ne.symm hb)).trans (h b o hb e)
def Au(os:List bI)(f:Nat->Int):Prop:=∃t,t<7/\0<f t/\∀i,i<os.length->¬ (t:Int)<(bS os i).l
abbrev Tf(o r l:Nat)(c:Int):aM:=cw [À (.ref o),À (.ref r),À (.ref l),À (.int c)]
theorem FF{os:List bI}{cs:List Int}{f:Nat->Int}(ho:H[o]?=À (.lst (os.map bI.v)))(hl:H[l]?=À (.lst (((Đ 7).map f).map .int)))(hr:H[r]?=À (.lst (cs.map .int)))(hor:o≠r)(Z3:l≠r)(vp:∀o∈os,1<=o.a/\o.a<=200)(Qd:os.length<=30)(zj:cs.length=os.length)(im:∀x∈cs,0<=x/\x<=6)(hf:∀t,f t<=200)(c:Int):
  ∃v ae,az PP (d+2) 44 [.ref o,.ref r,.ref l,.int c] H=À (.ok v,ae)/\(v=.none/\Au os f\/v=.ref r)/\eT r H ae/\(v=.ref r->∃cs,WV os f r H 7 ae cs):=by
 show fh N N (W.each (xs:=Jv) (g:=λt=>.int ((t:Int)+1)) (Tf o r l c) (λj ae=>∃cs,WV os f r H j ae cs) (λfl ae=>fl=.ret .none/\Au os f/\eT r H ae) (Î:=H) N (ar ⟨N,N,N,N,trivial⟩) ⟨cs,eT.refl _ _,hr,zj,im,λm h=>nomatch h⟩ (λm m m=>bx _) (λj t bi hx I=>I.elim λcs I=>⟨_,N,?_⟩) (λbi I=>I.elim λcs I=>W.retE N ⟨_,N,.inr N,I.k,λm=>⟨cs,I⟩⟩) λfl aT ae q=>⟨_,q.1,.inl ⟨N,q.2.1⟩,q.2.2,λz=>nomatch z⟩);have ht:t<7:=(by decide:∀t∈Jv,t<7) t (Ĥ hx);have OR:=I.k _ _ hor ho;have XV:∀x∈cs,0<=x:=λx hx=>(I.p x hx).1;have oa:∀o∈os,0<=o.a:=λo h=>Ċ (by decide) (vp o h).1;have eo:∀(U:aM) (ae:ag) (i:Nat) (e:CE),i<os.length->aE bi ae->U 0=À (.ref o)->ab (az PP (d+1)) e U ae=À (.int i,ae)->ab (az PP (d+1)) (.idx (xv 0) e) U ae=À ((bS os i).v,ae):=λU ae i e hi hk g0 ge=>br o i _ (bS os i).v (aC g0) ge (hk _ _ OR) (Ĕ i) (JT hi);have ec:∀(U:aM) (ae:ag) (i:Nat) (e:CE),i<os.length->aE bi ae->U 1=À (.ref r)->ab (az PP (d+1)) e U ae=À (.int i,ae)->ab (az PP (d+1)) (.idx (xv 1) e) U ae=À (.int (bv cs i),ae):=λU ae i e hi hk g1 ge=>br r i _ _ (aC g1) ge (hk _ _ I.u) (Ĕ i) (fR (I.l.symm▸hi));have e1:=dj (elt:=ab (az PP (d+1)) (xv 9)) (cond:=cW (az PP (d+1)) (a1 (NG (xi (.idx (xv 0) (xv 9)) 2) (xv 4)))) (t:=.one 9) (w:=[]) (U:=cR (Tf o r l c) 4 (.int ((t:Int)+1))) (H:=bi) (g:=λi:Nat=>V.int i) (p:=λi=>decide ((t:Int)<(bS os i).l)) (f:=λi:Nat=>V.int i) (bx _) (xs:=Đ os.length) λi hi=>⟨_,N,nI (bU (aZ 2 _ _ (eo _ _ i _ (ń.mp hi) (aE.refl _) N N) N (by decide) N) N N),λm=>rfl⟩;have uh:∀i∈(Đ os.length).filter (λi=>decide ((t:Int)<(bS os i).l)),i<os.length/\(t:Int)<(bS os i).l:=λi hi=>⟨ń.mp (Š.mp hi).1,of_decide_eq_true (Š.mp hi).2⟩;have Er:((Đ os.length).filter (λi=>decide ((t:Int)<(bS os i).l))).length<=30:=z' (abS _ _) (by rw[Ŗ];show Qd);have XU:(Đ os.length).filter (λi=>decide ((t:Int)<(bS os i).l))=[]->∀i,i<os.length->¬ (t:Int)<(bS os i).l:=λe i hi z=>absurd (Š.mpr ⟨ń.mpr hi,decide_eq_true z⟩) (e▸acr);have hh:=F9 os cs t;generalize (Đ os.length).filter (λi=>decide ((t:Int)<(bS os i).l))=fit at e1 uh Er XU hh;show W.set (eN ((dT os.length)▸cM (aL N ((mX OR).trans (by rw[H']))) (z' Qd (by decide))) e1 (by rw[H'];show z' Er (by decide))) ?_;have k2:=aE.app bi [.lst (bO fit)];have hF:=aB bi (.lst (bO fit));generalize bi++[.lst (bO fit)]=dG at k2 hF;have e2:=jm (Á:=az PP (d+1)) (elt:=xM (xi (.idx (xv 0) (xv 9)) 0) (.idx (xv 1) (xv 9))) (t:=.one 9) (it:=.ex (xv 6)) (ifs:=.nil) (U:=cR (cR (Tf o r l c) 4 (.int ((t:Int)+1))) 6 (.ref bi.length)) (H:=dG) (p:=λm=>Æ) (f:=λi=>(bS os i).a*bv cs i) (ij N hF) (gE hF) (z' Er (by decide)) λi hi=>⟨_,N,N,λm=>aJ (aZ 0 _ _ (eo _ _ i _ (uh i hi).1 k2 N N) N (by decide) N) (ec _ _ i _ (uh i hi).1 k2 N N) (ig (KA (mB (oa _ (c9 (uh i hi).1)) (abX (vp _ (c9 (uh i hi).1)).2 (by decide)))))⟩;rw[cT,hh]at e2;show W.set e2 ?_;have XN:0<=ck (jY bI.a t) os cs:=pL (qA oa t) XV;have k3:=k2.trans (aE.app dG [.lst ((fit.map λi=>(bS os i).a*bv cs i).map .int)]);have Xr:=aE.app dG [.lst ((fit.map λi=>(bS os i).a*bv cs i).map .int)] _ _ hF;generalize dG++[.lst ((fit.map λi=>(bS os i).a*bv cs i).map .int)]=dY at k3 Xr;have XI:∀(ae:ag) (U:aM),U 2=À (.ref l)->U 4=À (.int ((t:Int)+1))->aE bi ae->ab (az PP (d+1)) (.idx (xv 2) (xS (xv 4) (xn 1))) U ae=À (.int (f t),ae):=λae U g2 g4 hk=>br l t _ _ (aC g2) (aJ (aC g4) N (congrArg (λz=>À (V.int z,ae)) (ad' (t:Int) 1))) (hk _ _ (I.k _ _ Z3 hl)) (Ĕ t) (by rw[ĭ,Ħ,Ħ,ϸ ht];rfl);have c1:∀ae,aE bi ae->ab (az PP (d+1)) (xL (xv 7) (.idx (xv 2) (xS (xv 4) (xn 1)))) (cR (cR (cR (Tf o r l c) 4 (.int ((t:Int)+1))) 6 (.ref bi.length)) 7 (.int (ck (jY bI.a t) os cs))) ae=À (.bool (decide (ck (jY bI.a t) os cs<f t)),ae):=λae hk=>bU (aC N) (XI ae _ N N hk) N;have hj:∀x∈cs,0<=x/\x<=6+200*(j+1:Nat):=λx hx=>⟨XV x hx,Ċ (I.p x hx).2 (acT (ad3 (Ŝ.mpr (ϓ j)) (by decide)) 6)⟩;by_cases hq:ck (jY bI.a t) os cs<f t
 ·rw[decide_eq_true hq]at c1
  have k4:=k3.trans (aE.app dY [.lst []]);have Tj:=aE.app dY [.lst []] _ _ Xr;show W.if_ (yP (c1 dY k3) (bU (aC N) (cJ (vs:=[]) N (į _)) (Fw (c8 Tj) (c8 (aB dY (.lst [])))))) (λhz=>W.retE N (.inr ⟨(λz=>nomatch z),N,⟨t,ht,abX XN hq,XU (϶.mp ((H' _).symm.trans hz))⟩,I.k.trans k4.b⟩)) λhz=>W.nil ?_;rw[H']at hz;generalize dY++[.lst []]=nT at k4 Tj;show W.iteT nT (bN (c1 nT k4)) ?_;have bm:=bG (a:=uG c (t+1)) (Ř.mpr (Ϸ hz));have em:=ie (P:=PP) (k:=23) (d:=d) (H:=nT) N c (t+1) (mB (ϟ (Ĕ t) (by decide)) (ab9 (aeN (Ř.mpr ht) 1) (by decide)));generalize uG c (t+1)=mv at bm em;have XQ:(mv.fmod fit.length).toNat<fit.length:=(aez bm.1).mpr bm.2;have hi:=uh _ (š XQ);show W.set (br bi.length (mv.fmod fit.length) _ _ N (aJ (af N em) (aL N ((mX Tj).trans (by rw[H']))) (dz λz=>hz (ad9.inj z))) Tj bm.1 (by rw[Ħ,N' XQ];rfl)) ?_;generalize fit[(mv.fmod fit.length).toNat]=i at hi;have hk:=vp _ (c9 hi.1);have ea:∀(U:aM),U 0=À (.ref o)->U 5=À (.int (i:Nat))->ab (az PP (d+1)) (xi (.idx (xv 0) (xv 5)) 0) U nT=À (.int (bS os i).a,nT):=λU g0 g5=>aZ 0 _ _ (eo U _ i _ hi.1 k4 g0 (aC g5)) N (by decide) N;show W.set (aJ (aJ (aJ (XI nT _ N N k4) (aC N) N) (ea _ N N) N) N N) ?_;have cl:=Jj (x:=f t-ck (jY bI.a t) os cs) hk.1 (Int.sub_pos_of_lt hq);have Tt:i<cs.length:=I.l.symm▸hi.1;have X3:=k4 _ _ I.u;show W.setItem0 r i (cs.map .int) _ (aJ (ec _ _ i _ hi.1 k4 N N) (aJ N (ea _ N N) (yM (aeB hk.1) (mB (Ċ (by decide) hk.1) (abX hk.2 (by decide))))) N) N N X3 (Ĕ i) (by rw[H',ĭ];show Tt) ?_;generalize (f t-ck (jY bI.a t) os cs+(bS os i).a-1).fdiv (bS os i).a=x at cl;rw[ĭ,dQ];show W.nil (W.nil (.inl ⟨N,ar ⟨N,N,N,N,trivial⟩,cs.set i (bv cs i+x),(I.k.trans k4.b).set _,fu X3,(Ϻ ..).trans I.l,λy hy=>?_,λu hu=>?_⟩))
  ·show(acp hy).elim (hj y) λe=>?_
   have:=I.p _ (show bv cs i∈cs by unfold bv;rw[N' Tt];show š Tt);rw[e];show⟨ϟ this.1 cl.1,Ċ (ada this.2 (Ċ cl.2.1 (Ċ (Int.sub_le_self _ XN) (hf t)))) (ŵ ?_)⟩;rw[Ż,show ((j+1:Nat):Int)=(j:Int)+1 from N,aej];rfl
  ·rw[mR _ _ hi.1 I.l]
   rw[bn hx]at hu;show(ğ.mp hu).elim (λz=>Ċ (I.s u z) (add (aef (qA oa u _ (c9 hi.1)) cl.1))) λz=>?_;rw[W'.mp z,show jY bI.a t (bS os i)=(bS os i).a from if_pos hi.2];show aei cl.2.2
 ·rw[decide_eq_false hq]at c1
  show W.iteF dY (bN (tV (c1 dY k3))) (W.nil (W.iteF dY (bN (c1 dY k3)) (W.nil (W.nil (.inl ⟨N,ar ⟨N,N,N,N,trivial⟩,cs,I.k.trans k3.b,k3 _ _ I.u,I.l,hj,λu hu=>?_⟩)))));rw[bn hx]at hu;show(ğ.mp hu).elim (I.s u) λz=>by rw[W'.mp z];show ŉ.mp hq
end
section
variable{d o l r j n q:Nat}{H:ag}{U:aM}{c:Int}{O:Str}{cs fs:List Int}
theorem WD(O:Str):az PP (d+1) 45 [vP,.str O] H=À (.ok (.ref H.length),H++[.lst (bO (fU O))]):=by
 have e:=dj (elt:=ab (az PP d) (xv 2)) (cond:=cW (az PP d) (a1 (xE (xi (.idx (xv 0) (xv 2)) 0) (xv 1)))) (t:=.one 2) (w:=[]) (U:=bu [vP,.str O]) (H:=H) (g:=λi:Nat=>V.int i) (p:=λi=>(jp i).n==O) (f:=λi:Nat=>V.int i) (bx _) (xs:=Đ Ps.length) λi hi=>
  ⟨_,N,nI (bU (aZ 0 _ _ (aZ i _ (jp i).v N N (Ĕ i) (Bn (ń.mp hi))) N (by decide) N) N N),λz=>rfl⟩
 show(mK N N).trans (Sw (eN ((dT Ps.length)▸cM (aL N ((iC _).trans (by rw[H']))) (z' yp (by decide))) e (by rw[H'];show z' (kC O) (z' yp (by decide)))))
theorem G8{Á:aw}(h2:U 2=À vP)(h6:U 6=À (.ref n))(hp:H[n]?=À (.lst (bO (fU O)))):ab Á (.comp (.slc (.idx (xv 2) (xv 10)) (xn 1) (.cst .none)) (.one 10) (.ex (xv 6)) .nil) U H=À (.ref H.length,H++[.lst ((fc O).map bI.v)]):=by have e:=dj (elt:=ab Á (.slc (.idx (xv 2) (xv 10)) (xn 1) (.cst .none))) (cond:=cW Á .nil) (t:=.one 10) (w:=[(n,.lst (bO (fU O)))]) (U:=U) (H:=H) (g:=λi:Nat=>V.int i) (p:=λz=>Æ) (f:=λk:Nat=>(jp k).off.v) (gE hp) (xs:=fU O) λk hk=>⟨_,N,N,λz=>lS (aZ k _ (jp k).v (aC h2) (aC (v:=.int k) N) (Ĕ k) (Bn (pa hk))) N N (Hv _)⟩;rw[cT,show ((fU O).map λk:Nat=>(jp k).off.v)=(fc O).map bI.v by unfold fc;rw[Ŭ];rfl]at e;show eN (ij (aC h6) hp) e (by rw[H'];unfold fc;rw[H'];show z' (kC O) (z' yp (by decide)))
theorem Lp{l:List Str}(S:Aw l cs)(hl:fs.length=(fU O).length)(hb:∀x∈fs,0<=x/\x<=1700)(hs:∀t,t<7->fz O t<=ck (jY bI.a t) (fc O) fs):Aw (l++[O]) (ng cs ((fU O).zip fs)):=by
 show⟨(nh _ _).trans S.len,λx hx=>(uS hx).elim (S.bd x) λq=>aF q λp hp e=>e▸hb _ (Ź hp).2,λn hn t ht=>?_⟩;by_cases q:n=O
 ·unfold hN
  rw[q,show (fU O).map (bv (ng cs ((fU O).zip fs)))=fs from uQ (adk.filter _) hl.symm λi hi=>S.len.symm▸pa hi];show hs t ht
 ·show Ċ (S.srv n ((ğ.mp hn).resolve_right λz=>q (W'.mp z)) t ht) (ŵ ?_)
  unfold hN;rw[ŭ λi hi=>(ni λp hp e=>q ?_).symm];have h1:=beq_iff_eq.mp (Š.mp hi).2;have h2:=beq_iff_eq.mp (Š.mp (Ź hp).1).2;rw[e]at h2;show h1.symm.trans h2
theorem FE(h2:∀O∈j0,¬ 200<lj O)(c:Int):pt (d+4) 46 [vD,vG,vP,.int c] H λv ae=>(v=.none/\∃O∈j0,Au (fc O) (fz O))\/∃q cs,v=.ref q/\ae[q]?=À (.lst (cs.map .int))/\Aw j0 cs:=by
 show eL N N (gm (yc (H:=H) (Á:=az PP (d+3)) (U:=bu [vD,vG,vP,.int c]) N) λq bi e1 û=>W.set e1 (fe (pj (d:=d+2) (H:=bi)) λv2 dG e2 k2 q2=>eK q2 λtr q2 htr hT=>?_));rw[q2]at e2;have XY:q<bi.length:=(ģ.mp û.hl).1;have htq:tr≠q:=ō (Į XY htr);have S0:Aw (j0.take 0) (Aa []):=⟨oC [],λx hx=>by rw[(ac0.mp hx).2];decide,λw h=>nomatch h⟩;show W.each (xs:=j0) (cw [À vD,À vG,À vP,À (.int c),À (.ref q)]) (λj ae=>∃cs,ml H q (cs.map .int) ae/\ae[tr]?=À (.lst (j0.map .str))/\Aw (j0.take j) cs) (λfl ae=>fl=.ret .none/\aE H ae/\∃O∈j0,Au (fc O) (fz O)) (ij (af N e2) hT) (ar ⟨N,N,N,N,N,trivial⟩) ⟨_,û.keep k2,hT,S0⟩ (λw w h=>h.elim λw h=>gE h.2.1) (λj O dY hx I=>eK I λcs û T S=>⟨_,N,?_⟩) (λdY I=>eK I λcs û T S=>?_) λfl aT ae h=>⟨_,h.1,h.2.1,.inl ⟨N,h.2.2⟩⟩
 ·have hn:=Ĥ hx
  show W.set (af N (WD O)) ?_;have k4:=aE.app dY [.lst (bO (fU O))];have hP:=aB dY (.lst (bO (fU O)));have l4:(dY++[bp.lst (bO (fU O))]).length=dY.length+1:=Ā;generalize dY++[.lst (bO (fU O))]=nT at k4 hP l4;show W.set (G8 N N hP) ?_;have k5:=aE.app nT [.lst ((fc O).map bI.v)];have hO:=aB nT (.lst ((fc O).map bI.v));have l5:(nT++[bp.lst ((fc O).map bI.v)]).length=nT.length+1:=Ā;generalize nT++[.lst ((fc O).map bI.v)]=ll at k5 hO l5;have vq:(fc O).length=(fU O).length:=H' _;have Xl:(fc O).length<=30:=vq▸z' (kC O) yp;show fe (Fl (d:=d+1) hO (by rw[H'];show Xl) c) λv6 Iw e6 k6 q6=>aF q6 λc0 q6 ó=>?_;rw[q6]at e6;show fe (Kp (d:=d+2) (H:=Iw) (O:=O)) λv7 PW e7 k7 q7=>aP q7 λq7 hL=>?_;rw[q7]at e7;have h6:ll.length<Iw.length:=(ģ.mp ó.b).1;have ho:nT.length≠ll.length:=Ł (l5▸ű _);show Jz (FF (d:=d+1) (k7 _ _ (k6 _ _ hO)) hL (k7 _ _ ó.b) ho (ō h6) (λo ho=>⟨(uM ho).1,(uM ho).2.1⟩) Xl (ó.l.trans (H' _)) ó.ok (λt=>Ċ (wU t) (aeD.mpr ⟨by decide,ŉ.mp (h2 O hn)⟩)) (c.fdiv 7)) λv8 NN e8 q8 k8 F8=>?_;show W.set (af (aA N (aA (af N e6) (aA (af N e7) (al N)))) e8) ?_;have K7:=k4.trans (k5.trans (k6.trans k7));have RS:q<dY.length:=(ģ.mp û.hl).1;have U0:dY.length<ll.length:=by rw[l5,l4];show acf (ű _)
  have K8:aE dY NN:=qL K7 (Ģ U0) k8;have O8:=û.keep K8;show q8.elim (λq8=>?_) λq8=>?_
  ·rw[q8.1]
   show W.iteT NN N (W.retE N (.inr ⟨(λz=>nomatch z),N,O8.hk,O,hn,q8.2⟩))
  ·show(F8 q8).elim λfs F=>?_
   rw[q8];have Er:fs.length=(fU O).length:=F.l.trans vq;have Xs:NN[dY.length]?=À (.lst (bO (fU O))):=k8 _ _ (Ł U0) (k7 _ _ (k6 _ _ (k5 _ _ hP)));have V9:ll.length≠q:=ō (Ϙ RS U0);show W.iteF NN N (W.nil (W.each (xs:=Đ (fU O).length) (cw [À vD,À vG,À vP,À (.int c),À (.ref q),Ã,À (.ref dY.length),Ã,Ã,À (.ref ll.length)]) (λk ae=>ml H q ((ng cs (((fU O).zip fs).take k)).map .int) ae/\eT q NN ae) (λw w=>False) ((dT (fU O).length)▸cM (aL N ((mX Xs).trans (by rw[H']))) (z' (kC O) (z' yp (by decide)))) (ar ⟨N,N,N,N,N,N,N,trivial⟩) ⟨O8,eT.refl _ _⟩ (λw w w=>bx _) (λk y WT hy K=>⟨_,N,?_⟩) (λWT K=>W.nil (.inl ⟨N,ar ⟨N,N,N,N,N,trivial⟩,_,K.1,K.2 _ _ htq (K8 _ _ T),?_⟩)) λw w w q=>q.elim))
   ·show aP (fo hy) λqy hk=>?_;apply ba qy
    have hz:((fU O).zip fs)[k]?=À ((fU O)[k],bv fs k):=by unfold bv;rw[aco,N' hk,N' (Er.symm▸hk)];show⟨N,N⟩
    show W.setItem0 q (fU O)[k] _ (.int (bv fs k)) (br ll.length k _ _ N N (K.2 _ _ V9 F.u) (Ĕ _) (fR (Er.symm▸hk))) N (br dY.length k _ _ N N (K.2 _ _ (ō RS) Xs) (Ĕ _) (by rw[ĭ,Ħ,N' hk];rfl)) K.1.hl (Ĕ _) (by rw[ĭ,H',nh,S.len];show pa (š hk)) (W.nil (.inl ⟨N,ar ⟨N,N,N,N,N,N,N,trivial⟩,?_,K.2.set _⟩));rw[ĭ,dQ,bn hz,xg];show K.1.set _
   ·rw[Ŗ,show ((fU O).zip fs).take (fU O).length=(fU O).zip fs from acW (by rw[acL];show acl _ _),bn hx]
    show Lp S Er (λx hx=>⟨(F.p x hx).1,Ċ (F.p x hx).2 (by decide)⟩) λt ht=>F.s t ((by decide:∀t,t<7->t∈Jv.take 7) t ht)
 ·rw[ŗ]at S
  show W.retE N ⟨_,N,û.hk,.inr ⟨q,cs,N,û.hl,S⟩⟩
theorem Ox{Á:aw}{a:CE}{Î:ag}{p:Nat}{l:List V}(ha:ab Á a U H=À (.ref p,Î))(h1:Î[p]?=À (.lst l)):ab Á (xN a (.list .nil)) U H=À (.bool (!decide (l.length=0)),Î++[.lst []]):=bU ha (cJ (vs:=[]) N (į _)) (by
 show (Dc _ (.ref p) (.ref Î.length)).bind _=_;rw[Fw (c8 (aE.app _ _ _ _ h1)) (c8 (aB _ _))];rfl)
end
theorem Oo:NO kw:=λw r cs H hw hr=>by
 have ew:∀(k:Nat) (x:V) (U:aM) (ae:ag),U 2=À (.ref w)->ae[w]?=À (.lst kw.v)->([vD,vG,vP]:List V)[((k:Nat):Int).toNat]?=À x->ab (az PP 19) (xu 2 k) U ae=À (x,ae):=λk x U ae g hw hx=>br w k _ _ (aC g) N hw (Ĕ _) hx;show fe (Ak (d:=11) (H:=H)) λv2 dG e2 k2 h2=>yO h2 λq2 p2 x2 T2=>?_;rw[T2.v]at e2;show W.set (af (aA (ew 0 vD _ _ N hw N) (aA (ew 1 vG _ _ N hw N) (al (ew 2 vP _ _ N hw N)))) e2) ?_;have ex:∀(k:Nat) (x:V) (U:aM) (ae:ag),U 3=À (.ref q2)->aE dG ae->([x2,.ref p2]:List V)[((k:Nat):Int).toNat]?=À x->ab (az PP 19) (xu 3 k) U ae=À (x,ae):=λk x U ae g hk hx=>br q2 k _ _ (aC g) N (hk _ _ T2.q) (Ĕ _) hx
 have out:∀(U:aM) (ae:ag) (aD:fx) (Q:cA->aM->ag->Prop),i9≠Ã->U 3=À (.ref q2)->aE dG ae->(∀U H,Q (.ret (.bool Æ)) U H)->W (az PP 19) (.cons (.ret (xN (xu 3 1) (.list .nil))) aD) U ae Q:=λU ae aD Q he g hk h=>by
  show W.retE (Î:=ae++[.lst []]) ((Ox (ex 1 _ _ _ g hk N) (hk _ _ T2.p)).trans ?_) (h _ _);cases e:i9 with
  |none=>show absurd e he
  |some p=>rfl
 have Wg:=k2 _ _ hw;show fe (pj (d:=18) (H:=dG)) λv3 dY e3 k3 q3=>eK q3 λtr q3 u hT=>?_;rw[q3]at e3;show W.each (xs:=j0) (cw [Ã,À (.ref r),À (.ref w),À (.ref q2)]) (λj ae=>aE dY ae/\∀n∈j0.take j,¬ 200<lj n) (λfl u=>fl=.ret (.bool Æ)) (ij (af (al (ew 0 vD _ _ N Wg N)) e3) hT) (ar ⟨N,N,N,trivial⟩) ⟨aE.refl _,λu h=>nomatch h⟩ (λu u h=>gE (h.1 _ _ hT)) (λj O nT hx I=>⟨_,N,?_⟩) (λnT I=>?_) λfl u u q=>⟨_,q,N⟩
 ·show aF (xc (d:=18) (H:=nT) PV O) λll e5 k5=>?_
  have K5:=I.1.trans k5;show W.if_ (p:=200<lj O) (bU (af (aA (ew 0 vD _ _ N (I.1 _ _ (k3 _ _ Wg)) N) (al N)) e5) N N) (λhc=>out _ _ _ _ (λz=>no ((lR z (Ĥ hx)).symm.trans (t5 hc))) N (k3.trans K5) λu u=>.inr ⟨(λz=>nomatch z),N⟩) λhc=>W.nil (W.nil (.inl ⟨N,ar ⟨N,N,N,trivial⟩,K5,λn hn=>?_⟩));rw[bn hx]at hn;show(ğ.mp hn).elim (I.2 n) λz=>by rw[W'.mp z];show hc
 have h2:=I.2;rw[ŗ]at h2;have K4:=k3.trans I.1;show W.each (xs:=Đ 2) (cw [Ã,À (.ref r),À (.ref w),À (.ref q2)]) (λu ae=>aE nT ae) (λfl u=>fl=.ret (.bool Æ)) ((dT 2)▸cM N (by decide)) (ar ⟨N,N,N,trivial⟩) (aE.refl _) (λu u u=>bx _) (λj x ll hx I5=>⟨_,N,?_⟩) (λll u=>W.retE N ⟨_,N,N⟩) λfl u u q=>⟨_,q,N⟩;show aP (fo hx) λqx hj=>?_;apply ba qx;have K5:=K4.trans I5;have TF:=K5 _ _ Wg;have ec:=lQ (P:=PP) (k:=22) (d:=18) (H:=ll) N (K5 _ _ (k2 _ _ hr)) 1 (by decide) N;have em:=ie (P:=PP) (k:=23) (d:=18) (H:=ll) N (cellF cs 1) (j+5) (mB (ϟ (Ĕ j) (by decide)) (ab9 (aeN (Ř.mpr hj) 5) (by decide)));generalize uG (cellF cs 1) (j+5)=cc at em;show fe (FE (d:=15) (H:=ll) h2 cc) λv6 Iw e6 k6 q6=>W.set (af (aA (ew 0 vD _ _ N TF N) (aA (ew 1 vG _ _ N TF N) (aA (ew 2 vP _ _ N TF N) (al (af (aA (af N ec) (al N)) em))))) e6) ?_;have Wh:=k6 _ _ TF;show q6.elim (λq6=>?_) λq6=>fe q6 λq fl q6 hf S=>?_
 ·rw[q6.1]
  show W.iteT Iw N (out _ _ _ _ (λz=>aF q6.2 λO hn pzJ=>eK pzJ λt ht h0 h1=>aF (Pu z hn ht h0) λi hi h=>h1 i hi h) N (K5.trans k6) λu u=>.inr ⟨(λz=>nomatch z),N⟩)
 ·rw[q6]
  have he:=N8 h2 S;show(T2.x he).elim λy qy=>?_;show W.iteF Iw N (W.nil (fe (tm (d:=18) (H:=Iw) S.bd) λv7 PW e7 k7 q7=>?_));rw[q7]at e7;show W.set (af (aA (ew 1 vG _ _ N Wh N) (aA (ew 2 vP _ _ N Wh N) (al (aL N (bB hf (by rw[H',S.len];show z' yp (by decide))))))) e7) ?_;have X6:=k7 _ _ Wh;have K7:=K5.trans (k6.trans k7);have e0:∀(U:aM) (ae:ag),U 3=À (.ref q2)->aE PW ae->ab (az PP 19) (xu 3 0) U ae=À (.tup (.tup (Bv.map .int)::y),ae):=λU ae g hk=>(ex 0 _ _ _ g (K7.trans hk) N).trans (by rw[qy]);show fe (yJ (d:=15) (H:=PW) S) λv8 NN e8 k8 q8=>q8.elim λl8 q8=>?_;rw[q8]at e8;show W.iteF NN (bN (Mo (bU (e0 _ _ N (aE.refl _)) N N) (Oy (b:=Æ) (aL (al (af (aA (ew 0 vD _ _ N X6 N) (al N)) e8)) N)))) (W.nil ?_);have X7:=k8 _ _ X6;have sl:Bv.length=Ps.length:=oC _;have B:=Ht he;have ei:∀(U:aM) (ae:ag),U 3=À (.ref q2)->aE PW ae->ab (az PP 19) (xi (xu 3 0) 0) U ae=À (.tup (Bv.map .int),ae):=λU ae g hk=>aZ 0 _ _ (e0 U ae g hk) N (by decide) N;show fe (Aj (d:=18) (H:=NN) B sl) λv9 WT e9 k9 q9=>?_;rw[q9]at e9;show W.set (af (aA (ew 2 vP _ _ N X7 N) (al (ei _ _ N k8))) e9) ?_;have X8:=k9 _ _ X7;show fe (GY (d:=18) (H:=WT) (cs:=Bv) (a:=.tup (Bv.map .int)) B λU i hi g1 g2=>aZ i _ _ (aC g1) (aC g2) (Ĕ _) (fR (sl.symm▸hi))) λv10 WQ Td CV q10=>?_;rw[q10]at Td;have VB:=CV _ _ (k9 _ _ (k8 _ _ (k7 _ _ hf)));show fe (GY (d:=18) (H:=WQ) (cs:=fl) (a:=.ref q) S.bd λU i hi g1 g2=>br q i _ _ (aC g1) (aC g2) VB (Ĕ _) (fR (S.len.symm▸hi))) λv11 WR Xc Gy q11=>?_;rw[q11]at Xc;show W.iteF WR (bN (Mo (bU N (af (aA (ew 2 vP _ _ N X8 N) (al (ei _ _ N (k8.trans k9)))) Td) (by show À (!_)=_;rw[beq_self_eq_true];rfl)) (bU N (af (aA (ew 2 vP _ _ N (CV _ _ X8) N) (al N)) Xc) (congrArg À (decide_eq_false (ŉ.mpr (Hu he S))))))) (W.nil (W.nil (.inl ⟨N,ar ⟨N,N,N,trivial⟩,I5.trans (k6.trans (k7.trans (k8.trans (k9.trans (CV.trans Gy)))))⟩)))
theorem law12(ns:List Int)(hn:ns.length<=63):∀H,∃ae,az PP 20 53 [.ro ns] H=À (.ok (.bool Æ),ae):=λH=>by show gm (fh (H:=H) (R:=λv z=>v=.bool Æ) (P:=PP) (d:=19) (k:=53) N (as:=[.ro ns]) N ?_) λv ae h q=>⟨ae,q▸h⟩;show W.set (af N (zN (P:=PP) (k:=21) (d:=18) (H:=H) N hn)) (fe (LF (d:=15) (aB H (.lst ((kq 1 ns).map .int)))) λv bi e1 k1 h1=>gm h1 λw c q hw=>?_);rw[q]at e1;show W.set (af N e1) (W.le (a:=cw [Ã,À (.ref H.length),À (.ref w)]) (ar ⟨N,N,trivial⟩) (hk (P:=NO) Oo c w H.length _ bi hw (k1 _ _ (aB _ _))))
end L.Lake
namespace L.Lake
open PySem PySem.W PyProof.Rows
noncomputable def qv:ö:=view PySem.Challenge.pw_uf060007_12 [1,2,3,5,6,7,8,9,11,12,13,14,16,17,19,20,21,22,23,24,25,27,28,29,30,31,33,34,35,36,37,38,39,40,41,42,43,44,45,46,47,48,49,50,51,52,53,54,55,56,57,58,59,60,61,62,63,64,65]
theorem q_said:PySem.Challenge.rw_uf060007_12.wellSaid=Æ:=(congrFun PySem.W.Fast.te9446332074065402090 _).trans (by decide +kernel)
theorem q_open:opening PySem.Challenge.pw_uf060007_12=plainProg PySem.Challenge.pw_uf060007_12.main.scope.names:=by kernel_rfl
theorem q_fence:∀s,fenceModules? PySem.Challenge.pw_uf060007_12 s=À s:=λs=>by kernel_rfl
theorem q_left:LeftO PySem.Challenge.pw_uf060007_12 qv [] (λs=>xlAt qv [] s&&recOk (RowW.records (OpenRow.toRowW PySem.Challenge.rw_uf060007_12.row)) s&&Ys qv s) (Hook.obs Hook.none) (Hook.val Hook.none) 6000:=
 Ks q_open N q_fence λw os=>PT.trans (by kernel_rfl)
end L.Lake
end
open PySem PySem.W PyProof.Rows
set_option tactic.hygienic true in
set_option maxRecDepth 100000 in
set_option maxHeartbeats 8000000 in
theorem PySem.Challenge.cw_uf060007_12_holds : PySem.Challenge.rw_uf060007_12.Holds := by
 w_on
 refine holds_law L.Lake.q_said fun WG=>?_
 refine holds_open (q:=L.Lake.qv) (loose:=[]) (Xt:=fun s=>xlAt L.Lake.qv [] s&&recOk (RowW.records (OpenRow.toRowW PySem.Challenge.rw_uf060007_12.row)) s&&L.Lake.Ys L.Lake.qv s) (XP:=L.Lake.XE L.Lake.qv) (Yf:=Hook.obs Hook.none) (Ya:=Hook.val Hook.none) (YP:=Hook.says Hook.none) (N:=6000) L.Lake.q_left (Hook.of Hook.none) (Hook.keeps Hook.none) (fun s e=>L.Lake.Yt (Bool.and_eq_true_iff.mp e).2) (fun mg h h' x hk=>L.Lake.XE.keeps x hk) (d:=?d) (kwd:=?kwd) ?h1 ?h2 ?h3 (fun s e=>recFacts_of (Bool.and_eq_true_iff.mp (Bool.and_eq_true_iff.mp e).1).2) (by rfl) WG (by decide +kernel) ⟨rfl,rfl,rfl,rfl,rfl,by decide +kernel⟩ ?hw ?hc
 case h1=>rfl
 case h2=>rfl
 case h3=>rfl
 (case hw=>w_witness2)
 intro w Ý Ì mg mb G Y fa o pm cd doc dV kV ho hd oi hD VY hg EM ci as V5 VV hrd hwl Z0
 wrow_args V5 VV hrd hwl Z0
 rename_i ns _ _ _ _ _ _ _ a vs _ _ _ _ _ hI _ ch _
 have OW:=L.Lake.law12 ns (by omega)
 have hq:((recsOf L.Lake.qv)[49]?).bind (fun d=>L.Lake.eD (L.Lake.Jh (L.Lake.Ct L.Lake.qv L.Lake.constsP [49]) d.scope (L.Lake.eC d.scope) 200) d.body)=some L.Lake.wj.body:=by kernel_rfl
 refine L.Lake.law_run G.T G.X (by decide +kernel) L.Lake.constsP [49] (by decide +kernel) (by decide +kernel) (P:=L.Lake.PP) [24,25,38,39,40,41,42] ?_ (fun k hk=>(L.Lake.ob hq).elim fun d h=>⟨d,_,List.mem_singleton.mp hk ▸ h.1,List.mem_singleton.mp hk ▸ rfl,h.2⟩) (k:=53) (name := "law") (by kernel_rfl) VY (by assumption) (by have:L.Lake.ax=16777216:=rfl;omega) hI (d:=20) (by omega) OW ?_
 ·kernel_rfl
 ·intro s' hk VF vp
  exact ⟨.inl ⟨.bool true,.bool true,[],rfl,fun _=>rfl,.bool true,by wrow_post,fun _=>⟨List.nodup_nil,fun _ h=>nomatch h⟩⟩,hk,vp,.of_eq (VF.trans hg)⟩
