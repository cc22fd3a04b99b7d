import PyProof.Rows.All
import PySem.Value
import PyProof.StrCalls2
import PySem.Eval
import KE.KEqDict
import KE.KDictList
import PyProof.Rows.SortStr
import PyProof.Rows.SortRunsK
import KE.KSortTup
import KE.KLam
import Wide.All
import Open.Line
import Open.Pieces
import OpenK.KCall
import PySem.Challenge.RW_uf060007_10
set_option Elab.async false
set_option tactic.hygienic false
set_option bootstrap.genMatcherCode false
set_option linter.all false
set_option genInjectivity false
set_option genSizeOf false
set_option autoImplicit false
set_option maxRecDepth 100000
noncomputable section
open Option renaming some->À,none->Ã
open PySem renaming call->Á,wpAny_bind->Â,Value->Ä,Shared->Å,wpAny_pure->Ç,Addr->È,wpAny->É,wpAny_mono->Ï,Around->Ñ,Heap->Ó,Expr->Ô,wpAny_loadPart_at->Õ,starEach->Ù,mainGlobals->Ü,wpAny_field->Þ,wpAny_holding->ß,Scope->à,wpAny_isSubtype_exc->á,wpAny_seqItems->æ,wpAny_newObj_type->ç,codeAny_builtin->é,sizeLine->ê,cellsFrom->ì,recursionLimit->í,IsPair->î,wpAny_truthy_bool->ð,wpAny_callSpecial?_slot->ñ,OsState->ô,rawInt->õ,Program->ö,GenState->ø,wpAny_rule->ú,sysModules->û,wpAny_execs_cons->ý,wpAny_call_entry->þ,checkBuiltinCall->ÿ,wpAny_setField_rec->ā,wpAny_pyIter_tuple->Ă,typeLookup->ă,builtinsNs->Ą,wpAny_updateSeq->Ć,NameKind->ć,plainId_quiet->Ĉ,codeAny_call_builtin->Č,Stmt->ď,Builtin->Đ,wpAny_standAt->ē,wpAny_letGo->ĕ,codeAmong->Ė,wpAny_Return_some->Ę,foldedSetIterable->ę,bootBuiltins->Ě,builtinLookup_eq_fast->ě,TriplesOk->Ĝ,codeAny->ĝ,unsupported->ğ,wpAny_execs_nil->ġ,argBest->Ĥ,wpAny_tryCatch->Ħ,wpAny_setField->ħ,cameBackBy->Ĩ,callEnvC->ĩ,FuncData->Ī,wpAny_pyIter_list->į,wpAny_assign_Name->İ,wpAny_attempt->ı,pyNext->Ĳ,backTo->ĳ,swapsWith->Ĺ,binaryOp->Ļ,Arguments->ļ,typeLookup_type->ł,letOwnedTupleGo->Ń,updateSeq->ŏ,wpAny_setItem_pairs->ŕ,ExceptHandler->ś,wpAny_call->Ŝ,wpAny_typeOf->ŝ,wpAny_pyIter_zip->ţ,noFill_tuple_add->Ť,wpAny_loadPart'->ů,wpAny_list_append_plain->ώ,wpAny_Call_method_lateS->Ϗ
open Bool renaming true->Æ,false->Ê
open PyProof.Rows renaming Keyed->Ë,wpS_bind->Í,wpS_pure->Ð,SortSt->Ò,pendingOf->Ö,arrOf->Ú,wpS_forRange->ã,seqObj->å,args_cons->è,failedOf->ë,IntsAre->ò,recsOf->ó,wpS_modify->ù,Call_Name->ĉ,setPending->ċ,args_nil->Ĕ,wpS_mono->ė,wpS_get->Į,wpS_lift->ĸ,reverseSlice'_eq->ĺ,mergeAt'->Ŋ,reverseSlice'->ř,listUpdate_at->Ś,SortKind->ŷ
open PySem.W renaming hideAll->Ŀ
open PySem.Calls renaming docDef->ŋ
open Nat renaming le_trans->z',lt_of_lt_of_le->ĵ,le_refl->đ,le_of_lt->ī,le_add_right->Ō,zero_le->ĥ,lt_of_succ_lt->š,ne_of_lt->ń,succ_le_succ->Š,lt_of_le_of_ne->ū,not_lt->ķ,le_of_eq->Ŏ,lt_of_le_of_lt->ų,ne_of_gt->Ř,le_antisymm->Ů,lt_irrefl->Ţ,le_succ_of_le->ź,min_eq_left->Ų,le_of_lt_succ->ϋ,add_sub_cancel_left->ϲ,sub_le->Ŗ,add_le_add_left->Ϙ,add_assoc->Ű,lt_succ_self->ϊ,add_le_add_right->ϯ,lt_succ_of_le->ϫ,add_right_comm->Ϸ,succ_pos->ż,zero_add->Ż,sub_pos_of_lt->϶,lt_add_of_pos_right->abQ,one_pos->Ÿ,pos_of_ne_zero->abU,max_eq_right->ϵ,le_of_ble_eq_true->ab2,add_le_add->Ϭ,add_comm->ϝ,add_sub_cancel'->ab',le_succ->ϐ,lt_trans->Ϣ,lt_succ_of_lt->ach,not_lt_zero->ack,lt_of_succ_lt_succ->acl,eq_zero_of_not_pos->acm,min_le_right->acr,not_le->ϖ,le_of_add_le_add_left->acw,min_le_left->acA,sub_self->Ϻ,sub_lt->ϣ,mul_le_mul_left->acL,succ_lt_succ->acP,succ_ne_zero->acQ,sub_add_cancel->acX,add_sub_cancel->acY,add_lt_of_lt_sub'->ac2,add_sub_add_right->ac4,add_sub_assoc->ac7,add_lt_add_right->add,min_eq_right->adh,add_left_cancel->adi,le_mul_of_pos_left->adC,le_of_succ_le_succ->adI,sub_eq_zero_of_le->adK,le_of_sub_eq_zero->adO,le_max_right->adS,not_succ_le_zero->adW,sub_le_sub_left->ad1,succ->ad5,max_le->ad',lt_succ_iff_lt_or_eq->aeg,exists_eq_add_of_le->ael,succ_pred_eq_of_pos->aep,min_self->aet,lt_or_ge->aeu,eq_zero_of_le_zero->aex,add_sub_add_left->aeF,add_right_cancel->aeG,sub_lt_sub_left->aeK,add_lt_add_left->aeL,lt_of_lt_of_eq->aeS,eq_zero_or_pos->aeT,lt_or_eq_of_le->aeU,beq->aeZ,lt_trichotomy->ae0,min_comm->ae2,succ_sub_succ->ae4,sub_zero->ae5,lt_add_right->afh,two_pos->afm,le_add_left->afp,zero_ne_one->afr,le_max_left->afs,strongRecOn->aft,le_min->afx,le_total->afE,zero_min->afF,add_zero->afG,sub_sub->afK,le_zero->afL
open List renaming mem_cons_self->G',length_map->H',mem_cons_of_mem->J',getElem?_eq_getElem->N',mem_singleton->W',length_append->Ā,append_assoc->ü,getElem?_eq_some_iff->Ğ,mem_cons->ą,mem_of_getElem?->ģ,getElem?_map->Ġ,mem_append->Ģ,append_nil->Ĭ,range->č,length_range->Ľ,pairwise_cons->Ő,take_length->Ň,map_append->ŉ,replicate->Ņ,take_append_drop->ŭ,mem_append_right->Ŭ,mem_of_mem_take->ű,mem_append_left->Ŵ,getElem?_append_left->ϕ,map_cons->œ,getElem?_append_right->Ϟ,size_toArray->Ū,getElem?_toArray->Ž,length_take->ũ,mem_map->ŗ,mem_filter->ť,isEmpty_iff->Ŷ,map_congr_left->ύ,getElem_mem->ŵ,getElem?_range->ό,getElem?_eq_none->Ϡ,mem_range->Ũ,pairwise_append->Ϛ,mem_of_mem_drop->ϙ,length_eq_zero_iff->ϳ,length_replicate->ϥ,lookup_cons->ſ,contains_cons->ϗ,map_map->Ŧ,drop_eq_getElem_cons->aby,of_mem_zip->ϔ,nodup_cons->ϛ,length_cons->Ϫ,all_eq_true->ϩ,mem_reverse->Ϩ,length_filter_le->abM,foldl_cons->ϧ,length_drop->ϴ,reverse_append->ab1,mem_iff_getElem->ab5,getElem?_set_ne->ab6,reverse_reverse->ab7,length_reverse->aca,extract_eq_take_drop->acd,reverse_perm->aci,pairwise_singleton->acj,pairwise_iff_getElem->acv,getElem?_zip_eq_some->acy,length_set->acC,take_sublist->acJ,not_mem_nil->acO,getElem?_set_self->acS,mem_filterMap->acZ,pairwise_lt_range->ac0,range_succ->ac1,set_append_right->ac3,foldl_append->ac5,length->ada,getElem?_of_mem->adb,perm_ext_iff_of_nodup->adf,filterMap_cons->adj,forIn_cons->adp,length_zip->adq,zip_cons_cons->adt,mem_replicate->adu,toArray->adw,drop_eq_nil_of_le->adx,take_add_one->ady,nodup_nil->adz,forIn_nil->adA,take_of_length_le->adD,drop_drop->adE,ext_getElem?->adG,findIdx_lt_length_of_exists->adJ,perm_append_comm->adN,zipIdx_cons->adQ,drop_length->adR,mem_flatMap->adT,nodup_range->adU,length_take_le'->adX,length_nil->adY,replicate_succ->adZ,map_eq_nil_iff->ad0,take_take->ad7,map->ad9,mem_or_eq_of_mem_set->aea,getElem_take->aec,pairwise_map->aed,contains->aef,cons_ne_nil->aei,getElem?_cons_succ->aej,cons_append->aek,isEmpty_nil->aem,filter_cons->aen,range_succ_eq_map->aes,length_eq_one_iff->aev,filter_eq_nil_iff->aew,map_const'->aey,pairwise_reverse->aez,findSome?_append->aeA,take_zero->aeE,findIdx_getElem->aeI,replicate_succ'->aeJ,mem_map_of_mem->aeM,flatMap_append->aeO,findSome?_cons->aeP,drop_nil->aeQ,zip_nil_right->aeV,filter_append->aeX,nodup_append->ae1,getElem_drop->ae9,getElem?_set->afb,flatMap_cons->afe,perm_middle->afi,not_lt->afl,nil_append->afq,drop_take->afu,drop_zero->afv,take_nil->afA,map_drop->afC,map_set->afJ,map_id->afM
open PySem.Heap renaming get?_push_of_some->O',get?_push_size->ŀ,lt_size->ő,get?_update_self->ϟ,get?_update_other->Ϧ,get?_none_of_le->abD,size_push->ϓ,get?_update_ne->aeN,get?_push_at->afa,get?->afj
open Exists renaming elim->ä
open Int renaming natCast_nonneg->Ē,toNat_natCast->ĭ,le_antisymm->ņ,le_trans->Ĵ,add_zero->Œ,le_refl->Ŕ,not_lt->ň,zero_add->ş,ofNat_le->Ş,ofNat_lt->ŧ,toNat_of_nonneg->Ϥ,sub_nonneg_of_le->abR,add_assoc->ϒ,add_pos_of_nonneg_of_pos->ab4,ofNat_sub->Ϯ,add_nonneg->ϸ,add_comm->ϭ,min_eq_right->acp,min_le_right->acq,lt_of_lt_of_le->acu,min_eq_left->acz,min_le_left->acB,zero_mul->acD,le_of_eq->acE,max_eq_right->acM,eq_ofNat_of_zero_le->acN,mul_one->Ϲ,lt_of_le_of_lt->acT,sub_add_cancel->acU,le_total->acV,le_of_lt->acW,one_mul->ac',lt_trans->adg,lt_irrefl->adk,max_eq_left->adn,le_max_left->ado,add_sub_cancel->adr,add_left_comm->adv,self_le_toNat->adH,le_max_right->adP,add_le_add_right->adV,add_lt_add_left->ad2,add_le_add_left->ad3,not_le->ad4,add_le_add->ad6,lt_trichotomy->aeb,toNat_sub->aee,ofNat->aeh,neg_eq_neg_one_mul->aeq,toNat_le->aer,mul_add->aeB,lt_iff_le_and_ne->aeC,sub_le_sub_right->aeD,le_of_lt_add_one->aeH,lt_or_eq_of_le->aeW,mul_zero->aeY,ediv_one->ae3,add_sub_assoc->ae6,sub_zero->ae7,ne_of_gt->ae8,lt_toNat->afc,sub_le_sub->afw,mul_assoc->afz,toNat_lt->afD,ne_of_lt->afI,neg->afN
open Or renaming elim->â
open Bool renaming and_eq_true_iff->Ł,false_ne_true->Ķ,and_eq_true->ō,not_eq_true'->ϑ,or_eq_true->Ϝ,false_eq_true->abS,or_eq_true_iff->ab0,or_eq_false_iff->acF,or_false->adl,true_and->adm,not_eq_false'->ads,eq_false_iff->adB,and_false->adF,and_eq_false_iff->adM,not_eq_true->aff,noConfusion->afg,false_or->afB,or_true->afH
open Array renaming toList_append->Ź,length_toList->ž,getElem?_toList->ϰ,getElem?_eq_some_iff->act,getElem?_eq_getElem->acx,toList_extract->acI,toList_push->ac6,getElem?_setIfInBounds_self_of_lt->ac9,toArray_toList->adc,toList_reverse->ade,toList_setIfInBounds->ad8,toList->ae',size_push->afn
open Option renaming map_eq_some_iff->ϱ,isSome_iff_exists->abA,isNone_iff_eq_none->abZ,bind_some->ab8,bind->ϡ,isSome->aeR,isSome_map->afd,getD->afk,map_some->afo,none_or->afy,or->afO
open Classical renaming byContradiction->abE,choose_spec->adL
open PySem.Str renaming ofString->ϻ,length_append->ac8,empty->aeo
open Except renaming ok->afP
namespace L.Lake
universe uu
theorem N{α:Sort uu}{a:α}:a=a:=rfl
inductive ZT where
 |v (i:Nat)
 |n (k:Nat)
 |a (x y:ZT)
 |s (x y:ZT)
noncomputable def Ys:Nat->List Int->Int:=Nat.rec (λc=>c.headD 0) λz f c=>f c.tail
noncomputable def ZT.ev(c:List Int):ZT->Int
 |.v i=>Ys i c
 |.n k=>(k:Int)
 |.a x y=>x.ev c+y.ev c
 |.s x y=>x.ev c-y.ev c
noncomputable def pB(f:Int->Int):List Int->List Int->List Int
 |[],m=>m.map f
 |x::l,m=>(x+f (m.headD 0))::pB f l m.tail
noncomputable def fO:List Int->List Int->Int
 |[],_=>0
 |x::l,c=>x*c.headD 0+fO l c.tail
noncomputable def ym:Nat->List Int
 |0=>[1]
 |i+1=>0::ym i
noncomputable def ZT.nf:ZT->List Int
 |.v i=>0::ym i
 |.n k=>[(k:Int)]
 |.a x y=>pB id x.nf y.nf
 |.s x y=>pB afN x.nf y.nf
theorem IF(k:Int)(f:Int->Int)(hf:∀x,f x=k*x)(m:List Int):∀c,fO (m.map f) c=k*fO m c:=by
 induction m with
 |nil=>intro c;exact(aeY k).symm
 |cons x m ih=>intro c;show f x*c.headD 0+fO (m.map f) c.tail=k*(x*c.headD 0+fO m c.tail);rw[ih,hf,aeB,afz]
theorem nM(k:Int)(f:Int->Int)(hf:∀x,f x=k*x)(l:List Int):∀m c,fO (pB f l m) c=fO l c+k*fO m c:=by
 induction l with
 |nil=>intro m c;exact(IF k f hf m c).trans (ş _).symm
 |cons x l ih=>
  intro m c
  have e:fO m c=m.headD 0*c.headD 0+fO m.tail c.tail:=by
   cases m with
   |nil=>show (0:Int)=0*_+0;rw[acD];rfl
   |cons y m=>rfl
  show (x+f (m.headD 0))*c.headD 0+fO (pB f l m.tail) c.tail=(x*c.headD 0+fO l c.tail)+k*fO m c;rw[ih,hf,e,Int.add_mul,aeB,afz,ϒ,ϒ,adv (k*_)]
theorem Eu(i:Nat):∀c,fO (ym i) c=Ys i c:=by
 induction i with
 |zero=>intro c;show 1*c.headD 0+0=_;rw[ac',Œ];rfl
 |succ i ih=>intro c;show 0*c.headD 0+fO (ym i) c.tail=_;rw[ih,acD,ş];rfl
theorem ZT.nf_ev(c:List Int)(e:ZT):fO e.nf (1::c)=e.ev c:=by
 induction e with
 |v i=>show 0*1+fO (ym i) c=_;rw[Eu,acD,ş];rfl
 |n k=>show (k:Int)*1+0=_;rw[Ϲ,Œ];rfl
 |a x y hx hy=>show fO (pB id x.nf y.nf) _=_;rw[nM 1 id (λx=>(ac' x).symm),hx,hy,ac'];rfl
 |s x y hx hy=>show fO (pB afN x.nf y.nf) _=_;rw[nM (-1) afN (λx=>aeq x),hx,hy,<-aeq];rfl
structure ZC where
 o:Nat
 l:ZT
 r:ZT
def ZC.den(c:List Int)(q:ZC):Prop:=[q.l.ev c<=q.r.ev c,q.l.ev c<q.r.ev c,q.l.ev c=q.r.ev c,q.l.ev c=q.r.ev c,¬ q.l.ev c<=q.r.ev c,¬ q.l.ev c<q.r.ev c].getD q.o False
noncomputable def ZC.t(q:ZC):ZT:=[.s q.r q.l,.s q.r (.a q.l (.n 1)),.s q.r q.l,.s q.l q.r,.s q.l (.a q.r (.n 1)),.s q.l q.r].getD q.o (.n 0)
theorem ZC.t_of(c:List Int)(q:ZC)(h:q.den c):0<=q.t.ev c:=by
 cases q with|mk o l r=>
 cases o with
 |zero=>exact abR h
 |succ o=>cases o with
  |zero=>exact abR h
  |succ o=>cases o with
   |zero=>exact abR (acE h)
   |succ o=>cases o with
    |zero=>exact abR (acE (Eq.symm h))
    |succ o=>cases o with
     |zero=>exact abR (ad4.mp h)
     |succ o=>cases o with
      |zero=>exact abR (ň.mp h)
      |succ o=>exact False.elim h
def ZC.gd(c:List Int)(q:ZC):Prop:=Nat.rec (q.l.ev c<=q.r.ev c) (λz z=>q.l.ev c<q.r.ev c) q.o
noncomputable def ZC.gt(q:ZC):ZT:=.s q.l (Nat.rec (.a q.r (.n 1)) (λz z=>q.r) q.o)
theorem ZC.of_neg(c:List Int)(q:ZC)(h:0<=q.gt.ev c->False):q.gd c:=by
 cases q with|mk o l r=>
 cases o with
 |zero=>exact ň.mp λk=>h (abR k)
 |succ n=>exact ad4.mp λk=>h (abR k)
noncomputable def NY(l:List Int):Bool:=l.all λx=>x==0
theorem Et(l:List Int):∀c:List Int,NY l=Æ->fO l c=0:=by
 induction l with
 |nil=>exact λz z=>rfl
 |cons x l ih=>intro c h;have h:=Ł.mp h;show x*_+fO l c.tail=0;rw[eq_of_beq h.1,ih _ h.2,acD];rfl
def IL(l:List Int):Nat->List Int->List Int:=Nat.rec id λz f acc=>f (pB id acc l)
theorem AB{l c:List Int}(h:0<=fO l c)(k:Nat):∀acc:List Int,0<=fO acc c->0<=fO (IL l k acc) c:=by
 induction k with
 |zero=>exact λz h0=>h0
 |succ k ih=>intro acc h0;refine ih _ ?_;rw[nM 1 id (λx=>(ac' x).symm),ac'];exact ϸ h0 h
def ZC.fin(g:ZC)(acc:List Int):Bool:=decide (acc.headD 0<0)&&NY acc.tail
def ZC.chk(g:ZC):List (Nat×ZC)->List Int->Bool:=List.rec (λacc=>g.fin (pB id acc g.gt.nf)) λp z f acc=>f (IL p.2.t.nf p.1 acc)
def ZC.all(c:List Int)(g:ZC):List (Nat×ZC)->Prop:=List.rec (g.gd c) λp z f=>p.2.den c->f
theorem ZC.all_of(c:List Int)(g:ZC)(t:List (Nat×ZC)):∀acc:List Int,ZC.chk g t acc=Æ->0<=fO acc (1::c)->ZC.all c g t:=by
 induction t with
 |nil=>
  intro acc h h0;refine ZC.of_neg c g λh3=>?_;rw[<-ZT.nf_ev]at h3
  have h5:0<=fO (pB id acc g.gt.nf) (1::c):=by rw[nM 1 id (λx=>(ac' x).symm),ac'];exact ϸ h0 h3
  have h2:g.fin (pB id acc g.gt.nf)=Æ:=h;generalize pB id acc g.gt.nf=z at h2 h5;have h2:=Ł.mp h2;cases z with
  |nil=>exact absurd (of_decide_eq_true h2.1) (adk 0)
  |cons x z=>have h6:0<=x*1+fO z c:=h5;rw[Et z c h2.2,Ϲ,Œ]at h6;exact absurd (of_decide_eq_true h2.1) (ň.mpr h6)
 |cons p t ih=>exact λacc h h0 hp=>ih _ h (AB (by rw[ZT.nf_ev];exact ZC.t_of c p.2 hp) p.1 acc h0)
noncomputable def WY(f:Nat):Nat->List ZT->List (Nat×ZC)->List (Nat×ZC)×ZC:=
 Nat.rec (λy y cs=>(cs,⟨0,.n 1,.n 0⟩)) (λy f z st cs=>
  bif Nat.blt (z % 16) 8 then f (z / 16) (.v (z % 16)::st) cs
  else bif aeZ (z % 16) 8 then f (z / 256) (.n (z / 16 % 16)::st) cs
  else bif aeZ (z % 16) 9 then f (z / 1048576) (.n (z / 16 % 65536)::st) cs
  else bif aeZ (z % 16) 10 then f (z / 16) (.a (st.tail.headD (.n 0)) (st.headD (.n 0))::st.tail.tail) cs
  else bif aeZ (z % 16) 14 then f (z / 16) (.s (st.tail.headD (.n 0)) (st.headD (.n 0))::st.tail.tail) cs
  else bif aeZ (z % 16) 11 then f (z / 4096) st.tail.tail ((z / 256 % 16,⟨z / 16 % 16,st.tail.headD (.n 0),st.headD (.n 0)⟩)::cs)
  else bif aeZ (z % 16) 12 then (cs,⟨z / 16 % 16,st.tail.headD (.n 0),st.headD (.n 0)⟩)
  else f (z / 19342813113834066795298816) (.n (z / 16 % 1208925819614629174706176)::st) cs) f
def zq(z:Nat):List (Nat×ZC)×ZC:=WY 100 z [] []
def K8(z:Nat):Bool:=ZC.chk (zq z).2 (zq z).1 []
def tU(c:List Int)(z:Nat):Prop:=ZC.all c (zq z).2 (zq z).1
theorem Ng(c:List Int)(z:Nat)(h:K8 z=Æ):tU c z:=ZC.all_of c _ _ _ h (Ŕ _)
theorem y1{a:Int}(z:Nat)(h:K8 z=Æ):tU [a] z:=Ng _ z h
theorem y2{a b:Int}(z:Nat)(h:K8 z=Æ):tU [a,b] z:=Ng _ z h
theorem y3{a b c:Int}(z:Nat)(h:K8 z=Æ):tU [a,b,c] z:=Ng _ z h
theorem y4{a b c d:Int}(z:Nat)(h:K8 z=Æ):tU [a,b,c,d] z:=Ng _ z h
theorem y5{a b c d e:Int}(z:Nat)(h:K8 z=Æ):tU [a,b,c,d,e] z:=Ng _ z h
theorem y6{a b c d e f:Int}(z:Nat)(h:K8 z=Æ):tU [a,b,c,d,e,f] z:=Ng _ z h
theorem y7{a b c d e f g:Int}(z:Nat)(h:K8 z=Æ):tU [a,b,c,d,e,f,g] z:=Ng _ z h
theorem y8{a b c d e f g k:Int}(z:Nat)(h:K8 z=Æ):tU [a,b,c,d,e,f,g,k] z:=Ng _ z h
theorem iL{a b:Nat}(h:a<=b):(a:Int)<=b:=Ş.mpr h
theorem iT{a b:Nat}(h:a<b):(a:Int)<b:=ŧ.mpr h
theorem iE{a b:Nat}(h:a=b):(a:Int)=b:=congrArg aeh h
theorem zI(h:(0:Int)<0):False:=adk 0 h
theorem jL{a b:Nat}(h:(a:Int)<=b):a<=b:=Ş.mp h
theorem jT{a b:Nat}(h:(a:Int)<b):a<b:=ŧ.mp h
theorem iP(a:Nat):(0:Int)<=a:=Ē a
theorem iA(a b:Nat):((a+b:Nat):Int)=a+b:=rfl
theorem iS(a b:Nat):(a:Int)<=((a-b:Nat):Int)+b:=Ş.mpr (Nat.le_add_of_sub_le (đ (a-b)))
theorem aQ{P Q:Prop}{C:Prop}(h:P/\Q)(k:P->Q->C):C:=k h.1 h.2
theorem im{P Q R:Prop}{C:Prop}(h:P/\Q/\R)(k:P->Q->R->C):C:=k h.1 h.2.1 h.2.2
theorem JP{P Q R S:Prop}{C:Prop}(h:P/\Q/\R/\S)(k:P->Q->R->S->C):C:=k h.1 h.2.1 h.2.2.1 h.2.2.2
theorem YM{P Q R S T:Prop}{C:Prop}(h:P/\Q/\R/\S/\T)(k:P->Q->R->S->T->C):C:=k h.1 h.2.1 h.2.2.1 h.2.2.2.1 h.2.2.2.2
theorem YN{P Q R S T Ď X:Prop}{C:Prop}(h:P/\Q/\R/\S/\T/\Ď/\X)(k:P->Q->R->S->T->Ď->X->C):C:=k h.1 h.2.1 h.2.2.1 h.2.2.2.1 h.2.2.2.2.1 h.2.2.2.2.2.1 h.2.2.2.2.2.2
theorem aE{α:Sort _}{P Q:α->Prop}{C:Prop}(h:∃a,P a/\Q a)(k:∀a,P a->Q a->C):C:=h.elim λa q=>k a q.1 q.2
theorem eJ{α:Sort _}{P Q R:α->Prop}{C:Prop}(h:∃a,P a/\Q a/\R a)(k:∀a,P a->Q a->R a->C):C:=h.elim λa q=>k a q.1 q.2.1 q.2.2
theorem tW{α:Sort _}{P Q R S:α->Prop}{C:Prop}(h:∃a,P a/\Q a/\R a/\S a)(k:∀a,P a->Q a->R a->S a->C):C:=h.elim λa q=>k a q.1 q.2.1 q.2.2.1 q.2.2.2
theorem YQ{α:Sort _}{P Q R S T:α->Prop}{C:Prop}(h:∃a,P a/\Q a/\R a/\S a/\T a)(k:∀a,P a->Q a->R a->S a->T a->C):C:=h.elim λa q=>k a q.1 q.2.1 q.2.2.1 q.2.2.2.1 q.2.2.2.2
theorem mJ{α:Sort _}{β:Sort _}{P:α->β->Prop}{C:Prop}(h:∃a b,P a b)(k:∀a b,P a b->C):C:=h.elim λa q=>q.elim λb q=>k a b q
theorem gm{α:Sort _}{β:Sort _}{P Q:α->β->Prop}{C:Prop}(h:∃a b,P a b/\Q a b)(k:∀a b,P a b->Q a b->C):C:=h.elim λa q=>q.elim λb q=>k a b q.1 q.2
theorem fQ{α:Sort _}{β:Sort _}{P Q R:α->β->Prop}{C:Prop}(h:∃a b,P a b/\Q a b/\R a b)(k:∀a b,P a b->Q a b->R a b->C):C:=h.elim λa q=>q.elim λb q=>k a b q.1 q.2.1 q.2.2
theorem Mz{α:Sort _}{β:Sort _}{P Q R S:α->β->Prop}{C:Prop}(h:∃a b,P a b/\Q a b/\R a b/\S a b)(k:∀a b,P a b->Q a b->R a b->S a b->C):C:=h.elim λa q=>q.elim λb q=>k a b q.1 q.2.1 q.2.2.1 q.2.2.2
theorem MA{α:Sort _}{β:Sort _}{P Q R S T:α->β->Prop}{C:Prop}(h:∃a b,P a b/\Q a b/\R a b/\S a b/\T a b)(k:∀a b,P a b->Q a b->R a b->S a b->T a b->C):C:=h.elim λa q=>q.elim λb q=>k a b q.1 q.2.1 q.2.2.1 q.2.2.2.1 q.2.2.2.2
theorem YR{α:Sort _}{β:Sort _}{P Q R S T Ď:α->β->Prop}{C:Prop}(h:∃a b,P a b/\Q a b/\R a b/\S a b/\T a b/\Ď a b)(k:∀a b,P a b->Q a b->R a b->S a b->T a b->Ď a b->C):C:=h.elim λa q=>q.elim λb q=>k a b q.1 q.2.1 q.2.2.1 q.2.2.2.1 q.2.2.2.2.1 q.2.2.2.2.2
theorem Vb{α:Sort _}{β:Sort _}{P Q R S T Ď X:α->β->Prop}{C:Prop}(h:∃a b,P a b/\Q a b/\R a b/\S a b/\T a b/\Ď a b/\X a b)(k:∀a b,P a b->Q a b->R a b->S a b->T a b->Ď a b->X a b->C):C:=h.elim λa q=>q.elim λb q=>k a b q.1 q.2.1 q.2.2.1 q.2.2.2.1 q.2.2.2.2.1 q.2.2.2.2.2.1 q.2.2.2.2.2.2
theorem yT{α:Sort _}{β:Sort _}{γ:Sort _}{P:α->β->γ->Prop}{C:Prop}(h:∃a b c,P a b c)(k:∀a b c,P a b c->C):C:=h.elim λa q=>q.elim λb q=>q.elim λc q=>k a b c q
theorem oN{α:Sort _}{β:Sort _}{γ:Sort _}{P Q:α->β->γ->Prop}{C:Prop}(h:∃a b c,P a b c/\Q a b c)(k:∀a b c,P a b c->Q a b c->C):C:=h.elim λa q=>q.elim λb q=>q.elim λc q=>k a b c q.1 q.2
theorem tX{α:Sort _}{β:Sort _}{γ:Sort _}{P Q R:α->β->γ->Prop}{C:Prop}(h:∃a b c,P a b c/\Q a b c/\R a b c)(k:∀a b c,P a b c->Q a b c->R a b c->C):C:=h.elim λa q=>q.elim λb q=>q.elim λc q=>k a b c q.1 q.2.1 q.2.2
theorem JQ{α:Sort _}{β:Sort _}{γ:Sort _}{P Q R S:α->β->γ->Prop}{C:Prop}(h:∃a b c,P a b c/\Q a b c/\R a b c/\S a b c)(k:∀a b c,P a b c->Q a b c->R a b c->S a b c->C):C:=h.elim λa q=>q.elim λb q=>q.elim λc q=>k a b c q.1 q.2.1 q.2.2.1 q.2.2.2
theorem Xh{α:Sort _}{β:Sort _}{γ:Sort _}{P Q R S T:α->β->γ->Prop}{C:Prop}(h:∃a b c,P a b c/\Q a b c/\R a b c/\S a b c/\T a b c)(k:∀a b c,P a b c->Q a b c->R a b c->S a b c->T a b c->C):C:=h.elim λa q=>q.elim λb q=>q.elim λc q=>k a b c q.1 q.2.1 q.2.2.1 q.2.2.2.1 q.2.2.2.2
theorem To{α:Sort _}{β:Sort _}{γ:Sort _}{P Q R S T Ď:α->β->γ->Prop}{C:Prop}(h:∃a b c,P a b c/\Q a b c/\R a b c/\S a b c/\T a b c/\Ď a b c)(k:∀a b c,P a b c->Q a b c->R a b c->S a b c->T a b c->Ď a b c->C):C:=h.elim λa q=>q.elim λb q=>q.elim λc q=>k a b c q.1 q.2.1 q.2.2.1 q.2.2.2.1 q.2.2.2.2.1 q.2.2.2.2.2
theorem P7{α:Sort _}{β:Sort _}{γ:Sort _}{δ:Sort _}{P:α->β->γ->δ->Prop}{C:Prop}(h:∃a b c d,P a b c d)(k:∀a b c d,P a b c d->C):C:=h.elim λa q=>q.elim λb q=>q.elim λc q=>q.elim λd q=>k a b c d q
theorem Xi{α:Sort _}{β:Sort _}{γ:Sort _}{δ:Sort _}{P Q:α->β->γ->δ->Prop}{C:Prop}(h:∃a b c d,P a b c d/\Q a b c d)(k:∀a b c d,P a b c d->Q a b c d->C):C:=h.elim λa q=>q.elim λb q=>q.elim λc q=>q.elim λd q=>k a b c d q.1 q.2
theorem EC{α:Sort _}{β:Sort _}{γ:Sort _}{δ:Sort _}{P Q R:α->β->γ->δ->Prop}{C:Prop}(h:∃a b c d,P a b c d/\Q a b c d/\R a b c d)(k:∀a b c d,P a b c d->Q a b c d->R a b c d->C):C:=h.elim λa q=>q.elim λb q=>q.elim λc q=>q.elim λd q=>k a b c d q.1 q.2.1 q.2.2
theorem Vc{α:Sort _}{β:Sort _}{γ:Sort _}{δ:Sort _}{P Q R S:α->β->γ->δ->Prop}{C:Prop}(h:∃a b c d,P a b c d/\Q a b c d/\R a b c d/\S a b c d)(k:∀a b c d,P a b c d->Q a b c d->R a b c d->S a b c d->C):C:=h.elim λa q=>q.elim λb q=>q.elim λc q=>q.elim λd q=>k a b c d q.1 q.2.1 q.2.2.1 q.2.2.2
theorem Xj{α:Sort _}{β:Sort _}{γ:Sort _}{δ:Sort _}{P Q R S T:α->β->γ->δ->Prop}{C:Prop}(h:∃a b c d,P a b c d/\Q a b c d/\R a b c d/\S a b c d/\T a b c d)(k:∀a b c d,P a b c d->Q a b c d->R a b c d->S a b c d->T a b c d->C):C:=h.elim λa q=>q.elim λb q=>q.elim λc q=>q.elim λd q=>k a b c d q.1 q.2.1 q.2.2.1 q.2.2.2.1 q.2.2.2.2
theorem Vd{α:Sort _}{β:Sort _}{γ:Sort _}{δ:Sort _}{P Q R S T Ď:α->β->γ->δ->Prop}{C:Prop}(h:∃a b c d,P a b c d/\Q a b c d/\R a b c d/\S a b c d/\T a b c d/\Ď a b c d)(k:∀a b c d,P a b c d->Q a b c d->R a b c d->S a b c d->T a b c d->Ď a b c d->C):C:=h.elim λa q=>q.elim λb q=>q.elim λc q=>q.elim λd q=>k a b c d q.1 q.2.1 q.2.2.1 q.2.2.2.1 q.2.2.2.2.1 q.2.2.2.2.2
theorem IU{α:Sort _}{β:Sort _}{γ:Sort _}{δ:Sort _}{ε:Sort _}{P:α->β->γ->δ->ε->Prop}{C:Prop}(h:∃a b c d f,P a b c d f)(k:∀a b c d f,P a b c d f->C):C:=h.elim λa q=>q.elim λb q=>q.elim λc q=>q.elim λd q=>q.elim λf q=>k a b c d f q
theorem YS{α:Sort _}{β:Sort _}{γ:Sort _}{δ:Sort _}{ε:Sort _}{P Q R S:α->β->γ->δ->ε->Prop}{C:Prop}(h:∃a b c d f,P a b c d f/\Q a b c d f/\R a b c d f/\S a b c d f)(k:∀a b c d f,P a b c d f->Q a b c d f->R a b c d f->S a b c d f->C):C:=h.elim λa q=>q.elim λb q=>q.elim λc q=>q.elim λd q=>q.elim λf q=>k a b c d f q.1 q.2.1 q.2.2.1 q.2.2.2
theorem YT{α:Sort _}{β:Sort _}{γ:Sort _}{δ:Sort _}{ε:Sort _}{P Q R S T:α->β->γ->δ->ε->Prop}{C:Prop}(h:∃a b c d f,P a b c d f/\Q a b c d f/\R a b c d f/\S a b c d f/\T a b c d f)(k:∀a b c d f,P a b c d f->Q a b c d f->R a b c d f->S a b c d f->T a b c d f->C):C:=h.elim λa q=>q.elim λb q=>q.elim λc q=>q.elim λd q=>q.elim λf q=>k a b c d f q.1 q.2.1 q.2.2.1 q.2.2.2.1 q.2.2.2.2
theorem fR{α:Sort _}{a b:α}{C:α->Prop}(h:a=b)(k:C a):C b:=h▸k
theorem aY{α:Sort _}{a b:α}{C:α->Prop}(h:b=a)(k:C a):C b:=h▸k
def hc{α:Type}(P:α->Prop)(d:α):α:=@Classical.epsilon α ⟨d⟩ λa=>¬ P a
theorem hk{α:Type}{d:α}{P:α->Prop}(h:P (hc P d))(a:α):P a:=abE λn=>@Classical.epsilon_spec α (λa=>¬ P a) ⟨a,n⟩ h
set_option autoImplicit true
def U2{a1 a2:Type}(f:a1->a2->Prop)(x:a1×a2):Prop:=f x.1 x.2
def U3{a1 a2 a3:Type}(f:a1->a2->a3->Prop)(x:a1×a2×a3):Prop:=U2 (f x.1) x.2
def U4{a1 a2 a3 a4:Type}(f:a1->a2->a3->a4->Prop)(x:a1×a2×a3×a4):Prop:=U3 (f x.1) x.2
def U5{a1 a2 a3 a4 a5:Type}(f:a1->a2->a3->a4->a5->Prop)(x:a1×a2×a3×a4×a5):Prop:=U4 (f x.1) x.2
def U6{a1 a2 a3 a4 a5 a6:Type}(f:a1->a2->a3->a4->a5->a6->Prop)(x:a1×a2×a3×a4×a5×a6):Prop:=U5 (f x.1) x.2
def U7{a1 a2 a3 a4 a5 a6 a7:Type}(f:a1->a2->a3->a4->a5->a6->a7->Prop)(x:a1×a2×a3×a4×a5×a6×a7):Prop:=U6 (f x.1) x.2
def U8{a1 a2 a3 a4 a5 a6 a7 a8:Type}(f:a1->a2->a3->a4->a5->a6->a7->a8->Prop)(x:a1×a2×a3×a4×a5×a6×a7×a8):Prop:=U7 (f x.1) x.2
def U9{a1 a2 a3 a4 a5 a6 a7 a8 a9:Type}(f:a1->a2->a3->a4->a5->a6->a7->a8->a9->Prop)(x:a1×a2×a3×a4×a5×a6×a7×a8×a9):Prop:=U8 (f x.1) x.2
def Uu{a1 a2 a3 a4 a5 a6 a7 a8 a9 vH:Type}(f:a1->a2->a3->a4->a5->a6->a7->a8->a9->vH->Prop)(x:a1×a2×a3×a4×a5×a6×a7×a8×a9×vH):Prop:=U9 (f x.1) x.2
def YC{a1 a2 a3 a4 a5 a6 a7 a8 a9 vH AI:Type}(f:a1->a2->a3->a4->a5->a6->a7->a8->a9->vH->AI->Prop)(x:a1×a2×a3×a4×a5×a6×a7×a8×a9×vH×AI):Prop:=Uu (f x.1) x.2
def Of{a1 a2 a3 a4 a5 a6 a7 a8 a9 vH AI EZ:Type}(f:a1->a2->a3->a4->a5->a6->a7->a8->a9->vH->AI->EZ->Prop)(x:a1×a2×a3×a4×a5×a6×a7×a8×a9×vH×AI×EZ):Prop:=YC (f x.1) x.2
def QN{a1 a2 a3 a4 a5 a6 a7 a8 a9 vH AI EZ Mk:Type}(f:a1->a2->a3->a4->a5->a6->a7->a8->a9->vH->AI->EZ->Mk->Prop)(x:a1×a2×a3×a4×a5×a6×a7×a8×a9×vH×AI×EZ×Mk):Prop:=Of (f x.1) x.2
def Uv{a1 a2 a3 a4 a5 a6 a7 a8 a9 vH AI EZ Mk QR:Type}(f:a1->a2->a3->a4->a5->a6->a7->a8->a9->vH->AI->EZ->Mk->QR->Prop)(x:a1×a2×a3×a4×a5×a6×a7×a8×a9×vH×AI×EZ×Mk×QR):Prop:=QN (f x.1) x.2
def yp{a1 a2 a3 a4 a5 a6 a7 a8 a9 vH AI EZ Mk QR W7:Type}(f:a1->a2->a3->a4->a5->a6->a7->a8->a9->vH->AI->EZ->Mk->QR->W7->Prop)(x:a1×a2×a3×a4×a5×a6×a7×a8×a9×vH×AI×EZ×Mk×QR×W7):Prop:=Uv (f x.1) x.2
end L.Lake
set_option compiler.extract_closed false
set_option maxHeartbeats 1000000
@[elab_as_elim] theorem L.Lake.rwG.{u} {α:Sort u} {a b:α} {P:α->Prop} (x:P b) (h:a=b):P a:=h▸x
@[elab_as_elim] theorem L.Lake.rwH.{u} {α:Sort u} {a b:α} {P:α->Prop} (x:P b) (h:b=a):P a:=h▸x
section
local macro_rules
|`(tactic|show $t)=>`(tactic|first|refine $t|fail)
local macro_rules
 |`(tactic| rewrite [<-$e])=>`(tactic| first|refine L.Lake.rwH ?_ $e|fail)
 |`(tactic| rewrite [$e:term])=>`(tactic| first|refine L.Lake.rwG ?_ $e|fail)
 |`(tactic| rewrite [$r,$rs,*])=>`(tactic| (rewrite [$r];rewrite [$rs,*]))
set_option backward.match.sparseCases false
namespace L.Lake
open PySem
set_option genInjectivity true in
inductive V where
 |none
 |bool (b:Bool)
 |int (i:Int)
 |str (s:Str)
 |tup (l:List V)
 |ref (n:Nat)
 |ro (l:List Int)
set_option genInjectivity true in
inductive bu where
 |lst (l:List V)
 |di (l:List (Int×V))
 |ds (l:List (Str×V))
 |own
 |wd (w:Str)
 |exn (c d:Nat)
 |tab (q:Str)
noncomputable abbrev ag:=List bu
noncomputable abbrev aJ:=Nat->Option V
noncomputable def cS(U:aJ)(i:Nat)(v:V):aJ:=λj=>if j=i then À v else U j
inductive nT where
 |len|sum|min2|max2|min1|max1|minD|tuple|list|str|int
 |isInt|isBool|isTuple|isStr|isList
 |sorted
inductive j0 where
 |append|extend|find|get|join
set_option genCtorIdx false in
inductive jQ where
 |one (i:Nat)
 |two (i j:Nat)
set_option genCtorIdx false in
inductive KX where
 |var (i:Nat)
 |num (i:Int)
 |idx (a i:KX)
 |pair (a b:KX)
set_option genCtorIdx false in
mutual
inductive CE where
 |cst (v:V)
 |var (i:Nat)
 |bin (op:Operator) (a b:CE)
 |cmp (op:CmpOp) (a b:CE)
 |not (a:CE)
 |neg (a:CE)
 |and (a b:CE)
 |or (a b:CE)
 |ite (t a b:CE)
 |list (es:gG)
 |tuple (es:gG)
 |dict0
 |idx (a i:CE)
 |slc (a lo hi:CE)
 |call (f:Nat) (as:gG)
 |prim (p:nT) (as:gG)
 |meth (m:j0) (o:CE) (as:gG)
 |comp (elt:CE) (t:jQ) (it:jm) (ifs:gG)
 |sortK (it:jm) (i:Nat) (k:KX)
 |word (e:CE)
 |isC (c:Nat) (e:CE)
 |zipl (a b:CE)
inductive gG where
 |nil
 |cons (e:CE) (r:gG)
inductive jm where
 |ex (e:CE)
 |rng1 (a:CE)
 |rng2 (a b:CE)
 |zip (a b:CE)
 |enm (a:CE)
end
set_option genCtorIdx false in
mutual
inductive CS where
 |assign (t:jQ) (e:CE)
 |setItem (o i v:CE)
 |expr (e:CE)
 |ite (c:CE) (t e:fv)
 |for_ (t:jQ) (it:jm) (body:fv)
 |while_ (c:CE) (body:fv)
 |ret (e:CE)
 |raise_ (c:Nat) (e:CE)
 |try_ (body:fv) (x:Nat) (h:fv)
inductive fv where
 |nil
 |cons (s:CS) (r:fv)
end
set_option genInjectivity true in
inductive cw where
 |next
 |ret (v:V)
 |exc (c:Nat) (w:Str)
set_option genInjectivity true in
inductive yA where
 |ok (v:V)
 |exc (c:Nat) (w:Str)
noncomputable def aw:Nat:=16777216
noncomputable def te(a b:Int):Bool:=decide (a.natAbs<18446744073709551616)||decide (b.natAbs<18446744073709551616)
noncomputable def pr:V->Option Int
 |.int i=>À i
 |_=>Ã
noncomputable def Ol:V->Option Bool
 |.bool b=>À b
 |_=>Ã
noncomputable def Ct:V->Option Str
 |.str x=>À x
 |_=>Ã
noncomputable def Cu:V->Option (List V)
 |.tup l=>À l
 |_=>Ã
noncomputable def rN:V->Option Nat
 |.ref r=>À r
 |_=>Ã
noncomputable def UD:bu->Option (List V)
 |.lst l=>À l
 |_=>Ã
noncomputable def E5:bu->Option (List (Str×V))
 |.ds l=>À l
 |_=>Ã
noncomputable def TX:V->Bool
 |.none=>Æ
 |_=>Ê
noncomputable def bY{α β:Type}(m:Option (α×ag))(k:α->ag->Option β):Option β:=match m with
 |none=>Ã
 |some p=>k p.1 p.2
noncomputable def mE{α β γ:Type}(m:Option (α×β×ag))(k:α->β->ag->Option γ):Option γ:=match m with
 |none=>Ã
 |some p=>k p.1 p.2.1 p.2.2
def lQ{β:Type}(m:Option (V×ag))(k:Bool->ag->Option β):Option β:=bY m λx H=>(Ol x).bind λb=>k b H
def qf{β:Type}(m:Option (V×ag))(k:Int->ag->Option β):Option β:=bY m λx H=>(pr x).bind λb=>k b H
def lst(H:ag)(r:Nat):Option (List V):=(H[r]?).bind UD
def ds(H:ag)(r:Nat):Option (List (Str×V)):=(H[r]?).bind E5
noncomputable def dz{κ β:Type}[DecidableEq κ]:List (κ×β)->κ->Option β
 |[],_=>Ã
 |(a,b)::r,k=>if a=k then À b else dz r k
noncomputable def dA{κ β:Type}[DecidableEq κ]:List (κ×β)->κ->β->List (κ×β)
 |[],k,v=>[(k,v)]
 |(a,b)::r,k,v=>if a=k then (a,v)::r else (a,b)::dA r k v
def rQ(H:ag)(l:List V):Option (V×ag):=if l.length<=aw then À (.ref H.length,H++[.lst l]) else Ã
def q8(H:ag)(l:List V):Option (V×ag):=if l.length<=aw then À (.tup l,H) else Ã
def Pz(H:ag)(x:Str):Option (V×ag):=if x.length<=aw then À (.str x,H) else Ã
noncomputable def Dy{α:Type}(l:List α):Nat->List α
 |0=>[]
 |n+1=>l++Dy l n
def Ml(a b:V)(H:ag):Option (V×ag):=match a with
 |.int x=>(pr b).bind λy=>À (.int (x+y),H)
 |.str x=>(Ct b).bind λy=>if x.length+y.length<=aw then À (.str (x++y),H) else Ã
 |.tup x=>(Cu b).bind λy=>q8 H (x++y)
 |.ref i=>(rN b).bind λj=>(lst H i).bind λx=>(lst H j).bind λy=>rQ H (x++y)
 |_=>Ã
def Nl(a b:V)(H:ag):Option (V×ag):=(pr b).bind λn=>match a with
 |.int x=>if te x n then À (.int (x*n),H) else Ã
 |.ref i=>(lst H i).bind λx=>if 0<=n/\n<=100000/\x.length<=100 then rQ H (Dy x n.toNat) else Ã
 |_=>Ã
def Bi(f:Int->Int->Option Int)(a b:V)(H:ag):Option (V×ag):=(pr a).bind λx=>(pr b).bind λy=>(f x y).bind λz=>À (.int z,H)
noncomputable def WT(x y:Int):Option Int:=À (x-y)
noncomputable def U0(x y:Int):Option Int:=if y=0\/1073741824<=y.natAbs then Ã else À (x.fdiv y)
noncomputable def WG(x y:Int):Option Int:=if y=0 then Ã else À (x.fmod y)
def mD(op:Operator)(a b:V)(H:ag):Option (V×ag):=match op with
 |.Add=>Ml a b H
 |.Mult=>Nl a b H
 |.Sub=>Bi WT a b H
 |.FloorDiv=>Bi U0 a b H
 |.Mod=>Bi WG a b H
 |_=>Ã
noncomputable def qn(f:V->V->Option Bool):List V->List V->Option Bool
 |[],m=>À m.isEmpty
 |x::xs,m=>match m with
  |[]=>À Ê
  |y::ys=>(f x y).bind λa=>(qn f xs ys).bind λb=>À (a&&b)
noncomputable def OE:V->Option Bool
 |.none=>À Æ
 |.int _=>À Ê
 |.tup _=>À Ê
 |_=>Ã
noncomputable def Rd(x:Int):V->Option Bool
 |.int y=>À (x==y)
 |.none=>À Ê
 |_=>Ã
def Re(f:V->V->Option Bool)(l:List V):V->Option Bool
 |.tup m=>(qn f l m).bind λc=>if c then À Æ else Ã
 |_=>Ã
def ED:Nat->V->V->Option Bool
 |0,_,_=>Ã
 |n+1,a,b=>match a with
  |.none=>OE b
  |.bool p=>(Ol b).bind λq=>À (p==q)
  |.int x=>Rd x b
  |.str x=>(Ct b).bind λy=>À (x==y)
  |.tup l=>Re (ED n) l b
  |_=>Ã
def P8(a b:V):Option Bool:=ED 6 a b
def JV(a b:List V):Option Bool:=qn P8 a b
def FU(H:ag)(x:List V):V->Option Bool
 |.ref j=>(lst H j).bind λy=>if x.length=y.length then (if x.length=0 then À Æ else JV x y) else À Ê
 |.tup _=>À Ê
 |.none=>À Ê
 |_=>Ã
def MB(H:ag)(a b:V):Option Bool:=match rN b with
 |some j=>(lst H j).bind λz=>À Ê
 |none=>P8 a b
def oz(H:ag)(a b:V):Option Bool:=match a with
 |.ref i=>(lst H i).bind λx=>FU H x b
 |.tup l=>MB H (.tup l) b
 |.none=>MB H .none b
 |a=>P8 a b
theorem FV{H:ag}{r q:Nat}{l:List V}(h1:lst H r=À l)(h2:lst H q=À []):oz H (.ref r) (.ref q)=À (decide (l.length=0)):=by show (lst H r).bind (λx=>FU H x (.ref q))=_;rw[h1];show (lst H q).bind _=_;rw[h2];cases l<;>rfl
open Classical in
def Rc(H:ag)(a b:V):Option Bool:=(rN a).bind λi=>(rN b).bind λj=>(ds H i).bind λl=>(ds H j).bind λm=>if l.length=m.length/\∀p∈l,(dz m p.1).bind (P8 p.2)=À Æ then À Æ else Ã
def qL(f:Int->Int->Bool)(a b:V):Option Bool:=(pr a).bind λx=>(pr b).bind λy=>À (f x y)
def Kw(a b:V):Option Bool:=match b with
 |.none=>À (TX a)
 |_=>Ã
def Nc(a b:V):Option Bool:=match b with
 |.none=>À (!TX a)
 |.bool q=>(Ol a).bind λp=>À (p != q)
 |_=>Ã
def sH(op:CmpOp)(a b:V)(H:ag):Option Bool:=match op with
 |.Eq=>(oz H a b).or (Rc H a b)
 |.NotEq=>(oz H a b).bind λc=>À (!c)
 |.Lt=>qL (λx y=>decide (x<y)) a b
 |.LtE=>qL (λx y=>decide (x<=y)) a b
 |.Gt=>qL (λx y=>decide (y<x)) a b
 |.GtE=>qL (λx y=>decide (y<=x)) a b
 |.Is=>Kw a b
 |.IsNot=>Nc a b
 |.In=>Ã
 |.NotIn=>Ã
def GM(l:List V)(i:V):Option V:=(pr i).bind λk=>if 0<=k then l[k.toNat]? else Ã
def Pe(i:V):bu->Option V
 |.lst l=>GM l i
 |.di l=>(pr i).bind (dz l)
 |.ds l=>(Ct i).bind (dz l)
 |.own=>Ã
 |.wd _=>Ã
 |.exn _ _=>Ã
 |.tab _=>Ã
def lE(a i:V)(H:ag):Option V:=match a with
 |.tup l=>GM l i
 |.str x=>(pr i).bind λk=>if 0<=k/\k<4611686018427387904 then (x.cps[k.toNat]?).bind (λc=>À (.str ⟨#[c]⟩)) else Ã
 |.ref r=>(H[r]?).bind (Pe i)
 |_=>Ã
noncomputable def mW:V->Option Nat
 |.none=>À 0
 |.int k=>if 0<=k/\k<4611686018427387904 then À k.toNat else Ã
 |_=>Ã
noncomputable def lj(n:Nat):V->Option Nat
 |.none=>À n
 |.int k=>if 0<=k/\k<4611686018427387904 then À (min n k.toNat) else Ã
 |_=>Ã
noncomputable def oL{α:Type}(l:List α)(lo hi:Nat):List α:=(l.take hi).drop lo
def xl(a lo hi:V)(H:ag):Option (V×ag):=match a with
 |.tup l=>(mW lo).bind λi=>(lj l.length hi).bind λj=>q8 H (oL l i j)
 |.str x=>(mW lo).bind λi=>(lj x.length hi).bind λj=>Pz H ⟨(oL x.cps.toList i j).toArray⟩
 |_=>Ã
def o9(H:ag):V->Option (List V×List (Nat×bu))
 |.tup l=>À (l,[])
 |.ro l=>À (l.map .int,[])
 |.ref r=>(lst H r).bind λl=>À (l,[(r,.lst l)])
 |_=>Ã
noncomputable def cB:List V->Option (List Int)
 |[]=>À []
 |v::r=>(pr v).bind λi=>(cB r).bind λl=>À (i::l)
noncomputable def mX:List Int->Option Int
 |[]=>Ã
 |x::r=>À (r.foldl (λa b=>max a b) x)
noncomputable def gI:List Int->Option Int
 |[]=>Ã
 |x::r=>À (r.foldl (λa b=>min a b) x)
def nU(l:List Str):Prop:=l.Pairwise λa b=>¬ (b.cps.toList<a.cps.toList)
open Classical in
def jO(l:List Str):List Str:=if h:∃m:List Str,m.Perm l/\nU m then choose h else l
noncomputable def bz:List V->List V->List V
 |[],_=>[]
 |x::xs,m=>match m with
  |[]=>[]
  |y::ys=>.tup [x,y]::bz xs ys
noncomputable def jq(f:V->Option (V×ag)):List V->Option (V×ag)
 |[]=>Ã
 |a::r=>if r.isEmpty then f a else Ã
def E2(f:V->V->Option (V×ag)):List V->Option (V×ag)
 |[]=>Ã
 |a::r=>jq (f a) r
def rh(H:ag)(f:List Int->Option V)(a:V):Option (V×ag):=(o9 H a).bind λp=>(cB p.1).bind λns=>(f ns).bind λv=>À (v,H)
def Hr(H:ag)(f:Int->Int->Int)(a b:V):Option (V×ag):=(pr a).bind λx=>(pr b).bind λy=>À (.int (f x y),H)
def SH(H:ag):V->Option (V×ag)
 |.str x=>if x.length<=aw then À (.int x.length,H) else Ã
 |a=>(o9 H a).bind λp=>À (.int p.1.length,H)
inductive AE where
 |none|bool|int|str|tup|lst
def Nd(H:ag):V->Option AE
 |.none=>À .none
 |.bool _=>À .bool
 |.int _=>À .int
 |.str _=>À .str
 |.tup _=>À .tup
 |.ref r=>(lst H r).bind λz=>À .lst
 |.ro _=>Ã
noncomputable def AE.isInt:AE->Bool
 |.int=>Æ
 |.bool=>Æ
 |_=>Ê
noncomputable def AE.isBool:AE->Bool
 |.bool=>Æ
 |_=>Ê
noncomputable def AE.isTup:AE->Bool
 |.tup=>Æ
 |_=>Ê
noncomputable def AE.isLst:AE->Bool
 |.lst=>Æ
 |_=>Ê
noncomputable def nB(c d:Nat):Bool:=c==d||d==0||d==3
noncomputable def QZ:bu->Option (Nat×Nat)
 |.exn c d=>if c==1||c==2 then À (c,d) else Ã
 |_=>Ã
def Bl(H:ag)(d:Nat)(a:V):Option V:=(rN a).bind λr=>(H[r]?).bind λm=>(QZ m).bind λp=>À (.bool (nB p.1 d))
def T6(H:ag)(f:AE->Bool)(a:V):Option (V×ag):=(Nd H a).bind λk=>À (.bool (f k),H)
noncomputable def dL:Option Int->V
 |none=>.none
 |some m=>.int m
def gE(p:nT)(as:List V)(H:ag):Option (V×ag):=match p with
 |.len=>jq (SH H) as
 |.sum=>jq (rh H λns=>À (.int (ns.foldl (·+·) 0))) as
 |.min2=>E2 (Hr H min) as
 |.max2=>E2 (Hr H max) as
 |.max1=>jq (rh H λns=>(mX ns).bind λm=>À (.int m)) as
 |.min1=>jq (rh H λns=>(gI ns).bind λm=>À (.int m)) as
 |.minD=>jq (rh H λns=>À (dL (gI ns))) as
 |.tuple=>jq (λa=>(rN a).bind λr=>(lst H r).bind λl=>q8 H l) as
 |.list=>jq (λa=>(Cu a).bind λl=>rQ H l) as
 |.str=>Ã
 |.int=>jq (λa=>(Ol a).bind λb=>À (.int (if b then 1 else 0),H)) as
 |.isInt=>jq (T6 H AE.isInt) as
 |.isBool=>jq (T6 H AE.isBool) as
 |.isTuple=>jq (T6 H AE.isTup) as
 |.isStr=>Ã
 |.isList=>Ã
 |.sorted=>jq (λa=>(rN a).bind λr=>(ds H r).bind λl=>if l.length<64 then rQ H ((jO (l.map (·.1))).map .str) else Ã) as
def Bu(H:ag)(o x:V):Option (V×ag):=(rN o).bind λr=>(lst H r).bind λl=>if l.length<=aw then À (.none,H.set r (.lst (l++[x]))) else Ã
def pP(H:ag)(o x:V):Option (V×ag):=(rN o).bind λr=>(rN x).bind λq=>(lst H r).bind λl=>(lst H q).bind λk=>if l.length+k.length<=aw/\r≠q then À (.none,H.set r (.lst (l++k))) else Ã
def Nj(H:ag)(o x:V):Option (V×ag):=(Ct o).bind λa=>(Ct x).bind λb=>À (.int (Txt.find a b),H)
def Sz(H:ag)(o k d:V):Option (V×ag):=(rN o).bind λr=>(Ct k).bind λk=>(ds H r).bind λl=>À ((dz l k).getD d,H)
def jy(m:j0)(o:V)(as:List V)(H:ag):Option (V×ag):=match m with
 |.append=>jq (Bu H o) as
 |.extend=>jq (pP H o) as
 |.find=>jq (Nj H o) as
 |.get=>E2 (Sz H o) as
 |.join=>Ã
def xg(m:j0)(o:V)(H:ag):Bool:=match m with
 |.append=>((rN o).bind (lst H)).isSome
 |.extend=>((rN o).bind (lst H)).isSome
 |.find=>(Ct o).isSome
 |.join=>(Ct o).isSome
 |.get=>((rN o).bind (ds H)).isSome
def NH(H:ag)(r:Nat)(l:List (Str×V))(v:V):V->Option ag
 |.str k=>if l.length<=aw then À (H.set r (.ds (dA l k v))) else Ã
 |.int k=>if l.isEmpty then À (H.set r (.di [(k,v)])) else Ã
 |_=>Ã
def SM(H:ag)(r:Nat)(i v:V):bu->Option ag
 |.lst l=>(pr i).bind λk=>if 0<=k/\k.toNat<l.length then À (H.set r (.lst (l.set k.toNat v))) else Ã
 |.di l=>(pr i).bind λk=>if l.length<=aw then À (H.set r (.di (dA l k v))) else Ã
 |.ds l=>NH H r l v i
 |.own=>Ã
 |.wd _=>Ã
 |.exn _ _=>Ã
 |.tab _=>Ã
def ru(o i v:V)(H:ag):Option ag:=(rN o).bind λr=>(H[r]?).bind (SM H r i v)
noncomputable def tH:V->Option (V×V)
 |.tup l=>match l with
  |[a,b]=>À (a,b)
  |_=>Ã
 |_=>Ã
def jQ.put(t:jQ)(x:V)(U:aJ):Option aJ:=match t with
 |.one i=>À (cS U i x)
 |.two i j=>(tH x).bind λp=>À (cS (cS U i p.1) j p.2)
def cA(H:ag)(w:List (Nat×bu)):Prop:=∀p∈w,H[p.1]?=À p.2
noncomputable def iZ(a b c:Int):Nat:=(if c > 0 then (if a<b then (b-a-1) / c+1 else 0) else (if a > b then (a-b-1) / (-c)+1 else 0)).toNat
def cz(a b c:Int):List V:=(č (iZ a b c)).map λ(i:Nat)=>.int (a+(i:Int)*c)
noncomputable def jC(a:Int):Bool:=decide (-1000000000<=a)&&decide (a<=1000000000)
noncomputable def dQ(i:Nat):List V->List V
 |[]=>[]
 |x::xs=>.tup [.int i,x]::dQ (i+1) xs
def r7:V->Option (List Int)
 |.int k=>À [k]
 |.tup l=>match l with
  |[a,b]=>(pr a).bind λx=>(pr b).bind λy=>À [x,y]
  |_=>Ã
 |_=>Ã
noncomputable def ch:List Int->List Int->Bool
 |[],m=>!m.isEmpty
 |a::x,m=>match m with
  |[]=>Ê
  |b::y=>decide (a<b)||(a==b&&ch x y)
noncomputable abbrev KP:=List Int×Int
def ll(p q:KP):Bool:=ch p.1 q.1||(!ch q.1 p.1&&decide (p.2<q.2))
noncomputable def Db(p:KP):List KP->List KP
 |[]=>[p]
 |q::r=>if ll q p then q::Db p r else p::q::r
noncomputable def fz:List KP->List KP
 |[]=>[]
 |p::r=>Db p (fz r)
noncomputable def gF:Int->List Int->Bool
 |_,[]=>Æ
 |a,b::r=>decide (a<b)&&gF b r
noncomputable def dq:KX->aJ->ag->Option V
 |.var i,U,_=>U i
 |.num i,_,_=>À (.int i)
 |.idx a i,U,H=>(dq a U H).bind λx=>(dq i U H).bind λy=>lE x y H
 |.pair a b,U,H=>(dq a U H).bind λx=>(dq b U H).bind λy=>À (.tup [x,y])
noncomputable def o0(k:KX)(i:Nat)(U:aJ)(H:ag):List Int->Option (List KP)
 |[]=>À []
 |n::r=>(dq k (cS U i (.int n)) H).bind λv=>(r7 v).bind λl=>(o0 k i U H r).bind λps=>À ((l,n)::ps)
noncomputable def gR(ps:List KP):Bool:=ps.all λp=>ps.all λq=>p.1.length==q.1.length
def l8(k:KX)(i:Nat)(U:aJ)(H:ag)(xs:List V):Option (V×ag):=(cB xs).bind λns=>if gF (-1) ns/\ns.length<=10000000 then (o0 k i U H ns).bind λps=>if gR ps then rQ H ((fz ps).map λp=>.int p.2) else Ã else Ã
noncomputable def KX.ce:KX->CE
 |.var i=>.var i
 |.num i=>.cst (.int i)
 |.idx a i=>.idx a.ce i.ce
 |.pair a b=>.tuple (.cons a.ce (.cons b.ce .nil))
noncomputable def BP(it:jm)(w:List (Nat×bu)):Bool:=match it with
 |.rng1 _=>Æ
 |_=>!w.isEmpty
noncomputable def UE:bu->Option Str
 |.wd w=>À w
 |_=>Ã
def vo(H:ag)(a:V):Option V:=(rN a).bind λr=>(H[r]?).bind λm=>(QZ m).bind λp=>(H[p.2]?).bind λm'=>(UE m').bind λw=>À (.str w)
abbrev ax:=Nat->List V->ag->Option (yA×ag)
abbrev Ex:=Option (cw×aJ×ag)
def ip(m:Ex)(k:aJ->ag->Ex):Ex:=mE m λf U H=>match f with
 |.next=>k U H
 |.ret v=>À (.ret v,U,H)
 |.exc c w=>À (.exc c w,U,H)
noncomputable def okV:yA->Option V
 |.ok v=>À v
 |.exc _ _=>Ã
abbrev XR:=Option (Nat×Str×ag)
noncomputable def J0(H:ag):yA->XR
 |.ok _=>Ã
 |.exc c w=>À (c,w,H)
noncomputable def T5(a b:XR):XR:=match a with
 |some x=>À x
 |none=>b
noncomputable def E1(m:Ex)(x:XR)(U:aJ):Ex:=match m with
 |some r=>À r
 |none=>x.bind λp=>À (.exc p.1 p.2.1,U,p.2.2)
open Classical in
def gy{β:Type}(H:ag)(w:List (Nat×bu))(x:Option β):Option β:=if cA H w then x else Ã
def lG(body:aJ->ag->Ex)(t:jQ)(w:List (Nat×bu)):List V->aJ->ag->Ex
 |[],U,H=>gy H w (À (.next,U,H))
 |x::xs,U,H=>gy H w ((t.put x U).bind λaU=>ip (body aU H) λiq ir=>lG body t w xs iq ir)
noncomputable def oH(SV:aJ->ag->Option (Bool×ag))(body:aJ->ag->Ex):Nat->aJ->ag->Ex
 |0,_,_=>Ã
 |n+1,U,H=>bY (SV U H) λb ae=>if b then ip (body U ae) (λiq ir=>oH SV body n iq ir) else À (.next,U,ae)
def fX(elt:aJ->ag->Option (V×ag))(cond:aJ->ag->Option (Bool×ag))(t:jQ)(w:List (Nat×bu)):List V->aJ->ag->Option (List V×ag)
 |[],_,H=>gy H w (À ([],H))
 |x::xs,U,H=>gy H w ((t.put x U).bind λaU=>bY (cond aU H) λb Î=>if b then bY (elt aU Î) λv Û=>bY (fX elt cond t w xs U Û) λl bI=>À (v::l,bI) else fX elt cond t w xs U Î)
mutual
def ab(Á:ax):CE->aJ->ag->Option (V×ag)
 |.cst v,_,H=>À (v,H)
 |.var i,U,H=>(U i).bind λv=>À (v,H)
 |.bin op a b,U,H=>bY (ab Á a U H) λx Î=>bY (ab Á b U Î) λy Û=>mD op x y Û
 |.cmp op a b,U,H=>bY (ab Á a U H) λx Î=>bY (ab Á b U Î) λy Û=>(sH op x y Û).bind λr=>À (.bool r,Û)
 |.not a,U,H=>lQ (ab Á a U H) λb Î=>À (.bool (!b),Î)
 |.neg a,U,H=>qf (ab Á a U H) λi Î=>À (.int (-i),Î)
 |.and a b,U,H=>lQ (ab Á a U H) λp Î=>if p then ab Á b U Î else À (.bool Ê,Î)
 |.or a b,U,H=>lQ (ab Á a U H) λp Î=>if p then À (.bool Æ,Î) else ab Á b U Î
 |.ite t a b,U,H=>lQ (ab Á t U H) λp Î=>if p then ab Á a U Î else ab Á b U Î
 |.list es,U,H=>bY (bP Á es U H) λvs Î=>rQ Î vs
 |.tuple es,U,H=>bY (bP Á es U H) λvs Î=>q8 Î vs
 |.dict0,_,H=>À (.ref H.length,H++[.ds []])
 |.idx a i,U,H=>bY (ab Á a U H) λx Î=>bY (ab Á i U Î) λy Û=>(lE x y Û).bind λr=>À (r,Û)
 |.slc a lo hi,U,H=>bY (ab Á a U H) λx Î=>bY (ab Á lo U Î) λy Û=>bY (ab Á hi U Û) λz bI=>xl x y z bI
 |.call f as,U,H=>bY (bP Á as U H) λvs Î=>bY (Á f vs Î) λr Û=>(okV r).bind λv=>À (v,Û)
 |.prim p as,U,H=>bY (bP Á as U H) λvs Î=>gE p vs Î
 |.meth m o as,U,H=>bY (ab Á o U H) λx Î=>if xg m x Î then bY (bP Á as U Î) λvs Û=>jy m x vs Û else Ã
 |.comp elt t it ifs,U,H=>mE (cD Á it U H) λxs w Î=>bY (fX (ab Á elt) (cW Á ifs) t w xs U Î) λl Û=>rQ Û l
 |.sortK it i k,U,H=>mE (cD Á it U H) λxs w Î=>if BP it w then l8 k i U Î xs else Ã
 |.word e,U,H=>bY (ab Á e U H) λx Î=>(vo Î x).bind λv=>À (v,Î)
 |.isC c e,U,H=>bY (ab Á e U H) λx Î=>(Bl Î c x).bind λv=>À (v,Î)
 |.zipl a b,U,H=>bY (ab Á a U H) λx Î=>bY (ab Á b U Î) λy Û=>(rN x).bind λr=>(lst Û r).bind λxs=>(Cu y).bind λys=>rQ (Û++[.own]) (bz xs ys)
def cW(Á:ax):gG->aJ->ag->Option (Bool×ag)
 |.nil,_,H=>À (Æ,H)
 |.cons e r,U,H=>lQ (ab Á e U H) λb Î=>if b then cW Á r U Î else À (Ê,Î)
def bP(Á:ax):gG->aJ->ag->Option (List V×ag)
 |.nil,_,H=>À ([],H)
 |.cons e r,U,H=>bY (ab Á e U H) λv Î=>bY (bP Á r U Î) λvs Û=>À (v::vs,Û)
def cD(Á:ax):jm->aJ->ag->Option (List V×List (Nat×bu)×ag)
 |.ex e,U,H=>bY (ab Á e U H) λx Î=>(o9 Î x).bind λp=>À (p.1,p.2,Î)
 |.rng1 a,U,H=>qf (ab Á a U H) λn Î=>if jC n then À (cz 0 n 1,[],Î) else Ã
 |.rng2 a b,U,H=>qf (ab Á a U H) λm Î=>qf (ab Á b U Î) λn Û=>if jC m&&jC n then À (cz m n 1,[],Û) else Ã
 |.zip a b,U,H=>bY (ab Á a U H) λx Î=>bY (ab Á b U Î) λy Û=>(Cu x).bind λxs=>(Cu y).bind λys=>À (bz xs ys,[(Û.length,.own)],Û++[.own])
 |.enm a,U,H=>bY (ab Á a U H) λx Î=>(Cu x).bind λxs=>À (dQ 0 xs,[],Î)
end
mutual
def dZ(Á:ax):CE->aJ->ag->XR
 |.call f as,U,H=>bY (bP Á as U H) λvs Î=>bY (Á f vs Î) λr Û=>J0 Û r
 |.meth m o as,U,H=>bY (ab Á o U H) λx Î=>if xg m x Î then oP Á as U Î else Ã
 |.list es,U,H=>oP Á es U H
 |_,_,_=>Ã
def oP(Á:ax):gG->aJ->ag->XR
 |.nil,_,_=>Ã
 |.cons e r,U,H=>T5 (dZ Á e U H) (bY (ab Á e U H) λz Î=>oP Á r U Î)
end
def JZ(Á:ax):jm->aJ->ag->XR
 |.ex e,U,H=>dZ Á e U H
 |_,_,_=>Ã
def handled(m:Ex):Ex:=mE m λf U H=>match f with
 |.ret v=>À (.ret v,U,H)
 |_=>Ã
def Fv(k:aJ->ag->Ex)(x:Nat)(m:Ex):Ex:=mE m λf U H=>match f with
 |.exc c w=>handled (k (cS U x (.ref (H.length+1))) (H++[.wd w,.exn c H.length]))
 |.next=>À (.next,U,H)
 |.ret v=>À (.ret v,U,H)
def bV(Á:ax)(e:CE)(U:aJ)(H:ag):Option (Bool×ag):=lQ (ab Á e U H) λb Î=>À (b,Î)
noncomputable def lc:Nat:=100000
mutual
def bG(Á:ax):CS->aJ->ag->Ex
 |.assign t e,U,H=>E1 (bY (ab Á e U H) λv Î=>(t.put v U).bind λaU=>À (.next,aU,Î)) (dZ Á e U H) U
 |.setItem o i v,U,H=>bY (ab Á v U H) λx Î=>bY (ab Á o U Î) λy Û=>bY (ab Á i U Û) λz bI=>(ru y z x bI).bind λlH=>À (.next,U,lH)
 |.expr e,U,H=>E1 (bY (ab Á e U H) λk Î=>À (.next,U,Î)) (dZ Á e U H) U
 |.ite c t e,U,H=>lQ (ab Á c U H) λb Î=>if b then aM Á t U Î else aM Á e U Î
 |.for_ t it body,U,H=>E1 (mE (cD Á it U H) λxs w Î=>lG (aM Á body) t w xs U Î) (JZ Á it U H) U
 |.while_ c body,U,H=>oH (bV Á c) (aM Á body) lc U H
 |.ret e,U,H=>E1 (bY (ab Á e U H) λv Î=>À (.ret v,U,Î)) (dZ Á e U H) U
 |.raise_ c e,U,H=>bY (ab Á e U H) λv Î=>(Ct v).bind λw=>À (.exc c w,U,Î)
 |.try_ body x h,U,H=>Fv (aM Á h) x (aM Á body U H)
def aM(Á:ax):fv->aJ->ag->Ex
 |.nil,U,H=>À (.next,U,H)
 |.cons s r,U,H=>ip (bG Á s U H) (aM Á r)
end
section
variable{Á:ax}{U:aJ}{H:ag}{t:jQ}{e o i v c a b:CE}{it:jm}{x y:fv}
theorem gS:bG Á (.assign t e) U H=E1 (bY (ab Á e U H) λv Î=>(t.put v U).bind λaU=>À (.next,aU,Î)) (dZ Á e U H) U:=rfl
theorem qr:bG Á (.setItem o i v) U H=bY (ab Á v U H) λx Î=>bY (ab Á o U Î) λy Û=>bY (ab Á i U Û) λz bI=>(ru y z x bI).bind λlH=>À (.next,U,lH):=rfl
theorem A2:bG Á (.expr e) U H=E1 (bY (ab Á e U H) λz Î=>À (.next,U,Î)) (dZ Á e U H) U:=rfl
theorem F2:bG Á (.ite c x y) U H=lQ (ab Á c U H) λb Î=>if b then aM Á x U Î else aM Á y U Î:=rfl
theorem y0:bG Á (.for_ t it x) U H=E1 (mE (cD Á it U H) λxs w Î=>lG (aM Á x) t w xs U Î) (JZ Á it U H) U:=rfl
theorem lT:bG Á (.ret e) U H=E1 (bY (ab Á e U H) λv Î=>À (.ret v,U,Î)) (dZ Á e U H) U:=rfl
theorem wg{k:Nat}:bG Á (.raise_ k e) U H=bY (ab Á e U H) λv Î=>(Ct v).bind λw=>À (.exc k w,U,Î):=rfl
theorem y9{k:Nat}:bG Á (.try_ x k y) U H=Fv (aM Á y) k (aM Á x U H):=rfl
theorem kW:cD Á (.ex e) U H=bY (ab Á e U H) λx Î=>(o9 Î x).bind λp=>À (p.1,p.2,Î):=rfl
theorem rE:cD Á (.zip a b) U H=bY (ab Á a U H) λx Î=>bY (ab Á b U Î) λy Û=>(Cu x).bind λxs=>(Cu y).bind λys=>À (bz xs ys,[(Û.length,.own)],Û++[.own]):=rfl
theorem rD:cD Á (.enm a) U H=bY (ab Á a U H) λx Î=>(Cu x).bind λxs=>À (dQ 0 xs,[],Î):=rfl
end
structure bq where
 arity:Nat
 body:fv
noncomputable def bJ(as:List V):aJ:=λi=>as[i]?
def gw(m:Ex):Option (yA×ag):=mE m λf z H=>match f with
 |.next=>À (.ok .none,H)
 |.ret v=>À (.ok v,H)
 |.exc c w=>À (.exc c w,H)
def aC(P:List bq):Nat->ax
 |0=>λz z z=>Ã
 |d+1=>λf as H=>(P[f]?).bind λfn=>if as.length=fn.arity then gw (aM (aC P d) fn.body (bJ as) H) else Ã
theorem i7{α β:Type}{m:Option (α×ag)}{k:α->ag->Option β}{r:β}(h:bY m k=À r):∃a H,m=À (a,H)/\k a H=À r:=by
 cases m with
 |none=>cases h
 |some p=>show⟨p.1,p.2,N,h⟩
theorem sA{α β γ:Type}{m:Option (α×β×ag)}{k:α->β->ag->Option γ}{r:γ}(h:mE m k=À r):∃a b H,m=À (a,b,H)/\k a b H=À r:=by
 cases m with
 |none=>cases h
 |some p=>show⟨p.1,p.2.1,p.2.2,N,h⟩
theorem ob{α β:Type}{m:Option α}{k:α->Option β}{r:β}(h:m.bind k=À r):∃a,m=À a/\k a=À r:=by
 cases m with
 |none=>cases h
 |some p=>show⟨p,N,h⟩
theorem no{α:Type}{r:α}{p:Prop}(h:(none:Option α)=À r):p:=nomatch h
theorem sm{α:Type}{a b:α}(h:À a=À b):a=b:=Option.some.inj h
theorem nP{α β:Type}{a a':α}{b b':β}(h:À (a,b)=À (a',b')):a=a'/\b=b':=⟨congrArg Prod.fst (sm h),congrArg Prod.snd (sm h)⟩
theorem NI{α β γ:Type}{a a':α}{b b':β}{c c':γ}(h:À (a,b,c)=À (a',b',c')):a=a'/\b=b'/\c=c':=⟨congrArg (λp=>p.1) (sm h),congrArg (λp=>p.2.1) (sm h),congrArg (λp=>p.2.2) (sm h)⟩
theorem E6:∀{v:V} {i:Int},pr v=À i->v=.int i
 |.none,_,h=>no h
 |.bool _,_,h=>no h
 |.int _,_,h=>congrArg _ (sm h)
 |.str _,_,h=>no h
 |.tup _,_,h=>no h
 |.ref _,_,h=>no h
 |.ro _,_,h=>no h
theorem E4:∀{v:V} {i:Bool},Ol v=À i->v=.bool i
 |.none,_,h=>no h
 |.bool _,_,h=>congrArg _ (sm h)
 |.int _,_,h=>no h
 |.str _,_,h=>no h
 |.tup _,_,h=>no h
 |.ref _,_,h=>no h
 |.ro _,_,h=>no h
theorem mz:∀{v:V} {i:List V},Cu v=À i->v=.tup i
 |.none,_,h=>no h
 |.bool _,_,h=>no h
 |.int _,_,h=>no h
 |.str _,_,h=>no h
 |.tup _,_,h=>congrArg _ (sm h)
 |.ref _,_,h=>no h
 |.ro _,_,h=>no h
theorem E7:∀{v:bu} {i:List V},UD v=À i->v=.lst i
 |.lst _,_,h=>congrArg _ (sm h)
 |.di _,_,h=>no h
 |.ds _,_,h=>no h
 |.own,_,h=>no h
 |.wd _,_,h=>no h
 |.exn _ _,_,h=>no h
 |.tab _,_,h=>no h
theorem Cr:∀{v:bu} {i:List (Str×V)},E5 v=À i->v=.ds i
 |.lst _,_,h=>no h
 |.di _,_,h=>no h
 |.ds _,_,h=>congrArg _ (sm h)
 |.own,_,h=>no h
 |.wd _,_,h=>no h
 |.exn _ _,_,h=>no h
 |.tab _,_,h=>no h
theorem sB{β:Type}{m:Option (V×ag)}{k:Bool->ag->Option β}{r:β}(h:lQ m k=À r):∃b H,m=À (.bool b,H)/\k b H=À r:=by show gm (i7 h) λv H h1 h2=>aE (ob h2) λb h3 h4=>⟨b,H,E4 h3▸h1,h4⟩
theorem Cw{β:Type}{m:Option (V×ag)}{k:Int->ag->Option β}{r:β}(h:qf m k=À r):∃b H,m=À (.int b,H)/\k b H=À r:=by show gm (i7 h) λv H h1 h2=>aE (ob h2) λb h3 h4=>⟨b,H,E6 h3▸h1,h4⟩
theorem qP{H:ag}{r:Nat}{l:List V}(h:lst H r=À l):H[r]?=À (.lst l):=by show aE (ob h) λm h1 h2=>E7 h2▸h1
theorem mI{H:ag}{r:Nat}{l:List (Str×V)}(h:ds H r=À l):H[r]?=À (.ds l):=by show aE (ob h) λm h1 h2=>Cr h2▸h1
theorem cC{H:ag}{r:Nat}{l:List V}(h:H[r]?=À (.lst l)):lst H r=À l:=by unfold lst;rw[h];rfl
theorem fC{f:V->Option (V×ag)}{as:List V}{r:V×ag}(h:jq f as=À r):∃a,as=[a]/\f a=À r:=by
 cases as with
 |nil=>cases h
 |cons a t=>
  cases t with
  |nil=>show⟨a,N,h⟩
  |cons b t=>cases h
theorem su{f:V->V->Option (V×ag)}{as:List V}{r:V×ag}(h:E2 f as=À r):∃a b,as=[a,b]/\f a b=À r:=by
 cases as with
 |nil=>cases h
 |cons a t=>show aE (fC (f:=f a) h) λb h1 h2=>⟨a,b,by rw[h1],h2⟩
theorem cT{α:Type}{c:Prop}[Decidable c]{x:Option α}{r:α}(h:(if c then x else Ã)=À r):c/\x=À r:=by
 by_cases hc:c
 ·rw[if_pos hc]at h;show⟨hc,h⟩
 ·rw[if_neg hc]at h;cases h
theorem oU{β:Type}{H:ag}{w:List (Nat×bu)}{x:Option β}{r:β}(h:gy H w x=À r):cA H w/\x=À r:=by unfold gy at h;show @cT _ _ (_) _ _ h
theorem jb{β:Type}{H:ag}{w:List (Nat×bu)}{x:Option β}(h:cA H w):gy H w x=x:=by unfold gy;rw[if_pos h]
theorem jg{m:Ex}{k:aJ->ag->Ex}{fl:cw}{aU:aJ}{ae:ag}(h:ip m k=À (fl,aU,ae)):(∃cJ Î,m=À (.next,cJ,Î)/\k cJ Î=À (fl,aU,ae))\/(m=À (fl,aU,ae)/\fl≠.next):=by
 show oN (sA h) λf U H h1 h2=>?_;cases f with
 |next=>show .inl ⟨U,H,h1,h2⟩
 |ret v=>show im (NI h2) λe1 e2 e3=>.inr ⟨by rw[h1,e1,e2,e3],λe=>nomatch (e1.trans e)⟩
 |exc c w=>show im (NI h2) λe1 e2 e3=>.inr ⟨by rw[h1,e1,e2,e3],λe=>nomatch (e1.trans e)⟩
theorem vK{m:bu}{p:Nat×Nat}(h:QZ m=À p):m=.exn p.1 p.2/\(p.1=1\/p.1=2):=by
 cases m with
 |exn c d=>show aQ (cT h) λh1 h2=>?_;have h2:=Option.some.inj h2;apply fR h2;show⟨rfl,by simpa using h1⟩
 |_=>show no h
theorem E9{m:bu}{w:Str}(h:UE m=À w):m=.wd w:=by
 cases m with
 |wd u=>show congrArg _ (Option.some.inj h)
 |_=>show no h
theorem fV{m:Ex}{x:XR}{U aU:aJ}{fl:cw}{ae:ag}(h:E1 m x U=À (fl,aU,ae)):m=À (fl,aU,ae)\/∃c w,fl=.exc c w/\aU=U/\x=À (c,w,ae):=by
 cases m with
 |some r=>show .inl h
 |none=>show aE (ob (m:=x) h) λk1 h1 h2=>?_;obtain ⟨c,w,Î⟩:=k1;show im (NI h2) λq1 q2 q3=>?_;apply fR q1;apply fR q2;apply fR q3;show .inr ⟨c,w,rfl,rfl,h1⟩
theorem lM{m:Ex}{x:XR}{U:aJ}{r:cw×aJ×ag}(h:m=À r):E1 m x U=À r:=by rw[h];rfl
theorem tG{m:Ex}{x:XR}{U:aJ}{c:Nat}{w:Str}{H:ag}(h:m=Ã)(hx:x=À (c,w,H)):E1 m x U=À (.exc c w,U,H):=by rw[h,hx];rfl
theorem Hs{a b:XR}{r:Nat×Str×ag}(h:T5 a b=À r):a=À r\/(a=Ã/\b=À r):=by
 cases a with
 |some x=>show .inl h
 |none=>show .inr ⟨N,h⟩
theorem CM{H ae:ag}{r:yA}{c:Nat}{w:Str}(h:J0 H r=À (c,w,ae)):r=.exc c w/\ae=H:=by
 cases r with
 |ok v=>show no h
 |exc c' w'=>show im (NI h) λq1 q2 q3=>?_;apply aY q1;apply aY q2;apply aY q3;show⟨N,N⟩
theorem j7{Á:ax}{U:aJ}{H:ag}:∀{k:KX} {v:V},dq k U H=À v->ab Á k.ce U H=À (v,H)
 |.var i,v,h=>by show (U i).bind (λv=>À (v,H))=_;rw[show U i=À v from h];rfl
 |.num i,v,h=>by rw[<-sm h];rfl
 |.idx a i,v,h=>by show aE (ob h) λx h1 h=>aE (ob h) λy h2 h=>?_;show bY (ab Á a.ce U H) (λx Î=>bY (ab Á i.ce U Î) λy Û=>(lE x y Û).bind λr=>À (r,Û))=_;rw[j7 h1];show bY (ab Á i.ce U H) (λy Û=>(lE x y Û).bind λr=>À (r,Û))=_;rw[j7 h2];show (lE x y H).bind (λr=>À (r,H))=_;rw[h];rfl
 |.pair a b,v,h=>by show aE (ob h) λx h1 h=>aE (ob h) λy h2 h=>?_;rw[<-sm h];show bY (bY (ab Á a.ce U H) (λv Î=>bY (bY (ab Á b.ce U Î) λw Û=>bY (À ([],Û)) λvs bI=>À (w::vs,bI)) λvs Û=>À (v::vs,Û))) (λvs Î=>q8 Î vs)=_;rw[j7 h1];show bY (bY (bY (ab Á b.ce U H) λw Û=>bY (À ([],Û)) λvs bI=>À (w::vs,bI)) λvs Û=>À (x::vs,Û)) (λvs Î=>q8 Î vs)=_;rw[j7 h2];rfl
theorem dW{Á:ax}{e:CE}{U:aJ}{H ae:ag}{b:Bool}(h:bV Á e U H=À (b,ae)):ab Á e U H=À (.bool b,ae):=by show gm (sB h) λc Î h1 h2=>aQ (nP h2) λe1 e2=>?_;rw[h1,e1,e2]
theorem a0{Á:ax}{e:CE}{U:aJ}{H ae:ag}{b:Bool}(h:ab Á e U H=À (.bool b,ae)):bV Á e U H=À (b,ae):=by unfold bV;rw[h];rfl
theorem bT{α β:Type}{m:Option α}{k:α->Option β}{r:β}{C:Prop}(h:m.bind k=À r)(c:∀a,m=À a->k a=À r->C):C:=(ob h).elim λa q=>c a q.1 q.2
theorem ie{α β γ:Type}{m:Option α}{n:α->Option β}{k:α->β->Option γ}{r:γ}{C:Prop}(h:m.bind (λa=>(n a).bind (k a))=À r)(c:∀a b,m=À a->n a=À b->k a b=À r->C):C:=bT h λa h1 h=>bT h λb h2 h=>c a b h1 h2 h
theorem Bz{α γ β:Type}{m:Option (α×γ)}{k:α×γ->Option β}{r:β}{C:Prop}(h:m.bind k=À r)(c:∀a b,m=À (a,b)->k (a,b)=À r->C):C:=(ob h).elim λa q=>c a.1 a.2 q.1 q.2
theorem dK{α β:Type}{m:Option (α×ag)}{k:α->ag->Option β}{r:β}{C:Prop}(h:bY m k=À r)(c:∀a H,m=À (a,H)->k a H=À r->C):C:=(i7 h).elim λa q=>q.elim λH q=>c a H q.1 q.2
theorem rY{α β γ:Type}{m:Option (α×ag)}{n:α->ag->Option (β×ag)}{k:α->ag->β->ag->Option γ}{r:γ}{C:Prop}(h:bY m (λa H=>bY (n a H) (k a H))=À r)(c:∀a H b τ,m=À (a,H)->n a H=À (b,τ)->k a H b τ=À r->C):C:=dK h λa H h1 h=>dK h λb τ h2 h=>c a H b τ h1 h2 h
theorem oK{α β γ:Type}{m:Option (α×β×ag)}{k:α->β->ag->Option γ}{r:γ}{C:Prop}(h:mE m k=À r)(c:∀a b H,m=À (a,b,H)->k a b H=À r->C):C:=(sA h).elim λa q=>q.elim λb q=>q.elim λH q=>c a b H q.1 q.2
theorem j4{β:Type}{m:Option (V×ag)}{k:Bool->ag->Option β}{r:β}{C:Prop}(h:lQ m k=À r)(c:∀b H,m=À (.bool b,H)->k b H=À r->C):C:=(sB h).elim λa q=>q.elim λH q=>c a H q.1 q.2
theorem AP{β:Type}{m:Option (V×ag)}{k:Int->ag->Option β}{r:β}{C:Prop}(h:qf m k=À r)(c:∀b H,m=À (.int b,H)->k b H=À r->C):C:=(Cw h).elim λa q=>q.elim λH q=>c a H q.1 q.2
theorem dC{α:Type}{c:Prop}[Decidable c]{x:Option α}{r:α}{C:Prop}(h:(if c then x else Ã)=À r)(k:c->x=À r->C):C:=k (cT h).1 (cT h).2
theorem dJ{α:Type}{a b:α}{C:α->Prop}(h:À a=À b)(k:C a):C b:=sm h▸k
theorem dD{α β:Type}{a a':α}{b b':β}{C:α->β->Prop}(h:À (a,b)=À (a',b'))(k:C a b):C a' b':=dJ (C:=λp=>C p.1 p.2) h k
theorem jh{α β γ:Type}{a a':α}{b b':β}{c c':γ}{C:α->β->γ->Prop}(h:À (a,b,c)=À (a',b',c'))(k:C a b c):C a' b' c':=dJ (C:=λp=>C p.1 p.2.1 p.2.2) h k
theorem qE{β:Type}{H:ag}{w:List (Nat×bu)}{x:Option β}{r:β}{C:Prop}(h:gy H w x=À r)(c:cA H w->x=À r->C):C:=c (oU h).1 (oU h).2
end L.Lake
namespace L.Lake
open PySem
structure gr where
 funs:List Str
 consts:List (Str×Int)
 classes:List (Str×Nat)
 calm:List Nat
noncomputable def je(scope bR:à):à:=
 {scope with names:=scope.names.map λ(n,k)=>if (k==.free&&bR.kind==.function&&bR.names.lookup n==À .cell) then (n,.cell) else (n,k)}
noncomputable def fZ(sc:à):Bool:=sc.names.all λx=>x.2 != .free&&x.1 != (".0":Str)
noncomputable def GO:ć->Bool
 |.local=>Æ
 |.cell=>Æ
 |.free=>Æ
 |_=>Ê
def vY(cx:gr)(sc:à)(O:List (Str×Nat))(x:Str):Option CE:=
 if x==("__debug__":Str)||x==("__classdict__":Str) then Ã else
 (sc.names.lookup x).bind λk=>if GO k then (O.lookup x).bind λi=>À (.var i) else if k==.globalImplicit then (cx.consts.lookup x).bind λi=>À (.cst (.int i)) else Ã
noncomputable def lq{α:Type}:List α->Option α
 |[]=>Ã
 |a::r=>if r.isEmpty then À a else Ã
def two{α:Type}:List α->Option (α×α)
 |[]=>Ã
 |a::r=>(lq r).bind λb=>À (a,b)
theorem bX{α:Type}{l:List α}{a:α}(h:lq l=À a):l=[a]:=by
 cases l with
 |nil=>show no h
 |cons b t=>
  cases t with
  |nil=>show congrArg (λx=>[x]) (sm h)
  |cons c t=>show no h
theorem ik{α:Type}{l:List α}{p:α×α}(h:two l=À p):l=[p.1,p.2]:=by
 cases l with
 |nil=>show no h
 |cons b t=>show bT (α:=α) h λc h1 h2=>dJ (C:=λp=>b::t=[p.1,p.2]) h2 (congrArg (b::·) (bX h1))
noncomputable def MD{α:Type}(d:α)(O:Str->α)(tp:List Ô->α)(cl:Ô->List Ô->List Keyword->α)(lm:ļ->Ô->à->α):Ô->α
 |.Name x _=>O x
 |.Tuple l _ _=>tp l
 |.Call f as ks _=>cl f as ks
 |.Lambda ps b sc _=>lm ps b sc
 |_=>d
theorem Rh{α:Type}{r:α}{O:Str->Option α}{tp:List Ô->Option α}{cl:Ô->List Ô->List Keyword->Option α}{lm:ļ->Ô->à->Option α}{e:Ô}{C:Ô->Prop}(h:MD Ã O tp cl lm e=À r)
  (h1:∀x p,O x=À r->C (.Name x p)) (h2:∀l k p,tp l=À r->C (.Tuple l k p)) (h3:∀f as ks p,cl f as ks=À r->C (.Call f as ks p)) (h4:∀ps b sc p,lm ps b sc=À r->C (.Lambda ps b sc p)):C e:=by
 cases e with
 |Name x p=>show h1 x p h
 |Tuple l k p=>show h2 l k p h
 |Call f as ks p=>show h3 f as ks p h
 |Lambda ps b sc p=>show h4 ps b sc p h
 |_=>show no h
noncomputable def n1{α β:Type}(_:α):Option β:=Ã
noncomputable def n3{α β γ δ:Type}(_:α)(_:β)(_:γ):Option δ:=Ã
def dx:Ô->Option Str:=MD Ã À n1 n3 n3
theorem bD{e:Ô}{x:Str}(h:dx e=À x):∃p,e=.Name x p:=
 Rh (C:=λe=>∃p,e=.Name x p) h (λy p h=>⟨p,congrArg (Expr.Name · p) (sm h)⟩) (λz z z h=>no h) (λz z z z h=>no h) λz z z z h=>no h
noncomputable def cg(f:Ô->Option CE):List Ô->Option gG
 |[]=>À .nil
 |e::r=>(f e).bind λc=>(cg f r).bind λcs=>À (.cons c cs)
noncomputable def UU(op:BoolOp)(a b:CE):CE:=match op with
 |.And=>.and a b
 |.Or=>.or a b
noncomputable def vQ(f:Ô->Option CE)(op:BoolOp):List Ô->Option CE
 |[]=>Ã
 |e::r=>if r.isEmpty then f e else (f e).bind λa=>(vQ f op r).bind λb=>À (UU op a b)
noncomputable def yI:Const->Option V
 |.none=>À .none
 |.bool b=>À (.bool b)
 |.int i=>À (.int i)
 |.str s=>À (.str s)
 |_=>Ã
noncomputable def Fl(f:Ô->Option CE):Option Ô->Option CE
 |none=>À (.cst .none)
 |some e=>f e
noncomputable def bp(sc:à)(x:Str):Bool:=sc.names.lookup x==À .globalImplicit && !(x==("__debug__":Str))
noncomputable def eZ:List Str:=["len","sum","min","max","tuple","list","str","int","isinstance","sorted","range","zip","enumerate","bool","ValueError"]
noncomputable def B1{α:Type}(t:List (Str×Nat×α))(x:Str)(n:Nat):Option α:=(t.find? λq=>q.1==x&&q.2.1==n).bind λq=>À q.2.2
theorem l9{α:Type}{t:List (Str×Nat×α)}{x:Str}{n:Nat}{a:α}(h:B1 t x n=À a):(x,n,a)∈t:=by
 show bT h λq h1 h2=>?_;apply dJ h2;have h3:=List.find?_some h1
 simp only[ō,beq_iff_eq]at h3
 show aQ h3 λq1 q2=>?_;apply fR q1;apply fR q2;show List.mem_of_find?_eq_some h1
noncomputable def BE:List (Str×Nat×nT):=[("len",1,.len),("sum",1,.sum),("min",2,.min2),("max",2,.max2),("min",1,.min1),("max",1,.max1),("tuple",1,.tuple),("list",1,.list),("str",1,.str),("int",1,.int),("sorted",1,.sorted)]
def Fm(x:Str)(n:Nat):Option nT:=B1 BE x n
noncomputable def GP:List (Str×Nat×nT):=[("int",0,.isInt),("bool",0,.isBool),("tuple",0,.isTuple),("str",0,.isStr),("list",0,.isList)]
def Ou(x:Str):Option nT:=B1 GP x 0
noncomputable def Bw:List (Str×Nat×j0):=[("append",1,.append),("extend",1,.extend),("find",1,.find),("get",2,.get),("join",1,.join)]
def AQ(x:Str)(n:Nat):Option j0:=B1 Bw x n
noncomputable def hW(cx:gr)(x:Str):Option Nat:=cx.funs.findIdx? (·==x)
noncomputable def oF(sc:à)(O:List (Str×Nat))(x:Str):Option Nat:=if sc.names.lookup x==À .local||sc.names.lookup x==À .cell then O.lookup x else Ã
def Mm:Ô->Option (List Ô):=MD Ã n1 À n3 n3
theorem qd{e:Ô}{l:List Ô}(h:Mm e=À l):∃k p,e=.Tuple l k p:=
 Rh (C:=λe=>∃k p,e=.Tuple l k p) h (λz z h=>no h) (λm k p h=>⟨k,p,congrArg (Expr.Tuple · k p) (sm h)⟩) (λz z z z h=>no h) λz z z z h=>no h
def fW(sc:à)(O:List (Str×Nat))(e:Ô):Option jQ:=match dx e with
 |some x=>(oF sc O x).bind λi=>À (.one i)
 |none=>(Mm e).bind λl=>(two l).bind λp=>(dx p.1).bind λx=>(dx p.2).bind λy=>if x==y then Ã else (oF sc O x).bind λi=>(oF sc O y).bind λj=>À (.two i j)
def bi:Ô->List Str:=MD [] (λx=>[x]) (λl=>l.filterMap dx) (λz z z=>[]) (λz z z=>[])
noncomputable def Aj:Ô->Bool
 |.Name _ _=>Æ
 |.Constant _ _ _=>Æ
 |.Subscript _ _ _=>Æ
 |_=>Ê
noncomputable def oZ:jm->Bool
 |.zip _ _=>Æ
 |.enm _=>Æ
 |_=>Ê
noncomputable def jQ.isTwo:jQ->Bool
 |.one _=>Ê
 |.two _ _=>Æ
def mR(it:jm)(t:jQ):Bool:=!oZ it||t.isTwo
noncomputable def cp(scope:à)(O:List (Str×Nat))(nx:Nat)(ts:List Str):List (Str×Nat):=
 ts.zipIdx nx++(scope.names.filterMap λ(n,k)=>if k==.free then (O.lookup n).map λi=>(n,i) else Ã)
def tR(scope bR:à)(O:List (Str×Nat))(nx:Nat)(ts:List Str):Bool:=
 scope.kind==.function &&
 scope.names.all (λ(_,k)=>k==.local||k==.cell||k==.free||k==.globalImplicit) &&
 scope.names.all (λ(n,k)=>scope.names.lookup n==À k) &&
 scope.names.all (λ(n,k)=>k != .free||((bR.names.lookup n==À .cell||bR.names.lookup n==À .free)&&(O.lookup n).isSome)) &&
 scope.names.all (λ(n,k)=>!(k==.local||k==.cell)||n==(".0":Str)||ts.contains n) &&
 ts.all (λt=>scope.names.lookup t==À .local||scope.names.lookup t==À .cell) &&
 O.all (λ(_,i)=>decide (i<nx)) &&
 !fZ (je scope bR)
noncomputable def Xd(op:UnaryOp)(a:CE):Option CE:=match op with
 |.Not=>À (.not a)
 |_=>Ã
def Q4(f:Ô->Option CE)(l:Ô)(ops:List CmpOp)(rs:List Ô):Option CE:=(lq ops).bind λop=>(lq rs).bind λr=>if behindInMarks op r then Ã else (f l).bind λa=>(f r).bind λb=>À (.cmp op a b)
def Q6(f:Ô->Option CE)(v i:Ô):Option CE:=(f v).bind λa=>match i with
 |.Slice lo hi st _=>if st.isNone then (Fl f lo).bind λx=>(Fl f hi).bind λy=>À (.slc a x y) else Ã
 |i=>(f i).bind λx=>À (.idx a x)
def Mq(f:Ô->Option CE)(sc:à)(as:List Ô):Option CE:=(two as).bind λp=>(dx p.2).bind λt=>if bp sc t then (Ou t).bind λq=>(f p.1).bind λa=>À (.prim q (.cons a .nil)) else Ã
noncomputable def g8:List (Str×Nat):=[("LarderError",0),("TooMuch",1),("Short",2),("ValueError",3)]
def Mt(as:List Ô):Option Nat:=(two as).bind λp=>(dx p.2).bind λt=>g8.lookup t
def Ot(f:Ô->Option CE)(sc:à)(as:List Ô):Option CE:=(two as).bind λp=>(dx p.2).bind λt=>if bp sc t then (g8.lookup t).bind λc=>(f p.1).bind λa=>À (.isC c a) else Ã
def j5:Ô->Option (Str×List Ô):=MD Ã n1 n1 (λfn as ks=>if ks.isEmpty then (dx fn).bind λg=>À (g,as) else Ã) n3
theorem iU{e:Ô}{g:Str}{as:List Ô}(h:j5 e=À (g,as)):∃p q,e=.Call (.Name g p) as [] q:=
 Rh (C:=λe=>∃p q,e=.Call (.Name g p) as [] q) h (λz z h=>no h) (λz z z h=>no h) (λfn W9 ks q h=>dC h λh1 h2=>bT h2 λx h3 h4=>
  dD (C:=λg as=>∃p q',Expr.Call fn W9 ks q=.Call (.Name g p) as [] q') h4 ((bD h3).elim λp e=>⟨p,q,by rw[e,Ŷ.mp h1]⟩)) λz z z z h=>no h
def IJ(cx:gr)(sc:à)(g:Str)(as:List Ô):Option (Ô×Ô):=if g==("list":Str) then (lq as).bind λe=>(j5 e).bind λq=>if q.1==("zip":Str)&&bp sc ("zip":Str)&&(hW cx ("zip":Str)).isNone then two q.2 else Ã else Ã
noncomputable def UW(f:Ô->Option CE)(p:Ô×Ô):Option CE:=(f p.1).bind λx=>(f p.2).bind λy=>À (.zipl x y)
def qg(f:Ô->Option CE)(cx:gr)(sc:à)(g:Str)(as:List Ô):Option CE:=match hW cx g with
 |some k=>if as.isEmpty then Ã else (cg f as).bind λcs=>À (.call k cs)
 |none=>if g==("isinstance":Str) then (if (Mt as).isSome then Ot f sc as else Mq f sc as) else match IJ cx sc g as with
  |some p=>UW f p
  |none=>(Fm g as.length).bind λp=>(cg f as).bind λcs=>À (.prim p cs)
noncomputable def dv(p:ļ):Bool:=p.posonlyargs.isEmpty&&p.vararg.isNone&&p.kwonlyargs.isEmpty&&p.kw_defaults.isEmpty&&p.kwarg.isNone&&p.defaults.isEmpty
def Nf:Ô->Option (Arg×Ô×à):=MD Ã n1 n1 n3 λps body scope=>if dv ps then (lq ps.args).bind λa=>À (a,body,scope) else Ã
theorem zV{e:Ô}{a:Arg}{body:Ô}{scope:à}(h:Nf e=À (a,body,scope)):∃ps pos,e=.Lambda ps body scope pos/\dv ps=Æ/\ps.args=[a]:=
 Rh (C:=λe=>∃ps pos,e=.Lambda ps body scope pos/\dv ps=Æ/\ps.args=[a]) h (λz z h=>no h) (λz z z h=>no h) (λz z z z h=>no h) λps b sc p h=>
  dC h λh1 h2=>bT h2 λc h3 h4=>jh (C:=λa body scope=>∃Nz pos,Expr.Lambda ps b sc p=.Lambda Nz body scope pos/\dv Nz=Æ/\Nz.args=[a]) h4 ⟨ps,p,N,h1,bX h3⟩
def G3(scope bR:à)(O:List (Str×Nat))(nx:Nat)(x:Str):Bool:=
 scope.kind==.function && !scope.isGenerator && !scope.isCoroutine &&
 scope.names.all (λ(_,k)=>k==.local||k==.free||k==.globalImplicit) &&
 scope.names.all (λ(n,k)=>scope.names.lookup n==À k) &&
 scope.names.all (λ(n,k)=>k != .free||((bR.names.lookup n==À .cell||bR.names.lookup n==À .free)&&(O.lookup n).isSome)) &&
 scope.names.lookup x==À .local &&
 O.all (λ(_,i)=>decide (i<nx)) &&
 !fZ scope
noncomputable def QX:Const->Option Int
 |.int i=>À i
 |_=>Ã
noncomputable def QY:CE->Option Nat
 |.var i=>À i
 |_=>Ã
def EB(cx:gr)(sc:à)(O:List (Str×Nat)):Nat->Ô->Option KX
 |0,_=>Ã
 |n+1,e=>match e with
  |.Name x _=>(vY cx sc O x).bind λc=>(QY c).bind λi=>À (.var i)
  |.Constant c _ _=>(QX c).bind λi=>À (.num i)
  |.Subscript v i _=>(EB cx sc O n v).bind λa=>(EB cx sc O n i).bind λb=>À (.idx a b)
  |.Tuple es _ _=>(two es).bind λp=>(EB cx sc O n p.1).bind λa=>(EB cx sc O n p.2).bind λb=>À (.pair a b)
  |_=>Ã
noncomputable def Sk:jm->Bool
 |.ex _=>Æ
 |.rng1 _=>Æ
 |_=>Ê
def Tm(fI:Ô->Option jm)(cx:gr)(sc:à)(O:List (Str×Nat))(nx:Nat)(as:List Ô)(k:Keyword):Option CE:=
 (lq as).bind λx=>(Nf k.value).bind λq=>if k.arg==À ("key":Str)&&fZ sc&&G3 q.2.2 sc O nx q.1.arg then
  (fI x).bind λit=>if Sk it then (EB cx q.2.2 (cp q.2.2 O nx [q.1.arg]) 50 q.2.1).bind λkx=>À (.sortK it nx kx) else Ã else Ã
noncomputable def Bn:Ô->Bool
 |.Constant c _ _=>match c with
  |.none=>Æ
  |_=>Ê
 |_=>Ê
def Fj(f:Ô->Option CE)(g:Str)(as:List Ô)(k:Keyword):Option CE:=(lq as).bind λx=>if g==("min":Str)&&k.arg==À ("default":Str)&&Bn k.value then (f x).bind λa=>À (.prim .minD (.cons a .nil)) else Ã
def Fi(f:Ô->Option CE)(sk:List Ô->Keyword->Option CE)(cx:gr)(sc:à)(fn:Ô)(as:List Ô)(ks:List Keyword)(pos:Pos):Option CE:=match fn with
 |.Name g _=>if bp sc g then (match ks with
  |[]=>qg f cx sc g as
  |k::ks=>if ks.isEmpty then (if g==("sorted":Str) then sk as k else Fj f g as k) else Ã) else Ã
 |.Attribute o m ap=>if ks.isEmpty&&Aj o&&ap.endLine==pos.line then (AQ m as.length).bind λp=>(f o).bind λa=>(cg f as).bind λcs=>À (.meth p a cs) else Ã
 |_=>Ã
def Xb(F:à->List (Str×Nat)->Nat->Ô->Option CE)(fI:Ô->Option jm)(sc:à)(O:List (Str×Nat))(nx:Nat)(elt:Ô)(ue:List Comprehension)(scope:à):Option CE:=
 (lq ue).bind λgn=>if gn.is_async==0&&tR scope sc O nx (bi gn.target) then
  (fI gn.iter).bind λit=>(fW (je scope sc) (cp scope O nx (bi gn.target)) gn.target).bind λt=>
  (cg (F (je scope sc) (cp scope O nx (bi gn.target)) (nx+2)) gn.ifs).bind λcs=>(F (je scope sc) (cp scope O nx (bi gn.target)) (nx+2) elt).bind λc=>
  if mR it t then À (.comp c t it cs) else Ã
 else Ã
noncomputable def Fp(f:Ô->Option CE):List Ô->Option jm
 |[]=>Ã
 |a::r=>(f a).bind λx=>match r with
  |[]=>À (.rng1 x)
  |b::r=>(f b).bind λy=>match r with
   |[]=>À (.rng2 x y)
   |_::_=>Ã
noncomputable def Cy(f:Ô->Option CE)(e:Ô):Option jm:=(f e).bind λc=>À (.ex c)
def Ov(f:Ô->Option CE)(g:Str)(as:List Ô)(e:Ô):Option jm:=
 if g==("range":Str) then Fp f as
 else if g==("zip":Str) then (two as).bind λp=>(f p.1).bind λx=>(f p.2).bind λy=>À (.zip x y)
 else if g==("enumerate":Str) then (lq as).bind λa=>(f a).bind λx=>À (.enm x)
 else Cy f e
def EA(f:Ô->Option CE)(cx:gr)(sc:à)(e:Ô):Option jm:=match j5 e with
 |some p=>if bp sc p.1&&(hW cx p.1).isNone then Ov f p.1 p.2 e else Cy f e
 |none=>Cy f e
def yJ(F:à->List (Str×Nat)->Nat->Ô->Option CE)(fI:Ô->Option jm)(cx:gr)(sc:à)(O:List (Str×Nat))(nx:Nat):Ô->Option CE
 |.Constant c _ _=>(yI c).bind λv=>À (.cst v)
 |.Name x _=>vY cx sc O x
 |.BinOp l op r _=>(F sc O nx l).bind λa=>(F sc O nx r).bind λb=>À (.bin op a b)
 |.UnaryOp op x _=>(F sc O nx x).bind (Xd op)
 |.BoolOp op vs _=>vQ (F sc O nx) op vs
 |.IfExp t a b _=>(F sc O nx t).bind λx=>(F sc O nx a).bind λy=>(F sc O nx b).bind λz=>À (.ite x y z)
 |.Compare l ops rs _=>Q4 (F sc O nx) l ops rs
 |.List es _=>(cg (F sc O nx) es).bind λcs=>À (.list cs)
 |.Tuple es _ _=>(cg (F sc O nx) es).bind λcs=>À (.tuple cs)
 |.Dict ks vs _=>if ks.isEmpty&&vs.isEmpty then À .dict0 else Ã
 |.Subscript v i _=>Q6 (F sc O nx) v i
 |.Call fn as ks pos=>Fi (F sc O nx) (Tm fI cx sc O nx) cx sc fn as ks pos
 |.ListComp elt ue scope _=>Xb F fI sc O nx elt ue scope
 |.Attribute o a _=>if a==("word":Str)&&(dx o).isSome then (F sc O nx o).bind λc=>À (.word c) else Ã
 |_=>Ã
def cq(cx:gr):Nat->à->List (Str×Nat)->Nat->Ô->Option CE
 |0,_,_,_,_=>Ã
 |n+1,sc,O,nx,e=>yJ (cq cx n) (λi=>EA (cq cx n sc O nx) cx sc i) cx sc O nx e
def vV(cx:gr)(n:Nat)(sc:à)(O:List (Str×Nat))(nx:Nat)(e:Ô):Option jm:=EA (cq cx n sc O nx) cx sc e
def Xc(Q:Ô->Option CE)(cx:gr)(sc:à)(O:List (Str×Nat)):Ô->Option CE
 |.Constant c _ _=>(yI c).bind λv=>À (.cst v)
 |.Name x _=>vY cx sc O x
 |.UnaryOp op x _=>(Q x).bind (Xd op)
 |.BoolOp op vs _=>vQ Q op vs
 |.List es _=>(cg Q es).bind λcs=>À (.list cs)
 |.Attribute o a _=>if a==("word":Str)&&(dx o).isSome then (Q o).bind λc=>À (.word c) else Ã
 |.Call fn as ks _=>(dx fn).bind λg=>if ks.isEmpty&&bp sc g then (match hW cx g with
  |some k=>if as.isEmpty || !cx.calm.contains k then Ã else (cg Q as).bind λcs=>À (.call k cs)
  |none=>if g==("isinstance":Str) then Ot Q sc as else Ã) else Ã
 |_=>Ã
def cQ(cx:gr)(sc:à)(O:List (Str×Nat)):Nat->Ô->Option CE
 |0,_=>Ã
 |n+1,e=>Xc (cQ cx sc O n) cx sc O e
noncomputable def Q5(f:Ô->Option CE)(B:List ď->Option fv):ď->Option CS
 |.If t a b _=>(f t).bind λx=>(B a).bind λy=>(B b).bind λz=>À (.ite x y z)
 |.Return v _=>v.bind λe=>(f e).bind λc=>À (.ret c)
 |_=>Ã
noncomputable def eD(S:ď->Option CS):List ď->Option fv
 |[]=>À .nil
 |s::r=>(S s).bind λa=>(eD S r).bind λb=>À (.cons a b)
def JB(cx:gr)(sc:à)(O:List (Str×Nat)):Nat->ď->Option CS
 |0,_=>Ã
 |n+1,s=>Q5 (cQ cx sc O n) (eD (JB cx sc O n)) s
def BJ(o:Option Ô):Option (Str×Ô):=o.bind (MD Ã n1 n1 (λfn as ks=>if ks.isEmpty then (dx fn).bind λx=>(lq as).bind λe=>À (x,e) else Ã) n3)
theorem uW{o:Option Ô}{x:Str}{e:Ô}(h:BJ o=À (x,e)):∃p q,o=À (.Call (.Name x p) [e] [] q):=
 bT h λc h0 h=>Rh (C:=λc=>o=À c->∃p q,o=À (.Call (.Name x p) [e] [] q)) h (λk k h=>no h) (λk k k h=>no h) (λfn as ks q h h0=>dC h λh1 h2=>bT h2 λy h3 h4=>bT h4 λz h5 h6=>
  dD (C:=λx e=>∃p q,o=À (.Call (.Name x p) [e] [] q)) h6 ((bD h3).elim λp e=>⟨p,q,by rw[h0,e,Ŷ.mp h1,bX h5]⟩)) (λk k k k h=>no h) h0
noncomputable def WN:(st:ď)->Option {e:Ô // ∃p,st=.Return (À e) p}
 |.Return v p=>match v with
  |some e=>À ⟨e,p,N⟩
  |none=>Ã
 |_=>Ã
def MS(x:Str)(n:Str)(b:List ď)(l:List ś):Prop:=∃p q,l=[.ExceptHandler (À (.Name x p)) (À n) b q]
def Go(l:List ś):Option (Str×Str×List ď):=(lq l).bind λh=>match h with
 |.ExceptHandler t n b _=>t.bind λt=>(dx t).bind λx=>n.bind λn=>À (x,n,b)
theorem wF{l:List ś}{x n:Str}{b:List ď}(h:Go l=À (x,n,b)):∃p q,l=[.ExceptHandler (À (.Name x p)) (À n) b q]:=by
 show bT h λa h1 h2=>?_;cases a with|ExceptHandler t m c q=>
 show bT h2 λt' h3 h4=>bT h4 λy h5 h6=>bT h6 λm' h7 h8=>jh (C:=λx n b=>MS x n b l) h8 ((bD h5).elim λp e=>⟨p,q,by rw[bX h1,h3,h7,e]⟩)
def zL:Ô->Bool:=MD Ê (λz=>Ê) (λz=>Æ) (λz z z=>Ê) (λz z z=>Ê)
def UT(f:Ô->Option CE)(sc:à)(O:List (Str×Nat))(t v:Ô):Option CS:=match t with
 |.Name x p=>(fW sc O (.Name x p)).bind λt=>(f v).bind λa=>À (.assign t a)
 |.Tuple ts k p=>if zL v then Ã else (fW sc O (.Tuple ts k p)).bind λt=>(f v).bind λa=>À (.assign t a)
 |.Subscript o i _=>(f o).bind λa=>(f i).bind λb=>(f v).bind λc=>À (.setItem a b c)
 |_=>Ã
noncomputable def j0.isStep:j0->Bool
 |.append=>Æ
 |.extend=>Æ
 |_=>Ê
def Mr(c:CE):Option CS:=match c with
 |.meth m o as=>if m.isStep then À (.expr (.meth m o as)) else Ã
 |_=>Ã
def UV(f:Ô->Option CE)(e:Ô):Option CS:=match e with
 |.Call fn as ks p=>(f (.Call fn as ks p)).bind Mr
 |_=>Ã
def Ft(f:Ô->Option CE)(fI:Ô->Option jm)(B KE:List ď->Option fv)(sc:à)(O:List (Str×Nat)):ď->Option CS
 |.Assign ts v _=>(lq ts).bind λt=>UT f sc O t v
 |.Expr e _=>UV f e
 |.If t a b _=>(f t).bind λx=>(B a).bind λy=>(B b).bind λz=>À (.ite x y z)
 |.For t it body kq _=>if kq.isEmpty then (fW sc O t).bind λx=>(fI it).bind λy=>(B body).bind λz=>if mR y x then À (.for_ x y z) else Ã else Ã
 |.While t body kq _=>if kq.isEmpty then (f t).bind λx=>(B body).bind λz=>À (.while_ x z) else Ã
 |.Return v _=>v.bind λe=>(f e).bind λc=>À (.ret c)
 |.Raise exc Ms _=>if Ms.isNone then (BJ exc).bind λp=>if bp sc p.1 then (g8.lookup p.1).bind λc=>if c==1||c==2 then (f p.2).bind λa=>À (.raise_ c a) else Ã else Ã else Ã
 |.Try body hs kq gw _=>if kq.isEmpty&&gw.isEmpty then (Go hs).bind λq=>if bp sc q.1&&q.1==("LarderError":Str) && !q.2.2.isEmpty&&(sc.names.lookup q.2.1==À .local) then (oF sc O q.2.1).bind λi=>(lq body).bind λst=>(WN st).bind λe=>(f e.1).bind λa=>(KE q.2.2).bind λy=>À (.try_ (.cons (.ret a) .nil) i y) else Ã else Ã
 |_=>Ã
def sC(cx:gr)(sc:à)(O:List (Str×Nat))(nx:Nat):Nat->ď->Option CS
 |0,_=>Ã
 |n+1,s=>Ft (cq cx n sc O nx) (vV cx n sc O nx) (eD (sC cx sc O nx n)) (eD (JB cx sc O n)) sc O s
noncomputable def eC(sc:à):List (Str×Nat):=((sc.names.filter λ(_,k)=>k==.local||k==.cell).map (·.1)).zipIdx
def Cz(cx:gr)(params:ļ)(sc:à)(body:List ď):Option bq:=
  let O:=eC sc
  let as:=params.args
  if dv params&&sc.kind==.function && !sc.isGenerator && !sc.isCoroutine &&
   sc.names.all (λ(n,k)=>sc.names.lookup n==À k&&(k==.local||k==.cell||k==.globalImplicit)) &&
   decide (as.map (·.arg)=(O.map (·.1)).take as.length)&&decide ((O.map (·.1)).Nodup) then
   (eD (sC cx sc O O.length 200) body).bind λb=>À ⟨as.length,b⟩
  else Ã
end L.Lake
set_option backward.match.sparseCases true
namespace L.Lake
open PySem PyProof.Rows PySem.Calls
structure G where
 prog:ö
 w:World
 B:Ó
 tabs:List (Str×È)
 cls:Nat->È
def jZ(o:Obj):Prop:=(o.cls=.type "tuple"/\∃cP n,o.data=.seq cP n)\/(o.cls=.type "code"/\∃vs,o.data=.fields vs)
def gK(h:Ó)(b:È)(o:Obj):Prop:=h.get? b=À o\/((∃es ep,o.data=.dict es ep)/\∃sl,h.get? b=À {o with slots:=sl})
mutual
inductive VR(g:G)(J:List È)(h:Ó):V->Ä->Prop
 |none:VR g J h .none .none
 |bool (b:Bool):VR g J h (.bool b) (.bool b)
 |int (i:Int) (t:Tok):VR g J h (.int i) (.int i t)
 |str (x:Str) (t:Tok):VR g J h (.str x) (.str x t)
 |tup {l:List V} {a:È} {vs:List Ä}:h.IsTuple a vs.toArray->l.length<=aw+1->bv g J h l vs->a∉J->VR g J h (.tup l) (.ref a)
 |ref {n:Nat} {a:È}:J[n]?=À a->VR g J h (.ref n) (.ref a)
 |ro {ns:List Int} {a:È} {vs:List Ä}:g.B.IsList a vs.toArray->ns.length<=aw+1->ò vs ns->VR g J h (.ro ns) (.ref a)
inductive bv(g:G)(J:List È)(h:Ó):List V->List Ä->Prop
 |nil:bv g J h [] []
 |cons {v:V} {a:Ä} {l:List V} {vs:List Ä}:VR g J h v a->bv g J h l vs->bv g J h (v::l) (a::vs)
end
inductive MR(g:G)(J:List È)(h:Ó):bu->È->Prop
 |lst {l:List V} {a:È} {vs:List Ä}:h.PlainList a vs.toArray->l.length<=aw+1->bv g J h l vs->MR g J h (.lst l) a
 |di {l:List (Int×V)} {a:È} {kvs:List (Int×Ä)}:h.DictOf (intKind g.prog g.w) a kvs->kvs.map (·.1)=l.map (·.1)->bv g J h (l.map (·.2)) (kvs.map (·.2))->MR g J h (.di l) a
 |ds {l:List (Str×V)} {a:È} {kvs:List (Str×Ä)}:h.DictOf (strKind g.prog g.w) a kvs->kvs.map (·.1)=l.map (·.1)->bv g J h (l.map (·.2)) (kvs.map (·.2))->MR g J h (.ds l) a
 |own {a:È} {x y:Ä}:h.get? a=À {cls:=.type "tuple",data:=.seq #[x,y]}->MR g J h .own a
 |wd {w:Str} {a:È} {m:Str->Option Ä} {t:Tok}:h.Ns a m->m ("word":Str)=À (.str w t)->MR g J h (.wd w) a
 |exn {c d:Nat} {a D:È} {o:Obj} {vs:Array Ä}:h.get? a=À o->o.cls=.ref (g.cls c)->o.data=.fields vs->o.dict=À D->J[d]?=À D->MR g J h (.exn c d) a
 |tab {q:Str} {a:È} {ps:Array Ä}:h.get? a=À {cls:=.none,data:=.fields ps}->Ĝ ps.toList->(∀pos cv,Ė pos ps.toList=À cv->∃c' o vs t,cv=.ref c'/\c'∉J/\h.get? c'=À o/\o.cls=.type "code"/\o.data=.fields vs/\vs[1]?=À (.str (q++"<lambda>") t))->MR g J h (.tab q) a
structure ar(g:G)(J:List È)(H:ag)(h:Ó):Prop where
 base:∀b o,g.B.get? b=À o->h.get? b=À o
 fresh:∀a∈J,g.B.get? a=Ã
 len:J.length=H.length
 nodup:J.Nodup
 objs:∀(i:Nat) (a:È) (m:bu),J[i]?=À a->H[i]?=À m->MR g J h m a
 tabs:∀(j:Nat) (q:Str) (P:È),g.tabs[j]?=À (q,P)->J[j]?=À P/\H[j]?=À (.tab q)
structure cX(ms:È->Prop)(J:List È)(h:Ó)(aS:List È)(h':Ó):Prop where
 pres:∀b o,h.get? b=À o->¬ ms b->gK h' b o
 dom:∀b o,h.get? b=À o->∃o',h'.get? b=À o'
 ext:∃t,aS=J++t/\∀a∈t,h.get? a=Ã
abbrev SE(J:List È)(h:Ó)(aS:List È)(h':Ó):Prop:=cX (λb=>b∈J) J h aS h'
def bK(s s':Å):Prop:=s'.gens=s.gens/\s'.drawn=s.drawn/\s'.os=s.os
inductive bA(g:G)(J:List È)(s:Å)(v:V)(ae:ag)(a:Ä)(s':Å):Prop
 |mk (aS:List È) (S:SE J s.heap aS s'.heap) (R:ar g aS ae s'.heap) (V:VR g aS s'.heap v a) (T:bK s s'):bA g J s v ae a s'
theorem bA.el{g:G}{J:List È}{s:Å}{v:V}{ae:ag}{a:Ä}{s':Å}{C:Prop}(x:bA g J s v ae a s')(k:∀aS,SE J s.heap aS s'.heap->ar g aS ae s'.heap->VR g aS s'.heap v a->bK s s'->C):C:=bA.casesOn (motive:=λz=>C) x k
def Od(g:G)(q:Str)(cd:Ä):Prop:=∃(j:Nat) (c P:È) (KE:Ó),g.tabs[j]?=À (q,P)/\cd=.ref c/\KE.IsCode c P #[]/\KE.TableAt c P #[]/\∀o,KE.get? c=À o->g.B.get? c=À o
structure Fn where
 name:Str
 addr:È
 params:ļ
 body:List ď
 scope:à
noncomputable def jW:List Ä:=[.type "ValueError",.type "Exception",.type "BaseException",.type "object"]
noncomputable def iv:List Str:=["__module__","__firstlineno__","__init__","__static_attributes__","__weakref__","__doc__"]
structure EP where
 pzJ:È
 O:Str
 q:Str
 bs:List Ä
 sub:List Ä
 k0:Option Ä
 k1:Option Ä
 k2:Option Ä
 k3:Option Ä
 k5:Option Ä
noncomputable abbrev EP.obj(d:EP)(C:È)(tl:List Ä):Obj:=excClassObj d.O d.q C d.pzJ d.bs tl Æ [] d.sub Ê Ã Ã d.k0 d.k1 d.k2 d.k3 d.k5 "ValueError.__new__"
structure fw(h:Ó)(C:È)(tl:List Ä)(mN:Str->Option Ä):Prop where
 obj:∃d:EP,h.get? C=À (d.obj C tl)/\h.Ns d.pzJ mN
 quiet:∀n,n∉iv->mN n=Ã
def Pf(fd:Ī):Prop:=∃p1 p2 p3 p4,fd.body=.stmts [.Assign [.Attribute (.Name ("self":Str) p1) ("word":Str) p2] (.Name ("word":Str) p3) p4]
structure QF(o:Obj)(fd:Ī)(a1 a2:Arg):Prop where
 cls:o.cls=.type "function"
 data:o.data=.func fd
 init:Pf fd
 params:fd.params=⟨[],[a1,a2],Ã,[],[],Ã,[]⟩
 n1:a1.arg=("self":Str)
 n2:a2.arg=("word":Str)
 names:fd.scope.names=[(("self":Str),NameKind.local),(("word":Str),NameKind.local)]
 kind:fd.scope.kind=.function
 gen:fd.scope.isGenerator=Ê
 co:fd.scope.isCoroutine=Ê
 gl:fd.globals=Ü
 clo:fd.closure=[]
 df:fd.defaults=.none
 bl:fd.builtins=Ą
structure iO(h:Ó)(f:È):Prop where
 ex:∃o fd a1 a2,h.get? f=À o/\QF o fd a1 a2/\h.CodeRec fd.code fd.qualname
structure Uf(g:G)(mg:Str->Option Ä):Prop where
 n0:mg ("LarderError":Str)=À (.ref (g.cls 0))
 n1:mg ("TooMuch":Str)=À (.ref (g.cls 1))
 n2:mg ("Short":Str)=À (.ref (g.cls 2))
 c0:∃mN f,fw g.B (g.cls 0) jW mN/\mN ("__init__":Str)=À (.ref f)/\iO g.B f
 c1:∃mN,fw g.B (g.cls 1) (.ref (g.cls 0)::jW) mN/\mN ("__init__":Str)=Ã
 c2:∃mN,fw g.B (g.cls 2) (.ref (g.cls 0)::jW) mN/\mN ("__init__":Str)=Ã
 ap:g.cls 1≠g.cls 2/\g.cls 1≠g.cls 0/\g.cls 2≠g.cls 0
structure fU(g:G)(cx:gr)(fs:List Fn)(mg mb:Str->Option Ä):Prop where
 gns:g.B.Ns Ü mg
 bns:g.B.Ns Ą mb
 nolimit:g.B.NoLimit
 sys:∃o,g.B.get? û=À o
 prims:∀x∈eZ,mg x=Ã/\mb x=Ě x
 consts:∀x i,cx.consts.lookup x=À i->∃t,mg x=À (.int i t)
 names:fs.map (·.name)=cx.funs
 made:∀f∈fs,mg f.name=À (.ref f.addr)/\∃o pm cd doc,g.B.get? f.addr=À o/\o.data=.func (ŋ f.name f.params f.body f.scope pm cd doc)/\g.B.CodeRec cd f.name
 bmain:∃bm ob,mg ("__builtins__":Str)=À (.ref bm)/\bm≠Ą/\g.B.get? bm=À ob/\ob.cls=.type "module"/\ob.dict=À Ą/\ob.data=.plain
 exc:Uf g mg
 tab:∀f∈fs,∀o fd,g.B.get? f.addr=À o->o.data=.func fd->Od g (fd.qualname++".<locals>.") fd.code
structure Cx where
 g:G
 cx:gr
 fs:List Fn
 mg:Str->Option Ä
 mb:Str->Option Ä
 P:List bq
theorem JN:Nonempty Cx:=⟨⟨⟨default,⟨λz z=>0,⟨λz=>0,λz=>0,id,λz=>0,λz z=>0,λz=>Ê,λz=>0,.refcount,.text,λz=>0,λz=>Ã,λz=>Ê,λz z z=>Æ,λz z z=>Æ,Æ,λz=>Ê,λz=>Ã,λz=>Ã,λz z z=>0,λz z=>Ã,λz=>Ã,λz=>(0,Ê,"UTC"),λz=>Ã,λd=>d,λz=>Ê⟩⟩,default,[],λz=>0⟩,⟨[],[],[],[]⟩,[],λz=>Ã,λz=>Ã,[]⟩⟩
def Ob(cx:gr)(fs:List Fn)(P:List bq):Prop:=∀(k:Nat) (fn:Fn),fs[k]?=À fn->∃cf,P[k]?=À cf/\Cz cx fn.params fn.scope fn.body=À cf
def Oc(cx:gr)(fs:List Fn)(P:List bq):Prop:=∀k∈cx.calm,∀fn cf,fs[k]?=À fn->P[k]?=À cf->eD (JB cx fn.scope (eC fn.scope) 200) fn.body=À cf.body
def vz(c:Cx):Prop:=fU c.g c.cx c.fs c.mg c.mb->Ob c.cx c.fs c.P->Oc c.cx c.fs c.P->∀d,d<=100->∀k as H v ae,aC c.P d k as H=À (.ok v,ae)->∀fn,c.fs[k]?=À fn->∀J s cc,ar c.g J H s.heap->bv c.g J s.heap as cc->∀E,É (model c.g.prog c.g.w) callerA (PySem.call (.ref fn.addr) cc) (bA c.g J s v ae) E s
def kk:Cx:=@Classical.epsilon Cx JN λc=>¬ vz c
theorem CB(h:vz kk)(c:Cx):vz c:=abE λn=>@Classical.epsilon_spec Cx (λc=>¬ vz c) ⟨c,n⟩ h
def gg:G:=kk.g
def cx:gr:=kk.cx
def fs:List Fn:=kk.fs
def mg:Str->Option Ä:=kk.mg
def mb:Str->Option Ä:=kk.mb
def P:List bq:=kk.P
abbrev mo:Model:=model gg.prog gg.w
noncomputable def dS:Å:=⟨default,#[],{},0,default⟩
end L.Lake
set_option autoImplicit true
namespace L.Lake
open PySem PyProof.Rows
structure Jd(o:Obj):Prop where
 seq:∀cP n,o.data≠.seq cP n
 dict:∀es ep,o.data≠.dict es ep
 code:o.cls=.type "code"->∀vs,o.data≠.fields vs
theorem gK.of(x:gK h b o)(hd:∀es ep,o.data≠.dict es ep):h.get? b=À o:=by
 rcases x with x|⟨⟨es,ep,x⟩,_⟩
 ·show x
 ·show absurd x (hd es ep)
theorem gK.seq(x:gK h b o)(hd:o.data=.seq cP n):h.get? b=À o:=x.of (λes ep q=>nomatch hd.symm.trans q)
theorem gK.hard(x:gK h b o)(hd:jZ o):h.get? b=À o:=by
 rcases hd with ⟨_,cP,n,hd⟩|⟨_,vs,hd⟩
 ·show x.seq hd
 ·show x.of (λes ep q=>nomatch hd.symm.trans q)
theorem gK.live(x:gK h b o):∃o',h.get? b=À o':=by
 rcases x with x|⟨_,sl,x⟩
 ·show⟨o,x⟩
 ·show⟨_,x⟩
theorem gK.then(x:gK h' b o)(y:∀o',h'.get? b=À o'->gK qF b o'):gK qF b o:=by
 rcases x with x|⟨hd,sl,x⟩
 ·show y o x
 ·rcases y _ x with y|⟨_,WQ,y⟩
  ·show .inr ⟨hd,sl,y⟩
  ·show .inr ⟨hd,WQ,y⟩
theorem gK.ns{h h':Ó}{a:È}{m:Str->Option Ä}(hn:h.Ns a m)(x:∀o,h.get? a=À o->gK h' a o):h'.Ns a m:=by
 show tX hn λo es ep ho hd r=>?_;rcases x o ho with y|⟨_,sl,y⟩
 ·show⟨o,es,ep,y,hd,r⟩
 ·show⟨_,es,ep,y,hd,r⟩
theorem VR.el{J:List È}{h:Ó}{C:V->Ä->Prop}{v:V}{a:Ä}(x:VR gg J h v a)(none:C .none .none)(bool:∀b,C (.bool b) (.bool b))(int:∀i t,C (.int i) (.int i t))(str:∀x t,C (.str x) (.str x t))
  (tup:∀l a vs,h.IsTuple a (adw vs)->l.length<=aw+1->bv gg J h l vs->a∉J->C (.tup l) (.ref a)) (ref:∀n a,J[n]?=À a->C (.ref n) (.ref a)) (ro:∀ns a vs,gg.B.IsList a (adw vs)->ns.length<=aw+1->ò vs ns->C (.ro ns) (.ref a)):C v a:=
 VR.casesOn (motive_1:=λv a z=>C v a) x none bool int str (λh1 h2 h3 h4=>tup _ _ _ h1 h2 h3 h4) (λh1=>ref _ _ h1) λh1 h2 h3=>ro _ _ _ h1 h2 h3
theorem MR.el{J:List È}{h:Ó}{C:bu->Prop}{m:bu}{a:È}(x:MR gg J h m a)(lst:∀l vs,h.PlainList a (adw vs)->l.length<=aw+1->bv gg J h l vs->C (.lst l))
  (di:∀l kvs,h.DictOf (intKind gg.prog gg.w) a kvs->kvs.map (·.1)=l.map (·.1)->bv gg J h (l.map (·.2)) (kvs.map (·.2))->C (.di l))
  (ds:∀l kvs,h.DictOf (strKind gg.prog gg.w) a kvs->kvs.map (·.1)=l.map (·.1)->bv gg J h (l.map (·.2)) (kvs.map (·.2))->C (.ds l))
  (own:∀x y,h.get? a=À {cls:=.type "tuple",data:=.seq #[x,y]}->C .own) (wd:∀w m t,h.Ns a m->m ("word":Str)=À (.str w t)->C (.wd w)) (exn:∀c d D o vs,h.get? a=À o->o.cls=.ref (gg.cls c)->o.data=.fields vs->o.dict=À D->J[d]?=À D->C (.exn c d))
  (tab:∀q ps,h.get? a=À {cls:=.none,data:=.fields ps}->Ĝ ps.toList->(∀pos cv,Ė pos ps.toList=À cv->∃c' o vs t,cv=.ref c'/\c'∉J/\h.get? c'=À o/\o.cls=.type "code"/\o.data=.fields vs/\vs[1]?=À (.str (q++"<lambda>") t))->C (.tab q)):C m:=by
 cases x with
 |lst h1 h2 h3=>show lst _ _ h1 h2 h3
 |di h1 h2 h3=>show di _ _ h1 h2 h3
 |ds h1 h2 h3=>show ds _ _ h1 h2 h3
 |own h1=>show own _ _ h1
 |wd h1 h2=>show wd _ _ _ h1 h2
 |exn h1 h2 h3 h4 h5=>show exn _ _ _ _ _ h1 h2 h3 h4 h5
 |tab h1 h2 h3=>show tab _ _ h1 h2 h3
theorem cX.refl(ms:È->Prop)(J:List È)(h:Ó):cX ms J h J h:=
 ⟨λz z e z=>.inl e,λz o e=>⟨o,e⟩,[],(Ĭ _).symm,λz ha=>(nomatch ha)⟩
theorem cX.pre{ms:È->Prop}{J aS:List È}{h h':Ó}(x:cX ms J h aS h'){n:Nat}{a:È}(e:J[n]?=À a):aS[n]?=À a:=by show aE x.ext λt q2 z=>?_;apply aY q2;have hn:n<J.length:=(Ğ.mp e).1;rw[ϕ hn];show e
theorem cX.notin(x:cX ms J h aS h')(e:h.get? b=À o)(hb:b∉J):b∉aS:=by
 show aE x.ext λt q2 ht=>?_;apply aY q2;intro hm;show â (Ģ.mp hm) (λhm=>?_) (λhm=>?_)
 ·show hb hm
 ·rw[ht b hm]at e;show no e
theorem cX.trans(x:cX ms J h aS h')(y:cX ms' aS h' J'' qF)
  (h1:∀b o,h.get? b=À o->¬ ms'' b->¬ ms b) (h2:∀b o,h.get? b=À o->¬ ms'' b->¬ ms' b):cX ms'' J h J'' qF:=by
 show⟨λb o e hb=>(x.pres b o e (h1 b o e hb)).then λo' e'=>y.pres b o' e' (h2 b o e hb),λb o e=>?_,?_⟩
 ·show ä (x.dom b o e) λo' e'=>y.dom b o' e'
 ·show aE x.ext λt q2 ht=>?_;subst q2
  show aE y.ext λu q2 hu=>?_;apply aY q2;show⟨t++u,by simp,λa ha=>â (Ģ.mp ha) (λha=>?_) (λha=>?_)⟩
  ·show ht a ha
  ·cases e:h.get? a with
   |none=>rfl
   |some o=>show ä (x.dom a o e) λo' e'=>?_;rw[hu a ha]at e';show no e'
theorem SE.trans(x:SE J h aS h')(y:SE aS h' J'' qF):SE J h J'' qF:=
 cX.trans x y (λz z z hb=>hb) λz z e hb=>x.notin e hb
theorem SE.refl(J:List È)(h:Ó):SE J h J h:=cX.refl _ _ _
theorem w9{α:Type}{l:List α}(hn:l.Nodup){i j:Nat}{a:α}(hi:l[i]?=À a)(hj:l[j]?=À a):i=j:=by
 show ä (Ğ.mp hi) λh1 e1=>?_;show ä (Ğ.mp hj) λh2 e2=>?_;have hp:=acv.mp hn;rcases ae0 i j with h|h|h
 ·show absurd (e1.trans e2.symm) (hp i j h1 h2 h)
 ·show h
 ·show absurd (e2.trans e1.symm) (hp j i h2 h1 h)
theorem gT(hc:o.cls=.type "list"):¬ jZ o:=by rintro (⟨h,_⟩|⟨h,_⟩)<;>rw[hc]at h<;>show absurd h (by decide)
theorem sL(hd:o.data=.dict es ep):¬ jZ o:=by rintro (⟨_,_,_,h⟩|⟨_,_,h⟩)<;>show nomatch hd.symm.trans h
theorem kL{K:Type}[DecidableEq K]{knd:KeyKind gg.prog gg.w K}{h h':Ó}{a:È}{kvs:List (K×Ä)}(x:h.DictOf knd a kvs)(hk:∀o,h.get? a=À o->h'.get? a=À o):h'.DictOf knd a kvs:=
 yT x λo es ep r=>⟨o,es,ep,hk o r.1,r.2⟩
theorem MR.live(x:MR gg J h m a):∃o,h.get? a=À o:=by
 apply MR.el x
 case lst=>
  intro _ _ hl _ _;show ä hl λn ho=>⟨_,ho⟩
 case di=>
  intro _ _ hd _ _;show tX hd λo z z ho hc z=>⟨o,ho⟩
 case ds=>
  intro _ _ hd _ _;show tX hd λo z z ho hc z=>⟨o,ho⟩
 case own=>intro _ _ ho;show⟨_,ho⟩
 case wd=>
  intro _ _ _ hn _;show oN hn λo z z ho z=>⟨o,ho⟩
 case exn=>intro _ _ _ _ _ ho _ _ _ _;show⟨_,ho⟩
 case tab=>intro _ _ ho _ _;show⟨_,ho⟩
theorem ar.live(R:ar gg J H h)(ha:a∈J):∃o,h.get? a=À o:=by obtain ⟨i,hi,rfl⟩:=ab5.mp ha;have h1:J[i]?=À J[i]:=N' hi;have jX:i<H.length:=R.len▸hi;have h2:H[i]?=À H[i]:=N' jX;show(R.objs i _ _ h1 h2).live
theorem VR.stepT(hp:∀(n:Nat) (a:È),J[n]?=À a->aS[n]?=À a)(S:∀b o,h.get? b=À o->jZ o->b∉J->h'.get? b=À o/\b∉aS)(x:VR gg J h v a):VR gg aS h' v a:=
 VR.rec (motive_1:=λv a z=>VR gg aS h' v a) (motive_2:=λl vs z=>bv gg aS h' l vs) .none .bool .int .str (λht hz z hn ih=>by show eJ ht λo ho hc r=>?_;have k:=S _ _ ho (.inl ⟨hc,_,r⟩) hn;show .tup ⟨o,k.1,hc,r⟩ hz ih k.2) (λe=>.ref (hp _ _ e)) .ro .nil (λz z h1 h2=>.cons h1 h2) x
theorem bv.stepT(hp:∀(n:Nat) (a:È),J[n]?=À a->aS[n]?=À a)(S:∀b o,h.get? b=À o->jZ o->b∉J->h'.get? b=À o/\b∉aS)(x:bv gg J h l vs):bv gg aS h' l vs:=by
 induction l generalizing vs with
 |nil=>cases x;show .nil
 |cons v l ih=>cases x with|cons hv hr=>show .cons (hv.stepT hp S) (ih hr)
theorem VR.step{J aS:List È}{H:ag}{h h':Ó}(R:ar gg J H h)(S:SE J h aS h'){v:V}{a:Ä}(x:VR gg J h v a):VR gg aS h' v a:=x.stepT (λz z e=>S.pre e) λz z e hh hn=>⟨(S.pres _ _ e hn).hard hh,S.notin e hn⟩
theorem bv.step{J aS:List È}{H:ag}{h h':Ó}(R:ar gg J H h)(S:SE J h aS h'){l:List V}{vs:List Ä}(x:bv gg J h l vs):bv gg aS h' l vs:=x.stepT (λz z e=>S.pre e) λz z e hh hn=>⟨(S.pres _ _ e hn).hard hh,S.notin e hn⟩
theorem bv.nilE(x:bv gg J h [] vs):vs=[]:=by cases x;rfl
theorem bv.consE{J:List È}{h:Ó}{v:V}{l:List V}{vs:List Ä}{C:Prop}(x:bv gg J h (v::l) vs)(k:∀a us,vs=a::us->VR gg J h v a->bv gg J h l us->C):C:=by
 cases x with
 |cons h1 h2=>show k _ _ N h1 h2
theorem bv.hd{J:List È}{h:Ó}{v:V}{l:List V}{a:Ä}{vs:List Ä}(x:bv gg J h (v::l) (a::vs)):VR gg J h v a:=x.consE λz z e h1 z=>(List.cons.inj e).1▸h1
theorem bv.tl{J:List È}{h:Ó}{v:V}{l:List V}{a:Ä}{vs:List Ä}(x:bv gg J h (v::l) (a::vs)):bv gg J h l vs:=x.consE λz z e z h2=>(List.cons.inj e).2▸h2
theorem bv.length(x:bv gg J h l vs):l.length=vs.length:=by
 induction l generalizing vs with
 |nil=>cases x;rfl
 |cons v l ih=>cases x with|cons hv hr=>show congrArg (·+1) (ih hr)
theorem bv.append(x:bv gg J h l vs)(y:bv gg J h m ws):bv gg J h (l++m) (vs++ws):=by
 induction l generalizing vs with
 |nil=>cases x;show y
 |cons v l ih=>cases x with|cons hv hr=>show .cons hv (ih hr)
theorem bv.get{J:List È}{h:Ó}{v:V}{l:List V}:∀{vs:List Ä} {i:Nat},bv gg J h l vs->l[i]?=À v->∃a,vs[i]?=À a/\VR gg J h v a:=by
 induction l with
 |nil=>show λz e=>no (e)
 |cons w l ih=>
  intro vs i x e;show x.consE λa us q hv hr=>?_;rw[q];cases i with
  |zero=>show⟨a,N,Option.some.inj e▸hv⟩
  |succ i=>show(ih (i:=i) hr e:∃b,us[i]?=À b/\VR gg J h v b)
theorem bv.set{J:List È}{h:Ó}{v:V}{a:Ä}(x:VR gg J h v a){l:List V}:∀{vs:List Ä} (i:Nat),bv gg J h l vs->bv gg J h (l.set i v) (vs.set i a):=by
 induction l with
 |nil=>intro vs i y;rw[y.nilE];show .nil
 |cons w l ih=>
  intro vs i y;show y.consE λb us q hv hr=>?_;rw[q];cases i with
  |zero=>show .cons x hr
  |succ i=>show .cons hv (ih i hr)
theorem bv.one(x:VR gg J h v a):bv gg J h [v] [a]:=.cons x .nil
theorem bv.take{J:List È}{h:Ó}{l:List V}:∀{vs:List Ä} (i:Nat),bv gg J h l vs->bv gg J h (l.take i) (vs.take i):=by
 induction l with
 |nil=>intro vs i y;rw[y.nilE,afA,afA];show .nil
 |cons w l ih=>
  intro vs i y;show y.consE λb us q hv hr=>?_;rw[q];cases i with
  |zero=>show .nil
  |succ i=>show .cons hv (ih i hr)
theorem bv.drop{J:List È}{h:Ó}{l:List V}:∀{vs:List Ä} (i:Nat),bv gg J h l vs->bv gg J h (l.drop i) (vs.drop i):=by
 induction l with
 |nil=>intro vs i y;rw[y.nilE,aeQ,aeQ];show .nil
 |cons w l ih=>
  intro vs i y;cases i with
  |zero=>show y
  |succ i=>show y.consE λb us q hv hr=>q▸ih i hr
theorem MR.step(R:ar gg J H h)(S:SE J h aS h')(x:MR gg J h m a)(ha:∀o,h.get? a=À o->h'.get? a=À o):MR gg aS h' m a:=by
 apply MR.el x
 case lst=>intro _ _ hl hz hv;show .lst (hl.at ha) hz (hv.step R S)
 case di=>intro _ _ hd he hv;show .di (kL hd ha) he (hv.step R S)
 case ds=>intro _ _ hd he hv;show .ds (kL hd ha) he (hv.step R S)
 case own=>intro _ _ ho;show .own (ha _ ho)
 case wd=>intro _ _ _ hn hw;show .wd (let ⟨o,es,ep,ho,r⟩:=hn;⟨o,es,ep,ha _ ho,r⟩) hw
 case exn=>intro _ _ _ _ _ ho h1 h2 h3 h4;show .exn (ha _ ho) h1 h2 h3 (S.pre h4)
 case tab=>
  intro _ _ ho ht hc
  show .tab (ha _ ho) ht λpos cv e=>by show Vd (hc pos cv e) λc' o vs t e1 e2 e3 e4 e5 e6=>⟨c',o,vs,t,e1,S.notin e3 e2,(S.pres _ _ e3 e2).hard (.inr ⟨e4,vs,e5⟩),e4,e5,e6⟩
theorem MR.stepT(hp:∀(n:Nat) (a:È),J[n]?=À a->aS[n]?=À a)(S:∀b o,h.get? b=À o->jZ o->b∉J->h'.get? b=À o/\b∉aS)(x:MR gg J h m a)(ha:∀o,h.get? a=À o->h'.get? a=À o):MR gg aS h' m a:=by
 apply MR.el x
 case lst=>intro _ _ hl hz hv;show .lst (hl.at ha) hz (hv.stepT hp S)
 case di=>intro _ _ hd he hv;show .di (kL hd ha) he (hv.stepT hp S)
 case ds=>intro _ _ hd he hv;show .ds (kL hd ha) he (hv.stepT hp S)
 case own=>intro _ _ ho;show .own (ha _ ho)
 case wd=>intro _ _ _ hn hw;show .wd (let ⟨o,es,ep,ho,r⟩:=hn;⟨o,es,ep,ha _ ho,r⟩) hw
 case exn=>intro _ _ _ _ _ ho h1 h2 h3 h4;show .exn (ha _ ho) h1 h2 h3 (hp _ _ h4)
 case tab=>
  intro _ _ ho ht hc
  show .tab (ha _ ho) ht λpos cv e=>by show Vd (hc pos cv e) λc' o vs t e1 e2 e3 e4 e5 e6=>?_;have k:=S _ _ e3 (.inr ⟨e4,vs,e5⟩) e2;show⟨c',o,vs,t,e1,k.2,k.1,e4,e5,e6⟩
theorem ar.keeps(R:ar gg J H h)(hk:∀b o,h.get? b=À o->h'.get? b=À o):ar gg J H h':=by have S:SE J h J h':=⟨λb o e z=>.inl (hk b o e),λb o e=>⟨o,hk b o e⟩,[],(Ĭ _).symm,λz ha=>(nomatch ha)⟩;show⟨λb o e=>hk b o (R.base b o e),R.fresh,R.len,R.nodup,λi a m h1 h2=>(R.objs i a m h1 h2).step R S λo e=>hk _ o e,R.tabs⟩
theorem SE.keeps(J:List È)(hk:∀b o,h.get? b=À o->h'.get? b=À o):SE J h J h':=
 ⟨λb o e z=>.inl (hk b o e),λb o e=>⟨o,hk b o e⟩,[],(Ĭ _).symm,λz ha=>(nomatch ha)⟩
theorem ar.other(R:ar gg J H h)(hL:L∉J)(hB:gg.B.get? L=Ã)
  (hk:∀b o,b≠L->h.get? b=À o->h'.get? b=À o) (ht:∀o,h.get? L=À o->¬ jZ o):ar gg J H h':=by
 show⟨λb o e=>hk b o (by rintro rfl;rw[hB]at e;show no e) (R.base b o e),R.fresh,R.len,R.nodup,λi a m h1 h2=>?_,R.tabs⟩;have Zl:a≠L:=by rintro rfl;show hL (ģ h1)
 show(R.objs i a m h1 h2).stepT (λz z e=>e) (λb o e hs hn=>⟨hk b o ?_ e,hn⟩) λo e=>hk _ o Zl e;rintro rfl;show ht o e hs
theorem ar.tabsOn{J t:List È}{H u:ag}{h:Ó}(R:ar gg J H h){j:Nat}{q:Str}{P:È}(hj:gg.tabs[j]?=À (q,P)):(J++t)[j]?=À P/\(H++u)[j]?=À (.tab q):=by show aQ (R.tabs j q P hj) λh1 h2=>⟨by rw[ϕ (Ğ.mp h1).1];show h1,by rw[ϕ (Ğ.mp h2).1];show h2⟩
theorem ar.more{J:List È}{H:ag}{h:Ó}{a:È}{m:bu}(R:ar gg J H h)(ha:a∉J)(hB:gg.B.get? a=Ã)(hm:MR gg J h m a)(hT:∀o,h.get? a=À o->¬ jZ o):ar gg (J++[a]) (H++[m]) h:=by
 have up:∀{m:bu} {b:È},MR gg J h m b->MR gg (J++[a]) h m b:=λx=>
  x.stepT (λn b e=>by rw[ϕ (Ğ.mp e).1];show e) (λb o e hc hn=>⟨e,λhm=>by
   show â (Ģ.mp hm) (λhm=>?_) (λhm=>?_)
   ·show hn hm
   ·simp at hm;subst hm;show hT o e hc⟩) λz e=>e
 show⟨R.base,λb hb=>?_,by simp [R.len],?_,λi b m' h1 h2=>?_,λj q P hj=>R.tabsOn hj⟩
 ·show â (Ģ.mp hb) (λhb=>?_) (λhb=>?_)
  ·show R.fresh b hb
  ·apply aY (W'.mp hb);show hB
 ·rw[ae1]
  show⟨R.nodup,by simp,λx hx y hy=>?_⟩;apply aY (W'.mp hy);rintro rfl;show ha hx
 ·by_cases hi:i<J.length
  ·rw[ϕ hi]at h1
   rw[ϕ (R.len▸hi)]at h2;show up (R.objs i b m' h1 h2)
  ·have jX:i=J.length:=by
    have:=(Ğ.mp h1).1
    simp at this;show Ů (ϋ this) (ķ.mp hi)
   subst jX
   simp at h1
   rw[R.len]at h2;simp at h2;apply fR h1;subst h2;show up hm
theorem ar.moreOwn{J:List È}{H:ag}{aZ h:Ó}{a:È}{x y:Ä}(R:ar gg J H aZ)(hk:∀b o,aZ.get? b=À o->h.get? b=À o)(h0:aZ.get? a=Ã)(hB:gg.B.get? a=Ã)(ho:h.get? a=À {cls:=.type "tuple",data:=.seq #[x,y]}):
  ar gg (J++[a]) (H++[.own]) h/\SE J aZ (J++[a]) h:=by
 have zD:a∉J:=λhm=>by show ä (R.live hm) λo' e=>?_;rw[h0]at e;show no e
 have S:SE J aZ (J++[a]) h:=⟨λb o e z=>.inl (hk b o e),λb o e=>⟨o,hk b o e⟩,[a],rfl,λb hb=>by apply aY (W'.mp hb);show h0⟩;show⟨⟨λb o e=>hk b o (R.base b o e),λb hb=>?_,by simp [R.len],?_,λi b m' h1 h2=>?_,λj q P hj=>R.tabsOn hj⟩,S⟩
 ·show â (Ģ.mp hb) (λhb=>?_) (λhb=>?_)
  ·show R.fresh b hb
  ·simp at hb;apply aY hb;show hB
 ·rw[ae1]
  show⟨R.nodup,by simp,λx hx y hy=>?_⟩;apply aY (W'.mp hy);rintro rfl;show zD hx
 ·by_cases hi:i<J.length
  ·rw[ϕ hi]at h1
   rw[ϕ (R.len▸hi)]at h2;show(R.objs i b m' h1 h2).step R S λo e=>hk _ o e
  ·have jX:i=J.length:=by
    have:=(Ğ.mp h1).1
    simp at this;show Ů (ϋ this) (ķ.mp hi)
   subst jX
   simp at h1
   rw[R.len]at h2;simp at h2;apply fR h1;subst h2;show .own ho
theorem ar.put{J:List È}{H:ag}{h h':Ó}{a:È}{r:Nat}{m KZ:bu}(R:ar gg J H h)(hr:J[r]?=À a)(aZ:H[r]?=À KZ)
  (hs:∀b o,b≠a->h.get? b=À o->h'.get? b=À o) (hm:MR gg J h' m a) (MT:∀q,KZ=.tab q->m=.tab q):ar gg J (H.set r m) h':=by
 have od:a∈J:=ģ hr;show⟨λb o e=>hs b o (by rintro rfl;rw[R.fresh _ od]at e;show no e) (R.base b o e),R.fresh,by simp [R.len],R.nodup,λi b m' h1 h2=>?_,λj q P hj=>?_⟩
 rotate_left
 ·show aQ (R.tabs j q P hj) λh1 h2=>⟨h1,?_⟩
  by_cases hjr:r=j
  ·subst hjr
   rw[acS (Ğ.mp aZ).1,MT q (sm (aZ.symm.trans h2))]
  ·rw[ab6 hjr];show h2
 by_cases hi:i=r
 ·subst hi
  apply fR (sm ((hr).symm.trans h1));rw[acS (Ğ.mp aZ).1]at h2;cases h2;show hm
 ·rw[ab6 (Ne.symm hi)]at h2
  have hb:b≠a:=by rintro rfl;show hi (w9 R.nodup h1 hr)
  show(R.objs i b m' h1 h2).stepT (λz z e=>e) (λc o e hc hn=>⟨hs c o ?_ e,hn⟩) λo e=>hs _ o hb e;rintro rfl;show hn od
theorem SE.put(ha:a∈J)(hs:Heap.SameBut a h h')(hd:∃o,h'.get? a=À o):SE J h J h':=
 ⟨λb o e hb=>.inl (hs.extBut b o (by rintro rfl;show hb ha) e),λb o e=>by
  by_cases hb:b=a
  ·apply aY hb;show hd
  ·show⟨o,hs.extBut b o hb e⟩,[],(Ĭ _).symm,λz hm=>(nomatch hm)⟩
theorem bK.refl(s:Å):bK s s:=⟨N,N,N⟩
theorem bK.trans(x:bK s s')(y:bK s' o8):bK s o8:=⟨y.1.trans x.1,y.2.1.trans x.2.1,y.2.2.trans x.2.2⟩
inductive QD(J:List È)(s:Å)(l:List V)(ae:ag)(vs:List Ä)(s':Å):Prop
 |mk (aS:List È) (S:SE J s.heap aS s'.heap) (R:ar gg aS ae s'.heap) (V:bv gg aS s'.heap l vs) (T:bK s s'):QD J s l ae vs s'
inductive Cj(J:List È)(s:Å)(b:Bool)(ae:ag)(b':Bool)(s':Å):Prop
 |mk (e:b'=b) (aS:List È) (S:SE J s.heap aS s'.heap) (R:ar gg aS ae s'.heap) (T:bK s s'):Cj J s b ae b' s'
theorem Cj.el{J:List È}{s:Å}{b:Bool}{ae:ag}{b':Bool}{s':Å}{C:Prop}(x:Cj J s b ae b' s')(k:b'=b->∀aS,SE J s.heap aS s'.heap->ar gg aS ae s'.heap->bK s s'->C):C:=Cj.casesOn (motive:=λz=>C) x k
end L.Lake
namespace L.Lake
open PySem PyProof.Rows PySem.Calls
def QL(Z:Env):Prop:=Od gg Z.qual Z.code
noncomputable def bw(A:Ñ):List Env:=A.frames.getD []
def sh(fr:List Env)(J:List È)(h:Ó):Prop:=∀e∈fr,e.scope.kind≠.module/\∃L o es ep,e.frame=À L/\h.get? L=À o/\o.data=.dict es ep/\L∉J/\gg.B.get? L=Ã
theorem sh.to(x:sh fr J h)(hd:∀L o es ep,h.get? L=À o->o.data=.dict es ep->L∉J->(∃o' OF OD,h'.get? L=À o'/\o'.data=.dict OF OD)/\L∉aS):sh fr aS h':=λe he=>by obtain ⟨h1,L,o,es,ep,h2,h3,h4,h5,h6⟩:=x e he;show aQ (hd L o es ep h3 h4 h5) λk8 k3=>?_;show oN k8 λo' OF OD k1 k2=>?_;show⟨h1,L,o',OF,OD,h2,k1,k2,k3,h6⟩
section
variable{A:Ñ}
theorem qz(h:f∈bw (A.deeper Z)):f=Z\/f∈bw A:=by
 have h:f∈(A.frames.map (Z::·)).getD []:=h;unfold bw;cases e:A.frames with
 |none=>rw[e]at h;show nomatch h
 |some l=>rw[e]at h;show ą.mp h
theorem OL(hl:A.frames=À l)(h:f∈bw A):f∈bw (A.deeper Z):=by show f∈(A.frames.map (Z::·)).getD [];unfold bw at h;rw[hl]at h ⊢;show J' _ h
end
theorem gK.isD(x:gK h b o)(hd:o.data=.dict es ep):∃o' OF OD,h.get? b=À o'/\o'.data=.dict OF OD:=by
 rcases x with x|⟨_,sl,x⟩
 ·show⟨o,es,ep,x,hd⟩
 ·show⟨_,es,ep,x,hd⟩
structure eQ(fr:List Env)(J:List È)(Z:Env)(O:List (Str×Nat))(U:aJ)(h:Ó):Prop where
 kind:Z.scope.kind=.function
 glob:Z.globals=Ü
 blt:Z.builtins=Ą
 ns:∃m,h.Ns Z.locals m/\∀x i v,O.lookup x=À i->Z.kindOf x=À .local->U i=À v->∃a,m x=À a/\VR gg J h v a
 cells:∀x i,O.lookup x=À i->(Z.kindOf x=À .cell\/Z.kindOf x=À .free)->∃c u,Z.cells.lookup x=À c/\h.IsCell c u/\∀v,U i=À v->∃a,u=À a/\VR gg J h v a
 locN:Z.locals∉J
 locB:gg.B.get? Z.locals=Ã
 cellF:∀x c,Z.cells.lookup x=À c->(∃u,h.IsCell c u)/\c∉J/\c≠Z.locals/\gg.B.get? c=Ã
 cellI:∀x y c,Z.cells.lookup x=À c->Z.cells.lookup y=À c->x=y
 slots:∀x y i,O.lookup x=À i->O.lookup y=À i->x=y
 tab:fZ Z.scope=Æ->QL Z
 stk:sh fr J h
def FM(J:List È)(Z:Env)(b:È):Prop:=b∈J\/b=Z.locals\/∃x,Z.cells.lookup x=À b
def NM(Z:Env)(x:Str)(b:È):Prop:=b=Z.locals\/Z.cells.lookup x=À b
theorem Ns.noSeq{h:Ó}{L:È}{m:Str->Option Ä}(hn:h.Ns L m):∀o,h.get? L=À o->¬ jZ o:=by
 show tX hn λo' es ep ho hd z=>?_;rintro o e (⟨_,_,_,q⟩|⟨_,_,q⟩)
 ·rw[ho]at e;cases e;show nomatch hd.symm.trans q
 ·rw[ho]at e;cases e;show nomatch hd.symm.trans q
theorem ES.noSeq{h:Ó}{c:È}{u:Option Ä}(hc:h.IsCell c u):∀o,h.get? c=À o->¬ jZ o:=by
 show aE hc λo' ho hd=>?_;rintro o e (⟨_,_,_,q⟩|⟨_,_,q⟩)
 ·rw[ho]at e;cases e;show nomatch hd.symm.trans q
 ·rw[ho]at e;cases e;show nomatch hd.symm.trans q
section
variable{A:Ñ}{J aS:List È}{H ae:ag}{Z:Env}{O:List (Str×Nat)}{U:aJ}{h h':Ó}
theorem eQ.step(F:eQ (bw A) J Z O U h)(R:ar gg J H h)(S:SE J h aS h'):eQ (bw A) aS Z O U h':=by
 show aE F.ns λm hn hm=>?_
 have wS:∀c,c∉J->∀u,h.IsCell c u->h'.IsCell c u:=λc hc u x=>by show aE x λo ho hd=>⟨o,(S.pres _ _ ho hc).of (λes ep q=>nomatch hd.symm.trans q),hd⟩
 show⟨F.kind,F.glob,F.blt,⟨m,?_,λx i v a b c=>?_⟩,λx i a b=>?_,?_,F.locB,λx c e=>?_,F.cellI,F.slots,F.tab,F.stk.to λL o es ep h1 h2 h3=>⟨(S.pres _ _ h1 h3).isD h2,S.notin h1 h3⟩⟩
 ·show gK.ns hn λo e=>S.pres _ _ e F.locN
 ·show aE (hm x i v a b c) λy h1 h2=>⟨y,h1,h2.step R S⟩
 ·show fQ (F.cells x i a b) λc u h1 h2 h3=>⟨c,u,h1,wS c (F.cellF x c h1).2.1 u h2,λv hv=>aE (h3 v hv) λy h4 h5=>⟨y,h4,h5.step R S⟩⟩
 ·show oN hn λo es ep ho r=>S.notin ho F.locN
 ·show JP (F.cellF x c e) λk9 h1 h2 h3=>?_;show ä k9 λu hu=>?_
  show⟨⟨u,wS c h1 u hu⟩,?_,h2,h3⟩;show aE hu λo ho hd=>S.notin ho h1
inductive Jb(fr:List Env)(J:List È)(Z:Env)(O:List (Str×Nat))(s:Å)(aU:aJ)(ae:ag)(s':Å):Prop
 |mk (aS:List È) (S:cX (FM J Z) J s.heap aS s'.heap) (R:ar gg aS ae s'.heap) (F:eQ fr aS Z O aU s'.heap) (T:bK s s'):Jb fr J Z O s aU ae s'
theorem Jb.el{fr:List Env}{J:List È}{Z:Env}{O:List (Str×Nat)}{s:Å}{aU:aJ}{ae:ag}{s':Å}{C:Prop}(x:Jb fr J Z O s aU ae s')(k:∀aS,cX (FM J Z) J s.heap aS s'.heap->ar gg aS ae s'.heap->eQ fr aS Z O aU s'.heap->bK s s'->C):C:=Jb.casesOn (motive:=λz=>C) x k
theorem cX.ofSE(S:SE J h aS h')(Z:Env):cX (FM J Z) J h aS h':=⟨λb o e hb=>S.pres b o e λx=>hb (.inl x),S.dom,S.ext⟩
theorem FM.trans(x:cX (FM J Z) J h aS h')(y:cX (FM aS Z) aS h' J'' qF):cX (FM J Z) J h J'' qF:=
 cX.trans x y (λk k k hb=>hb) λb o e hb q=>by
  show â q (λq=>?_) (λq=>?_)
  ·show x.notin e (λz=>hb (.inl z)) q
  ·show hb (.inr q)
end
def iJ(A:Ñ)(E:Ä->Å->Prop)(J:List È)(H:ag)(Z:Env)(O:List (Str×Nat))(U:aJ)(s:Å)(x:Str)(i:Nat)(v:V)(a:Ä)(Q:Unit->Å->Prop):Prop:=∀(F:eQ (bw A) J Z O U s.heap) (R:ar gg J H s.heap) (hx:O.lookup x=À i) (hk:Z.kindOf x=À .local\/Z.kindOf x=À .cell) (hv:VR gg J s.heap v a) (h:∀h' tk,cX (NM Z x) J s.heap J h'->ar gg J H h'->eQ (bw A) J Z O (cS U i v) h'->(∀{v:V} {a:Ä},VR gg J s.heap v a->VR gg J h' v a)->Q () {s with heap:=h',toks:=tk}),É mo A (storeName Z x a) Q E s
namespace store_nameH
def kc:=hc (QN iJ) ({},λz z=>True,[],[],default,[],λz=>Ã,dS,default,0,.none,.none,λz z=>True)
def A:=kc.1
def E:=kc.2.1
def J:=kc.2.2.1
def H:=kc.2.2.2.1
def Z:=kc.2.2.2.2.1
def O:=kc.2.2.2.2.2.1
def U:=kc.2.2.2.2.2.2.1
def s:=kc.2.2.2.2.2.2.2.1
def x:=kc.2.2.2.2.2.2.2.2.1
def i:=kc.2.2.2.2.2.2.2.2.2.1
def v:=kc.2.2.2.2.2.2.2.2.2.2.1
def a:=kc.2.2.2.2.2.2.2.2.2.2.2.1
def Q:=kc.2.2.2.2.2.2.2.2.2.2.2.2
theorem kt:iJ A E J H Z O U s x i v a Q:=by
 intro F R hx hk hv h;show aE F.ns λm hn hm=>â hk (λhk=>?_) (λhk=>?_)
 ·show wpAny_storeName_local hk hn (λh' lV nO=>?_) (by rw[F.kind];rfl)
  have noSeq:=Ns.noSeq hn;have kp:∀b o,b≠Z.locals->s.heap.get? b=À o->h'.get? b=À o:=λb o hb e=>nO.extBut b o hb e;have up:∀{v:V} {a:Ä},VR gg J s.heap v a->VR gg J h' v a:=λx=>x.stepT (λk k e=>e) λb o e wN hn=>⟨kp b o (by rintro rfl;show noSeq o e wN) e,hn⟩;show h h' _ ⟨λb o e hb=>.inl (kp b o (λx=>hb (.inl x)) e),λb o e=>?_,[],(Ĭ _).symm,λk hm=>(nomatch hm)⟩ (R.other F.locN F.locB kp noSeq) ?_ up
  ·by_cases hb:b=Z.locals
   ·apply aY hb
    show oN lV λo' k k sU k=>⟨o',sU⟩
   ·show⟨o,kp b o hb e⟩
  ·show⟨F.kind,F.glob,F.blt,⟨_,lV,λy j w' hy un hj=>?_⟩,λy j hy un=>?_,F.locN,F.locB,λy c e=>?_,F.cellI,F.slots,F.tab,F.stk.to λL o es ep h1 h2 h3=>⟨?_,h3⟩⟩
   rotate_right
   ·by_cases hb:L=Z.locals
    ·show tX lV λo' OF OD sU jS k=>⟨o',OF,OD,hb▸sU,jS⟩
    ·show⟨o,es,ep,kp L o hb h1,h2⟩
   ·by_cases GJ:y=x
    ·subst GJ
     rw[hx]at hy;cases hy
     simp only[cS,if_true]at hj;cases hj
     show⟨a,by simp,up hv⟩
    ·have zy:j≠i:=λe=>GJ (F.slots y x i (e▸hy) hx)
     simp only[cS,if_neg zy]at hj
     show aE (hm y j w' hy un hj) λz h1 h2=>⟨z,by simp [GJ,h1],up h2⟩
   ·have GJ:y≠x:=by rintro rfl;rw[hk]at un;rcases un with q|q<;>cases q
    have zy:j≠i:=λe=>GJ (F.slots y x i (e▸hy) hx);show fQ (F.cells y j hy un) λc u h1 h2 h3=>⟨c,u,h1,?_,λw' hw=>?_⟩
    ·show aE h2 λo ho hd=>⟨o,kp c o (F.cellF y c h1).2.2.1 ho,hd⟩
    ·simp only[cS,if_neg zy]at hw
     show aE (h3 w' hw) λz h4 h5=>⟨z,h4,up h5⟩
   ·show JP (F.cellF y c e) λKy h1 h2 h3=>?_;show gm Ky λu o ho hd=>?_
    show⟨⟨u,o,kp c o h2 ho,hd⟩,h1,h2,h3⟩
 ·show fQ (F.cells x i hx (.inl hk)) λc u hc OR k=>JP (F.cellF x c hc) λk VC Zu zw=>wpAny_storeName_cell F.kind hk hc OR λh' ff nO=>?_
  have noSeq:=ES.noSeq OR;have kp:∀b o,b≠c->s.heap.get? b=À o->h'.get? b=À o:=λb o hb e=>nO.extBut b o hb e;have up:∀{v:V} {a:Ä},VR gg J s.heap v a->VR gg J h' v a:=λx=>x.stepT (λk k e=>e) λb o e wN hn=>⟨kp b o (by rintro rfl;show noSeq o e wN) e,hn⟩;show h h' _ ⟨λb o e hb=>.inl (kp b o (λy=>hb (.inr (y▸hc))) e),λb o e=>?_,[],(Ĭ _).symm,λk hm=>(nomatch hm)⟩ (R.other VC zw kp noSeq) ?_ up
  ·by_cases hb:b=c
   ·apply aY hb
    show aE ff λo' sU k=>⟨o',sU⟩
   ·show⟨o,kp b o hb e⟩
  ·show⟨F.kind,F.glob,F.blt,⟨m,?_,λy j w' hy un hj=>?_⟩,λy j hy un=>?_,F.locN,F.locB,λy d e=>?_,F.cellI,F.slots,F.tab,F.stk.to λL o es ep h1 h2 h3=>⟨⟨o,es,ep,kp L o ?_ h1,h2⟩,h3⟩⟩
   rotate_right
   ·rintro rfl
    show aE OR λo' sU jS=>?_;rw[h1]at sU;cases sU;show nomatch h2.symm.trans jS
   ·show oN hn λo es ep ho r=>⟨o,es,ep,kp _ o (Ne.symm Zu) ho,r⟩
   ·have GJ:y≠x:=by rintro rfl;rw[hk]at un;cases un
    have zy:j≠i:=λe=>GJ (F.slots y x i (e▸hy) hx)
    simp only[cS,if_neg zy]at hj
    show aE (hm y j w' hy un hj) λz h1 h2=>⟨z,h1,up h2⟩
   ·by_cases GJ:y=x
    ·subst GJ
     apply fR (sm ((hx).symm.trans hy));show⟨c,À a,hc,ff,λw' hw=>?_⟩
     simp only[cS,if_true]at hw;cases hw
     show⟨a,N,up hv⟩
    ·have zy:j≠i:=λe=>GJ (F.slots y x i (e▸hy) hx)
     show fQ (F.cells y j hy un) λd u' h1 h2 h3=>?_;have Tu:d≠c:=λe=>GJ (F.cellI y x c (e▸h1) hc);show⟨d,u',h1,?_,λw' hw=>?_⟩
     ·show aE h2 λo ho hd=>⟨o,kp d o Tu ho,hd⟩
     ·simp only[cS,if_neg zy]at hw
      show aE (h3 w' hw) λz h4 h5=>⟨z,h4,up h5⟩
   ·show JP (F.cellF y d e) λKz h1 h2 h3=>?_;show gm Kz λu' o ho hd=>?_
    by_cases Tu:d=c
    ·subst Tu
     show⟨⟨_,ff⟩,h1,h2,h3⟩
    ·show⟨⟨u',o,kp d o Tu ho,hd⟩,h1,h2,h3⟩
end store_nameH
theorem fL:iJ A E J H Z O U s x i v a Q:=hk (P:=QN iJ) store_nameH.kt (A,E,J,H,Z,O,U,s,x,i,v,a,Q)
section
variable{A:Ñ}{E:Ä->Å->Prop}{J:List È}{H:ag}{Z:Env}{O:List (Str×Nat)}{U:aJ}{s:Å}
theorem ja(G:fU gg cx fs mg mb)(F:eQ (bw A) J Z O U s.heap)(R:ar gg J H s.heap)(hx:Z.kindOf x=À .globalImplicit)(hd:(x==("__debug__":Str))=Ê)
  (hv:mg x=À v) (h:Q v s):É mo A (eval (.Name x pos) Z) Q E s:=
 Name_function_global F.kind hx (loadGlobal_global (by rw[F.glob];show G.gns.keeps R.base) hv h) hd
theorem cF(G:fU gg cx fs mg mb)(F:eQ (bw A) J Z O U s.heap)(R:ar gg J H s.heap)(hx:Z.kindOf x=À .globalImplicit)(hd:(x==("__debug__":Str))=Ê)
  (hp:x∈eZ) (hv:Ě x=À v) (h:Q v s):É mo A (eval (.Name x pos) Z) Q E s:=
 Name_function_global F.kind hx (loadGlobal_builtin (by rw[F.glob];show G.gns.keeps R.base) (G.prims x hp).1 (by rw[F.blt];show G.bns.keeps R.base) ((G.prims x hp).2.trans hv) h) hd
def aR(A:Ñ)(Z:Env)(O:List (Str×Nat))(e:Ô)(m:aJ->ag->Option (V×ag)):Prop:=
 ∀U H v ae,m U H=À (v,ae)->∀J s,ar gg J H s.heap->eQ (bw A) J Z O U s.heap->∀E,É mo A (eval e Z) (bA gg J s v ae) E s
def fA(A:Ñ)(Z:Env)(O:List (Str×Nat))(e:Ô)(m:aJ->ag->Option (Bool×ag)):Prop:=
 ∀U H b ae,m U H=À (b,ae)->∀J s,ar gg J H s.heap->eQ (bw A) J Z O U s.heap->∀E,É mo A (isTrue e Z (eval e Z)) (Cj J s b ae) E s
theorem bA.here(R:ar gg J H s.heap)(hv:VR gg J s.heap v a):bA gg J s v H a {s with toks:=tk}:=
 ⟨J,SE.refl _ _,R,hv,N,N,N⟩
theorem zK:∀{k:ć},GO k=Æ->k=.local\/k=.cell\/k=.free:=λ{k} h=>by cases k<;>first|exact .inl N|exact .inr (.inl N)|exact .inr (.inr N)|cases h
set_option tactic.hygienic true in
theorem rB{x:Str}{pos:Pos}{c:CE}{Á:ax}(G:fU gg cx fs mg mb)(hc:vY cx Z.scope O x=À c):aR A Z O (.Name x pos) (ab Á c):=by
 intro U H v ae he J s R F E;unfold vY at hc;split at hc
 ·show no hc
 ·rename_i hd
  simp only[Ϝ,not_or,aff]at hd
  show bT hc λk hk hc=>?_;by_cases hl:GO k=Æ
  ·rw[if_pos hl]at hc
   show bT hc λi hi hc=>?_;obtain rfl:=sm hc;show aE (ob he) λv' yt he=>?_;apply dD he;rcases zK hl with rfl|rfl|rfl
   ·show aE F.ns λm hn hm=>aE (hm x i _ hi hk yt) λa h1 h2=>wpAny_Name (wpAny_loadName_local F.kind hk hn h1 (bA.here R h2)) hd.1
   ·show fQ (F.cells x i hi (.inl hk)) λcl u h1 h2 h3=>aE (h3 _ yt) λa q2 h4=>?_;subst q2
    show wpAny_Name (wpAny_loadName_cell F.kind hk h1 h2 (bA.here R h4)) hd.1
   ·show fQ (F.cells x i hi (.inr hk)) λcl u h1 h2 h3=>aE (h3 _ yt) λa q2 h4=>?_;subst q2
    show wpAny_Name (wpAny_loadName_free F.kind hk h1 h2 (bA.here R h4) hd.2) hd.1
  ·rw[if_neg hl]at hc
   show dC hc λhg hc=>bT hc λi hi hc=>?_;obtain rfl:=sm hc;show aQ (nP he) λKA Sl=>(ä (G.consts x i hi) λt ht=>?_);apply fR KA;apply fR Sl;rw[beq_iff_eq.mp hg]at hk;show ja G F R hk hd.1 ht (bA.here R (.int i t))
end
section
variable{A:Ñ}{E:Ä->Å->Prop}{J:List È}{H:ag}{s:Å}
theorem kn(h:∀o,x=À o->False):x=Ã:=by
 cases x with
 |none=>rfl
 |some o=>show(h o N).elim
theorem hO{h:Ó}{T:È}(hs:h.objs.size<=T):h.get? T=Ã:=kn λo e=>ķ.mpr hs (ő e)
theorem aG(h:Ó):h.get? h.objs.size=Ã:=hO (đ _)
theorem bA.newL(R:ar gg J H s.heap)(hz:l.length<=aw+1)(hv:bv gg J s.heap l vs)(hk:∀b o,s.heap.get? b=À o->h'.get? b=À o)
  (hD:s.heap.get? D=Ã) (hl:h'.PlainList D vs.toArray):bA gg J s (.ref H.length) (H++[.lst l]) (.ref D) {s with heap:=h',toks:=tk}:=by
 have R':ar gg J H h':=R.keeps hk;have S:SE J s.heap J h':=SE.keeps J hk;have CY:D∉J:=λx=>(R.live x).elim λo ho=>no (hD.symm.trans ho);have Qa:gg.B.get? D=Ã:=kn λo e=>no (hD.symm.trans (R.base D o e));show⟨J++[D],⟨S.pres,S.dom,[D],N,λa ha=>?_⟩,R'.more CY Qa (.lst hl hz (hv.step R S)) (λo e=>by show ä hl λn ho=>?_;apply fR (sm ((ho).symm.trans e));show gT N),.ref ?_,N,N,N⟩
 ·apply aY (W'.mp ha);show hD
 ·rw[<-R.len];simp
theorem bA.newT(R:ar gg J H s.heap)(hz:l.length<=aw+1)(hv:bv gg J s.heap l vs)(hk:∀b o,s.heap.get? b=À o->h'.get? b=À o)
  (hD:s.heap.get? D=Ã) (hl:h'.IsTuple D vs.toArray):bA gg J s (.tup l) H (.ref D) {s with heap:=h',toks:=tk}:=
 have S:SE J s.heap J h':=SE.keeps J hk
 ⟨J,S,R.keeps hk,.tup hl hz (hv.step R S) (λx=>(R.live x).elim λo ho=>no (hD.symm.trans ho)),N,N,N⟩
theorem fY{h h':Ó}{D:È}(hk:∀b o,h.get? b=À o->h'.get? b=À o)(hD:h'.get? D=Ã):h.get? D=Ã:=kn λo e=>no (hD.symm.trans (hk D o e))
theorem ar.list(R:ar gg J H h)(hr:J[r]?=À a)(hl:lst H r=À l):∃vs,h.PlainList a vs.toArray/\bv gg J h l vs/\l.length<=aw+1:=by
 have:=R.objs r a _ hr (qP hl);cases this with
 |lst h1 hz h2=>show⟨_,h1,h2,hz⟩
theorem PG(l:List α)(n:Nat):Dy l n=(Ņ n l).flatten:=by
 induction n with
 |zero=>rfl
 |succ n ih=>simp [Dy,adZ,ih]
theorem bv.rep(x:bv gg J h l vs)(n:Nat):bv gg J h (Dy l n) (L.Lake.Dy vs n):=by
 induction n with
 |zero=>show .nil
 |succ n ih=>show x.append ih
set_option tactic.hygienic true in
theorem AN(h:x.natAbs<18446744073709551616):Builtin.Int.intBits x<=64:=by
 unfold Builtin.Int.intBits;split
 ·show ĥ _
 ·rename_i hx
  have h0:x.natAbs≠0:=by intro h';show hx (by simpa using h')
  have:x.natAbs.log2<64:=(Nat.log2_lt h0).mpr h;show this
set_option tactic.hygienic true in
theorem vI(hi:pr x=À i)(hx:VR gg J h x a):∃t,a=.int i t:=by
 revert hi;apply VR.el hx
 case int=>intro j t hi;show⟨t,by rw[sm hi]⟩
 all_goals (intros;rename_i hi;exact no hi)
set_option tactic.hygienic true in
theorem vB(hi:Ol x=À i)(hx:VR gg J h x a):a=.bool i:=by
 revert hi;apply VR.el hx
 case bool=>intro j hi;rw[sm hi]
 all_goals (intros;rename_i hi;exact no hi)
set_option tactic.hygienic true in
theorem vS(hi:Ct x=À i)(hx:VR gg J h x a):∃t,a=.str i t:=by
 revert hi;apply VR.el hx
 case str=>intro j t hi;show⟨t,by rw[sm hi]⟩
 all_goals (intros;rename_i hi;exact no hi)
set_option tactic.hygienic true in
theorem vR(hi:rN x=À i)(hx:VR gg J h x a):∃c,a=.ref c/\J[i]?=À c:=by
 revert hi;apply VR.el hx
 case ref=>intro n c hr hi;show⟨c,N,sm hi▸hr⟩
 all_goals (intros;rename_i hi;exact no hi)
theorem EO{C:Ä->Prop}(hi:pr x=À i)(hx:VR gg J h x a)(k:∀t,C (.int i t)):C a:=(vI hi hx).elim λt e=>aY e (k t)
theorem WV{C:Ä->Prop}(hi:Ct x=À i)(hx:VR gg J h x a)(k:∀t,C (.str i t)):C a:=(vS hi hx).elim λt e=>aY e (k t)
theorem Qw{C:Ä->Prop}(hi:rN x=À i)(hx:VR gg J h x a)(k:∀c,J[i]?=À c->C (.ref c)):C a:=(vR hi hx).elim λt e=>aY e.1 (k t e.2)
set_option tactic.hygienic true in
theorem vT(hi:Cu x=À i)(hx:VR gg J h x a):∃c vs,a=.ref c/\h.IsTuple c vs.toArray/\i.length<=aw+1/\bv gg J h i vs/\c∉J:=by
 revert hi;apply VR.el hx
 case tup=>intro l c vs h1 h2 h3 h4 hi;rw[<-sm hi];show⟨c,vs,N,h1,h2,h3,h4⟩
 all_goals (intros;rename_i hi;exact no hi)
theorem pi{h:Ó}{a:È}{vs:Array Ä}(x:h.IsTuple a vs):∃n d sl,h.get? a=À {cls:=.type "tuple",dict:=d,data:=.seq vs n,slots:=sl}:=by
 obtain ⟨⟨cls,d,data,sl⟩,ho,hc,n,hd⟩:=x
 simp only at hc hd
 subst hc hd;show⟨n,d,sl,ho⟩
theorem lZ{h:Ó}{a:È}{vs:Array Ä}(x:h.IsList a vs):∃n d sl,h.get? a=À {cls:=.type "list",dict:=d,data:=.seq vs n,slots:=sl}:=by
 obtain ⟨⟨cls,d,data,sl⟩,ho,hc,n,hd⟩:=x
 simp only at hc hd
 subst hc hd;show⟨n,d,sl,ho⟩
theorem gO(h:Ó)(vs:Array Ä):(h.push {cls:=.type "tuple",data:=.seq vs}).IsTuple h.objs.size vs:=⟨_,ŀ _ N,N,_,N⟩
theorem oY(h:Ó)(vs:Array Ä):(h.push {cls:=.type "list",data:=.seq vs}).PlainList h.objs.size vs:=⟨_,ŀ _ N⟩
theorem bv.nil_iff(x:bv gg J h l vs):vs=[]↔l=[]:=by cases x<;>simp
theorem kQ(h:q8 H l=À (v,ae)):l.length<=ê/\v=.tup l/\ae=H:=by show dC h λhz h=>?_;apply dD h;show⟨hz,N,N⟩
theorem gb(h:rQ H l=À (v,ae)):l.length<=ê/\v=.ref H.length/\ae=H++[.lst l]:=by show dC h λhz h=>?_;apply dD h;show⟨hz,N,N⟩
theorem Jp{l m:List V}{ta tb:È}{vs ws:List Ä}(hz:(l++m).length<=ê)(R:ar gg J H s.heap)(ht:s.heap.IsTuple ta vs.toArray)(TV:l.length<=aw+1)(hv:bv gg J s.heap l vs)(O1:ta∉J)(hu:s.heap.IsTuple tb ws.toArray)(TW:m.length<=aw+1)(hw:bv gg J s.heap m ws)(Ko:tb∉J):
  É mo A (Ļ .Add (.ref ta) (.ref tb)) (bA gg J s (.tup (l++m)) H) E s:=by
 have Se:=ź hz;show yT (pi ht) λn1 d1 s1 o1=>yT (pi hu) λn2 d2 s2 o2=>?_;rw[Ā,hv.length,hw.length]at hz;by_cases e1:vs=[]
 ·show PySem.concat_meets ⟨_,o1,N⟩ ⟨_,o2,N⟩ Ť seq_tuple_add PySem.F.slot_tuple_add PySem.F.entry_tuple_add (PySem.F.args_tuple_add_2 _ _)
   (tuple_addW0 _ _ vs.toArray ws.toArray n1 n2 d1 d2 s1 s2 (by simp [e1])) ⟨o1,o2,?_⟩
  have:l=[]:=hv.nil_iff.mp e1;apply aY this;show bA.here (tk:=s.toks) R (.tup hu TW hw Ko)
 ·by_cases e2:ws=[]
  ·show PySem.concat_meets ⟨_,o1,N⟩ ⟨_,o2,N⟩ Ť seq_tuple_add PySem.F.slot_tuple_add PySem.F.entry_tuple_add (PySem.F.args_tuple_add_2 _ _)
    (tuple_addW1 _ _ vs.toArray ws.toArray n1 n2 d1 d2 s1 s2 (by simpa using e1) (by simp [e2])) ⟨o1,o2,?_⟩
   have:m=[]:=hw.nil_iff.mp e2;apply aY this;rw[Ĭ];show bA.here (tk:=s.toks) R (.tup ht TV hv O1)
  ·show PySem.concat_meets ⟨_,o1,N⟩ ⟨_,o2,N⟩ Ť seq_tuple_add PySem.F.slot_tuple_add PySem.F.entry_tuple_add (PySem.F.args_tuple_add_2 _ _)
    (tuple_addW2 _ _ vs.toArray ws.toArray n1 n2 d1 d2 s1 s2 (by simpa using e1) (by simpa using e2) (by rw[Ū,Ū];show hz)) ⟨o1,o2,?_⟩
   rw[show vs.toArray++ws.toArray=(vs++ws).toArray from by simp];show bA.newT R Se (hv.append hw) (λb o e=>O' _ e) (aG _) (gO _ _)
theorem Jn{i j:Nat}{l m:List V}{ta tb:È}(hz:(l++m).length<=ê)(R:ar gg J H s.heap)(hi:J[i]?=À ta)(hj:J[j]?=À tb)(h1:lst H i=À l)(h2:lst H j=À m):
  É mo A (Ļ .Add (.ref ta) (.ref tb)) (bA gg J s (.ref H.length) (H++[.lst (l++m)])) E s:=by
 have Se:=ź hz;show eJ (R.list hi h1) λvs hl hv z=>eJ (R.list hj h2) λws hm hw z=>yT (lZ hl.isList) λn1 d1 s1 o1=>yT (lZ hm.isList) λn2 d2 s2 o2=>?_;rw[Ā,hv.length,hw.length]at hz
 show PySem.concat_meets ⟨_,o1,N⟩ ⟨_,o2,N⟩ noFill_list_add seq_list_add PySem.F.slot_list_add PySem.F.entry_list_add (PySem.F.args_list_add_2 _ _)
  (list_addW _ _ vs.toArray ws.toArray n1 n2 d1 d2 s1 s2 (by simpa using hz)) ⟨o1,o2,?_⟩
 rw[show vs.toArray++ws.toArray=(vs++ws).toArray from by simp];show bA.newL R Se (hv.append hw) (λb o e=>O' _ e) (aG _) (oY _ _)
theorem KW{i:Nat}{l:List V}{ta:È}{n:Int}{u:Tok}(hz:(Dy l n.toNat).length<=ê)(rO:0<=n)(yr:n<=100000)(RT:l.length<=100)(R:ar gg J H s.heap)(hi:J[i]?=À ta)(h1:lst H i=À l):
  É mo A (Ļ .Mult (.ref ta) (.int n u)) (bA gg J s (.ref H.length) (H++[.lst (Dy l n.toNat)])) E s:=by
 have Se:=ź hz;show eJ (R.list hi h1) λvs hl hv z=>yT (lZ hl.isList) λn1 d1 s1 o1=>?_;have hvl:=hv.length;have hs:vs.toArray.size*n.toNat<=10000000:=Nat.mul_le_mul (show vs.length<=100 from hvl▸RT) (aer.mpr yr);have hf:Builtin.List.listFitsIndex n=Æ:=Ł.mpr ⟨decide_eq_true (Ĵ (by decide) rO),decide_eq_true (acT yr (by decide))⟩
 show wpAny_binaryOp_repeat_ref (T := "list") (U := "int") (by decide) ⟨_,o1,N⟩ (λs'=>typeIs_int s' n u) noFill_list_mul PySem.F.fills_int_mul PySem.F.slot_int_rmul repeat_list PySem.F.slot_int_index.lookup
  (call_meets PySem.F.slot_int_rmul (typeIs_int s n u) PySem.F.entry_int_rmul (PySem.F.args_int_rmul_2 _ _) (lm_int_rmul_list_any n u _ vs.toArray n1 d1 s1)
   ⟨o1,N,⟨_,o1,N⟩,call_meets PySem.F.slot_list_mul ⟨_,o1,N⟩ PySem.F.entry_list_mul (PySem.F.args_list_mul_2 _ _)
    (lm_list_mul_any _ vs.toArray n1 d1 s1 n u (by rw[hf];show Ķ) (ķ.mpr (z' hs (by decide))) (λh=>absurd (of_decide_eq_true h) (ķ.mpr (z' hs (by decide)))))
    ⟨o1,?_⟩⟩)
 rw[listMul_foldl_if,show (vs.toArray.toList)=vs from N,<-PG];show bA.newL R Se (hv.rep _) (λb o e=>O' _ e) (aG _) (oY _ _)
theorem Jo{x y:V}{a b:Ä}{v:V}{ae:ag}(he:Ml x y H=À (v,ae))(R:ar gg J H s.heap)(hx:VR gg J s.heap x a)(hy:VR gg J s.heap y b):
  É mo A (Ļ .Add a b) (bA gg J s v ae) E s:=by
 revert he;apply VR.el hx
 case int=>
  intro i t he;show bT he λj hj he=>?_;apply EO hj hy;intro u;apply dD he;show PyProof.Rows.add_int (bA.here R (.int _ _))
 case str=>
  intro p t he;show bT he λq hq he=>?_;apply WV hq hy;intro u;show dC he λhz he=>?_;apply dD he;show PyProof.Rows.add_str (λt' tk=>bA.here R (.str _ _)) hz
 case tup=>
  intro _ _ _ ht TV hv O1 he;show bT he λm hm he=>MA (vT hm hy) λtb ws q3 hu TW hw Ko=>?_;apply aY q3;show im (kQ he) λhz q2 q3=>?_;apply aY q2;apply aY q3;show Jp hz R ht TV hv O1 hu TW hw Ko
 case ref=>
  intro _ _ hi he;show bT he λj hj he=>?_;apply Qw hj hy;intro tb hj;show ie he λl m h1 h2 he=>?_;show im (gb he) λhz q2 q3=>?_;apply aY q2;apply aY q3;show Jn hz R hi hj h1 h2
 case none=>intro he;show no he
 case bool=>intro _ he;show no he
 case ro=>intro _ _ _ _ _ _ he;show no he
theorem KY{x y:V}{a b:Ä}{v:V}{ae:ag}(he:Nl x y H=À (v,ae))(R:ar gg J H s.heap)(hx:VR gg J s.heap x a)(hy:VR gg J s.heap y b):
  É mo A (Ļ .Mult a b) (bA gg J s v ae) E s:=by
 show bT he λn hn he=>?_;apply EO hn hy;intro u;revert he;apply VR.el hx
 case int=>
  intro i t he;show dC he λhm he=>?_;apply dD he;show PyProof.Rows.mul_int (bA.here R (.int _ _)) ?_
  simp only[te,Ϝ,decide_eq_true_eq]at hm
  show â hm (λhm=>?_) (λhm=>?_)
  ·show IntMulOk.of_left (AN hm)
  ·show IntMulOk.of_right (AN hm)
 case tup=>intro _ _ _ _ _ _ _ he;show no he
 case ref=>
  intro _ _ hi he;show bT he λl hl he=>?_;obtain ⟨⟨h1,h2,h3⟩,he⟩:=cT he;show im (gb he) λhz q2 q3=>?_;apply aY q2;apply aY q3;show KW hz h1 h2 h3 R hi hl
 case none=>intro he;show no he
 case bool=>intro _ he;show no he
 case str=>intro _ _ he;show no he
 case ro=>intro _ _ _ _ _ _ he;show no he
theorem ut{f:Int->Int->Option Int}(he:Bi f x y H=À (v,ae))(hx:VR gg J s.heap x a)(hy:VR gg J s.heap y b)
  (k:∀i j z t u,f i j=À z->É mo A (Ļ op (.int i t) (.int j u)) (bA gg J s (.int z) H) E s):É mo A (Ļ op a b) (bA gg J s v ae) E s:=by
 show ie he λi j hi hj he=>?_;show bT he λz hz he=>?_;apply EO hi hx;intro t;apply EO hj hy;intro u;apply dD he;show k i j z t u hz
theorem zM{α:Type}{c:Prop}[Decidable c]{x:Option α}{r:α}(h:(if c then Ã else x)=À r):¬ c/\x=À r:=by
 by_cases hc:c
 ·rw[if_pos hc]at h;show no h
 ·rw[if_neg hc]at h;show⟨hc,h⟩
theorem Jy(he:mD op x y H=À (v,ae))(R:ar gg J H s.heap)(hx:VR gg J s.heap x a)(hy:VR gg J s.heap y b):
  É mo A (Ļ op a b) (bA gg J s v ae) E s:=by
 cases op with
 |Add=>show Jo he R hx hy
 |Mult=>show KY he R hx hy
 |Sub=>show ut he hx hy λi j z t u h=>by apply dJ h;show PyProof.Rows.sub_int (bA.here R (.int _ _))
 |FloorDiv=>
  show ut he hx hy λi j z t u h=>?_
  ·show aQ (zM h) λhm h=>?_
   apply dJ h
   simp only[not_or,ϖ]at hm
   show PyProof.Rows.floordiv_int hm.1 (bA.here R (.int _ _)) (.inl (PyProof.noPylong_small hm.2))
 |Mod=>
  show ut he hx hy λi j z t u h=>?_
  ·show aQ (zM h) λhm h=>?_
   apply dJ h;show PyProof.Rows.mod_int' hm (bA.here R (.int _ _))
 |_=>show no he
end
end L.Lake
namespace L.Lake
open PySem PyProof.Rows PySem.Calls PySem.SeqAt
structure i5(A:Ñ)(d:Nat):Prop where
 handled:A.handled=Ã
 depth:A.depth+d<=600
 units:A.units+3*d<=9000
section
variable{A:Ñ}{E:Ä->Å->Prop}{J:List È}{H:ag}{s:Å}
theorem oO{f:V->V->Option Bool}{P:Ä->Ä->Bool->Prop}{h:Ó}
  (hf:∀x y a b c,f x y=À c->VR gg J h x a->VR gg J h y b->P a b c) {l:List V}:∀{m:List V} {vs ws:List Ä} {c:Bool},qn f l m=À c->bv gg J h l vs->bv gg J h m ws ->
  ∃e:Nat->Bool,(∀(j:Nat) (h1:j<vs.length) (h2:j<ws.length),P vs[j] ws[j] (e j))/\c=((č (min vs.length ws.length)).all e&&vs.length==ws.length):=by
 induction l with
 |nil=>intro m vs ws c hc hv hw;rw[hv.nilE];show⟨λz=>Æ,λj h1=>absurd h1 (ack _),?_⟩;rw[<-sm hc,<-hw.length];cases m<;>rfl
 |cons x xs ih=>
  intro m vs ws c hc hv hw;show hv.consE λa us ev h1 hr=>?_;cases m with
  |nil=>rw[hw.nilE,ev];show⟨λz=>Æ,λj z h2=>absurd h2 (ack _),(sm hc).symm⟩
  |cons y ys=>
   show hw.consE λb ts ew h2 hs=>bT hc λp k1 hc=>bT hc λq k2 hc=>aE (ih k2 hr hs) λe he q3=>?_;rw[ev,ew,<-sm hc,q3];show⟨λj=>Nat.rec p (λj z=>e j) j,λj YZ Y3=>?_,?_⟩
   ·cases j with
    |zero=>show hf x y a b p k1 h1 h2
    |succ j=>show he j (acl YZ) (acl Y3)
   ·rw[Ϫ,Ϫ,Nat.succ_min_succ,aes,List.all_cons,List.all_map,Bool.and_assoc]
    congr 2
    show(decide_eq_decide.mpr Nat.succ_inj).symm
theorem NO{a n c:Nat}(h:a+n<c):a<c:=ų (Ō _ _) h
set_option tactic.hygienic true in
theorem tZ{n:Nat}(R:ar gg J H s.heap):∀{A:Ñ} {x y:V} {a b:Ä} {c:Bool},A.units+n<cLine->ED n x y=À c->VR gg J s.heap x a->VR gg J s.heap y b->EqAt A s a b c/\RcAt A s a b c/\RcNeAt A s a b (!c):=by
 induction n with
 |zero=>intro A x y a b c _ h;show no h
 |succ n ih=>
  intro A x y a b c hu h hx hy;revert h;apply VR.el hx
  case none=>
   intro h;revert h;apply VR.el hy
   case none=>intro h;apply dJ h;show⟨EqAt.same _,RcAt.none_none,RcNeAt.none_none⟩
   case int=>intro i t h;apply dJ h;show⟨EqAt.none_int _ _,RcAt.none_int _ _,RcNeAt.none_int _ _⟩
   case tup=>intro _ _ _ ht _ _ _ h;apply dJ h;show⟨EqAt.none_tuple ht (NO hu),RcAt.none_tuple ht (NO hu),RcNeAt.none_tuple ht (NO hu)⟩
   all_goals (intros;rename_i h;exact no h)
  case bool=>
   intro p h;revert h;apply VR.el hy
   case bool=>intro q h;apply dJ h;show⟨EqAt.bool_bool _ _,RcAt.bool_bool _ _,RcNeAt.bool_bool _ _⟩
   all_goals (intros;rename_i h;exact no h)
  case int=>
   intro i t h;revert h;apply VR.el hy
   case none=>intro h;apply dJ h;show⟨EqAt.int_none _ _,RcAt.int_none _ _,RcNeAt.int_none _ _⟩
   case int=>intro j u h;apply dJ h;show⟨EqAt.int_int _ _ _ _,RcAt.int_int _ _ _ _,RcNeAt.int_int _ _ _ _⟩
   all_goals (intros;rename_i h;exact no h)
  case str=>
   intro p t h;revert h;apply VR.el hy
   case str=>intro q u h;apply dJ h;show⟨EqAt.str_str _ _ _ _,RcAt.str_str _ _ _ _,RcNeAt.str_str _ _ _ _⟩
   all_goals (intros;rename_i h;exact no h)
  case tup=>
   intro l ta vs ht TV hv O1 h;revert h;apply VR.el hy
   case tup=>
    intro m tb ws X3 TW hw Ko h;show bT h λc' h h'=>dC h' λhc h'=>aE (oO (P:=λa b c=>EqAt A.in1 s a b c) (λx y a b c h1 h2 h3=>(ih (A:=A.in1) (ų (Ŏ (Ϸ ..)) hu) h1 h2 h3).1) h hv hw) λe he q3=>?_;apply dJ h';have gp:=RcAt.tuples (A:=A) (e:=e) ht X3 (NO hu) (λj h1 h2=>he j h1 h2);have Sq:=RcNeAt.tuples (A:=A) (e:=e) ht X3 (NO hu) (λj h1 h2=>he j h1 h2);rw[Ū,Ū,<-q3,hc]at gp Sq;show⟨?_,gp,Sq⟩;by_cases Gm:ta=tb
    ·rw[Gm];show EqAt.same _
    ·show EqAt.of_refs Gm gp
   all_goals (intros;rename_i h;exact no h)
  case ref=>intro _ _ _ h;show no h
  case ro=>intro _ _ _ _ _ _ h;show no h
end
section
variable{A:Ñ}{E:Ä->Å->Prop}{J:List È}{H:ag}{s:Å}
theorem Hd{i j:Nat}{ta tb:È}{l m:List V}{c:Bool}(he:(if l.length=m.length then (if l.length=0 then À Æ else JV l m) else À Ê)=À c)(hA:A.units+8<cLine)(R:ar gg J H s.heap)(hi:J[i]?=À ta)(hj:J[j]?=À tb)(h1:lst H i=À l)(h2:lst H j=À m):
  RcAt A s (.ref ta) (.ref tb) c/\RcNeAt A s (.ref ta) (.ref tb) (!c):=by
 have hu:A.units<cLine:=NO hA;show eJ (R.list hi h1) λvs hl Qm z=>eJ (R.list hj h2) λws hm X8 z=>?_;have hv:=Qm.length;have hw:=X8.length;by_cases cb:l.length=m.length
 ·rw[if_pos cb]at he
  have oV:vs.length=ws.length:=hv.symm.trans (cb.trans hw);by_cases h0:l.length=0
  ·rw[if_pos h0]at he
   apply dJ he;have IW:vs.toArray.size=0:=hv.symm.trans h0;show⟨RcAt.lists (A:=A) (e:=λz=>Æ) hl.isList hm.isList oV hu (λj h1 h2=>absurd h1 (by rw[IW];show ack _)) |> λk=>by simpa [IW] using k,RcNeAt.lists (A:=A) (e:=λz=>Æ) hl.isList hm.isList oV hu (λj h1 h2=>absurd h1 (by rw[IW];show ack _)) |> λk=>by simpa [IW] using k⟩
  ·rw[if_neg h0]at he
   show aE (oO (P:=λa b c=>EqAt A.in1 s a b c) (λx y a b c h1 h2 h3=>(tZ R (n:=6) (A:=A.in1) (š hA) h1 h2 h3).1) he Qm X8) λe XK q3=>?_;apply aY q3;have k1:=RcAt.lists (A:=A) (e:=e) hl.isList hm.isList (by simpa using oV) hu (λj h1 h2=>XK j (by simpa using h1) (by simpa using h2));have k2:=RcNeAt.lists (A:=A) (e:=e) hl.isList hm.isList (by simpa using oV) hu (λj h1 h2=>XK j (by simpa using h1) (by simpa using h2))
   simp only[Ū]at k1 k2
   simp only[oV,aet,beq_self_eq_true,Bool.and_true]at k1 k2 ⊢
   show⟨k1,k2⟩
 ·rw[if_neg cb]at he
  apply dJ he;have oV:¬ vs.length=ws.length:=λq=>cb (hv.trans (q.trans hw.symm));show⟨RcAt.lists_lengths hl.isList hm.isList (by simpa using oV) hu,RcNeAt.lists_lengths hl.isList hm.isList (by simpa using oV) hu⟩
set_option tactic.hygienic true in
theorem FY(he:oz H x y=À c)(hA:A.units+8<cLine)(R:ar gg J H s.heap)(hx:VR gg J s.heap x a)(hy:VR gg J s.heap y b):
  RcAt A s a b c/\RcNeAt A s a b (!c):=by
 have br:P8 x y=À c->RcAt A s a b c/\RcNeAt A s a b (!c):=λh=>(tZ R (n:=6) (š (š hA)) h hx hy).2;have hu:A.units<cLine:=NO hA;revert he br;apply VR.el hx
 case ref=>
  intro _ _ hi he br;show bT he λl hl he=>aE (R.list hi hl) λvs jd _=>?_;revert br he;apply VR.el hy
  case ref=>
   intro _ _ hj br he;show bT he λm hm he=>Hd he hA R hi hj hl hm
  case none=>intro br he;apply dJ he;show⟨RcAt.list_none jd.isList hu,RcNeAt.list_none jd.isList hu⟩
  case tup=>intro _ _ _ ht _ _ _ br he;apply dJ he;show⟨RcAt.list_tuple jd.isList ht hu,RcNeAt.list_tuple jd.isList ht hu⟩
  all_goals (intros;rename_i br he;exact no he)
 case none=>
  intro he br;revert he br;apply VR.el hy
  case ref=>
   intro _ _ hj he br;show bT he λm hm he=>?_;apply dJ he;show aE (R.list hj hm) λvs jd _=>⟨RcAt.none_list jd.isList hu,RcNeAt.none_list jd.isList hu⟩
  all_goals (intros;rename_i he br;exact br he)
 case tup=>
  intro _ _ _ ht hz hv _ he br;revert he br;apply VR.el hy
  case ref=>
   intro _ _ hj he br;show bT he λm hm he=>?_;apply dJ he;show aE (R.list hj hm) λvs jd _=>⟨RcAt.tuple_list ht jd.isList hu,RcNeAt.tuple_list ht jd.isList hu⟩
  all_goals (intros;rename_i he br;exact br he)
 all_goals (intros;rename_i he br;exact br he)
theorem Px(he:((oz H x y).bind λc=>À (!c))=À c)(hA:A.units+8<cLine)(R:ar gg J H s.heap)(hx:VR gg J s.heap x a)(hy:VR gg J s.heap y b):RcNeAt A s a b c:=by show bT he λd hd he=>?_;apply dJ he;show(FY hd hA R hx hy).2
theorem pN(he:qL f x y=À c)(hx:VR gg J s.heap x a)(hy:VR gg J s.heap y b)(h:Q (.bool c) s)
  (k:∀i j t u,Q (.bool (f i j)) s->É mo A (compareOp op (.int i t) (.int j u)) Q E s):É mo A (compareOp op a b) Q E s:=by
 show ie he λi j hi hj he=>?_;obtain rfl:=sm he;show ä (vI hi hx) λt q2=>?_;apply aY q2;show ä (vI hj hy) λu q2=>?_;apply aY q2;show k i j t u h
theorem Bm(hx:VR gg J h x a):(TX x=Æ/\a=.none)\/(TX x=Ê/\a≠.none):=by
 apply VR.el hx
 case none=>skip;show .inl ⟨N,N⟩
 all_goals (intros;exact .inr ⟨N,λe=>nomatch e⟩)
set_option tactic.hygienic true in
theorem Pg(he:Kw x y=À c)(hx:VR gg J s.heap x a)(hy:VR gg J s.heap y b)(h:Q (.bool c) s):É mo A (compareOp .Is a b) Q E s:=by
 revert he;apply VR.el hy
 case none=>
  intro he;obtain rfl:=sm he;rcases Bm hx with ⟨h1,rfl⟩|⟨h1,h2⟩
  ·rw[h1]at h;show is_none_none h
  ·rw[h1]at h;show is_none_ne h2 h
 all_goals (intros;rename_i he;exact no he)
set_option tactic.hygienic true in
theorem Dh(he:Nc x y=À c)(hx:VR gg J s.heap x a)(hy:VR gg J s.heap y b)(h:Q (.bool c) s):É mo A (compareOp .IsNot a b) Q E s:=by
 revert he;apply VR.el hy
 case none=>
  intro he;obtain rfl:=sm he;rcases Bm hx with ⟨h1,rfl⟩|⟨h1,h2⟩
  ·rw[h1]at h;show isnot_none_none h
  ·rw[h1]at h;show isnot_none_ne h2 h
 case bool=>
  intro q he;show bT he λp hp he=>?_;obtain rfl:=sm he;apply aY (vB hp hx);show wpAny_isNot_plain (by cases p<;>cases q<;>rfl) ?_;have:(!(Value.bool p==Value.bool q))=(p != q):=by cases p<;>cases q<;>rfl
  rw[this];show h
 all_goals (intros;rename_i he;exact no he)
theorem nX[DecidableEq κ](p:κ×β)(r:List (κ×β))(k:κ):dz (p::r) k=if p.1=k then À p.2 else dz r k:=rfl
theorem rM[DecidableEq κ]:∀{kvs:List (κ×Ä)},valueAt kvs k=dz kvs k:=λ{kvs}=>by
 induction kvs with
 |nil=>rfl
 |cons p r ih=>
  rw[nX,<-ih];unfold valueAt;rw[List.find?_cons];by_cases h:p.1=k
  ·rw[decide_eq_true h,if_pos h];rfl
  ·rw[decide_eq_false h,if_neg h]
theorem wc[DecidableEq κ]:∀{kvs:List (κ×Ä)},kvs.map (·.1)=l.map (·.1)->bv gg J h (l.map (·.2)) (kvs.map (·.2))->(dz l k=Ã->dz kvs k=Ã)/\∀v,dz l k=À v->∃a,dz kvs k=À a/\VR gg J h v a:=by
 induction l with
 |nil=>intro kvs hk _;rw[ad0.mp hk];show⟨λz=>rfl,λz h=>no h⟩
 |cons p l ih=>
  intro kvs hk hv;cases kvs with
  |nil=>show absurd hk.symm (aei _ _)
  |cons q kvs=>
   have hk:=List.cons.inj hk;rw[nX,nX,show q.1=p.1 from hk.1];by_cases hp:p.1=k
   ·rw[if_pos hp,if_pos hp];show⟨λh=>no h.symm,λv h=>⟨_,N,sm h▸hv.hd⟩⟩
   ·rw[if_neg hp,if_neg hp];show ih hk.2 hv.tl
theorem kK{κ:Type}[DecidableEq κ]{J:List È}{h:Ó}{l:List (κ×V)}{kvs:List (κ×Ä)}{k:κ}{v:V}(he:dz l k=À v)(hk:kvs.map (·.1)=l.map (·.1))(hv:bv gg J h (l.map (·.2)) (kvs.map (·.2))):∃a,valueAt kvs k=À a/\VR gg J h v a:=by rw[rM];show(wc hk hv).2 v he
theorem CJ{κ:Type}[DecidableEq κ]{J:List È}{h:Ó}{l:List (κ×V)}{kvs:List (κ×Ä)}{k:κ}(he:dz l k=Ã)(hk:kvs.map (·.1)=l.map (·.1))(hv:bv gg J h (l.map (·.2)) (kvs.map (·.2))):valueAt kvs k=Ã:=by rw[rM];show(wc hk hv).1 he
theorem pR{c:È}{r:Nat}{h:Ó}(jv:∃o,gg.B.get? û=À o)(R:ar gg J H h)(hr:J[r]?=À c):(c==û)=Ê:=jv.elim λo ho=>beq_eq_false_iff_ne.mpr λq=>no ((R.fresh _ (ģ hr)).symm.trans (q▸ho))
theorem GQ(R:ar gg J H s.heap)(hA:A.units+8<cLine){kb:List (Str×Ä)}{m:List (Str×V)}(hk:kb.map (·.1)=m.map (·.1))(hv:bv gg J s.heap (m.map (·.2)) (kb.map (·.2)))(l:List (Str×V)):∀{ka:List (Str×Ä)},ka.map (·.1)=l.map (·.1)->bv gg J s.heap (l.map (·.2)) (ka.map (·.2))->(∀p∈l,(dz m p.1).bind (P8 p.2)=À Æ)->PySem.W.KeqHits A.in1 s kb ka Æ:=by
 induction l with
 |nil=>intro ka h _ _;rw[ad0.mp h];show .nil
 |cons p l ih=>
  intro ka h1 h2 h3;cases ka with
  |nil=>show absurd h1.symm (aei _ _)
  |cons q ka=>have h1:=List.cons.inj h1;have hq:q.1=p.1:=h1.1;show bT (h3 p G') λw hw he=>aE (kK hw hk hv) λy hy hr=>.hit (k:=q.1) (v:=q.2) (e:=Æ) (b:=Æ) (by rw[hq];show hy) (tZ R (n:=6) (A:=A.in1) (š hA) he h2.hd hr).1 (ih h1.2 h2.tl λp hp=>h3 p (J' _ hp))
theorem JU(he:Rc H x y=À c)(hA:A.units+8<cLine)(jv:∃o,gg.B.get? û=À o)(R:ar gg J H s.heap)(hx:VR gg J s.heap x a)(hy:VR gg J s.heap y b)(h:Q (.bool c) s):É mo A (compareOp .Eq a b) Q E s:=by
 show ie he λi j hi hj he=>ie he λl m hl hm he=>?_;apply Qw hi hx;intro ta h1;apply Qw hj hy;intro tb h2;show @dC _ _ (_) _ _ _ he λhc he=>?_;cases R.objs _ _ _ h1 (mI hl) with
 |ds hd hk hv=>
  cases R.objs _ _ _ h2 (mI hm) with
  |ds jS jY rP=>show PySem.W.keq_eq (pR jv R h1) (pR jv R h2) hd jS (NO hA) (λz=>GQ R hA jY rP l hk hv hc.2) ?_;have e1:=congrArg ada hk;have e2:=congrArg ada jY;rw[H',H']at e1 e2;rw[e1,e2,hc.1,beq_self_eq_true];rw[<-sm he]at h;show h
theorem AV(he:sH op x y H=À c)(hA:A.units+8<cLine)(jv:∃o,gg.B.get? û=À o)(R:ar gg J H s.heap)(hx:VR gg J s.heap x a)(hy:VR gg J s.heap y b)
  (h:Q (.bool c) s):É mo A (compareOp op a b) Q E s:=by
 cases op with
 |Eq=>
  cases e:oz H x y with
  |some d=>show(FY (e.trans ((congrArg (afO · (Rc H x y)) e).symm.trans he)) hA R hx hy).1 gg.prog gg.w E Q h
  |none=>show JU ((congrArg (afO · (Rc H x y)) e).symm.trans he) hA jv R hx hy h
 |NotEq=>show(Px he hA R hx hy) gg.prog gg.w E Q h
 |Lt=>show pN he hx hy h λi j t u q=>PyProof.Rows.lt_int q
 |LtE=>show pN he hx hy h λi j t u q=>PyProof.Rows.le_int q
 |Gt=>show pN he hx hy h λi j t u q=>PyProof.Rows.gt_int q
 |GtE=>show pN he hx hy h λi j t u q=>PyProof.Rows.ge_int q
 |Is=>show Pg he hx hy h
 |IsNot=>show Dh he hx hy h
 |In=>show no he
 |NotIn=>show no he
theorem Bh(he:GM l y=À v)(hy:VR gg J s.heap y b):∃k u,b=.int k u/\0<=k/\l[k.toNat]?=À v:=by show bT he λk hk he=>?_;apply EO hk hy;intro u;show dC he λh0 he=>⟨k,u,N,h0,he⟩
theorem Mn(h0:0<=k)(h1:k.toNat<n):seqIndex? k n=À k.toNat:=by show (if (decide (0<=(if k<0 then k+n else k))&&decide ((if k<0 then k+n else k)<(n:Int)))=Æ then À (if k<0 then k+n else k).toNat else Ã)=_;rw[if_neg (ň.mpr h0)];show if_pos (Ł.mpr ⟨decide_eq_true h0,decide_eq_true ((afD h0).mp h1)⟩)
theorem Fa(h0:0<=k):-(2 ^ 63)<=k:=Ĵ (by decide) h0
theorem yF{k:Int}{n:Nat}(h0:0<=k)(h1:k.toNat<n)(hz:n<=aw+1):k<2 ^ 63:=(afD h0).mp (ĵ h1 (z' hz (by decide)))
theorem wQ{l:List V}{y:V}{ta:È}{vs:List Ä}{b:Ä}{v:V}(he:GM l y=À v)(R:ar gg J H s.heap)(ht:s.heap.IsTuple ta vs.toArray)(hz:l.length<=aw+1)(hv:bv gg J s.heap l vs)(hy:VR gg J s.heap y b):
  É mo A (getItem (.ref ta) b) (bA gg J s v H) E s:=by
 show fQ (Bh he hy) λk u q3 hk he=>(aE (hv.get he) λa h1 h2=>?_);apply aY q3;have cG:k.toNat<l.length:=(Ğ.mp he).1;show getItem_tuple (j:=k.toNat) ht (Fa hk) (yF hk cG hz) (Mn hk (aeS cG hv.length)) (Ž.trans h1) (bA.here (tk:=s.toks) R h2)
theorem wP(he:((pr y).bind λk=>if 0<=k/\k<4611686018427387904 then (p.cps[k.toNat]?).bind (λc=>À (.str ⟨#[c]⟩)) else Ã)=À v)(R:ar gg J H s.heap)(hy:VR gg J s.heap y b):
  É mo A (getItem (.str p t) b) (bA gg J s v H) E s:=by
 show bT he λk hk he=>?_;apply EO hk hy;intro u;show dC he λhk he=>bT he λc hc he=>?_;apply dJ he;show PySem.P.getItem_str (c:=c) (acF.mpr ⟨decide_eq_false (ň.mpr (Fa hk.1)),decide_eq_false (ad4.mpr (adg hk.2 (by decide)))⟩) ?_ (bA.here R (.str _ _));rw[Mn hk.1 (n:=p.length) (act.mp hc).1];show hc
theorem wO{r:Nat}{ta:È}{m:bu}{y:V}{b:Ä}{v:V}(he:Pe y m=À v)(R:ar gg J H s.heap)(hr:J[r]?=À ta)(hm:H[r]?=À m)(hy:VR gg J s.heap y b):
  (∃T id,s.TypeIs (.ref ta) T/\ă (.type T) "__getitem__" = pure (À (.builtin id)))/\É mo A (getItem (.ref ta) b) (bA gg J s v H) E s:=by
 revert he;apply MR.el (R.objs _ _ _ hr hm)
 case lst=>
  intro _ _ hl hz hv he;show fQ (Bh he hy) λk u q3 hk he=>(aE (hv.get he) λa h3 h4=>?_);apply aY q3;have cG:=(Ğ.mp he).1;show⟨⟨"list",_,hl.isList.typeIs,slot_list_getitem.lookup⟩,wpAny_getItem_list hl.isList hk (yF hk cG hz) (Ž.trans h3) (bA.here (tk:=s.toks) R h4)⟩
 case di=>
  intro _ _ hd hk hv he;show bT he λk jY he=>?_;apply EO jY hy;intro u;show aE (kK he hk hv) λa h3 h4=>⟨⟨"dict",_,hd.typeIs,slot_dict_getitem.lookup⟩,wpAny_getItem_of (intKind_is gg.prog gg.w k u) hd.mapOf h3 (bA.here R h4)⟩
 case ds=>
  intro _ _ hd hk hv he;show bT he λk jY he=>?_;apply WV jY hy;intro u;show aE (kK he hk hv) λa h3 h4=>⟨⟨"dict",_,hd.typeIs,slot_dict_getitem.lookup⟩,wpAny_getItem_of (strKind_is gg.prog gg.w k u) hd.mapOf h3 (bA.here R h4)⟩
 case own=>intro _ _ _ he;show no he
 case wd=>intro _ _ _ _ _ he;show no he
 case exn=>intro _ _ _ _ _ _ _ _ _ _ he;show no he
 case tab=>intro _ _ _ _ _ he;show no he
set_option tactic.hygienic true in
theorem Kt(he:lE x y H=À v)(R:ar gg J H s.heap)(hx:VR gg J s.heap x a)(hy:VR gg J s.heap y b):
  (∃T id,s.TypeIs a T/\ă (.type T) "__getitem__" = pure (À (.builtin id)))/\É mo A (getItem a b) (bA gg J s v H) E s:=by
 revert he;apply VR.el hx
 case tup=>intro _ _ _ ht hz hv _ he;show⟨⟨"tuple",_,ht.typeIs,PySem.F.slot_tuple_getitem.lookup⟩,wQ he R ht hz hv hy⟩
 case str=>intro p t he;show⟨⟨"str",_,typeIs_str s p t,PySem.F.slot_str_getitem.lookup⟩,wP he R hy⟩
 case ref=>
  intro _ _ hr he;show bT he λm hm he=>wO he R hr hm hy
 all_goals (intros;rename_i he;exact no he)
end
inductive jM:Ä->V->Prop
 |none:jM .none .none
 |int (k:Int) (t:Tok):jM (.int k t) (.int k)
set_option backward.match.sparseCases false in
noncomputable def gH:V->Option Int
 |.int k=>À k
 |_=>Ã
section
variable{A:Ñ}{E:Ä->Å->Prop}{J:List È}{H:ag}{s:Å}
theorem Pu(k:Int)(n:Nat)(hk:0<=k):min k (n:Int)=((min k.toNat n:Nat):Int):=
 (afE k.toNat n).elim (λh=>by rw[Ų h,Ϥ hk,acz (aer.mp h)]) (λh=>by rw[adh h,acp ((Int.le_toNat hk).mp h)])
theorem xV{j m n:Nat}(h:j-m=n)(hj:j<=n):j=n:=Ů hj (h▸Ŗ j m)
theorem Ok{lo:V}{i n:Nat}{stop:Option Int}(h:mW lo=À i):(Builtin.Slice.sliceAdjust (gH lo) stop 1 (n:Int)).1=((min i n:Nat):Int):=by
 cases lo with
 |none=>rw[<-sm h,afF];rfl
 |int k=>have z:=cT h;rw[<-sm z.2];show(if_neg (ň.mpr z.1.1)).trans (Pu k n z.1.1)
 |_=>show nomatch h
theorem Oj{hi:V}{j n:Nat}{start:Option Int}(h:lj n hi=À j):(Builtin.Slice.sliceAdjust start (gH hi) 1 (n:Int)).2=(j:Int):=by
 cases hi with
 |none=>rw[<-sm h];rfl
 |int k=>have z:=cT h;rw[<-sm z.2,ae2];show(if_neg (ň.mpr z.1.1)).trans (Pu k n z.1.1)
 |_=>show nomatch h
theorem Lc(a b:Nat):Builtin.Slice.slicePlaces (a:Int) (b:Int) 1=b-a:=by
 show (if (a:Int)<b then ((b:Int)-a-1) / 1+1 else 0).toNat=b-a;by_cases h:(a:Int)<b
 ·rw[if_pos h,ae3,acU];show aee b a
 ·rw[if_neg h];show(adK (Ş.mp (ň.mp h))).symm
theorem rk(ha:jM a v)(h:Q (gH v) s):É mo A (Builtin.Slice.slicePartIndex a) Q E s:=by
 cases ha with
 |none=>show slicePart_none h
 |int k t=>show slicePart_int h
theorem Jr{sl:È}{a b:Ä}{lo hi:V}{i j n:Nat}{Q:Int×Int×Nat->Å->Prop}(hs:s.heap.IsSliceOf sl a b .none)(ha:jM a lo)(hb:jM b hi)(jX:mW lo=À i)(hj:lj n hi=À j)
  (h:Q (((min i n:Nat):Int),1,j-min i n) s):É mo A (Builtin.Slice.sliceApplied (.ref sl) (pure (n:Int))) Q E s:=by
 show eJ (id hs) λos uo iC MN=>?_;unfold Builtin.Slice.sliceApplied Builtin.Slice.sliceFields;show Â (Â (Þ uo MN (x:=a) N (Â (Þ uo MN (x:=b) N (Â (Þ uo MN (x:=.none) N (Ç (Â (slicePart_none ?_)))))))));show É _ _ (if ((1:Int)==0)=Æ then _ else _) _ _ s;rw[if_neg (by decide)];show Â (rk ha (Â (rk hb (Â (Ç ?_)))));have e1:=Ok (n:=n) (stop:=gH hi) jX;have e2:=Oj (start:=gH lo) hj;show Ç ?_
 have gp:∀p:Int×Int,p.1=((min i n:Nat):Int)->p.2=(j:Int)->Q (p.1,(afk Ã (1:Int)),Builtin.Slice.slicePlaces p.1 p.2 (afk Ã (1:Int))) s:=by intro p h1 h2;rw[h1,h2,Option.getD_none,Lc];show h
 show gp _ e1 e2
theorem Hv(vs:List Ä)(a k:Nat):((č k).filterMap λ(x:Nat)=>vs.toArray[((a:Int)+(x:Int)*1).toNat]?)=(vs.drop a).take k:=by
 have e:(λ(x:Nat)=>vs.toArray[((a:Int)+(x:Int)*1).toNat]?)=λx=>vs.toArray[a+x]?:=by
  funext x
  have:((a:Int)+(x:Int)*1).toNat=a+x:=by rw[Ϲ];show ĭ (a+x)
  rw[this]
 have:=pick_run vs.toArray a k;rw[List.filterMap_map]at this;rw[e];show this
theorem tS(l:List α)(i j:Nat):oL l i j=(l.drop (min i l.length)).take (j-min i l.length):=by
 unfold oL;rw[afu];by_cases h:i<=l.length
 ·rw[Ų h]
 ·rw[adh (ī (ϖ.mp h)),adx (ī (ϖ.mp h)),adx (đ _)]
  simp
theorem A9(h:lj n hi=À j):j<=n:=by
 unfold lj at h;split at h
 ·cases h;show đ _
 ·split at h
  ·cases h;show acA _ _
  ·cases h
 ·cases h
end
def jG(A:Ñ)(E:Ä->Å->Prop)(J:List È)(H:ag)(s:Å)(t:È)(sl:È)(l:List V)(vs:List Ä)(a:Ä)(b:Ä)(lo:V)(hi:V)(i:Nat)(j:Nat):Prop:=∀(R:ar gg J H s.heap) (ht:s.heap.IsTuple t vs.toArray) (hz:l.length<=aw+1) (hv:bv gg J s.heap l vs) (MT:t∉J) (hs:s.heap.IsSliceOf sl a b .none) (ha:jM a lo) (hb:jM b hi) (jX:mW lo=À i) (hj:lj l.length hi=À j) (sW:(oL l i j).length<=aw),É mo A (getItem (.ref t) (.ref sl)) (bA gg J s (.tup (oL l i j)) H) E s
namespace tup_sliceH
def kc:=hc (yp jG) ({},λz z=>True,[],[],dS,0,0,[],[],.none,.none,.none,.none,0,0)
def A:=kc.1
def E:=kc.2.1
def J:=kc.2.2.1
def H:=kc.2.2.2.1
def s:=kc.2.2.2.2.1
def t:=kc.2.2.2.2.2.1
def sl:=kc.2.2.2.2.2.2.1
def l:=kc.2.2.2.2.2.2.2.1
def vs:=kc.2.2.2.2.2.2.2.2.1
def a:=kc.2.2.2.2.2.2.2.2.2.1
def b:=kc.2.2.2.2.2.2.2.2.2.2.1
def lo:=kc.2.2.2.2.2.2.2.2.2.2.2.1
def hi:=kc.2.2.2.2.2.2.2.2.2.2.2.2.1
def i:=kc.2.2.2.2.2.2.2.2.2.2.2.2.2.1
def j:=kc.2.2.2.2.2.2.2.2.2.2.2.2.2.2
theorem kt:jG A E J H s t sl l vs a b lo hi i j:=by
 intro R ht hz hv MT hs ha hb jX hj sW;show eJ (id hs) λos uo iC MN=>?_;have Zi:s.TypeIs (.ref sl) "slice" := ⟨os,uo,iC⟩;have cb:l.length=vs.length:=hv.length;unfold getItem
 try with_reducible refine ß ?_
 first|refine Â (Ç ?_)|skip
 show Â (wpAny_sequenceKey ht.typeIs (by decide) ?_)
 show Â (ñ (name:=ϻ "__getitem__") ht.typeIs PyProof.Rows.slot_tuple_getitem
  (þ PyProof.Rows.slot_tuple_getitem ht.typeIs PyProof.Rows.entry_tuple_getitem ?_ (PyProof.Rows.args_tuple_getitem _ _)))
 show É _ _ (Builtin.Tuple.tupleItemsOf (.ref t)>>=_) _ _ s;show Â (tupleItemsOf_ ht (Â (ŝ Zi ?_)));rw[if_pos (by decide)];have Sa:vs.toArray.size=l.length:=by simp [cb]
 rw[Sa];show Â (Jr hs ha hb jX hj ?_)
 have ML:bv gg J s.heap (oL l i j) ((vs.drop (min i l.length)).take (j-min i l.length)):=by rw[tS];show(hv.drop _).take _
 have rQ:É mo A.in1 (Builtin.Tuple.tupleExact (((č (j-min i l.length)).filterMap λ(k:Nat)=>vs.toArray[((min i l.length:Nat):Int)+(k:Int)*1 |>.toNat]?).toArray)>>=λx=>ret x)
   (λgw s'=>∃v,gw=.done (.ret v)/\bA gg J s (.tup (oL l i j)) H v s') (λz z=>False) s:=by
  rw[Hv];unfold Builtin.Tuple.tupleExact;show Â (ç (Ç ⟨_,N,?_⟩) ?_)
  ·show bA.newT R (ź sW) ML (λb o e=>O' _ e) (aG _) (gO _ _)
  ·show Array.size _<=ê
   rw[Ū,<-ML.length];show sW
 have WH:=Ï rQ (Q':=λgw s'=>∃v,gw=.done (.ret v)/\É mo A (pure v) (bA gg J s (.tup (oL l i j)) H) E s') (E':=E) (λgw s' ⟨v,h1,h2⟩=>⟨v,h1,Ç h2⟩) (λz z f=>f.elim);show É _ _ (if ((((min i l.length:Nat):Int)==0)&&((1:Int)==1)&&((j-min i l.length)==l.length))=Æ then _ else _) _ _ s;by_cases hc:((((min i l.length:Nat):Int)==0)&&((1:Int)==1)&&((j-min i l.length)==l.length))=Æ
 ·rw[if_pos hc]
  simp only[ō,beq_iff_eq]at hc
  have e0:min i l.length=0:=aeh.inj hc.1.1;have e1:j=l.length:=xV hc.2 (A9 hj);have e2:oL l i j=l:=by rw[tS,e0,e1];simp
  rw[e2];unfold Builtin.Tuple.tupleIsExact;show Â (Â (ŝ ht.typeIs (Ç ?_)));rw[if_pos (by decide)];show Â (ú (Â (Ç (Ç ⟨_,N,Ç (bA.here (tk:=s.toks) R (.tup ht hz hv MT))⟩))))
 ·rw[if_neg hc]
  show WH
end tup_sliceH
theorem Ec{lo hi:V}:jG A E J H s t sl l vs a b lo hi i j:=hk (P:=yp jG) tup_sliceH.kt (A,E,J,H,s,t,sl,l,vs,a,b,lo,hi,i,j)
section
variable{A:Ñ}{E:Ä->Å->Prop}{J:List È}{H:ag}{s:Å}
theorem xe(h:jM a v):∃p:Option (Int×Tok),a=partValue p/\p.map (·.1)=gH v:=by
 cases h with
 |none=>show⟨Ã,N,N⟩
 |int k t=>show⟨À (k,t),N,N⟩
theorem v6(k:Int)(n:Nat)(hk:0<=k):max 0 (min (if k<0 then k+(n:Int) else k) (n:Int))=((min k.toNat n:Nat):Int):=by rw[if_neg (ň.mpr hk),acM (Int.le_min.mpr ⟨hk,Ē n⟩)];show Pu k n hk
noncomputable def AS(v:Option Int)(d n:Int):Int:=match v with|none=>d|some i=>max 0 (min (if i<0 then i+n else i) n)
theorem JE{lo:V}{i:Nat}(n:Nat)(h:mW lo=À i):AS (gH lo) 0 n=((min i n:Nat):Int):=by
 cases lo with
 |none=>rw[<-sm h,afF];rfl
 |int k=>have z:=cT h;rw[<-sm z.2];show v6 k n z.1.1
 |_=>show nomatch h
theorem JD(h:lj n hi=À j):AS (gH hi) n n=(j:Int):=by
 cases hi with
 |none=>rw[<-sm h];rfl
 |int k=>have z:=cT h;rw[<-sm z.2,ae2];show v6 k n z.1.1
 |_=>show nomatch h
theorem Dx(i j:Nat):sliceRange (i:Int) (j:Int) 1=(č (j-i)).map λk=>i+k:=by
 unfold sliceRange;have h2:(1:Int) > 0:=by decide
 simp only[h2,if_true,ae3,ac']
 have hc:(if (i:Int)<(j:Int) then (j:Int)-(i:Int)+1-1 else 0).toNat=j-i:=by
  rw[adr];split
  ·show aee j i
  ·show(adK (Nat.le_of_not_lt λx=>‹¬_› (ŧ.mpr x))).symm
 rw[hc];show ύ λk z=>ĭ (i+k)
theorem xT{lo hi:V}{i j n:Nat}(jX:mW lo=À i)(hj:lj n hi=À j):Builtin.Str.strSliceIndices (gH lo) (gH hi) 1 n=(č (j-min i n)).map λk=>min i n+k:=by
 have e:Builtin.Str.strSliceIndices (gH lo) (gH hi) 1 n=sliceRange (AS (gH lo) 0 n) (AS (gH hi) n n) 1:=by cases gH lo<;>cases gH hi<;>rfl
 rw[e,JE n jX,JD hj];show Dx _ _
theorem D7:∀{n:Nat},n-m=n->m=0\/n=0:=by
 intro n h;cases m with
 |zero=>show .inl N
 |succ m=>
  cases n with
  |zero=>show .inr N
  |succ n=>show absurd (ϫ (ae4 n m▸Ŗ n m)) (h.symm▸Ţ _)
set_option tactic.hygienic true in
theorem D6{x:Str}{t:Tok}{sl:È}{a b:Ä}{lo hi:V}{i j:Nat}(R:ar gg J H s.heap)(hs:s.heap.IsSliceOf sl a b .none)(ha:jM a lo)(hb:jM b hi)
  (jX:mW lo=À i) (hj:lj x.length hi=À j) (sW:(⟨(oL x.cps.toList i j).toArray⟩:Str).length<=aw) :
  É mo A (getItem (.str x t) (.ref sl)) (bA gg J s (.str ⟨(oL x.cps.toList i j).toArray⟩) H) E s:=by
 show aE (xe ha) λp q2 hp=>?_;subst q2;show aE (xe hb) λq q2 hq=>?_;subst q2;show wpAny_getItem_str_slice (l:=p) (u:=q) (st:=Ã) hs N ?_
 have MV:slicePicked x p q Ã=(č (j-min i x.length)).map λk=>min i x.length+k:=by unfold slicePicked;rw[hp,hq];show xT jX hj
 have Wm:((slicePicked x p q Ã).filterMap (x.cps[·]?))=oL x.cps.toList i j:=by rw[MV,pick_run,tS];rfl
 have cb:(slicePicked x p q Ã).length=j-min i x.length:=by rw[MV];simp
 unfold sliceMade;rw[cb,Wm];split
 ·rename_i hc
  simp only[ō,beq_iff_eq]at hc
  have Qc:j-min i x.length=x.length:=by first|exact hc|exact hc.1|exact hc.2|exact hc.1.2|exact hc.2.1
  have e1:j=x.length:=xV Qc (A9 hj);have e0:min i x.length=0\/x.length=0:=D7 (e1▸Qc)
  have e2:oL x.cps.toList i j=x.cps.toList:=by
   rw[tS];have hl:x.cps.toList.length=x.length:=rfl;rw[hl];show â e0 (λe0=>?_) (λe0=>?_)
   ·rw[e0,e1,afv,ae5,<-hl,Ň]
   ·have:x.cps.toList=[]:=ϳ.mp (hl.trans e0)
    rw[this];simp
  rw[e2];show bA.here (tk:=s.toks) R (.str _ _)
 ·show⟨sW,bA.here R (.str _ _)⟩
end
noncomputable def m6:nT->List Ä->Sem Ä
 |.len,as=>Á (.builtin "len") as
 |.sum,as=>Á (.builtin "sum") as
 |.min2,as=>Á (.builtin "min") as
 |.max2,as=>Á (.builtin "max") as
 |.min1,as=>Á (.builtin "min") as
 |.max1,as=>Á (.builtin "max") as
 |.minD,as=>Á (.builtin "min") as [("default",.none)]
 |.tuple,as=>Á (.type "tuple") as
 |.list,as=>Á (.type "list") as
 |.str,as=>Á (.type "str") as
 |.int,as=>Á (.type "int") as
 |.isInt,as=>Á (.builtin "isinstance") (as++[.type "int"])
 |.isBool,as=>Á (.builtin "isinstance") (as++[.type "bool"])
 |.isTuple,as=>Á (.builtin "isinstance") (as++[.type "tuple"])
 |.isStr,as=>Á (.builtin "isinstance") (as++[.type "str"])
 |.isList,as=>Á (.builtin "isinstance") (as++[.type "list"])
 |.sorted,as=>Á (.builtin "sorted") as
section
variable{A:Ñ}{E:Ä->Å->Prop}{J:List È}{H:ag}{s:Å}
theorem bA.grown(R:ar gg J H s.heap)(hk:∀b o,s.heap.get? b=À o->h'.get? b=À o)(hv:VR gg J h' v a):bA gg J s v H a {s with heap:=h',toks:=tk}:=
 ⟨J,SE.keeps J hk,R.keeps hk,hv,N,N,N⟩
theorem Bk(x:ò vs ns):bv gg J h (ns.map .int) vs:=by
 induction x with
 |nil=>show .nil
 |cons n t r ih=>show .cons (.int n t) ih
theorem nH(he:cB l=À ns)(x:bv gg J h l vs):ò vs ns:=by
 induction l generalizing vs ns with
 |nil=>cases x;rw[<-sm he];show .nil
 |cons v l ih=>
  cases x with
  |cons hv hr=>show ie he λi ms hi hn he=>?_;show ä (vI hi hv) λt ht=>?_;rw[<-sm he,ht];show .cons i t (ih hn hr)
inductive iu(J:List È)(h:Ó)(a:È)(l:List V)(vs:List Ä):Prop
 |lst:h.IsList a vs.toArray->bv gg J h l vs->l.length<=aw+1->iu J h a l vs
 |tup:h.IsTuple a vs.toArray->bv gg J h l vs->l.length<=aw+1->iu J h a l vs
theorem iu.vrs(x:iu J h a l vs):bv gg J h l vs:=by cases x<;>assumption
theorem iu.len(x:iu J h a l vs):l.length<=aw+1:=by cases x<;>assumption
set_option tactic.hygienic true in
theorem HN(he:o9 H x=À (l,w))(R:ar gg J H h)(hx:VR gg J h x a):∃c vs,a=.ref c/\iu J h c l vs:=by
 revert he;apply VR.el hx
 case tup=>intro _ _ _ ht hz hv _ he;show aQ (nP he) λq1 _=>?_;apply fR q1;show⟨_,_,N,.tup ht hv hz⟩
 case ro=>
  intro _ _ _ hl hz hi he;show aQ (nP he) λq1 _=>?_;apply fR q1;show⟨_,_,rfl,.lst (hl.at λo e=>R.base _ o e) (Bk hi) (by simpa using hz)⟩
 case ref=>
  intro _ _ hr he;show bT he λl' jd he=>aQ (nP he) λq1 _=>?_;apply fR q1;show eJ (R.list hr jd) λvs hl hv hz=>⟨_,vs,N,.lst hl.isList hv hz⟩
 all_goals (intros;rename_i he;exact no he)
theorem m9(hh:A.handled=Ã)(hs:iu J s.heap c l vs)
  (h:∀I fp St h',Walks gg.prog gg.w A I fp [I] vs.length (λi v=>vs[i]?=À v) St->St 0 h'->(∀b∈fp,b<h'.objs.size)->s.heap.get? I=Ã->(∀b o,s.heap.get? b=À o->h'.get? b=À o)->Q (.ref I) {s with heap:=h'}) :
  É mo A (pyIter (.ref c)) Q E s:=by
 cases hs with
 |lst hl hv hz=>
  have cG:c<s.heap.objs.size:=by show aE hl λz e z=>?_;show ő e
  have W:=Walks.list (prog:=gg.prog) (w:=gg.w) hh s.heap.objs.size c (ń cG) vs.toArray
  simp only[Ū,Ž]at W
  have hb:∀b∈[s.heap.objs.size,c],b<(s.heap.push {cls:=.type "list_iterator",data:=.fields #[.ref c,.int 0 0]}).objs.size:=λb hb=>by
   rw[ϓ];show â (ą.mp hb) (λhb=>?_) (λhb=>?_)
   ·show hb▸ϊ _
   ·show(W'.mp hb)▸ach cG
  show į hl (h _ [s.heap.objs.size,c] _ _ W ⟨⟨_,ŀ _ N,N,N⟩,hl.push _⟩ hb (aG _) λb o e=>O' _ e)
 |tup ht hv hz=>
  have cG:c<s.heap.objs.size:=by show aE ht λz e z=>?_;show ő e
  have W:=Walks.tuple (prog:=gg.prog) (w:=gg.w) hh s.heap.objs.size c (ń cG) vs.toArray
  simp only[Ū,Ž]at W
  have hb:∀b∈[s.heap.objs.size,c],b<(s.heap.push {cls:=.type "tuple_iterator",data:=.fields #[.ref c,.int 0 0]}).objs.size:=λb hb=>by
   rw[ϓ];show â (ą.mp hb) (λhb=>?_) (λhb=>?_)
   ·show hb▸ϊ _
   ·show(W'.mp hb)▸ach cG
  show Ă ht (h _ [s.heap.objs.size,c] _ _ W ⟨⟨_,ŀ _ N,N,N⟩,ht.push _⟩ hb (aG _) λb o e=>O' _ e)
theorem dM(x:ò vs ns):∀{i:Nat} {v:Ä},vs[i]?=À v->∃t,v=.int (ns[i]?.getD 0) t:=by
 induction x with
 |nil=>show λh=>no h
 |cons n t r ih=>
  intro i v h;cases i with
  |zero=>show⟨t,(sm h).symm⟩
  |succ i=>show ih (i:=i) h
theorem Dv(ns:List Int)(k:Nat):k<=ns.length->preSum (λi=>ns[i]?.getD 0) k=(ns.take k).foldl (·+·) 0:=by
 induction k with
 |zero=>show λz=>rfl
 |succ k ih=>intro h;show preSum (λi=>ns[i]?.getD 0) k+ns[k]?.getD 0=_;rw[ih (Nat.le_of_succ_le h),ady,N' h,ac5];rfl
theorem qy{f:Int->Int->Int}{le:Int->Int->Prop}(rf:∀x,le x x)(tr:∀x y z,le x y->le y z->le x z)(hf:∀x y,(f x y=x\/f x y=y)/\le (f x y) x/\le (f x y) y):∀(ns:List Int) (x:Int),ns.foldl f x∈x::ns/\∀y∈x::ns,le (ns.foldl f x) y:=by
 intro ns
 induction ns with
 |nil=>show λx=>⟨G',λy hy=>W'.mp hy▸rf x⟩
 |cons y ns ih=>intro x;show aQ (ih (f x y)) λh1 h2=>im (hf x y) λq1 q2 q3=>?_;have h0:=h2 _ G';show⟨â (ą.mp h1) (λq=>?_) λq=>J' _ (J' _ q),λz hz=>â (ą.mp hz) (λq=>by rw[q];show tr _ _ _ h0 q2) λhz=>â (ą.mp hz) (λq=>by rw[q];show tr _ _ _ h0 q3) λhz=>h2 z (J' _ hz)⟩;rw[ϧ,q];show â q1 (λq=>by rw[q];show G') λq=>by rw[q];show J' _ G'
theorem Hg(x y:Int):(max x y=x\/max x y=y)/\x<=max x y/\y<=max x y:=⟨(acV y x).imp adn acM,ado x y,adP x y⟩
theorem Hk(x y:Int):(min x y=x\/min x y=y)/\min x y<=x/\min x y<=y:=⟨(acV x y).imp acz acp,acB x y,acq x y⟩
theorem Fb{ns:List Int}{m:Int}(hm:mX ns=À m):0<ns.length/\ns[Ĥ (λi j=>decide (ns[i]?.getD 0 > ns[j]?.getD 0)) (ns.length-1)]?=À m:=by
 cases ns with
 |nil=>show no hm
 |cons x r=>show⟨ż _,?_⟩;rw[<-sm hm];show aQ (qy (f:=max) (le:=λa b=>b<=a) Ŕ (λz z z h h'=>Ĵ h' h) Hg r x) λh1 h3=>ä (adb h1) λk h2=>?_;show aQ (argBest_gt (λi=>(x::r)[i]?.getD 0) ((x::r).length-1)) λb1 b2=>?_;generalize Ĥ (λi j=>decide ((x::r)[i]?.getD 0 > (x::r)[j]?.getD 0)) ((x::r).length-1)=q at b1 b2 ⊢;have hq:q<(x::r).length:=ϫ b1;have e1:(x::r)[q]?=À (x::r)[q]:=N' hq;have u2:=b2 k (ϋ (Ğ.mp h2).1);rw[h2,e1]at u2;rw[e1];show congrArg À (ņ (h3 _ (ŵ hq)) u2)
theorem vM{ns:List Int}{m:Int}(hm:gI ns=À m):0<ns.length/\ns[Ĥ (λi j=>decide (ns[i]?.getD 0<ns[j]?.getD 0)) (ns.length-1)]?=À m:=by
 cases ns with
 |nil=>show no hm
 |cons x r=>show⟨ż _,?_⟩;rw[<-sm hm];show aQ (qy (f:=min) (le:=λa b=>a<=b) Ŕ (λz z z=>Ĵ) Hk r x) λh1 h3=>ä (adb h1) λk h2=>?_;show aQ (argBest_lt (λi=>(x::r)[i]?.getD 0) ((x::r).length-1)) λb1 b2=>?_;generalize Ĥ (λi j=>decide ((x::r)[i]?.getD 0<(x::r)[j]?.getD 0)) ((x::r).length-1)=q at b1 b2 ⊢;have hq:q<(x::r).length:=ϫ b1;have e1:(x::r)[q]?=À (x::r)[q]:=N' hq;have u2:=b2 k (ϋ (Ğ.mp h2).1);rw[h2,e1]at u2;rw[e1];show congrArg À (ņ u2 (h3 _ (ŵ hq)))
theorem rg{h jw h':Ó}{I:È}(hI:h.get? I=Ã)(h1:∀b o,h.get? b=À o->jw.get? b=À o)(h2:∀b o,b∉[I]->jw.get? b=À o->h'.get? b=À o):∀b o,h.get? b=À o->h'.get? b=À o:=λb o e=>by
 show h2 b o (λhm=>?_) (h1 b o e)
 simp at hm
 subst hm;rw[hI]at e;cases e
theorem KN(R:ar gg J H s.heap)(hs:iu J s.heap c l vs):É mo A (Á (.builtin "len") [.ref c]) (bA gg J s (.int l.length) H) E s:=by
 have hl:l.length=vs.toArray.size:=hs.vrs.length;have hz:(vs.toArray.size:Int)<2 ^ 63:=ŧ.mpr (ų (hl▸hs.len) (by decide));have he:∀t tk,bA gg J s (.int l.length) H (.int vs.toArray.size t) {s with toks:=tk}:=λt tk=>hl▸bA.here R (.int _ _);cases hs with
 |lst h1 h2 h3=>show Calls.call_len_list h1 hz (he _ _)
 |tup h1 h2 h3=>show PyProof.Rows.len_tuple h1 hz (he _ _)
theorem LG{c:È}{l:List V}{vs:List Ä}{ns:List Int}(hh:A.handled=Ã)(R:ar gg J H s.heap)(hs:iu J s.heap c l vs)(hn:cB l=À ns):
  É mo A (Á (.builtin "sum") [.ref c]) (bA gg J s (.int (ns.foldl (·+·) 0)) H) E s:=by
 have hi:=nH hn hs.vrs;show call_sum_walkAnyS (m9 (A:=A.in1) hh hs λI fp St h' W fE Ki hI hk=>⟨I,fp,[I],_,vs.length,_,_,λi=>ns[i]?.getD 0,N,W.toS,fE,Ki,λi v hv=>dM hi hv,λs' t' hm=>?_⟩);rw[hi.length,Dv ns _ (đ _),Ň];have jY:=rg hI hk hm.heap;show⟨J,SE.keeps J jY,R.keeps jY,.int _ _,hm.gens,hm.drawn,hm.os⟩
theorem KQ{c:È}{l:List V}{vs:List Ä}{ns:List Int}{m:Int}(hh:A.handled=Ã)(R:ar gg J H s.heap)(hs:iu J s.heap c l vs)(hn:cB l=À ns)(hm:mX ns=À m):
  É mo A (Á (.builtin "max") [.ref c]) (bA gg J s (.int m) H) E s:=by
 have hi:=nH hn hs.vrs;show aQ (Fb hm) λh0 h1=>call_max_walk (m9 (A:=A.in1) hh hs λI fp St h' W fE Ki hI hk=>⟨I,fp,[I],vs.length,_,_,λi j=>decide (ns[i]?.getD 0 > ns[j]?.getD 0),N,W,fE,Ki,by rw[hi.length];show h0,CmpOf.ints_gt (λi=>ns[i]?.getD 0) (λi v hv=>dM hi hv),λv qF tk hv qG=>?_⟩);rw[hi.length]at hv;show ä (dM hi hv) λt q2=>?_;apply aY q2;rw[h1];show bA.grown R (rg hI hk qG) (.int _ _)
theorem KV{c:È}{l:List V}{vs:List Ä}{ns:List Int}{m:Int}(hh:A.handled=Ã)(R:ar gg J H s.heap)(hs:iu J s.heap c l vs)(hn:cB l=À ns)(hm:gI ns=À m):
  É mo A (Á (.builtin "min") [.ref c]) (bA gg J s (.int m) H) E s:=by
 have hi:=nH hn hs.vrs;show aQ (vM hm) λh0 h1=>call_min_walk (m9 (A:=A.in1) hh hs λI fp St h' W fE Ki hI hk=>⟨I,fp,[I],vs.length,_,_,λi j=>decide (ns[i]?.getD 0<ns[j]?.getD 0),N,W,fE,Ki,by rw[hi.length];show h0,CmpOf.ints_lt (λi=>ns[i]?.getD 0) (λi v hv=>dM hi hv),λv qF tk hv qG=>?_⟩);rw[hi.length]at hv;show ä (dM hi hv) λt q2=>?_;apply aY q2;rw[h1];show bA.grown R (rg hI hk qG) (.int _ _)
end
theorem Cm(a:Ä):argsOk "min" ⟨[a],[("default",.none)]⟩:=by unfold argsOk;kernel_rfl
section
variable{A:Ñ}{R:Result->Å->Prop}{I:È}{fp wr:List È}{n:Nat}{P:Nat->Ä->Prop}{St:Nat->Ó->Prop}
theorem Dr(W:Walks gg.prog gg.w A.in1 I fp wr n P St)(bt:Nat->Nat->Bool)(OQ:CmpOf gg.prog gg.w A.in1 .Lt P bt)(S:È)(MI:S∉fp):
  ∀(k j:Nat) (s:Å) (vb:Ä) (c:Nat),j+1+k=n->St (j+1) s.heap->P (Ĥ bt j) vb ->
  s.heap.get? S=À {cls:=.type "list",dict:=Ã,data:=.seq #[vb,vb] c,slots:=#[]} ->
  (∀v h' tk,P (Ĥ bt (n-1)) v->(∀b o,b∉wr->b≠S->s.heap.get? b=À o->h'.get? b=À o)->R (.ok (.ret v)) {s with heap:=h',toks:=tk}) ->
  ĝ mo A (.builtin "min.loop" ⟨[.ref I,.none,.ref S],[("default",.none)]⟩) R s:=by
 have Tt:S∉wr:=λh=>MI (W.sub _ h);have oW:(toString "min"++toString ".loop":String)="min.loop" := by decide
 intro k
 induction k with
 |zero=>intro j s vb c Kj fE Ts hS hR;have Kj:j+1=n:=Kj;show é F.entry_min_loop ?_;rw[Around.under_plainId F.plain_min_loop _];show É _ A.in1 (seqItems? (.ref S)>>=_) _ _ s;show Â (æ hS N ?_);show É _ A.in1 (tryCatch (Ĳ (.ref I)) _>>=_) _ _ s;show Â (Ħ (W.done s _ _ (Kj▸fE) λh' tk jY=>?_));have EF:=jY S _ Tt hS;show É _ A.in1 (ŏ S (λz=>#[])>>=_) _ _ _;show Â (Ć EF N (Â (ĕ (Ç (hR vb _ tk (by rw[<-Kj];show Ts) λb o EG IX e=>(Ϧ _ _ (Ne.symm IX)).trans (jY b o EG e))))))
 |succ k ih=>
  intro j s vb c hk fE Ts hS hR;have cG:j+1<n:=hk▸abQ (ż k);have hk:j+1+1+k=n:=(Ϸ (j+1) 1 k).trans hk;show é F.entry_min_loop ?_;rw[Around.under_plainId F.plain_min_loop _];show É _ A.in1 (seqItems? (.ref S)>>=_) _ _ s;show Â (æ hS N ?_);show É _ A.in1 (tryCatch (Ĳ (.ref I)) _>>=_) _ _ s;show Â (Ħ (W.item (j+1) s _ _ cG fE λv h' tk hP r5 jY=>?_));have EF:=jY S _ Tt hS;show É _ A.in1 (tryCatch (holding [v,v] (richCompare .Lt v vb>>=_)) _>>=_) _ _ _;show Â (Ħ (ß (Â (OQ (j+1) (Ĥ bt j) v vb _ _ _ hP Ts (Â (ß (ð (Â (ĕ (Ç ?_))))))))));cases hb:bt (j+1) (Ĥ bt j) with
  |true=>
   simp only[if_true]
   show Â (Ć EF N (Â (ĕ ?_)));rw[oW]
   show Ç ⟨Ĉ F.plain_min_loop _,ih (j+1) _ v _ hk (W.frame _ _ _ r5 λb Vs o e=>?_) (by simp only[Ĥ,hb,if_true];show hP) (ϟ _ EF rfl)
    λv' qF Iq EE Gx=>?_⟩
   ·show(Ϧ _ _ (λh:S=b=>MI (by rw[h];show Vs))).trans e
   ·show hR v' qF Iq EE λb o EG IX e=>Gx b o EG IX ((Ϧ _ _ (Ne.symm IX)).trans (jY b o EG e))
  |false=>
   simp only[abS,if_false]
   show Â (ĕ ?_);rw[oW];show Ç ⟨Ĉ F.plain_min_loop _,ih (j+1) _ vb c hk r5 (by simp only[Ĥ,hb,abS,if_false];show Ts) EF λv' qF Iq EE Gx=>?_⟩;show hR v' qF Iq EE λb o EG IX e=>Gx b o EG IX (jY b o EG e)
theorem z6(W:Walks gg.prog gg.w A.in1 I fp wr n P St)(bt:Nat->Nat->Bool)(OQ:CmpOf gg.prog gg.w A.in1 .Lt P bt)(S:È)(MI:S∉fp)(fE:St 0 s.heap)
  (hS:s.heap.get? S=À {cls:=.type "list",dict:=Ã,data:=.seq #[] c,slots:=#[]})
  (hR:∀v h' tk,(if n=0 then v=.none else P (Ĥ bt (n-1)) v)->(∀b o,b∉wr->b≠S->s.heap.get? b=À o->h'.get? b=À o)->R (.ok (.ret v)) {s with heap:=h',toks:=tk}) :
  ĝ mo A (.builtin "min.loop" ⟨[.ref I,.none,.ref S],[("default",.none)]⟩) R s:=by
 have Tt:S∉wr:=λh=>MI (W.sub _ h);have oW:(toString "min"++toString ".loop":String)="min.loop" := by decide
 show é F.entry_min_loop ?_;rw[Around.under_plainId F.plain_min_loop _];show É _ A.in1 (seqItems? (.ref S)>>=_) _ _ s;show Â (æ hS N ?_);show É _ A.in1 (tryCatch (Ĳ (.ref I)) _>>=_) _ _ s;show â (aeT n) (λhn=>?_) (λhn=>?_)
 ·subst hn
  show Â (Ħ (W.done s _ _ fE λh' tk jY=>Â (ú (Ç (hR .none h' tk (by rw[if_pos N]) λb o EG IX e=>jY b o EG e)))))
 ·show Â (Ħ (W.item 0 s _ _ hn fE λv h' tk hP r5 jY=>?_))
  have EF:=jY S _ Tt hS;show É _ A.in1 (ŏ S (λz=>#[v,v])>>=_) _ _ _;show Â (Ć EF N ?_);rw[oW];show Ç ⟨Ĉ F.plain_min_loop _,Dr W bt OQ S MI (n-1) 0 _ v _ (Nat.add_sub_of_le hn) (W.frame _ _ _ r5 λb Vs o e=>?_) hP (ϟ _ EF N) λv' qF Iq EE Gx=>?_⟩
  ·show(Ϧ _ _ (λh:S=b=>MI (by rw[h];show Vs))).trans e
  ·show hR v' qF Iq (by rw[if_neg (Ř hn)];show EE) λb o EG IX e=>Gx b o EG IX ((Ϧ _ _ (Ne.symm IX)).trans (jY b o EG e))
end
section
variable{A:Ñ}{E:Ä->Å->Prop}{J:List È}{H:ag}{s:Å}
theorem tO{id:String}{b:Đ}{E3:List Ä}{kw:List (Str×Ä)}{Q:Ä->Å->Prop}(hk:builtinKind id=Ã)(hp:plainId id=Æ)(hb:entryFor table id=À b)(ha:argsOk id ⟨E3,kw⟩)
  (hc:É mo A.in1 (b ⟨E3,kw⟩) (λgw s'=>match gw with
   |.done f=>(match (afP f:Result) with|.ok (.ret v)=>Q v s'|.ok _=>False|.error e=>E e s')
   |.again c'=>c'.quiet=Æ/\ĝ mo A c' (λr s'=>match r with|.ok (.ret v)=>Q v s'|.ok _=>False|.error e=>E e s') s') E s) :
  É mo A (Á (.builtin id) E3 kw) Q E s:=by
 show Ŝ (Č hp hb ?_)
 simp only[ÿ,hk]
 cases hsig:Manifest.signature? id with
 |none=>show Ç hc
 |some sig=>
  have ha':Bind.checkArgs id sig ⟨E3,kw⟩=pure ():=by simpa only [argsOk,hsig] using ha
  simp only[ha']
  show Ç hc
theorem Hi(hh:A.handled=Ã)(R:ar gg J H s.heap)(hs:iu J s.heap c l vs)(hn:cB l=À ns):
  É mo A (Á (.builtin "min") [.ref c] [("default",.none)]) (bA gg J s (dL (gI ns)) H) E s:=by
 have hi:=nH hn hs.vrs;have oW:(toString "min"++toString ".loop":String)="min.loop" := by decide
 show tO F.kind_min F.plain_min F.entry_min (Cm _) ?_;show É _ A.in1 (Builtin.Builtins.bindParams "min" ["key","default"] 0 ⟨[],[("default",.none)]⟩>>=_) _ _ s;show Â (wpAny_of_eq (show Builtin.Builtins.bindParams "min" ["key","default"] 0 ⟨[],[("default",.none)]⟩=pure [Ã,À .none] from N) (Â (Ç (Â (m9 (A:=A.in1) hh hs λI fp St h' W fE Ki hI hk=>Â (ç ?_))))));have MI:h'.objs.size∉fp:=λhm=>Ţ _ (Ki _ hm);rw[oW];show Ç ⟨Ĉ F.plain_min_loop _,z6 W (λi j=>decide (ns[i]?.getD 0<ns[j]?.getD 0)) (CmpOf.ints_lt (λi=>ns[i]?.getD 0) (λi v hv=>dM hi hv)) h'.objs.size MI (W.frame _ _ _ fE λb z o e=>O' _ e) (ŀ _ N) λv qF tk hP qG=>?_⟩;have I5:∀b o,s.heap.get? b=À o->qF.get? b=À o:=λb o e=>qG b o (λhm=>by rw[W'.mp hm,hI]at e;cases e) (ń (ő (hk b o e))) (O' _ (hk b o e));show bA gg J s (dL (gI ns)) H v _;by_cases h0:vs.length=0
 ·rw[if_pos h0]at hP
  apply aY hP;have:ns=[]:=ϳ.mp (hi.length.symm.trans h0);apply aY this;show bA.grown R I5 .none
 ·rw[if_neg h0]at hP
  cases hm:gI ns with
  |none=>
   cases ns with
   |nil=>show absurd hi.length h0
   |cons _ _=>cases hm
  |some m=>show aQ (vM hm) λz h1=>?_;rw[hi.length]at hP;show ä (dM hi hP) λt q2=>?_;apply aY q2;rw[h1];show bA.grown R I5 (.int _ _)
end
section
variable{A:Ñ}{E:Ä->Å->Prop}{J:List È}{H:ag}{s:Å}
theorem Du(h:Pz H x=À (v,ae)):x.length<=ê/\v=.str x/\ae=H:=by show dC h λhz h=>?_;apply dD h;show⟨hz,N,N⟩
end
section
variable{A:Ñ}{E:Ä->Å->Prop}{s:Å}
theorem v9{T:String}{r d:È}{n:Nat}{P:Nat->Ä->Prop}{OK:Ó->Prop}{Q:List Ä->Å->Prop}(K:PySem.W.KdlSrc gg.prog gg.w T r d n P OK)(hh:A.handled=Ã)(pL:OK s.heap)(hn:n<=ê)
  (hQ:∀h' tk pn,(∀b o,s.heap.get? b=À o->h'.get? b=À o)->ItemsOf P pn n->Q pn.toList {s with heap:=h',toks:=tk}):É mo A (collect (.ref r)) Q E s:=by
 have cG:=K.there _ pL;unfold collect;show Â (wpAny_runValue (é F.entry_proto_collect ?_));rw[Around.under_plainId F.plain_proto_collect _];show É _ A.in1 (newList []>>=λl=>again (.builtin "list.__iadd__" ⟨[l,.ref r],[]⟩)) _ _ s;show Â (ç (Ç ⟨Ĉ F.plain_list_iadd _,é F.entry_list_iadd ?_⟩));rw[Around.under_plainId F.plain_list_iadd _];show É _ A.in1 (Builtin.List.listExtendWith (.ref s.heap.objs.size) (.ref r) (.ref s.heap.objs.size)) _ _ _
 show PySem.W.kdl_extend (A:=A) (R:=λr' s'=>match r' with
  |.ok (.ret v)=>É mo A (match v with
   |.ref a=>do match (<-load a).data with
    |.seq xs _=>pure xs.toList
    |_=>ğ "internal:collect"
   |_=>ğ "internal:collect") Q E s'
  |.ok _=>False
  |.error e=>E e s') K hh ?_ s.heap.objs.size (Ř cG.1) (Ř cG.2) _ 0 ?_ (λh' tk pn c' hk EF uh=>?_) hn
 ·show K.keep _ _ pL λb z o e=>O' _ e
 ·show ŀ _ N
 show É _ A (load s.heap.objs.size>>=_) _ _ _;show Â (wpAny_load EF ?_);show Ç (hQ h' tk pn (λb o e=>hk b o (ń (ő e)) (O' _ e)) uh)
theorem BW:∀(vs:List Ä) (kvs:List (Str×Ä)),vs.length=kvs.length->(∀(j:Nat) v,vs[j]?=À v->∃k x,kvs[j]?=À (k,x)/\Value.isStrOf k v=Æ)->StrsAre vs (kvs.map (·.1))
 |[],[],_,_=>.nil
 |[],_::_,h,_=>nomatch h
 |_::_,[],h,_=>nomatch h
 |v::vs,kv::kvs,h,hj=>by show gm (hj 0 v N) λk x e hk=>ä (Value.isStrOf_shape hk) λt q2=>?_;apply aY q2;have e:kv=(k,x):=Option.some.inj e;rw[e];show .cons k t (BW vs kvs (ad5.inj h) λj v e=>hj (j+1) v e)
theorem xB{Q:Ä->Å->Prop}(hh:A.handled=Ã)(hd:s.heap.DictOf (PySem.strKind gg.prog gg.w) d kvs)(lo:(d==û)=Ê)(Tp:kvs.length<64)
  (hQ:∀(h':Ó) (tk n:Nat) (D:È) (WW:List Ä) (NJ:List Str),(∀b o,s.heap.get? b=À o->h'.get? b=À o)->s.heap.get? D=Ã->h'.get? D=À (å "list" WW.toArray n)->StrsAre WW NJ->NJ.Perm (kvs.map (·.1))->sortedS NJ=Æ->Q (.ref D) {s with heap:=h',toks:=tk}) :
  É mo A (Á (.builtin "sorted") [.ref d]) Q E s:=by
 show ä hd.dictAt λep hm=>Calls.call_function_entry kind_sorted plain_sorted entry_sorted (args_sorted1 _) ?_;unfold Đ.«sorted»;show Â (m:=checkCount "sorted" 1 1 _) (Ç (Â (v9 (PySem.W.kdl_dict (knd:=PySem.strKind gg.prog gg.w) (kvs:=kvs) (ep:=ep) lo) hh hm (z' (ī Tp) (by decide)) λh' tk pn hk uh=>?_)));have hS:StrsAre pn.toList (kvs.map (·.1)):=BW _ _ (by rw[ž];show uh.1) λj v e=>uh.2 j v (by rw[<-ϰ];show e);have Vh:pn.toList.length<64:=by rw[ž,uh.1];show Tp
 show Â (wpAny_newList ?_);have Qh:(h'.push (å "list" pn.toList.toArray 0)).get? h'.objs.size=À (å "list" pn.toList.toArray 0):=ŀ _ N;show Â (ß (þ slot_list_sort ⟨_,Qh,N⟩ entry_list_sort (list_sort_treeK strKind_oneLt Qh hS.keysOf (λv₁ v₂ aD e=>keyKind_strs (by rw[<-e];show hS)) Vh λaT hp hs=>⟨_,N,(eJ (sorted_out_str hS hp hs) λNJ h1 h2 h3=>ä (sortedHeap_at (out:=(Ú aT).map (·.2)) Qh) λe he=>Ç ⟨_,N,hQ _ tk e h'.objs.size ((Ú aT).map (·.2)).toList NJ (λb o e1=>?_) ?_ (by rw[adc];show he) h1 h2 h3⟩)⟩) (args_list_sort _)))
 ·have cG:=ő (hk b o e1)
  rw[sortedHeap_old (ń cG) (by rw[size_push'];show ach cG)];show O' _ (hk b o e1)
 ·cases hq:s.heap.get? h'.objs.size with
  |none=>rfl
  |some o=>show absurd (ő (hk _ _ hq)) (Ţ _)
end
section
variable{A:Ñ}{E:Ä->Å->Prop}{J:List È}{H:ag}{s:Å}
theorem Dn{a b c:Str}(h1:¬ (b.cps.toList<a.cps.toList))(h2:¬ (c.cps.toList<b.cps.toList)):¬ (c.cps.toList<a.cps.toList):=λh=>h1 (List.lt_of_le_of_lt (afl.mp h2) h)
theorem tm:∀(l:List Str) (p:Str),risingS p l=Æ->nU (p::l)
 |[],p,_=>.cons (λz h=>nomatch h) .nil
 |x::l,p,h=>by
  show aQ (Ł.mp (show (!PySem.Spec.ltCps x.cps.toList p.cps.toList&&risingS x l)=Æ from h)) λh1 h2=>?_;rw[ltCps_eq]at h1;have h1:¬ (x.cps.toList<p.cps.toList):=by simpa using h1
  have ih:=tm l x h2;show .cons (λy hy=>?_) ih;rcases ą.mp hy with rfl|hy
  ·show h1
  ·show Dn h1 ((Ő.mp ih).1 y hy)
theorem Ia(h:m.Perm l)(hr:nU m):jO l=m:=by have XN:∃m:List Str,m.Perm l/\nU m:=⟨m,h,hr⟩;unfold jO;rw[dif_pos XN];show aQ (adL XN) λh1 h2=>List.Perm.eq_of_pairwise (le:=λa b:Str=>¬ (b.cps.toList<a.cps.toList)) (λa b z z g1 g2=>?_) h2 hr (h1.trans h.symm);have:=List.le_antisymm (afl.mp g1) (afl.mp g2);cases a;cases b;show congrArg Str.mk (Array.toList_inj.mp this)
theorem Iu(x:StrsAre vs ss):bv gg J h (ss.map .str) vs:=by
 induction x with
 |nil=>show .nil
 |cons y t r ih=>show .cons (.str y t) ih
set_option tactic.hygienic true in
theorem An(hh:A.handled=Ã)(jv:∃o,gg.B.get? û=À o)(R:ar gg J H s.heap)(hr:J[r]?=À c)(hl:ds H r=À l)(he:(if l.length<64 then rQ H ((jO (l.map (·.1))).map .str) else Ã)=À (v,ae)):
  É mo A (Á (.builtin "sorted") [.ref c]) (bA gg J s v ae) E s:=by
 show dC he λTp he=>im (gb he) λhz q2 q3=>?_;apply aY q2;apply aY q3;have Ac:=pR jv R hr;cases R.objs _ _ _ hr (mI hl) with
 |ds hd hk Qm=>
  rename_i kvs;have cb:kvs.length=l.length:=by have:=congrArg ada hk;rwa [H',H']at this
  show xB hh hd Ac (ų (Ŏ cb) Tp) λh' tk n D WW NJ RO hD jd hS hp hs=>?_;rw[hk]at hp
  have e:jO (l.map (·.1))=NJ:=Ia hp (by
   cases NJ with
   |nil=>show .nil
   |cons p r=>show tm r p hs)
  rw[e];rw[e]at hz;show bA.newL R (ź hz) (Iu hS) RO hD ⟨n,jd⟩
theorem ri(hv:bv gg J h [a] as):∃b,as=[b]/\VR gg J h a b:=by
 cases hv with
 |cons h1 h2=>cases h2;show⟨_,N,h1⟩
theorem vk(hv:bv gg J h [a,b] as):∃c d,as=[c,d]/\VR gg J h a c/\VR gg J h b d:=by
 cases hv with
 |cons h1 h2=>show aE (ri h2) λd q2 h3=>?_;apply aY q2;show⟨_,d,N,h1,h3⟩
theorem m5{f:V->Option (V×ag)}{c:List Ä->Sem Ä}(he:jq f l=À (v,ae))(hv:bv gg J s.heap l as)
  (k:∀x a,f x=À (v,ae)->VR gg J s.heap x a->É mo A (c [a]) (bA gg J s v ae) E s):É mo A (c as) (bA gg J s v ae) E s:=by
 show aE (fC he) λx q2 he=>?_;subst q2;show aE (ri hv) λa k1 hx=>?_;subst k1;show k x a he hx
theorem BD{f:List Int->Option V}{c:List Ä->Sem Ä}(he:jq (rh H f) l=À (v,ae))(R:ar gg J H s.heap)(hv:bv gg J s.heap l as)
  (k:∀a l vs ns,iu J s.heap a l vs->cB l=À ns->f ns=À v->É mo A (c [.ref a]) (bA gg J s v H) E s):É mo A (c as) (bA gg J s v ae) E s:=by
 show m5 he hv λx a he hx=>Bz he λl' w hl he=>ie he λns u hn hu he=>?_;show aQ (nP he) λq1 q2=>?_;subst q1 q2;show gm (HN hl R hx) λc' vs q3 wN=>?_;apply aY q3;show k c' l' vs ns wN hn hu
theorem Ny{f:Int->Int->Int}{c:List Ä->Sem Ä}(he:E2 (Hr H f) l=À (v,ae))(hv:bv gg J s.heap l as)
  (k:∀i j t u,É mo A (c [.int i t,.int j u]) (bA gg J s (.int (f i j)) H) E s):É mo A (c as) (bA gg J s v ae) E s:=by
 show gm (su he) λx y q3 he=>?_;subst q3;show fQ (vk hv) λa b k2 hx hy=>?_;subst k2;show ie he λi j hi hj he=>?_;apply dD he;apply EO hi hx;intro t;apply EO hj hy;intro u;show k i j t u
set_option tactic.hygienic true in
theorem Hb(he:SH H x=À (v,ae))(R:ar gg J H s.heap)(hx:VR gg J s.heap x a):É mo A (Á (.builtin "len") [a]) (bA gg J s v ae) E s:=by
 have sq:∀{x:V},VR gg J s.heap x a->((o9 H x).bind λp=>À (V.int p.1.length,H))=À (v,ae)->É mo A (Á (.builtin "len") [a]) (bA gg J s v ae) E s:=λhx he=>by show Bz he λl' w hl he=>?_;apply dD he;show gm (HN hl R hx) λc' vs q3 wN=>?_;apply aY q3;show KN R wN
 revert he sq;apply VR.el hx
 case str=>
  intro y t he sq;show dC he λhz he=>?_;apply dD he;show PyProof.Rows.len_str (ad4.mpr (ŧ.mpr (ų hz (by decide)))) (bA.here R (.int _ _))
 case ref=>intro _ _ hr he sq;show sq (.ref hr) he
 case tup=>intro _ _ _ h1 h2 h3 h4 he sq;show sq (.tup h1 h2 h3 h4) he
 case ro=>intro _ _ _ h1 h2 h3 he sq;show sq (.ro h1 h2 h3) he
 all_goals (intros;rename_i he sq;exact no he)
theorem rL(he:((rN x).bind λr=>(lst H r).bind λl=>q8 H l)=À (v,ae))(R:ar gg J H s.heap)(hx:VR gg J s.heap x a):É mo A (Á (.type "tuple") [a]) (bA gg J s v ae) E s:=by show ie he λr l hr hl he=>?_;show im (kQ he) λhz q2 q3=>?_;apply aY q2;apply aY q3;apply Qw hr hx;intro c hr;show eJ (R.list hr hl) λvs hl hv z=>call_tuple_list hl.isList (λh' hk=>bA.newT (tk:=s.toks) R (ź hz) hv (λb o e=>O' _ (hk b o e)) (fY hk (aG _)) (gO _ _)) (by rw[Ū,<-hv.length];show hz)
theorem r8(he:((Cu x).bind λl=>rQ H l)=À (v,ae))(R:ar gg J H s.heap)(hx:VR gg J s.heap x a):É mo A (Á (.type "list") [a]) (bA gg J s v ae) E s:=by show bT he λl hl he=>im (gb he) λhz q2 q3=>?_;apply aY q2;apply aY q3;show MA (vT hl hx) λc vs q3 ht z hv z=>?_;apply aY q3;obtain ⟨o,ho,hc,n,hd⟩:=id ht;show call_list_seq c (.inr rfl) ho hc hd (λh' c' hk hS=>bA.newL (tk:=s.toks) R (ź hz) hv hk (aG _) ⟨_,hS⟩) (by rw[Ū,<-hv.length];show hz)
theorem ur(he:((Ol x).bind λb=>À (V.int (if b then 1 else 0),H))=À (v,ae))(R:ar gg J H s.heap)(hx:VR gg J s.heap x a):É mo A (Á (.type "int") [a]) (bA gg J s v ae) E s:=by show bT he λb hb he=>?_;apply dD he;apply aY (vB hb hx);show call_int_bool (bA.here R (.int _ _))
inductive KR(h:Ó):AE->Ä->Prop
 |none:KR h .none .none
 |bool (b:Bool):KR h .bool (.bool b)
 |int (i:Int) (t:Tok):KR h .int (.int i t)
 |str (x:Str) (t:Tok):KR h .str (.str x t)
 |tup {c:È} {o:Obj}:h.get? c=À o->o.cls=.type "tuple"->KR h .tup (.ref c)
 |lst {c:È} {o:Obj}:h.get? c=À o->o.cls=.type "list"->KR h .lst (.ref c)
theorem Su(hk:Nd H x=À k)(R:ar gg J H s.heap)(hx:VR gg J s.heap x a):KR s.heap k a:=by
 cases hx with
 |none=>apply dJ hk;show .none
 |bool b=>apply dJ hk;show .bool b
 |int i t=>apply dJ hk;show .int i t
 |str i t=>apply dJ hk;show .str i t
 |tup ht _ _ _=>apply dJ hk;show eJ ht λo ho hc z=>?_;show .tup ho hc
 |ref hr=>show bT hk λl hl hk=>?_;apply dJ hk;show aE (R.list hr hl) λvs k3 z=>?_;show ä k3 λn ho=>?_;show .lst ho N
 |ro _ _ _=>show no hk
theorem uw(he:T6 H f x=À (v,ae))(R:ar gg J H s.heap)(hx:VR gg J s.heap x a)
  (h:∀k,KR s.heap k a->(∀tk,bA gg J s (.bool (f k)) H (.bool (f k)) {s with toks:=tk})->É mo A (Á (.builtin "isinstance") [a,.type T]) (bA gg J s (.bool (f k)) H) E s) :
  É mo A (Á (.builtin "isinstance") [a,.type T]) (bA gg J s v ae) E s:=by
 show bT he λk hk he=>?_;apply dD he;show h k (Su hk R hx) λtk=>bA.here R (.bool _)
theorem Dd(hk:KR s.heap k a)(h:∀tk,Q (.bool k.isInt) {s with toks:=tk}):É mo A (Á (.builtin "isinstance") [a,.type "int"]) Q E s:=by
 cases hk with
 |none=>show IsiPair.NoneType_int (h _)
 |bool _=>show IsiPair.bool_int (h s.toks)
 |int _ _=>show IsiPair.int_int (h s.toks)
 |str _ _=>show IsiPair.str_int (h _)
 |tup ho hc=>show IsiPair.tuple_int ho hc (h _)
 |lst ho hc=>show IsiPair.list_int ho hc (h _)
theorem zJ(hk:KR s.heap k a)(h:∀tk,Q (.bool k.isBool) {s with toks:=tk}):É mo A (Á (.builtin "isinstance") [a,.type "bool"]) Q E s:=by
 cases hk with
 |none=>show IsiPair.NoneType_bool (h _)
 |bool _=>show IsiPair.bool_bool (h s.toks)
 |int _ _=>show IsiPair.int_bool (h _)
 |str _ _=>show IsiPair.str_bool (h _)
 |tup ho hc=>show IsiPair.tuple_bool ho hc (h _)
 |lst ho hc=>show IsiPair.list_bool ho hc (h _)
theorem Df(hk:KR s.heap k a)(h:∀tk,Q (.bool k.isTup) {s with toks:=tk}):É mo A (Á (.builtin "isinstance") [a,.type "tuple"]) Q E s:=by
 cases hk with
 |none=>show IsiPair.NoneType_tuple (h _)
 |bool _=>show IsiPair.bool_tuple (h _)
 |int _ _=>show IsiPair.int_tuple (h _)
 |str _ _=>show IsiPair.str_tuple (h _)
 |tup ho hc=>show IsiPair.tuple_tuple ho hc (h s.toks)
 |lst ho hc=>show IsiPair.list_tuple ho hc (h _)
theorem rl(he:gE p l H=À (v,ae))(hh:A.handled=Ã)(jv:∃o,gg.B.get? û=À o)(R:ar gg J H s.heap)(hv:bv gg J s.heap l as):
  É mo A (m6 p as) (bA gg J s v ae) E s:=by
 cases p with
 |len=>show m5 he hv λx a he hx=>Hb he R hx
 |sum=>show BD he R hv λa l vs ns wN hn hu=>sm hu▸LG hh R wN hn
 |max1=>
  show BD he R hv λa l vs ns wN hn hu=>?_
  ·show bT hu λm hm hu=>sm hu▸KQ hh R wN hn hm
 |min1=>
  show BD he R hv λa l vs ns wN hn hu=>?_
  ·show bT hu λm hm hu=>sm hu▸KV hh R wN hn hm
 |minD=>show BD (c:=λas=>Á (.builtin "min") as [("default",.none)]) he R hv λa l vs ns wN hn hu=>sm hu▸Hi hh R wN hn
 |min2=>
  show Ny he hv λi j t u=>?_
  ·show min_two_ints hh λh' tk hk=>?_
   by_cases hc:j<i
   ·rw[if_pos hc,acp (acW hc)];show bA.grown R hk (.int _ _)
   ·rw[if_neg hc,acz (ň.mp hc)];show bA.grown R hk (.int _ _)
 |max2=>
  show Ny he hv λi j t u=>?_
  ·show max_two_ints hh λh' tk hk=>?_
   by_cases hc:j > i
   ·rw[if_pos hc,acM (acW hc)];show bA.grown R hk (.int _ _)
   ·rw[if_neg hc,adn (ň.mp hc)];show bA.grown R hk (.int _ _)
 |tuple=>show m5 he hv λx a he hx=>rL he R hx
 |list=>show m5 he hv λx a he hx=>r8 he R hx
 |str=>show no he
 |int=>show m5 he hv λx a he hx=>ur he R hx
 |isInt=>show m5 (c:=λas=>Á (.builtin "isinstance") (as++[.type "int"])) he hv λx a he hx=>uw he R hx λk hk q=>Dd hk q
 |isBool=>show m5 (c:=λas=>Á (.builtin "isinstance") (as++[.type "bool"])) he hv λx a he hx=>uw he R hx λk hk q=>zJ hk q
 |isTuple=>show m5 (c:=λas=>Á (.builtin "isinstance") (as++[.type "tuple"])) he hv λx a he hx=>uw he R hx λk hk q=>Df hk q
 |isStr=>show no he
 |isList=>show no he
 |sorted=>
  show m5 he hv λx a he hx=>?_
  ·show ie he λr l hr hl he=>?_
   apply Qw hr hx;intro c hr;show An hh jv R hr hl he
end
noncomputable def qW:j0->Str
 |.append=> "append" |.extend=> "extend" |.find=> "find" |.get=> "get" |.join=> "join"
noncomputable def qV:j0->String
 |.append=> "list.append" |.extend=> "list.extend" |.find=> "str.find" |.get=> "dict.get" |.join=> "str.join"
noncomputable def qX:j0->String
 |.append=> "list" |.extend=> "list" |.find=> "str" |.get=> "dict" |.join=> "str"
theorem qY(m:j0):PlainAttrs (qX m):=by
 cases m
 ·show PySem.F.plainAttrs_list
 ·show PySem.F.plainAttrs_list
 ·show PySem.F.plainAttrs_str
 ·show PySem.F.plainAttrs_dict
 ·show PySem.F.plainAttrs_str
theorem tc(m:j0):Slot (qX m) (qW m) (qV m):=by
 cases m
 ·show PySem.F.slot_list_append
 ·show PySem.F.slot_list_extend
 ·show PySem.F.slot_str_find
 ·show PySem.F.slot_dict_get
 ·show PySem.F.slot_str_join
theorem td(m:j0):typeOf (.builtin (qV m))=pure (.type "method_descriptor"):=by
 cases m
 ·show PySem.F.type_list_append
 ·show PySem.F.type_list_extend
 ·show PySem.F.type_str_find
 ·show PySem.F.type_dict_get
 ·show PySem.F.type_str_join
section
variable{A:Ñ}{E:Ä->Å->Prop}{J:List È}{H:ag}{s:Å}
theorem xh(hr:xg m x H=Æ)(R:ar gg J H s.heap)(hx:VR gg J s.heap x a):
  s.TypeIs a (qX m)/\∀c,a=.ref c->∃ob,s.heap.get? c=À ob/\ob.dict=Ã:=by
 have L:((rN x).bind (lst H)).isSome=Æ->s.TypeIs a "list"/\∀d,a=.ref d->∃ob,s.heap.get? d=À ob/\ob.dict=Ã:=λh=>by show ä (abA.mp h) λl h=>aE (ob h) λr h1 hl=>?_;show aE (vR h1 hx) λc k1 h1=>?_;apply aY k1;show aE (R.list h1 hl) λvs k2 z=>?_;show ä k2 λn ho=>?_;show⟨⟨_,ho,N⟩,λd e=>⟨_,Value.ref.inj e▸ho,N⟩⟩
 have S:(Ct x).isSome=Æ->s.TypeIs a "str"/\∀d,a=.ref d->∃ob,s.heap.get? d=À ob/\ob.dict=Ã:=λh=>by show ä (abA.mp h) λy h=>ä (vS h hx) λt k3=>?_;apply aY k3;show⟨typeIs_str s y t,λc e=>nomatch e⟩
 cases m with
 |append=>show L hr
 |extend=>show L hr
 |find=>show S hr
 |join=>show S hr
 |get=>
  show ä (abA.mp hr) λl h=>aE (ob h) λr h1 hl=>aE (vR h1 hx) λc k4 h1=>?_;apply aY k4;cases R.objs _ _ _ h1 (mI hl) with
  |ds hd _ _=>show⟨hd.typeIs,hd.mapOf.noDict⟩
theorem bA.putL(R:ar gg J H s.heap)(hr:J[r]?=À a)(aZ:H[r]?=À (.lst l₀))(hs:Heap.SameBut a s.heap h')
  (hl:h'.PlainList a ws.toArray) (hz:l.length<=aw+1) (hv:bv gg J s.heap l ws):SE J s.heap J h'/\ar gg J (H.set r (.lst l)) h':=by
 have ha:a∈J:=ģ hr;have S:SE J s.heap J h':=SE.put ha hs (by show ä hl λn e=>?_;show⟨_,e⟩);show⟨S,R.put hr aZ (λb o hb e=>hs.extBut b o hb e) (.lst hl hz (hv.step R S)) λq e=>nomatch e⟩
theorem yE(he:Bu H x y=À (v,ae))(R:ar gg J H s.heap)(hx:VR gg J s.heap x a)(hy:VR gg J s.heap y b):
  v=.none/\É mo A (Á (.builtin "list.append") [a,b]) (bA gg J s .none ae) E s:=by
 show aE (ob he) λr hr he=>aE (ob he) λl VZ he=>aQ (cT he) λhz he=>aQ (nP he) λk8 k9=>?_;apply fR k8;subst k9;show aE (vR hr hx) λc Ky hr=>(eJ (R.list hr VZ) λvs hl hv z=>?_);apply aY Ky;show⟨rfl,ώ hl (λh' Kn hs=>?_) (by rw[Ū,<-hv.length];show hz)⟩;have V0:h'.PlainList c (vs++[b]).toArray:=by simpa using Kn
 show aQ (bA.putL (l:=l++[y]) R hr (qP VZ) hs V0 (by simp;show hz) (hv.append (bv.one hy))) λS R'=>⟨J,S,R',.none,rfl,rfl,rfl⟩
theorem za(he:pP H x y=À (v,ae))(R:ar gg J H s.heap)(hx:VR gg J s.heap x a)(hy:VR gg J s.heap y b):
  v=.none/\É mo A (Á (.builtin "list.extend") [a,b]) (bA gg J s .none ae) E s:=by
 show aE (ob he) λr hr he=>aE (ob he) λq hq he=>aE (ob he) λl1 h1 he=>aE (ob he) λl2 h2 he=>aQ (cT he) λhz he=>?_;show aQ (nP he) λKz KA=>?_;apply fR Kz;subst KA;show aE (vR hr hx) λc Sl hr=>?_;apply aY Sl;show aE (vR hq hy) λd Sm hq=>?_;apply aY Sm;show eJ (R.list hr h1) λvs Sn TL z=>?_;show ä Sn λn1 o1=>?_;show eJ (R.list hq h2) λws Ww X4 z=>?_;show ä Ww λn2 o2=>?_;have uq:vs.toArray.size+ws.toArray.size<=ê:=by rw[Ū,Ū,<-TL.length,<-X4.length];show hz.1
 show⟨N,call_meets PySem.F.slot_list_extend ⟨_,o1,N⟩ PySem.F.entry_list_extend (PySem.F.args_list_extend_2 _ _)
  (AutoSeq1.list_extend_list_list_0 c vs.toArray n1 d ws.toArray n2 (extend_door uq) (by show jL (y4 0xc1310b1010b20813ba230 N (iL uq) (iP _) (iA _ _))) (by show jL (y3 0xc2010b1013ba1812 N (iL uq) (iA _ _)))) ⟨o1,o2,?_⟩⟩
 have qJ:(s.heap.update c (Obj.mapSeq λx=>x++ws.toArray)).PlainList c (vs++ws).toArray:=by
  have e:=ϟ (Obj.mapSeq λx=>x++ws.toArray) o1 N
  simp only[Obj.mapSeq,List.append_toArray]at e
  show⟨_,e⟩
 show aQ (bA.putL (l:=l1++l2) R hr (qP h1) (Heap.SameBut.update ..) qJ (by simp;show ź hz.1) (TL.append X4)) λS R'=>⟨J,S,R',.none,rfl,rfl,rfl⟩
theorem F4(he:Nj H x y=À (v,ae))(R:ar gg J H s.heap)(hx:VR gg J s.heap x a)(hy:VR gg J s.heap y b):
  É mo A (Á (.builtin "str.find") [a,b]) (bA gg J s v ae) E s:=by
 show aE (ob he) λp hp he=>aE (ob he) λq hq he=>aQ (nP he) λk17 Wx=>?_;apply fR k17;subst Wx;show ä (vS hp hx) λt k19=>?_;apply aY k19;show ä (vS hq hy) λu Wy=>?_;apply aY Wy;show SC.find (bA.here R (.int _ _))
theorem Kc(he:Sz H x y z=À (v,ae))(jv:∃o,gg.B.get? û=À o)(R:ar gg J H s.heap)(hx:VR gg J s.heap x a)(hy:VR gg J s.heap y b)(hz:VR gg J s.heap z d):
  É mo A (Á (.builtin "dict.get") [a,b,d]) (bA gg J s v ae) E s:=by
 show aE (ob he) λr hr he=>aE (ob he) λk hk he=>aE (ob he) λl hl he=>?_;show aQ (nP he) λSo k22=>?_;apply fR So;subst k22;show aE (vR hr hx) λc k23 hr=>?_;apply aY k23;show ä (vS hk hy) λu k24=>?_;apply aY k24;have Ac:=pR jv R hr;cases R.objs _ _ _ hr (mI hl) with
 |ds hd hk Qm=>
  show call_meetsIn PySem.F.slot_dict_get hd.typeIs PySem.F.entry_dict_get (PySem.F.args_dict_get_3 _ _ _) (meets_dict_get_default (strKind gg.prog gg.w) c (strKind_is gg.prog gg.w k u) Ac d) ⟨_,hd.mapOf,?_⟩;cases hg:dz l k with
  |none=>rw[CJ hg hk Qm];show bA.here R hz
  |some w=>show aE (kK hg hk Qm) λa' h1 h2=>?_;rw[h1];show bA.here R h2
theorem Hh(he:jy m x l H=À (v,ae))(jv:∃o,gg.B.get? û=À o)(R:ar gg J H s.heap)(hx:VR gg J s.heap x a)(hv:bv gg J s.heap l as):
  É mo A (Á (.builtin (qV m)) (a::as)) (bA gg J s v ae) E s:=by
 cases m with
 |append=>show aE (fC he) λy k30 he=>?_;subst k30;show aE (ri hv) λb k31 hy=>?_;subst k31;show aQ (yE (A:=A) (E:=E) he R hx hy) λWz h=>?_;apply aY Wz;show h
 |extend=>show aE (fC he) λy k33 he=>?_;subst k33;show aE (ri hv) λb k34 hy=>?_;subst k34;show aQ (za (A:=A) (E:=E) he R hx hy) λSp h=>?_;apply aY Sp;show h
 |find=>show aE (fC he) λy k36 he=>?_;subst k36;show aE (ri hv) λb k37 hy=>?_;subst k37;show F4 he R hx hy
 |join=>show no he
 |get=>show gm (su he) λy z WA he=>?_;subst WA;show fQ (vk hv) λb d k41 hy hz=>?_;subst k41;show Kc he jv R hx hy hz
theorem D3(hm:m.isStep=Æ)(he:jy m x l H=À (v,ae)):v=.none:=by
 cases m with
 |append=>show aE (fC he) λy WB he=>(aE (ob he) λr hr he=>?_);apply aY WB;show aE (ob he) λl VZ he=>(nP (cT he).2).1.symm
 |extend=>show aE (fC he) λy k43 he=>(aE (ob he) λr hr he=>aE (ob he) λq hq he=>?_);apply aY k43;show aE (ob he) λl1 h1 he=>aE (ob he) λl2 h2 he=>(nP (cT he).2).1.symm
 |_=>cases hm
end
section
variable{A:Ñ}{E:Ä->Å->Prop}{J:List È}{H:ag}{s:Å}
theorem HE{c:È}{vs:List Ä}{k:Int}{t:Tok}{v:Ä}{Q:Unit->Å->Prop}(hl:s.heap.PlainList c vs.toArray)(h0:0<=k)(hj:k.toNat<vs.length)(RJ:Builtin.List.listFitsIndex k=Æ)
  (hQ:∀h',h'.PlainList c (vs.set k.toNat v).toArray->Heap.SameBut c s.heap h'->Q () {s with heap:=h'}) :
  É mo A (setItem (.ref c) (.int k t) v) Q E s:=by
 show ä (id hl) λn ho=>?_;obtain ⟨j,MO⟩:∃j,j=k.toNat:=⟨_,rfl⟩;rw[<-MO]at hj hQ
 have qJ:(s.heap.update c (Obj.mapSeq (·.setIfInBounds j v))).PlainList c (vs.set j v).toArray:=by
  have e:=ϟ (Obj.mapSeq (·.setIfInBounds j v)) ho N
  simp only[Obj.mapSeq,List.setIfInBounds_toArray]at e
  show⟨_,e⟩
 unfold setItem
 try with_reducible refine ß ?_
 show Â (wpAny_sequenceKey hl.isList.typeIs (by decide) ?_)
 show Â (ñ (name:=ϻ "__setitem__") hl.isList.typeIs PySem.slot_list_setitem
  (þ PySem.slot_list_setitem hl.isList.typeIs PySem.entry_list_setitem ?_ (PySem.args_list_setitem _ _ _)))
 show É _ _ (Builtin.List.listSubscript? (.int k t)>>=_) _ _ s;show Â (wpAny_listSubscript_int RJ ?_);show ä (acN h0) λj' q2=>?_;subst q2;have ZX:j=j':=MO;clear RJ h0 MO;apply fR ZX;show É _ _ ((seqItemAt c j>>=λr=>pure (r.map (j,·)))>>=_) _ _ s;show Â (Â (wpAny_seqItemAt ho rfl (Ç ?_)));rw[show vs.toArray[j]?=À vs[j] by simp [hj]];show É _ _ (setSeqItemAt c j v>>=_) _ _ s;show Â (wpAny_setSeqItemAt ho rfl ?_)
 first
  |show Â (Ç (Ç ⟨.none,N,Ç (hQ _ qJ (Heap.SameBut.update ..))⟩))
  |show Ç ⟨.none,rfl,Ç (hQ _ qJ (Heap.SameBut.update ..))⟩
theorem nY[DecidableEq κ](p:κ×β)(r:List (κ×β))(k:κ)(v:β):dA (p::r) k v=if p.1=k then (p.1,v)::r else p::dA r k v:=rfl
theorem D5{κ:Type}[DecidableEq κ]{k:κ}{a:Ä}{kvs:List (κ×Ä)}:(kvs.map (·.1)).Nodup->stored kvs k a=dA kvs k a:=by
 induction kvs with
 |nil=>show λz=>rfl
 |cons p r ih=>
  intro hn;have hn:=ϛ.mp hn;rw[nY];by_cases hp:p.1=k
  ·rw[if_pos hp]
   show(if_pos (List.any_eq_true.mpr ⟨p,G',decide_eq_true hp⟩)).trans ?_;rw[œ,if_pos hp,map_store_of_not_mem r k a (hp▸hn.1)]
  ·rw[if_neg hp,<-ih hn.2]
   have e:(p::r).any (λkv=>decide (kv.1=k))=r.any λkv=>decide (kv.1=k):=by rw[List.any_cons,decide_eq_false hp];rfl
   show (if (p::r).any (λkv=>decide (kv.1=k)) then _ else _)=p::if _ then _ else _;rw[e];by_cases hr:(r.any λkv=>decide (kv.1=k))=Æ
   ·rw[if_pos hr,if_pos hr,œ,if_neg hp]
   ·rw[if_neg hr,if_neg hr];rfl
theorem FN[DecidableEq κ](Ql:VR gg J h v a):∀{kvs:List (κ×Ä)},kvs.map (·.1)=l.map (·.1)->bv gg J h (l.map (·.2)) (kvs.map (·.2)) ->
  (dA kvs k a).map (·.1)=(dA l k v).map (·.1)/\bv gg J h ((dA l k v).map (·.2)) ((dA kvs k a).map (·.2)):=by
 induction l with
 |nil=>intro kvs hk _;rw[ad0.mp hk];show⟨N,.one Ql⟩
 |cons p l ih=>
  intro kvs hk hv;cases kvs with
  |nil=>show absurd hk.symm (aei _ _)
  |cons q kvs=>
   have hk:=List.cons.inj hk;have e:q.1=p.1:=hk.1;rw[nY,nY,e];by_cases hp:p.1=k
   ·rw[if_pos hp,if_pos hp];show⟨congrArg (p.1::·) hk.2,.cons Ql hv.tl⟩
   ·rw[if_neg hp,if_neg hp]
    show aQ (ih hk.2 hv.tl) λi1 i2=>⟨List.cons_eq_cons.mpr ⟨e,i1⟩,.cons hv.hd i2⟩
theorem oM{κ:Type}[DecidableEq κ]{h:Ó}{k:κ}{v:V}{a:Ä}(Ql:VR gg J h v a){l:List (κ×V)}{kvs:List (κ×Ä)}(hk:kvs.map (·.1)=l.map (·.1))(hn:(kvs.map (·.1)).Nodup)(hv:bv gg J h (l.map (·.2)) (kvs.map (·.2))):
  (stored kvs k a).map (·.1)=(dA l k v).map (·.1)/\bv gg J h ((dA l k v).map (·.2)) ((stored kvs k a).map (·.2)):=by
 rw[D5 hn];show FN Ql hk hv
theorem mH{K:Type}[DecidableEq K]{knd:KeyKind gg.prog gg.w K}{h:Ó}{a:È}{kvs:List (K×Ä)}(x:h.DictOf knd a kvs):(kvs.map (·.1)).Nodup:=yT x λz z z r=>r.2.2.2.2.2
theorem tV{K K':Type}[DecidableEq K][DecidableEq K']{knd:KeyKind gg.prog gg.w K}{WC:KeyKind gg.prog gg.w K'}{h:Ó}{a:È}(x:h.DictOf knd a []):h.DictOf WC a []:=by
 show To x λo es ep ho hc hd hk hp z=>?_
 have he:es.toList=[]:=by cases hq:es.toList with
  |nil=>rfl
  |cons _ _=>rw[hq]at hp;cases hp
 have IY:es=#[]:=by simpa using he
 subst IY;show⟨o,#[],ep,ho,hc,hd,λe he=>by simp at he,Pairs.nil,adz⟩
theorem ar.putM(R:ar gg J H s.heap)(hr:J[r]?=À c)(aZ:H[r]?=À KZ)(hs:Heap.SameBut c s.heap h')(hd:∃o,h'.get? c=À o)
  (hm:SE J s.heap J h'->MR gg J h' m c) (MT:∀q,KZ=.tab q->m=.tab q):SE J s.heap J h'/\ar gg J (H.set r m) h':=by
 have S:SE J s.heap J h':=SE.put (ģ hr) hs hd;show⟨S,R.put hr aZ (λb o hb e=>hs.extBut b o hb e) (hm S) MT⟩
theorem Ll(he:((pr i).bind λk=>if 0<=k/\k.toNat<l.length then À (H.set r (.lst (l.set k.toNat v))) else Ã)=À ae)(R:ar gg J H s.heap)(hr:J[r]?=À c)(h1:H[r]?=À (.lst l))(hi:VR gg J s.heap i ai)(hv:VR gg J s.heap v av)
  (h:∀h' tk,SE J s.heap J h'->ar gg J ae h'->Q () {s with heap:=h',toks:=tk}):É mo A (setItem (.ref c) ai av) Q E s:=by
 have sz:aw+1=16777217:=rfl;show eJ (R.list hr (cC h1)) λvs hl Bd hz=>bT he λk hk he=>aQ (cT he) λk1 he=>?_;show aQ k1 λmO I0=>?_;obtain rfl:=sm he;show ä (vI hk hi) λt q2=>?_;subst q2;show HE hl mO (by rw[<-Bd.length];show I0) (fitsIndex_of (by show y1 0xc00810b008 rfl mO) (yF mO I0 hz)) λh' jd nO=>?_;show aQ (bA.putL (l:=l.set k.toNat v) R hr h1 nO jd (by simpa using hz) (bv.set hv k.toNat Bd)) λS R'=>h h' _ S R'
theorem PJ{Q:Unit->Å->Prop}(he:((pr i).bind λk=>if l.length<=aw then À (H.set r (.di (dA l k v))) else Ã)=À ae)(R:ar gg J H s.heap)(hr:J[r]?=À c)(h1:H[r]?=À (.di l))(hi:VR gg J s.heap i ai)(hv:VR gg J s.heap v av)
  (h:∀h' tk,SE J s.heap J h'->ar gg J ae h'->Q () {s with heap:=h',toks:=tk}):É mo A (setItem (.ref c) ai av) Q E s:=by
 show bT he λk hk he=>dC he λhz he=>?_;obtain rfl:=sm he;show ä (vI hk hi) λt q2=>?_;subst q2;cases R.objs _ _ _ hr h1 with
 |@di _ _ kvs hd hk Bd=>
  have cb:kvs.length=l.length:=by have:=congrArg ada hk;simpa using this
  show ŕ (intKind_is gg.prog gg.w k t) hd (λh' jS nO=>aQ (oM hv hk (mH hd) Bd (k:=k)) λi1 i2=>aQ (R.putM (m:=.di (dA l k v)) hr h1 nO (by show oN jS λo z z ho z=>?_;show⟨o,ho⟩) (λS=>.di jS i1 (i2.step R S)) λq e=>nomatch e) λS R'=>?_) (by rw[cb];show hz);show h h' _ S R'
theorem PK{Q:Unit->Å->Prop}(he:NH H r l v i=À ae)(R:ar gg J H s.heap)(hr:J[r]?=À c)(h1:H[r]?=À (.ds l))(hi:VR gg J s.heap i ai)(hv:VR gg J s.heap v av)
  (h:∀h' tk,SE J s.heap J h'->ar gg J ae h'->Q () {s with heap:=h',toks:=tk}):É mo A (setItem (.ref c) ai av) Q E s:=by
 cases R.objs _ _ _ hr h1 with
 |@ds _ _ kvs hd hk Bd=>
  have cb:kvs.length=l.length:=by have:=congrArg ada hk;simpa using this
  cases hi with
  |str k t=>show dC he λhz he=>?_;obtain rfl:=sm he;show ŕ (strKind_is gg.prog gg.w k t) hd (λh' jS nO=>aQ (oM hv hk (mH hd) Bd (k:=k)) λi1 i2=>aQ (R.putM (m:=.ds (dA l k v)) hr h1 nO (by show oN jS λo z z ho z=>?_;show⟨o,ho⟩) (λS=>.ds jS i1 (i2.step R S)) λq e=>nomatch e) λS R'=>?_) (by rw[cb];show hz);show h h' _ S R'
  |int k t=>
   show dC he λhz he=>?_;obtain rfl:=sm he
   have Km:kvs=[]:=by rw[Ŷ.mp hz]at cb;show ϳ.mp cb
   subst Km;show ŕ (intKind_is gg.prog gg.w k t) (tV hd) (λh' jS nO=>aQ (R.putM (m:=.di [(k,v)]) hr h1 nO (by show oN jS λo z z ho z=>?_;show⟨o,ho⟩) (λS=>.di jS (by simp [stored]) (by simpa [stored] using bv.one (hv.step R S))) λq e=>nomatch e) λS R'=>?_) (ĥ _);show h h' _ S R'
  |_=>show no he
theorem Lm(he:ru o i v H=À ae)(R:ar gg J H s.heap)(ho:VR gg J s.heap o ao)(hi:VR gg J s.heap i ai)(hv:VR gg J s.heap v av)
  (h:∀h' tk,SE J s.heap J h'->ar gg J ae h'->Q () {s with heap:=h',toks:=tk}) :
  É mo A (setItem ao ai av) Q E s:=by
 show ie he λr m hr hm he=>?_;apply Qw hr ho;intro c hr;cases m with
 |lst l=>show Ll he R hr hm hi hv h
 |di l=>show PJ he R hr hm hi hv h
 |ds l=>show PK he R hr hm hi hv h
 |own=>show no he
 |wd _=>show no he
 |exn _ _=>show no he
 |tab _=>show no he
end
theorem mY{P:α->Prop}(h:P a):∀b∈[a],P b:=λz hb=>W'.mp hb▸h
theorem qR{P:α->Prop}(h:P a)(k:P c):∀b∈[a,c],P b:=λb hb=>(ą.mp hb).elim (λe=>e▸h) (mY k b)
theorem KS{P:α->Prop}:∀b∈([]:List α),P b:=λz hb=>absurd hb acO
theorem SG{α:Type}{P:α->Prop}{l m:List α}(h:∀b∈l,P b)(k:∀b∈m,P b):∀b,b∈l\/b∈m->P b:=λb hb=>hb.elim (h b) (k b)
theorem Yg(h:b∉[a]):b≠a:=λe=>h (W'.mpr e)
def Mv(wr J:List È)(h h':Ó):Prop:=∀b o,b∉wr->b∉J->h.get? b=À o->h'.get? b=À o
def eH(h:Ó)(b:È):Prop:=∃o,h.get? b=À o/\Jd o
theorem iI(hc:o.cls=.type n)(hd:o.data=.fields vs)(hn:n≠"code"):Jd o:=
 ⟨(λz z q=>nomatch hd.symm.trans q),(λz z q=>nomatch hd.symm.trans q),λq=>absurd (hc.symm.trans q) λq=>hn (by injection q)⟩
theorem Jd.not(x:Jd o):¬ jZ o:=by
 rintro (⟨_,_,_,h⟩|⟨h1,_,h2⟩)
 ·show x.seq _ _ h
 ·show x.code h1 _ h2
def vA(h:Ó)(b:È):Prop:=∃o cP n,h.get? b=À o/\o.data=.seq cP n
def vf(two:Bool)(t:Ô):Prop:=(∃es k p,t=.Tuple es k p)\/(two=Ê/\∃x p,t=.Name x p)
structure rT(A:Ñ)(I:È)(xs:List V)(w:List (Nat×bu))(two:Bool)(ys:List V)(vs:List Ä)(wr kp:List È)(St:Nat->Ó->Prop)(rU:Nat->Ä->Ó->Prop):Prop where
 frame:∀i h h',St i h->(∀b,b∈wr\/b∈kp->∀o,h.get? b=À o->h'.get? b=À o)->St i h'
 wrN:∀i h,St i h->∀b∈wr,eH h b
 wrM:∀i a h,rU i a h->∀b∈wr,eH h b
 kpN:∀i h,St i h->∀b∈kp,vA h b
 item:∀i J H (s:Å) (Q:Option Ä->Å->Prop) (E:Ä->Å->Prop) x,St i s.heap->ar gg J H s.heap->bv gg J s.heap ys vs->cA H w->(∀b,b∈wr\/b∈kp->b∉J)->(∀b∈wr,gg.B.get? b=Ã)->xs[i]?=À x ->
  (∀a h' tk,Mv wr J s.heap h'->ar gg J H h'->VR gg J h' x a->rU i a h'->Q (À a) {s with heap:=h',toks:=tk})->É mo A (Ĳ (.ref I)) Q E s
 go:∀t,vf two t->∀i J H a (s:Å) (Q:Unit->Å->Prop) (E:Ä->Å->Prop),rU i a s.heap->ar gg J H s.heap->(∀b,b∈wr\/b∈kp->b∉J)->(∀b∈wr,gg.B.get? b=Ã) ->
  (∀h',Mv wr J s.heap h'->ar gg J H h'->St (i+1) h'->Q () {s with heap:=h'})->É mo A (Ń t (.ref I) a) Q E s
 done:∀J H (s:Å) (Q:Option Ä->Å->Prop) (E:Ä->Å->Prop),St xs.length s.heap->ar gg J H s.heap->bv gg J s.heap ys vs->cA H w->(∀b,b∈wr\/b∈kp->b∉J)->(∀b∈wr,gg.B.get? b=Ã) ->
  (∀h' tk,Mv wr J s.heap h'->ar gg J H h'->Q Ã {s with heap:=h',toks:=tk})->É mo A (Ĳ (.ref I)) Q E s
 self:∀i (s:Å) (Q:Ä->Å->Prop) (E:Ä->Å->Prop),St i s.heap->Q (.ref I) s->É mo A (pyIter (.ref I)) Q E s
section
variable{A:Ñ}{E:Ä->Å->Prop}{J:List È}{H:ag}{s:Å}{wr:List È}
theorem Mv.tup(M:Mv wr J h h')(hw:∀b∈wr,eH h b):∀b o,h.get? b=À o->jZ o->b∉J->h'.get? b=À o/\b∉J:=
 λb o e hs hn=>⟨M b o (λhb=>(hw b hb).elim λo' k=>k.2.not (sm (e.symm.trans k.1)▸hs)) hn e,hn⟩
theorem Mv.vr(M:Mv wr J h h')(hw:∀b∈wr,eH h b)(x:VR gg J h v a):VR gg J h' v a:=x.stepT (λz z e=>e) (M.tup hw)
theorem Mv.vrs(M:Mv wr J h h')(hw:∀b∈wr,eH h b)(x:bv gg J h l vs):bv gg J h' l vs:=x.stepT (λz z e=>e) (M.tup hw)
theorem ar.mv(R:ar gg J H h)(M:∀b o,b∉wr->h.get? b=À o->h'.get? b=À o)(hw:∀b∈wr,eH h b)(hn:∀b∈wr,b∉J)(hB:∀b∈wr,gg.B.get? b=Ã):ar gg J H h':=by have M':Mv wr J h h':=λb o h1 z e=>M b o h1 e;show⟨λb o e=>M b o (λhb=>by rw[hB b hb]at e;cases e) (R.base b o e),R.fresh,R.len,R.nodup,λi a m h1 h2=>?_,R.tabs⟩;show(R.objs i a m h1 h2).stepT (λz z e=>e) (M'.tup hw) λo e=>M _ o (λhb=>hn _ hb (ģ h1)) e
theorem Mv.all(M:∀b o,b∉wr->h.get? b=À o->h'.get? b=À o):Mv wr J h h':=λb o h1 z e=>M b o h1 e
def Ph(n:String):Prop:=["enumerate","zip","dict_itemiterator","dict_reverseitemiterator","odict_iterator","itertools.zip_longest","itertools.pairwise"].contains n=Ê
theorem mT(ht:vf Ê t)(ho:s.heap.get? I=À o)(hc:o.cls=.type n)(hn:Ph n)(h:Q () s):
  É mo A (Ń t (.ref I) a) Q E s:=by
 show ht.elim (λq=>yT q λes k p q=>?_) λq=>mJ q.2 λx p q=>?_
 ·rw[q]
  cases a with
  |ref c=>
   unfold Ń;show Â (wpAny_load ho ?_);rw[hc];cases hd:o.data with
   |fields vs=>show É _ _ (if (["enumerate","zip","dict_itemiterator","dict_reverseitemiterator","odict_iterator","itertools.zip_longest","itertools.pairwise"].contains n&&vs[0]?==À (õ c))=Æ then _ else _) Q E s;rw[show ["enumerate","zip","dict_itemiterator","dict_reverseitemiterator","odict_iterator","itertools.zip_longest","itertools.pairwise"].contains n=Ê from hn];show Ç h
   |_=>show Ç h
  |_=>show Ç h
 ·rw[q];show Ç h
theorem tB(h:cA H ((r,m)::w)):H[r]?=À m:=h _ G'
theorem rT.list(hh:A.handled=Ã)(I c:È)(r:Nat)(l:List V)(eT:c≠I):
  rT A I l [(r,.lst l)] Ê [.ref r] [.ref c] [I] [] (λi h=>h.IsListIter I c i) (λi z h=>h.IsListIter I c (i+1)):=by
 have ns:∀i h,h.IsListIter I c i->∀b∈[I],eH h b:=λi h st b hb=>by apply aY (W'.mp hb);show eJ st λo ho hc hd=>⟨o,ho,iI hc hd (by decide)⟩
 have Ju:∀{J:List È} {H:ag} {h:Ó},ar gg J H h->bv gg J h [.ref r] [.ref c]->cA H [(r,.lst l)]->∃vs,h.IsList c vs.toArray/\bv gg J h l vs:=λ{J H h} R hv hw=>by
  cases hv with
  |cons hv _=>
   cases hv with
   |ref hr=>show eJ (R.list hr (cC (tB hw))) λvs hl Bd z=>⟨vs,hl.isList,Bd⟩
 show⟨λi h h' st hk=>st.at λo e=>hk I (.inl G') o e,ns,λi a h m=>ns _ h m,λz z z=>KS,?_,?_,?_,λi s Q E st h=>wpAny_pyIter_listiter st h⟩
 ·intro i J H s Q E x st R hv hw hn hB hx hQ
  show aE (Ju R hv hw) λvs hl Bd=>aE (Bd.get hx) λa ha hxa=>wpAny_pyNext_list_item st hl (x:=a) (Ž.trans ha) λh' OW nO=>?_;have M:∀b o,b∉[I]->s.heap.get? b=À o->h'.get? b=À o:=λb o hb e=>nO.extBut b o (Yg hb) e;have M':Mv [I] J s.heap h':=Mv.all M;show hQ a h' s.toks M' (R.mv M (ns _ _ st) (λb hb=>hn b (.inl hb)) hB) (M'.vr (ns _ _ st) hxa) OW
 ·intro t ht i J H a s Q E m R hn hB hQ
  show eJ (id m) λo ho hc hd=>mT ht ho hc N (hQ s.heap (λz z z z e=>e) R m)
 ·intro J H s Q E st R hv hw hn hB hQ
  show aE (Ju R hv hw) λvs hl Bd=>wpAny_pyNext_list_end hh st hl (by simp [Bd.length]) λh' nO=>?_;have M:∀b o,b∉[I]->s.heap.get? b=À o->h'.get? b=À o:=λb o hb e=>nO b o (Yg hb) e;show hQ h' s.toks (Mv.all M) (R.mv M (ns _ _ st) (λb hb=>hn b (.inl hb)) hB)
theorem rT.walks{I:È}{fp kp:List È}{xs ys:List V}{vs:List Ä}{P:Nat->Ä->Prop}{St:Nat->Ó->Prop}{n:String}(W:Walks gg.prog gg.w A I fp [I] xs.length P St)(Ki:∀b∈fp,b=I\/b∈kp)
  (hn:Ph n) (V7:n≠"code")
  (hI:∀i h,St i h->∃o vs,h.get? I=À o/\o.cls=.type n/\o.data=.fields vs) (VW:∀i h,St i h->∀b∈kp,vA h b)
  (hP:∀J h i v x,bv gg J h ys vs->P i v->xs[i]?=À x->VR gg J h x v) :
  rT A I xs [] Ê ys vs [I] kp St (λi z h=>St (i+1) h):=by
 have ns:∀i h,St i h->∀b∈[I],eH h b:=λi h st b hb=>by apply aY (W'.mp hb);show fQ (hI i h st) λo vs ho hc hd=>⟨o,ho,iI hc hd V7⟩
 show⟨λi h h' st hk=>W.frame i h h' st λb hb o e=>hk b ((Ki b hb).imp (λe=>W'.mpr e) id) o e,ns,λi a h m=>ns _ h m,VW,?_,?_,?_,W.self⟩
 ·intro i J H s Q E x st R hv hw lV hB hx hQ
  show W.item i s Q E (Ğ.mp hx).1 st λv h' tk hp aT M=>?_;have M':Mv [I] J s.heap h':=Mv.all M;show hQ v h' tk M' (R.mv M (ns _ _ st) (λb hb=>lV b (.inl hb)) hB) (hP J h' i v x (M'.vrs (ns _ _ st) hv) hp hx) aT
 ·intro t ht i J H a s Q E m R lV hB hQ
  show fQ (hI _ _ m) λo vs ho hc hd=>mT ht ho hc hn (hQ s.heap (λz z z z e=>e) R m)
 ·intro J H s Q E st R hv hw lV hB hQ
  show W.done s Q E st λh' tk M=>hQ h' tk (Mv.all M) (R.mv M (ns _ _ st) (λb hb=>lV b (.inl hb)) hB)
def Ci(A:Ñ)(J:List È)(s:Å)(xs:List V)(w:List (Nat×bu))(two:Bool)(ae:ag)(a:Ä)(Ì:Å):Prop:=
 ∃aS,SE J s.heap aS Ì.heap/\ar gg aS ae Ì.heap/\bK s Ì/\∀(E:Ä->Å->Prop) (Q:Ä->Å->Prop),
  (∀I ys vs wr kp St rU h',rT A I xs w two ys vs wr kp St rU->St 0 h'->(∀b o,Ì.heap.get? b=À o->h'.get? b=À o)->bv gg aS h' ys vs->(∀b∈wr,s.heap.get? b=Ã)->(∀b,b∈wr\/b∈kp->b∉aS) ->
   (∀b∈wr,gg.B.get? b=Ã)->Q (.ref I) {Ì with heap:=h'})->É mo A (pyIter a) Q E Ì
theorem aW(R:ar gg J H h)(hb:h.get? b=Ã):gg.B.get? b=Ã:=kn λo e=>no (hb.symm.trans (R.base b o e))
theorem aX(R:ar gg J H h)(hb:h.get? b=Ã):b∉J:=λx=>(R.live x).elim λo ho=>no (hb.symm.trans ho)
theorem SE.back(S:SE J h aS h')(hb:h'.get? b=Ã):h.get? b=Ã:=kn λo e=>(S.dom b o e).elim λo' e'=>no (hb.symm.trans e')
theorem xK{c:È}{l:List V}{vs:List Ä}{n:String}{St:Nat->Ó->Prop}{Ì:Å}{aS:List È}{Q:Ä->Å->Prop}(S:SE J s.heap aS Ì.heap)(R:ar gg aS H Ì.heap)(hv:bv gg aS Ì.heap l vs)(hn:c∉aS)
  (W:Walks gg.prog gg.w A Ì.heap.objs.size [Ì.heap.objs.size,c] [Ì.heap.objs.size] vs.toArray.size (λi v=>vs.toArray[i]?=À v) St) (Z6:Ph n) (V7:n≠"code") (hI:∀i h,St i h->∃o vs,h.get? Ì.heap.objs.size=À o/\o.cls=.type n/\o.data=.fields vs) (VW:∀i h,St i h->vA h c)
  (h0:St 0 (Ì.heap.push {cls:=.type n,data:=.fields #[.ref c,.int 0 0]}))
  (h:∀I ys vs wr kp St rU h',rT A I l [] Ê ys vs wr kp St rU->St 0 h'->(∀b o,Ì.heap.get? b=À o->h'.get? b=À o)->bv gg aS h' ys vs->(∀b∈wr,s.heap.get? b=Ã)->(∀b,b∈wr\/b∈kp->b∉aS) ->
   (∀b∈wr,gg.B.get? b=Ã)->Q (.ref I) {Ì with heap:=h'}):Q (.ref Ì.heap.objs.size) {Ì with heap:=Ì.heap.push {cls:=.type n,data:=.fields #[.ref c,.int 0 0]}}:=by
 rw[show vs.toArray.size=l.length from hv.length.symm]at W
 show h _ l vs [_] [c] _ _ _ (rT.walks W (λb hb=>(ą.mp hb).imp id id) Z6 V7 hI (λi h st=>mY (VW i h st)) λJ h i v x hv hp hx=>?_) h0 (λb o e=>O' _ e) (hv.stepT (λz z e=>e) λb o e z hn=>⟨O' _ e,hn⟩)
  (mY (S.back (aG _))) (SG (mY (aX R (aG _))) (mY hn)) (mY (aW R (aG _)))
 show aE (hv.get hx) λa ha hr=>sm (ha.symm.trans (Ž.symm.trans hp))▸hr
set_option tactic.hygienic true in
theorem LD{x:V}{a:Ä}{xs:List V}{w:List (Nat×bu)}{Ì:Å}(hh:A.handled=Ã)(he:o9 H x=À (xs,w))(hp:bA gg J s x H a Ì):Ci A J s xs w Ê H a Ì:=by
 show bA.el hp λaS S R hx hS=>⟨aS,S,R,hS,λE Q h=>?_⟩;revert he h;apply VR.el hx
 case tup=>
  intro l c vs ht hz hv hn he h;have cG:c<Ì.heap.objs.size:=aE ht λ_ e _=>ő e;revert h;apply dD he;intro h;show Ă ht (xK S R hv hn (Walks.tuple (prog:=gg.prog) (w:=gg.w) hh _ c (ń cG) vs.toArray) N (by decide) (λi h st=>eJ st.1 λo ho hc hd=>⟨o,_,ho,hc,hd⟩) (λi h st=>eJ st.2 λo ho hc hd=>hd.elim λn hd=>⟨o,_,n,ho,hd⟩) ⟨⟨_,ŀ _ N,N,N⟩,ht.push _⟩ h)
 case ro=>
  intro ns c vs hl hz hi he h;have jd:Ì.heap.IsList c vs.toArray:=hl.at λo e=>R.base _ o e;have cG:c<Ì.heap.objs.size:=aE jd λ_ e _=>ő e;revert h;apply dD he;intro h;show į jd (xK S R (Bk hi) (λhm=>aE hl λo ho _=>no ((R.fresh _ hm).symm.trans ho)) (Walks.list (prog:=gg.prog) (w:=gg.w) hh _ c (ń cG) vs.toArray) N (by decide) (λi h st=>eJ st.1 λo ho hc hd=>⟨o,_,ho,hc,hd⟩) (λi h st=>eJ st.2 λo ho hc hd=>hd.elim λn hd=>⟨o,_,n,ho,hd⟩) ⟨⟨_,ŀ _ N,N,N⟩,jd.push _⟩ h)
 case ref=>
  intro r c hr he h;show bT he λl' jd he=>eJ (R.list hr jd) λvs hl hv hz=>?_;have cG:c<Ì.heap.objs.size:=hl.elim λ_ e=>ő e;revert h;apply dD he;intro h;show į hl.isList (h _ [.ref r] [.ref c] [_] [] _ _ _ (rT.list hh Ì.heap.objs.size c r l' (ń cG)) ⟨_,ŀ _ N,N,N⟩ (λb o e=>O' _ e) (.one (.ref hr)) (mY (S.back (aG _))) (SG (mY (aX R (aG _))) KS) (mY (aW R (aG _))))
 all_goals (intros;rename_i he h;exact no he)
theorem Dw(a b c:Int):iZ a b c=(Builtin.Range.rangeSize a b c).toNat:=rfl
theorem NF{x y c:Int}(hc:0<c):0<=(if y<x then (x-y-1) / c+1 else 0):=by
 by_cases h:y<x
 ·rw[if_pos h];show ϸ (Int.ediv_nonneg (by show y2 0xce18e010811b10 N h) (acW hc)) (by decide)
 ·rw[if_neg h];show Ŕ 0
theorem NE{x y c M:Int}(hc:0<c)(hM:x-y<=M)(h0:0<=M):(if y<x then (x-y-1) / c+1 else 0)<=M:=by
 by_cases h:y<x
 ·rw[if_pos h];show Ĵ (adV (Int.ediv_le_self c (by show y2 0xce18e010811b10 N h)) 1) (Ĵ (acE (acU _ _)) hM)
 ·rw[if_neg h];show h0
theorem Nn(hc:c≠0)(hp:¬ c > 0):0 < -c:=Int.neg_pos_of_neg (aeC.mpr ⟨ň.mp hp,hc⟩)
theorem fJ(a b c:Int)(hc:c≠0):0<=Builtin.Range.rangeSize a b c:=by
 unfold Builtin.Range.rangeSize;by_cases hp:c > 0
 ·rw[if_pos hp];show NF hp
 ·rw[if_neg hp];show NF (Nn hc hp)
theorem uX(a b c:Int)(hc:c≠0)(ha:-1000000000<=a/\a<=1000000000)(hb:-1000000000<=b/\b<=1000000000):Builtin.Range.rangeSize a b c<=2000000000:=by
 unfold Builtin.Range.rangeSize;by_cases hp:c > 0
 ·rw[if_pos hp];show NE hp (afw hb.2 ha.1) (by decide)
 ·rw[if_neg hp];show NE (Nn hc hp) (afw ha.2 hb.1) (by decide)
theorem J5(h1:-3000000000<=x)(h2:x<=3000000000):Builtin.Range.rangeFitsLong x=Æ:=Ł.mpr ⟨decide_eq_true (Ĵ (by decide) h1),decide_eq_true (acT h2 (by decide))⟩
theorem F5(h:-1000000000<=x/\x<=1000000000):Builtin.Range.rangeFitsLong x=Æ:=J5 (Ĵ (by decide) h.1) (Ĵ h.2 (by decide))
theorem rx(hc:c≠0)(ha:-1000000000<=a/\a<=1000000000)(hb:-1000000000<=b/\b<=1000000000)(ff:-1000000000<=c/\c<=1000000000):Builtin.Range.small a b c=Æ:=by
 show Ł.mpr ⟨Ł.mpr ⟨Ł.mpr ⟨Ł.mpr ⟨F5 ha,F5 hb⟩,F5 ff⟩,J5 (Ĵ (by decide) (fJ a b c hc)) (Ĵ (uX a b c hc ha hb) (by decide))⟩,ab0.mpr (.inr ?_)⟩;have hl:=ad6 hb.1 ff.1;have hu:=ad6 hb.2 ff.2;by_cases hp:c > 0
 ·rw[if_pos hp];show J5 (Ĵ (by decide) (ae6 b c 1▸aeD hl 1)) (Ĵ (ae6 b c 1▸aeD hu 1) (by decide))
 ·rw[if_neg hp];show J5 (Ĵ (by decide) (ϒ b c 1▸adV hl 1)) (Ĵ (ϒ b c 1▸adV hu 1) (by decide))
theorem D2{a b c:Int}{r:È}{t u v:Tok}{Ì:Å}(hh:A.handled=Ã)(hr:IsRange Ì.heap r a b c t u v)(hc:c≠0)(C8:Builtin.Range.small a b c=Æ){aS:List È}(S:SE J s.heap aS Ì.heap)(R:ar gg aS H Ì.heap)(hS:bK s Ì):
  Ci A J s (cz a b c) [] Ê H (.ref r) Ì:=by
 show⟨aS,S,R,hS,λE Q h=>?_⟩;have fb:s.heap.get? Ì.heap.objs.size=Ã:=S.back (aG _);have YX:Ì.heap.objs.size∉aS:=aX R (aG _);have fB:gg.B.get? Ì.heap.objs.size=Ã:=aW R (aG _);have cb:(cz a b c).length=(Builtin.Range.rangeSize a b c).toNat:=(H' _).trans Ľ;have W:=Walks.range (prog:=gg.prog) (w:=gg.w) hh Ì.heap.objs.size a c (cz a b c).length;show wpAny_pyIter_range hr C8 (h _ [] [] [_] [] _ _ _ (rT.walks (n := "range_iterator") W (λb hb=>.inl (W'.mp hb)) N (by decide) ?_ (λi h st=>KS) ?_) ?_ (λb o e=>O' _ e) .nil (mY fb) (SG (mY YX) KS) (mY fB))
 ·intro i h st
  show⟨_,_,st,N,N⟩
 ·intro J h i v x hv hp hx
  show ä hp λt q2=>?_;apply aY q2;have hi:i<iZ a b c:=aeS (Ğ.mp hx).1 cb;unfold cz at hx;rw[Ġ,ό hi]at hx;apply dJ hx;show .int _ _
 ·show IsRangeIter _ _ _ _ _
  have e:(((Builtin.Range.rangeSize a b c).toNat:Int)-(0:Nat))=Builtin.Range.rangeSize a b c:=(ae7 _).trans (Ϥ (fJ a b c hc));have e2:a+((0:Nat):Int)*c=a:=(congrArg (a+·) (acD c)).trans (Œ a);rw[cb,e,e2];show ŀ _ N
end
section
variable{A:Ñ}{E:Ä->Å->Prop}{s:Å}
theorem dH{cP}(sT:s.heap.IsTupleIter it t i)
  (ht:s.heap.IsTuple t cP) (hx:cP[i]?=À x)
  (hQ:∀h',h'.IsTupleIter it t (i+1)->Heap.SameBut it s.heap h'->Q x {s with heap:=h'}) :
  É mo A (Builtin.SmallTypes.nextOf (.ref it)) Q E s:=by
 show eJ (id sT) λo ho hc hd=>?_;obtain ⟨ol,Wb,_,nl,MM⟩:=ht;unfold Builtin.SmallTypes.nextOf
 show Â (ñ (name:=ϻ "__next__") sT.typeIs F.slot_tuple_iterator_next
  (þ F.slot_tuple_iterator_next sT.typeIs F.entry_tuple_iterator_next ?_ (F.args_tuple_iterator_next_1 _)))
 show É _ _ (field (.ref it) 0>>=_) _ _ s;show Â (Þ ho hd (x:=.ref t) N ?_);show É _ _ (if (Value.ref t==Value.none)=Æ then _ else _) _ _ s;rw[if_neg (show ¬ ((Value.ref t==Value.none)=Æ) from Ķ)];show É _ _ (field (.ref it) 1>>=_) _ _ s;show Â (Þ ho hd (x:=.int i 0) N ?_);show É _ _ (seqItems? (.ref t)>>=_) _ _ s;show Â (æ Wb MM ?_)
 simp only[ĭ,hx]
 show Â (ħ ho hd (by simp) (Ç ⟨x,rfl,Ç (hQ _ ?_ (Heap.SameBut.update ..))⟩))
 show⟨_,ϟ _ ho (Obj.isFreed_of_fields (Obj.data_mapFields hd _)),(Obj.cls_mapFields ..).trans hc,by
  rw[Obj.data_mapFields hd];simp [õ]⟩
theorem ej{cP}(hh:A.handled=Ã)
  (sT:s.heap.IsTupleIter it t i) (ht:s.heap.IsTuple t cP) (hx:cP[i]?=Ã)
  (hE:∀h' e,Heap.ExtBut it s.heap h'->(∃o,h'.get? e=À o/\o.cls=.type "StopIteration")->E (.ref e) {s with heap:=h'}) :
  É mo A (Builtin.SmallTypes.nextOf (.ref it)) Q E s:=by
 show eJ (id sT) λo ho hc hd=>?_;obtain ⟨ol,Wb,_,nl,MM⟩:=ht;unfold Builtin.SmallTypes.nextOf
 show Â (ñ (name:=ϻ "__next__") sT.typeIs F.slot_tuple_iterator_next
  (þ F.slot_tuple_iterator_next sT.typeIs F.entry_tuple_iterator_next ?_ (F.args_tuple_iterator_next_1 _)))
 show É _ _ (field (.ref it) 0>>=_) _ _ s;show Â (Þ ho hd (x:=.ref t) N ?_);show É _ _ (if (Value.ref t==Value.none)=Æ then _ else _) _ _ s;rw[if_neg (show ¬ ((Value.ref t==Value.none)=Æ) from Ķ)];show É _ _ (field (.ref it) 1>>=_) _ _ s;show Â (Þ ho hd (x:=.int i 0) N ?_);show É _ _ (seqItems? (.ref t)>>=_) _ _ s;show Â (æ Wb MM ?_)
 simp only[ĭ,hx]
 show Â (ú (Â (ħ ho hd (by simp) ?_)));show É _ _ (newExc (.type "StopIteration") []>>=_) _ _ _;show Â ?_
 simp only[newExc,newTuple]
 refine Â (ç (Â (m:=firstArgMember _ _) (wpAny_of_eq (a:=Value.none) (by first|rfl|(simp only[firstArgMember];rfl)) (ç ?_ (by size_fits)))) (by size_fits))
 simp only[raiseNew]
 show Â (wpAny_handled ?_)
 first|rw[show A.in1.handled=Ã from hh]|rw[hh]
 show Â (Ç (wpAny_throw (hE _ _ (((Heap.SameBut.update ..).extBut.push _).push _) ⟨_,ŀ _ N,N⟩)))
end
theorem yS(hh:A.handled=Ã)(it l:È)(eT:l≠it)(cP:Array Ä):
  Draws gg.prog gg.w A it [it,l] cP.size (λi v=>cP[i]?=À v) (λi h=>h.IsTupleIter it l i/\h.IsTuple l cP) where
 live:=λz z st=>let ⟨o,ho,_⟩:=st.1;⟨o,ho⟩
 frame:=λz z z st hk=>⟨st.1.at λo e=>hk it (by simp) o e,st.2.at λo e=>hk l (by simp) o e⟩
 item:=λi s Q E hi st hQ=>by show dH st.1 st.2 (x:=cP[i]) (by simp [hi]) λh' OW nO=>hQ _ h' s.toks (by simp [hi]) ⟨OW,st.2.extBut nO.extBut eT⟩ nO
 done:=λs Q E st hE=>ej hh st.1 st.2 (by simp) hE
theorem uN:∀{k i:Nat} {x:V},(dQ k xs)[i]?=À x->∃y,xs[i]?=À y/\x=.tup [.int ((k+i:Nat):Int),y]:=by
 induction xs with
 |nil=>show λh=>no h
 |cons y xs ih=>
  intro k i x h;cases i with
  |zero=>show⟨y,N,(sm h).symm⟩
  |succ i=>show(show k+1+i=k+(i+1) from Nat.succ_add_eq_add_succ k i)▸ih (i:=i) h
theorem uO(xs:List V):∀k:Nat,(dQ k xs).length=xs.length:=by
 induction xs with
 |nil=>show λz=>rfl
 |cons y xs ih=>show λk=>congrArg (·+1) (ih (k+1))
def N6(e it c:È)(vs:List Ä)(i:Nat)(h:Ó):Prop:=(∃old,IsEnum h e it i old)/\h.IsTupleIter it c i/\h.IsTuple c vs.toArray
def QC(e it c:È)(vs:List Ä)(i:Nat)(a:Ä)(h:Ó):Prop:=∃T,a=.ref T/\(∃x,IsEnumOut h e it ((i:Int)+1) x T)/\(h.IsTupleIter it c (i+1)/\h.IsTuple c vs.toArray)/\T≠e/\T≠it
theorem fN(x:h.IsTupleIter a t i):eH h a:=eJ x λo ho hc hd=>⟨o,ho,iI hc hd (by decide)⟩
theorem N6.ns(st:N6 e it c vs i h):∀b∈[e,it],eH h b:=qR (st.1.elim λz he=>⟨_,he,iI N N (by decide)⟩) (fN st.2.1)
theorem QC.ns(m:QC e it c vs i a h):∀b∈[e,it],eH h b:=tW m λz z k3 k4 z=>qR (k3.elim λz he=>⟨_,he,iI N N (by decide)⟩) (fN k4.1)
section
variable{A:Ñ}{E:Ä->Å->Prop}{J:List È}{H:ag}{s:Å}
theorem rT.enum(hh:A.handled=Ã)(e it c:È)(xs:List V)(vs:List Ä)(Pd:xs.length=vs.length)(XM:e≠it)(ZG:e≠c)(Zx:c≠it):
  rT A e (dQ 0 xs) [] Æ xs vs [e,it] [c] (N6 e it c vs) (QC e it c vs):=by
 have D:=yS (A:=A.in1) hh it c Zx vs.toArray;have W:=WalksT.enumerateD D e XM (λq=>(ą.mp q).elim XM λq=>ZG (W'.mp q)) G';have hz:(dQ 0 xs).length=vs.toArray.size:=(uO xs 0).trans Pd;show⟨λi h h' st hk=>W.frame i h h' st λb hb o x=>hk b ((ą.mp hb).elim (λq=>.inl (ą.mpr (.inl q))) λhb=>(ą.mp hb).imp (λq=>J' _ (W'.mpr q)) id) o x,λi h st=>N6.ns st,λi a h m=>QC.ns m,λi h st=>mY (eJ st.2.2 λo ho j hd=>hd.elim λn hd=>⟨o,_,n,ho,hd⟩),?_,?_,?_,W.self⟩
 ·intro i J H s Q E x st R hv hw hn hB hx hQ
  show W.item i s Q E (hz▸(Ğ.mp hx).1) st λT cc h' tk hP hsz hT hm M=>?_;show gm hP λt y hy q4=>aE (uN hx) λz vu q3=>aE (hv.get vu) λa ha hr=>?_;have M':Mv [e,it] J s.heap h':=Mv.all M;rw[q4]at hT;show hQ _ h' tk M' (R.mv M (N6.ns st) (λb hb=>hn b (.inl hb)) hB) (aY (C:=λx=>VR gg J h' x (.ref T)) q3 (.tup (l:=[.int ((0+i:Nat):Int),z]) (vs:=[.int i t,y]) hT (show 2<=aw+1 by decide) (.cons (show VR gg J h' (.int ((0+i:Nat):Int)) (.int i t) by rw[Ż];show .int _ _) (.one (sm (ha.symm.trans (Ž.symm.trans hy))▸M'.vr (N6.ns st) hr))) (aX R (hO hsz)))) ⟨T,N,hm.1,hm.2.1,hm.2.2.1,hm.2.2.2⟩
 ·intro t ht i J H a s Q E m R hn hB hQ
  show YQ (id m) λT q2 m1 m2 m3 m4=>?_;have O:=QC.ns m;rw[q2];show ht.elim (λq=>yT q λes k p q=>?_) λq=>absurd q.1 afg;rw[q];show W.go es k p i T s Q E ⟨m1,m2,m3,m4⟩ λh' aT M=>hQ h' (Mv.all M) (R.mv M O (λb hb=>hn b (.inl hb)) hB) aT
 ·intro J H s Q E st R hv hw hn hB hQ
  rw[hz]at st;show W.done s Q E st λh' tk M=>hQ h' tk (Mv.all M) (R.mv M (N6.ns st) (λb hb=>hn b (.inl hb)) hB)
end
section
variable{A:Ñ}{E:Ä->Å->Prop}{s:Å}
structure ZP where
 z:È
 TI:È
 TO:È
 i1:È
 i2:È
 l1:È
 l2:È
 vs:List Ä
 ws:List Ä
 b:Bool
def rX(b:Bool)(h:Ó)(it l:È)(i:Nat)(vs:List Ä):Prop:=match b with
 |true=>h.IsListIter it l i/\h.IsList l vs.toArray
 |false=>h.IsTupleIter it l i/\h.IsTuple l vs.toArray
theorem rX.at(x:rX b h it l i vs)(h1:∀o,h.get? it=À o->h'.get? it=À o)(h2:∀o,h.get? l=À o->h'.get? l=À o):rX b h' it l i vs:=by
 cases b
 ·show⟨x.1.at h1,x.2.at h2⟩
 ·show⟨x.1.at h1,x.2.at h2⟩
theorem rX.ext(x:rX b h it l i vs)(e:Heap.ExtBut a h h')(n1:it≠a)(n2:l≠a):rX b h' it l i vs:=x.at (λz q=>e _ _ n1 q) λz q=>e _ _ n2 q
theorem rX.item(x:rX b s.heap it l i vs)(eT:l≠it)(hx:vs[i]?=À v)(hQ:∀h',rX b h' it l (i+1) vs->Heap.SameBut it s.heap h'->Q v {s with heap:=h'}):É mo A (Builtin.SmallTypes.nextOf (.ref it)) Q E s:=by
 cases b
 ·show dH x.1 x.2 (Ž.trans hx) λh' hi hs=>hQ h' ⟨hi,x.2.extBut hs.extBut eT⟩ hs
 ·show wpAny_nextOf_list_item x.1 x.2 (Ž.trans hx) λh' hi hs=>hQ h' ⟨hi,x.2.extBut hs.extBut eT⟩ hs
theorem rX.done(hh:A.handled=Ã)(x:rX b s.heap it l i vs)(hx:vs[i]?=Ã)(hE:∀h' e,Heap.ExtBut it s.heap h'->(∃o,h'.get? e=À o/\o.cls=.type "StopIteration")->E (.ref e) {s with heap:=h'}):É mo A (Builtin.SmallTypes.nextOf (.ref it)) Q E s:=by
 cases b
 ·show ej hh x.1 x.2 (Ž.trans hx) hE
 ·show wpAny_nextOf_list_end hh x.1 x.2 (Ž.trans hx) hE
theorem rX.soft(x:rX b h it l i vs):eH h it:=by
 cases b
 ·show fN x.1
 ·show eJ x.1 λo ho hc hd=>⟨o,ho,iI hc hd (by decide)⟩
theorem rX.seq(x:rX b h it l i vs):vA h l:=by
 cases b
 ·show eJ x.2 λo ho z hd=>hd.elim λn hd=>⟨o,_,n,ho,hd⟩
 ·show eJ x.2 λo ho z hd=>hd.elim λn hd=>⟨o,_,n,ho,hd⟩
structure ZS(c:ZP)(f:Ä)(k:Nat)(h:Ó):Prop where
 z:IsZip h c.z c.TI c.TO f
 p:î h c.TI (.ref c.i1) (.ref c.i2)
 i1:rX c.b h c.i1 c.l1 k c.vs
 i2:h.IsTupleIter c.i2 c.l2 k
 t2:h.IsTuple c.l2 c.ws.toArray
def ZK(c:ZP)(h h':Ó):Prop:=∀b o,b≠c.z->b≠c.TO->b≠c.i1->b≠c.i2->h.get? b=À o->h'.get? b=À o
end
def jK(A:Ñ)(E:Ä->Å->Prop)(s:Å)(c:ZP)(k:Nat)(a:Ä)(b:Ä)(Q:Ä->Å->Prop):Prop:=∀(hh:A.handled=Ã) (D:ZipApart c.z c.TI c.TO c.i1 c.i2 c.l1 c.l2) (Ø:ZS c .none k s.heap) (sS:î s.heap c.TO a b) (hQ:∀x y,c.vs[k]?=À x->c.ws[k]?=À y->∀h',ZS c (õ s.heap.objs.size) (k+1) h'->î h' c.TO x y->î h' s.heap.objs.size x y->ZK c s.heap h'->Q (.ref s.heap.objs.size) {s with heap:=h'}) (hE:(c.vs[k]?=Ã\/c.ws[k]?=Ã)->∀h' e a' b',ZK c s.heap h'->î h' c.TO a' b'->(∃o,h'.get? e=À o/\o.cls=.type "StopIteration")->E (.ref e) {s with heap:=h'}),É mo A (Đ.«zip.__next__» ⟨[.ref c.z],[]⟩) (λgw s'=>∃v,gw=.done (.ret v)/\Q v s') E s
namespace zipT_nextH
def kc:=hc (U8 jK) ({},λz z=>True,dS,⟨0,0,0,0,0,0,0,[],[],Ê⟩,0,.none,.none,λz z=>True)
def A:=kc.1
def E:=kc.2.1
def s:=kc.2.2.1
def c:=kc.2.2.2.1
def k:=kc.2.2.2.2.1
def a:=kc.2.2.2.2.2.1
def b:=kc.2.2.2.2.2.2.1
def Q:=kc.2.2.2.2.2.2.2
theorem kt:jK A E s c k a b Q:=by
 intro hh D Ø sS hQ hE;have stop:∀{h:Ó} {e:È} {o:Obj} {f:Ä},IsZip h c.z c.TI c.TO f->h.get? e=À o->o.cls=.type "StopIteration"->e≠c.z:=λh1 h2 h3 q=>absurd (show Value.type "zip" = .type "StopIteration" from (congrArg Obj.cls (sm (h1.symm.trans (q▸h2)))).trans h3) (by decide);show É _ _ (field (.ref c.z) 2>>=_) _ _ _;show Â (Þ Ø.z N (x:=.bool Ê) N ?_);show É _ _ (field (.ref c.z) 3>>=_) _ _ _;show Â (Þ Ø.z N (x:=.ref c.TI) N (Â (æ Ø.p N ?_)));show É _ _ (Builtin.SmallTypes.ownedTupleIsFree (.ref c.z)>>=_) _ _ _;show Â ?_;unfold Builtin.SmallTypes.ownedTupleIsFree;show Â (Þ Ø.z N (x:=.none) N (Ç ?_))
 simp only[if_true]
 show Â (ú (Â (Þ Ø.z rfl (x:=.ref c.TO) rfl (Â (ā Ø.z (by simp) λbH Be ke=>?_)))));replace Be:IsZip bH c.z c.TI c.TO .ellipsis:=Be;show Â ?_
 simp only[adQ,List.zipIdx_nil,adp,adA]
 show Â (Â (wpAny_onRaise ?_));show É _ _ (Builtin.SmallTypes.nextOf (.ref c.i1)>>=_) _ _ _;cases hx:c.vs[k]? with
 |none=>show Â (rX.done hh (Ø.i1.ext ke.extBut D.i1z D.l1z) hx λjw e lC he=>aE he λoe RZ EH=>?_);have M4:IsZip jw c.z c.TI c.TO .ellipsis:=lC _ _ D.i1z.symm Be;show ā M4 (by simp) λeG j ic=>hE (.inl hx) eG e a b (λc o c1 j c3 j x=>ic.extBut _ _ c1 (lC _ _ c3 (ke.extBut _ _ c1 x))) (ic.extBut _ _ D.TOz (lC _ _ D.TOi1 (ke.extBut _ _ D.TOz sS))) ⟨oe,ic.extBut _ _ (stop M4 RZ EH) RZ,EH⟩
 |some x=>
  show Â ((Ø.i1.ext ke.extBut D.i1z D.l1z).item D.l1i1 hx λjw Rp lC=>Ç ?_);have Gj:î jw c.TO a b:=lC.extBut _ _ D.TOi1 (ke.extBut _ _ D.TOz sS);show Â (æ Gj N (Â (wpAny_updateSeq_pair Gj λeG uf ic=>?_)));replace uf:î eG c.TO x b:=uf;show Â (ĕ (Ç (Â (Â (wpAny_onRaise ?_)))));show É _ _ (Builtin.SmallTypes.nextOf (.ref c.i2)>>=_) _ _ _;have MG:=((Ø.i2.extBut ke.extBut D.i2z).extBut lC.extBut D.i12.symm).extBut ic.extBut D.TOi2.symm;have MP:=((Ø.t2.extBut ke.extBut D.l2z).extBut lC.extBut D.l2i1).extBut ic.extBut D.l2TO;have M5:IsZip eG c.z c.TI c.TO .ellipsis:=ic.extBut _ _ D.TOz.symm (lC.extBut _ _ D.i1z.symm Be);have pj:∀b o,b≠c.z->b≠c.TO->b≠c.i1->s.heap.get? b=À o->eG.get? b=À o:=λb o c1 c2 c3 e=>ic.extBut _ _ c2 (lC.extBut _ _ c3 (ke.extBut _ _ c1 e));cases hy:c.ws[k]? with
  |none=>show Â (ej hh MG MP (Ž.trans hy) λlW e mP he=>aE he λoe RZ EH=>?_);have M6:IsZip lW c.z c.TI c.TO .ellipsis:=mP _ _ D.i2z.symm M5;show ā M6 (by simp) λjU j mQ=>hE (.inr hy) jU e x b (λb o c1 c2 c3 c4 x=>mQ.extBut _ _ c1 (mP _ _ c4 (pj b o c1 c2 c3 x))) (mQ.extBut _ _ D.TOz (mP _ _ D.TOi2 uf)) ⟨oe,mQ.extBut _ _ (stop M6 RZ EH) RZ,EH⟩
  |some y=>
   show Â (dH MG MP (Ž.trans hy) λlW Rq mP=>Ç ?_);have Gk:î lW c.TO x b:=mP.extBut _ _ D.TOi2 uf;show Â (æ Gk N (Â (wpAny_updateSeq_pair Gk λjU ug mQ=>?_)));replace ug:î jU c.TO x y:=ug;show Â (ĕ (Ç (Ç (Â (æ ug N (Â (wpAny_newTuple ?_)))))));have hsz:jU.objs.size=s.heap.objs.size:=by rw[mQ.1,mP.1,ic.1,lC.1,ke.1]
   have M7:IsZip jU c.z c.TI c.TO .ellipsis:=mQ.extBut _ _ D.TOz.symm (mP.extBut _ _ D.i2z.symm M5);have RP:ZK c s.heap jU:=λb o c1 c2 c3 c4 e=>mQ.extBut _ _ c2 (mP.extBut _ _ c4 (pj b o c1 c2 c3 e));have eT:=Ř (ő M7);show É _ _ (Builtin.SmallTypes.ownedTupleHandOut (.ref c.z) (.ref jU.objs.size)>>=_) _ _ _;show Â ?_;unfold Builtin.SmallTypes.ownedTupleHandOut;have Sf:IsZip (jU.push {cls:=.type "tuple",data:=.seq #[x,y]}) c.z c.TI c.TO .ellipsis:=O' _ M7;show Â (ā Sf (by simp) λKr GK Bc=>?_);replace GK:IsZip Kr c.z c.TI c.TO (õ jU.objs.size):=GK;show ā GK (by simp) λGL Bg MY=>?_;replace Bg:IsZip GL c.z c.TI c.TO (õ jU.objs.size):=Bg;have up:∀b o,b≠c.z->jU.get? b=À o->GL.get? b=À o:=λb o c1 e=>MY.extBut _ _ c1 (Bc.extBut _ _ c1 (O' _ e));have MJ:î GL jU.objs.size x y:=MY.extBut _ _ eT (Bc.extBut _ _ eT (ŀ _ rfl));have K:ZK c s.heap GL:=λb o c1 c2 c3 c4 e=>up b o c1 (RP b o c1 c2 c3 c4 e);rw[hsz]at Bg MJ;show Ç ⟨_,rfl,?_⟩;show Q (.ref jU.objs.size) _;rw[hsz];show hQ x y hx hy GL ⟨Bg,K _ _ D.TIz D.TITO D.TIi1 D.TIi2 Ø.p,(((Rp.ext ic.extBut D.TOi1.symm D.l1TO).ext mP.extBut D.i12 D.l1i2).ext mQ.extBut D.TOi1.symm D.l1TO).at (λo e=>up _ o D.i1z e) λo e=>up _ o D.l1z e,(Rq.extBut mQ.extBut D.TOi2.symm).at λo e=>up _ o D.i2z e,Ø.t2.at λo e=>K _ o D.l2z D.l2TO D.l2i1 D.l2i2 e⟩ (up _ _ D.TOz ug) MJ K
end zipT_nextH
theorem Ey:jK A E s c k a b Q:=hk (P:=U8 jK) zipT_nextH.kt (A,E,s,c,k,a,b,Q)
section
variable{A:Ñ}{E:Ä->Å->Prop}{s:Å}
theorem ov(hh:A.handled=Ã)(D:ZipApart c.z c.TI c.TO c.i1 c.i2 c.l1 c.l2)(Ø:ZS c .none k s.heap)(sS:î s.heap c.TO a b)
  (hQ:∀x y,c.vs[k]?=À x->c.ws[k]?=À y->∀h',ZS c (õ s.heap.objs.size) (k+1) h'->î h' c.TO x y->î h' s.heap.objs.size x y->ZK c s.heap h'->Q (À (.ref s.heap.objs.size)) {s with heap:=h'})
  (hE:(c.vs[k]?=Ã\/c.ws[k]?=Ã)->∀h' a' b',ZK c s.heap h'->î h' c.TO a' b'->Q Ã {s with heap:=h'}):É mo A (Ĳ (.ref c.z)) Q E s:=by
 have hT:s.TypeIs (.ref c.z) "zip" := ⟨_,Ø.z,N⟩;unfold Ĳ
 show Â (ı (ñ (name:=ϻ "__next__") hT F.slot_zip_next
  (þ F.slot_zip_next hT F.entry_zip_next (Ey hh D Ø sS (λx y hx hy h' a1 a2 a3 a4=>Ç (hQ x y hx hy h' a1 a2 a3 a4)) λoh h' e a' b' hk hp he=>?_) (F.args_zip_next_1 _))))
 show aE he λo ho hc=>Â (wpAny_isInstance (T := "StopIteration") (b:=Æ) ⟨o,ho,hc⟩ isSubtype_stop (Ç (hE oh _ a' b' hk hp)))
noncomputable def TZ(b:Bool):String:=if b then "list_iterator" else "tuple_iterator"
def P6(b:Bool)(h:Ó)(l:È)(xs:List Ä):Prop:=match b with
 |true=>h.IsList l xs.toArray
 |false=>h.IsTuple l xs.toArray
theorem Kx(ht:P6 b s.heap l xs)(hQ:Q (.ref s.heap.objs.size) {s with heap:=s.heap.push {cls:=.type (TZ b),data:=.fields #[.ref l,.int 0 0]}}):É (model prog w) A (pyIter (.ref l)) Q E s:=by
 cases b
 ·show Ă ht hQ
 ·show į ht hQ
theorem P6.sqs(ht:P6 b h l xs)(g:h'.get? a=À {cls:=.type (TZ b),data:=.fields #[.ref l,.int 0 0]})(k:∀c o,h.get? c=À o->h'.get? c=À o):rX b h' a l 0 xs:=by
 cases b
 ·show⟨⟨_,g,N,N⟩,ht.at λo e=>k _ o e⟩
 ·show⟨⟨_,g,N,N⟩,ht.at λo e=>k _ o e⟩
abbrev T8(b:Bool)(h:Ó)(l1:È):Ó:=h.push {cls:=.type (TZ b),data:=.fields #[.ref l1,.int 0 0]}
abbrev T9(b:Bool)(h:Ó)(l1 l2:È):Ó:=(T8 b h l1).push {cls:=.type "tuple_iterator",data:=.fields #[.ref l2,.int 0 0]}
abbrev Ua(b:Bool)(h:Ó)(l1 l2:È):Ó:=(T9 b h l1 l2).push {cls:=.type "tuple",data:=.seq #[.ref h.objs.size,.ref (T8 b h l1).objs.size]}
abbrev Ub(b:Bool)(h:Ó)(l1 l2:È):Ó:=(Ua b h l1 l2).push {cls:=.type "tuple",data:=.seq #[.none,.none]}
abbrev NX(b:Bool)(h:Ó)(l1 l2:È):Ó:=(Ub b h l1 l2).push {cls:=.type "zip",data:=.fields #[.none,.bool Ê,.bool Ê,.ref (T9 b h l1 l2).objs.size,.ref (Ua b h l1 l2).objs.size]}
theorem zY(b:Bool)(l1 l2:È)(xs:List Ä)(ys:Array Ä):
  Meets (Đ.«zip.__new__» ⟨[.type "zip",.ref l1,.ref l2],[]⟩) (λz R s=>P6 b s.heap l1 xs/\s.heap.IsTuple l2 ys /\
   R (.ok (.ret (.ref (Ub b s.heap l1 l2).objs.size))) {s with heap:=NX b s.heap l1 l2}):=
 .of_wp λprog w A R s h=>by
  obtain ⟨hp,g,d,tk,os⟩:=s;obtain ⟨wK,Kn,h⟩:=h;have Pc:=sub_zip;have Y9:P6 b (Shared.heap ⟨hp,g,d,tk,os⟩) l1 xs:=wK;have Za:Heap.IsTuple (Shared.heap ⟨hp.push {cls:=.type (TZ b),data:=.fields #[.ref l1,.int 0 0]},g,d,tk,os⟩) l2 ys:=Heap.IsTuple.push Kn _
  wp_walk using Kx Y9,Ă Za
  show⟨_,N,h⟩
theorem sE(wK:P6 b s.heap l1 xs)(Kn:s.heap.IsTuple l2 ys)
  (h:∀h',IsZip h' (s.heap.objs.size+4) (s.heap.objs.size+2) (s.heap.objs.size+3) .none->î h' (s.heap.objs.size+2) (.ref s.heap.objs.size) (.ref (s.heap.objs.size+1)) ->
   î h' (s.heap.objs.size+3) .none .none->rX b h' s.heap.objs.size l1 0 xs->h'.IsTupleIter (s.heap.objs.size+1) l2 0->h'.objs.size=s.heap.objs.size+5 ->
   (∀c o,s.heap.get? c=À o->h'.get? c=À o)->Q (.ref (s.heap.objs.size+4)) {s with heap:=h'}) :
  É mo A (Á (.type "zip") [.ref l1,.ref l2]) Q E s:=by
 show callType_new F.called_zip (by decide) (F.typeCall_zip_2 _ _) (F.newCall_zip_2 _ _) (λobj=>F.args_object_init_3 obj _ _) F.entry_zip_new
  (zY b l1 l2 xs ys) ⟨wK,Kn,?_⟩
 have z1:(T8 b s.heap l1).objs.size=s.heap.objs.size+1:=ϓ ..;have z2:(T9 b s.heap l1 l2).objs.size=s.heap.objs.size+2:=by rw[ϓ,z1]
 have z3:(Ua b s.heap l1 l2).objs.size=s.heap.objs.size+3:=by rw[ϓ,z2]
 have z4:(Ub b s.heap l1 l2).objs.size=s.heap.objs.size+4:=by rw[ϓ,z3]
 have z5:(NX b s.heap l1 l2).objs.size=s.heap.objs.size+5:=by rw[ϓ,z4]
 have g5:(NX b s.heap l1 l2).get? (Ub b s.heap l1 l2).objs.size=À _:=ŀ _ N;have g4:(NX b s.heap l1 l2).get? (Ua b s.heap l1 l2).objs.size=À _:=O' _ (ŀ _ N);have g3:(NX b s.heap l1 l2).get? (T9 b s.heap l1 l2).objs.size=À _:=O' _ (O' _ (ŀ _ N));have g2:(NX b s.heap l1 l2).get? (T8 b s.heap l1).objs.size=À _:=O' _ (O' _ (O' _ (ŀ _ N)));have g1:(NX b s.heap l1 l2).get? s.heap.objs.size=À _:=O' _ (O' _ (O' _ (O' _ (ŀ _ N))));show _/\_;rw[z2,z3,z4]at g5;rw[z1,z2]at g3;rw[z3]at g4;rw[z1]at g2;rw[z4]
 have up:∀c o,s.heap.get? c=À o->(NX b s.heap l1 l2).get? c=À o:=λc o x=>
  O' _ (O' _ (O' _ (O' _ (O' _ x))))
 show⟨⟨_,g5,N⟩,h _ g5 g3 g4 (wK.sqs g1 up) ⟨_,g2,N,N⟩ z5 up⟩
end
theorem o7:∀{ys:List V} {i:Nat} {p:V},(bz xs ys)[i]?=À p->∃x y,xs[i]?=À x/\ys[i]?=À y/\p=.tup [x,y]:=by
 induction xs with
 |nil=>show λh=>no h
 |cons x xs ih=>
  intro ys i p h;cases ys with
  |nil=>show no h
  |cons y ys=>
   cases i with
   |zero=>show⟨x,y,N,N,(sm h).symm⟩
   |succ i=>show ih (ys:=ys) (i:=i) h
theorem o6(xs:List V):∀ys:List V,xs.length<=(bz xs ys).length\/ys.length<=(bz xs ys).length:=by
 induction xs with
 |nil=>show λz=>.inl (đ _)
 |cons x xs ih=>
  intro ys;cases ys with
  |nil=>show .inr (đ _)
  |cons y ys=>show(ih ys).imp Š Š
section
variable{A:Ñ}{E:Ä->Å->Prop}{J:List È}{H:ag}{s:Å}
theorem bv.split:∀{vs:List Ä},l.length=vs.length->bv gg J h (l++m) (vs++ws)->bv gg J h l vs/\bv gg J h m ws:=by
 induction l with
 |nil=>intro vs e x;rw[ϳ.mp e.symm]at x ⊢;show⟨.nil,x⟩
 |cons v l ih=>
  intro vs e x;cases vs with
  |nil=>show nomatch e
  |cons a vs=>show x.consE λa' us q hv hr=>?_;rw[<-(List.cons.inj q).1]at hv;rw[<-(List.cons.inj q).2]at hr;show aQ (ih (ad5.inj e) hr) λh1 h2=>⟨.cons hv h1,h2⟩
theorem ar.mvOwn{wr:List È}{TO:È}{r:Nat}{x y:Ä}{h h':Ó}(R:ar gg J H h)(hr:J[r]?=À TO)(ho:H[r]?=À .own)(M:∀b o,b∉wr->b≠TO->h.get? b=À o->h'.get? b=À o)(hw:∀b∈wr,eH h b)(hn:∀b∈wr,b∉J)(hB:∀b∈wr,gg.B.get? b=Ã)
  (hp:î h' TO x y):ar gg J H h'/\Mv wr J h h':=by
 have Rv:TO∈J:=ģ hr;have M':Mv wr J h h':=λb o h1 h2 e=>M b o h1 (λq=>h2 (q▸Rv)) e;show⟨⟨λb o e=>M b o (λhb=>no ((hB b hb).symm.trans e)) (λq=>no ((R.fresh _ Rv).symm.trans (q▸e))) (R.base b o e),R.fresh,R.len,R.nodup,λi a m h1 h2=>?_,R.tabs⟩,M'⟩;by_cases hi:i=r
 ·rw[hi]at h1 h2
  apply fR (sm (hr.symm.trans h1));apply fR (sm (ho.symm.trans h2));show .own hp
 ·have ha:a≠TO:=λq=>hi (w9 R.nodup h1 (q▸hr))
  show(R.objs i a m h1 h2).stepT (λz z e=>e) (M'.tup hw) λo e=>M _ o (λhb=>hn _ hb (ģ h1)) ha e
theorem ZS.ns(Ø:ZS c f k h):∀b∈[c.z,c.i1,c.i2],eH h b:=λb hb=>(ą.mp hb).elim (λe=>e▸⟨_,Ø.z,iI N N (by decide)⟩) (qR Ø.i1.soft (fN Ø.i2) b)
def ZM(c:ZP)(k:Nat)(a:Ä)(h:Ó):Prop:=∃T,a=.ref T/\ZS c (õ T) (k+1) h
theorem LM(x:h.IsTuple t xs):vA h t:=eJ x λo ho z hd=>hd.elim λn hd=>⟨o,_,n,ho,hd⟩
theorem ZK.mv(K:ZK c h h'):∀b o,b∉[c.z,c.i1,c.i2]->b≠c.TO->h.get? b=À o->h'.get? b=À o:=λb o hb hT e=>
 K b o (λq=>hb (ą.mpr (.inl q))) hT (λq=>hb (J' _ (ą.mpr (.inl q)))) (λq=>hb (J' _ (J' _ (W'.mpr q)))) e
structure ZI(c:ZP)(r:Nat)(xs ys:List V)(J:List È)(H:ag)(h:Ó):Prop where
 hr:J[r]?=À c.TO
 ho:H[r]?=À .own
 p:∃x y,î h c.TO x y
 x:bv gg J h xs c.vs
 y:bv gg J h ys c.ws
theorem rT.zip(hh:A.handled=Ã)(c:ZP)(r:Nat)(xs ys:List V)(Pd:xs.length=c.vs.length)(hw0:ys.length=c.ws.length)(D:ZipApart c.z c.TI c.TO c.i1 c.i2 c.l1 c.l2):
  rT A c.z (bz xs ys) [(r,.own)] Æ (.ref r::(xs++ys)) (.ref c.TO::(c.vs++c.ws)) [c.z,c.i1,c.i2] [c.TI,c.l1,c.l2] (ZS c .none) (ZM c):=by
 have Ju:∀{J:List È} {H:ag} {h:Ó},ar gg J H h->bv gg J h (.ref r::(xs++ys)) (.ref c.TO::(c.vs++c.ws))->cA H [(r,.own)]->ZI c r xs ys J H h:=λ{J H h} R hv hw=>by
  show hv.consE λa us q hv R9=>?_
  have hr:J[r]?=À c.TO:=by show aE (vR N hv) λd q1 q2=>?_;have:=(List.cons.inj q).1.trans q1;show Value.ref.inj this▸q2
  show aQ (bv.split Pd ((List.cons.inj q).2▸R9)) λhx hy=>?_;have h1:=tB hw;show⟨hr,h1,?_,hx,hy⟩;have:=R.objs _ _ _ hr h1;cases this with
  |own ho=>show⟨_,_,ho⟩
 show⟨λi h h' st hk=>⟨hk _ (.inl G') _ st.z,hk _ (.inr G') _ st.p,st.i1.at (λo e=>hk _ (.inl (J' _ G')) o e) λo e=>hk _ (.inr (J' _ G')) o e,st.i2.at λo e=>hk _ (.inl (J' _ (J' _ G'))) o e,
   st.t2.at λo e=>hk _ (.inr (J' _ (J' _ G'))) o e⟩,
  λi h st=>ZS.ns st,λi a h m=>m.elim λT m=>ZS.ns m.2,λi h st b hb=>(ą.mp hb).elim (λe=>e▸⟨_,_,_,st.p,N⟩) (qR st.i1.seq (LM st.t2) b),?_,?_,?_,λi s Q E st hQ=>ţ st.z hQ⟩
 ·intro i J H s Q E x st R hv hw hn hB hx hQ
  have I:=Ju R hv hw;show fQ (o7 hx) λp q hp hq q5=>aE (I.x.get hp) λap Qb hrp=>aE (I.y.get hq) λaq Xz hrq=>mJ I.p λa b sS=>ov hh D st sS (λx' y' C9 Sd h' a1 a2 a5 hk=>aQ (R.mvOwn I.hr I.ho hk.mv (ZS.ns st) (λb hb=>hn b (.inl hb)) hB a2) λR' M=>hQ _ h' s.toks M R' (aY (C:=λx=>VR gg J h' x _) q5 (.tup (l:=[p,q]) (vs:=[x',y']) ⟨_,a5,N,_,N⟩ (show 2<=aw+1 by decide) (.cons (sm (Qb.symm.trans C9)▸M.vr (ZS.ns st) hrp) (.one (sm (Xz.symm.trans Sd)▸M.vr (ZS.ns st) hrq))) (aX R (aG _)))) ⟨_,N,a1⟩) λoh=>oh.elim (λq=>no (q.symm.trans Qb)) λq=>no (q.symm.trans Xz)
 ·intro t ht i J H a s Q E m R hn hB hQ
  show aE m λT q2 Ø=>?_;rw[q2];show ht.elim (λq=>yT q λes k p q=>?_) λq=>absurd q.1 afg;rw[q];show wpAny_letOwnedTupleGo_zip Ø.z λh' sW nO=>?_;have M:∀b o,b∉[c.z,c.i1,c.i2]->s.heap.get? b=À o->h'.get? b=À o:=λb o hb e=>nO.extBut b o (λq=>hb (ą.mpr (.inl q))) e;show hQ h' (Mv.all M) (R.mv M (ZS.ns Ø) (λb hb=>hn b (.inl hb)) hB) ⟨sW,nO.extBut _ _ D.TIz Ø.p,Ø.i1.ext nO.extBut D.i1z D.l1z,Ø.i2.extBut nO.extBut D.i2z,Ø.t2.extBut nO.extBut D.l2z⟩
 ·intro J H s Q E st R hv hw hn hB hQ
  have I:=Ju R hv hw;show mJ I.p λa b sS=>?_;have oh:=o6 xs ys;rw[Pd,hw0]at oh;show ov hh D st sS (λx y hx hy=>oh.elim (λq=>no ((Ϡ q).symm.trans hx)) λq=>no ((Ϡ q).symm.trans hy)) λj h' a' b' hk hp=>?_;show aQ (R.mvOwn I.hr I.ho hk.mv (ZS.ns st) (λb hb=>hn b (.inl hb)) hB hp) λR' M=>hQ h' s.toks M R'
end
open AutoSeq1 (wpAny_loadPart')
theorem HB(h:∀b,Q b s):É (model prog w) A (pure a) Q E s:=Ç (h a)
theorem wY(l:È)(cP:Array Ä)(n:Nat)(UZ:Option È)(sl:Array (Option Ä)):
  Meets (Đ.«enumerate.__new__» ⟨[.type "enumerate",.ref l],[]⟩) (λz R s=>s.heap.get? l=À {cls:=.type "tuple",dict:=UZ,data:=.seq cP n,slots:=sl} /\
   R (.ok (.ret (.ref (s.heap.push {cls:=.type "tuple_iterator",data:=.fields #[.ref l,.int 0 0]}).objs.size)))
    {s with heap:=(s.heap.push {cls:=.type "tuple_iterator",data:=.fields #[.ref l,.int 0 0]}).push {cls:=.type "enumerate",data:=.fields #[.none,.bool Ê,.ref s.heap.objs.size,õ 0,.none,.none]}}):=
 .of_wp λprog w A R s h=>by
  obtain ⟨hp,g,d,tk,os⟩:=s;show aQ h λhl h=>?_;have Pc:=sub_enumerate;have hL:Heap.IsTuple (Shared.heap ⟨hp,g,d,tk,os⟩) l cP:=⟨_,hl,rfl,n,rfl⟩
  wp_walk using ů hl
  show wpAny_stack_any λst=>HB λbb=>?_;cases bb
  ·wp_walk using ů hl,Ă hL
   show⟨_,N,h⟩
  ·wp_walk using ů hl,Ă hL
   show⟨_,N,h⟩
section
variable{A:Ñ}{E:Ä->Å->Prop}{s:Å}
theorem yM(hL:s.heap.IsTuple l cP)
  (h:∀h',IsEnum h' (s.heap.objs.size+1) s.heap.objs.size 0 .none->h'.IsTupleIter s.heap.objs.size l 0->h'.objs.size=s.heap.objs.size+2 ->
   (∀b o,s.heap.get? b=À o->h'.get? b=À o)->Q (.ref (s.heap.objs.size+1)) {s with heap:=h'}) :
  É mo A (Á (.type "enumerate") [.ref l]) Q E s:=by
 obtain ⟨⟨c,UZ,dt,sl⟩,hl,hc,n,hd⟩:=hL;replace hc:c=.type "tuple" := hc;replace hd:dt=.seq cP n:=hd;subst hc hd
 show callType_new F.called_enumerate (by decide) (F.typeCall_enumerate_1 _) (F.newCall_enumerate_1 _) (λobj=>F.args_object_init_2 obj _) F.entry_enumerate_new
  (wY l cP n UZ sl) ⟨hl,?_⟩
 have hz:(s.heap.push {cls:=.type "tuple_iterator",data:=.fields #[.ref l,.int 0 0]}).objs.size=s.heap.objs.size+1:=ϓ ..;show _/\_;rw[hz]
 have he:IsEnum ((s.heap.push {cls:=.type "tuple_iterator",data:=.fields #[.ref l,.int 0 0]}).push
   {cls:=.type "enumerate",data:=.fields #[.none,.bool Ê,.ref s.heap.objs.size,õ 0,.none,.none]}) (s.heap.objs.size+1) s.heap.objs.size 0 .none:=by
  have:=ŀ (s.heap.push {cls:=.type "tuple_iterator",data:=.fields #[.ref l,.int 0 0]})
   (o:={cls:=.type "enumerate",data:=.fields #[.none,.bool Ê,.ref s.heap.objs.size,õ 0,.none,.none]}) N
  rw[hz]at this;show this
 show⟨⟨_,he,N⟩,h _ he ⟨_,O' _ (ŀ _ N),N,N⟩ (by rw[ϓ,hz]) λb o x=>O' _ (O' _ x)⟩
end
section
variable{A:Ñ}{E:Ä->Å->Prop}{J:List È}{H:ag}{s:Å}
theorem Ib(hh:A.handled=Ã)(S:SE J s.heap aS Ì.heap)(R:ar gg aS H Ì.heap)(hx:VR gg aS Ì.heap (.tup xs) a)(hS:bK s Ì):
  É mo A (Á (.type "enumerate") [a]) (Ci A J s (dQ 0 xs) [] Æ H) E Ì:=by
 cases hx with
 |@tup _ c vs ht hz hv hn=>
  have cG:c<Ì.heap.objs.size:=by show aE ht λz e z=>?_;show ő e
  show yM ht λh' he sT hsz hk=>?_;have fr:∀b∈[Ì.heap.objs.size+1,Ì.heap.objs.size],Ì.heap.get? b=Ã:=qR (hO (ϐ _)) (aG _);show⟨aS,S.trans (SE.keeps _ hk),R.keeps hk,hS,λE Q h=>?_⟩;show wpAny_pyIter_enum he (h _ xs vs _ _ _ _ h' (rT.enum hh (Ì.heap.objs.size+1) Ì.heap.objs.size c xs vs hv.length (Ř (ϊ _)) (Ř (ach cG)) (ń cG)) ⟨⟨_,he⟩,sT,ht.at λo e=>hk _ o e⟩ (λz z e=>e) (hv.step R (SE.keeps _ hk)) (λb hb=>S.back (fr b hb)) (SG (λb hb=>aX R (fr b hb)) (mY hn)) λb hb=>aW R (fr b hb))
theorem LF(hh:A.handled=Ã)(S:SE J s.heap aS Ì.heap)(R:ar gg aS H Ì.heap)(hx:VR gg aS Ì.heap (.tup xs) a)(hy:VR gg aS Ì.heap (.tup ys) b)(hS:bK s Ì):
  É mo A (Á (.type "zip") [a,b]) (Ci A J s (bz xs ys) [(H.length,.own)] Æ (H++[.own])) E Ì:=by
 cases hx with
 |@tup _ l1 vs ht hz hv hn=>
  cases hy with
  |@tup _ l2 ws hu sW hw hm=>
   have GA:l1<Ì.heap.objs.size:=by show aE ht λz e z=>?_;show ő e
   have GB:l2<Ì.heap.objs.size:=by show aE hu λz e z=>?_;show ő e
   show sE (b:=Ê) ht hu λh' vu Vk sS VP VQ hsz hk=>?_;have fr:∀k,Ì.heap.get? (Ì.heap.objs.size+k)=Ã:=λk=>hO (Ō _ _);show aQ (R.moreOwn hk (fr 3) (aW R (fr 3)) sS) λR' S'=>?_;have D:=zipApart_new GA GB;have qJ:∀k,k≠3->Ì.heap.objs.size+k∉aS++[Ì.heap.objs.size+3]:=λk Gy py=>(Ģ.mp py).elim (aX R (fr k)) λq=>Gy (adi (W'.mp q));have R0:∀c,c<Ì.heap.objs.size->c∉aS->c∉aS++[Ì.heap.objs.size+3]:=λc hc RB py=>(Ģ.mp py).elim RB λq=>absurd hc (W'.mp q▸ķ.mpr (Ō _ _));have w3:∀b∈[Ì.heap.objs.size+4,Ì.heap.objs.size,Ì.heap.objs.size+1],Ì.heap.get? b=Ã:=λb hb=>(ą.mp hb).elim (λe=>e▸fr 4) (qR (P:=λb=>Ì.heap.get? b=Ã) (aG _) (fr 1) b);show⟨aS++[Ì.heap.objs.size+3],S.trans S',R',hS,λE Q h=>?_⟩;have zD:(aS++[Ì.heap.objs.size+3])[H.length]?=À (Ì.heap.objs.size+3):=by rw[<-R.len];simp
   show ţ vu (h _ _ _ _ _ _ _ h' (rT.zip hh ⟨Ì.heap.objs.size+4,Ì.heap.objs.size+2,Ì.heap.objs.size+3,Ì.heap.objs.size,Ì.heap.objs.size+1,l1,l2,vs,ws,Ê⟩ H.length xs ys hv.length hw.length D)
    ⟨vu,Vk,VP,VQ,hu.at λo e=>hk _ o e⟩ (λz z e=>e) (.cons (.ref zD) ((hv.step R S').append (hw.step R S'))) (λb hb=>S.back (w3 b hb))
    (SG (λb hb=>(ą.mp hb).elim (λe=>e▸qJ 4 (by decide)) (qR (P:=λb=>b∉aS++[Ì.heap.objs.size+3]) (qJ 0 (by decide)) (qJ 1 (by decide)) b)) λb hb=>(ą.mp hb).elim (λe=>e▸qJ 2 (by decide)) (qR (P:=λb=>b∉aS++[Ì.heap.objs.size+3]) (R0 _ GA hn) (R0 _ GB hm) b)) λb hb=>aW R (w3 b hb))
end
structure ZB(c:ZP)(T k:Nat)(h:Ó):Prop where
 z:∃u,h.get? c.z=À {cls:=.type "zip",data:=.fields #[õ T,.bool u,.bool Ê,.ref c.TI,.ref c.TO]}
 t:∃x y,î h T x y
 p:î h c.TI (.ref c.i1) (.ref c.i2)
 i1:rX c.b h c.i1 c.l1 k c.vs
 i2:h.IsTupleIter c.i2 c.l2 k
 t2:h.IsTuple c.l2 c.ws.toArray
def Tj(c:ZP)(h h':Ó):Prop:=∀b o,b≠c.z->b≠c.i1->b≠c.i2->h.get? b=À o->h'.get? b=À o
section
variable{A:Ñ}{E:Ä->Å->Prop}{s:Å}{c:ZP}{T k:Nat}{Q:Ä->Å->Prop}
theorem yf{Q:Option Obj->Å->Prop}(h:Q (s.heap.get? a) s):É mo A (loadIfAlive a) Q E s:=λz z z=>h
theorem Ev(hh:A.handled=Ã)(D:ZipApart c.z c.TI c.TO c.i1 c.i2 c.l1 c.l2)(hT:T≠c.z/\T≠c.i1/\T≠c.i2)(Ø:ZB c T k s.heap)
  (hQ:∀x y,c.vs[k]?=À x->c.ws[k]?=À y->∀h',ZB c T (k+1) h'->î h' s.heap.objs.size x y->Tj c s.heap h'->Q (.ref s.heap.objs.size) {s with heap:=h'})
  (hE:(c.vs[k]?=Ã\/c.ws[k]?=Ã)->∀h' e,Tj c s.heap h'->(∃o,h'.get? e=À o/\o.cls=.type "StopIteration")->E (.ref e) {s with heap:=h'}) :
  É mo A (Đ.«zip.__next__» ⟨[.ref c.z],[]⟩) (λgw s'=>∃v,gw=.done (.ret v)/\Q v s') E s:=by
 show Ø.z.elim λu hz=>mJ Ø.t λtx ty ht=>?_;show É _ _ (field (.ref c.z) 2>>=_) _ _ _;show Â (Þ hz N (x:=.bool Ê) N ?_);show É _ _ (field (.ref c.z) 3>>=_) _ _ _;show Â (Þ hz N (x:=.ref c.TI) N (Â (æ Ø.p N ?_)));show É _ _ (Builtin.SmallTypes.ownedTupleIsFree (.ref c.z)>>=_) _ _ _;show Â (Ï (Q:=λb s'=>b=Ê/\∃h1,s'={s with heap:=h1}/\h1.get? c.z=À {cls:=.type "zip",data:=.fields #[õ T,.bool Æ,.bool Ê,.ref c.TI,.ref c.TO]}/\Heap.SameBut c.z s.heap h1) ?_ (λb s' h=>aQ h λq h=>eJ h λh1 q1 vu uq=>?_) λj j x=>x)
 ·unfold Builtin.SmallTypes.ownedTupleIsFree
  show Â (Þ hz N (x:=õ T) N ?_);show É _ _ (loadIfAlive T>>=_) _ _ _;show Â (yf ?_);rw[show s.heap.get? T=_ from ht];show É _ _ (field (.ref c.z) 1>>=_) _ _ _;show Â (Þ hz N (x:=.bool u) N ?_);cases u with
  |true=>show Ç ⟨N,s.heap,N,hz,⟨N,λj j=>rfl⟩⟩
  |false=>show É _ _ (setField (.ref c.z) 1 (.bool Æ)>>=_) _ _ _;show Â (ā hz (by simp) λh1 vu uq=>Ç ⟨rfl,h1,rfl,vu,uq⟩)
 rw[q,q1]
 simp only[<-Array.forIn_toList,adp,adA]
 show Â (Â (Â (ß ?_)));show É _ _ (Builtin.SmallTypes.nextOf (.ref c.i1)>>=_) _ _ _;have Z1:=Ø.i1.ext uq.extBut D.i1z D.l1z;cases hx:c.vs[k]? with
 |none=>show Â (rX.done hh Z1 hx λh2 e I7 he=>hE (.inl hx) h2 e (λb o c1 c2 j x=>I7 _ _ c2 (uq.extBut _ _ c1 x)) he)
 |some x=>
  show Â (Z1.item D.l1i1 hx λh2 z2 I7=>Ç (Ç (Â (Â (ß ?_)))));show É _ _ (Builtin.SmallTypes.nextOf (.ref c.i2)>>=_) _ _ _;have Z2:=(Ø.i2.extBut uq.extBut D.i2z).extBut I7.extBut D.i12.symm;have T2:=(Ø.t2.extBut uq.extBut D.l2z).extBut I7.extBut D.l2i1;cases hy:c.ws[k]? with
  |none=>show Â (ej hh Z2 T2 (Ž.trans hy) λh3 e C7 he=>?_);show hE (.inr hy) h3 e (λb o c1 c2 c3 x=>C7 _ _ c3 (I7.extBut _ _ c2 (uq.extBut _ _ c1 x))) he
  |some y=>
   show Â (dH Z2 T2 (Ž.trans hy) λh3 z3 C7=>Ç ?_);show Ç (Ç (Â (wpAny_newTuple ?_ (show 2<=ê by decide))));have up:∀b o,b≠c.z->b≠c.i1->b≠c.i2->s.heap.get? b=À o->h3.get? b=À o:=λb o c1 c2 c3 x=>C7.extBut _ _ c3 (I7.extBut _ _ c2 (uq.extBut _ _ c1 x));have hsz:h3.objs.size=s.heap.objs.size:=by rw[C7.1,I7.1,uq.1]
   show É _ _ (ret (.ref h3.objs.size)) _ _ _;show Ç ⟨_,N,?_⟩;rw[hsz];have pu:∀b o,h3.get? b=À o->(h3.push {cls:=.type "tuple",data:=.seq [x,y].toArray}).get? b=À o:=λb o e=>O' _ e;have K:Tj c s.heap (h3.push {cls:=.type "tuple",data:=.seq [x,y].toArray}):=λb o c1 c2 c3 e=>pu b o (up b o c1 c2 c3 e);show hQ x y hx hy _ ⟨⟨Æ,pu _ _ (C7.extBut _ _ D.i2z.symm (I7.extBut _ _ D.i1z.symm vu))⟩,⟨tx,ty,K _ _ hT.1 hT.2.1 hT.2.2 ht⟩,K _ _ D.TIz D.TIi1 D.TIi2 Ø.p,(z2.ext C7.extBut D.i12 D.l1i2).at (λo e=>pu _ o e) λo e=>pu _ o e,z3.at λo e=>pu _ o e,(T2.extBut C7.extBut D.l2i2).at λo e=>pu _ o e⟩ ?_ K;rw[<-hsz];show ŀ _ N
theorem ZB.ns(Ø:ZB c T k h):∀b∈[c.z,c.i1,c.i2],eH h b:=λb hb=>(ą.mp hb).elim (λe=>e▸Ø.z.elim λy hz=>⟨_,hz,iI N N (by decide)⟩) (qR Ø.i1.soft (fN Ø.i2) b)
def ZW(c:ZP)(k:Nat)(h:Ó):Prop:=(k=0/\ZS c .none k h)\/∃T,ZB c T k h/\T≠c.z/\T≠c.i1/\T≠c.i2
theorem ZW.ns(Ø:ZW c k h):∀b∈[c.z,c.i1,c.i2],eH h b:=Ø.elim (λz=>ZS.ns z.2) λz=>z.elim λy z=>ZB.ns z.1
theorem ZW.zT(Ø:ZW c k s.heap):s.TypeIs (.ref c.z) "zip" := Ø.elim (λz=>⟨_,z.2.z,N⟩) λz=>z.elim λy z=>z.1.z.elim λy hz=>⟨_,hz,N⟩
theorem ZW.next{Q:Option Ä->Å->Prop}(hh:A.handled=Ã)(D:ZipApart c.z c.TI c.TO c.i1 c.i2 c.l1 c.l2)(Ø:ZW c k s.heap)(sS:î s.heap c.TO a b)
  (hQ:∀x y,c.vs[k]?=À x->c.ws[k]?=À y->∀h' a' b',ZW c (k+1) h'->î h' c.TO a' b'->î h' s.heap.objs.size x y->ZK c s.heap h'->Q (À (.ref s.heap.objs.size)) {s with heap:=h'})
  (hE:(c.vs[k]?=Ã\/c.ws[k]?=Ã)->∀h' a' b',ZK c s.heap h'->î h' c.TO a' b'->Q Ã {s with heap:=h'}):É mo A (Ĳ (.ref c.z)) Q E s:=by
 show Ø.elim (λz=>?_) λz=>tW z λT z t1 t2 t3=>?_
 ·have l1:c.z<s.heap.objs.size:=ő z.2.z
  have l2:c.i1<s.heap.objs.size:=z.2.i1.soft.elim λj h=>ő h.1;have l3:c.i2<s.heap.objs.size:=(fN z.2.i2).elim λj h=>ő h.1;show ov hh D z.2 sS (λx y hx hy h' a1 a2 a3 a4=>hQ x y hx hy h' _ _ (.inr ⟨_,⟨⟨Ê,a1.z⟩,⟨x,y,a3⟩,a1.p,a1.i1,a1.i2,a1.t2⟩,Ř l1,Ř l2,Ř l3⟩) a2 a3 a4) hE
 ·have hT:s.TypeIs (.ref c.z) "zip" := Ø.zT
  have to:∀{h'},Tj c s.heap h'->ZK c s.heap h'/\î h' c.TO a b:=λK=>⟨λb o c1 j c3 c4 e=>K b o c1 c3 c4 e,K _ _ D.TOz D.TOi1 D.TOi2 sS⟩;unfold Ĳ
  show Â (ı (ñ (name:=ϻ "__next__") hT F.slot_zip_next
   (þ F.slot_zip_next hT F.entry_zip_next (Ev hh D ⟨t1,t2,t3⟩ z (λx y hx hy h' a1 a2 a3=>Ç (hQ x y hx hy h' _ _ (.inr ⟨T,a1,t1,t2,t3⟩) (to a3).2 a2 (to a3).1)) λoh h' e hk he=>?_) (F.args_zip_next_1 _))))
  show aE he λo ho hc=>Â (wpAny_isInstance (T := "StopIteration") (b:=Æ) ⟨o,ho,hc⟩ isSubtype_stop (Ç (hE oh _ a b (to hk).1 (to hk).2)))
theorem AA:ă (.type "zip") "__len__" = pure Ã:=by rw[ł,ě];kernel_rfl
theorem yl:ă (.type "zip") "__length_hint__" = pure Ã:=by rw[ł,ě];kernel_rfl
structure Tl(c:ZP)(S r:Nat)(xs ys:List V)(J:List È)(H:ag):Prop where
 D:ZipApart c.z c.TI c.TO c.i1 c.i2 c.l1 c.l2
 hr:J[r]?=À c.TO
 ho:H[r]?=À .own
 n:∀b∈[c.z,c.i1,c.i2],b∉J/\gg.B.get? b=Ã
 s:S∉J/\gg.B.get? S=Ã
 a:S≠c.z/\S≠c.TO/\S≠c.i1/\S≠c.i2/\S≠c.TI/\S≠c.l1/\S≠c.l2
 z:(bz xs ys).length<=aw
structure UB(c:ZP)(S:Nat)(l:List V)(J:List È)(H:ag)(h0:Ó)(acc:Array Ä)(h:Ó):Prop where
 R:ar gg J H h
 l:bv gg J h l acc.toList
 s:∃n,h.get? S=À {cls:=.type "list",data:=.seq acc n}
 k:∀b o,b≠c.z->b≠c.TO->b≠c.i1->b≠c.i2->b≠S->h0.get? b=À o->h.get? b=À o
structure W6(c:ZP)(S:Nat)(xs ys:List V)(J:List È)(H:ag)(h0:Ó)(k:Nat)(acc:Array Ä)(h:Ó):Prop where
 w:ZW c k h
 x:bv gg J h xs c.vs
 y:bv gg J h ys c.ws
 e:UB c S ((bz xs ys).take k) J H h0 acc h
theorem IK(C:Tl c S r xs ys J H)(R:ar gg J H h):∃a b,î h c.TO a b:=by
 have:=R.objs _ _ _ C.hr C.ho;cases this with
 |own ho=>show⟨_,_,ho⟩
theorem NZ(C:Tl c S r xs ys J H)(I:W6 c S xs ys J H h0 k acc h)(K:ZK c h h')(hp:î h' c.TO a b):UB c S ((bz xs ys).take k) J H h0 acc h'/\bv gg J h' xs c.vs/\bv gg J h' ys c.ws:=by show aQ (I.e.R.mvOwn C.hr C.ho K.mv I.w.ns (λb hb=>(C.n b hb).1) (λb hb=>(C.n b hb).2) hp) λR' M=>⟨⟨R',M.vrs I.w.ns I.e.l,I.e.s.imp λz q=>K _ _ C.a.1 C.a.2.1 C.a.2.2.1 C.a.2.2.2.1 q,λb o c1 c2 c3 c4 c5 e=>K b o c1 c2 c3 c4 (I.e.k b o c1 c2 c3 c4 c5 e)⟩,M.vrs I.w.ns I.x,M.vrs I.w.ns I.y⟩
theorem ZW.at(Ø:ZW c k h)(hk:∀b o,b≠S->h.get? b=À o->h'.get? b=À o)(a:S≠c.z/\S≠c.TO/\S≠c.i1/\S≠c.i2/\S≠c.TI/\S≠c.l1/\S≠c.l2)(hS:h.get? S=À {cls:=.type "list",data:=.seq acc n}):ZW c k h':=by show YN a λa1 a2 a3 a4 a5 a6 a7=>Ø.imp (λz=>⟨z.1,hk _ _ a1.symm z.2.z,hk _ _ a5.symm z.2.p,z.2.i1.at (λo e=>hk _ o a3.symm e) λo e=>hk _ o a6.symm e,z.2.i2.at λo e=>hk _ o a4.symm e,z.2.t2.at λo e=>hk _ o a7.symm e⟩) λz=>tW z λT z t1 t2 t3=>⟨T,⟨z.z.imp λj q=>hk _ _ a1.symm q,mJ z.t λx y q=>⟨x,y,hk _ _ (λe=>?_) q⟩,hk _ _ a5.symm z.p,z.i1.at (λo e=>hk _ o a3.symm e) λo e=>hk _ o a6.symm e,z.i2.at λo e=>hk _ o a4.symm e,z.t2.at λo e=>hk _ o a7.symm e⟩,t1,t2,t3⟩;have:Value.type "tuple" = .type "list" := congrArg Obj.cls (sm (q.symm.trans (e▸hS)));show absurd this (by decide)
theorem Ew{R:Result->Å->Prop}(hh:A.handled=Ã)(C:Tl c S r xs ys J H)(hR:∀h' acc,UB c S (bz xs ys) J H h0 acc h'->R (.ok (.ret .none)) {s with heap:=h'}):
  ∀m k h acc,k+m=(bz xs ys).length->W6 c S xs ys J H h0 k acc h->ĝ mo A (.builtin "list.extend.loop" ⟨[.ref S,.ref c.z,.none],[]⟩) R {s with heap:=h}:=by
 intro m
 induction m with
 |zero=>
  intro k h acc hk I;have hk:k=(bz xs ys).length:=hk;show é F.entry_extend_loop ?_;rw[Around.under_plainId F.plain_extend_loop _];show É _ A.in1 (Ĳ (.ref c.z)>>=_) _ _ _;show mJ (IK C I.e.R) λa b sS=>Â (ZW.next (s:={s with heap:=h}) (A:=A.in1) hh C.D I.w sS (λx y hx hy=>?_) λj h' a' b' K hp=>?_)
  ·have oh:=o6 xs ys
   rw[I.x.length,I.y.length,<-hk]at oh;show oh.elim (λq=>no ((Ϡ q).symm.trans hx)) λq=>no ((Ϡ q).symm.trans hy)
  ·have E:=(NZ C I K hp).1
   rw[hk,Ň]at E;show Ç (hR h' acc E)
 |succ m ih=>
  intro k h acc hk I;have cG:k<(bz xs ys).length:=hk▸abQ (ż m);show é F.entry_extend_loop ?_;rw[Around.under_plainId F.plain_extend_loop _];show É _ A.in1 (Ĳ (.ref c.z)>>=_) _ _ _;have hg:(bz xs ys)[k]?=À (bz xs ys)[k]:=N' cG;show fQ (o7 hg) λu v hu hv q=>aE (I.x.get hu) λau XG hru=>aE (I.y.get hv) λav XH hrv=>mJ (IK C I.e.R) λa b sS=>Â (ZW.next (s:={s with heap:=h}) (A:=A.in1) hh C.D I.w sS (λx y hx hy h' a' b' Z' hp hn K=>im (NZ C I K hp) λE' X' Y'=>E'.s.elim λn es=>?_) λoh=>oh.elim (λq=>no (q.symm.trans XG)) λq=>no (q.symm.trans XH));have cb:acc.size=k:=by rw[<-ž,<-I.e.l.length,ũ];show Ų (ī cG)
  show É _ A.in1 (ŏ S (·.push (.ref h.objs.size))>>=_) _ _ _;have hz:=C.z;show Â (Ć es N (Ç ⟨Ĉ F.plain_extend_loop _,ih (k+1) _ (acc.push (.ref h.objs.size)) (by rw[<-hk];show Ϸ k 1 m) ?_⟩) (by rw[cb];show z' (ī cG) hz) (by show (acc.push _).size<=_;rw[afn,cb];show Š (z' (ī cG) hz)));have ot:∀b o,b≠S->h'.get? b=À o->(h'.update S (Obj.mapSeq (·.push (.ref h.objs.size)))).get? b=À o:=λb o hb e=>(Ϧ _ _ (Ne.symm hb)).trans e;have sf:∀b o,h'.get? b=À o->jZ o->b∉J->(h'.update S (Obj.mapSeq (·.push (.ref h.objs.size)))).get? b=À o/\b∉J:=λb o e hd hb=>⟨ot b o (λq=>by rw[q,es]at e;show gT N (sm e▸hd)) e,hb⟩;have qJ:h.objs.size∉J:=aX I.e.R (aG h)
  have Kp:VR gg J h' (bz xs ys)[k] (.ref h.objs.size):=by rw[q];have M:Mv [c.z,c.i1,c.i2] J h h':=λb o h1 h2 e=>K.mv b o h1 (λz=>h2 (z▸ģ C.hr)) e;show .tup (l:=[u,v]) (vs:=[x,y]) ⟨_,hn,N,_,N⟩ (show 2<=aw+1 by decide) (.cons (sm (XG.symm.trans hx)▸M.vr I.w.ns hru) (.one (sm (XH.symm.trans hy)▸M.vr I.w.ns hrv))) qJ
  show⟨Z'.at ot C.a es,X'.stepT (λj j e=>e) sf,Y'.stepT (λj j e=>e) sf,E'.R.other C.s.1 C.s.2 ot λo e=>by rw[es]at e;show sm e▸gT N,?_,⟨_,ϟ _ es N⟩,λb o c1 c2 c3 c4 c5 e=>ot b o c5 (E'.k b o c1 c2 c3 c4 c5 e)⟩;rw[ady,hg,ac6];show((E'.l.append (.one Kp)).stepT (λj j e=>e) sf)
theorem II(hh:A.handled=Ã)(R:ar gg J H s.heap)(hx:J[i]?=À l1)(hl:lst H i=À xs)(hy:VR gg J s.heap (.tup ys) b)(hz:(bz xs ys).length<=aw):
  É mo A (Á (.type "zip") [.ref l1,b]) (λz s'=>É mo A (Á (.type "list") [z]) (bA gg J s (.ref (H.length+1)) (H++[.own]++[.lst (bz xs ys)])) E s') E s:=by
 show eJ (R.list hx hl) λvs wK TL vu=>?_;cases hy with
 |@tup _ l2 ws hu sW hw hm=>
  have GA:l1<s.heap.objs.size:=by show aE wK.isList λy e y=>?_;show ő e
  have GB:l2<s.heap.objs.size:=by show aE hu λy e y=>?_;show ő e
  show sE (b:=Æ) wK.isList hu λh' vu Vk sS VP VQ hsz hk=>?_;have fr:∀k,s.heap.get? (s.heap.objs.size+k)=Ã:=λk=>hO (Ō _ _);show aQ (R.moreOwn hk (fr 3) (aW R (fr 3)) sS) λR' S'=>?_;have D:=zipApart_new GA GB;have nk:∀j k:Nat,j≠k->s.heap.objs.size+j≠s.heap.objs.size+k:=λj k h e=>h (adi e);have Kj:∀k,k≠3->s.heap.objs.size+k∉J++[s.heap.objs.size+3]:=λk Gy py=>(Ģ.mp py).elim (aX R (fr k)) λq=>Gy (adi (W'.mp q));have hb:∀k,gg.B.get? (s.heap.objs.size+k)=Ã:=λk=>aW R (fr k);have Zg:h'.get? (s.heap.objs.size+5)=Ã:=hsz▸aG h'
  have C:Tl ⟨s.heap.objs.size+4,s.heap.objs.size+2,s.heap.objs.size+3,s.heap.objs.size,s.heap.objs.size+1,l1,l2,vs,ws,Æ⟩ (s.heap.objs.size+5) H.length xs ys (J++[s.heap.objs.size+3]) (H++[.own]):=
   ⟨D,by rw[<-R.len];simp,by simp,λb hm=>(ą.mp hm).elim (λe=>e▸⟨Kj 4 (by decide),hb 4⟩) (qR (P:=λb=>b∉J++[s.heap.objs.size+3]/\gg.B.get? b=Ã) ⟨Kj 0 (by decide),hb 0⟩ ⟨Kj 1 (by decide),hb 1⟩ b),⟨Kj 5 (by decide),hb 5⟩,
    ⟨nk 5 4 (by decide),nk 5 3 (by decide),nk 5 0 (by decide),nk 5 1 (by decide),nk 5 2 (by decide),Ř (afh 5 GA),Ř (afh 5 GB)⟩,hz⟩
  show callType_codes (Q₁:=λobj Ì=>obj=.ref (s.heap.objs.size+5)/\Ì={s with heap:=h'.push {cls:=.type "list",data:=.seq #[]}}) F.called_list (F.typeCall_list_1 _) F.entry_list_init
   (code_list_new _ ⟨by rw[<-hsz],N⟩) λobj Ì bH=>?_
  show aQ bH λq1 q2=>?_;apply aY q1;apply aY q2;have g1:(h'.push {cls:=.type "list",data:=.seq #[]}).get? (s.heap.objs.size+5)=À {cls:=.type "list",data:=.seq #[]}:=hsz▸ŀ _ rfl;have k1:∀b o,h'.get? b=À o->(h'.push {cls:=.type "list",data:=.seq #[]}).get? b=À o:=λb o e=>O' _ e;generalize h'.push {cls:=.type "list",data:=.seq #[]}=h1 at g1 k1;show⟨⟨_,g1,rfl⟩,F.args_list_init_2 _ _,?_⟩;show É _ A.in1.in1 (do let old <-Builtin.List.listItems (.ref (s.heap.objs.size+5));Builtin.List.listUpdate (.ref (s.heap.objs.size+5)) (λy=>#[]);letGo old.toList.reverse;Builtin.List.listExtendWith (.ref (s.heap.objs.size+5)) (.ref (s.heap.objs.size+4)) .none) _ _ _;show Â ?_;unfold Builtin.List.listItems;show Â (æ g1 rfl (Ç ?_));show É _ _ (ŏ (s.heap.objs.size+5) (λy=>#[])>>=λy=>letGo (#[]:Array Ä).toList.reverse>>=λy=>Builtin.List.listExtendWith _ _ .none) _ _ _;show Â (Ć g1 rfl ?_);have g2:=ϟ (Obj.mapSeq (λy=>(#[]:Array Ä))) g1 rfl;have ne:∀{b o},h'.get? b=À o->s.heap.objs.size+5≠b:=λe q=>no (Zg.symm.trans (q▸e));have k2:∀b o,h'.get? b=À o->(h1.update (s.heap.objs.size+5) (Obj.mapSeq (λy=>(#[]:Array Ä)))).get? b=À o:=λb o e=>(Ϧ _ _ (ne e)).trans (k1 b o e);generalize h1.update (s.heap.objs.size+5) (Obj.mapSeq (λy=>(#[]:Array Ä)))=h2 at g2 k2;show Â (ĕ ?_);have hT:∀{h},(∀b o,h'.get? b=À o->h.get? b=À o)->Shared.TypeIs {s with heap:=h} (.ref (s.heap.objs.size+4)) "zip" := λk=>⟨_,k _ _ vu,rfl⟩;unfold Builtin.List.listExtendWith;show Â (ŝ (hT k2) ?_);have q1:Builtin.List.listSameRef (.ref (s.heap.objs.size+5)) (.ref (s.heap.objs.size+4))=Ê:=by simp [Builtin.List.listSameRef]
  have q2:(Value.type "zip"==Value.type "list")=Ê:=by decide
  have q3:(Value.type "zip"==Value.type "tuple")=Ê:=by decide
  simp only[q1,q2,q3,adl,abS,if_false]
  show Â (ţ (k2 _ _ vu) (Â (ß ?_)));unfold Builtin.List.listLengthHint;show Â (wpAny_specialOf (hT k2) AA ?_);show É _ _ (specialOf (Value.ref _) (ϻ "__length_hint__")>>=_) _ _ _;show Â (wpAny_specialOf (hT k2) yl (Ç ?_));show É _ _ (rule "list.extend.makes-room" >>= λy=>Builtin.List.listTouch (.ref (s.heap.objs.size+5))>>=λy=>again (.builtin "list.extend.loop" ⟨[.ref (s.heap.objs.size+5),.ref (s.heap.objs.size+4),.none],[]⟩)) _ _ _;show Â (ú (Â ?_));show É _ _ (ŏ (s.heap.objs.size+5) (·.push .none)>>=λy=>ŏ (s.heap.objs.size+5) (·.pop)) _ _ _;show Â (Ć g2 N ?_);have g3:=ϟ (Obj.mapSeq (·.push Value.none)) g2 N;show Ć (hz:=by seq_fits) g3 N ?_;have g4:=ϟ (Obj.mapSeq (·.pop)) g3 N;have k4:∀b o,h'.get? b=À o->((h2.update (s.heap.objs.size+5) (Obj.mapSeq (·.push Value.none))).update (s.heap.objs.size+5) (Obj.mapSeq (·.pop))).get? b=À o:=λb o e=>(Ϧ _ _ (ne e)).trans ((Ϧ _ _ (ne e)).trans (k2 b o e));generalize (h2.update (s.heap.objs.size+5) (Obj.mapSeq (·.push Value.none))).update (s.heap.objs.size+5) (Obj.mapSeq (·.pop))=h4 at g4 k4;have K4:∀b o,s.heap.get? b=À o->h4.get? b=À o:=λb o e=>k4 b o (hk b o e);have St:SE J s.heap (J++[s.heap.objs.size+3]) h4:=S'.trans (SE.keeps _ k4);show Ç ⟨Ĉ F.plain_extend_loop _,Ew (h0:=s.heap) (A:=A.in1) hh C (λqF acc E=>⟨N,?_⟩) (bz xs ys).length 0 h4 #[] (Ż _) ⟨.inl ⟨N,k4 _ _ vu,k4 _ _ Vk,VP.at (λo e=>k4 _ o e) λo e=>k4 _ o e,VQ.at λo e=>k4 _ o e,hu.at λo e=>K4 _ o e⟩,TL.step R St,hw.step R St,R'.keeps k4,.nil,⟨_,g4⟩,λb o y y y y y e=>K4 b o e⟩⟩
  have K5:∀b o,s.heap.get? b=À o->qF.get? b=À o:=λb o e=>by have nf:∀k,b≠s.heap.objs.size+k:=λk q=>no ((fr k).symm.trans (q▸e));show E.k b o (nf 4) (nf 3) (nf 0) (nf 1) (nf 5) e
  show E.s.elim λn es=>⟨J++[s.heap.objs.size+3]++[s.heap.objs.size+5],⟨λb o e y=>.inl (K5 b o e),λb o e=>⟨o,K5 b o e⟩,[s.heap.objs.size+3,s.heap.objs.size+5],by rw[ü];rfl,qR (P:=λb=>s.heap.get? b=Ã) (fr 3) (fr 5)⟩,E.R.more C.s.1 C.s.2 (.lst ⟨n,es⟩ (ź hz) E.l) (λo e=>by rw[es]at e;show sm e▸gT rfl),.ref ?_,rfl,rfl,rfl⟩;rw[<-R.len];simp
end
abbrev Gd{α:Type}(P:α->Prop)(o:Option α):Prop:=∀c,o=À c->P c
theorem ah{α β:Type}{m:Option α}{k:α->Option β}{P:β->Prop}(h:∀a,m=À a->Gd P (k a)):Gd P (m.bind k):=λc e=>by show bT e λa h1 h2=>h a h1 c h2
theorem aL{P:α->Prop}(h:P a):Gd P (À a):=λc e=>sm e▸h
theorem ed{P:α->Prop}:Gd P Ã:=λc e=>no e
theorem c9{P:α->Prop}[Decidable b](h:b->Gd P x):Gd P (if b then x else Ã):=λc e=>h (cT e).1 c (cT e).2
theorem qC{P:α->Prop}[Decidable b](h:¬ b->Gd P x):Gd P (if b then Ã else x):=λc e=>h (zM e).1 c (zM e).2
theorem j9{P:α->Prop}[Decidable b](h:b->Gd P x)(h':¬ b->Gd P y):Gd P (if b then x else y):=λc e=>by
 by_cases hb:b
 ·show h hb c ((if_pos hb).symm.trans e)
 ·show h' hb c ((if_neg hb).symm.trans e)
noncomputable def TY:jm->Nat
 |.ex _=>0
 |.rng1 _=>1
 |_=>2
noncomputable def Wv:jm->Option CE
 |.ex c=>À c
 |.rng1 c=>À c
 |_=>Ã
def W2(f:Ô->Option CE)(sc:à)(e:Ô)(it:jm):Prop:=(∃c,it=.ex c/\f e=À c)\/(∃y p q c,it=.rng1 c/\e=.Call (.Name ("range":Str) p) [y] [] q/\bp sc ("range":Str)=Æ/\f y=À c)\/TY it=2
theorem tN:Gd (W2 f sc e) (EA f cx sc e):=by
 have ex:Gd (W2 f sc e) (Cy f e):=ah λc hc=>aL (.inl ⟨c,N,hc⟩);unfold EA;cases hp:j5 e with
 |none=>show ex
 |some p=>
  show j9 (λhg=>j9 (λh1=>?_) λk=>
   j9 (λk=>ah λk k=>ah λk k=>ah λk k=>aL (.inr (.inr N))) λk=>
   j9 (λk=>ah λk k=>ah λk k=>aL (.inr (.inr N))) λk=>
   ex) λk=>ex
  obtain ⟨gn,as⟩:=p;cases as with
  |nil=>show ed
  |cons a r=>
   show ah λx hx=>?_;cases r with
   |nil=>show aL (.inr (.inl (mJ (iU hp) λp q z=>⟨a,p,q,x,N,beq_iff_eq.mp h1▸z,beq_iff_eq.mp h1▸(Ł.mp hg).1,hx⟩)))
   |cons b r=>
    show ah λy k=>?_;cases r with
    |nil=>show aL (.inr (.inr N))
    |cons c r=>show ed
section
variable{A:Ñ}{E:Ä->Å->Prop}{J aj:List È}{H Î ae:ag}{s Ì:Å}{Z:Env}{O:List (Str×Nat)}{U:aJ}
theorem bA.after(S:SE J s.heap aj Ì.heap)(T:bK s Ì)(h:bA gg aj Ì v ae a cZ):bA gg J s v ae a cZ:=by show bA.el h λaS S' R' V' T'=>⟨aS,S.trans S',R',V',T.trans T'⟩
theorem Cj.after(S:SE J s.heap aj Ì.heap)(T:bK s Ì)(h:Cj aj Ì b ae c cZ):Cj J s b ae c cZ:=by obtain ⟨e,aS,S',R',T'⟩:=h;show⟨e,aS,S.trans S',R',T.trans T'⟩
theorem aR.bind(hA:aR A Z O e m)(h:m U H=À (x,Î))(R:ar gg J H s.heap)(F:eQ (bw A) J Z O U s.heap)
  (k:∀a Ì aj,SE J s.heap aj Ì.heap->bK s Ì->ar gg aj Î Ì.heap->eQ (bw A) aj Z O U Ì.heap->VR gg aj Ì.heap x a->Q a Ì):É mo A (eval e Z) Q E s:=
 Ï (hA U H x Î h J s R F E) (λa Ì ⟨aj,S,aA,bo,T⟩=>k a Ì aj S T aA (F.step R S) bo) λz z x=>x
theorem fA.bind(hA:fA A Z O e m)(h:m U H=À (x,Î))(R:ar gg J H s.heap)(F:eQ (bw A) J Z O U s.heap)
  (k:∀Ì aj,SE J s.heap aj Ì.heap->bK s Ì->ar gg aj Î Ì.heap->eQ (bw A) aj Z O U Ì.heap->Q x Ì):É mo A (isTrue e Z (eval e Z)) Q E s:=
 Ï (hA U H x Î h J s R F E) (λa Ì ⟨e,aj,S,aA,T⟩=>by apply aY e;show k Ì aj S T aA (F.step R S)) λz z x=>x
def si(A:Ñ)(Á:ax)(k:Nat):Prop:=
 ∀as H v ae,Á k as H=À (.ok v,ae)->∀fn,fs[k]?=À fn->∀J s cc,ar gg J H s.heap->sh (bw A) J s.heap->bv gg J s.heap as cc->∀E,É mo A (PySem.call (.ref fn.addr) cc) (bA gg J s v ae) E s
def tF(A:Ñ)(Á:ax):Prop:=∀k,si A Á k
def mw(A:Ñ)(Z:Env)(O:List (Str×Nat))(e:Ô)(two:Bool)(m:aJ->ag->Option (List V×List (Nat×bu)×ag)):Prop:=
 ∀U H xs w ae,m U H=À (xs,w,ae)->∀J s,ar gg J H s.heap->eQ (bw A) J Z O U s.heap->∀E,É mo A (eval e Z) (Ci A J s xs w two ae) E s
theorem DU{e:Ô}{c:CE}{Á:ax}(h:aR A Z O e (ab Á c))(he:isTrue e Z (eval e Z)=(do let v <-eval e Z;standAt e.pos;holding [v] (truthy v))):fA A Z O e (bV Á c):=by intro U H b ae ht J s R F E;show isTrue_plain (h.bind (dW ht) R F λa Ì aj S T aA ba bo=>?_) he;apply aY (vB N bo);show ð ⟨N,aj,S,aA,T⟩
theorem oE{v:V}{k:Const}{n:Nat}{pos:Pos}{Á:ax}(hk:yI k=À v):aR A Z O (.Constant k n pos) (ab Á (.cst v)):=by
 intro U H v' ae he J s R F E;apply dD he;cases k with
 |none=>apply dJ hk;show wpAny_Constant_none (bA.here (tk:=s.toks) R .none)
 |bool _=>apply dJ hk;show wpAny_Constant_bool (bA.here (tk:=s.toks) R (.bool _))
 |int _=>apply dJ hk;show wpAny_Constant_int (bA.here R (.int _ _))
 |str _=>apply dJ hk;show wpAny_Constant_str (bA.here R (.str _ _))
 |_=>show no hk
theorem Ln{l r:Ô}{op:Operator}{pos:Pos}{a b:CE}{Á:ax}(hl:aR A Z O l (ab Á a))(hr:aR A Z O r (ab Á b)):aR A Z O (.BinOp l op r pos) (ab Á (.bin op a b)):=by intro U H v ae he J s R F E;show rY he λx Î y Û h1 h2 he=>?_;show wpAny_BinOp (hl.bind h1 R F λa Ì aj S T aA ba bo=>hr.bind h2 aA ba λb cZ cR S' T' bx fc dX=>?_);show Ï (Jy he bx (bo.step aA S') dX) (λz z x=>(bA.after (S.trans S') (T.trans T') x)) λz z x=>x
theorem sr(hA:i5 A d):A.units+8<cLine:=ų (ϯ (z' (Ō _ _) hA.units) 8) (by decide)
theorem Lo{d:Nat}(hA:i5 A d)(jv:∃o,gg.B.get? û=À o){l r:Ô}{op:CmpOp}{pos:Pos}{a b:CE}{Á:ax}(hm:behindInMarks op r=Ê)(hl:aR A Z O l (ab Á a))(hr:aR A Z O r (ab Á b)):
  aR A Z O (.Compare l [op] [r] pos) (ab Á (.cmp op a b))/\fA A Z O (.Compare l [op] [r] pos) (bV Á (.cmp op a b)):=by
 constructor
 ·intro U H v ae he J s R F E
  show rY he λx Î y Û h1 h2 he=>?_;show bT he λc hc he=>?_;apply dD he;show wpAny_Compare1 (hl.bind h1 R F λa Ì aj S T aA ba bo=>hr.bind h2 aA ba λb cZ cR S' T' bx fc dX=>AV hc (sr hA) jv bx (bo.step aA S') dX ⟨cR,S.trans S',bx,.bool _,T.trans T'⟩) hm
 ·intro U H v ae he J s R F E
  show dK (dW he) λx Î h1 he=>dK he λy Û h2 he=>bT he λc hc he=>aQ (nP he) λe1 q2=>?_;apply fR q2;apply fR (V.bool.inj e1);show wpAny_isTrue_Compare1 (hl.bind h1 R F λa Ì aj S T aA ba bo=>hr.bind h2 aA ba λb cZ cR S' T' bx fc dX=>?_) hm;show AV hc (sr hA) jv bx (bo.step aA S') dX (ð ⟨N,cR,S.trans S',bx,T.trans T'⟩)
theorem BO{x:Ô}{pos:Pos}{a:CE}{Á:ax}(hx:aR A Z O x (ab Á a))(C9:fA A Z O x (bV Á a)):
  aR A Z O (.UnaryOp .Not x pos) (ab Á (.not a))/\fA A Z O (.UnaryOp .Not x pos) (bV Á (.not a)):=by
 constructor
 ·intro U H v ae he J s R F E
  show j4 he λb Î h1 he=>?_;apply dD he;show UnaryOp_ (hx.bind h1 R F λa Ì aj S T aA ba bo=>?_);apply aY (vB N bo);show not_of (ð ⟨aj,S,aA,.bool _,T⟩)
 ·intro U H v ae he J s R F E
  show j4 (dW he) λb Î h1 he=>aQ (nP he) λe1 q2=>?_;apply fR q2;apply fR (V.bool.inj e1);show isTrue_not (C9.bind (a0 h1) R F λÌ aj S T aA ba=>⟨N,aj,S,aA,T⟩)
theorem Lu{t x y:Ô}{pos:Pos}{a b c:CE}{Á:ax}(ht:fA A Z O t (bV Á a))(hx:aR A Z O x (ab Á b))(C9:fA A Z O x (bV Á b))(hy:aR A Z O y (ab Á c))(Sd:fA A Z O y (bV Á c)):
  aR A Z O (.IfExp t x y pos) (ab Á (.ite a b c))/\fA A Z O (.IfExp t x y pos) (bV Á (.ite a b c)):=by
 constructor
 ·intro U H v ae he J s R F E
  show j4 he λp Î h1 he=>?_;cases p with
  |true=>show IfExp_ (ht.bind (a0 h1) R F λÌ aj S T aA ba=>hx.bind he aA ba λb cZ cR S' T' bx fc dX=>⟨cR,S.trans S',bx,dX,T.trans T'⟩)
  |false=>show IfExp_ (ht.bind (a0 h1) R F λÌ aj S T aA ba=>hy.bind he aA ba λb cZ cR S' T' bx fc dX=>⟨cR,S.trans S',bx,dX,T.trans T'⟩)
 ·intro U H v ae he J s R F E
  show j4 (dW he) λp Î h1 he=>?_;cases p with
  |true=>show isTrue_IfExp (ht.bind (a0 h1) R F λÌ aj S T aA ba=>C9.bind (a0 he) aA ba λcZ cR S' T' bx fc=>⟨N,cR,S.trans S',bx,T.trans T'⟩)
  |false=>show isTrue_IfExp (ht.bind (a0 h1) R F λÌ aj S T aA ba=>Sd.bind (a0 he) aA ba λcZ cR S' T' bx fc=>⟨N,cR,S.trans S',bx,T.trans T'⟩)
theorem oB{f:Ô->Option CE}{Á:ax}(ih:∀e c,f e=À c->aR A Z O e (ab Á c))(op:BoolOp)(pos:Pos):∀(vs:List Ô) (c:CE),vQ f op vs=À c->aR A Z O (.BoolOp op vs pos) (ab Á c)
 |[],_,h=>no h
 |[e],c,h=>λU H v ae he J s R F E=>BoolOp_one (ih e c h U H v ae he J s R F E)
 |e::e'::r,c,h=>by
  show ie h λa b ha hb h=>?_;apply dJ h;have h1:=ih e a ha;have h2:=oB ih op pos (e'::r) b hb;intro U H v ae he J s R F E;cases op with
  |And=>
   show j4 he λp Î hx he=>BoolOp_and (h1.bind hx R F λa Ì aj S T aA ba bo=>?_);apply aY (vB N bo);cases p with
   |true=>show ð (h2.bind he aA ba λb cZ cR S' T' bx fc dX=>⟨cR,S.trans S',bx,dX,T.trans T'⟩)
   |false=>apply dD he;show ð ⟨aj,S,aA,.bool _,T⟩
  |Or=>
   show j4 he λp Î hx he=>BoolOp_or (h1.bind hx R F λa Ì aj S T aA ba bo=>?_);apply aY (vB N bo);cases p with
   |false=>show ð (h2.bind he aA ba λb cZ cR S' T' bx fc dX=>⟨cR,S.trans S',bx,dX,T.trans T'⟩)
   |true=>apply dD he;show ð ⟨aj,S,aA,.bool _,T⟩
theorem oC{f:Ô->Option CE}{Á:ax}(ih:∀e c,f e=À c->fA A Z O e (bV Á c))(op:BoolOp)(pos:Pos)(wh:Sem Ä):∀(vs:List Ô) (c:CE),vQ f op vs=À c ->
  ∀U H b ae,bV Á c U H=À (b,ae)->∀J s,ar gg J H s.heap->eQ (bw A) J Z O U s.heap->∀E,É mo A (isTrue (.BoolOp op vs pos) Z wh) (Cj J s b ae) E s
 |[],_,h=>no h
 |[e],c,h=>λU H v ae he J s R F E=>by
  cases op with
  |And=>
   show isTrue_and ((ih e c h).bind he R F λÌ aj S T aA ba=>?_);cases v
   ·show⟨N,aj,S,aA,T⟩
   ·show isTrue_and_nil ⟨N,aj,S,aA,T⟩
  |Or=>
   show isTrue_or ((ih e c h).bind he R F λÌ aj S T aA ba=>?_);cases v
   ·show isTrue_or_nil ⟨N,aj,S,aA,T⟩
   ·show⟨N,aj,S,aA,T⟩
 |e::e'::r,c,h=>by
  show ie h λa b ha hb h=>?_;apply dJ h;have h1:=ih e a ha;have h2:=oC ih op pos wh (e'::r) b hb;intro U H v ae he J s R F E;cases op with
  |And=>
   show j4 (dW he) λp Î hx he=>isTrue_and (h1.bind (a0 hx) R F λÌ aj S T aA ba=>?_);cases p with
   |true=>show Ï (h2 U Î v ae (a0 he) aj Ì aA ba E) (λz z x=>Cj.after S T x) λz z x=>x
   |false=>show aQ (nP he) λe1 q2=>?_;apply fR q2;apply fR (V.bool.inj e1);show⟨N,aj,S,aA,T⟩
  |Or=>
   show j4 (dW he) λp Î hx he=>isTrue_or (h1.bind (a0 hx) R F λÌ aj S T aA ba=>?_);cases p with
   |false=>show Ï (h2 U Î v ae (a0 he) aj Ì aA ba E) (λz z x=>Cj.after S T x) λz z x=>x
   |true=>show aQ (nP he) λe1 q2=>?_;apply fR q2;apply fR (V.bool.inj e1);show⟨N,aj,S,aA,T⟩
theorem cO{f:Ô->Option CE}(hs:∀e p,f (.Starred e p)=Ã)(h:f e=À c)(aD:List Ô):Ù (e::aD) Z=(Ê,eval e Z)::Ù aD Z:=by
 cases e with
 |Starred e p=>rw[hs]at h;show no h
 |_=>rfl
theorem ji{f:Ô->Option CE}(hs:∀e p,f (.Starred e p)=Ã)(pos:Pos):∀{es:List Ô} {cs:gG},cg f es=À cs->(ĳ pos (Ù es Z)).any (·.1)=Ê
 |[],_,_=>rfl
 |e::r,cs,h=>by
  show ie h λc IT h1 h2 h=>?_;rw[cO hs h1];have:=ji hs pos h2 (es:=r)
  simpa [ĳ] using this
theorem gi{f:Ô->Option CE}{Á:ax}(hs:∀e p,f (.Starred e p)=Ã)(ih:∀e c,f e=À c->aR A Z O e (ab Á c))(pos:Pos):∀{es:List Ô} {cs:gG},cg f es=À cs ->
  ∀ ⦃U H vs ae⦄,bP Á cs U H=À (vs,ae)->∀ ⦃J s⦄,ar gg J H s.heap->eQ (bw A) J Z O U s.heap->∀E,É mo A (spliced (ĳ pos (Ù es Z))) (QD J s vs ae) E s
 |[],cs,h=>by intro U H vs ae he J s R F E;obtain rfl:=sm h;show aQ (nP he) λk1 k2=>?_;apply fR k1;apply fR k2;show Ĕ ⟨J,SE.refl _ _,R,.nil,bK.refl _⟩
 |e::r,cs,h=>by show ie h λc IT h1 h2 h=>?_;apply dJ h;intro U H vs ae he J s R F E;show rY he λx Î xs Û hx TS he=>?_;apply dD he;show è ((ih e c h1).bind hx R F λa Ì aj S T aA ba bo=>Ï (gi hs ih pos h2 TS aA ba E) (λvs cZ ⟨cR,S',bx,dX,T'⟩=>?_) λz z x=>x) (cO hs h1 r);show⟨cR,S.trans S',bx,.cons (bo.step aA S') dX,T.trans T'⟩
theorem xt{f:Ô->Option CE}{Á:ax}(hs:∀e p,f (.Starred e p)=Ã)(ih:∀e c,f e=À c->aR A Z O e (ab Á c)){pos:Pos}{es:List Ô}{cs:gG}(h:cg f es=À cs):aR A Z O (.List es pos) (ab Á (.list cs)):=by intro U H v ae he J s R F E;show dK he λvs Î h1 he=>im (gb he) λhz q2 q3=>?_;apply aY q2;apply aY q3;show wpAny_List_spliced (Ï (gi hs ih pos h h1 R F E) (λas Ì ⟨aj,S,aA,bo,T⟩=>⟨by rw[<-bo.length];show hz,(bA.after S T (bA.newL (tk:=Ì.toks) aA (ź hz) bo (λb o e=>O' _ e) (aG _) ⟨_,ŀ _ N⟩))⟩) λz z x=>x)
theorem tv{f:Ô->Option CE}{Á:ax}(hs:∀e p,f (.Starred e p)=Ã)(ih:∀e c,f e=À c->aR A Z O e (ab Á c)){pos:Pos}{k:Nat}{es:List Ô}{cs:gG}(h:cg f es=À cs):aR A Z O (.Tuple es k pos) (ab Á (.tuple cs)):=by intro U H v ae he J s R F E;show dK he λvs Î h1 he=>im (kQ he) λhz q2 q3=>(wpAny_Tuple_spliced (Ï (gi hs ih pos h h1 R F E) (λas Ì ⟨aj,S,aA,bo,T⟩=>⟨by rw[<-bo.length];show hz,?_⟩) λz z x=>x));apply aY q2;apply aY q3;show bA.after S T (bA.newT (tk:=Ì.toks) aA (ź hz) bo (λb o e=>O' _ e) (aG _) (gO _ _))
theorem DO{pos:Pos}{Á:ax}:aR A Z O (.Dict [] [] pos) (ab Á .dict0):=by
 intro U H v ae he J s R F E;apply dD he;show wpAny_Dict_empty ?_;have hk:∀b o,s.heap.get? b=À o->(s.heap.push {cls:=.type "dict",data:=.dict #[]}).get? b=À o:=λb o e=>O' _ e;have R':ar gg J H (s.heap.push {cls:=.type "dict",data:=.dict #[]}):=R.keeps hk;have CY:=aX R (aG _);have Qa:=aW R (aG _);have S:SE J s.heap J (s.heap.push {cls:=.type "dict",data:=.dict #[]}):=SE.keeps J hk;have hd:(s.heap.push {cls:=.type "dict",data:=.dict #[]}).DictOf (strKind gg.prog gg.w) s.heap.objs.size []:=Heap.DictOf.new ..;show⟨J++[s.heap.objs.size],⟨S.pres,S.dom,[_],N,λa ha=>?_⟩,R'.more CY Qa (.ds hd N .nil) (λo e=>?_),.ref ?_,bK.refl _⟩
 ·apply aY (W'.mp ha);show aG _
 ·apply fR (sm ((ŀ _ N).symm.trans e));show sL N
 ·rw[<-R.len];simp
end
section
variable{A:Ñ}{E:Ä->Å->Prop}{J aj:List È}{H Î ae:ag}{s Ì:Å}{Z:Env}{O:List (Str×Nat)}{U:aJ}
theorem BM{v i:Ô}{pos:Pos}{a b:CE}{Á:ax}(io:∀l u st p,i≠.Slice l u st p)(hv:aR A Z O v (ab Á a))(hi:aR A Z O i (ab Á b)):aR A Z O (.Subscript v i pos) (ab Á (.idx a b)):=by
 intro U H r ae he J s R F E;show rY he λx Î y Û h1 h2 he=>?_;show bT he λc hc he=>?_;apply dD he;show Subscript_ (hv.bind h1 R F λa Ì aj S T aA ba bo=>hi.bind h2 aA ba λb cZ cR S' T' bx fc dX=>?_);show aQ (Kt (A:=A) (E:=E) hc bx (bo.step aA S') dX) λk1 hg=>?_;show gm k1 λT id hT hl=>?_;show tail_any (ops:=[a,b]) hT hl (Ï hg (λz z x=>bA.after (S.trans S') (bK.trans ‹_› T') x) λz z x=>x) ?_;cases i with
 |Slice l u st p=>show absurd N (io l u st p)
 |_=>rfl
theorem xF(hv:VR gg J h v a)(hl:mW v=À i):jM a v:=by
 cases hv with
 |none=>show .none
 |int k t=>show .int k t
 |_=>show no hl
theorem xC(hv:VR gg J h v a)(hl:lj n v=À i):jM a v:=by
 cases hv with
 |none=>show .none
 |int k t=>show .int k t
 |_=>show no hl
theorem aR.part{f:Ô->Option CE}{Á:ax}(ih:∀e c,f e=À c->aR A Z O e (ab Á c)){o:Option Ô}{c:CE}(hc:Fl f o=À c){x:V}(h:ab Á c U H=À (x,Î))(R:ar gg J H s.heap)(F:eQ (bw A) J Z O U s.heap){Q:Ä->Å->Prop}
  (k:∀a Ì aj,SE J s.heap aj Ì.heap->bK s Ì->ar gg aj Î Ì.heap->eQ (bw A) aj Z O U Ì.heap->VR gg aj Ì.heap x a->Q a Ì):É mo A (evalPart o Z) Q E s:=by
 cases o with
 |none=>obtain rfl:=sm hc;show aQ (nP h) λk2 k3=>?_;subst k2;subst k3;show evalPart_none_step (k .none s J (SE.refl _ _) (bK.refl _) R F .none)
 |some e=>show evalPart_some_step ((ih e c hc).bind h R F k)
set_option tactic.hygienic true in
theorem Ly{f:Ô->Option CE}{v:Ô}{lo hi:Option Ô}{p pos:Pos}{a b c:CE}{Á:ax}(ih:∀e c,f e=À c->aR A Z O e (ab Á c))(hv:aR A Z O v (ab Á a))(hl:Fl f lo=À b)(hu:Fl f hi=À c):
  aR A Z O (.Subscript v (.Slice lo hi Ã p) pos) (ab Á (.slc a b c)):=by
 intro U H r ae he J s R F E;show rY he λx Î y Û h1 h2 he=>?_;show dK he λz bI h3 he=>Subscript_ (hv.bind h1 R F λa Ì aj S T aA ba bo=>wpAny_Slice (aR.part ih hl h2 aA ba λb cZ cR dw gW bx fc dX=>aR.part ih hu h3 bx fc λc i4 yn jp yC jn rS Og=>evalPart_none_step ?_));have hk:∀b' o,i4.heap.get? b'=À o->(i4.heap.push {cls:=.type "slice",data:=.fields #[b,c,.none]}).get? b'=À o:=λb o e=>O' _ e;have lL:SE yn i4.heap yn (i4.heap.push {cls:=.type "slice",data:=.fields #[b,c,.none]}):=SE.keeps _ hk;have rW:=jn.keeps hk;have QO:=((bo.step aA dw).step bx jp).step jn lL;have Mh:=(dX.step bx jp).step jn lL;have Mi:=Og.step jn lL;have hs:=Heap.IsSliceOf.new i4.heap b c .none
 have gw:∀{r ae a' s'},bA gg yn {i4 with heap:=i4.heap.push {cls:=.type "slice",data:=.fields #[b,c,.none]}} r ae a' s'->bA gg J s r ae a' s':=λx=>
  bA.after (Ì:={i4 with heap:=i4.heap.push {cls:=.type "slice",data:=.fields #[b,c,.none]}}) (S.trans (dw.trans (jp.trans lL))) (T.trans (gW.trans yC)) x
 revert he;apply VR.el QO
 case tup=>
  intro _ _ _ ht hz rP hn he
  ·show ie he λi j hi hj he=>?_
   show im (kQ he) λsW q2 q3=>?_;apply aY q2;apply aY q3;show tail_any (ops:=[.ref i4.heap.objs.size,.ref _]) ht.typeIs slot_tuple_getitem.lookup (Ï (Ec rW ht hz rP hn hs (xF Mh hi) (xC Mi hj) hi hj sW) (λ_ _ x=>gw x) λ_ _ x=>x) N
 case str=>
  intro x t he
  ·show ie he λi j hi hj he=>?_
   show im (Du he) λsW q2 q3=>?_;apply aY q2;apply aY q3;show tail_any (ops:=[.ref i4.heap.objs.size,.str x t]) (typeIs_str _ _ _) PySem.F.slot_str_getitem.lookup (Ï (D6 rW hs (xF Mh hi) (xC Mi hj) hi hj sW) (λ_ _ x=>gw x) λ_ _ x=>x) N
 all_goals (intros;rename_i he;exact no he)
theorem bO(h:bp Z.scope x=Æ):Z.kindOf x=À .globalImplicit/\(x==("__debug__":Str))=Ê:=by
 simp only[bp,ō,beq_iff_eq,ϑ]at h
 show⟨h.1,h.2⟩
set_option tactic.hygienic true in
theorem oS:∀{l:List α} {k:Nat},l.findIdx? p=À k->∃x,l[k]?=À x/\p x=Æ
 |[],_,h=>by simp at h
 |a::l,k,h=>by
  rw[List.findIdx?_cons]at h;split at h
  ·rename_i hp
   cases h;show⟨a,N,hp⟩
  ·simp only[ϱ]at h
   show aE h λj hj q3=>?_;apply fR q3;show aE (oS hj) λx h1 h2=>⟨x,h1,h2⟩
theorem Gh(G:fU gg cx fs mg mb)(h:hW cx f=À k):∃fn,fs[k]?=À fn/\fn.name=f:=by
 show aE (oS h) λx h1 h2=>?_;rw[<-G.names]at h1
 simp only[Ġ,ϱ]at h1
 show aE h1 λfn h3 q3=>?_;subst q3;show⟨fn,h3,by simpa using h2⟩
theorem xp{Á:ax}{k:Nat}(G:fU gg cx fs mg mb)(hC:si A Á k){F':Ô->Option CE}(hs:∀e p,F' (.Starred e p)=Ã)(ih:∀e c,F' e=À c->aR A Z O e (ab Á c)){f:Str}{p pos:Pos}{as:List Ô}{cs:gG}
  (hg:bp Z.scope f=Æ) (hk:hW cx f=À k) (eT:as.isEmpty=Ê) (h:cg F' as=À cs):aR A Z O (.Call (.Name f p) as [] pos) (ab Á (.call k cs)):=by
 intro U H v ae he J s R F E;show rY he λvs Î r Û h1 h2 he=>?_;show bT he λu hu he=>?_;apply dD he
 have hr:r=.ok u:=by
  cases r with
  |ok w=>show congrArg yA.ok (sm hu)
  |exc _ _=>show no hu
 subst hr;show aE (Gh G hk) λfn lU q3=>?_;subst q3;obtain ⟨hm,o,pm,cd,doc,ho,hd,og⟩:=G.made fn (ģ lU);show aQ (bO hg) λme mf=>?_;cases as with
 |nil=>cases eT
 |cons e aD=>show bT (k:=λc=>(cg F' aD).bind λcs=>À (gG.cons c cs)) h λc hc z=>ĉ N (ja G F R me mf hm (callWith_def (o:=o) hd (Ï (gi hs ih pos h h1 R F E) (λcc Ì ⟨aj,S,aA,bo,T⟩=>⟨aA.base _ _ ho,?_⟩) λz z x=>x) (cO hs hc aD)));show Ï (hC vs Î u Û h2 fn lU aj Ì cc aA (F.step R S).stk bo E) (λz z x=>bA.after S T x) λz z x=>x
set_option backward.match.sparseCases false in
noncomputable def ge:nT->Ä
 |.len=>.builtin "len" |.sum=>.builtin "sum" |.min2=>.builtin "min" |.max2=>.builtin "max" |.min1=>.builtin "min" |.max1=>.builtin "max"
 |.tuple=>.type "tuple" |.list=>.type "list" |.str=>.type "str" |.int=>.type "int" |.sorted=>.builtin "sorted" |_=>.none
noncomputable def Hz:nT->Bool
 |.len|.sum|.min2|.max2|.min1|.max1|.tuple|.list|.str|.int|.sorted=>Æ
 |_=>Ê
theorem Ae:∀q∈BE,1<=q.2.1/\q.1∈eZ/\Ě q.1=À (ge q.2.2)/\Hz q.2.2=Æ:=by decide +kernel
theorem xf(h:Hz p=Æ):(∀as,m6 p as=PySem.call (ge p) as)/\((∃id,ge p=.builtin id)\/∃T,ge p=.type T):=by cases p<;>first|exact⟨λz=>rfl,.inl ⟨_,rfl⟩⟩|exact⟨λz=>rfl,.inr ⟨_,rfl⟩⟩|exact nomatch h
theorem Fo(h:Fm f n=À p):1<=n/\f∈eZ/\Ě f=À (ge p)/\(∀as,m6 p as=PySem.call (ge p) as)/\((∃id,ge p=.builtin id)\/∃T,ge p=.type T):=by show JP (Ae _ (l9 h)) λh1 h2 h3 h4=>⟨h1,h2,h3,xf h4⟩
theorem bQ(hv:(∃id,v=.builtin id)\/∃T,v=.type T)
  (h:É mo A (spliced (ĳ pos (Ù (e::aD) Z))) (λvs Ì=>É mo A (PySem.call v vs) Q E Ì) E s)
  (he:Ù (e::aD) Z=(Ê,eval e Z)::Ù aD Z) (GC:(ĳ pos (Ù aD Z)).any (·.1)=Ê) :
  É mo A (callWith pos v [] (ĳ pos (Ù (e::aD) Z)) []) Q E s:=by
 rcases hv with ⟨id,rfl⟩|⟨T,rfl⟩
 ·show callWith_builtin1 h he GC
 ·show callWith_type1 h he GC
theorem H3{Á:ax}{d:Nat}(hA:i5 A d)(G:fU gg cx fs mg mb){F':Ô->Option CE}(hs:∀e p,F' (.Starred e p)=Ã)(ih:∀e c,F' e=À c->aR A Z O e (ab Á c)){f:Str}{p' pos:Pos}{p:nT}{as:List Ô}{cs:gG}
  (hg:bp Z.scope f=Æ) (hp:Fm f as.length=À p) (h:cg F' as=À cs):aR A Z O (.Call (.Name f p') as [] pos) (ab Á (.prim p cs)):=by
 intro U H v ae he J s R F E;show dK he λvs Î h1 he=>YM (Fo hp) λhn hm hb hc hh=>aQ (bO hg) λme mf=>?_;cases as with
 |nil=>cases hn
 |cons e aD=>show bT (k:=λc=>(cg F' aD).bind λcs=>À (gG.cons c cs)) h λc ff h'=>bT h' λIT hr z=>ĉ N (cF G F R me mf hm hb (bQ hh (Ï (gi hs ih pos h h1 R F E) (λcc Ì ⟨aj,S,aA,bo,T⟩=>?_) λz z x=>x) (cO hs ff aD) (ji hs pos hr)));rw[<-hc];show Ï (rl he hA.handled G.sys aA bo) (λz z x=>bA.after S T x) λz z x=>x
theorem H9{Á:ax}{d:Nat}(hA:i5 A d)(G:fU gg cx fs mg mb){F':Ô->Option CE}(hs:∀e p,F' (.Starred e p)=Ã)(ih:∀e c,F' e=À c->aR A Z O e (ab Á c)){x y:Ô}{a b:CE}{p' p2 pos PE:Pos}
  (hg:bp Z.scope ("list":Str)=Æ) (IZ:bp Z.scope ("zip":Str)=Æ) (ha:F' x=À a) (hb:F' y=À b):aR A Z O (.Call (.Name ("list":Str) p') [.Call (.Name ("zip":Str) p2) [x,y] [] PE] [] pos) (ab Á (.zipl a b)):=by
 intro U H v ae he J s R F E;show rY he λu Î w Û h1 h2 he=>ie he λr xs hr hl he=>bT he λys hy he=>dC he λhz he=>?_;apply dD he
 have C3:cg F' [x,y]=À (.cons a (.cons b .nil)):=by show (F' x).bind _=_;rw[ha];show ((F' y).bind _).bind _=_;rw[hb];rfl
 have ZH:bP Á (.cons a (.cons b .nil)) U H=À ([u,w],Û):=by show bY (ab Á a U H) _=_;rw[h1];show bY (bY (ab Á b U Î) λv Î=>bY (bP Á .nil U Î) λvs Û=>À (v::vs,Û)) (λvs Û=>À (u::vs,Û))=_;rw[h2];rfl
 show aQ (bO hg) λme mf=>aQ (bO IZ) λVJ VK=>ĉ N (cF G F R me mf (by decide) (v:=.type "list") (by decide +kernel) (bQ (.inr ⟨_,N⟩) (è (ĉ N (cF G F R VJ VK (by decide) (v:=.type "zip") (by decide +kernel) (bQ (.inr ⟨_,N⟩) (Ï (gi hs ih PE C3 ZH R F E) (λcc Ì ⟨aj,S,aA,bo,T⟩=>bo.consE λva vr q1 Vu Vr=>Vr.consE λvb vn q2 Vw Vn=>?_) λk k x=>x) (cO hs ha [y]) (ji hs PE (show cg F' [y]=À (.cons b .nil) by show (F' y).bind _=_;rw[hb];rfl))))) N) N N));rw[q1,q2,Vn.nilE];show aE (vR hr Vu) λl1 q3 q4=>?_;rw[q3];rw[mz hy]at Vw;show Ï (II hA.handled aA q4 hl Vw hz) (λz cZ h=>Ĕ (Ï h (λk k x=>?_) λk k x=>x)) λk k x=>x;rw[Ā];show bA.after S T x
set_option backward.match.sparseCases false in
noncomputable def Nb:nT->String
 |.isInt=> "int" |.isBool=> "bool" |.isTuple=> "tuple" |.isStr=> "str" |.isList=> "list" |_=> ""
theorem Dg:∀q∈GP,q.1∈eZ/\Ě q.1=À (.type (Nb q.2.2))/\Nb q.2.2≠"" := by decide +kernel
theorem JA(h:Ou t=À p):∃T,t∈eZ/\Ě t=À (.type T)/\∀a,m6 p [a]=PySem.call (.builtin "isinstance") [a,.type T]:=by refine im (Dg _ (l9 h)) λh1 h2 h3=>⟨_,h1,h2,λa=>?_⟩;cases p<;>first|rfl|exact absurd N h3
theorem Ls{Á:ax}{d:Nat}(hA:i5 A d)(G:fU gg cx fs mg mb){x:Ô}{t:Str}{p' Nv pos:Pos}{p:nT}{a:CE}(io:∀e q,x≠.Starred e q)(hx:aR A Z O x (ab Á a))(hg:bp Z.scope ("isinstance":Str)=Æ)(IZ:bp Z.scope t=Æ)
  (hp:Ou t=À p):aR A Z O (.Call (.Name ("isinstance":Str) p') [x,.Name t Nv] [] pos) (ab Á (.prim p (.cons a .nil))):=by
 intro U H v ae he J s R F E;show dK he λvs Î h1 he=>dK h1 λy Û h2 h1=>aQ (nP h1) λq1 q2=>(eJ (JA hp) λT hm hb hc=>aQ (bO hg) λme mf=>aQ (bO IZ) λVJ VK=>?_);subst q1 q2
 have fE:Ù [x,.Name t Nv] Z=(Ê,eval x Z)::Ù [.Name t Nv] Z:=by
  cases x with
  |Starred e q=>show absurd N (io e q)
  |_=>rfl
 show ĉ N (cF G F R me mf (by decide) (v:=.builtin "isinstance") (by decide +kernel) (bQ (.inl ⟨_,N⟩) (è (hx.bind h2 R F λb Ì aj S T' aA ba bo=>è (cF G ba aA VJ VK hm hb (Ĕ ?_))) fE) fE N));rw[<-hc];show Ï (rl he hA.handled G.sys aA (.one bo)) (λz z x=>bA.after S T' x) λz z x=>x
theorem H2{Á:ax}{d:Nat}(hA:i5 A d)(G:fU gg cx fs mg mb){x:Ô}{p' Nv pos kp:Pos}{n:Nat}{a:CE}(io:∀e q,x≠.Starred e q)(hx:aR A Z O x (ab Á a))(hg:bp Z.scope ("min":Str)=Æ):
  aR A Z O (.Call (.Name ("min":Str) p') [x] [⟨À ("default":Str),.Constant .none n Nv,kp⟩] pos) (ab Á (.prim .minD (.cons a .nil))):=by
 intro U H v ae he J s R F E;show dK he λvs Î h1 he=>dK h1 λy Û h2 h1=>aQ (nP h1) λq1 q2=>(aQ (bO hg) λme mf=>?_);subst q1 q2
 have fE:Ù [x] Z=(Ê,eval x Z)::Ù [] Z:=by
  cases x with
  |Starred e q=>show absurd N (io e q)
  |_=>rfl
 show wpAny_Call_Name_kw (cF G F R me mf (by decide) (v:=.builtin "min") (by decide +kernel) (callWith_kw (è (hx.bind h2 R F λb Ì aj S T' aA ba bo=>Ĕ (Â (Â (wpAny_Constant_none (Â (ē (Ç (Â (ß (Ç (Ç ?_))))))))))) fE) (by rw[fE];rfl) (by rw[fE];rfl)));show Ï (rl (p:=.minD) he hA.handled G.sys aA (.one bo)) (λz z x=>bA.after S T' x) λz z x=>x
theorem z0:∀q∈Bw,1<=q.2.1/\q.2.1<=2/\q.1=qW q.2.2:=by decide +kernel
theorem vX(h:AQ m n=À p):1<=n/\n<=2/\m=qW p:=z0 _ (l9 h)
theorem xP(hs:∀e p,f (.Starred e p)=Ã)(pos:Pos)(h:cg f es=À cs):(ĳ pos (Ù es Z)).all (λx=>!x.1)=Æ:=by
 have:=ji (Z:=Z) hs pos h;rw[List.any_eq_false]at this;rw[ϩ];intro x hx;have:=this x hx
 simpa using this
theorem H1{Á:ax}(G:fU gg cx fs mg mb){F':Ô->Option CE}(hs:∀e p,F' (.Starred e p)=Ã)(ih:∀e c,F' e=À c->aR A Z O e (ab Á c)){o:Ô}{m:Str}{ap pos:Pos}{p:j0}{as:List Ô}{a:CE}{cs:gG}
  (ho:aR A Z O o (ab Á a)) (O6:Aj o=Æ) (qH:(ap.endLine==pos.line)=Æ) (hp:AQ m as.length=À p) (h:cg F' as=À cs):aR A Z O (.Call (.Attribute o m ap) as [] pos) (ab Á (.meth p a cs)):=by
 intro U H v ae he J s R F E;show dK he λx Î h1 he=>dC he λhr he=>dK he λvs Û h2 he=>im (vX hp) λrO yr q3=>?_;apply aY q3;cases as with
 |nil=>cases rO
 |cons e aD=>
  show bT (k:=λc=>(cg F' aD).bind λcs=>À (gG.cons c cs)) h λc ff h'=>bT h' λIT R9 z=>Ϗ ?_ ?_ qH (ho.bind h1 R F λav Ì aj S T aA ba bo=>?_)
  ·cases o with
   |Name x p=>rfl
   |Constant k n p=>rfl
   |Subscript x y p=>rfl
   |_=>cases O6
  ·rw[xP hs pos h]
   have:(e::aD).length+0+0<30:=by have:=yr;show jT (y3 0x1c001e9210b28012ba080112ba0812 N (iL yr) (iA _ _) (iA _ _))
   show decide_eq_true (p:=(e::aD).length+0+0<30) this
  ·show aQ (xh (s:=Ì) hr aA bo) λhT hd=>⟨qX p,qV p,qY p,tc p,td p,hT,hd,callWith_method1 (Ï (gi hs ih pos h h2 aA ba E) (λcc cZ ⟨cR,dw,bx,dX,gW⟩=>Ï (Hh he G.sys bx (bo.step aA dw) dX) (λz z x=>bA.after (S.trans dw) (T.trans gW) x) λz z x=>x) λz z x=>x) (cO hs ff aD) (ji hs pos R9)⟩
end
section
variable{A:Ñ}{E:Ä->Å->Prop}{J aj:List È}{H Î ae:ag}{s Ì:Å}{Z:Env}{O:List (Str×Nat)}{U:aJ}{Á:ax}{d:Nat}
theorem HY(hA:i5 A d)(he:aR A Z O e (ab Á c)):mw A Z O e Ê (cD Á (.ex c)):=by intro U H xs w ae h J s R F E;rw[kW]at h;show dK h λx Î h1 h=>Bz h λl w' h2 h=>?_;apply jh h;show Ï (he U H x Î h1 J s R F E) (λa Ì hp=>LD hA.handled h2 hp) λz z x=>x
theorem ng(h:jC a=Æ):-1000000000<=a/\a<=1000000000:=by
 simpa [jC] using h
theorem nq(io:∀e q,x≠.Starred e q):Ù (x::aD) Z=(Ê,eval x Z)::Ù aD Z:=by
 cases x with
 |Starred e q=>show absurd N (io e q)
 |_=>rfl
theorem xH(hA:A.handled=Ã)(hc:c≠0)(C8:Builtin.Range.small a b c=Æ)(S:SE J s.heap aj Ì.heap)(R:ar gg aj H Ì.heap)(T:bK s Ì):
  Ci A J s (cz a b c) [] Ê H (.ref Ì.heap.objs.size) {Ì with heap:=Ì.heap.push {cls:=.type "range",data:=.fields #[.int a t,.int b u,.int c v]},toks:=tk}:=
 have hk:∀b' o,Ì.heap.get? b'=À o->(Ì.heap.push {cls:=.type "range",data:=.fields #[.int a t,.int b u,.int c v]}).get? b'=À o:=λb o e=>O' _ e
 D2 (Ì:={Ì with heap:=Ì.heap.push {cls:=.type "range",data:=.fields #[.int a t,.int b u,.int c v]},toks:=tk}) hA (IsRange.new ..) hc C8 (S.trans (SE.keeps _ hk)) (R.keeps hk) T
theorem H5(hA:i5 A d)(G:fU gg cx fs mg mb)(hg:bp Z.scope ("range":Str)=Æ)(io:∀e q,x≠.Starred e q)(hx:aR A Z O x (ab Á a)):mw A Z O (.Call (.Name ("range":Str) p) [x] [] pos) Ê (cD Á (.rng1 a)):=by intro U H xs w ae h J s R F E;show AP h λn Î h1 h=>dC h λC8 h=>?_;apply jh h;show aQ (bO hg) λme mf=>?_;have fE:Ù [x] Z=(Ê,eval x Z)::Ù [] Z:=nq io;show ĉ N (cF G F R me mf (by decide) (v:=.type "range") (by decide +kernel) (bQ (.inr ⟨_,N⟩) (è (hx.bind h1 R F λb Ì aj S T aA ba bo=>Ĕ ?_) fE) fE N));apply EO N bo;intro t1;show call_range_1 (xH hA.handled (by decide) (rx (by decide) (by decide) (ng C8) (by decide)) S aA T)
theorem H6(hA:i5 A d)(G:fU gg cx fs mg mb)(hg:bp Z.scope ("range":Str)=Æ)(io:∀e q,x≠.Starred e q)(O2:∀e q,y≠.Starred e q)(hx:aR A Z O x (ab Á a))(hy:aR A Z O y (ab Á b)):mw A Z O (.Call (.Name ("range":Str) p) [x,y] [] pos) Ê (cD Á (.rng2 a b)):=by
 intro U H xs w ae h J s R F E;show AP h λm Î h1 h=>AP h λn Û h2 h=>dC h λC8 h=>?_;apply jh h
 simp only[ō]at C8
 show aQ (bO hg) λme mf=>?_;have fE:Ù [x,y] Z=(Ê,eval x Z)::Ù [y] Z:=nq io;have r5:Ù [y] Z=(Ê,eval y Z)::Ù [] Z:=nq O2;show ĉ N (cF G F R me mf (by decide) (v:=.type "range") (by decide +kernel) (bQ (.inr ⟨_,N⟩) (è (hx.bind h1 R F λb Ì aj S T aA ba bo=>è (hy.bind h2 aA ba λb' cZ cR dw gW bx fc dX=>Ĕ ?_) r5) fE) fE (by rw[r5];rfl)));apply EO N bo;intro t1;apply EO N dX;intro t2;show call_range_2 (xH hA.handled (by decide) (rx (by decide) (ng C8.1) (ng C8.2) (by decide)) (S.trans dw) bx (T.trans gW))
theorem LB(hA:i5 A d)(G:fU gg cx fs mg mb)(hg:bp Z.scope ("zip":Str)=Æ)(io:∀e q,x≠.Starred e q)(O2:∀e q,y≠.Starred e q)(hx:aR A Z O x (ab Á a))(hy:aR A Z O y (ab Á b)):mw A Z O (.Call (.Name ("zip":Str) p) [x,y] [] pos) Æ (cD Á (.zip a b)):=by intro U H xs w ae h J s R F E;rw[rE]at h;show rY h λm Î n Û h1 h2 h=>?_;show ie h λYr ys' C9 Sd h=>?_;apply jh h;obtain rfl:=mz C9;obtain rfl:=mz Sd;show aQ (bO hg) λme mf=>?_;have fE:Ù [x,y] Z=(Ê,eval x Z)::Ù [y] Z:=nq io;have r5:Ù [y] Z=(Ê,eval y Z)::Ù [] Z:=nq O2;show ĉ rfl (cF G F R me mf (by decide) (v:=.type "zip") (by decide +kernel) (bQ (.inr ⟨_,rfl⟩) (è (hx.bind h1 R F λb Ì aj S T aA ba bo=>è (hy.bind h2 aA ba λb' cZ cR dw gW bx fc dX=>Ĕ ?_) r5) fE) fE (by rw[r5];rfl)));show LF hA.handled (S.trans dw) bx (bo.step aA dw) dX (T.trans gW)
theorem Lp(hA:i5 A d)(G:fU gg cx fs mg mb)(hg:bp Z.scope ("enumerate":Str)=Æ)(io:∀e q,x≠.Starred e q)(hx:aR A Z O x (ab Á a)):mw A Z O (.Call (.Name ("enumerate":Str) p) [x] [] pos) Æ (cD Á (.enm a)):=by intro U H xs w ae h J s R F E;rw[rD]at h;show dK h λl Î h1 h=>bT h λYr C9 h=>?_;apply jh h;obtain rfl:=mz C9;show aQ (bO hg) λme mf=>?_;have fE:Ù [x] Z=(Ê,eval x Z)::Ù [] Z:=nq io;show ĉ rfl (cF G F R me mf (by decide) (v:=.type "enumerate") (by decide +kernel) (bQ (.inr ⟨_,rfl⟩) (è (hx.bind h1 R F λb Ì aj S T aA ba bo=>Ĕ (Ib hA.handled S aA bo T)) fE) fE rfl))
end
def xX:jQ->Nat->Prop
 |.one a,i=>i=a
 |.two a b,i=>i=a\/i=b
section
variable{A:Ñ}{E:Ä->Å->Prop}{J aj:List È}{H Î ae:ag}{s Ì:Å}{Z:Env}{O:List (Str×Nat)}{U aU:aJ}{Á:ax}{d:Nat}
theorem eQ.on(F:eQ (bw A) J Z O U h)(hr:∀y i v,O.lookup y=À i->aU i=À v->U i=À v):eQ (bw A) J Z O aU h:=by
 show⟨F.kind,F.glob,F.blt,?_,?_,F.locN,F.locB,F.cellF,F.cellI,F.slots,F.tab,F.stk⟩
 ·show aE F.ns λm hn hm=>⟨m,hn,λx i v a b c=>hm x i v a b (hr x i v a c)⟩
 ·intro x i a b
  show fQ (F.cells x i a b) λc u h1 h2 h3=>⟨c,u,h1,h2,λv hv=>h3 v (hr x i v a hv)⟩
def TM(Z:Env)(ts:List Str)(b:È):Prop:=b=Z.locals\/∃x∈ts,Z.cells.lookup x=À b
theorem TM.fm(h:TM Z ts b):FM J Z b:=by
 show â h (λh=>?_) (λq=>aE q λx z h=>?_)
 ·show .inr (.inl h)
 ·show .inr (.inr ⟨x,h⟩)
theorem cX.mono(S:cX ms J h aj h')(hm:∀b,ms b->ms' b):cX ms' J h aj h':=⟨λb o e hb=>S.pres b o e λx=>hb (hm b x),S.dom,S.ext⟩
theorem pf(h:oF Z.scope O x=À i):O.lookup x=À i/\(Z.kindOf x=À .local\/Z.kindOf x=À .cell):=by
 show dC h λhk h=>?_
 simp only[Ϝ,beq_iff_eq]at hk
 show⟨h,hk⟩
theorem sD(h:fW Z.scope O (.Name x p)=À t):∃i,t=.one i/\O.lookup x=À i/\(Z.kindOf x=À .local\/Z.kindOf x=À .cell):=by show bT h λi h1 h=>?_;apply dJ h;show⟨i,N,pf h1⟩
structure yz(Z:Env)(O:List (Str×Nat))(x:Str)(i:Nat):Prop where
 lk:O.lookup x=À i
 kd:Z.kindOf x=À .local\/Z.kindOf x=À .cell
inductive QM(Z:Env)(O:List (Str×Nat)):Ô->jQ->Prop
 |one {x:Str} {p:Pos} {i:Nat}:yz Z O x i->QM Z O (.Name x p) (.one i)
 |two {x y:Str} {p q:Pos} {k:Nat} {pp:Pos} {i j:Nat}:yz Z O x i->yz Z O y j->QM Z O (.Tuple [.Name x p,.Name y q] k pp) (.two i j)
theorem yz.of(h:oF Z.scope O x=À i):yz Z O x i:=aQ (pf h) λa b=>⟨a,b⟩
theorem qh(h:fW Z.scope O t=À r):QM Z O t r:=by
 unfold fW at h;cases hn:dx t with
 |some x=>rw[hn]at h;show bT h λi h1 h=>?_;apply dJ h;show ä (bD hn) λp ht=>ht▸.one (.of h1)
 |none=>
  rw[hn]at h;show bT h λl hl h=>Bz h λa b Kn h=>ie h λx y hx hy h=>?_;show aQ (zM h) λz h=>ie h λi j h1 h2 h=>?_;apply dJ h;show mJ (qd hl) λk pp ht=>ä (bD hx) λp hp=>ä (bD hy) λq hq=>?_;have e:t=.Tuple [.Name x p,.Name y q] k pp:=by rw[ht,ik Kn,show a=_ from hp,show b=_ from hq]
  show e▸.two (.of h1) (.of h2)
theorem QM.all(h:QM Z O t r):(∀i,xX r i->∃x∈bi t,O.lookup x=À i)/\∀x∈bi t,∃i,O.lookup x=À i/\xX r i:=by
 cases h with
 |one n=>show⟨λi hi=>⟨_,G',(show i=_ from hi)▸n.lk⟩,λx hx=>⟨_,(W'.mp (show x∈[_] from hx))▸n.lk,N⟩⟩
 |two n m=>show⟨λi hi=>â (show i=_\/i=_ from hi) (λq=>⟨_,G',q▸n.lk⟩) λq=>⟨_,J' _ G',q▸m.lk⟩,λx hx=>â (ą.mp (show x∈[_,_] from hx)) (λq=>⟨_,q▸n.lk,.inl N⟩) λq=>⟨_,W'.mp q▸m.lk,.inr N⟩⟩
theorem TM.one(hx:x∈ts)(b:È)(h:NM Z x b):TM Z ts b:=h.imp id λq=>⟨x,hx,q⟩
theorem E8(h:tH x=À p):Cu x=À [p.1,p.2]:=by
 cases x with
 |tup l=>
  match l,h with
  |[a,b],h=>rw[<-sm h];rfl
 |_=>show no h
theorem LI(hh:A.handled=Ã)(pzJ:yz Z O x i)(M:yz Z O y j)(hp:(jQ.two i j).put v U=À aU)(R:ar gg J H s.heap)(F:eQ (bw A) J Z O U s.heap)(hv:VR gg J s.heap v a)
  (h:∀h' tk,cX (TM Z [x,y]) J s.heap J h'->ar gg J H h'->eQ (bw A) J Z O aU h'->(∀{v:V} {a:Ä},VR gg J s.heap v a->VR gg J h' v a)->Q () {s with heap:=h',toks:=tk}) :
  É mo A (assign (.Tuple [.Name x p,.Name y q] k pp) Z a) Q E s:=by
 show Bz hp λa' b' hx hp=>?_;rw[<-sm hp]at h;show MA (vT (E8 hx) hv) λc vs e ht t Bd t=>fQ (vk Bd) λva vb q3 Ql hvb=>?_;rw[q3]at ht;apply aY e;show wpAny_assign_Tuple hh ht N N λbH hx=>?_;have hk:∀b o,s.heap.get? b=À o->bH.get? b=À o:=λb o e=>hx b o (ń (ő e)) e;have iQ:SE J s.heap J bH:=SE.keeps _ hk;show Â (ß (İ (fL (s:={s with heap:=bH}) (F.step R iQ) (R.keeps hk) pzJ.lk pzJ.kd (Ql.step R iQ) λjw SW dw bx fc NQ=>Â (ß (İ (fL (s:={s with heap:=jw,toks:=SW}) fc bx M.lk M.kd (NQ (hvb.step R iQ)) λeG rJ jp jn rS pj=>Ç (h eG rJ ⟨λb o e hb=>(dw.pres b o (hk b o e) λz=>hb (TM.one G' b z)).then λo' e'=>jp.pres b o' e' λz=>hb (TM.one (J' _ G') b z),λb o e=>(dw.dom b o (hk b o e)).elim (jp.dom b),[],(Ĭ _).symm,λt hm=>(nomatch hm)⟩ jn rS λx=>pj (NQ (x.step R iQ)))))))))
theorem vh(hh:A.handled=Ã)(hc:fW Z.scope O t=À r)(hp:r.put x U=À aU)(R:ar gg J H s.heap)(F:eQ (bw A) J Z O U s.heap)(hv:VR gg J s.heap x a)
  (h:∀h' tk,cX (TM Z (bi t)) J s.heap J h'->ar gg J H h'->eQ (bw A) J Z O aU h'->(∀{v:V} {a:Ä},VR gg J s.heap v a->VR gg J h' v a)->Q () {s with heap:=h',toks:=tk}) :
  É mo A (assign t Z a) Q E s:=by
 have c:=qh hc;clear hc;cases c with
 |one n=>rw[<-sm hp]at h;show İ (fL F R n.lk n.kd hv λh' tk S R' F' up=>h h' tk (S.mono (TM.one G')) R' F' up)
 |two n m=>show LI hh n m hp R F hv h
end
noncomputable def EM(nx:Nat)(U:aJ):aJ:=λi=>if i<nx then U i else Ã
theorem cM:∀(names:List (Str×ć)) (n:Nat) (acc:List (Str×È)),ì n names acc=ì n names []++acc
 |[],_,_=>rfl
 |(x,k)::r,n,acc=>by
  unfold ì;split
  ·rw[cM r (n+1) ((x,n)::acc),cM r (n+1) [(x,n)]];simp
  ·show cM r n acc
set_option tactic.hygienic true in
theorem iV:∀(names:List (Str×ć)) (n:Nat) {x:Str} {c:È},(x,c)∈ì n names []->(x,.cell)∈names
 |[],_,_,_,h=>by simp [ì]at h
 |(y,k)::r,n,x,c,h=>by
  unfold ì at h;split at h
  ·rename_i hk
   rw[cM]at h;show â (Ģ.mp h) (λh=>?_) (λh=>?_)
   ·show J' _ (iV r _ h)
   ·simp at h
    rw[h.1,beq_iff_eq.mp hk];show G'
  ·show J' _ (iV r _ h)
theorem du{α:Type}{x:Str}{c:α}{l:List (Str×α)}(h:(x,c)∈l):∃c',l.lookup x=À c':=by
 induction l with
 |nil=>show nomatch h
 |cons p r ih=>
  cases p with|mk y b=>
  rw[ſ];cases hb:x==y with
  |true=>show⟨b,N⟩
  |false=>
   show â (ą.mp h) (λh=>?_) (λh=>?_)
   ·cases h;simp at hb
   ·show ih h
theorem eI:∀(names:List (Str×ć)) (n:Nat) {x:Str},(x,.cell)∈names->∃c,(x,c)∈ì n names []
 |(y,k)::r,n,x,h=>by
  unfold ì;show â (ą.mp h) (λh=>?_) (λh=>?_)
  ·cases h
   rw[if_pos (show (NameKind.cell==NameKind.cell)=Æ from rfl),cM];show⟨n,by simp⟩
  ·split
   ·show ä (eI r (n+1) h) λc hc=>?_
    rw[cM];show⟨c,Ŵ _ hc⟩
   ·show eI r n h
noncomputable def dG(Z:Env):List (Str×ć)->List (Str×È)->List (Str×È)
 |[],acc=>acc
 |(n,k)::r,acc=>if k==.free then (match Z.cells.lookup n with|some c=>dG Z r ((n,c)::acc)|none=>acc) else dG Z r acc
theorem lu(scope:à)(h:∀n,(n,NameKind.free)∈scope.names->∃c,Z.cells.lookup n=À c):closureFor scope Z=pure (dG Z scope.names []):=by
 unfold closureFor
 have gp:∀(l:List (Str×ć)) (acc:List (Str×È)),(∀n,(n,NameKind.free)∈l->∃c,Z.cells.lookup n=À c) ->
   (forIn l acc λ(x:Str×ć) (cs:List (Str×È))=>(match x with|(name,kind)=>if (kind==.free)=Æ then (do let c <-cellOf Z name;pure (ForInStep.yield ((name,c)::cs))) else pure (ForInStep.yield cs):Sem (ForInStep (List (Str×È)))))=(pure (dG Z l acc):Sem (List (Str×È))):=by
  intro l
  induction l with
  |nil=>intro acc _;rfl
  |cons x r ih=>
   intro acc h;obtain ⟨n,k⟩:=x;rw[adp];by_cases hk:(k==NameKind.free)=Æ
   ·show ä (h n ((beq_iff_eq.mp hk)▸G')) λc hc=>?_
    have e1:cellOf Z n=pure c:=by unfold cellOf;rw[hc]
    simp only[hk,if_true,e1,pure_bind]
    rw[ih _ λn hn=>h n (J' _ hn)]
    simp only[dG,hk,if_true,hc]
   ·simp only[hk,abS,if_false,pure_bind]
    rw[ih _ λn hn=>h n (J' _ hn)]
    simp only[dG,hk,abS,if_false]
 rw[show (do
   let mut cs:=[]
   for (name,kind) in scope.names do
    if kind==.free then cs:=(name,<-cellOf Z name)::cs
   return cs:Sem (List (Str×È)))=(forIn scope.names [] λ(x:Str×ć) (cs:List (Str×È))=>(match x with|(name,kind)=>if (kind==.free)=Æ then (do let c <-cellOf Z name;pure (ForInStep.yield ((name,c)::cs))) else pure (ForInStep.yield cs):Sem (ForInStep (List (Str×È)))))>>=λcs=>pure cs from N,gp _ _ h]
 rfl
set_option tactic.hygienic true in
theorem kH:∀{l:List (Str×ć)} {acc:List (Str×È)} {n:Str} {c:È},(n,c)∈dG Z l acc->((n,.free)∈l/\Z.cells.lookup n=À c)\/(n,c)∈acc
 |[],_,_,_,h=>.inr h
 |(x,k)::r,acc,n,c,h=>by
  unfold dG at h;split at h
  ·rename_i hk
   split at h
   ·rename_i c' hc
    show â (kH h) (λq=>aQ q λh1 h2=>?_) (λh1=>?_)
    ·show .inl ⟨J' _ h1,h2⟩
    ·show â (ą.mp h1) (λh1=>?_) (λh1=>?_)
     ·cases h1;show .inl ⟨by rw[beq_iff_eq.mp hk];show G',hc⟩
     ·show .inr h1
   ·show .inr h
  ·show â (kH h) (λq=>aQ q λh1 h2=>?_) (λh1=>?_)
   ·show .inl ⟨J' _ h1,h2⟩
   ·show .inr h1
set_option tactic.hygienic true in
theorem sG:∀(acc:List (Str×È)),(∀n,(n,NameKind.free)∈l->∃c,Z.cells.lookup n=À c)->(∀n c,(n,c)∈acc->(n,c)∈dG Z l acc)/\∀{n c},(n,NameKind.free)∈l->Z.cells.lookup n=À c->(n,c)∈dG Z l acc:=by
 induction l with
 |nil=>show λacc _=>⟨λ_ _ h=>h,λh=>nomatch h⟩
 |cons p r ih=>
  intro acc hf;cases p with|mk x k=>
  unfold dG;have EJ:∀n,(n,NameKind.free)∈r->∃c,Z.cells.lookup n=À c:=λn hn=>hf n (J' _ hn);split
  ·rename_i hk
   show ä (hf x ((beq_iff_eq.mp hk)▸G')) λc' ff=>?_;rw[ff];show aQ (ih ((x,c')::acc) EJ) λi1 i2=>⟨λn c h=>i1 n c (J' _ h),λ{n c} h e=>â (ą.mp h) (λh=>?_) (λh=>?_)⟩
   ·cases h
    apply fR (sm ((ff).symm.trans e));show i1 _ _ G'
   ·show i2 h e
  ·rename_i hk
   show aQ (ih acc EJ) λi1 i2=>⟨i1,λ{n c} h e=>â (ą.mp h) (λh=>?_) (λh=>?_)⟩
   ·cases h;simp at hk
   ·show i2 h e
theorem ma{i:Nat}{x:Str}{ts:List Str}:∀{n:Nat},(ts.zipIdx n).lookup x=À i->n<=i/\ts[i-n]?=À x:=by
 induction ts with
 |nil=>show λh=>no h
 |cons t ts ih=>
  intro n h;rw[adQ,ſ]at h;cases hb:x==t with
  |true=>rw[hb]at h;cases h;show⟨đ _,by rw[beq_iff_eq.mp hb];simp⟩
  |false=>rw[hb]at h;show aQ (ih h) λh1 h2=>⟨(by show jL (y3 0xc1210b1013ba1820 N (iL h1) (iA _ _))),?_⟩;have:i-n=(i-(n+1))+1:=Ů (by show jL (y6 0xc4512ba181010ba03213ba183412be125 N (iA _ _) (iS _ _) (iA _ _) (Ϯ (jL (y3 0xc1210b1013ba1820 N (iL h1) (iA _ _)))))) (by show jL (y6 0xc5213ba181012ba183210ba15412be043 N (iA _ _) (iA _ _) (iS _ _) (Ϯ (jL (y2 0xc1010b10 N (iL h1))))));rw[this,aej];show h2
structure lJ(scope bR:à)(O:List (Str×Nat))(nx:Nat)(ts:List Str):Prop where
 kind:scope.kind=.function
 kinds:∀n k,(n,k)∈scope.names->k=.local\/k=.cell\/k=.free\/k=.globalImplicit
 uniq:∀n k,(n,k)∈scope.names->scope.names.lookup n=À k
 free:∀n,(n,NameKind.free)∈scope.names->(bR.names.lookup n=À .cell\/bR.names.lookup n=À .free)/\∃i,O.lookup n=À i
 tgts:∀t∈ts,scope.names.lookup t=À .local\/scope.names.lookup t=À .cell
 below:∀n i,(n,i)∈O->i<nx
 lev:fZ (je scope bR)=Ê
theorem sI(h:tR scope bR O nx ts=Æ):lJ scope bR O nx ts:=by
 simp only[tR,ō,ϩ,Ϝ,beq_iff_eq,decide_eq_true_eq,bne_iff_ne,ne_eq,abA,ϑ]at h
 show aQ h λk1 h8=>?_;show aQ k1 λk5 h7=>?_;show aQ k5 λk6 h6=>?_;obtain ⟨⟨⟨⟨h1,h2⟩,h3⟩,h4⟩,_⟩:=k6;show⟨h1,λn k hm=>?_,λn k hm=>h3 (n,k) hm,λn hm=>?_,h6,λn i hm=>h7 (n,i) hm,h8⟩
 ·have:=h2 (n,k) hm
  rcases this with ((h|h)|h)|h
  ·show .inl h
  ·show .inr (.inl h)
  ·show .inr (.inr (.inl h))
  ·show .inr (.inr (.inr h))
 ·show â (h4 (n,.free) hm) (λh=>?_) (λh=>?_)
  ·show absurd N h
  ·show h
theorem dT(scope:à)(Z:Env):relabel scope Z=je scope Z.scope:=by unfold relabel je Env.kindOf;rfl
theorem xj{bR:à}{x:Str}{k:ć}{names:List (Str×ć)}(h:names.lookup x=À k):
  (names.map λ(n,k)=>if (k==NameKind.free&&bR.kind==.function&&bR.names.lookup n==À .cell) then (n,NameKind.cell) else (n,k)).lookup x=À (if (k==NameKind.free&&bR.kind==.function&&bR.names.lookup x==À .cell) then .cell else k):=by
 induction names with
 |nil=>show no h
 |cons p r ih=>
  cases p with|mk n k'=>
  show List.lookup x ((if (k'==NameKind.free&&bR.kind==.function&&bR.names.lookup n==À .cell)=Æ then (n,NameKind.cell) else (n,k'))::_)=_;cases hx:x==n with
  |true=>
   simp only[ſ,hx]at h
   cases h;have:x=n:=by simpa using hx
   apply aY this;split<;>simp
  |false=>
   simp only[ſ,hx]at h
   split<;>(simp only[ſ,hx];show ih h)
theorem ti{scope bR:à}{x:Str}{k:ć}(h:scope.names.lookup x=À k):(je scope bR).names.lookup x=À (if (k==NameKind.free&&bR.kind==.function&&bR.names.lookup x==À .cell) then .cell else k):=xj h
theorem fF(x:Str):∀(a b:List (Str×α)),(a++b).lookup x=match a.lookup x with|some v=>À v|none=>b.lookup x
 |[],b=>rfl
 |(y,v)::a,b=>by
  rw[aek,ſ,ſ];cases x==y with
  |true=>rfl
  |false=>show fF x a b
theorem r2{O:List (Str×Nat)}{x:Str}{i:Nat}{names:List (Str×ć)}(h:(names.filterMap λ(n,k)=>if k==.free then (O.lookup n).map λi=>(n,i) else Ã).lookup x=À i):(x,.free)∈names/\O.lookup x=À i:=by
 induction names with
 |nil=>show no h
 |cons p r ih=>
  cases p with|mk n k=>
  rw[adj]at h;by_cases hk:(k==NameKind.free)=Æ
  ·simp only[hk,if_true]at h
   cases hn:O.lookup n with
   |none=>rw[hn]at h;show aQ (ih h) λh1 h2=>⟨J' _ h1,h2⟩
   |some j=>
    rw[hn]at h
    simp only[afo,ſ]at h
    cases hb:x==n with
    |true=>
     rw[hb]at h;cases h;have:x=n:=by simpa using hb
     apply aY this;show⟨(beq_iff_eq.mp hk)▸G',hn⟩
    |false=>rw[hb]at h;show aQ (ih h) λh1 h2=>⟨J' _ h1,h2⟩
  ·simp only[hk,abS,if_false]at h
   show aQ (ih h) λh1 h2=>⟨J' _ h1,h2⟩
set_option tactic.hygienic true in
theorem cr{scope:à}{O:List (Str×Nat)}{nx:Nat}{ts:List Str}{x:Str}{i:Nat}(h:(cp scope O nx ts).lookup x=À i):(nx<=i/\ts[i-nx]?=À x)\/((x,.free)∈scope.names/\O.lookup x=À i):=by
 unfold cp at h;rw[fF]at h;split at h
 ·rename_i v hv
  cases h;show .inl (ma hv)
 ·show .inr (r2 h)
section
variable{A:Ñ}{E:Ä->Å->Prop}{J aj:List È}{H:ag}{s:Å}{Z:Env}{O:List (Str×Nat)}{U:aJ}
theorem AT(F:eQ (bw A) J Z O U h)(K:lJ scope Z.scope O nx ts):∀n,(n,NameKind.free)∈scope.names->∃c,Z.cells.lookup n=À c:=λn hn=>by obtain ⟨h1,i,hi⟩:=K.free n hn;show gm (F.cells n i hi h1) λc u hc z=>⟨c,hc⟩
end
def kI(A:Ñ)(E:Ä->Å->Prop)(J:List È)(H:ag)(s:Å)(Z:Env)(O:List (Str×Nat))(U:aJ)(scope:à)(nx:Nat)(ts:List Str)(Q:Env->Å->Prop):Prop:=∀(K:lJ scope Z.scope O nx ts) (R:ar gg J H s.heap) (F:eQ (bw A) J Z O U s.heap) (h:∀cenv h',(∀b o,s.heap.get? b=À o->h'.get? b=À o)->cenv.scope=scope->eQ (bw A) J {cenv with scope:=relabel scope Z} (cp scope O nx ts) (EM nx U) h'->s.heap.get? cenv.locals=Ã ->
   (∀x∈ts,∀c,cenv.cells.lookup x=À c->s.heap.get? c=Ã)->(∀x c,cenv.cells.lookup x=À c->s.heap.get? c=Ã\/∃y,Z.cells.lookup y=À c)->Q cenv {s with heap:=h'}),É mo A (newFunctionEnv scope Z.globals (dG Z scope.names []) [] Z.qual Ã .none (À Z)) Q E s
namespace comp_envH
def kc:=hc (Of kI) ({},λz z=>True,[],[],dS,default,[],λz=>Ã,default,0,[],λz z=>True)
def A:=kc.1
def E:=kc.2.1
def J:=kc.2.2.1
def H:=kc.2.2.2.1
def s:=kc.2.2.2.2.1
def Z:=kc.2.2.2.2.2.1
def O:=kc.2.2.2.2.2.2.1
def U:=kc.2.2.2.2.2.2.2.1
def scope:=kc.2.2.2.2.2.2.2.2.1
def nx:=kc.2.2.2.2.2.2.2.2.2.1
def ts:=kc.2.2.2.2.2.2.2.2.2.2.1
def Q:=kc.2.2.2.2.2.2.2.2.2.2.2
set_option tactic.hygienic true in
theorem kt:kI A E J H s Z O U scope nx ts Q:=by
 intro K R F h;have hf:=AT F K
 simp only[newFunctionEnv,Option.isSome_some,if_true]
 show Â (wpAny_alloc (Â (wpAny_layCells _ (λname kind cells=>by cases VU:kind==NameKind.cell<;>simp [VU]) _ _ _ _ ?_)));have ok:=cellsFrom_ok scope.names (s.heap.push {cls:=.type "dict",data:=.dict #[]}) (s.heap.objs.size+1) [] ⟨λ_ _ hm=>(nomatch hm),List.Pairwise.nil⟩ (by rw[ϓ];show đ _);rw[ϓ]at ok;rw[show ({s with heap:=s.heap.push {cls:=.type "dict",data:=.dict #[]}}:Å).heap.objs.size=s.heap.objs.size+1 from ϓ ..];rw[cM];rw[adA];show Â (Ç (Ç ?_));have hk:∀b o,s.heap.get? b=À o->(pushCells (s.heap.push {cls:=.type "dict",data:=.dict #[]}) scope.names).get? b=À o:=λb o e=>pushCells_keeps _ _ b o (O' _ e);have io:=(Heap.Ns.new s.heap (.type "dict")).keeps (pushCells_keeps scope.names (s.heap.push {cls:=.type "dict",data:=.dict #[]}));generalize pushCells (s.heap.push {cls:=.type "dict",data:=.dict #[]}) scope.names=h' at ok hk io;have S:SE J s.heap J h':=SE.keeps _ hk
 -- the cells
 have rj:∀{x c},(ì (s.heap.objs.size+1) scope.names []).lookup x=À c->h'.IsCell c Ã/\s.heap.objs.size+1<=c/\scope.names.lookup x=À .cell:=λ{x c} e=>by have hm:=mem_of_lookup e;show⟨(ok.empty x c hm).1,(ok.empty x c hm).2,K.uniq _ _ (iV _ _ hm)⟩
 have nV:∀{x c},(dG Z scope.names []).lookup x=À c->Z.cells.lookup x=À c/\scope.names.lookup x=À .free:=λ{x c} e=>by
  show â (kH (mem_of_lookup e)) (λq=>aQ q λh1 h2=>?_) (λh1=>?_)
  ·show⟨h2,K.uniq _ _ h1⟩
  ·cases h1
 have He:∀{x c},(ì (s.heap.objs.size+1) scope.names []++dG Z scope.names []).lookup x=À c->(ì (s.heap.objs.size+1) scope.names []).lookup x=À c\/(dG Z scope.names []).lookup x=À c:=λ{x c} e=>by
  rw[fF]at e;split at e
  ·rename_i v hv;cases e;show .inl hv
  ·show .inr e
 have uc:∀{c},s.heap.objs.size+1<=c->s.heap.get? c=Ã:=λhc=>hO (z' (ϐ _) hc);show h {scope,locals:=s.heap.objs.size,globals:=Z.globals,cells:=ì (s.heap.objs.size+1) scope.names []++dG Z scope.names [],qual:=Z.qual,func:=Ã,code:=Z.code,frame:=Z.frame,builtins:=Z.builtins} h' hk N ?_ (aG _) ?_ ?_
 ·show⟨?_,F.glob,F.blt,⟨_,io,?_⟩,?_,aX R (aG _),aW R (aG _),?_,?_,?_,λq=>?_,F.stk.to λL o es ep h1 h2 h3=>⟨⟨o,es,ep,hk L o h1,h2⟩,h3⟩⟩
  rotate_right
  ·have q':fZ (relabel scope Z)=Æ:=q
   rw[dT,K.lev]at q';show absurd q' Ķ
  ·show (relabel scope Z).kind=_
   show K.kind
  ·intro x i v hx EK yt
   exfalso
   show â (cr hx) (λq=>aQ q λh1 h2=>?_) (λq=>aQ q λh1 h2=>?_)
   ·simp [EM,ķ.mpr h1]at yt
   ·have e1:(relabel scope Z).names.lookup x=À .local:=EK
    rw[dT,ti (K.uniq _ _ h1)]at e1;split at e1<;>cases e1
  ·intro x i hx EK
   show â (cr hx) (λq=>aQ q λh1 h2=>?_) (λq=>aQ q λh1 h2=>?_)
   ·have ht:=K.tgts x (ģ h2)
    have hc:scope.names.lookup x=À .cell:=by
     show â ht (λht=>?_) (λht=>?_)
     ·have e1:(relabel scope Z).names.lookup x=À .local:=by
       rw[dT,ti ht];rfl
      show â EK (λq=>?_) (λq=>?_)
      ·have q':(relabel scope Z).names.lookup x=À .cell:=q
       rw[e1]at q';cases q'
      ·have q':(relabel scope Z).names.lookup x=À .free:=q
       rw[e1]at q';cases q'
     ·show ht
    show ä (eI scope.names (s.heap.objs.size+1) (mem_of_lookup hc)) λc Zy=>ä (du Zy) λc' ff=>⟨c',Ã,?_,(rj ff).1,λv hv=>?_⟩
    ·show (ì (s.heap.objs.size+1) scope.names []++dG Z scope.names []).lookup x=À c'
     rw[fF,ff]
    ·simp [EM,ķ.mpr h1]at hv
   ·obtain ⟨h3,j,hj⟩:=K.free x h1
    show fQ (F.cells x i h2 h3) λc u hc OR hv=>ä (du ((sG [] hf).2 h1 hc)) λc' ff=>?_;have MK:c'=c:=by have:=(nV ff).1;rw[hc]at this;show(Option.some.inj this).symm
    subst MK;show⟨c',u,?_,OR.keeps hk,λv rP=>?_⟩
    ·show (ì (s.heap.objs.size+1) scope.names []++dG Z scope.names []).lookup x=À c'
     rw[fF];cases q:(ì (s.heap.objs.size+1) scope.names []).lookup x with
     |none=>show ff
     |some z=>have:=(rj q).2.2;rw[K.uniq _ _ h1]at this;cases this
    ·have:U i=À v:=by
      unfold EM at rP;split at rP
      ·show rP
      ·show no rP
     show aE (hv v this) λa h4 h5=>⟨a,h4,h5.step R S⟩
  ·intro x c e
   show â (He e) (λe=>?_) (λe=>?_)
   ·show im (rj e) λh1 h2 _=>⟨⟨_,h1⟩,aX R (uc h2),Ř h2,aW R (uc h2)⟩
   ·show aQ (nV e) λh1 _=>JP (F.cellF x c h1) λk2 h2 h3 h4=>?_;show ä k2 λu hu=>?_
    show⟨⟨u,hu.keeps hk⟩,h2,ń hu.lt,h4⟩
  ·intro x y c e1 e2
   rcases He e1 with e1|e1<;>show â (He e2) (λe2=>?_) (λe2=>?_)
   ·show name_of_addr ok.apart (mem_of_lookup e1) (mem_of_lookup e2)
   ·exfalso
    show im (rj e1) λ_ h2 _=>aQ (F.cellF y c (nV e2).1) λk3 _=>?_;show ä k3 λu hu=>?_;show absurd hu.lt (ķ.mpr (z' (ϐ _) h2))
   ·exfalso
    show im (rj e2) λ_ h2 _=>aQ (F.cellF x c (nV e1).1) λk4 _=>?_;show ä k4 λu hu=>?_;show absurd hu.lt (ķ.mpr (z' (ϐ _) h2))
   ·show F.cellI x y c (nV e1).1 (nV e2).1
  ·intro x y i e1 e2
   rcases cr e1 with ⟨h1,h2⟩|⟨h1,h2⟩<;>show â (cr e2) (λq=>aQ q λh3 h4=>?_) (λq=>aQ q λh3 h4=>?_)
   ·rw[h2]at h4;show Option.some.inj h4
   ·have:=K.below _ _ (mem_of_lookup h4);lia
   ·have:=K.below _ _ (mem_of_lookup h2);lia
   ·show F.slots x y i h2 h4
 ·intro x hx c e
  show â (He e) (λe=>?_) (λe=>?_)
  ·show uc (rj e).2.1
  ·exfalso
   have:=(nV e).2;rcases K.tgts x hx with q|q<;>(rw[q]at this;cases this)
 ·intro x c e
  show â (He e) (λe=>?_) (λe=>?_)
  ·show .inl (uc (rj e).2.1)
  ·show .inr ⟨x,(nV e).1⟩
end comp_envH
theorem FA:kI A E J H s Z O U scope nx ts Q:=hk (P:=Of kI) comp_envH.kt (A,E,J,H,s,Z,O,U,scope,nx,ts,Q)
def NT(h:Ó)(b:È):Prop:=∀o,h.get? b=À o->¬ jZ o
theorem eH.nt(x:eH h b):NT h b:=λo e=>by show aE x λo' e' hn=>?_;apply aY (sm ((e).symm.trans e'));show hn.not
section
variable{A:Ñ}{E:Ä->Å->Prop}{J aj ľ:List È}{H:ag}{s Ý:Å}{Z:Env}{O:List (Str×Nat)}{U:aJ}{wr:List È}
theorem Mv.tupT(M:Mv wr J h h')(hw:∀b∈wr,NT h b):∀b o,h.get? b=À o->jZ o->b∉J->h'.get? b=À o/\b∉J:=
 λb o e hs hn=>⟨M b o (λhb=>hw b hb o e hs) hn e,hn⟩
theorem Mv.vrT(M:Mv wr J h h')(hw:∀b∈wr,NT h b)(x:VR gg J h v a):VR gg J h' v a:=x.stepT (λz z e=>e) (M.tupT hw)
theorem Mv.vrsT(M:Mv wr J h h')(hw:∀b∈wr,NT h b)(x:bv gg J h l vs):bv gg J h' l vs:=x.stepT (λz z e=>e) (M.tupT hw)
theorem ar.mvT(R:ar gg J H h)(M:∀b o,b∉wr->h.get? b=À o->h'.get? b=À o)(hw:∀b∈wr,NT h b)(hn:∀b∈wr,b∉J)(hB:∀b∈wr,gg.B.get? b=Ã):ar gg J H h':=by have M':Mv wr J h h':=λb o h1 z e=>M b o h1 e;show⟨λb o e=>M b o (λhb=>by rw[hB b hb]at e;show no e) (R.base b o e),R.fresh,R.len,R.nodup,λi a m h1 h2=>?_,R.tabs⟩;show(R.objs i a m h1 h2).stepT (λz z e=>e) (M'.tupT hw) λo e=>M _ o (λhb=>hn _ hb (ģ h1)) e
theorem eQ.mv(F:eQ (bw A) J Z O U h)(M:Mv wr J h h')(hw:∀b∈wr,NT h b)(hL:Z.locals∉wr)(hC:∀x c,Z.cells.lookup x=À c->c∉wr)(hS:∀e∈(bw A),∀L,e.frame=À L->L∉wr):eQ (bw A) J Z O U h':=by
 show aE F.ns λm hn hm=>?_
 have wS:∀x c u,Z.cells.lookup x=À c->h.IsCell c u->h'.IsCell c u:=λx c u e y=>by show aE y λo ho hd=>⟨o,M _ _ (hC x c e) (F.cellF x c e).2.1 ho,hd⟩
 show⟨F.kind,F.glob,F.blt,⟨m,?_,λx i v a b c=>?_⟩,λx i a b=>?_,F.locN,F.locB,λx c e=>?_,F.cellI,F.slots,F.tab,λe he=>?_⟩
 rotate_right
 ·obtain ⟨k1,L,o,es,ep,k2,k3,k4,k5,k6⟩:=F.stk e he
  show⟨k1,L,o,es,ep,k2,M L o (hS e he L k2) k5 k3,k4,k5,k6⟩
 ·show oN hn λo es ep ho r=>⟨o,es,ep,M _ _ hL F.locN ho,r⟩
 ·show aE (hm x i v a b c) λy h1 h2=>⟨y,h1,M.vrT hw h2⟩
 ·show fQ (F.cells x i a b) λc u h1 h2 h3=>⟨c,u,h1,wS x c u h1 h2,λv hv=>aE (h3 v hv) λy h4 h5=>⟨y,h4,M.vrT hw h5⟩⟩
 ·show JP (F.cellF x c e) λk8 h1 h2 h3=>?_;show ä k8 λu hu=>?_
  show⟨⟨u,wS x c u e hu⟩,h1,h2,h3⟩
theorem eQ.mvN(F:eQ (bw A) J Z O U h)(M:Mv wr J h h')(hw:∀b∈wr,eH h b)(hL:Z.locals∉wr)(hC:∀x c,Z.cells.lookup x=À c->c∉wr):eQ (bw A) J Z O U h':=
 F.mv M (λb hb=>(hw b hb).nt) hL hC λe he L hf hb=>by obtain ⟨_,L',o,es,ep,k2,k3,k4,_⟩:=F.stk e he;show aE (hw L hb) λo' e' ho=>?_;rw[hf]at k2;cases k2;rw[k3]at e';cases e';show ho.dict _ _ k4
theorem cX.mv(S:cX ms ľ aZ J h)(R':ar gg J H h')(M:Mv wr J h h')(Z5:∀b,b∈ľ->ms b)(hf:∀b∈wr,aZ.get? b=Ã):cX ms ľ aZ J h':=by
 have nw:∀b o,aZ.get? b=À o->b∉wr:=λb o e hb=>by rw[hf b hb]at e;show no e
 show⟨λb o e hb=>(S.pres b o e hb).then λo' e'=>.inl (M b o' (nw b o e) (S.notin e λq=>hb (Z5 b q)) e'),λb o e=>?_,S.ext⟩;by_cases hb:b∈J
 ·show R'.live hb
 ·show ä (S.dom b o e) λo' e'=>⟨o',M b o' (nw b o e) hb e'⟩
theorem pe(f:Ô->Bool->Sem (ForInStep Bool))(hf:∀c,f c Ê=pure (.yield Ê)):∀(ifs:List Ô) {Q:Bool->Å->Prop},Q Ê s->É mo A (forIn ifs Ê f) Q E s
 |[],Q,h=>by rw[adA];show Ç h
 |c::r,Q,h=>by rw[adp,hf];show Â (Ç (pe f hf r h))
theorem tu{F':Ô->Option CE}{Á:ax}(ih:∀e c,F' e=À c->fA A Z O e (bV Á c)):∀{ifs:List Ô} {cs:gG},cg F' ifs=À cs->∀ ⦃U H b ae⦄,cW Á cs U H=À (b,ae)->∀ ⦃J s⦄,ar gg J H s.heap->eQ (bw A) J Z O U s.heap ->
  ∀E,É mo A (forIn ifs Æ λc r=>if r=Æ then do let ok <-isTrue c Z (eval c Z);pure (ForInStep.yield ok) else pure (ForInStep.yield r)) (Cj J s b ae) E s
 |[],cs,h=>by intro U H b ae he J s R F E;obtain rfl:=sm h;show aQ (nP he) λSm Sn=>?_;apply fR Sm;apply fR Sn;rw[adA];show Ç ⟨rfl,J,SE.refl _ _,R,bK.refl _⟩
 |e::r,cs,h=>by
  show ie h λc IT h1 h2 h=>?_;apply dJ h;intro U H b ae he J s R F E;rw[adp]
  simp only[if_true]
  show j4 he λp Î hx he=>Â (Â ((ih e c h1).bind (a0 hx) R F λÌ aj S T aA ba=>Ç ?_));cases p with
  |true=>show Ï (tu ih h2 he aA ba E) (λz z x=>Cj.after S T x) λz z x=>x
  |false=>apply dD he;show pe _ (λz=>by simp) r ⟨rfl,aj,S,aA,T⟩
end
def fP(A:Ñ)(R:Result->Å->Prop)(s:Å)(elt:Ô)(aH:Ô)(cN:Ô)(ifs:List Ô)(scope:à)(pos:Pos)(it:Ä)(acc:Ä)(Z:Env)(I:Nat->Å->Prop)(n:Nat):Prop:=∀(yc:∀n s,I n s->∀E,É mo A (Ĳ it) (λr Ì=>match r with
   |none=>R (.ok .next) Ì
   |some v=>É mo A (Ń aH it v) (λz NK=>É mo A (assign aH Z v) (λz cZ=>
     É mo A (forIn ifs Æ λc r=>if r=Æ then do let ok <-isTrue c Z (eval c Z);pure (ForInStep.yield ok) else pure (ForInStep.yield r)) (λok i4=>
      if ok=Æ then É mo A (eval elt Z) (λx Ar=>
       É mo A (Á (.builtin "list.append") [acc,x]) (λz Ij=>∃m,m<n/\I m Ij) E Ar) E i4
      else ∃m,m<n/\I m i4) E cZ) E NK) E Ì) E s) (h:I n s),ĝ mo A (.compLoop (.ListComp elt [⟨aH,cN,ifs,0⟩] scope pos) 0 it acc Z) R s
namespace compLoop_anyH
def kc:=hc (Uv fP) ({},λz z=>True,dS,default,default,default,[],default,default,.none,.none,default,λz z=>True,0)
def A:=kc.1
def R:=kc.2.1
def s:=kc.2.2.1
def elt:=kc.2.2.2.1
def aH:=kc.2.2.2.2.1
def cN:=kc.2.2.2.2.2.1
def ifs:=kc.2.2.2.2.2.2.1
def scope:=kc.2.2.2.2.2.2.2.1
def pos:=kc.2.2.2.2.2.2.2.2.1
def it:=kc.2.2.2.2.2.2.2.2.2.1
def acc:=kc.2.2.2.2.2.2.2.2.2.2.1
def Z:=kc.2.2.2.2.2.2.2.2.2.2.2.1
def I:=kc.2.2.2.2.2.2.2.2.2.2.2.2.1
def n:=kc.2.2.2.2.2.2.2.2.2.2.2.2.2
theorem kt:fP A R s elt aH cN ifs scope pos it acc Z I n:=by
 intro yc h;show codeAny_loop N I (λn s hI=>?_) n h;show É _ A ((compTurn (.ListComp elt [⟨aH,cN,ifs,0⟩] scope pos) 0 it acc Z).onRaise (λx=>do noteFrame x Z;theTreesLotGoes x)) _ _ s;show wpAny_noted ?_;rw[compTurn_list];show Â (ē (Â (Ï (yc n s hI _) (λr Ì bH=>?_) λz z h'=>h')));cases r with
 |none=>show Ç bH
 |some v=>
  show Â (Ï bH (λz NK Sg=>Â (Ï Sg (λz cZ jw=>Â (Ï jw (λok i4 eG=>?_) λz z h'=>h')) λz z h'=>h')) λz z h'=>h');cases ok with
  |false=>show Ç ⟨N,eG⟩
  |true=>show Â (Â (Ï eG (λx Ar lW=>Â (Ï lW (λz Ij jU=>Ç (Ç ⟨N,jU⟩)) λz z h'=>h')) λz z h'=>h'))
end compLoop_anyH
theorem tQ:fP A R s elt aH cN ifs scope pos it acc Z I n:=hk (P:=Uv fP) compLoop_anyH.kt (A,R,s,elt,aH,cN,ifs,scope,pos,it,acc,Z,I,n)
theorem NP(h:i≠a):cS U a x i=U i:=if_neg h
theorem Po{S:Nat->Prop}(h:∀i v,(i<nx\/S i)->cJ i=À v->IM i=À v)(i:Nat)(v:V)(hi:i<nx\/i=a\/S i)(hv:cS cJ a x i=À v):cS IM a x i=À v:=by
 by_cases e:i=a
 ·show(if_pos e).trans ((if_pos e).symm.trans hv)
 ·rw[NP e]at hv ⊢;show h i v (hi.imp id λq=>q.resolve_left e) hv
theorem Pp(ha:nx<=a)(h:∀i v,EM nx U i=À v->cJ i=À v)(i:Nat)(v:V)(hv:EM nx U i=À v):cS cJ a x i=À v:=
 (NP (ń (ĵ (cT hv).1 ha))).trans (h i v hv)
theorem Sy(i:Nat)(v:V)(hi:i<nx\/False)(hv:U i=À v):EM nx U i=À v:=(if_pos (hi.resolve_right id)).trans hv
theorem Ld(h:t.put x U=À aU)(hs:∀i,xX t i->nx<=i):
  ∃iq,t.put x (EM nx U)=À iq/\(∀i v,(i<nx\/xX t i)->aU i=À v->iq i=À v)/\∀i v,EM nx U i=À v->aU i=À v:=by
 cases t with
 |one a=>apply dJ h;show⟨_,N,λi v hi=>Po Sy i v (hi.imp id .inl),Pp (hs a N) λi v hv=>(cT hv).2⟩
 |two a b=>show bT h λp hx h=>?_;apply dJ h;show⟨_,?_,λi v hi=>Po (Po Sy) i v (hi.imp id λq=>q.symm.imp id .inl),Pp (hs b (.inr N)) (Pp (hs a (.inl N)) λi v hv=>(cT hv).2)⟩;show (tH x).bind _=_;rw[hx];rfl
section
variable{A:Ñ}{E:Ä->Å->Prop}{ľ:List È}{Ý:Å}{cenv:Env}{O:List (Str×Nat)}{U:aJ}{Á:ax}{d:Nat}
theorem rT.kp{I:È}{xs:List V}{w:List (Nat×bu)}{two:Bool}{ys:List V}{vs:List Ä}{wr kp:List È}{St:Nat->Ó->Prop}{rU:Nat->Ä->Ó->Prop}(Ti:rT A I xs w two ys vs wr kp St rU){k:Nat}{h h':Ó}(st:St k h){b:È}(hb:b∈wr\/b∈kp){o:Obj}(e:h.get? b=À o)(x:gK h' b o):h'.get? b=À o:=by
 show â (hb) (λhb=>?_) (λhb=>?_)
 ·obtain ⟨o',e',hs⟩:=Ti.wrN _ _ st b hb
  rw[e]at e';cases e';show x.of hs.dict
 ·obtain ⟨o',cP,n,e',hd⟩:=Ti.kpN _ _ st b hb
  rw[e]at e';cases e';show x.seq hd
theorem Hc{h h':Ó}{D:È}{va:Array Ä}(p:h.PlainList D va){o:Obj}(e:h.get? D=À o)(x:gK h' D o):h'.get? D=À o:=by obtain ⟨n,ho⟩:=p;rw[ho]at e;cases e;show x.seq rfl
structure EU(wr kp:List È)(Z:Env)(D:È):Prop where
 loc:∀b,b∈wr\/b∈kp->b≠Z.locals
 cel:∀b,b∈wr\/b∈kp->∀x,Z.cells.lookup x≠À b
 acc:∀b,b∈wr\/b∈kp->b≠D
structure Tb where
 A:Ñ
 ľ:List È
 Ý:Å
 Z:Env
 O:List (Str×Nat)
 ys:List V
 vs:List Ä
 wr:List È
 kp:List È
 D:È
structure QA(c:Tb):Prop where
 L:EU c.wr c.kp c.Z c.D
 dl:c.D≠c.Z.locals
 dc:∀x,c.Z.cells.lookup x≠À c.D
 w0:∀b∈c.wr,c.Ý.heap.get? b=Ã
 d0:c.Ý.heap.get? c.D=Ã
 wB:∀b∈c.wr,gg.B.get? b=Ã
 dB:gg.B.get? c.D=Ã
structure CI(c:Tb)(U:aJ)(J:List È)(la:List V)(va:List Ä)(h:Ó):Prop where
 S:SE c.ľ c.Ý.heap J h
 F:eQ (bw c.A) J c.Z c.O U h
 ys:bv gg J h c.ys c.vs
 hn:∀b,b∈c.wr\/b∈c.kp->b∉J
 hD:h.PlainList c.D va.toArray
 dφ:c.D∉J
 la:bv gg J h la va
section
variable{c:Tb}{J aS:List È}{H:ag}{la:List V}{va:List Ä}{h h':Ó}{aU:aJ}
theorem CI.mv(X:QA c)(I:CI c U J la va h)(M:Mv c.wr J h h')(R':ar gg J H h')(w:∀b∈c.wr,eH h b):CI c U J la va h':=
 ⟨cX.mv I.S R' M (λz q=>q) X.w0,I.F.mvN M w (λq=>X.L.loc _ (.inl q) N) λx b e q=>X.L.cel b (.inl q) x e,M.vrsT (λb hb=>(w b hb).nt) I.ys,I.hn,I.hD.at λo e=>M c.D o (λq=>X.L.acc c.D (.inl q) N) I.dφ e,I.dφ,M.vrsT (λb hb=>(w b hb).nt) I.la⟩
theorem CI.on(I:CI c U J la va h)(hr:∀y i v,c.O.lookup y=À i->aU i=À v->U i=À v):CI c aU J la va h:=⟨I.S,I.F.on hr,I.ys,I.hn,I.hD,I.dφ,I.la⟩
theorem bv.upG(up:∀{v:V} {a:Ä},VR gg J h v a->VR gg J h' v a):∀{l:List V} {vs:List Ä},bv gg J h l vs->bv gg J h' l vs
 |[],_,x=>by cases x;show .nil
 |v::l,_,x=>by cases x with|cons h1 h2=>show .cons (up h1) (bv.upG up h2)
theorem CI.tgt(X:QA c)(I:CI c U J la va h)(S':cX (TM c.Z ns) J h J h')(F':eQ (bw c.A) J c.Z c.O aU h')(up:∀{v:V} {a:Ä},VR gg J h v a->VR gg J h' v a)(Kd:c.Ý.heap.get? c.Z.locals=Ã)(uj:∀x∈ns,∀b,c.Z.cells.lookup x=À b->c.Ý.heap.get? b=Ã):CI c aU J la va h':=
 ⟨cX.trans I.S S' (λz z z hb=>hb) λb o e z q=>â q (λq=>by rw[q,Kd]at e;show(nomatch e)) λq=>aE q λx hx q=>by rw[uj x hx b q]at e;show(nomatch e),
  F',I.ys.upG up,I.hn,I.hD.at λo e=>Hc I.hD e (S'.pres c.D o e λq=>â q X.dl λq=>aE q λx z q=>X.dc x q),I.dφ,I.la.upG up⟩
theorem CI.step(I:CI c U J la va h)(R:ar gg J H h)(S':SE J h aS h')(lv:∀b,b∈c.wr\/b∈c.kp->∃o,h.get? b=À o):CI c U aS la va h':=
 ⟨I.S.trans S',I.F.step R S',I.ys.step R S',λb hb=>(lv b hb).elim λo e=>S'.notin e (I.hn b hb),I.hD.at λo e=>Hc I.hD e (S'.pres c.D o e I.dφ),I.hD.elim λn e=>S'.notin e I.dφ,I.la.step R S'⟩
theorem Yh{D:È}{va:Array Ä}(hp:h.PlainList D va):∀b∈[D],NT h b:=λb hb o e=>by rw[W'.mp hb]at e;show hp.elim λn ho=>by rw[<-Option.some.inj (ho.symm.trans e)];show gT N
theorem CI.app(X:QA c)(I:CI c U J la va h)(R:ar gg J H h)(V:VR gg J h v av)(D':h'.PlainList c.D (va.toArray.push av))(hs:Heap.SameBut c.D h h'):ar gg J H h'/\CI c U J (la++[v]) (va++[av]) h':=by
 have M:∀b o,b∉[c.D]->h.get? b=À o->h'.get? b=À o:=λb o hb e=>hs.extBut b o (λq=>hb (W'.mpr q)) e;have M':Mv [c.D] J h h':=Mv.all M;have nt:=Yh I.hD;have one:∀{P:È->Prop},P c.D->∀b∈[c.D],P b:=λp b hb=>by rw[W'.mp hb];show p
 have R':=R.mvT M nt (one I.dφ) (one X.dB);show⟨R',cX.mv I.S R' M' (λz q=>q) (one X.d0),I.F.mv M' nt (λq=>X.dl (W'.mp q).symm) (λx b e q=>X.dc x (W'.mp q▸e)) (λe he L hf q=>?_),M'.vrsT nt I.ys,I.hn,?_,I.dφ,M'.vrsT nt (I.la.append (.one V))⟩
 ·obtain ⟨_,L',o,es,ep,k2,k3,k4,_⟩:=I.F.stk e he
  rw[hf]at k2;cases k2;rw[W'.mp q]at k3;show I.hD.elim λn ho=>by rw[<-Option.some.inj (ho.symm.trans k3)]at k4;show nomatch k4
 ·rw[List.push_toArray]at D';show D'
end
def ml(ľ:List È)(Ý:Å)(C D:È)(l:List V)(σe:ag)(s':Å):Prop:=
 ∃aS,SE ľ Ý.heap aS s'.heap/\ar gg aS (σe++[.lst l]) s'.heap/\VR gg aS s'.heap (.ref σe.length) (.ref D)/\bK Ý s'/\C∉aS/\∃m,s'.heap.Ns C m
theorem CI.fin(X:QA c)(I:CI c U J l va s'.heap)(R:ar gg J σe s'.heap)(T:bK c.Ý s')(hl:l.length<=aw):ml c.ľ c.Ý c.Z.locals c.D l σe s':=by
 show aE I.F.ns λm io z=>aE I.S.ext λt ht hf=>⟨J++[c.D],⟨I.S.pres,I.S.dom,t++[c.D],by rw[ht,ü],λa ha=>â (Ģ.mp ha) (hf a) λha=>by rw[W'.mp ha];show X.d0⟩,R.more I.dφ X.dB (.lst I.hD (ź hl) I.la) (Yh I.hD c.D G'),.ref ?_,T,λq=>?_,m,io⟩
 ·rw[<-R.len,Ϟ (đ _),Ϻ];rfl
 ·show â (Ģ.mp q) I.F.locN λq=>X.dl (W'.mp q).symm
structure CT(c:Tb)(U S9:aJ)(cl:CE)(cs:gG)(Á:ax)(t:jQ)(w:List (Nat×bu))(xs l:List V)(σe:ag)(St:Nat->Ó->Prop)(n k:Nat)(J:List È)(H:ag)(la:List V)(va:List Ä)(lr:List V)(s:Å):Prop where
 I:CI c U J la va s.heap
 T:bK c.Ý s
 R:ar gg J H s.heap
 st:St k s.heap
 hk:k<=xs.length
 n:n=xs.length-k
 hc:fX (ab Á cl) (cW Á cs) t w (xs.drop k) S9 H=À (lr,σe)
 hl:la++lr=l
theorem rT.live{I:È}{xs:List V}{w:List (Nat×bu)}{two:Bool}{ys:List V}{vs:List Ä}{wr kp:List È}{St:Nat->Ó->Prop}{rU:Nat->Ä->Ó->Prop}(Ti:rT A I xs w two ys vs wr kp St rU){k:Nat}{h:Ó}(st:St k h)(b:È)(hb:b∈wr\/b∈kp):∃o,h.get? b=À o:=
 â hb (λhb=>aE (Ti.wrN _ _ st b hb) λo e z=>⟨o,e⟩) λhb=>oN (Ti.kpN _ _ st b hb) λo z z e z=>⟨o,e⟩
end
def kJ(A:Ñ)(ľ:List È)(Ý:Å)(cenv:Env)(O:List (Str×Nat))(U:aJ)(Á:ax)(d:Nat)(elt:Ô)(aH:Ô)(cN:Ô)(ifs:List Ô)(scope:à)(pos:Pos)(nx:Nat)(t:jQ)(I:È)(D:È)(xs:List V)(ys:List V)(l:List V)(vs:List Ä)(w:List (Nat×bu))(two:Bool)(wr:List È)(kp:List È)(St:Nat->Ó->Prop)(rU:Nat->Ä->Ó->Prop)(c:CE)(cs:gG)(F':Ô->Option CE)(H:ag)(σe:ag)(Q:Result->Å->Prop)(s:Å)(J:List È):Prop:=∀(hA:i5 A d) (Ti:rT A I xs w two ys vs wr kp St rU) (EL:vf two aH) (C4:fW cenv.scope O aH=À t) (sV:∀i,xX t i->nx<=i) (TJ:∀y i,O.lookup y=À i->i<nx\/xX t i) (hE:aR A cenv O elt (ab Á c)) (iC:cg F' ifs=À cs) (hT:∀e c,F' e=À c->fA A cenv O e (bV Á c)) (L:EU wr kp cenv D) (Xu:D≠cenv.locals) (Xs:∀x,cenv.cells.lookup x≠À D) (Kd:Ý.heap.get? cenv.locals=Ã) (uj:∀x∈bi aH,∀c,cenv.cells.lookup x=À c->Ý.heap.get? c=Ã) (qK:∀b∈wr,Ý.heap.get? b=Ã) (Xr:Ý.heap.get? D=Ã) (hB:∀b∈wr,gg.B.get? b=Ã) (Qa:gg.B.get? D=Ã) (hl:l.length<=aw) (hc:fX (ab Á c) (cW Á cs) t w xs U H=À (l,σe)) (S:SE ľ Ý.heap J s.heap) (T:bK Ý s) (R:ar gg J H s.heap) (F:eQ (bw A) J cenv O (EM nx U) s.heap) (h0:St 0 s.heap) (M3:bv gg J s.heap ys vs) (hn:∀b,b∈wr\/b∈kp->b∉J) (hD:s.heap.PlainList D #[]) (CY:D∉J) (hQ:∀s',ml ľ Ý cenv.locals D l σe s'->Q (.ok .next) s'),ĝ mo A (.compLoop (.ListComp elt [⟨aH,cN,ifs,0⟩] scope pos) 0 (.ref I) (.ref D) cenv) Q s
namespace comp_runH
def kc:=hc (U2 λb0=>U2 λb1=>U2 λb2=>U2 λb3=>U2 λb4=>U2 λb5=>U2 λb6=>U2 λb7=>U2 λb8=>U2 λb9=>U2 λUF=>U2 λUG=>U2 λUH=>U2 λUJ=>U2 λUK=>U2 λUL=>U2 λUM=>U2 λUN=>U2 λUO=>U2 λUP=>U2 λUQ=>yp (kJ b0 b1 b2 b3 b4 b5 b6 b7 b8 b9 UF UG UH UJ UK UL UM UN UO UP UQ)) ({},[],dS,default,[],λz=>Ã,λz z z=>Ã,0,default,default,default,[],default,default,0,.one 0,0,0,[],[],[],[],[],Ê,[],[],λz z=>True,λz z z=>True,.dict0,.nil,λz=>Ã,[],[],λz z=>True,dS,[])
def A:=kc.1
def ľ:=kc.2.1
def Ý:=kc.2.2.1
def cenv:=kc.2.2.2.1
def O:=kc.2.2.2.2.1
def U:=kc.2.2.2.2.2.1
def Á:=kc.2.2.2.2.2.2.1
def d:=kc.2.2.2.2.2.2.2.1
def elt:=kc.2.2.2.2.2.2.2.2.1
def aH:=kc.2.2.2.2.2.2.2.2.2.1
def cN:=kc.2.2.2.2.2.2.2.2.2.2.1
def ifs:=kc.2.2.2.2.2.2.2.2.2.2.2.1
def scope:=kc.2.2.2.2.2.2.2.2.2.2.2.2.1
def pos:=kc.2.2.2.2.2.2.2.2.2.2.2.2.2.1
def nx:=kc.2.2.2.2.2.2.2.2.2.2.2.2.2.2.1
def t:=kc.2.2.2.2.2.2.2.2.2.2.2.2.2.2.2.1
def I:=kc.2.2.2.2.2.2.2.2.2.2.2.2.2.2.2.2.1
def D:=kc.2.2.2.2.2.2.2.2.2.2.2.2.2.2.2.2.2.1
def xs:=kc.2.2.2.2.2.2.2.2.2.2.2.2.2.2.2.2.2.2.1
def ys:=kc.2.2.2.2.2.2.2.2.2.2.2.2.2.2.2.2.2.2.2.1
def l:=kc.2.2.2.2.2.2.2.2.2.2.2.2.2.2.2.2.2.2.2.2.1
def vs:=kc.2.2.2.2.2.2.2.2.2.2.2.2.2.2.2.2.2.2.2.2.2.1
def w:=kc.2.2.2.2.2.2.2.2.2.2.2.2.2.2.2.2.2.2.2.2.2.2.1
def two:=kc.2.2.2.2.2.2.2.2.2.2.2.2.2.2.2.2.2.2.2.2.2.2.2.1
def wr:=kc.2.2.2.2.2.2.2.2.2.2.2.2.2.2.2.2.2.2.2.2.2.2.2.2.1
def kp:=kc.2.2.2.2.2.2.2.2.2.2.2.2.2.2.2.2.2.2.2.2.2.2.2.2.2.1
def St:=kc.2.2.2.2.2.2.2.2.2.2.2.2.2.2.2.2.2.2.2.2.2.2.2.2.2.2.1
def rU:=kc.2.2.2.2.2.2.2.2.2.2.2.2.2.2.2.2.2.2.2.2.2.2.2.2.2.2.2.1
def c:=kc.2.2.2.2.2.2.2.2.2.2.2.2.2.2.2.2.2.2.2.2.2.2.2.2.2.2.2.2.1
def cs:=kc.2.2.2.2.2.2.2.2.2.2.2.2.2.2.2.2.2.2.2.2.2.2.2.2.2.2.2.2.2.1
def F':=kc.2.2.2.2.2.2.2.2.2.2.2.2.2.2.2.2.2.2.2.2.2.2.2.2.2.2.2.2.2.2.1
def H:=kc.2.2.2.2.2.2.2.2.2.2.2.2.2.2.2.2.2.2.2.2.2.2.2.2.2.2.2.2.2.2.2.1
def σe:=kc.2.2.2.2.2.2.2.2.2.2.2.2.2.2.2.2.2.2.2.2.2.2.2.2.2.2.2.2.2.2.2.2.1
def Q:=kc.2.2.2.2.2.2.2.2.2.2.2.2.2.2.2.2.2.2.2.2.2.2.2.2.2.2.2.2.2.2.2.2.2.1
def s:=kc.2.2.2.2.2.2.2.2.2.2.2.2.2.2.2.2.2.2.2.2.2.2.2.2.2.2.2.2.2.2.2.2.2.2.1
def J:=kc.2.2.2.2.2.2.2.2.2.2.2.2.2.2.2.2.2.2.2.2.2.2.2.2.2.2.2.2.2.2.2.2.2.2.2
theorem kt:kJ A ľ Ý cenv O U Á d elt aH cN ifs scope pos nx t I D xs ys l vs w two wr kp St rU c cs F' H σe Q s J:=by
 intro hA Ti EL C4 sV TJ hE iC hT L Xu Xs Kd uj qK Xr hB Qa hl hc S T R F h0 M3 hn hD CY hQ;have X:QA ⟨A,ľ,Ý,cenv,O,ys,vs,wr,kp,D⟩:=⟨L,Xu,Xs,qK,Xr,hB,Qa⟩;show tQ (I:=λn s=>∃k J H la va,∃lr,CT ⟨A,ľ,Ý,cenv,O,ys,vs,wr,kp,D⟩ (EM nx U) U c cs Á t w xs l σe St n k J H la va lr s) (n:=xs.length) ?_ ⟨0,J,H,[],[],l,⟨S,F,M3,hn,hD,CY,.nil⟩,T,R,h0,ĥ _,N,hc,N⟩;intro n s q E;show IU q λk J H la va q=>ä q λlr Ø=>â (aeu k xs.length) (λcG=>?_) (λlA=>?_)
 ·have hc:=Ø.hc
  rw[aby cG]at hc;show qE hc λhw hc=>bT hc λaU GD hc=>Ti.item k J H s _ E xs[k] Ø.st Ø.R Ø.I.ys hw Ø.I.hn hB (N' cG) λa bH ph yy aA bo qZ=>?_;have tD:=Ø.I.mv X yy aA (Ti.wrN k _ Ø.st);show Ti.go aH EL k J H a _ _ E qZ aA Ø.I.hn hB λjw EV bx xU=>?_;have IE:=Ti.wrM k a _ qZ;have ET:=tD.mv X EV bx IE;show eJ (Ld GD sV) λiq O5 V4 Ry=>vh (s:={s with heap:=jw,toks:=ph}) hA.handled C4 O5 bx ET.F (EV.vrT (λb hb=>(IE b hb).nt) bo) λeG rJ jp jn rS pj=>?_;have Cg:=ET.tgt X jp (rS.on λy i v hy hv=>V4 i v (TJ y i hy) hv) pj Kd uj;have rH:St (k+1) eG:=Ti.frame _ _ _ xU λb hb o e=>Ti.kp xU hb e (jp.pres b o e λq=>â q (L.loc b hb) λq=>aE q λx z q=>L.cel b hb x q);have lt:xs.length-(k+1)<n:=by rw[Ø.n];show aeK cG (ϊ k)
  have back:∀y i v,O.lookup y=À i->EM nx U i=À v->aU i=À v:=λy i v z hv=>Ry i v hv;have fr:∀{aS h'},SE J eG aS h'->St (k+1) h':=λS'=>Ti.frame _ _ _ rH λb hb o e=>Ti.kp rH hb e (S'.pres b o e (Ø.I.hn b hb));show dK hc λbt Î GH hc=>Ï (tu hT iC GH (s:={s with heap:=eG,toks:=rJ}) jn Cg.F E) (λok Ar lW=>lW.el λWL IP lL rW Oe=>?_) λz z x=>x;rw[WL];have T':=Ø.T.trans (bK.trans ⟨N,N,N⟩ Oe);have Oa:=Cg.step jn lL (Ti.live rH);cases bt with
  |false=>show⟨xs.length-(k+1),lt,k+1,IP,Î,la,va,lr,Oa.on back,T',rW,fr lL,cG,N,hc,Ø.hl⟩
  |true=>
   rw[if_pos N]at hc;show dK hc λv Û VI hc=>dK hc λlr' bI jN hc=>?_;have q:=nP hc;show hE.bind VI rW Oa.F λav Ij Ta Jj Us Jc N8 Uw=>?_;have QG:=Oa.step rW Jj (Ti.live (fr lL));show ώ QG.hD (λh₆ Ue MX=>?_) ?_
   ·have Y:=QG.app X Jc Uw Ue MX
    show⟨xs.length-(k+1),lt,k+1,Ta,Û,la++[v],va++[av],lr',Y.2.on back,(T'.trans Us).trans ⟨N,N,N⟩,Y.1,Ti.frame _ _ _ (fr (lL.trans Jj)) λb hb o e=>MX.extBut b o (L.acc b hb) e,cG,N,by rw[jN,q.2],?_⟩;rw[ü,<-Ø.hl,<-q.1];rfl
   ·rw[Ū,<-Ø.I.la.length]
    show z' ?_ hl;rw[<-Ø.hl,Ā];show Ō _ _
 ·have jY:k=xs.length:=Ů Ø.hk lA
  have hc:=Ø.hc;have st:=Ø.st;rw[jY,adR]at hc;rw[jY]at st;show qE hc λhw hc=>?_;have q:=nP hc;show Ti.done J _ s _ E st Ø.R Ø.I.ys hw Ø.I.hn hB λbH ph yy aA=>?_;have tD:=Ø.I.mv X yy aA (Ti.wrN _ _ st);have e:la=l:=by rw[<-Ø.hl,<-q.1,Ĭ]
  rw[e]at tD;rw[q.2]at aA;show hQ _ (CI.fin (s':={s with heap:=bH,toks:=ph}) X tD aA (Ø.T.trans ⟨N,N,N⟩) hl)
end comp_runH
theorem FC{Á:ax}{two:Bool}{St:Nat->Ó->Prop}:kJ A ľ Ý cenv O U Á d elt aH cN ifs scope pos nx t I D xs ys l vs w two wr kp St rU c cs F' H σe Q s J:=hk (P:=U2 λb0=>U2 λb1=>U2 λb2=>U2 λb3=>U2 λb4=>U2 λb5=>U2 λb6=>U2 λb7=>U2 λb8=>U2 λb9=>U2 λUF=>U2 λUG=>U2 λUH=>U2 λUJ=>U2 λUK=>U2 λUL=>U2 λUM=>U2 λUN=>U2 λUO=>U2 λUP=>U2 λUQ=>yp (kJ b0 b1 b2 b3 b4 b5 b6 b7 b8 b9 UF UG UH UJ UK UL UM UN UO UP UQ)) comp_runH.kt (A,ľ,Ý,cenv,O,U,Á,d,elt,aH,cN,ifs,scope,pos,nx,t,I,D,xs,ys,l,vs,w,two,wr,kp,St,rU,c,cs,F',H,σe,Q,s,J)
theorem Cd:∀{ts:List Str} {n:Nat} {x:Str},x∈ts->∃i,(ts.zipIdx n).lookup x=À i
 |t::ts,n,x,h=>by
  rw[adQ,ſ];cases hb:x==t with
  |true=>show⟨n,N⟩
  |false=>
   show â (ą.mp h) (λh=>?_) (λh=>?_)
   ·subst h;simp at hb
   ·show Cd h
theorem yP(hx:x∈ts)(h:(cp scope O nx ts).lookup x=À i):nx<=i:=by unfold cp at h;rw[fF]at h;show ä (Cd (n:=nx) hx) λj hj=>?_;rw[hj]at h;cases h;show(ma hj).1
section
variable{A:Ñ}{E:Ä->Å->Prop}{J:List È}{s:Å}{Z:Env}{O:List (Str×Nat)}{U:aJ}{Á:ax}{d:Nat}
theorem D9{scope:à}{env':Env}{nx:Nat}{aH:Ô}{t:jQ}(K:lJ scope Z.scope O nx (bi aH))(h:fW env'.scope (cp scope O nx (bi aH)) aH=À t):
  (∀i,xX t i->nx<=i)/\∀y i,(cp scope O nx (bi aH)).lookup y=À i->i<nx\/xX t i:=by
 have c:=(qh h).all;show⟨λi hi=>aE (c.1 i hi) λx hx h1=>yP hx h1,λy a hy=>â (cr hy) (λq=>?_) λq=>.inl (K.below _ _ (mem_of_lookup q.2))⟩;show aE (c.2 y (ģ q.2)) λi h1 h2=>.inr (sm (h1.symm.trans hy)▸h2)
theorem sJ{elt aH cN:Ô}{ifs:List Ô}{scope:à}{pos PD:Pos}{nx:Nat}{t:jQ}{it:jm}{c:CE}{cs:gG}{F':Ô->Option CE}{two:Bool}{xs l:List V}{w:List (Nat×bu)}{H Î Û:ag}{use:Option (Ä->Sem Unit)}{Q:Ä->Å->Prop}
  (hA:i5 A d) (K:lJ scope Z.scope O nx (bi aH)) (hs:∀x,ę cN Z x=pure x) (EL:vf two aH)
  (hi:mw A Z O cN two (cD Á it)) (C4:fW (je scope Z.scope) (cp scope O nx (bi aH)) aH=À t)
  (hE:∀e',e'.scope=je scope Z.scope->aR A e' (cp scope O nx (bi aH)) elt (ab Á c)) (iC:cg F' ifs=À cs) (hT:∀e',e'.scope=je scope Z.scope->∀e c,F' e=À c->fA A e' (cp scope O nx (bi aH)) e (bV Á c))
  (h1:cD Á it U H=À (xs,w,Î)) (h2:fX (ab Á c) (cW Á cs) t w xs U Î=À (l,Û)) (hl:l.length<=aw) (R:ar gg J H s.heap) (F:eQ (bw A) J Z O U s.heap)
  (hQ:∀D C s',ml J s C D l Û s'->s.heap.get? C=Ã->compPost mo A E use Q (.ref D) C (.ok .next) s') :
  É mo A (comprehension (.ListComp elt [⟨aH,cN,ifs,0⟩] scope pos) scope Z PD (newList []) Ê (eval cN Z) use) Q E s:=by
 show wpAny_comprehension_free (use:=use) N hs (lu scope (AT F K)) K.kind (λx hx hl=>K.uniq _ _ ((hl)▸hx)) (Ï (hi U H xs w Î h1 J s R F E) (λxv Ì bH=>tW bH λaS iQ aA yB mk=>mk E _ λI ys vs wr kp St rU h' Ti nz hk M3 qK hn hB=>?_) λz z e=>e)
 have lv:∀b,b∈wr\/b∈kp->∃o,h'.get? b=À o:=λb hb=>by
  show â hb (λhb=>?_) (λhb=>?_)
  ·show aE (Ti.wrN _ _ nz b hb) λo e z=>?_;show⟨o,e⟩
  ·show oN (Ti.kpN _ _ nz b hb) λo z z e z=>?_;show⟨o,e⟩
 have bx:ar gg aS Î h':=aA.keeps hk;have ba:=F.step R iQ;show ç ?_;have Gy:∀b o,h'.get? b=À o->(h'.push {cls:=.type "list",data:=.seq ([]:List Ä).toArray}).get? b=À o:=λb o e=>O' _ e;have Tq:(h'.push {cls:=.type "list",data:=.seq ([]:List Ä).toArray}).PlainList h'.objs.size #[]:=⟨_,ŀ _ rfl⟩;show É _ _ _ _ _ {Ì with heap:=h'.push {cls:=.type "list",data:=.seq ([]:List Ä).toArray}};generalize h'.push {cls:=.type "list",data:=.seq ([]:List Ä).toArray}=eG at Gy Tq;have Kk:∀b o,Ì.heap.get? b=À o->eG.get? b=À o:=λb o e=>Gy b o (hk b o e);have Jg:SE aS Ì.heap aS eG:=SE.keeps _ Kk;have jn:ar gg aS Î eG:=aA.keeps Kk;show FA (s:={Ì with heap:=eG}) K jn (ba.step aA Jg) λcenv lW Qe Wi ER OM C6 zx=>?_;dsimp only at Qe OM C6 zx;have RN:∀b o,Ì.heap.get? b=À o->lW.get? b=À o:=λb o e=>Qe b o (Kk b o e);have Jh:SE aS Ì.heap aS lW:=SE.keeps _ RN;have fr:∀b,eG.get? b=Ã->s.heap.get? b=Ã:=λb hb=>iQ.back (fY Kk hb);show aQ (D9 (env':={cenv with scope:=relabel scope Z}) K (by show fW (relabel scope Z) _ _=_;rw[dT];show C4)) λsV TJ=>?_;have Rt:h'.get? h'.objs.size=Ã:=aG _
 have RA:∀x b,cenv.cells.lookup x=À b->(∃o,h'.get? b=À o)->∃y,Z.cells.lookup y=À b:=λx b e ⟨o,ho⟩=>by
  show â (zx x b e) (λq=>?_) (λq=>?_)
  ·rw[Gy b o ho]at q;cases q
  ·show q
 have AZ:∀y b,Z.cells.lookup y=À b->∃u,s.heap.IsCell b u:=λy b e=>(F.cellF y b e).1
 have Sx:ĝ mo A (.compLoop (.ListComp elt [⟨aH,cN,ifs,0⟩] scope pos) 0 (.ref I) (.ref h'.objs.size) {cenv with scope:=relabel scope Z}) (compPost mo A E use Q (.ref h'.objs.size) cenv.locals) {Ì with heap:=lW}:=by
  show FC (Ý:=s) (ľ:=J) (cenv:={cenv with scope:=relabel scope Z}) (J:=aS) (l:=l) (σe:=Û) (U:=U) (t:=t) (nx:=nx) (c:=c) (cs:=cs) (F':=F') (Á:=Á) hA Ti EL (by show fW (relabel scope Z) _ _=_;rw[dT];show C4) sV TJ
   (hE _ (dT _ _)) iC (hT _ (dT _ _)) ⟨?_,?_,?_⟩ ?_ ?_ (fr _ OM) (λx hx c e=>fr _ (C6 x hx c e)) qK ?_ hB ?_ hl h2 (iQ.trans Jh) (yB.trans ⟨N,N,N⟩) (aA.keeps RN) ER (Ti.frame _ _ _ nz λb z o e=>Qe b o (Gy b o e)) (M3.step bx (SE.keeps _ λb o e=>Qe b o (Gy b o e))) hn (Tq.at λo e=>Qe _ o e) ?_ λs' nO=>hQ _ _ s' nO (fr _ OM)
  ·rintro b hb rfl
   show ä (lv _ hb) λo e=>?_;rw[Gy _ o e]at OM;cases OM
  ·intro b hb x e
   show ä (RA x b e (lv b hb)) λy hy=>gm (AZ y b hy) λu o ho hd=>â hb (λhb=>?_) (λhb=>?_)
   ·rw[qK b hb]at ho;show no ho
   ·show oN (Ti.kpN _ _ nz b hb) λo' cP n' e' jS=>?_
    have Gr:h'.get? b=À o:=hk b o ((iQ.pres b o ho (F.cellF y b hy).2.1).of λes ep q=>nomatch hd.symm.trans q);rw[Gr]at e';cases e';rw[hd]at jS;cases jS
  ·rintro b hb rfl
   show ä (lv _ hb) λo e=>?_;rw[Rt]at e;show no e
  ·rintro e
   show ä Tq λn' ho=>?_;rw[show cenv.locals=h'.objs.size from e.symm,ho]at OM;cases OM
  ·intro x e
   show â (zx x _ e) (λq=>?_) (λq=>ä q λy hy=>?_)
   ·show ä Tq λn' ho=>?_
    rw[ho]at q;cases q
   ·show gm (AZ y _ hy) λu o ho hd=>?_
    have:h'.get? h'.objs.size=À o:=hk _ o ((iQ.pres _ o ho (F.cellF y _ hy).2.1).of λes ep q=>nomatch hd.symm.trans q);rw[Rt]at this;show no this
  ·show iQ.back (fY hk Rt)
  ·show aW bx Rt
  ·show aX bx Rt
 show codeAny_compStart_list Sx (Ti.self 0 _ _ _ (Ti.frame _ _ _ nz λb z o e=>Qe b o (Gy b o e)) Sx)
theorem ml.evp(R:ar gg J H s.heap)(x:ml J s C D l σe s')(hC:s.heap.get? C=Ã)(hs:Heap.SameBut C s'.heap h'):bA gg J s (.ref σe.length) (σe++[.lst l]) (.ref D) {s' with heap:=h'}:=by
 obtain ⟨aS,S,R',V',T,Gi,m,hn⟩:=x;have M:∀b o,b≠C->s'.heap.get? b=À o->h'.get? b=À o:=λb o hb e=>hs.extBut b o hb e;have bx:ar gg aS (σe++[.lst l]) h':=R'.other Gi (aW R hC) M (Ns.noSeq hn);show⟨aS,cX.mv (wr:=[C]) S bx (λb o hb z e=>M b o (λq=>hb (W'.mpr q)) e) (λz q=>q) (by simpa using hC),bx,?_,T.trans ⟨rfl,rfl,rfl⟩⟩;cases V' with
 |ref h=>show .ref h
theorem HW{elt aH cN:Ô}{ifs:List Ô}{scope:à}{pos:Pos}{nx:Nat}{t:jQ}{it:jm}{c:CE}{cs:gG}{F':Ô->Option CE}{two:Bool}
  (hA:i5 A d) (K:lJ scope Z.scope O nx (bi aH)) (hs:∀x,ę cN Z x=pure x) (EL:vf two aH)
  (hi:mw A Z O cN two (cD Á it)) (C4:fW (je scope Z.scope) (cp scope O nx (bi aH)) aH=À t)
  (hE:∀e',e'.scope=je scope Z.scope->aR A e' (cp scope O nx (bi aH)) elt (ab Á c)) (iC:cg F' ifs=À cs) (hT:∀e',e'.scope=je scope Z.scope->∀e c,F' e=À c->fA A e' (cp scope O nx (bi aH)) e (bV Á c)) :
  aR A Z O (.ListComp elt [⟨aH,cN,ifs,0⟩] scope pos) (ab Á (.comp c t it cs)):=by
 intro U H v ae he J s R F E;show oK he λxs w Î h1 he=>?_
 ··show dK he λl Û h2 he=>im (gb he) λhz q2 q3=>?_;apply aY q2;apply aY q3
   rw[eval_ListComp];show sJ hA K hs EL hi C4 hE iC hT h1 h2 hz R F λD C s' EH hC=>?_;obtain ⟨aS,S,R',V',T,Gi,m,hn⟩:=id EH;show⟨m,hn,λh' nO=>EH.evp R hC nO⟩
end
end L.Lake
namespace L.Lake
open PySem
theorem mU:∀(x y:List Int),ch x y=Æ->ch y x=Ê
 |[],[],h=>nomatch h
 |[],_::_,_=>rfl
 |_::_,[],h=>nomatch h
 |a::x,b::y,h=>by
  replace h:(decide (a<b)||(a==b&&ch x y))=Æ:=h;show (decide (b<a)||(b==a&&ch y x))=Ê
  simp only[Ϝ,decide_eq_true_eq,ō,beq_iff_eq]at h
  rw[acF,decide_eq_false_iff_not,adM,beq_eq_false_iff_ne];rcases h with h|⟨rfl,h⟩
  ·show⟨ň.mpr (acW h),.inl (ae8 h)⟩
  ·show⟨adk _,.inr (mU x y h)⟩
theorem s5:∀(x y z:List Int),ch x y=Æ->ch y z=Æ->ch x z=Æ
 |[],[],_,h,_=>nomatch h
 |[],_::_,[],_,h=>nomatch h
 |[],_::_,_::_,_,_=>rfl
 |_::_,[],_,h,_=>nomatch h
 |_::_,_::_,[],_,h=>nomatch h
 |a::x,b::y,c::z,h,h'=>by
  replace h:(decide (a<b)||(a==b&&ch x y))=Æ:=h;replace h':(decide (b<c)||(b==c&&ch y z))=Æ:=h';show (decide (a<c)||(a==c&&ch x z))=Æ
  simp only[Ϝ,decide_eq_true_eq,ō,beq_iff_eq]at h h' ⊢
  rcases h with h|⟨rfl,h⟩
  ·rcases h' with h'|⟨rfl,_⟩
   ·show .inl (adg h h')
   ·show .inl h
  ·rcases h' with h'|⟨rfl,h'⟩
   ·show .inl h'
   ·show .inr ⟨N,s5 x y z h h'⟩
theorem mV:∀(x y z:List Int),ch x z=Æ->ch x y=Æ\/ch y z=Æ
 |[],_,[],h=>nomatch h
 |[],[],_::_,_=>.inr N
 |[],_::_,_::_,_=>.inl N
 |_::_,_,[],h=>nomatch h
 |_::_,[],_::_,_=>.inr N
 |a::x,b::y,c::z,h=>by
  replace h:(decide (a<c)||(a==c&&ch x z))=Æ:=h;show (decide (a<b)||(a==b&&ch x y))=Æ\/(decide (b<c)||(b==c&&ch y z))=Æ
  simp only[Ϝ,decide_eq_true_eq,ō,beq_iff_eq]at h ⊢
  rcases aeb a b with Gm|rfl|Gm
  ·show .inl (.inl Gm)
  ·rcases h with h|⟨rfl,h⟩
   ·show .inr (.inl h)
   ·show â (mV x y z h) (λq=>?_) (λq=>?_)
    ·show .inl (.inr ⟨N,q⟩)
    ·show .inr (.inr ⟨N,q⟩)
  ·rcases h with h|⟨rfl,_⟩
   ·show .inr (.inl (adg Gm h))
   ·show .inr (.inl Gm)
theorem Br:∀(x y:List Int),ch x y=Ê->ch y x=Ê->x=y
 |[],[],_,_=>rfl
 |[],_::_,h,_=>nomatch h
 |_::_,[],_,h=>nomatch h
 |a::x,b::y,h,h'=>by replace h:(decide (a<b)||(a==b&&ch x y))=Ê:=h;replace h':(decide (b<a)||(b==a&&ch y x))=Ê:=h';rw[acF,decide_eq_false_iff_not,adM,beq_eq_false_iff_ne]at h h';have e:a=b:=ņ (ň.mp h'.1) (ň.mp h.1);subst e;rw[Br x y (h.2.resolve_left λq=>q N) (h'.2.resolve_left λq=>q N)]
theorem Bo(h:ll p q=Æ):ll q p=Ê:=by
 unfold ll at h ⊢;cases h1:ch p.1 q.1 with
 |true=>rw[mU _ _ h1];rfl
 |false=>
  rw[h1]at h;cases h2:ch q.1 p.1 with
  |true=>rw[h2]at h;show nomatch h
  |false=>rw[h2]at h;have h:decide (p.2<q.2)=Æ:=h;show (Ê||(!false&&decide (q.2<p.2)))=Ê;rw[decide_eq_false (ň.mpr (acW (of_decide_eq_true h)))];rfl
theorem GY(h:ll p q=Ê):p=q\/ll q p=Æ:=by
 unfold ll at h ⊢;rw[acF]at h;cases h2:ch q.1 p.1 with
 |true=>show .inr N
 |false=>
  rw[h2]at h;have h3:decide (p.2<q.2)=Ê:=h.2;have e:=Br _ _ h.1 h2;rcases aeb q.2 p.2 with g|g|g
  ·show .inr ?_
   rw[h.1,decide_eq_true g];rfl
  ·show .inl (Prod.ext e g.symm)
  ·show absurd g (of_decide_eq_false h3)
theorem GZ(h:ll p q=Æ)(h':ll q r=Æ):ll p r=Æ:=by
 unfold ll at h h' ⊢;cases h1:ch p.1 r.1 with
 |true=>rfl
 |false=>
  show â (ab0.mp h) (λa=>?_) (λa=>?_)
  ·show â (mV _ r.1 _ a) (λb=>?_) (λb=>?_)
   ·rw[h1]at b;show nomatch b
   ·show â (ab0.mp h') (λc=>?_) (λc=>?_)
    ·rw[mU _ _ b]at c;show nomatch c
    ·rw[b]at c;show nomatch c
  ·show aQ (Ł.mp a) λa1 a2=>â (ab0.mp h') (λc=>?_) (λc=>?_)
   ·show â (mV _ p.1 _ c) (λb=>?_) (λb=>?_)
    ·rw[b]at a1;show nomatch a1
    ·rw[h1]at b;show nomatch b
   ·show aQ (Ł.mp c) λc1 c2=>?_
    cases h2:ch r.1 p.1 with
    |true=>
     show â (mV _ q.1 _ h2) (λb=>?_) (λb=>?_)
     ·rw[b]at c1;show nomatch c1
     ·rw[b]at a1;show nomatch a1
    |false=>show (Ê||(!false&&decide (p.2<r.2)))=Æ;rw[decide_eq_true (adg (of_decide_eq_true a2) (of_decide_eq_true c2))];rfl
theorem oi(p:KP):∀l:List KP,(Db p l).Perm (p::l)
 |[]=>.refl _
 |q::r=>by
  unfold Db;split
  ·show((oi p r).cons q).trans (.swap ..)
  ·show .refl _
theorem fK:∀l:List KP,(fz l).Perm l
 |[]=>.refl _
 |p::r=>(oi p _).trans ((fK r).cons p)
def nR(p q:KP):Prop:=ll q p=Ê
theorem zS(h:nR p q)(h':nR q r):nR p r:=by
 unfold nR at *;cases h2:ll r p with
 |false=>rfl
 |true=>
  show â (GY h) (λe=>?_) (λe=>?_)
  ·subst e;rw[h2]at h';show nomatch h'
  ·rw[GZ h2 e]at h';show nomatch h'
set_option tactic.hygienic true in
theorem oX(p:KP):∀{l:List KP},l.Pairwise nR->(Db p l).Pairwise nR
 |[],_=>Ő.mpr ⟨(λ_ h=>nomatch h),.nil⟩
 |q::r,h=>by
  show aQ (Ő.mp h) λh1 h2=>?_;unfold Db;split
  ·rename_i hq
   show Ő.mpr ⟨λz hz=>?_,oX p h2⟩;rcases ą.mp ((oi p r).mem_iff.mp hz) with rfl|hz
   ·show Bo hq
   ·show h1 z hz
  ·rename_i hq
   have TH:nR p q:=adB.mpr hq;show Ő.mpr ⟨λz hz=>?_,h⟩;rcases ą.mp hz with rfl|hz
   ·show TH
   ·show zS TH (h1 z hz)
theorem jD:∀l:List KP,(fz l).Pairwise nR
 |[]=>.nil
 |p::r=>oX p (jD r)
theorem xy(hp:m.Perm l)(hs:m.Pairwise nR):m=fz l:=
 List.Perm.eq_of_pairwise (le:=nR) (λa b z z g1 g2=>by
  show â (GY g1) (λe=>?_) (λe=>?_)
  ·show e.symm
  ·rw[g2]at e;show nomatch e) hs (jD l) (hp.trans (fK l).symm)
end L.Lake
namespace L.Lake
open PySem PyProof.Rows
def lh{α:Type}(r:α->α->Bool)(l:List α):Prop:=l.Pairwise λx y=>r x y=Æ
noncomputable def rr(blt:Ë->Ë->Bool)(ord:Ë->Nat)(x y:Ë):Bool:=blt x y||(!blt y x&&decide (ord x<ord y))
theorem dU{blt:Ë->Ë->Bool}{ord:Ë->Nat}{x y:Ë}:rr blt ord x y=Æ↔blt x y=Æ\/(blt y x=Ê/\ord x<ord y):=by unfold rr;rw[Ϝ,ō,ϑ,decide_eq_true_eq]
structure SO(A:Ñ)(E:Ä->Å->Prop)(s:Å)(blt:Ë->Ë->Bool)(kd:ŷ)(Ď:Ë->Prop):Prop where
 cmp:∀x y,Ď x->Ď y->∀(st:Ò) (Q:Option Bool->Ò->Prop),kindOf st=kd->Q (À (blt x y)) st->wpS mo A E s (lt' x y) Q st
 asym:∀x y,blt x y=Æ->blt y x=Ê
 trans:∀x y z,blt x y=Æ->blt y z=Æ->blt x z=Æ
 neg:∀x y z,blt x z=Æ->blt x y=Æ\/blt y z=Æ
def AG(A:Ñ)(E:Ä->Å->Prop)(s:Å)(blt:Ë->Ë->Bool)(ord:Ë->Nat)(kd:ŷ)(Ď:Ë->Prop):Prop:=∀{a₀:List Ë} {st:Ò} {Q:Unit->Ò->Prop} (S:SO A E s blt kd Ď) (hU:∀x∈a₀,Ď x) (hk:kindOf st=kd) (hf:ë st=Ã) (hp:Ö st=#[]) (e:(Ú st).toList=a₀) (asc:a₀.Pairwise λx y=>ord x<ord y)
  (h:∀Ø aT,lh (rr blt ord) Ø->Ø.Perm a₀->(Ú aT).toList=Ø->ë aT=Ã->Q () aT),wpS mo A E s sortRuns' Q st
def zc:=hc (U7 AG) ({},λz z=>True,dS,λz z=>Æ,λz=>0,oneType',λz=>True)
def zA:=zc.1
def zE:=zc.2.1
def zs:=zc.2.2.1
def zb:=zc.2.2.2.1
def zo:=zc.2.2.2.2.1
def zk:=zc.2.2.2.2.2.1
def zU:=zc.2.2.2.2.2.2
abbrev zr:Ë->Ë->Bool:=rr zb zo
theorem cI{H α:Type}{c:Prop}[Decidable c]{m n:StateT H Sem α}{Q:α->H->Prop}{st:H}(hc:c)(h:wpS mo zA zE zs m Q st):wpS mo zA zE zs (if c then m else n) Q st:=by rw[if_pos hc];show h
theorem cm{H α:Type}{c:Prop}[Decidable c]{m n:StateT H Sem α}{Q:α->H->Prop}{st:H}(hc:¬ c)(h:wpS mo zA zE zs n Q st):wpS mo zA zE zs (if c then m else n) Q st:=by rw[if_neg hc];show h
noncomputable def fi:Bool->Ë->Array Ë->Nat->Nat->Nat->StateT Ò Sem (Option Nat):=sortPriv% PySem.Builtin.gallop
noncomputable def Fc(left:Bool)(gp:Ë)(arr:Array Ë)(base i:Nat):StateT Ò Sem (Option Bool):=
 elem' arr (base+i)>>=λx=>if left=Æ then lt' x gp else lt' gp x>>=λz=>pure (z.map λb=>!b)
abbrev GS:Type:=Option (Option Nat)×Nat×Nat
def Gn(left:Bool)(gp:Ë)(arr:Array Ë)(base:Nat)(_:Nat)(c:GS):StateT Ò Sem (ForInStep GS):=
 if c.2.1 >= c.2.2 then pure (.done (Ã,c.2.1,c.2.2))
 else Fc left gp arr base (c.2.1+(c.2.2-c.2.1) / 2)>>=λz=>match z with
  |some b=>if b=Æ then pure (.yield (Ã,c.2.1+(c.2.2-c.2.1) / 2+1,c.2.2)) else pure (.yield (Ã,c.2.1,c.2.1+(c.2.2-c.2.1) / 2))
  |_=>pure (.done (À Ã,c.2.1,c.2.2))
def Yl(left:Bool)(gp:Ë)(arr:Array Ë)(base top hint:Nat)(_:Nat)(c:GS):StateT Ò Sem (ForInStep GS):=
 if c.2.2 >= top then pure (.done (Ã,c.2.1,c.2.2))
 else Fc left gp arr base (hint+c.2.2)>>=λz=>match z with
  |some b=>if (!b)=Æ then pure (.done (Ã,c.2.1,c.2.2)) else pure (.yield (Ã,c.2.2,2*c.2.2+1))
  |_=>pure (.done (À Ã,c.2.1,c.2.2))
def Mx(left:Bool)(gp:Ë)(arr:Array Ë)(base top hint:Nat)(_:Nat)(c:GS):StateT Ò Sem (ForInStep GS):=
 if c.2.2 >= top then pure (.done (Ã,c.2.1,c.2.2))
 else Fc left gp arr base (hint-c.2.2)>>=λz=>match z with
  |some b=>if b=Æ then pure (.done (Ã,c.2.1,c.2.2)) else pure (.yield (Ã,c.2.2,2*c.2.2+1))
  |_=>pure (.done (À Ã,c.2.1,c.2.2))
noncomputable def pg(c:GS)(k:Nat->Nat->StateT Ò Sem (Option Nat)):StateT Ò Sem (Option Nat):=match c.1 with
 |some r=>pure r
 |none=>k c.2.1 c.2.2
def Ff(left:Bool)(gp:Ë)(arr:Array Ë)(base n lo hi:Nat):StateT Ò Sem (Option Nat):=
 forIn [0:n] ((Ã,lo,hi):GS) (Gn left gp arr base)>>=λc=>pg c λz h=>pure (À h)
theorem zt(left:Bool)(gp:Ë)(arr:Array Ë)(base n hint:Nat):fi left gp arr base n hint =
  (Fc left gp arr base hint>>=λz=>match z with
   |some b=>if b=Æ then forIn [0:n] ((Ã,0,1):GS) (Yl left gp arr base (n-hint) hint)>>=λc=>pg c λl o=>Ff left gp arr base n (hint+l+1) (hint+min o (n-hint))
    else forIn [0:n] ((Ã,0,1):GS) (Mx left gp arr base (hint+1) hint)>>=λc=>pg c λl o=>Ff left gp arr base n (hint+1-min o (hint+1)) (hint-l)
   |_=>pure Ã):=by kernel_rfl
section
def Qz(left:Bool)(gp:Ë)(arr:Array Ë)(base n:Nat)(st:Ò)(bey:Nat->Bool):Prop:=
 ∀i,i<n->∀Q:Option Bool->Ò->Prop,Q (À (bey i)) st->wpS mo zA zE zs (Fc left gp arr base i) Q st
theorem mB{i n:Nat}{bey:Nat->Bool}(gA:∀i j,i<=j->j<n->bey j=Æ->bey i=Æ){k:Nat}(hk:bey k=Ê)(h1:k<=i)(h2:i<n):bey i=Ê:=by
 cases hb:bey i with
 |false=>rfl
 |true=>rw[gA k i h1 h2 hb]at hk;show nomatch hk
structure BI{β:Type}(bey:Nat->Bool)(n x:Nat)(c:Option β×Nat×Nat):Prop where
 no:c.1=Ã
 le:c.2.1<=c.2.2
 hi:c.2.2<=n
 lo:∀i,i<c.2.1->bey i=Æ
 up:∀i,c.2.2<=i->i<n->bey i=Ê
 t:c.2.2+x<=n+c.2.1
structure BQ{β:Type}(bey:Nat->Bool)(n:Nat)(c:Option β×Nat×Nat):Prop where
 no:c.1=Ã
 eq:c.2.2<=c.2.1
 hi:c.2.2<=n
 lo:∀i,i<c.2.1->bey i=Æ
 up:∀i,c.2.2<=i->i<n->bey i=Ê
theorem Kf{lo hi:Nat}(h:¬ lo >= hi):lo+(hi-lo) / 2<hi:=ac2 (Nat.div_lt_self (϶ (ϖ.mp h)) (đ 2))
theorem jF(h:c.1=Ã):pg c k=k c.2.1 c.2.2:=by unfold pg;rw[h]
section
variable{left:Bool}{gp:Ë}{arr:Array Ë}{base n hint:Nat}{st:Ò}{bey:Nat->Bool}{Q:Option Nat->Ò->Prop}
theorem IC(hB:Qz left gp arr base n st bey)(gA:∀i j,i<=j->j<n->bey j=Æ->bey i=Æ){x:Nat}{c:GS}(I:BI bey n x c){P:ForInStep GS->Ò->Prop}(hd:∀c,BQ bey n c->P (.done c) st)(hy:∀c,BI bey n (x+1) c->P (.yield c) st):
  wpS mo zA zE zs (Gn left gp arr base x c) P st:=by
 unfold Gn;by_cases lA:c.2.1 >= c.2.2
 ·show cI lA (Ð (hd _ ⟨N,lA,I.hi,I.lo,I.up⟩))
 ·have hm:=Kf lA
  have hn:=ĵ hm I.hi;show cm lA (Í (hB _ hn _ ?_));have TC:c.2.1<=c.2.1+(c.2.2-c.2.1) / 2:=Ō _ _;cases hb:bey (c.2.1+(c.2.2-c.2.1) / 2) with
  |true=>show cI N (Ð (hy _ ⟨N,hm,I.hi,λi hi=>gA i _ (ϋ hi) hn hb,I.up,Š (z' I.t (Ϙ TC n))⟩))
  |false=>show cm Ķ (Ð (hy _ ⟨N,TC,ī hn,I.lo,λi h6 h7=>mB gA hb h6 h7,z' (add hm x) I.t⟩))
theorem Ca(hB:Qz left gp arr base n st bey)(gA:∀i j,i<=j->j<n->bey j=Æ->bey i=Æ)(h:∀k,k<=n->(∀i,i<k->bey i=Æ)->(∀i,k<=i->i<n->bey i=Ê)->Q (À k) st){lo hi:Nat}(h1:lo<=hi)(h2:hi<=n)(h3:∀i,i<lo->bey i=Æ)(h4:∀i,hi<=i->i<n->bey i=Ê):
  wpS mo zA zE zs (Ff left gp arr base n lo hi) Q st:=by
 show Í (ã (I:=λx c aT=>aT=st/\BI bey n x c) (λx c aT z z q=>?_) (λc aT q=>?_) ⟨N,N,h1,h2,h3,h4,z' h2 (Ō _ _)⟩)
 ·rw[q.1]
  show IC hB gA q.2 (λc I=>by show wpS _ _ _ _ (pg c λz h=>pure (À h)) Q st;rw[jF I.no];show Ð (h _ I.hi (λi hi=>I.lo i (ĵ hi I.eq)) I.up)) λc I=>⟨N,I⟩
 ·have I:=q.2
  rw[jF I.no,q.1];have t:=I.t;have e:max 0 n=n:=ϵ (ĥ _);rw[e,ϝ]at t;show Ð (h _ I.hi (λi hi=>I.lo i (ĵ hi (acw t))) I.up)
structure UI(bey:Nat->Bool)(n hint x:Nat)(c:GS):Prop where
 no:c.1=Ã
 lt:c.2.1<c.2.2
 t:x<c.2.2
 ln:hint+c.2.1<n
 b:bey (hint+c.2.1)=Æ
structure DI(bey:Nat->Bool)(hint x:Nat)(c:GS):Prop where
 no:c.1=Ã
 lt:c.2.1<c.2.2
 t:x<c.2.2
 ln:c.2.1<=hint
 b:bey (hint-c.2.1)=Ê
theorem Xe(n:Nat):n<2*n+1:=ϫ (adC n afm)
theorem Q9(h:x<n):x+1<2*n+1:=acP (ĵ h (adC n afm))
theorem th(hh:hint<n)(h:n-hint<=o):hint+min o (n-hint)=n:=by rw[adh h,ab' (ī hh)]
theorem Aw(hh:hint<n)(h6:hint+min o (n-hint)<=i)(h7:i<n):hint+o<=i:=by
 show â (afE o (n-hint)) (λq=>?_) λq=>?_
 ·rw[Ų q]at h6;show h6
 ·rw[th hh q]at h6;show absurd h7 (ķ.mpr h6)
theorem vq(hB:Qz left gp arr base n st bey)(hh:hint<n)(gA:∀i j,i<=j->j<n->bey j=Æ->bey i=Æ)(h:∀k,k<=n->(∀i,i<k->bey i=Æ)->(∀i,k<=i->i<n->bey i=Ê)->Q (À k) st){x:Nat}{c:GS}(I:UI bey n hint x c)(h5:c.2.2 >= n-hint\/bey (hint+c.2.2)=Ê):
  wpS mo zA zE zs (pg c λl o=>Ff left gp arr base n (hint+l+1) (hint+min o (n-hint))) Q st:=by
 rw[jF I.no];show Ca hB gA h (Ϙ (afx.mpr ⟨I.lt,Nat.le_sub_of_add_le' I.ln⟩) hint) (z' (Ϙ (acr _ _) _) (Ŏ (ab' (ī hh)))) (λi hi=>gA i _ (ϋ hi) I.ln I.b) λi h6 h7=>â h5 (λh5=>?_) λh5=>mB gA h5 (Aw hh h6 h7) h7;rw[th hh h5]at h6;show absurd h7 (ķ.mpr h6)
theorem oJ(hB:Qz left gp arr base n st bey)(hh:hint<n)(gA:∀i j,i<=j->j<n->bey j=Æ->bey i=Æ)(h:∀k,k<=n->(∀i,i<k->bey i=Æ)->(∀i,k<=i->i<n->bey i=Ê)->Q (À k) st){x:Nat}{c:GS}(I:DI bey hint x c)(h5:c.2.2 >= hint+1\/bey (hint-c.2.2)=Æ):
  wpS mo zA zE zs (pg c λl o=>Ff left gp arr base n (hint+1-min o (hint+1)) (hint-l)) Q st:=by
 rw[jF I.no];have TD:=ų (Ŗ hint c.2.1) hh;show Ca hB gA h ?_ (ī TD) (λi hi=>?_) λi h6 h7=>mB gA I.b h6 h7
 ·rw[<-ae4 hint c.2.1]
  show ad1 (afx.mpr ⟨I.lt,Š I.ln⟩) _
 ·show â h5 (λh5=>?_) λh5=>gA i _ ?_ (ų (Ŗ _ _) hh) h5
  ·rw[adh h5,Ϻ]at hi
   show absurd hi (ack _)
  ·rw[ae2,<-Nat.sub_eq_sub_min]at hi
   show Nat.le_sub_of_add_le (ϋ (Nat.add_lt_of_lt_sub hi))
theorem Ay(hB:Qz left gp arr base n st bey)(hh:hint<n)
  (gA:∀i j,i<=j->j<n->bey j=Æ->bey i=Æ)
  (h:∀k,k<=n->(∀i,i<k->bey i=Æ)->(∀i,k<=i->i<n->bey i=Ê)->Q (À k) st) :
  wpS mo zA zE zs (fi left gp arr base n hint) Q st:=by
 rw[zt];show Í (hB hint hh _ ?_);have e:max 0 n=n:=ϵ (ĥ _);cases zu:bey hint with
 |true=>
  show cI N (Í (ã (I:=λx c aT=>aT=st/\UI bey n hint x c) (λx c aT z hx q=>?_) (λc aT q=>?_) ⟨N,N,Ÿ,Ÿ,hh,zu⟩))
  ·rw[q.1]
   have I:=q.2;unfold Yl;by_cases lA:c.2.2 >= n-hint
   ·show cI lA (Ð (vq hB hh gA h (c:=(Ã,c.2.1,c.2.2)) ⟨N,I.lt,I.t,I.ln,I.b⟩ (.inl lA)))
   ·have cG:hint+c.2.2<n:=ac2 (ϖ.mp lA)
    show cm lA (Í (hB _ cG _ ?_));cases hb:bey (hint+c.2.2) with
    |true=>show cm Ķ (Ð ⟨N,N,Xe _,Q9 I.t,cG,hb⟩)
    |false=>show cI N (Ð (vq hB hh gA h (c:=(Ã,c.2.1,c.2.2)) ⟨N,I.lt,I.t,I.ln,I.b⟩ (.inr hb)))
  ·rw[q.1]
   have t:=q.2.t;rw[e]at t;show vq hB hh gA h q.2 (.inl (z' (Ŗ _ _) (ī t)))
 |false=>
  show cm Ķ (Í (ã (I:=λx c aT=>aT=st/\DI bey hint x c) (λx c aT z hx q=>?_) (λc aT q=>?_) ⟨N,N,Ÿ,Ÿ,ĥ _,zu⟩))
  ·rw[q.1]
   have I:=q.2;unfold Mx;by_cases lA:c.2.2 >= hint+1
   ·show cI lA (Ð (oJ hB hh gA h (c:=(Ã,c.2.1,c.2.2)) ⟨N,I.lt,I.t,I.ln,I.b⟩ (.inl lA)))
   ·show cm lA (Í (hB _ (ų (Ŗ _ _) hh) _ ?_))
    cases hb:bey (hint-c.2.2) with
    |true=>show cI N (Ð (oJ hB hh gA h (c:=(Ã,c.2.1,c.2.2)) ⟨N,I.lt,I.t,I.ln,I.b⟩ (.inr hb)))
    |false=>show cm Ķ (Ð ⟨N,N,Xe _,Q9 I.t,ϋ (ϖ.mp lA),hb⟩)
  ·rw[q.1]
   have t:=q.2.t;rw[e]at t;show oJ hB hh gA h q.2 (.inl (Ϣ hh t))
end
end
section
variable{α:Type}{r:α->α->Bool}{la lb o ra rb p:List α}
def yo(r:α->α->Bool)(l m:List α):Prop:=∀x∈l,∀y∈m,r x y=Æ
theorem cu:lh r (l++m)↔lh r l/\lh r m/\yo r l m:=Ϛ
structure Mg(r:α->α->Bool)(la lb o ra rb:List α):Prop where
 sa:lh r (o++ra)
 sb:lh r (o++rb)
 pm:(o++(ra++rb)).Perm (la++lb)
structure ft(r:α->α->Bool)(la lb o:List α):Prop where
 so:lh r o
 pm:o.Perm (la++lb)
theorem Mg.swap(h:Mg r la lb o ra rb):Mg r lb la o rb ra:=⟨h.sb,h.sa,(adN.append_left o).trans (h.pm.trans adN)⟩
theorem ft.swap(h:ft r la lb o):ft r lb la o:=⟨h.so,h.pm.trans adN⟩
theorem Mg.addA(h:Mg r la lb o (p++ra) rb)(hk:yo r p rb):Mg r la lb (o++p) ra rb:=by
 have q:=cu.mp h.sa;have q':=cu.mp h.sb;show⟨by rw[ü];show h.sa,cu.mpr ⟨cu.mpr ⟨q.1,(cu.mp q.2.1).1,λx hx y hy=>q.2.2 x hx y (Ŵ _ hy)⟩,q'.2.1,λx hx y hy=>?_⟩,?_⟩
 ·show â (Ģ.mp hx) (λhx=>q'.2.2 x hx y hy) λhx=>hk x hx y hy
 ·have:=h.pm
  rw[ü]at this ⊢;show this
theorem Mg.addB(h:Mg r la lb o ra (p++rb))(hk:yo r p ra):Mg r la lb (o++p) ra rb:=(h.swap.addA hk).swap
theorem Mg.endA(h:Mg r la lb o ra []):ft r la lb (o++ra):=⟨h.sa,by have:=h.pm;rw[Ĭ]at this;show this⟩
theorem Mg.endB(h:Mg r la lb o [] rb):ft r la lb (o++rb):=h.swap.endA.swap
theorem Mg.endBA(h:Mg r la lb o ra rb)(hk:yo r rb ra):ft r la lb (o++(rb++ra)):=by have:=h;rw[<-Ĭ rb]at this;rw[<-ü];show(this.addB hk).endA
theorem Mg.srtA(h:Mg r la lb o ra rb):lh r ra:=(cu.mp h.sa).2.1
theorem Mg.srtB(h:Mg r la lb o ra rb):lh r rb:=(cu.mp h.sb).2.1
noncomputable def IV(r:α->α->Bool):α->α->Bool:=λx y=>r y x
theorem BU(h:lh r l):lh (IV r) l.reverse:=aez.mpr h
theorem ft.rev(h:ft (IV r) la.reverse lb.reverse o):ft r la lb o.reverse:=
 ⟨aez.mpr h.so,(aci o).trans (h.pm.trans ((aci la).append (aci lb)))⟩
theorem PT(h:lh r (x::l)):∀y∈l,r x y=Æ:=(Ő.mp h).1
theorem Fd(tr:∀x y z,r x y=Æ->r y z=Æ->r x z=Æ)(zs:lh r (y::l))(h:∀x∈p,r x y=Æ):yo r p (y::l):=λx hx z hz=>
 â (ą.mp hz) (λe=>e▸h x hx) λhz=>tr _ _ _ (h x hx) (PT zs z hz)
end
section
variable{st:Ò}
theorem jk(he:arr.toList[j]?=À x)(h:Q x st):wpS mo zA zE zs (elem' arr j) Q st:=by rw[elem'_eq,<-ϰ,he];show Ð h
theorem Cb{left:Bool}{gp:Ë}{arr:Array Ë}{base hint:Nat}{X:List Ë}{f:Ë->Bool}{Q:Option Nat->Ò->Prop}(ha:∀i (hi:i<X.length),arr.toList[base+i]?=À X[i])
  (hc:∀x∈X,∀P:Option Bool->Ò->Prop,P (À (f x)) st->wpS mo zA zE zs (if left=Æ then lt' x gp else lt' gp x>>=λz=>pure (z.map λb=>!b)) P st)
  (gA:X.Pairwise λx y=>f y=Æ->f x=Æ) (hh:hint<X.length) (h:∀k,k<=X.length->(∀x∈X.take k,f x=Æ)->(∀x∈X.drop k,f x=Ê)->Q (À k) st) :
  wpS mo zA zE zs (fi left gp arr base X.length hint) Q st:=by
 have e:∀i (hi:i<X.length),(X[i]?).elim Ê f=f X[i]:=λi hi=>by rw[N' hi];rfl
 show Ay (bey:=λi=>(X[i]?).elim Ê f) (λi hi P hP=>?_) hh (λi j zy hj hb=>?_) λk hk h1 h2=>h k hk (λx hx=>?_) λx hx=>?_
 ·show Í (jk (ha i hi) (hc _ (ŵ hi) _ (by rw[<-e i hi];show hP)))
 ·show â (aeU zy) (λcG=>?_) λq=>q▸hb
  have hi:=Ϣ cG hj;rw[e j hj]at hb;rw[e i hi];show acv.mp gA i j hi hj cG hb
 ·show ä (ab5.mp hx) λi q=>ä q λhi q=>?_
  have jX:=ĵ hi (z' (Ŏ (ũ ..)) (acA _ _));rw[<-q,aec,<-e i (ĵ jX hk)];show h1 i jX
 ·show ä (ab5.mp hx) λi q=>ä q λhi q=>?_
  have jX:k+i<X.length:=ac2 (ĵ hi (Ŏ (ϴ ..)));rw[<-q,ae9,<-e _ jX];show h2 _ (Ō _ _) jX
structure MC(X Y:List Ë):Prop where
 cmp:∀x∈X,∀y∈Y,∀(st:Ò) (Q:Option Bool->Ò->Prop),kindOf st=zk->Q (À (zr y x)) st->wpS mo zA zE zs (lt' y x) Q st
 trans:∀x y z,zr x y=Æ->zr y z=Æ->zr x z=Æ
 asym:∀x y,zr x y=Æ->zr y x=Ê
 tot:∀x∈X,∀y∈Y,zr y x=Ê->zr x y=Æ
 sX:lh zr X
 sY:lh zr Y
theorem MC.gX{X Y X':List Ë}(M:MC X Y)(hX:∀x∈X',x∈X)(sX:lh zr X'){arr:Array Ë}{base hint:Nat}{n:Nat}(hn:X'.length=n)(ha:∀i (hi:i<X'.length),arr.toList[base+i]?=À X'[i]){y:Ë}(hy:y∈Y)(hh:hint<n)(hk:kindOf st=zk){Q:Option Nat->Ò->Prop}
  (h:∀k,k<=n->(∀x∈X'.take k,zr x y=Æ)->(∀x∈X'.drop k,zr y x=Æ)->Q (À k) st):wpS mo zA zE zs (fi Ê y arr base n hint) Q st:=by
 subst hn;show Cb (f:=λx=>!(zr y x)) ha (λx hx P hP=>cm Ķ (Í (M.cmp x (hX x hx) y hy _ _ hk (Ð hP)))) (List.Pairwise.imp_of_mem (λ{x x'} hx C9 hr hb=>?_) sX) hh λk hk h1 h2=>h k hk (λx hx=>?_) λx hx=>?_
 ·have hb':zr y x'=Ê:=(ϑ _).mp hb
  rw[M.asym _ _ (M.trans _ _ _ hr (M.tot x' (hX x' C9) y hy hb'))];rfl
 ·show M.tot x (hX x (ű hx)) y hy ((ϑ _).mp (h1 x hx))
 ·show(ads _).mp (h2 x hx)
theorem MC.gY(M:MC X Y)(hY:∀y∈Y',y∈Y)(sY:lh zr Y')(hn:Y'.length=n)(ha:∀i (hi:i<Y'.length),arr.toList[base+i]?=À Y'[i])(hx:x∈X)(hh:hint<n)(hk:kindOf st=zk){Q:Option Nat->Ò->Prop}
  (h:∀k,k<=n->(∀y∈Y'.take k,zr y x=Æ)->(∀y∈Y'.drop k,zr x y=Æ)->Q (À k) st):wpS mo zA zE zs (fi Æ x arr base n hint) Q st:=by
 subst hn;show Cb (f:=λy=>zr y x) ha (λy hy P hP=>cI N (M.cmp x hx y (hY y hy) _ _ hk hP)) (List.Pairwise.imp (λ{y y'} hr hb=>M.trans _ _ _ hr hb) sY) hh λk hk h1 h2=>h k hk h1 λy hy=>M.tot x hx y (hY y (ϙ hy)) (h2 y hy)
end
noncomputable def eK:Nat->StateT Ò Sem Unit:=sortPriv% PySem.Builtin.setMinGallop
noncomputable def qU:Array Ë->Array Ë->StateT Ò Sem (Array Ë):=sortPriv% PySem.Builtin.mergeLo
theorem eA(g:Nat):eK g=modify (λzs=>SortSt.mk' (kindOf zs) (Ú zs) (Ö zs) g (ë zs)):=rfl
noncomputable def gv(a b out:Array Ë)(ia ib:Nat):Array Ë:=out++a.extract ia a.size++b.extract ib b.size
noncomputable def oj(a b out:Array Ë)(ia ib:Nat):Array Ë:=out++b.extract ib b.size++a.extract ia a.size
abbrev LS:Type:=Option (Array Ë)×Array Ë×Nat×Nat×Nat×Nat×Nat
def gD(a b out:Array Ë)(ia ib mg ac bc:Nat):StateT Ò Sem (ForInStep LS):=
 elem' a ia>>=λx=>
  if (ia+1+1==a.size)=Æ then pure (.done (À (oj a b (out.push x) (ia+1) ib),out.push x,ia+1,ib,mg,ac,bc))
  else if (decide (ac<7)&&decide (bc<7))=Æ then pure (.done (Ã,out.push x,ia+1,ib,mg,ac,bc))
  else pure (.yield (Ã,out.push x,ia+1,ib,mg,ac,bc))
def gC(a b out:Array Ë)(ia ib mg ac bc:Nat):StateT Ò Sem (ForInStep LS):=
 elem' b ib>>=λx=>
  if (ib+1==b.size)=Æ then pure (.done (À (gv a b (out.push x) ia (ib+1)),out.push x,ia,ib+1,mg,ac,bc))
  else elem' a ia>>=λy=>fi Æ y b (ib+1) (b.size-(ib+1)) 0>>=λz=>match z with
   |some k=>if k > 0 then (if (ib+1+k==b.size)=Æ then pure (.done (À (gv a b (out.push x++b.extract (ib+1) (ib+1+k)) ia (ib+1+k)),out.push x++b.extract (ib+1) (ib+1+k),ia,ib+1+k,mg,ac,k))
     else gD a b (out.push x++b.extract (ib+1) (ib+1+k)) ia (ib+1+k) mg ac k)
    else gD a b (out.push x) ia (ib+1) mg ac k
   |_=>pure (.done (À (gv a b (out.push x) ia (ib+1)),out.push x,ia,ib+1,mg,ac,bc))
def gB(a b out:Array Ë)(ia ib mg ac bc:Nat):StateT Ò Sem (ForInStep LS):=
 eK mg>>=λy=>elem' b ib>>=λx=>fi Ê x a ia (a.size-ia) 0>>=λz=>match z with
 |some k=>if k > 0 then (if (ia+k+1==a.size)=Æ then pure (.done (À (oj a b (out++a.extract ia (ia+k)) (ia+k) ib),out++a.extract ia (ia+k),ia+k,ib,mg,k,bc))
   else if (ia+k==a.size)=Æ then pure (.done (À (gv a b (out++a.extract ia (ia+k)) (ia+k) ib),out++a.extract ia (ia+k),ia+k,ib,mg,k,bc))
   else gC a b (out++a.extract ia (ia+k)) (ia+k) ib mg k bc)
  else gC a b out ia ib mg k bc
 |_=>pure (.done (À (gv a b out ia ib),out,ia,ib,mg,ac,bc))
abbrev IS:Type:=Option (Array Ë)×Array Ë×Nat×Nat×Nat×Nat
def Nr(a b:Array Ë)(mg:Nat)(_:Nat)(c:IS):StateT Ò Sem (ForInStep IS):=
 elem' b c.2.2.2.1>>=λy=>elem' a c.2.2.1>>=λx=>lt' y x>>=λz=>match z with
 |some t=>if t=Æ then elem' b c.2.2.2.1>>=λv=>
    if (c.2.2.2.1+1==b.size)=Æ then pure (.done (À (gv a b (c.2.1.push v) c.2.2.1 (c.2.2.2.1+1)),c.2.1.push v,c.2.2.1,c.2.2.2.1+1,0,c.2.2.2.2.2+1))
    else if c.2.2.2.2.2+1 >= mg then pure (.done (Ã,c.2.1.push v,c.2.2.1,c.2.2.2.1+1,0,c.2.2.2.2.2+1)) else pure (.yield (Ã,c.2.1.push v,c.2.2.1,c.2.2.2.1+1,0,c.2.2.2.2.2+1))
   else elem' a c.2.2.1>>=λv=>
    if (c.2.2.1+1+1==a.size)=Æ then pure (.done (À (oj a b (c.2.1.push v) (c.2.2.1+1) c.2.2.2.1),c.2.1.push v,c.2.2.1+1,c.2.2.2.1,c.2.2.2.2.1+1,0))
    else if c.2.2.2.2.1+1 >= mg then pure (.done (Ã,c.2.1.push v,c.2.2.1+1,c.2.2.2.1,c.2.2.2.2.1+1,0)) else pure (.yield (Ã,c.2.1.push v,c.2.2.1+1,c.2.2.2.1,c.2.2.2.2.1+1,0))
 |_=>pure (.done (À (gv a b c.2.1 c.2.2.1 c.2.2.2.1),c.2.1,c.2.2.1,c.2.2.2.1,c.2.2.2.2.1,c.2.2.2.2.2))
def Ro(a b:Array Ë)(_:Nat)(c:LS):StateT Ò Sem (ForInStep LS):=
 if c.2.2.2.2.1 > 1 then gB a b c.2.1 c.2.2.1 c.2.2.2.1 (c.2.2.2.2.1-1) c.2.2.2.2.2.1 c.2.2.2.2.2.2 else gB a b c.2.1 c.2.2.1 c.2.2.2.1 c.2.2.2.2.1 c.2.2.2.2.2.1 c.2.2.2.2.2.2
abbrev OS:Type:=Option (Array Ë)×Array Ë×Nat×Nat×Nat
def Nu(a b:Array Ë)(_:Nat)(c:OS):StateT Ò Sem (ForInStep OS):=
 forIn [0:a.size+b.size] ((Ã,c.2.1,c.2.2.1,c.2.2.2.1,0,0):IS) (Nr a b c.2.2.2.2)>>=λd=>match d.1 with
 |some q=>pure (.done (À q,d.2.1,d.2.2.1,d.2.2.2.1,c.2.2.2.2))
 |none=>(liftM (rule "list.sort.gallop"):StateT Ò Sem Unit)>>=λz=>forIn [0:a.size+b.size] ((Ã,d.2.1,d.2.2.1,d.2.2.2.1,c.2.2.2.2+1,d.2.2.2.2.1,d.2.2.2.2.2):LS) (Ro a b)>>=λf=>match f.1 with
  |some q=>pure (.done (À q,f.2.1,f.2.2.1,f.2.2.2.1,f.2.2.2.2.1))
  |none=>eK (f.2.2.2.2.1+1)>>=λz=>pure (.yield (Ã,f.2.1,f.2.2.1,f.2.2.2.1,f.2.2.2.2.1+1))
theorem w7(a b:Array Ë):qU a b =
  ((liftM (rule "list.sort.merge-lo"):StateT Ò Sem Unit)>>=λz=>elem' b 0>>=λx=>
   if (1==b.size)=Æ then pure (gv a b #[x] 0 1) else if (0+1==a.size)=Æ then pure (oj a b #[x] 0 1)
   else get>>=λzs=>forIn [0:a.size+b.size] ((Ã,#[x],0,1,gallopOf zs):OS) (Nu a b)>>=λc=>match c.1 with
    |some q=>pure q
    |none=>ğ "internal:list.sort.merge-bound"):=by kernel_rfl
structure bU(st aT:Ò):Prop where
 k:kindOf aT=kindOf st
 a:Ú aT=Ú st
 p:Ö aT=Ö st
 f:ë aT=ë st
theorem bU.refl(st:Ò):bU st st:=⟨N,N,N,N⟩
theorem bU.trans{a b c:Ò}(x:bU a b)(y:bU b c):bU a c:=⟨y.k.trans x.k,y.a.trans x.a,y.p.trans x.p,y.f.trans x.f⟩
section
variable{H α:Type}{m n:StateT H Sem α}{Q:α->H->Prop}{st:H}
theorem cE[Decidable c](hT:c->wpS mo zA zE zs m Q st)(hF:¬ c->wpS mo zA zE zs n Q st):wpS mo zA zE zs (if c then m else n) Q st:=by
 by_cases h:c
 ·show cI h (hT h)
 ·show cm h (hF h)
theorem ck{i j:Nat}(hT:i=j->wpS mo zA zE zs m Q st)(hF:i≠j->wpS mo zA zE zs n Q st):wpS mo zA zE zs (if (i==j)=Æ then m else n) Q st:=
 cE (λh=>hT (beq_iff_eq.mp h)) λh=>hF λe=>h (beq_iff_eq.mpr e)
end
section
variable{la lb rb:List Ë}{a b out:Array Ë}{ia ib k:Nat}
theorem AY(hi:ia<a.size):a.toList.drop ia=a[ia]::a.toList.drop (ia+1):=aby hi
theorem pz(hi:ia<a.size):a[ia]∈a.toList:=Array.getElem_mem_toList hi
theorem Pn(a:Array Ë)(i:Nat):(a.toList.drop i).length=a.size-i:=ϴ ..
theorem AK(a:Array Ë)(j i:Nat)(hi:i<(a.toList.drop j).length):a.toList[j+i]?=À (a.toList.drop j)[i]:=by rw[<-List.getElem?_drop,N' hi]
theorem we{l:List Ë}{n:Nat}(h:n=l.length):l.drop n=[]:=adx (Ŏ h.symm)
theorem kY(a:Array Ë)(i:Nat):(a.extract i a.size).toList=a.toList.drop i:=by rw[acI,acd];show adD (Ŏ (Pn a i))
theorem Mg.pushA(hi:ia<a.size)(h:Mg zr la lb out.toList (a.toList.drop ia) rb)(hk:∀y∈rb,zr a[ia] y=Æ):Mg zr la lb (out.push a[ia]).toList (a.toList.drop (ia+1)) rb:=by rw[AY hi]at h;rw[ac6];show h.addA (p:=[a[ia]]) λx hx y hy=>by rw[W'.mp hx];show hk y hy
theorem Mg.extA(k:Nat)(h:Mg zr la lb out.toList (a.toList.drop ia) rb)(hk:yo zr ((a.toList.drop ia).take k) rb):Mg zr la lb (out++a.extract ia (ia+k)).toList (a.toList.drop (ia+k)) rb:=by rw[<-ŭ k (a.toList.drop ia),adE]at h;rw[Ź,acI,acd,ϲ];show h.addA hk
theorem Mg.pushB(hi:ib<b.size)(h:Mg zr la lb out.toList rb (b.toList.drop ib))(hk:∀y∈rb,zr b[ib] y=Æ):Mg zr la lb (out.push b[ib]).toList rb (b.toList.drop (ib+1)):=(h.swap.pushA hi hk).swap
theorem Mg.extB(k:Nat)(h:Mg zr la lb out.toList rb (b.toList.drop ib))(hk:yo zr ((b.toList.drop ib).take k) rb):Mg zr la lb (out++b.extract ib (ib+k)).toList rb (b.toList.drop (ib+k)):=(h.swap.extA k hk).swap
theorem tJ(tr:∀x y z,zr x y=Æ->zr y z=Æ->zr x z=Æ)(hi:ia<a.size)(zs:lh zr (a.toList.drop ia))(h:∀x∈p,zr x a[ia]=Æ):yo zr p (a.toList.drop ia):=by rw[AY hi]at zs ⊢;show Fd tr zs h
theorem xd(tr:∀x y z,zr x y=Æ->zr y z=Æ->zr x z=Æ)(hi:ia<a.size)(zs:lh zr (a.toList.drop ia))(h:zr x a[ia]=Æ):∀y∈a.toList.drop ia,zr x y=Æ:=λy hy=>
 tJ (p:=[x]) tr hi zs (λz hz=>by rw[W'.mp hz];show h) x G' y hy
theorem G9(hk:k<=a.size-ia)(hi:ia<=a.size):ia+k<=a.size:=Nat.add_le_of_le_sub' hi hk
theorem up3(h:m<=i+j):m<=i+1+(j+1+k):=z' h (Ϭ (ϐ i) (z' (ϐ j) (Ō _ _)))
theorem up2(h:m<=i+j):m<=i+k+j:=z' h (ϯ (Ō i k) j)
structure IR(a b out:Array Ë)(ia ib:Nat):Prop where
 mi:Mg zr a.toList b.toList out.toList (a.toList.drop ia) (b.toList.drop ib)
 ha:ia+1<a.size
 hb:ib<b.size
def Ch(a b:Array Ë)(m:Nat)(q:Option (Array Ë))(out:Array Ë)(ia ib:Nat):Prop:=match q with
 |some mh=>ft zr a.toList b.toList mh.toList
 |none=>IR a b out ia ib/\m<=ia+ib
def Ma(a b:Array Ë):Prop:=∀y∈b.toList,∀x∈a.toList.drop (a.size-1),zr y x=Æ
theorem p5(gz:Ma a b)(h:Mg zr a.toList b.toList out.toList (a.toList.drop ia) (b.toList.drop ib))(ha:ia+1=a.size):ft zr a.toList b.toList (oj a b out ia ib).toList:=by unfold oj;rw[Ź,Ź,kY,kY,ü];show h.endBA λy hy x hx=>gz y (ϙ hy) x (by rw[<-ha];show hx)
theorem vi(h:Mg zr a.toList b.toList out.toList (a.toList.drop ia) (b.toList.drop ib))(hb:ib=b.size):ft zr a.toList b.toList (gv a b out ia ib).toList:=by have e:b.toList.drop ib=[]:=we hb;unfold gv;rw[Ź,Ź,kY,kY,e,Ĭ];rw[e]at h;show h.endA
theorem PW(h:Mg zr a.toList b.toList out.toList (a.toList.drop ia) (b.toList.drop ib))(ha:ia=a.size):ft zr a.toList b.toList (gv a b out ia ib).toList:=by have e:a.toList.drop ia=[]:=we ha;unfold gv;rw[Ź,Ź,kY,kY,e,Ĭ];rw[e]at h;show h.endB
end
section
variable{a b out:Array Ë}{ia ib mg ac bc m:Nat}{st:Ò}{P:ForInStep LS->Ò->Prop}
theorem bW(hi:i<a.size)(h:Q a[i] st):wpS mo zA zE zs (elem' a i) Q st:=by rw[elem'_eq,acx hi];show Ð h
theorem Iy(gz:Ma a b)(I:IR a b out ia ib)(hc:∀y∈b.toList.drop ib,zr (a[ia]'(š I.ha)) y=Æ)(hm:m<=ia+1+ib)(hd:∀c:LS,Ch a b m c.1 c.2.1 c.2.2.1 c.2.2.2.1->P (.done c) st)(hy:∀c:LS,c.1=Ã->Ch a b m c.1 c.2.1 c.2.2.1 c.2.2.2.1->P (.yield c) st):
  wpS mo zA zE zs (gD a b out ia ib mg ac bc) P st:=by
 have px:ia<a.size:=š I.ha;have h1:=I.mi.pushA px hc;show Í (bW px (ck (λh2=>Ð (hd _ (p5 gz h1 h2))) λh2=>?_));have I':IR a b (out.push a[ia]) (ia+1) ib:=⟨h1,ū I.ha h2,I.hb⟩;show cE (λz=>Ð (hd _ ⟨I',hm⟩)) λz=>Ð (hy _ N ⟨I',hm⟩)
theorem Ix(M:MC a.toList b.toList)(gz:Ma a b)(lB:kindOf st=zk)(I:IR a b out ia ib)(hc:∀y∈a.toList.drop ia,zr (b[ib]'I.hb) y=Æ)(hm:m<=ia+ib)(hd:∀c:LS,Ch a b m c.1 c.2.1 c.2.2.1 c.2.2.2.1->P (.done c) st)(hy:∀c:LS,c.1=Ã->Ch a b m c.1 c.2.1 c.2.2.1 c.2.2.2.1->P (.yield c) st):
  wpS mo zA zE zs (gC a b out ia ib mg ac bc) P st:=by
 have px:ia<a.size:=š I.ha;have h1:=I.mi.pushB I.hb hc;show Í (bW I.hb (ck (λh2=>Ð (hd _ (vi h1 h2))) λh2=>Í (bW px ?_)));have zv:ib+1<b.size:=ū I.hb h2;show Í (M.gY (λy hy=>ϙ hy) h1.srtB (Pn b (ib+1)) (AK b (ib+1)) (pz px) (϶ zv) lB λk hk g1 g2=>cE (λz=>?_) λmO=>?_)
 ·have h3:=h1.extB k (tJ M.trans px h1.srtA g1)
  rw[adE]at g2;show ck (λh4=>Ð (hd _ (vi h3 h4))) λh4=>Iy gz ⟨h3,I.ha,ū (G9 hk (ī zv)) h4⟩ g2 (up3 hm) hd hy
 ·have e:k=0:=acm mO
  rw[e]at g2;show Iy gz ⟨h1,I.ha,zv⟩ g2 (by show jL (y7 0xc6010b1013ba183213ba185413ba42612ba531 N (iL hm) (iA _ _) (iA _ _) (iA _ _) (iA _ _))) hd hy
theorem Iw(M:MC a.toList b.toList)(gz:Ma a b)(lB:kindOf st=zk)(I:IR a b out ia ib)(hm:m<=ia+ib)(hd:∀(c:LS) aT,bU st aT->Ch a b m c.1 c.2.1 c.2.2.1 c.2.2.2.1->P (.done c) aT)(hy:∀(c:LS) aT,bU st aT->c.1=Ã->Ch a b m c.1 c.2.1 c.2.2.1 c.2.2.2.1->P (.yield c) aT):
  wpS mo zA zE zs (gB a b out ia ib mg ac bc) P st:=by
 have px:ia<a.size:=š I.ha;have hs:bU st (SortSt.mk' (kindOf st) (Ú st) (Ö st) mg (ë st)):=⟨N,N,N,N⟩;show Í ?_;rw[eA];show ù (Í (bW I.hb (Í (M.gX (st:=SortSt.mk' (kindOf st) (Ú st) (Ö st) mg (ë st)) (λy hy=>ϙ hy) I.mi.srtA (Pn a ia) (AK a ia) (pz I.hb) (϶ px) lB λk hk g1 g2=>cE (λz=>?_) λmO=>?_))))
 ·have h3:=I.mi.extA k (tJ M.trans I.hb I.mi.srtB g1)
  rw[adE]at g2;show ck (λh4=>Ð (hd _ _ hs (p5 gz h3 h4))) λh4=>ck (λh5=>Ð (hd _ _ hs (PW h3 h5))) λh5=>Ix M gz lB ⟨h3,ū (ū (G9 hk (ī px)) h5) h4,I.hb⟩ g2 (up2 hm) (λc=>hd c _ hs) λc=>hy c _ hs
 ·have e:k=0:=acm mO
  rw[e]at g2;show Ix M gz lB I g2 hm (λc=>hd c _ hs) λc=>hy c _ hs
theorem En(M:MC a.toList b.toList)(gz:Ma a b)(lB:kindOf st=zk){y:Nat}{c:IS}(I:IR a b c.2.1 c.2.2.1 c.2.2.2.1)(hm:m<=c.2.2.1+c.2.2.2.1){P:ForInStep IS->Ò->Prop}(hd:∀c:IS,Ch a b (m+1) c.1 c.2.1 c.2.2.1 c.2.2.2.1->P (.done c) st)(hy:∀c:IS,c.1=Ã->Ch a b (m+1) c.1 c.2.1 c.2.2.1 c.2.2.2.1->P (.yield c) st):
  wpS mo zA zE zs (Nr a b mg y c) P st:=by
 have px:c.2.2.1<a.size:=š I.ha;have um:=I.hb;show Í (bW um (Í (bW px (Í (M.cmp _ (pz px) _ (pz um) _ _ lB ?_)))));cases hr:zr b[c.2.2.2.1] a[c.2.2.1] with
 |true=>have h2:=I.mi.pushB um (xd M.trans px I.mi.srtA hr);show cI N (Í (bW um (ck (λh3=>Ð (hd _ (vi h2 h3))) λh3=>?_)));have I':IR a b (c.2.1.push b[c.2.2.2.1]) c.2.2.1 (c.2.2.2.1+1):=⟨h2,I.ha,ū um h3⟩;show cE (λz=>Ð (hd _ ⟨I',Š hm⟩)) λz=>Ð (hy _ N ⟨I',Š hm⟩)
 |false=>have h2:=I.mi.pushA px (xd M.trans um I.mi.srtB (M.tot _ (pz px) _ (pz um) hr));show cm Ķ (Í (bW px (ck (λh3=>Ð (hd _ (p5 gz h2 h3))) λh3=>?_)));have I':IR a b (c.2.1.push a[c.2.2.1]) (c.2.2.1+1) c.2.2.2.1:=⟨h2,ū I.ha h3,um⟩;have TF:m+1<=c.2.2.1+1+c.2.2.2.1:=(by show jL (y7 0xc5210b1012ba180213ba184313ba63512ba641 N (iL hm) (iA _ _) (iA _ _) (iA _ _) (iA _ _)));show cE (λz=>Ð (hd _ ⟨I',TF⟩)) λz=>Ð (hy _ N ⟨I',TF⟩)
theorem Ep(M:MC a.toList b.toList)(gz:Ma a b)(lB:kindOf st=zk){x:Nat}{c:OS}(I:IR a b c.2.1 c.2.2.1 c.2.2.2.1)(hm:m<=c.2.2.1+c.2.2.2.1){P:ForInStep OS->Ò->Prop}(hd:∀q out ia ib mg aT,bU st aT->ft zr a.toList b.toList (ae' q)->P (.done (À q,out,ia,ib,mg)) aT)
  (hy:∀out ia ib mg aT,bU st aT->IR a b out ia ib->m+1<=ia+ib->P (.yield (Ã,out,ia,ib,mg)) aT):wpS mo zA zE zs (Nu a b x c) P st:=by
 show Í (ė (ã (I:=λy (d:IS) aT=>aT=st/\d.1=Ã/\Ch a b (m+y) d.1 d.2.1 d.2.2.1 d.2.2.2.1) (Q:=λ(d:IS) aT=>aT=st/\Ch a b (m+1) d.1 d.2.1 d.2.2.1 d.2.2.2.1) (λy d aT z hy q=>?_) (λd aT q=>?_) ⟨N,N,I,hm⟩) λd aT q=>?_)
 ·rw[q.1]
  have q2:=q.2.2;rw[q.2.1]at q2;show En M gz lB q2.1 q2.2 (λc o=>⟨rfl,?_⟩) λc e o=>⟨rfl,e,o⟩;rcases c with ⟨_|mh,c⟩
  ·show⟨o.1,z' (Š (Ō _ _)) o.2⟩
  ·show o
 ·have q2:=q.2.2
  rw[q.2.1]at q2;have ha:=q2.1.ha;have hb:=q2.1.hb;have hz:=q2.2;show absurd (adS 0 (a.size+b.size)) (by lia)
 ·rw[q.1]
  have q2:=q.2;rcases d with ⟨_|mh,d⟩
  ·show Í (ĸ (ú ⟨N,(Í (ė (ã (I:=λy (f:LS) aT=>bU st aT/\f.1=Ã/\Ch a b (m+1) f.1 f.2.1 f.2.2.1 f.2.2.2.1) (Q:=λ(f:LS) aT=>bU st aT/\Ch a b (m+1) f.1 f.2.1 f.2.2.1 f.2.2.2.1) (λy f aT z hy q=>?_) (λf aT q=>⟨q.1,q.2.2⟩) ⟨bU.refl _,N,q2⟩) λf aT q=>?_))⟩))
   ·have q2:=q.2.2
    rw[q.2.1]at q2;have hk:=q.1.k.trans lB;show cE (λz=>Iw M gz hk q2.1 q2.2 (λc dE hs o=>⟨q.1.trans hs,o⟩) λc dE hs e o=>⟨q.1.trans hs,e,o⟩) λz=>Iw M gz hk q2.1 q2.2 (λc dE hs o=>⟨q.1.trans hs,o⟩) λc dE hs e o=>⟨q.1.trans hs,e,o⟩
   ·have q2:=q.2
    rcases f with ⟨_|mh,f⟩
    ·show Í ?_
     rw[eA];show ù (Ð (hy _ _ _ _ _ (q.1.trans ⟨N,N,N,N⟩) q2.1 q2.2))
    ·show Ð (hd _ _ _ _ _ _ q.1 q2)
  ·show Ð (hd _ _ _ _ _ _ (bU.refl _) q2)
theorem yj{Q:Array Ë->Ò->Prop}(M:MC a.toList b.toList)(gz:Ma a b)(Qg:0<a.size)(RU:0<b.size)(first:∀x∈a.toList,zr b[0] x=Æ)(lB:kindOf st=zk)
  (h:∀mh aT,bU st aT->ft zr a.toList b.toList mh.toList->Q mh aT):wpS mo zA zE zs (qU a b) Q st:=by
 rw[w7];refine Í (ĸ (ú ⟨N,Í (bW RU ?_)⟩));have h0:Mg zr a.toList b.toList (#[]:Array Ë).toList (a.toList.drop 0) (b.toList.drop 0):=⟨M.sX,M.sY,List.Perm.refl _⟩;have h1:=h0.pushB RU first
 show ck (λzv=>Ð (h _ _ (bU.refl _) (vi h1 zv))) λzv=>ck (λOO=>Ð (h _ _ (bU.refl _) (p5 gz h1 OO))) λOO=>Í (Į (Í (ė (ã (I:=λx (c:OS) aT=>bU st aT/\c.1=Ã/\Ch a b (x+1) c.1 c.2.1 c.2.2.1 c.2.2.2.1) (Q:=λ(c:OS) aT=>bU st aT/\∃q,c.1=À q/\ft zr a.toList b.toList q.toList) (λx c aT z hx q=>?_) (λc aT q=>?_) ⟨bU.refl _,N,⟨h1,ū Qg OO,ū RU zv⟩,đ _⟩) λc aT q=>?_)))
 ·have q2:=q.2.2
  rw[q.2.1]at q2;show Ep M gz (q.1.k.trans lB) q2.1 q2.2 (λmh out ia ib mg dE hs e=>⟨q.1.trans hs,_,N,e⟩) λout ia ib mg dE hs I hm=>⟨q.1.trans hs,N,I,hm⟩
 ·have q2:=q.2.2
  rw[q.2.1]at q2;have ha:=q2.1.ha;have hb:=q2.1.hb;have hz:=q2.2;show absurd (adS 0 (a.size+b.size)) (by lia)
 ·show ä q.2 λmh e=>?_
  rw[e.1];show Ð (h _ _ q.1 e.2)
end
noncomputable def qT:Array Ë->Array Ë->StateT Ò Sem (Array Ë):=sortPriv% PySem.Builtin.mergeHi
noncomputable def gu(a b out:Array Ë)(na nb:Nat):Array Ë:=a.extract 0 na++b.extract 0 nb++out.reverse
noncomputable def kN(a b out:Array Ë)(na nb:Nat):Array Ë:=b.extract 0 nb++a.extract 0 na++out.reverse
abbrev HS:Type:=Option (Array Ë)×Nat×Nat×Array Ë×Nat×Nat×Nat
def hD(a b out:Array Ë)(na nb mg ac bc:Nat):StateT Ò Sem (ForInStep HS):=
 elem' a (na-1)>>=λx=>
  if (na-1==0)=Æ then pure (.done (À (gu a b (out.push x) (na-1) nb),na-1,nb,out.push x,mg,ac,bc))
  else if (decide (ac<7)&&decide (bc<7))=Æ then pure (.done (Ã,na-1,nb,out.push x,mg,ac,bc))
  else pure (.yield (Ã,na-1,nb,out.push x,mg,ac,bc))
def hC(a b out:Array Ë)(na nb mg ac bc:Nat):StateT Ò Sem (ForInStep HS):=
 elem' b (nb-1)>>=λx=>
  if (nb-1==1)=Æ then pure (.done (À (kN a b (out.push x) na (nb-1)),na,nb-1,out.push x,mg,ac,bc))
  else elem' a (na-1)>>=λy=>fi Æ y b 0 (nb-1) (nb-1-1)>>=λz=>match z with
   |some k=>if nb-1-k > 0 then (if (k==1)=Æ then pure (.done (À (kN a b (out.push x++(b.extract k (nb-1)).reverse) na k),na,k,out.push x++(b.extract k (nb-1)).reverse,mg,ac,nb-1-k))
     else if (k==0)=Æ then pure (.done (À (gu a b (out.push x++(b.extract k (nb-1)).reverse) na k),na,k,out.push x++(b.extract k (nb-1)).reverse,mg,ac,nb-1-k))
     else hD a b (out.push x++(b.extract k (nb-1)).reverse) na k mg ac (nb-1-k))
    else hD a b (out.push x) na (nb-1) mg ac (nb-1-k)
   |_=>pure (.done (À (gu a b (out.push x) na (nb-1)),na,nb-1,out.push x,mg,ac,bc))
def hB(a b out:Array Ë)(na nb mg ac bc:Nat):StateT Ò Sem (ForInStep HS):=
 eK mg>>=λy=>elem' b (nb-1)>>=λx=>fi Ê x a 0 na (na-1)>>=λz=>match z with
 |some k=>if na-k > 0 then (if (k==0)=Æ then pure (.done (À (gu a b (out++(a.extract k na).reverse) k nb),k,nb,out++(a.extract k na).reverse,mg,na-k,bc))
   else hC a b (out++(a.extract k na).reverse) k nb mg (na-k) bc)
  else hC a b out na nb mg (na-k) bc
 |_=>pure (.done (À (gu a b out na nb),na,nb,out,mg,ac,bc))
abbrev JS:Type:=Option (Array Ë)×Nat×Nat×Array Ë×Nat×Nat
def Nq(a b:Array Ë)(mg:Nat)(_:Nat)(c:JS):StateT Ò Sem (ForInStep JS):=
 elem' b (c.2.2.1-1)>>=λy=>elem' a (c.2.1-1)>>=λx=>lt' y x>>=λz=>match z with
 |some t=>if t=Æ then elem' a (c.2.1-1)>>=λv=>
    if (c.2.1-1==0)=Æ then pure (.done (À (gu a b (c.2.2.2.1.push v) (c.2.1-1) c.2.2.1),c.2.1-1,c.2.2.1,c.2.2.2.1.push v,c.2.2.2.2.1+1,0))
    else if c.2.2.2.2.1+1 >= mg then pure (.done (Ã,c.2.1-1,c.2.2.1,c.2.2.2.1.push v,c.2.2.2.2.1+1,0)) else pure (.yield (Ã,c.2.1-1,c.2.2.1,c.2.2.2.1.push v,c.2.2.2.2.1+1,0))
   else elem' b (c.2.2.1-1)>>=λv=>
    if (c.2.2.1-1==1)=Æ then pure (.done (À (kN a b (c.2.2.2.1.push v) c.2.1 (c.2.2.1-1)),c.2.1,c.2.2.1-1,c.2.2.2.1.push v,0,c.2.2.2.2.2+1))
    else if c.2.2.2.2.2+1 >= mg then pure (.done (Ã,c.2.1,c.2.2.1-1,c.2.2.2.1.push v,0,c.2.2.2.2.2+1)) else pure (.yield (Ã,c.2.1,c.2.2.1-1,c.2.2.2.1.push v,0,c.2.2.2.2.2+1))
 |_=>pure (.done (À (gu a b c.2.2.2.1 c.2.1 c.2.2.1),c.2.1,c.2.2.1,c.2.2.2.1,c.2.2.2.2.1,c.2.2.2.2.2))
def Rn(a b:Array Ë)(_:Nat)(c:HS):StateT Ò Sem (ForInStep HS):=
 if c.2.2.2.2.1 > 1 then hB a b c.2.2.2.1 c.2.1 c.2.2.1 (c.2.2.2.2.1-1) c.2.2.2.2.2.1 c.2.2.2.2.2.2 else hB a b c.2.2.2.1 c.2.1 c.2.2.1 c.2.2.2.2.1 c.2.2.2.2.2.1 c.2.2.2.2.2.2
abbrev QS:Type:=Option (Array Ë)×Nat×Nat×Array Ë×Nat
def Nt(a b:Array Ë)(_:Nat)(c:QS):StateT Ò Sem (ForInStep QS):=
 forIn [0:a.size+b.size] ((Ã,c.2.1,c.2.2.1,c.2.2.2.1,0,0):JS) (Nq a b c.2.2.2.2)>>=λd=>match d.1 with
 |some q=>pure (.done (À q,d.2.1,d.2.2.1,d.2.2.2.1,c.2.2.2.2))
 |none=>(liftM (rule "list.sort.gallop"):StateT Ò Sem Unit)>>=λz=>forIn [0:a.size+b.size] ((Ã,d.2.1,d.2.2.1,d.2.2.2.1,c.2.2.2.2+1,d.2.2.2.2.1,d.2.2.2.2.2):HS) (Rn a b)>>=λf=>match f.1 with
  |some q=>pure (.done (À q,f.2.1,f.2.2.1,f.2.2.2.1,f.2.2.2.2.1))
  |none=>eK (f.2.2.2.2.1+1)>>=λz=>pure (.yield (Ã,f.2.1,f.2.2.1,f.2.2.2.1,f.2.2.2.2.1+1))
theorem w6(a b:Array Ë):qT a b =
  ((liftM (rule "list.sort.merge-hi"):StateT Ò Sem Unit)>>=λz=>elem' a (a.size-1)>>=λx=>
   if (a.size-1==0)=Æ then pure (gu a b #[x] (a.size-1) b.size) else if (b.size==1)=Æ then pure (kN a b #[x] (a.size-1) b.size)
   else get>>=λzs=>forIn [0:a.size+b.size] ((Ã,a.size-1,b.size,#[x],gallopOf zs):QS) (Nt a b)>>=λc=>match c.1 with
    |some q=>pure q
    |none=>ğ "internal:list.sort.merge-bound"):=by kernel_rfl
section
variable{la lb rb:List Ë}{a b out:Array Ë}{na nb k n:Nat}
theorem vv(h0:0<n)(hn:n<=m):n-1<m:=ĵ (ϣ h0 Ÿ) hn
theorem Sv(hn:n<=a.size):(a.toList.take n).length=n:=(ũ ..).trans (Ų hn)
theorem AL(a:Array Ë)(n i:Nat)(hi:i<(a.toList.take n).length):a.toList[0+i]?=À (a.toList.take n)[i]:=by rw[Ż,aec];show N' _
theorem NN(h0:0<n)(hn:n<=a.size):(a.toList.take n).reverse=(a[n-1]'(vv h0 hn))::(a.toList.take (n-1)).reverse:=by
 cases n with
 |zero=>show absurd h0 (Ţ _)
 |succ n=>rw[List.take_succ_eq_append_getElem hn,ab1];rfl
theorem jj(a:Array Ë)(n:Nat):(a.extract 0 n).toList=a.toList.take n:=by rw[acI,acd];rfl
theorem Mg.pushHA{r:Ë->Ë->Bool}(h0:0<na)(hn:na<=a.size)(h:Mg r la lb out.toList (a.toList.take na).reverse rb)(hk:∀y∈rb,r (a[na-1]'(vv h0 hn)) y=Æ):Mg r la lb (out.push (a[na-1]'(vv h0 hn))).toList (a.toList.take (na-1)).reverse rb:=by rw[NN h0 hn]at h;rw[ac6];show h.addA (p:=[a[na-1]'(vv h0 hn)]) λx hx y hy=>by rw[W'.mp hx];show hk y hy
theorem Mg.extHA{r:Ë->Ë->Bool}(hk:k<=na)(h:Mg r la lb out.toList (a.toList.take na).reverse rb)(hb:∀x∈(a.toList.take na).drop k,∀y∈rb,r x y=Æ):Mg r la lb (out++(a.extract k na).reverse).toList (a.toList.take k).reverse rb:=by rw[<-ŭ k (a.toList.take na),ab1,ad7,Ų hk]at h;rw[Ź,ade,acI,acd,<-afu];show h.addA λx hx=>hb x (Ϩ.mp hx)
theorem mC{r:Ë->Ë->Bool}(tr:∀x y z,r x y=Æ->r y z=Æ->r x z=Æ)(h0:0<n)(hn:n<=a.size)(zs:lh r (a.toList.take n).reverse)(h:∀x∈p,r x (a[n-1]'(vv h0 hn))=Æ):yo r p (a.toList.take n).reverse:=by rw[NN h0 hn]at zs ⊢;show Fd tr zs h
structure IQ(a b out:Array Ë)(na nb:Nat):Prop where
 mi:Mg (IV zr) a.toList.reverse b.toList.reverse out.toList (a.toList.take na).reverse (b.toList.take nb).reverse
 ha:0<na
 ha':na<=a.size
 hb:1<nb
 hb':nb<=b.size
def nS(a b:Array Ë)(m:Nat)(q:Option (Array Ë))(na nb:Nat)(out:Array Ë):Prop:=match q with
 |some mh=>ft zr a.toList b.toList mh.toList
 |none=>IQ a b out na nb/\m+na+nb<=a.size+b.size
def N7(a b:Array Ë):Prop:=∀y∈b.toList.take 1,∀x∈a.toList,zr y x=Æ
theorem uk(h:Mg (IV zr) a.toList.reverse b.toList.reverse out.toList (a.toList.take na).reverse (b.toList.take nb).reverse)(hn:na=0):ft zr a.toList b.toList (gu a b out na nb).toList:=by unfold gu;rw[hn]at h ⊢;have q:=h.endB.rev;rw[ab1,ab7]at q;rw[Ź,Ź,jj,jj,ade];show q
theorem OU(h:Mg (IV zr) a.toList.reverse b.toList.reverse out.toList (a.toList.take na).reverse (b.toList.take nb).reverse)(hn:nb=0):ft zr a.toList b.toList (gu a b out na nb).toList:=by unfold gu;rw[hn]at h ⊢;have q:=h.endA.rev;rw[ab1,ab7]at q;rw[Ź,Ź,jj,jj,ade,aeE,Ĭ];show q
theorem ul(first:N7 a b)(h:Mg (IV zr) a.toList.reverse b.toList.reverse out.toList (a.toList.take na).reverse (b.toList.take nb).reverse)(hn:nb=1):ft zr a.toList b.toList (kN a b out na nb).toList:=by unfold kN;have q:=(h.swap.endBA λx hx y hy=>first y (by rw[hn]at hy;exact Ϩ.mp hy) x (ű (Ϩ.mp hx))).swap.rev;rw[ab1,ab1,ab7,ab7]at q;rw[Ź,Ź,jj,jj,ade];exact q
theorem Xf(h0:0<n)(h:m+n+p<=q):m+1+(n-1)+p<=q:=by rw[Ű m,ϝ 1,acX h0];show h
theorem Xg(h0:0<p)(h:m+n+p<=q):m+1+n+(p-1)<=q:=by rw[Ϸ m,Ű (m+n),ϝ 1,acX h0];show h
theorem U1(hn:n'<=n)(hp:p'<=p)(h:m+n+p<=q):m+n'+p'<=q:=z' (Ϭ (Ϙ hn m) hp) h
theorem w8{m i j x:Nat}{C:Prop}(ha:0<i)(hz:m+max 0 x+i+j<=x):C:=by rw[ϵ (ĥ _)]at hz;show absurd (ĵ (ĵ (abQ ha) (ϯ (afp x m) i)) (z' (Ō _ j) hz)) (Ţ _)
end
section
variable{a b out:Array Ë}{na nb mg ac bc m:Nat}{st:Ò}{P:ForInStep HS->Ò->Prop}
theorem MC.trF(M:MC X Y)(x y z:Ë)(h:IV zr x y=Æ)(h':IV zr y z=Æ):IV zr x z=Æ:=M.trans z y x h' h
theorem IB(I:IQ a b out na nb)(hc:∀x∈b.toList.take nb,zr x (a[na-1]'(vv I.ha I.ha'))=Æ)(hm:m+(na-1)+nb<=a.size+b.size)(hd:∀c:HS,nS a b m c.1 c.2.1 c.2.2.1 c.2.2.2.1->P (.done c) st)(hy:∀c:HS,c.1=Ã->nS a b m c.1 c.2.1 c.2.2.1 c.2.2.2.1->P (.yield c) st):
  wpS mo zA zE zs (hD a b out na nb mg ac bc) P st:=by
 have h1:=I.mi.pushHA I.ha I.ha' λy hy=>hc y (Ϩ.mp hy);show Í (bW (vv I.ha I.ha') (ck (λh2=>Ð (hd _ (uk h1 h2))) λh2=>?_));have I':IQ a b (out.push (a[na-1]'(vv I.ha I.ha'))) (na-1) nb:=⟨h1,abU h2,ī (vv I.ha I.ha'),I.hb,I.hb'⟩;show cE (λz=>Ð (hd _ ⟨I',hm⟩)) λz=>Ð (hy _ N ⟨I',hm⟩)
theorem IA(M:MC a.toList b.toList)(first:N7 a b)(lB:kindOf st=zk)(I:IQ a b out na nb)(hc:∀x∈a.toList.take na,zr x (b[nb-1]'(vv (š I.hb) I.hb'))=Æ)(hm:m+na+nb<=a.size+b.size)(hd:∀c:HS,nS a b m c.1 c.2.1 c.2.2.1 c.2.2.2.1->P (.done c) st)(hy:∀c:HS,c.1=Ã->nS a b m c.1 c.2.1 c.2.2.1 c.2.2.2.1->P (.yield c) st):
  wpS mo zA zE zs (hC a b out na nb mg ac bc) P st:=by
 have zu:0<nb:=š I.hb;have px:=vv I.ha I.ha';have zv:nb-1<=b.size:=ī (vv zu I.hb');have h1:=(I.mi.swap.pushHA zu I.hb' λy hy=>hc y (Ϩ.mp hy)).swap;refine Í (bW (vv zu I.hb') (ck (λh2=>Ð (hd _ (ul first h1 h2))) λh2=>Í (bW px ?_)));have hp:0<nb-1:=϶ I.hb;refine Í (M.gY (λy hy=>ű hy) (M.sY.sublist (acJ _ _)) (Sv zv) (AL b _) (pz px) (ϣ hp Ÿ) lB λk hk g1 g2=>?_);rw[ad7,Ų hk]at g1;refine cE (λj=>?_) λmO=>?_
 ·have h3:=(h1.swap.extHA hk λx hx=>mC M.trF I.ha I.ha' h1.srtA (p:=[x]) (λz hz=>by rw[W'.mp hz];show g2 x hx) x G').swap
  exact ck (λh4=>Ð (hd _ (ul first h3 h4))) λh4=>ck (λh5=>Ð (hd _ (OU h3 h5))) λh5=>IB ⟨h3,I.ha,I.ha',ū (abU h5) (Ne.symm h4),z' hk zv⟩ g1 (U1 (Ŗ _ _) (z' hk (Ŗ _ _)) hm) hd hy
 ·have e:k=nb-1:=Ů hk (adO (acm mO))
  rw[e]at g1;show IB ⟨h1,I.ha,I.ha',ū hp (Ne.symm h2),zv⟩ g1 (U1 (Ŗ _ _) (Ŗ _ _) hm) hd hy
theorem Iz(M:MC a.toList b.toList)(first:N7 a b)(lB:kindOf st=zk)(I:IQ a b out na nb)(hm:m+na+nb<=a.size+b.size)(hd:∀(c:HS) aT,bU st aT->nS a b m c.1 c.2.1 c.2.2.1 c.2.2.2.1->P (.done c) aT)(hy:∀(c:HS) aT,bU st aT->c.1=Ã->nS a b m c.1 c.2.1 c.2.2.1 c.2.2.2.1->P (.yield c) aT):
  wpS mo zA zE zs (hB a b out na nb mg ac bc) P st:=by
 have zu:0<nb:=š I.hb;have um:=vv zu I.hb';have hs:bU st (SortSt.mk' (kindOf st) (Ú st) (Ö st) mg (ë st)):=⟨N,N,N,N⟩;show Í ?_;rw[eA];show ù (Í (bW um (Í (M.gX (st:=SortSt.mk' (kindOf st) (Ú st) (Ö st) mg (ë st)) (λy hy=>ű hy) (M.sX.sublist (acJ _ _)) (Sv I.ha') (AL a _) (pz um) (ϣ I.ha Ÿ) lB λk hk g1 g2=>?_))));rw[ad7,Ų hk]at g1;show cE (λj=>?_) λmO=>?_
 ·have h3:=I.mi.extHA hk λx hx=>mC M.trF zu I.hb' I.mi.srtB (p:=[x]) (λz hz=>by rw[W'.mp hz];show g2 x hx) x G'
  exact ck (λh4=>Ð (hd _ _ hs (uk h3 h4))) λh4=>IA M first lB ⟨h3,abU h4,z' hk I.ha',I.hb,I.hb'⟩ g1 (U1 hk (đ _) hm) (λc=>hd c _ hs) λc=>hy c _ hs
 ·have e:k=na:=Ů hk (adO (acm mO))
  rw[e]at g1;exact IA M first lB I g1 hm (λc=>hd c _ hs) λc=>hy c _ hs
theorem Em(M:MC a.toList b.toList)(first:N7 a b)(lB:kindOf st=zk){y:Nat}{c:JS}(I:IQ a b c.2.2.2.1 c.2.1 c.2.2.1)(hm:m+c.2.1+c.2.2.1<=a.size+b.size){P:ForInStep JS->Ò->Prop}(hd:∀c:JS,nS a b (m+1) c.1 c.2.1 c.2.2.1 c.2.2.2.1->P (.done c) st)(hy:∀c:JS,c.1=Ã->nS a b (m+1) c.1 c.2.1 c.2.2.1 c.2.2.2.1->P (.yield c) st):
  wpS mo zA zE zs (Nq a b mg y c) P st:=by
 have zu:0<c.2.2.1:=š I.hb;have px:=vv I.ha I.ha';have um:=vv zu I.hb';show Í (bW um (Í (bW px (Í (M.cmp _ (pz px) _ (pz um) _ _ lB ?_)))));cases hr:zr b[c.2.2.1-1] a[c.2.1-1] with
 |true=>have h2:=I.mi.pushHA I.ha I.ha' λx hx=>mC M.trF zu I.hb' I.mi.srtB (p:=[a[c.2.1-1]]) (λz hz=>by rw[W'.mp hz];show hr) _ G' x hx;show cI N (Í (bW px (ck (λh3=>Ð (hd _ (uk h2 h3))) λh3=>?_)));have I':IQ a b (c.2.2.2.1.push a[c.2.1-1]) (c.2.1-1) c.2.2.1:=⟨h2,abU h3,ī px,I.hb,I.hb'⟩;show cE (λk=>Ð (hd _ ⟨I',Xf I.ha hm⟩)) λk=>Ð (hy _ N ⟨I',Xf I.ha hm⟩)
 |false=>have hr:=M.tot _ (pz px) _ (pz um) hr;have h2:=(I.mi.swap.pushHA zu I.hb' λx hx=>mC M.trF I.ha I.ha' I.mi.srtA (p:=[b[c.2.2.1-1]]) (λz hz=>by rw[W'.mp hz];exact hr) _ G' x hx).swap;refine cm Ķ (Í (bW um (ck (λh3=>Ð (hd _ (ul first h2 h3))) λh3=>?_)));have I':IQ a b (c.2.2.2.1.push b[c.2.2.1-1]) c.2.1 (c.2.2.1-1):=⟨h2,I.ha,I.ha',ū (϶ I.hb) (Ne.symm h3),ī um⟩;exact cE (λk=>Ð (hd _ ⟨I',Xg zu hm⟩)) λk=>Ð (hy _ N ⟨I',Xg zu hm⟩)
theorem Eo(M:MC a.toList b.toList)(first:N7 a b)(lB:kindOf st=zk){x:Nat}{c:QS}(I:IQ a b c.2.2.2.1 c.2.1 c.2.2.1)(hm:m+c.2.1+c.2.2.1<=a.size+b.size){P:ForInStep QS->Ò->Prop}(hd:∀q na nb out mg aT,bU st aT->ft zr a.toList b.toList (ae' q)->P (.done (À q,na,nb,out,mg)) aT)
  (hy:∀na nb out mg aT,bU st aT->IQ a b out na nb->m+1+na+nb<=a.size+b.size->P (.yield (Ã,na,nb,out,mg)) aT):wpS mo zA zE zs (Nt a b x c) P st:=by
 show Í (ė (ã (I:=λy (d:JS) aT=>aT=st/\d.1=Ã/\nS a b (m+y) d.1 d.2.1 d.2.2.1 d.2.2.2.1) (Q:=λ(d:JS) aT=>aT=st/\nS a b (m+1) d.1 d.2.1 d.2.2.1 d.2.2.2.1) (λy d aT z hy q=>?_) (λd aT q=>?_) ⟨N,N,I,hm⟩) λd aT q=>?_)
 ·rw[q.1]
  have q2:=q.2.2;rw[q.2.1]at q2;refine Em M first lB q2.1 q2.2 (λc o=>⟨N,?_⟩) λc e o=>⟨N,e,o⟩
  rcases c with ⟨_|mh,c⟩
  ·show⟨o.1,z' (ϯ (ϯ (Š (Ō m y)) _) _) o.2⟩
  ·show o
 ·have q2:=q.2.2
  rw[q.2.1]at q2;show w8 q2.1.ha q2.2
 ·rw[q.1]
  have q2:=q.2;rcases d with ⟨_|mh,d⟩
  ·show Í (ĸ (ú ⟨N,(Í (ė (ã (I:=λy (f:HS) aT=>bU st aT/\f.1=Ã/\nS a b (m+1) f.1 f.2.1 f.2.2.1 f.2.2.2.1) (Q:=λ(f:HS) aT=>bU st aT/\nS a b (m+1) f.1 f.2.1 f.2.2.1 f.2.2.2.1) (λy f aT z hy q=>?_) (λf aT q=>⟨q.1,q.2.2⟩) ⟨bU.refl _,N,q2⟩) λf aT q=>?_))⟩))
   ·have q2:=q.2.2
    rw[q.2.1]at q2;have hk:=q.1.k.trans lB;exact cE (λz=>Iz M first hk q2.1 q2.2 (λc dE hs o=>⟨q.1.trans hs,o⟩) λc dE hs e o=>⟨q.1.trans hs,e,o⟩) λz=>Iz M first hk q2.1 q2.2 (λc dE hs o=>⟨q.1.trans hs,o⟩) λc dE hs e o=>⟨q.1.trans hs,e,o⟩
   ·have q2:=q.2
    rcases f with ⟨_|mh,f⟩
    ·show Í ?_
     rw[eA];show ù (Ð (hy _ _ _ _ _ (q.1.trans ⟨N,N,N,N⟩) q2.1 q2.2))
    ·show Ð (hd _ _ _ _ _ _ q.1 q2)
  ·show Ð (hd _ _ _ _ _ _ (bU.refl _) q2)
theorem yi{Q:Array Ë->Ò->Prop}(M:MC a.toList b.toList)(first:N7 a b)(Qg:0<a.size)(RU:0<b.size)(gz:∀y∈b.toList,zr y (a[a.size-1]'(vv Qg (đ _)))=Æ)(lB:kindOf st=zk)
  (h:∀mh aT,bU st aT->ft zr a.toList b.toList mh.toList->Q mh aT):wpS mo zA zE zs (qT a b) Q st:=by
 rw[w6];show Í (ĸ (ú ⟨N,Í (bW (vv Qg (đ _)) ?_)⟩));have ta:∀a:Array Ë,a.toList.take a.size=a.toList:=λa=>adD (đ _)
 have h0:Mg (IV zr) a.toList.reverse b.toList.reverse (#[]:Array Ë).toList (a.toList.take a.size).reverse (b.toList.take b.size).reverse:=by rw[ta,ta];show⟨BU M.sX,BU M.sY,List.Perm.refl _⟩
 have h1:=h0.pushHA Qg (đ _) λy hy=>gz y (ű (Ϩ.mp hy));refine ck (λOO=>Ð (h _ _ (bU.refl _) (uk h1 OO))) λOO=>ck (λzv=>Ð (h _ _ (bU.refl _) (ul first h1 zv))) λzv=>Í (Į (Í (ė (ã (I:=λx (c:QS) aT=>bU st aT/\c.1=Ã/\nS a b (1+x) c.1 c.2.1 c.2.2.1 c.2.2.2.1) (Q:=λ(c:QS) aT=>bU st aT/\∃q,c.1=À q/\ft zr a.toList b.toList q.toList) (λx c aT z hx q=>?_) (λc aT q=>?_) ⟨bU.refl _,N,⟨h1,abU OO,Ŗ _ _,ū RU (Ne.symm zv),đ _⟩,?_⟩) λc aT q=>?_)))
 ·have q2:=q.2.2
  rw[q.2.1]at q2;exact Eo M first (q.1.k.trans lB) q2.1 q2.2 (λmh na nb out mg dE hs e=>⟨q.1.trans hs,_,N,e⟩) λna nb out mg dE hs I hm=>⟨q.1.trans hs,N,I,hm⟩
 ·have q2:=q.2.2
  rw[q.2.1]at q2;show w8 q2.1.ha q2.2
 ·show 1+0+(a.size-1)+b.size<=a.size+b.size
  rw[ϝ (1+0),acX Qg];show đ _
 ·show ä q.2 λmh e=>?_
  rw[e.1];show Ð (h _ _ q.1 e.2)
end
noncomputable def AM(p:Nat)(q:Array Ë):StateT Ò Sem Bool:=
 (modify λzs=>setArr zs (List.foldl (λa (x:Ë×Nat)=>a.setIfInBounds (p+x.snd) x.fst) (Ú zs) q.toList.zipIdx))>>=λz=>get>>=λzs=>pure (ë zs).isNone
def NG(zs:Ò)(sa na sb nb:Nat):StateT Ò Sem Bool:=
 elem' (Ú zs) sb>>=λy=>fi Ê y (Ú zs) sa na 0>>=λz=>match z with
 |some k=>if (na-k==0)=Æ then pure Æ
  else elem' (Ú zs) (sa+k+(na-k)-1)>>=λx=>fi Æ x (Ú zs) sb nb (nb-1)>>=λz=>match z with
   |some n=>if (n==0)=Æ then pure Æ
    else if na-k<=n then qU ((Ú zs).extract (sa+k) sb) ((Ú zs).extract sb (sb+n))>>=AM (sa+k)
    else qT ((Ú zs).extract (sa+k) sb) ((Ú zs).extract sb (sb+n))>>=AM (sa+k)
   |_=>pure Ê
 |_=>pure Ê
theorem w5{i sa na pw sb nb pw2:Nat}{st:Ò}(hi:(Ö st)[i]?=À (sa,na,pw))(hj:(Ö st)[i+1]?=À (sb,nb,pw2)){Q:Bool->Ò->Prop}
  (h:wpS mo zA zE zs (NG st sa na sb nb) Q (ċ st (((Ö st).setIfInBounds i (sa,na+nb,pw)).eraseIdxIfInBounds (i+1)))):wpS mo zA zE zs (Ŋ i) Q st:=by
 have e:Ŋ i=(get>>=λzs=>match (Ö zs)[i]?,(Ö zs)[i+1]? with
  |some (sa,na,pw),À (sb,nb,_)=>set (ċ zs (((Ö zs).setIfInBounds i (sa,na+nb,pw)).eraseIdxIfInBounds (i+1)))>>=λz=>NG zs sa na sb nb
  |_,_=>ğ "internal:list.sort.pending"):=by kernel_rfl
 rw[e];show Í (Į ?_);rw[hi,hj];show Í ?_;unfold wpS;rw[StateT.run_set];show Ç ⟨N,h⟩
theorem Az(q:Nat)(l:List Ë){T l' P:List Ë}{n:Nat}{arr:Array Ë}(e:arr.toList=P++(l'++T))(hP:P.length=q+n)(hl:l.length=l'.length):((l.zipIdx n).foldl (λa (x:Ë×Nat)=>a.setIfInBounds (q+x.2) x.1) arr).toList=P++(l++T):=by
 induction l generalizing l' P n arr with
 |nil=>rw[ϳ.mp hl.symm]at e;show e
 |cons x l ih=>
  cases l' with
  |nil=>show nomatch hl
  |cons y l'=>
   rw[adQ,ϧ,ih (P:=P++[x]) (l':=l') ?_ ?_ (ad5.inj hl),ü];rfl
   ·rw[ad8,e,<-hP,ac3 _ _ (đ _),Ϻ,ü];rfl
   ·rw[Ā,hP];rfl
section
variable{X Y T P WF:List Ë}{k n:Nat}
theorem zZ(sX:lh zr X)(sY:lh zr Y)(h1:yo zr (X.take k) Y)(h2:yo zr X (Y.drop n))(hm:ft zr (X.drop k) (Y.take n) WF):ft zr X Y (X.take k++(WF++Y.drop n)):=by
 have eX:=ŭ k X;have eY:=ŭ n Y;have a:=cu.mp (show lh zr (X.take k++X.drop k) by rw[eX];show sX);have b:=cu.mp (show lh zr (Y.take n++Y.drop n) by rw[eY];show sY);have py:∀z∈WF,z∈X.drop k\/z∈Y.take n:=λz hz=>Ģ.mp (hm.pm.mem_iff.mp hz);show⟨cu.mpr ⟨a.1,cu.mpr ⟨hm.so,b.2.1,λx hx y hy=>?_⟩,λx hx z hz=>?_⟩,?_⟩
 ·show â (py x hx) (λh=>h2 x (ϙ h) y hy) λh=>b.2.2 x h y hy
 ·show â (Ģ.mp hz) (λhz=>â (py z hz) (λh=>a.2.2 x hx z h) λh=>h1 x hx z (ű h)) λhz=>h1 x hx z (ϙ hz)
 ·show((hm.pm.append_right _).append_left _).trans ?_
  rw[ü,eY,<-ü,eX]
theorem gZ(e:l=P++(X++T))(hP:P.length=n)(i:Nat)(hi:i<X.length):l[n+i]?=À X[i]:=by rw[e,<-hP,Ϟ (Ō _ _),ϲ,ϕ hi,N' hi]
theorem Jx(tr:∀x y z,zr x y=Æ->zr y z=Æ->zr x z=Æ)(zs:lh zr Y)(h0:0<Y.length)(h:∀x∈P,zr x Y[0]=Æ):yo zr P Y:=by
 cases Y with
 |nil=>show nomatch h0
 |cons y Y=>show Fd tr zs h
theorem Dq(h0:0<Y.length)(h:y∈Y.take (min 1 n)):y=Y[0]:=by
 cases Y with
 |nil=>show nomatch h0
 |cons z Y=>show W'.mp ((List.take_sublist_take_left (acA 1 n)).subset h)
theorem sM{l:List Ë}(h:l.length-1<l.length):l.drop (l.length-1)=[l[l.length-1]]:=by rw[aby h,acX (ų (ĥ _) h),adR]
theorem xO(tr:∀x y z,zr x y=Æ->zr y z=Æ->zr x z=Æ)(zs:lh zr X)(h:X.length-1<X.length){l:List Ë}(g:∀y∈l,zr X[X.length-1] y=Æ):yo zr X l:=λx hx y hy=>by
 have q:=cu.mp (show lh zr (X.take (X.length-1)++X.drop (X.length-1)) by rw[ŭ];show zs);have hx:x∈X.take (X.length-1)++X.drop (X.length-1):=by rw[ŭ];show hx
 rw[sM h]at q hx;show â (Ģ.mp hx) (λhx=>tr _ _ _ (q.2.2 x hx _ G') (g y hy)) λhx=>?_;rw[W'.mp hx];show g y hy
theorem A3{arr:Array Ë}{i j:Nat}(e:arr.toList=P++(X++T))(hi:i=P.length)(hj:j=P.length+X.length):(arr.extract i j).toList=X:=by rw[acI,acd,e,hi,hj,List.drop_left,ϲ,List.take_left]
end
section
variable{st:Ò}
theorem Iv{k n sa:Nat}{P X Y T:List Ë}{mh:Array Ë}{Q:Bool->Ò->Prop}(e:(Ú st).toList=P++(X++(Y++T)))(hP:P.length=sa)(hk:k<=X.length)(hE:ft zr (X.drop k) (Y.take n) mh.toList)(hf:ë st=Ã)
  (h:∀arr,arr.toList=P++((X.take k++(mh.toList++Y.drop n))++T)->Q Æ (setArr st arr)):wpS mo zA zE zs (AM (sa+k) mh) Q st:=by
 have hw:=Az (sa+k) mh.toList (T:=Y.drop n++T) (l':=X.drop k++Y.take n) (P:=P++X.take k) (n:=0) (arr:=Ú st) (by
  rw[e,ü P,ü (X.drop k),<-ü (X.take k),ŭ,<-ü (Y.take n),ŭ]) (by rw[Ā,hP,ũ,Ų hk];rfl) hE.pm.length_eq
 show Í (ù (Í (Į (Ð ?_))));show Q (ë st).isNone _;rw[hf];show h _ (hw.trans ?_);rw[ü,ü,ü]
theorem yh{i sa pw pw2:Nat}{P X Y T:List Ë}{Q:Bool->Ò->Prop}(hi:(Ö st)[i]?=À (sa,X.length,pw))(hj:(Ö st)[i+1]?=À (sa+X.length,Y.length,pw2))
  (e:(Ú st).toList=P++(X++(Y++T))) (hP:P.length=sa) (hX:0<X.length) (hY:0<Y.length) (M:MC X Y) (lB:kindOf st=zk) (hf:ë st=Ã)
  (h:∀Ø aT,ft zr X Y Ø->kindOf aT=kindOf st->(Ú aT).toList=P++(Ø++T)->Ö aT=((Ö st).setIfInBounds i (sa,X.length+Y.length,pw)).eraseIdxIfInBounds (i+1)->ë aT=Ã->Q Æ aT) :
  wpS mo zA zE zs (Ŋ i) Q st:=by
 show w5 hi hj ?_;have TE:X.length-1<X.length:=ϣ hX Ÿ;have e2:(Ú st).toList=(P++X)++(Y++T):=by rw[e,ü]
 have Vj:(P++X).length=sa+X.length:=by rw[Ā,hP]
 have eX:=gZ e hP;have eY:=gZ e2 Vj;show Í (jk (eY 0 hY) ?_);have same:yo zr X Y->Q Æ (ċ st (((Ö st).setIfInBounds i (sa,X.length+Y.length,pw)).eraseIdxIfInBounds (i+1))):=λTU=>h (X++Y) _ ⟨cu.mpr ⟨M.sX,M.sY,TU⟩,List.Perm.refl _⟩ N (by rw[ü];show e) N hf;show Í (M.gX (st:=ċ st (((Ö st).setIfInBounds i (sa,X.length+Y.length,pw)).eraseIdxIfInBounds (i+1))) (λx hx=>hx) M.sX N eX (ŵ hY) hX lB λk hk g1 g2=>?_);have Vm:yo zr (X.take k) Y:=Jx M.trans M.sY hY g1;show ck (λhz=>Ð (same ?_)) λhz=>?_
 ·rw[adD (adO hz)]at Vm;show Vm
 have EK:k<X.length:=Nat.lt_of_sub_pos (abU hz);have ei:sa+k+(X.length-k)-1=sa+(X.length-1):=by rw[Ű,ab' hk,ac7 hX]
 show Í (jk (x:=X[X.length-1]) (by rw[ei];show eX _ TE) (Í (M.gY (st:=ċ st (((Ö st).setIfInBounds i (sa,X.length+Y.length,pw)).eraseIdxIfInBounds (i+1))) (λy hy=>hy) M.sY N eY (ŵ TE) (ϣ hY Ÿ) lB λn hn g3 g4=>?_)));have Vo:yo zr X (Y.drop n):=xO M.trans M.sX TE g4;show ck (λMQ=>Ð (same ?_)) λMQ=>?_
 ·rw[MQ]at Vo;show Vo
 have ex:((Ú st).extract (sa+k) (sa+X.length)).toList=X.drop k:=A3 (P:=P++X.take k) (T:=Y++T) (by rw[e,ü,<-ü (X.take k),ŭ]) (by rw[Ā,hP,ũ,Ų hk]) (by rw[Ā,hP,ũ,Ų hk,ϴ,Ű,ab' hk]);have ey:((Ú st).extract (sa+X.length) (sa+X.length+n)).toList=Y.take n:=A3 (P:=P++X) (T:=Y.drop n++T) (by rw[e2,<-ü (Y.take n),ŭ]) Vj.symm (by rw[Vj,ũ,Ų hn]);generalize (Ú st).extract (sa+k) (sa+X.length)=xa at ex;generalize (Ú st).extract (sa+X.length) (sa+X.length+n)=ya at ey;have sx:xa.size=X.length-k:=by rw[<-ž,ex,ϴ]
 have sy:ya.size=n:=by rw[<-ž,ey,ũ,Ų hn]
 have M2:MC xa.toList ya.toList:=by rw[ex,ey];show⟨λx hx y hy=>M.cmp x (ϙ hx) y (ű hy),M.trans,M.asym,λx hx y hy=>M.tot x (ϙ hx) y (ű hy),M.sX.sublist (List.drop_sublist _ _),M.sY.sublist (acJ _ _)⟩
 have gz:Ma xa ya:=λy hy x hx=>by rw[ey]at hy;rw[ex,sx,adE,<-ac7 (϶ EK),ab' hk,sM TE]at hx;rw[W'.mp hx];show g3 y hy
 have first:N7 xa ya:=λy hy x hx=>by rw[ex]at hx;rw[ey,ad7]at hy;rw[Dq hY hy];exact g2 x hx
 have Ws:0<xa.size:=by rw[sx];show ϶ EK
 have Wt:0<ya.size:=by rw[sy];show abU MQ
 have Il:∀(mh:Array Ë) (dE:Ò),bU (ċ st (((Ö st).setIfInBounds i (sa,X.length+Y.length,pw)).eraseIdxIfInBounds (i+1))) dE->ft zr xa.toList ya.toList mh.toList->wpS mo zA zE zs (AM (sa+k) mh) Q dE:=λmh dE hs hE=>by rw[ex,ey]at hE;show Iv ((congrArg ae' hs.a).trans e) hP hk hE (hs.f.trans hf) λarr ea=>h _ _ (zZ M.sX M.sY Vm Vo hE) hs.k ea hs.p (hs.f.trans hf)
 exact cE (λz=>Í (yj M2 gz Ws Wt (λx hx=>first _ (by rw[<-afv (l:=ya.toList),AY Wt];exact G') x hx) lB Il)) λz=>Í (yi M2 first Ws Wt (λy hy=>gz y hy _ (by rw[AY (ϣ Ws Ÿ)];exact G')) lB Il)
end
section
variable{st:Ò}
theorem gh(h:zo v<zo u):rr zb zo u v=zb u v:=by unfold rr;rw[decide_eq_false (by show λq0=>zI (y2 0x1c080811b1011b01 N (iT h) (iT q0))),adF,adl]
theorem u1(h:zo v<zo u)(hf:rr zb zo u v=Ê):rr zb zo v u=Æ:=by rw[gh h]at hf;show dU.mpr (.inr ⟨hf,h⟩)
theorem SO.rasym(S:SO zA zE zs zb zk zU)(x y:Ë)(h:rr zb zo x y=Æ):rr zb zo y x=Ê:=by
 cases h2:rr zb zo y x with
 |false=>rfl
 |true=>
  show â (dU.mp h) (λh=>?_) (λq=>aQ q λh h'=>?_)
  ·show â (dU.mp h2) (λg=>?_) (λq=>aQ q λg g'=>?_)
   ·rw[S.asym _ _ h]at g;show nomatch g
   ·rw[h]at g;show nomatch g
  ·show â (dU.mp h2) (λg=>?_) (λq=>aQ q λg g'=>?_)
   ·rw[h]at g;show nomatch g
   ·show absurd g' (Nat.lt_asymm h')
theorem SO.rtrans(S:SO zA zE zs zb zk zU)(x y z:Ë)(h:rr zb zo x y=Æ)(h2:rr zb zo y z=Æ):rr zb zo x z=Æ:=by
 show â (dU.mp h) (λh=>?_) (λq=>aQ q λh h'=>?_)
 ·show â (dU.mp h2) (λg=>?_) (λq=>aQ q λg g'=>?_)
  ·show dU.mpr (.inl (S.trans _ _ _ h g))
  ·show â (S.neg x z y h) (λq=>?_) (λq=>?_)
   ·show dU.mpr (.inl q)
   ·rw[g]at q;show nomatch q
 ·show â (dU.mp h2) (λg=>?_) (λq=>aQ q λg g'=>?_)
  ·show â (S.neg y x z g) (λq=>?_) (λq=>?_)
   ·rw[h]at q;show nomatch q
   ·show dU.mpr (.inl q)
  ·show dU.mpr (.inr ⟨?_,Ϣ h' g'⟩)
   cases q:zb z x with
   |false=>rfl
   |true=>
    show â (S.neg z y x q) (λq=>?_) (λq=>?_)
    ·rw[g]at q;show nomatch q
    ·rw[h]at q;show nomatch q
theorem D8{B T:List Ë}{u v:Ë}{arr:Array Ë}{i j:Nat}(e:arr.toList=B++(u::v::T))(hj:j=B.length)(hi:i=j+1):(arr.swapIfInBounds i j).toList=B++(v::u::T):=by
 have hsz:arr.size=B.length+(T.length+1+1):=by rw[<-ž,e,Ā];rfl
 have h1:i<arr.size:=by rw[hsz,hi,hj];show aeL (acP (ż _)) _
 have h2:j<arr.size:=by rw[hsz,hj];show abQ (ż _)
 have g1:arr[i]=v:=by
  have:arr.toList[i]?=À v:=by rw[e,hi,hj,Ϟ (Ō _ 1),ϲ];rfl
  rw[ϰ,acx h1]at this;show Option.some.inj this
 have g2:arr[j]=u:=by
  have:arr.toList[j]?=À u:=by rw[e,hj,Ϟ (đ _),Ϻ];rfl
  rw[ϰ,acx h2]at this;show Option.some.inj this
 unfold Array.swapIfInBounds;rw[dif_pos h1,dif_pos h2,Array.toList_swap,g1,g2,e,hi,hj,ac3 _ _ (Ō _ 1),ϲ,ac3 _ _ (đ _),Ϻ];rfl
theorem vO:∀{B:List Ë},arr.toList=B++(R++(x::T))->(bubble arr (B.length+R.length) R.length).toList=B++(x::(R++T)):=by
 induction R with
 |nil=>show λe=>e
 |cons z R ih=>
  intro B e;have h:=ih (B:=B++[z]) (by rw[e,ü];rfl);rw[Ā,Ű,ϝ [z].length,ü]at h;rw[show (z::R).length=R.length+1 from N,bubble_succ];show D8 h ?_ ?_
  ·rw[<-Ű,Ϸ,acY,acY]
  ·rw[<-Ű,Ϸ,acY,acY]
structure c7(st aT:Ò):Prop where
 k:kindOf aT=kindOf st
 p:Ö aT=Ö st
 f:ë aT=ë st
theorem c7.refl(st:Ò):c7 st st:=⟨N,N,N⟩
structure gq(zb:Ë->Ë->Bool)(zo:Ë->Nat)(P R T Ø R':List Ë)(n:Nat)(arr:List Ë):Prop where
 arr:arr=P++(Ø++(R'++T))
 len:Ø.length=n
 so:lh (rr zb zo) Ø
 pm:(Ø++R').Perm R
 bf:∀x∈Ø,∀y∈R',zo x<zo y
 asc:R'.Pairwise λx y=>zo x<zo y
abbrev BS:Type:=Option Bool×Nat×Nat
noncomputable def Q2(lo k:Nat)(_:Nat)(c:BS):StateT Ò Sem (ForInStep BS):=
 if c.2.1 >= c.2.2 then pure (.done (Ã,c.2.1,c.2.2)) else ltAt' (lo+k) (lo+(c.2.1+c.2.2) / 2)>>=λz=>match z with
 |some less=>if less=Æ then pure (.yield (Ã,c.2.1,(c.2.1+c.2.2) / 2)) else pure (.yield (Ã,(c.2.1+c.2.2) / 2+1,c.2.2))
 |_=>pure (.done (À Ê,c.2.1,c.2.2))
abbrev US:Type:=Option Bool×Unit
def Sj(lo:Nat)(k:Nat)(_:US):StateT Ò Sem (ForInStep US):=
 forIn [0:k] ((Ã,0,k):BS) (Q2 lo k)>>=λc=>match c.1 with
 |some r=>pure (.done (À r,()))
 |none=>moveDown' (lo+k) (lo+c.2.1)>>=λz=>pure (.yield (Ã,()))
theorem yH(lo n ok:Nat):binarySort' lo n ok=(forIn [max ok 1:n] ((Ã,()):US) (Sj lo)>>=λc=>match c.1 with
 |some r=>pure r
 |none=>pure Æ):=by kernel_rfl
theorem Pt(h:¬ l >= r):(l+r) / 2<r:=Nat.div_lt_of_lt_mul (by rw[Nat.two_mul];show add (ϖ.mp h) r)
theorem Ha(h:¬ l >= r):l<=(l+r) / 2:=(Nat.le_div_iff_mul_le afm).mpr (by rw[Nat.mul_two];show Ϙ (ī (ϖ.mp h)) l)
theorem SO.ltAt(S:SO zA zE zs zb zk zU)(hx:(Ú st).toList[i]?=À x)(hy:(Ú st).toList[j]?=À y)(ux:zU x)(uy:zU y)(hk:kindOf st=zk)(h:Q (À (zb x y)) st):wpS mo zA zE zs (ltAt' i j) Q st:=by rw[ltAt'_eq];show Í (Į (Í (jk hx (Í (jk hy (S.cmp _ _ ux uy _ _ hk h))))))
theorem LV{lo k:Nat}{X:List Ë}{f:Ë->Bool}{Q:BS->Ò->Prop}(hc:∀m (hm:m<X.length) (P:Option Bool->Ò->Prop),P (À (!f X[m])) st->wpS mo zA zE zs (ltAt' (lo+k) (lo+m)) P st)(hk:X.length=k)(gA:X.Pairwise λx y=>f y=Æ->f x=Æ)
  (h:∀c:BS,c.1=Ã->c.2.1<=k->(∀x∈X.take c.2.1,f x=Æ)->(∀x∈X.drop c.2.1,f x=Ê)->Q c st):wpS mo zA zE zs (forIn [0:k] ((Ã,0,k):BS) (Q2 lo k)) Q st:=by
 subst hk;have e:∀i (hi:i<X.length),(X[i]?).elim Ê f=f X[i]:=λi hi=>by rw[N' hi];rfl
 have Nk:∀i j,i<=j->j<X.length->(X[j]?).elim Ê f=Æ->(X[i]?).elim Ê f=Æ:=λi j zy hj hb=>by show â (aeU zy) (λcG=>?_) λq=>q▸hb;have hi:=Ϣ cG hj;rw[e j hj]at hb;rw[e i hi];show acv.mp gA i j hi hj cG hb
 have gw:∀c:BS,BQ (λi=>(X[i]?).elim Ê f) X.length c->c.2.1<=c.2.2->Q c st:=λc I TB=>by
  have eq:=Ů TB I.eq;show h c I.no (eq▸I.hi) (λx hx=>?_) λx hx=>?_
  ·show ä (ab5.mp hx) λi q=>ä q λhi q=>?_
   have jX:=ĵ hi (z' (Ŏ (ũ ..)) (acA _ _));rw[<-q,aec,<-e i (ĵ jX (eq▸I.hi))];show I.lo i jX
  ·show ä (ab5.mp hx) λi q=>ä q λhi q=>?_
   have jX:c.2.1+i<X.length:=ac2 (ĵ hi (Ŏ (ϴ ..)));rw[<-q,ae9,<-e _ jX];show I.up _ (z' I.eq (Ō _ _)) jX
 show ã (I:=λx (c:BS) aT=>aT=st/\BI (λi=>(X[i]?).elim Ê f) X.length x c) (λx c aT z z q=>?_) (λc aT q=>?_) ⟨N,N,ĥ _,đ _,(λi hi=>absurd hi (ack _)),(λi h1 h2=>absurd h2 (ķ.mpr h1)),đ _⟩
 ·rw[q.1]
  have I:=q.2;show cE (λlA=>Ð (gw (Ã,c.2.1,c.2.2) ⟨N,lA,I.hi,I.lo,I.up⟩ I.le)) λlA=>?_;have hm:=Pt lA;have hn:=ĵ hm I.hi;show Í (hc _ hn _ ?_);cases hb:f (X[(c.2.1+c.2.2) / 2]'hn) with
  |true=>show cm Ķ (Ð ⟨N,N,hm,I.hi,λi hi=>Nk i _ (ϋ hi) hn ((e _ hn).trans hb),I.up,Š (z' I.t (Ϙ (Ha lA) _))⟩)
  |false=>show cI N (Ð ⟨N,N,Ha lA,ī hn,I.lo,λi h6 h7=>mB Nk ((e _ hn).trans hb) h6 h7,z' (add hm x) I.t⟩)
 ·have I:=q.2
  have t:=I.t;rw[ϵ (ĥ _),ϝ]at t;rw[q.1];show gw c ⟨I.no,acw t,I.hi,I.lo,I.up⟩ I.le
theorem KT{Ø:List Ë}{x u:Ë}{l:Nat}(h:u∈Ø.take l++x::Ø.drop l):u=x\/u∈Ø:=
 â (Ģ.mp h) (λh=>.inr (ű h)) λh=>â (ą.mp h) .inl λh=>.inr (ϙ h)
theorem gq.ins{P R T Ø R' arr:List Ë}{x:Ë}{k l:Nat}(L:gq zb zo P R T Ø (x::R') k arr)(h1:∀y∈Ø.take l,rr zb zo y x=Æ)(h2:∀y∈Ø.drop l,rr zb zo x y=Æ):
  gq zb zo P R T (Ø.take l++x::Ø.drop l) R' (k+1) (P++((Ø.take l++x::Ø.drop l)++(R'++T))):=by
 have a:=cu.mp (show lh (rr zb zo) (Ø.take l++Ø.drop l) by rw[ŭ];show L.so);have o:=Ő.mp L.asc;show⟨N,?_,cu.mpr ⟨a.1,Ő.mpr ⟨h2,a.2.1⟩,λu hu v hv=>?_⟩,?_,λu hu v hv=>?_,o.2⟩
 ·rw[<-L.len,<-ŭ l Ø,Ā,Ā,ŭ];rfl
 ·show â (ą.mp hv) (λe=>by rw[e];show h1 u hu) λhv=>a.2.2 u hu v hv
 ·show List.Perm.trans ?_ L.pm
  rw[ü,aek];show afi.trans ?_;rw[<-ü,ŭ];show afi.symm
 ·show â (KT hu) (λe=>by rw[e];show o.1 v hv) λh=>L.bf u h v (J' _ hv)
theorem LW(S:SO zA zE zs zb zk zU){lo k:Nat}{P R T Ø R':List Ë}{x:Ë}{c:US}{Q:ForInStep US->Ò->Prop}(hk:kindOf st=zk)(hP:P.length=lo)(hU:∀x∈R,zU x)(L:gq zb zo P R T Ø (x::R') k (Ú st).toList)
  (h:∀Z' aT,c7 st aT->gq zb zo P R T Z' R' (k+1) (Ú aT).toList->Q (.yield (Ã,())) aT):wpS mo zA zE zs (Sj lo k c) Q st:=by
 have hx:∀y∈Ø,zo y<zo x:=λy hy=>L.bf y hy x G';have uZ:∀y∈Ø,zU y:=λy hy=>hU y (L.pm.mem_iff.mp (Ŵ _ hy));have ux:zU x:=hU x (L.pm.mem_iff.mp (Ŭ _ G'));have ex:(Ú st).toList[lo+k]?=À x:=gZ (n:=lo+k) (P:=P++Ø) (X:=[x]) (T:=R'++T) (i:=0) (by rw[L.arr,ü];rfl) (by rw[Ā,hP,L.len]) Ÿ;show Í (LV (X:=Ø) (f:=λy=>!(zb x y)) (λm hm P EE=>S.ltAt ex (gZ L.arr hP m hm) ux (uZ _ (ŵ hm)) hk (by rw[Bool.not_not]at EE;show EE)) L.len (L.so.imp_of_mem λ{y z} hy hz hr hb=>?_) λc e hl g1 g2=>?_)
 ·have hb':rr zb zo x z=Ê:=(gh (hx z hz)).trans ((ϑ _).mp hb)
  have:=S.rasym _ _ (S.rtrans _ _ _ hr (u1 (hx z hz) hb'));rw[gh (hx y hy)]at this;rw[this];rfl
 rw[e];show Í ?_;rw[moveDown'_eq];have L':=L.ins (l:=c.2.1) (λy hy=>u1 (hx y (ű hy)) ((gh (hx y (ű hy))).trans ((ϑ _).mp (g1 y hy)))) λy hy=>(gh (hx y (ϙ hy))).trans ((ads _).mp (g2 y hy));show ù (Ð (h (Ø.take c.2.1++x::Ø.drop c.2.1) _ ⟨N,N,N⟩ ?_));have eb:=vO (arr:=Ú st) (B:=P++Ø.take c.2.1) (R:=Ø.drop c.2.1) (x:=x) (T:=R'++T) (by rw[L.arr,ü,<-ü (Ø.take c.2.1),ŭ];rfl);have XT:c.2.1<=Ø.length:=by rw[L.len];show hl
 rw[Ā,hP,ũ,Ų XT,ϴ,Ű,ab' XT,L.len,ü]at eb;show gq zb zo P R T _ R' (k+1) (bubble (Ú st) (lo+k) (lo+k-(lo+c.2.1))).toList;rw[aeF,eb];have:=L';rw[ü]at this;show this
theorem yg(S:SO zA zE zs zb zk zU){lo n:Nat}{P R T Ø R':List Ë}{Q:Bool->Ò->Prop}(hk:kindOf st=zk)(hP:P.length=lo)(hU:∀x∈R,zU x)(hZ:0<Ø.length)(hn:n=Ø.length+R'.length)(L:gq zb zo P R T Ø R' Ø.length (Ú st).toList)
  (h:∀Z' aT,c7 st aT->gq zb zo P R T Z' [] n (Ú aT).toList->Q Æ aT):wpS mo zA zE zs (binarySort' lo n Ø.length) Q st:=by
 rw[yH,Nat.max_eq_left hZ];have hR:=L.pm.length_eq;show Í (ė (ã (I:=λk (c:US) aT=>c.1=Ã/\c7 st aT/\∃Ø R',gq zb zo P R T Ø R' k (Ú aT).toList) (Q:=λ(c:US) aT=>c.1=Ã/\c7 st aT/\∃Ø,gq zb zo P R T Ø [] n (Ú aT).toList) (λk c aT z Km q=>?_) (λc aT q=>?_) ⟨N,c7.refl st,Ø,R',L⟩) λc aT q=>?_)
 ·show mJ q.2.2 λZ1 R1 L1=>?_
  have hl:=L1.pm.length_eq.trans hR.symm;rw[Ā,Ā,<-hn,L1.len]at hl;cases R1 with
  |nil=>show absurd Km (by rw[<-hl];show Ţ _)
  |cons x R1=>show LW S (q.2.1.k.trans hk) hP hU L1 λZ' dE hs L2=>⟨N,⟨hs.k.trans q.2.1.k,hs.p.trans q.2.1.p,hs.f.trans q.2.1.f⟩,Z',R1,L2⟩
 ·show mJ q.2.2 λZ1 R1 L1=>⟨q.1,q.2.1,Z1,?_⟩
  rw[ϵ (by rw[hn];show Ō _ _)]at L1;have hl:=L1.pm.length_eq.trans hR.symm;rw[Ā,Ā,<-hn,L1.len]at hl;rw[ϳ.mp (adi hl)]at L1;show L1
 ·rw[q.1]
  show ä q.2.2 λZ' L'=>Ð (h Z' aT q.2.1 L')
end
noncomputable def On(lo:Nat)(_:Nat)(c:Option (Option Nat)×Nat):StateT Ò Sem (ForInStep (Option (Option Nat)×Nat)):=do
 let z <-ltAt' (lo+c.2) (lo+c.2-1)
 match z with
 |some u7=>if u7=Æ then pure (ForInStep.done (Ã,c.2)) else pure (ForInStep.yield (Ã,c.2+1))
 |_=>pure (ForInStep.done (À Ã,c.2))
def Io(lo n ez:Nat):StateT Ò Sem (Option Nat):=
 ř lo (lo+n)>>=λz=>forIn [n:ez] ((Ã,n):Option (Option Nat)×Nat) (On lo)>>=λc=>match c.1 with
 |some r=>pure r
 |none=>pure (À c.2)
abbrev DS:Type:=Option (Option Nat)×Nat×Nat
noncomputable def Mw(lo:Nat)(_:Nat)(c:DS):StateT Ò Sem (ForInStep DS):=
 ltAt' (lo+c.2.1) (lo+c.2.1-1)>>=λz=>match z with
 |some u7=>if u7=Æ then (if c.2.2 > 0 then ř (lo+c.2.1-(c.2.2+1)) (lo+c.2.1)>>=λy=>pure (ForInStep.yield (Ã,c.2.1+1,0)) else pure (ForInStep.yield (Ã,c.2.1+1,0)))
  else ltAt' (lo+c.2.1-1) (lo+c.2.1)>>=λz=>match z with
   |some Pm=>if Pm=Æ then pure (ForInStep.done (Ã,c.2.1,c.2.2)) else pure (ForInStep.yield (Ã,c.2.1+1,c.2.2+1))
   |_=>pure (ForInStep.done (À Ã,c.2.1,c.2.2))
 |_=>pure (ForInStep.done (À Ã,c.2.1,c.2.2))
def AW(lo n ez:Nat):StateT Ò Sem (Option Nat):=
 (liftM (rule "list.sort.descending-run"):StateT Ò Sem Unit)>>=λz=>forIn [n+1:ez] ((Ã,n+1,0):DS) (Mw lo)>>=λc=>match c.1 with
 |some r=>pure r
 |none=>if c.2.2 > 0 then ř (lo+c.2.1-(c.2.2+1)) (lo+c.2.1)>>=λz=>Io lo c.2.1 ez else Io lo c.2.1 ez
theorem CF(lo ez:Nat):countRun' lo ez=(forIn [1:ez] ((Ã,1):Option (Option Nat)×Nat) (On lo)>>=λc=>match c.1 with
 |some q=>pure q
 |none=>if (c.2==ez)=Æ then pure (À c.2) else if c.2 > 1 then ltAt' lo (lo+c.2-1)>>=λz=>(match z with
   |some t=>if t=Æ then pure (À c.2) else ř lo (lo+c.2)>>=λy=>AW lo c.2 ez
   |_=>pure Ã)
  else AW lo c.2 ez):=by kernel_rfl
theorem ki{L B C:List Ë}{arr:Array Ë}{i j:Nat}(e:arr.toList=L++(B++C))(hi:L.length=i)(hj:i+B.length=j):(mirror arr i j ((j-i) / 2)).toList=L++(B.reverse++C):=by
 have hsz:j<=arr.size:=by rw[<-ž,e,Ā,Ā,hi,<-Ű,hj];show Ō _ _
 apply adG;intro k;rw[ϰ,getElem?_mirror_all hsz];by_cases h1:i<=k/\k<j
 ·show ä (ael h1.1) λt et=>?_
  have ht:t<B.length:=by rw[et,<-hj]at h1;show Nat.lt_of_add_lt_add_left h1.2
  have hp:B.length-1-t<B.length:=ų (Ŗ _ _) (ϣ (ų (ĥ _) ht) Ÿ);have hr:t<B.reverse.length:=by rw[aca];show ht
  rw[if_pos h1,et,<-hj,afK,Nat.add_left_comm 1,aeF,ϝ 1,ac7 (show t+1<=B.length from ht),ϝ t,<-afK,<-ϰ,gZ e hi _ hp,gZ (l:=L++(B.reverse++C)) N hi t hr,List.getElem_reverse]
 ·rw[if_neg h1,<-ϰ,e]
  show â (aeu k i) (λh2=>?_) λh2=>?_
  ·rw[<-hi]at h2
   rw[ϕ h2,ϕ h2]
  ·have h3:(L++B).length<=k:=by
    rw[Ā,hi,hj];show ķ.mp λq=>h1 ⟨h2,q⟩
   have h4:(L++B.reverse).length<=k:=by rw[Ā,aca,<-Ā];show h3
   rw[<-ü,<-ü,Ϟ h3,Ϟ h4,Ā,Ā,aca]
section
variable{st aT:Ò}{P R T:List Ë}{lo ez n:Nat}
theorem c7.trans(x:c7 a b)(y:c7 b c):c7 a c:=⟨y.k.trans x.k,y.p.trans x.p,y.f.trans x.f⟩
theorem c7.arr(x:c7 a b)(v:Array Ë):c7 a (setArr b v):=⟨x.k,x.p,x.f⟩
theorem SO.irr(S:SO zA zE zs zb zk zU)(x:Ë):zb x x=Ê:=by
 cases q:zb x x with
 |false=>rfl
 |true=>show(S.asym _ _ q).symm.trans q |> λe=>nomatch e
def L7(zb:Ë->Ë->Bool)(zo:Ë->Nat)(P R T:List Ë)(st:Ò)(n:Nat)(aT:Ò):Prop:=c7 st aT/\∃Ø R',gq zb zo P R T Ø R' n (Ú aT).toList
theorem gq.next{Ø R' arr:List Ë}{x:Ë}(L:gq zb zo P R T Ø (x::R') n arr)(hP:P.length=lo):arr[lo+n]?=À x:=
 gZ (n:=lo+n) (P:=P++Ø) (X:=[x]) (T:=R'++T) (i:=0) (by rw[L.arr,ü];rfl) (by rw[Ā,hP,L.len]) Ÿ
theorem gq.last{Ø R' arr:List Ë}(L:gq zb zo P R T Ø R' n arr)(hP:P.length=lo)(h1:1<=n)(hl:Ø.length-1<Ø.length):arr[lo+n-1]?=À Ø[Ø.length-1]:=by rw[ac7 h1,<-L.len];show gZ L.arr hP _ hl
theorem gq.snoc{Ø R' arr:List Ë}{x:Ë}(L:gq zb zo P R T Ø (x::R') n arr)(hz:∀z∈Ø,rr zb zo z x=Æ):gq zb zo P R T (Ø++[x]) R' (n+1) arr:=by have o:=Ő.mp L.asc;show⟨by rw[L.arr,ü Ø];rfl,by rw[Ā,L.len];rfl,cu.mpr ⟨L.so,acj _ _,λz h y hy=>by rw[W'.mp hy];show hz z h⟩,by rw[ü];show L.pm,λu hu v hv=>â (Ģ.mp hu) (λh=>L.bf u h v (J' _ hv)) λh=>by rw[W'.mp h];show o.1 v hv,o.2⟩
theorem gq.rest{Ø R' arr:List Ë}(L:gq zb zo P R T Ø R' n arr):n+R'.length=R.length:=by have h:=L.pm.length_eq;rw[Ā,L.len]at h;show h
theorem vL(S:SO zA zE zs zb zk zU)(hk:kindOf st=zk)(hP:P.length=lo)(hU:∀x∈R,zU x)(hR:R.length=ez)(h1:1<=n0)(hn:n0<=ez)(I:L7 zb zo P R T st n0 aT){Q:Option (Option Nat)×Nat->Ò->Prop}
  (hE:∀dE,L7 zb zo P R T st ez dE->Q (Ã,ez) dE) (hB:∀n dE Ø x R',1<=n->n<ez->c7 st dE->gq zb zo P R T Ø (x::R') n (Ú dE).toList->(∀hl:Ø.length-1<Ø.length,zb x Ø[Ø.length-1]=Æ)->Q (Ã,n) dE) :
  wpS mo zA zE zs (forIn [n0:ez] ((Ã,n0):Option (Option Nat)×Nat) (On lo)) Q aT:=by
 show ã (I:=λx c dE=>c=(Ã,x)/\L7 zb zo P R T st x dE) (λx c dE hx TR q=>?_) (λc dE q=>?_) ⟨N,I⟩
 ·rw[q.1]
  show mJ q.2.2 λØ R' L=>?_;have M0:=z' h1 hx;cases R' with
  |nil=>show absurd TR (by rw[<-hR,<-L.rest];show Ţ _)
  |cons y R'=>
   have hl:Ø.length-1<Ø.length:=by rw[L.len];show ϣ M0 Ÿ
   have hm:=ŵ hl;have ho:=L.bf _ hm y G';show Í (S.ltAt (L.next hP) (L.last hP M0 hl) (hU _ (L.pm.mem_iff.mp (Ŭ _ G'))) (hU _ (L.pm.mem_iff.mp (Ŵ _ hm))) (q.2.1.k.trans hk) ?_);cases hb:zb y Ø[Ø.length-1] with
   |true=>show cI N (Ð (hB x dE Ø y R' M0 TR q.2.1 L λj=>hb))
   |false=>show cm Ķ (Ð ⟨N,q.2.1,Ø++[y],R',L.snoc λz hz=>xO (l:=[y]) S.rtrans L.so hl (λu hu=>by rw[W'.mp hu];show u1 ho ((gh ho).trans hb)) z hz y G'⟩)
 ·rw[q.1,ϵ hn]
  have I:=q.2;rw[ϵ hn]at I;show hE dE I
structure gV(zb:Ë->Ë->Bool)(zo:Ë->Nat)(P R T D V R':List Ë)(n neq:Nat)(arr:List Ë):Prop where
 arr:arr=P++(D++(V++(R'++T)))
 len:D.length+V.length=n
 neq:V.length=neq+1
 so:lh (rr zb zo) (V++D.reverse)
 eqk:∀x∈V,∀y∈V,zb x y=Ê
 uv:∀x∈D,∀y∈V,zo x<zo y
 pm:(D++(V++R')).Perm R
 bf:∀x∈D++V,∀y∈R',zo x<zo y
 asc:R'.Pairwise λx y=>zo x<zo y
theorem qS{D V:List Ë}{y:Ë}(h:y∈D++V.reverse):y∈D++V:=
 â (Ģ.mp h) (Ŵ _) λh=>Ŭ _ (Ϩ.mp h)
theorem gV.down{D V R' arr:List Ë}{x:Ë}{neq:Nat}(S:SO zA zE zs zb zk zU)(L:gV zb zo P R T D V (x::R') n neq arr){vl:Ë}(hv:vl∈V)(hb:zb x vl=Æ):gV zb zo P R T (D++V.reverse) [x] R' (n+1) 0 (P++(D++(V.reverse++((x::R')++T)))):=by
 have o:=Ő.mp L.asc;have hV:∀v∈V,rr zb zo x v=Æ:=λv rP=>dU.mpr (.inl (â (S.neg x v vl hb) (λq=>q) λq=>by rw[L.eqk v rP vl hv]at q;show nomatch q))
 have hx:∀y∈V++D.reverse,rr zb zo x y=Æ:=λy hy=>
  â (Ģ.mp hy) (hV y) λh=>S.rtrans _ _ _ (hV vl hv) ((cu.mp L.so).2.2 vl hv y h)
 show⟨by rw[ü];rfl,by rw[Ā,aca,L.len];rfl,N,by rw[ab1,ab7];show Ő.mpr ⟨hx,L.so⟩,λy hy z hz=>?_,λy hy z hz=>?_,?_,λy hy z hz=>?_,o.2⟩
 ·rw[W'.mp hy,W'.mp hz];show S.irr x
 ·rw[W'.mp hz];show L.bf y (qS hy) x G'
 ·show List.Perm.trans ?_ L.pm
  rw[ü];show((aci V).append_right _).append_left _
 ·show â (Ģ.mp hy) (λh=>L.bf y (qS h) z (J' _ hz)) λh=>by rw[W'.mp h];show o.1 z hz
theorem SO.eqv(S:SO zA zE zs zb zk zU)(h1:zb x y=Ê)(h2:zb y z=Ê):zb x z=Ê:=by
 cases q:zb x z with
 |false=>rfl
 |true=>show â (S.neg x y z q) (λq=>nomatch h1.symm.trans q) λq=>nomatch h2.symm.trans q
theorem gV.same{D V R' arr:List Ë}{x:Ë}{neq:Nat}(S:SO zA zE zs zb zk zU)(L:gV zb zo P R T D V (x::R') n neq arr){vl:Ë}(hv:vl∈V)(h1:zb x vl=Ê)(h2:zb vl x=Ê):gV zb zo P R T D (V++[x]) R' (n+1) (neq+1) arr:=by
 have o:=Ő.mp L.asc;have xv:∀v∈V,zb x v=Ê:=λv rP=>S.eqv h1 (L.eqk vl hv v rP);have vx:∀v∈V,zb v x=Ê:=λv rP=>S.eqv (L.eqk v rP vl hv) h2;have ovx:∀v∈V,zo v<zo x:=λv rP=>L.bf v (Ŭ _ rP) x G';have q:=cu.mp L.so;show⟨by rw[L.arr,ü V];rfl,by rw[Ā,<-Ű,L.len];rfl,by rw[Ā,L.neq];rfl,?_,λy hy z hz=>?_,λy hy z hz=>?_,by rw[ü];show L.pm,λy hy z hz=>?_,o.2⟩
 ·rw[ü]
  show cu.mpr ⟨q.1,Ő.mpr ⟨λu hu=>?_,q.2.1⟩,λv rP y hy=>?_⟩
  ·have g:=q.2.2 vl hv u hu
   rw[gh (L.uv u (Ϩ.mp hu) vl hv)]at g;show dU.mpr (.inl (â (S.neg vl x u g) (λq=>nomatch h2.symm.trans q) λq=>q))
  ·show â (ą.mp hy) (λe=>by rw[e];show dU.mpr (.inr ⟨xv v rP,ovx v rP⟩)) λhy=>q.2.2 v rP y hy
 ·show â (Ģ.mp hy) (λhy=>â (Ģ.mp hz) (λhz=>L.eqk y hy z hz) λhz=>?_) λhy=>â (Ģ.mp hz) (λhz=>?_) λhz=>?_
  ·rw[W'.mp hz];show vx y hy
  ·rw[W'.mp hy];show xv z hz
  ·rw[W'.mp hy,W'.mp hz];show S.irr x
 ·show â (Ģ.mp hz) (λhz=>L.uv y hy z hz) λhz=>by rw[W'.mp hz];show L.bf y (Ŵ _ hy) x G'
 ·rw[<-ü]at hy
  show â (Ģ.mp hy) (λh=>L.bf y h z (J' _ hz)) λh=>by rw[W'.mp h];show o.1 z hz
theorem gV.rest{D V R' arr:List Ë}{neq:Nat}(L:gV zb zo P R T D V R' n neq arr):n+R'.length=R.length:=by have h:=L.pm.length_eq;rw[Ā,Ā,<-Ű,L.len]at h;show h
theorem uY{V:List Ë}{neq:Nat}(h:V.length=neq+1)(h0:¬ neq > 0):V.reverse=V:=by rw[acm h0]at h;show ä (aev.mp h) λv e=>by rw[e];rfl
theorem gV.turn{D V R':List Ë}{arr:Array Ë}{neq:Nat}(L:gV zb zo P R T D V R' n neq arr.toList)(hP:P.length=lo):(mirror arr (lo+n-(neq+1)) (lo+n) ((lo+n-(lo+n-(neq+1))) / 2)).toList=P++(D++(V.reverse++(R'++T))):=by
 have hn:lo+n-(neq+1)=lo+D.length:=by rw[<-L.len,<-L.neq,<-Ű,acY]
 rw[<-ü];show ki (by rw[L.arr,ü]) (by rw[Ā,hP,hn]) ?_;rw[hn,Ű,L.len]
variable{Q:Option Nat->Ò->Prop}
theorem tC(S:SO zA zE zs zb zk zU)(hk:kindOf st=zk)(hP:P.length=lo)(hU:∀x∈R,zU x)(hR:R.length=ez)(h1:1<=n)(hs:c7 st aT){D V R':List Ë}{neq:Nat}{arr:List Ë}(L:gV zb zo P R T D V R' n neq arr)(e:(Ú aT).toList=P++(D++(V.reverse++(R'++T))))
  (h:∀n dE,1<=n->n<=ez->L7 zb zo P R T st n dE->Q (À n) dE):wpS mo zA zE zs (Io lo n ez) Q aT:=by
 have hl:(D++V.reverse).length=n:=by rw[Ā,aca];show L.len
 show Í ?_;rw[ĺ];have e2:(Ú aT).toList=P++((D++V.reverse)++(R'++T)):=by rw[e,ü]
 have I:L7 zb zo P R T st n (setArr aT (mirror (Ú aT) lo (lo+n) ((lo+n-lo) / 2))):=by show⟨hs.arr _,(D++V.reverse).reverse,R',ki e2 hP (by rw[hl]),by rw[aca];show hl,by rw[ab1,ab7];show L.so,((aci _).append_right _).trans (List.Perm.trans ?_ L.pm),λx hx=>L.bf x (qS (Ϩ.mp hx)),L.asc⟩;rw[ü];show((aci V).append_right _).append_left _
 have hn:n<=ez:=by rw[<-hR,<-L.rest];show Ō _ _
 show ù (Í (vL S hk hP hU hR h1 hn I (λdE I2=>Ð (h ez dE (z' h1 hn) (đ _) I2)) λm dE Ø x R2 g1 g2 I7 L2 z=>Ð (h m dE g1 (ī g2) ⟨I7,Ø,_,L2⟩)))
def N5(zb:Ë->Ë->Bool)(zo:Ë->Nat)(P R T:List Ë)(st:Ò)(c:DS)(aT:Ò):Prop:=c.1=Ã/\c7 st aT/\∃D V R',gV zb zo P R T D V R' c.2.1 c.2.2 (Ú aT).toList
theorem Ej(S:SO zA zE zs zb zk zU)(hk:kindOf st=zk)(hP:P.length=lo)(hU:∀x∈R,zU x)(hs:c7 st aT){x:Nat}{c:DS}{D V R':List Ë}{z:Ë}(L:gV zb zo P R T D V (z::R') c.2.1 c.2.2 (Ú aT).toList){Q:ForInStep DS->Ò->Prop}
  (hd:∀dE,c7 st dE->gV zb zo P R T D V (z::R') c.2.1 c.2.2 (Ú dE).toList->Q (.done (Ã,c.2.1,c.2.2)) dE) (hy:∀m dE,N5 zb zo P R T st (Ã,c.2.1+1,m) dE->Q (.yield (Ã,c.2.1+1,m)) dE):wpS mo zA zE zs (Mw lo x c) Q aT:=by
 have hl:V.length-1<V.length:=by rw[L.neq];show ϊ _
 have hm:=ŵ hl;have cb:D.length+V.length=c.2.1:=L.len;have e1:(Ú aT).toList[lo+c.2.1]?=À z:=gZ (n:=lo+c.2.1) (P:=P++(D++V)) (X:=[z]) (T:=R'++T) (i:=0) (by rw[L.arr,ü,ü];rfl) (by rw[Ā,Ā,hP,cb]) Ÿ
 have e2:(Ú aT).toList[lo+c.2.1-1]?=À V[V.length-1]:=by rw[<-cb,<-Ű,ac7 (by rw[L.neq];show ż _)];show gZ (P:=P++D) (T:=(z::R')++T) (by rw[L.arr,ü]) (by rw[Ā,hP]) _ hl
 have uz:zU z:=hU _ (L.pm.mem_iff.mp (Ŭ _ (Ŭ _ G')));have uv:zU V[V.length-1]:=hU _ (L.pm.mem_iff.mp (Ŭ _ (Ŵ _ hm)));show Í (S.ltAt e1 e2 uz uv (hs.k.trans hk) ?_);cases hb:zb z V[V.length-1] with
 |true=>
  have L2:=L.down S hm hb;show cI N (cE (λh0=>Í ?_) λh0=>Ð (hy 0 _ ⟨N,hs,D++V.reverse,[z],R',?_⟩))
  ·rw[ĺ]
   show ù (Ð (hy 0 _ ⟨N,hs.arr _,D++V.reverse,[z],R',?_⟩));have:=L2;rw[<-L.turn hP]at this;show this
  ·have:=L2
   have e3:P++(D++(V.reverse++((z::R')++T)))=(Ú aT).toList:=by rw[uY L.neq h0,L.arr]
   rw[e3]at this;show this
 |false=>
  show cm Ķ (Í (S.ltAt e2 e1 uv uz (hs.k.trans hk) ?_));cases hc:zb V[V.length-1] z with
  |true=>show cI N (Ð (hd _ hs L))
  |false=>show cm Ķ (Ð (hy _ _ ⟨N,hs,D,V++[z],R',L.same S hm hb hc⟩))
theorem Ek(S:SO zA zE zs zb zk zU)(hk:kindOf st=zk)(hP:P.length=lo)(hU:∀x∈R,zU x)(hR:R.length=ez)(hn:n+1<=ez)(hs:c7 st aT){D V R':List Ë}(L:gV zb zo P R T D V R' (n+1) 0 (Ú aT).toList)
  (h:∀n dE,1<=n->n<=ez->L7 zb zo P R T st n dE->Q (À n) dE):wpS mo zA zE zs (AW lo n ez) Q aT:=by
 show Í (ĸ (ú ⟨N,(Í (ė (ã (I:=λx (c:DS) dE=>c.2.1=x/\N5 zb zo P R T st c dE) (Q:=λ(c:DS) dE=>1<=c.2.1/\N5 zb zo P R T st c dE) (λx c dE hx TR q=>?_) (λc dE q=>⟨?_,q.2⟩) ⟨N,N,hs,D,V,R',L⟩) λc dE q=>?_))⟩))
 ·show yT q.2.2.2 λD V R' L=>?_
  cases R' with
  |nil=>show absurd TR (by rw[<-hR,<-L.rest,q.1];show Ţ _)
  |cons z R'=>show Ej S hk hP hU q.2.2.1 L (λvw C7 L3=>⟨by rw[q.1];show z' (ż n) hx,N,C7,D,V,z::R',L3⟩) λm vw I3=>⟨by rw[q.1],I3⟩
 ·rw[q.1,ϵ hn];show z' (ż n) hn
 ·rw[q.2.1]
  show yT q.2.2.2 λD V R' L=>cE (λh0=>Í ?_) λh0=>?_
  ·rw[ĺ]
   show ù (tC S hk hP hU hR q.1 (q.2.2.1.arr _) L (L.turn hP) h)
  ·show tC S hk hP hU hR q.1 q.2.2.1 L (by rw[uY L.neq h0];show L.arr) h
theorem Ei(S:SO zA zE zs zb zk zU)(hk:kindOf st=zk)(hP:P.length=lo)(hU:∀x∈R,zU x)(hn:1<=ez)(e:(Ú st).toList=P++(R++T))(hR:R.length=ez)(asc:R.Pairwise λx y=>zo x<zo y)
  (h:∀n dE,1<=n->n<=ez->L7 zb zo P R T st n dE->Q (À n) dE):wpS mo zA zE zs (countRun' lo ez) Q st:=by
 rw[CF]
 have I:L7 zb zo P R T st 1 st:=by
  cases R with
  |nil=>rw[<-hR]at hn;show nomatch hn
  |cons x R=>show⟨c7.refl _,[x],R,e,N,acj _ _,.refl _,λu hu v hv=>by rw[W'.mp hu];show(Ő.mp asc).1 v hv,(Ő.mp asc).2⟩
 show Í (vL S hk hP hU hR (đ 1) hn I (λdE I2=>cI (beq_self_eq_true ez) (Ð (h ez dE hn (đ _) I2))) λn dE Ø x R' g1 g2 hs L Zq=>cm (λq=>ń g2 (beq_iff_eq.mp q)) ?_);have hl:Ø.length-1<Ø.length:=by rw[L.len];show ϣ g1 Ÿ
 have h0:0<Ø.length:=ų (ĥ _) hl;have hx:=Zq hl;have uZ:∀z∈Ø,zU z:=λz hz=>hU _ (L.pm.mem_iff.mp (Ŵ _ hz));have o:=Ő.mp L.asc
 have Ra:∀vw,c7 st vw->(Ú vw).toList=P++(Ø.reverse++((x::R')++T))->(∀z∈Ø,zb z Ø[Ø.length-1]=Ê)->wpS mo zA zE zs (AW lo n ez) Q vw:=λvw C7 e4 hq=>by
  have hxz:∀z∈Ø,rr zb zo x z=Æ:=λz hz=>dU.mpr (.inl (â (S.neg x z _ hx) (λq=>q) λq=>nomatch (hq z hz).symm.trans q));show Ek S hk hP hU hR g2 C7 (D:=Ø.reverse) (V:=[x]) (R':=R') ⟨e4,by rw[aca,L.len];rfl,N,by rw[ab7];show Ő.mpr ⟨hxz,L.so⟩,λy hy z hz=>?_,λy hy z hz=>?_,((aci Ø).append_right _).trans L.pm,λy hy z hz=>?_,o.2⟩ h
  ·rw[W'.mp hy,W'.mp hz];show S.irr x
  ·rw[W'.mp hz];show L.bf y (Ϩ.mp hy) x G'
  ·show â (Ģ.mp hy) (λhy=>L.bf y (Ϩ.mp hy) z (J' _ hz)) λhy=>by rw[W'.mp hy];show o.1 z hz
 show cE (λXo=>?_) λXo=>?_
 ·show Í (S.ltAt (x:=Ø[0]) (by rw[<-afG lo];show gZ L.arr hP 0 h0) (L.last hP g1 hl) (uZ _ (ŵ h0)) (uZ _ (ŵ hl)) (hs.k.trans hk) ?_)
  cases hr:zb Ø[0] Ø[Ø.length-1] with
  |true=>show cI N (Ð (h n dE g1 (ī g2) ⟨hs,Ø,_,L⟩))
  |false=>
   show cm Ķ (Í ?_);rw[ĺ];show ù (Ra _ (hs.arr _) (ki L.arr hP (by rw[L.len])) λz hz=>S.eqv (y:=Ø[0]) (ä (ab5.mp hz) λi q=>ä q λhi q=>â (aeT i) (λe=>?_) λhp=>?_) hr)
   ·rw[<-q]
    have:Ø[i]=Ø[0]:=by congr 1
    rw[this];show S.irr _
   ·have g:=S.rasym _ _ (acv.mp L.so 0 i h0 hi hp)
    rw[q]at g;cases q2:zb z Ø[0] with
    |false=>rfl
    |true=>rw[dU.mpr (.inl q2)]at g;show nomatch g
 ·have e1:n=1:=Ů (ķ.mp Xo) g1
  have hZ:Ø.length=0+1:=L.len.trans e1;show Ra dE hs (by rw[uY hZ (Ţ _)];show L.arr) λz hz=>ä (aev.mp hZ) λv ev=>?_;have h1:z=v:=by rw[ev]at hz;show W'.mp hz
  have h2:Ø[Ø.length-1]=v:=W'.mp (ev▸ŵ hl);rw[h1,h2];show S.irr v
end
noncomputable abbrev Ez:=List Ë×Nat
noncomputable def eU:Nat->List Ez->List (Nat×Nat×Nat)
 |_,[]=>[]
 |n,b::t=>(n,b.1.length,b.2)::eU (n+b.1.length) t
noncomputable def br:List Ez->List Ë
 |[]=>[]
 |b::t=>b.1++br t
theorem i8:∀(L M:List Ez),br (L++M)=br L++br M
 |[],_=>rfl
 |b::L,M=>by show b.1++br (L++M)=(b.1++br L)++br M;rw[i8 L M,ü]
theorem jf:∀(n:Nat) (L M:List Ez),eU n (L++M)=eU n L++eU (n+(br L).length) M
 |_,[],_=>rfl
 |n,b::L,M=>by show _::eU (n+b.1.length) (L++M)=_::(eU (n+b.1.length) L++eU (n+(b.1++br L).length) M);rw[jf,Ā,Ű]
theorem m8:∀(n:Nat) (L:List Ez),(eU n L).length=L.length
 |_,[]=>rfl
 |n,b::L=>congrArg (·+1) (m8 _ L)
theorem wx:∀{L:List Ez},b∈L->x∈b.1->x∈br L
 |c::L,h,hx=>â (ą.mp h) (λe=>Ŵ _ (e▸hx)) λh=>Ŭ _ (wx h hx)
theorem ww:∀{L:List Ez},(∀b∈L,0<b.1.length)->L.length<=(br L).length
 |[],_=>đ _
 |b::L,h=>by show L.length+1<=(b.1++br L).length;rw[Ā,ϝ];show Ϭ (h b G') (ww λc hc=>h c (J' _ hc))
theorem SP:∀{n:Nat},1<n->n-2+1<n
 |n+2,_=>ϊ (n+1)
 |0,h=>nomatch h
 |1,h=>absurd h (Ţ 1)
theorem o3(x:α)(f:α->α):∀l:List α,(l++[x]).modify l.length f=l++[f x]
 |[]=>rfl
 |a::l=>congrArg (a::·) (o3 x f l)
section
variable{st:Ò}{a₀ R Ø:List Ë}{L Bs T:List Ez}
def Uc(zo:Ë->Nat)(b c:Ez):Prop:=∀x∈b.1,∀y∈c.1,zo x<zo y
structure Yt(zb:Ë->Ë->Bool)(zo:Ë->Nat)(b:Ez):Prop where
 pos:0<b.1.length
 so:lh (rr zb zo) b.1
structure my(zb:Ë->Ë->Bool)(zo:Ë->Nat)(zk:ŷ)(a₀:List Ë)(Bs:List Ez)(R:List Ë)(st:Ò):Prop where
 kind:kindOf st=zk
 failed:ë st=Ã
 pend:(Ö st).toList=eU 0 Bs
 arr:(Ú st).toList=br Bs++R
 ok:∀b∈Bs,Yt zb zo b
 bf:(Bs++[(R,0)]).Pairwise (Uc zo)
 pm:(br Bs++R).Perm a₀
theorem my.size(I:my zb zo zk a₀ Bs R st):(Ö st).size=Bs.length:=by rw[<-ž,I.pend,m8]
theorem my.len(I:my zb zo zk a₀ Bs R st):(br Bs).length+R.length=a₀.length:=by rw[<-Ā];show I.pm.length_eq
theorem my.none(I:my zb zo zk a₀ Bs R st)(h:a₀.length<=(br Bs).length):R=[]:=by rw[<-I.len]at h;show ϳ.mp (afL.mp (acw (z' h (Ŏ (afG _).symm))))
theorem DD(L:List α)(x y z:α)(T:List α):((L++x::y::T).set L.length z).eraseIdx (L.length+1)=L++z::T:=by rw[ac3 _ _ (đ _),Ϻ,List.eraseIdx_append_of_length_le (Ō _ 1),ϲ];rfl
theorem Oo(L:List α)(x:α)(T:List α):(L++x::T)[L.length]?=À x:=by rw[Ϟ (đ _),Ϻ];rfl
theorem Jv(L:List α)(x y:α)(T:List α):(L++x::y::T)[L.length+1]?=À y:=by rw[Ϟ (Ō _ 1),ϲ];rfl
theorem Fe(h:(L++(X,p)::(Y,q)::T).Pairwise (Uc zo))(hZ:∀x∈Ø,x∈X\/x∈Y):(L++(Ø,p)::T).Pairwise (Uc zo):=by
 have a:=Ϛ.mp h;have b:=Ő.mp a.2.1;have c:=Ő.mp b.2;show Ϛ.mpr ⟨a.1,Ő.mpr ⟨λd hd x hx y hy=>?_,c.2⟩,λe he d hd x hx y hy=>?_⟩
 ·show â (hZ x hx) (λhx=>b.1 d (J' _ hd) x hx y hy) λhx=>c.1 d hd x hx y hy
 ·show â (ą.mp hd) (λq=>?_) λhd=>a.2.2 e he d (J' _ (J' _ hd)) x hx y hy
  rw[q]at hy;show â (hZ y hy) (λhy=>a.2.2 e he _ G' x hx y hy) λhy=>a.2.2 e he _ (J' _ G') x hx y hy
theorem wZ(h:b∈L++c::T):b=c\/b∈L++d::T:=
 â (Ģ.mp h) (λh=>.inr (Ŵ _ h)) λh=>â (ą.mp h) .inl λh=>.inr (Ŭ _ (J' _ h))
theorem my.repower(I:my zb zo zk a₀ (L++[(X,p)]) R st)(pw:Nat):my zb zo zk a₀ (L++[(X,pw)]) R (ċ st ((Ö st).modify ((Ö st).size-1) λx=>(x.1,x.2.1,pw))):=by
 have eF:br (L++[(X,pw)])=br (L++[(X,p)]):=by rw[i8,i8];rfl
 show⟨I.kind,I.failed,?_,eF▸I.arr,λb hb=>?_,?_,eF▸I.pm⟩
 ·show ((Ö st).modify _ _).toList=_
  rw[Array.toList_modify,I.size,I.pend,jf,jf,Ā];show List.modify (eU 0 L++[_]) L.length _=_;rw[<-m8 0 L];show o3 ..
 ·show â (wZ (d:=(X,p)) hb) (λe=>?_) λh=>I.ok b h
  have o:=I.ok (X,p) (Ŭ _ G');rw[e];show⟨o.pos,o.so⟩
 ·have h:=I.bf
  rw[ü]at h ⊢;have a:=Ϛ.mp h;have b:=Ő.mp a.2.1;show Ϛ.mpr ⟨a.1,Ő.mpr ⟨b.1,b.2⟩,λe he d hd=>â (ą.mp hd) (λq=>by rw[q];show a.2.2 e he (X,p) G') λhd=>a.2.2 e he d (J' _ hd)⟩
theorem my.push(I:my zb zo zk a₀ Bs (Ø++R) st)(hn:Ø.length=n)(hZ:0<n)(hs:lh (rr zb zo) Ø)(zR:∀x∈Ø,∀y∈R,zo x<zo y):
  my zb zo zk a₀ (Bs++[(Ø,0)]) R (ċ st ((Ö st).push ((br Bs).length,n,0))):=by
 have eF:br (Bs++[(Ø,0)])++R=br Bs++(Ø++R):=by rw[i8];show (br Bs++(Ø++[]))++R=_;rw[Ĭ,ü]
 show⟨I.kind,I.failed,?_,eF▸I.arr,λb hb=>?_,?_,eF▸I.pm⟩
 ·show ((Ö st).push _).toList=_
  rw[ac6,I.pend,jf,Ż,<-hn];rfl
 ·show â (Ģ.mp hb) (I.ok b) λh=>by rw[W'.mp h];show⟨hn▸hZ,hs⟩
 ·have a:=Ϛ.mp I.bf
  rw[ü];show Ϛ.mpr ⟨a.1,Ő.mpr ⟨λc hc=>by rw[W'.mp hc];show zR,acj _ _⟩,λb hb c hc x hx y hy=>a.2.2 b hb _ G' x hx y (â (ą.mp hc) (λe=>?_) λh=>?_)⟩
  ·rw[e]at hy;show Ŵ _ hy
  ·rw[W'.mp h]at hy;show Ŭ _ hy
end
section
variable{st:Ò}{a₀ R:List Ë}{L Bs T:List Ez}
theorem vp(S:SO zA zE zs zb zk zU)(hU:∀x∈a₀,zU x)(I:my zb zo zk a₀ (L++(X,p)::(Y,q)::T) R st)(hi:L.length=i)
  (h:∀Ø aT,my zb zo zk a₀ (L++(Ø,p)::T) R aT->Q Æ aT):wpS mo zA zE zs (Ŋ i) Q st:=by
 have hX:(X,p)∈L++(X,p)::(Y,q)::T:=Ŭ _ G';have hY:(Y,q)∈L++(X,p)::(Y,q)::T:=Ŭ _ (J' _ G');have eF:br (L++(X,p)::(Y,q)::T)=br L++(X++(Y++br T)):=by rw[i8];rfl
 have eP:(Ö st).toList=eU 0 L++((br L).length,X.length,p)::((br L).length+X.length,Y.length,q)::eU ((br L).length+X.length+Y.length) T:=by rw[I.pend,jf,Ż];rfl
 have hl:i=(eU 0 L).length:=hi.symm.trans (m8 0 L).symm;have bf:=I.bf;rw[ü]at bf;have TU:∀x∈X,∀y∈Y,zo x<zo y:=(Ő.mp (Ϛ.mp bf).2.1).1 (Y,q) G';have uF:∀b∈L++(X,p)::(Y,q)::T,∀x∈b.1,zU x:=λb hb x hx=>hU x (I.pm.mem_iff.mp (Ŵ _ (wx hb hx)));have M:MC X Y:=⟨λx hx y hy st1 Q hk hq=>S.cmp y x (uF _ hY y hy) (uF _ hX x hx) st1 Q hk (by rw[<-gh (TU x hx y hy)];show hq),S.rtrans,S.rasym,λx hx y hy hr=>u1 (TU x hx y hy) hr,(I.ok _ hX).so,(I.ok _ hY).so⟩;show yh (P:=br L) (X:=X) (Y:=Y) (T:=br T++R) (sa:=(br L).length) (pw:=p) (pw2:=q) ?_ ?_ ?_ N (I.ok _ hX).pos (I.ok _ hY).pos M I.kind I.failed λØ aT hE hk ha hp hf=>?_
 ·rw[<-ϰ,eP,hl];show Oo _ _ _
 ·rw[<-ϰ,eP,hl];show Jv _ _ _ _
 ·rw[I.arr,eF,ü,ü,ü]
 ·have hZ:∀x∈Ø,x∈X\/x∈Y:=λx hx=>Ģ.mp (hE.pm.mem_iff.mp hx)
  have Xy:Ø.length=X.length+Y.length:=by rw[hE.pm.length_eq,Ā]
  have Xk:br (L++(Ø,p)::T)=br L++(Ø++br T):=by rw[i8];rfl
  have pF:(br (L++(Ø,p)::T)).Perm (br (L++(X,p)::(Y,q)::T)):=by rw[eF,Xk,<-ü X];show(hE.pm.append_right _).append_left _
  show h Ø aT ⟨hk.trans I.kind,hf,?_,?_,λb hb=>?_,?_,(pF.append_right R).trans I.pm⟩
  ·rw[hp,Array.toList_eraseIdxIfInBounds,ad8,eP,hl,DD,jf,Ż]
   show _=eU 0 L++(_,Ø.length,p)::eU ((br L).length+Ø.length) T;rw[Xy,Ű]
  ·rw[ha,Xk,ü,ü]
  ·show â (wZ (d:=(X,p)) hb) (λe=>?_) λh=>?_
   ·rw[e]
    show⟨by rw[Xy];show ĵ (I.ok _ hX).pos (Ō _ _),hE.so⟩
   ·show I.ok b (â (Ģ.mp h) (Ŵ _) λh=>Ŭ _ (â (ą.mp h) (λe=>e▸G') λh=>J' _ (J' _ h)))
  ·rw[ü]
   show Fe bf hZ
theorem SI(h:i+1<l.length):∃L x y T,l=L++x::y::T/\L.length=i:=
 ⟨l.take i,l[i]'(š h),l[i+1],l.drop (i+2),by rw[<-aby,<-aby,ŭ],by rw[ũ,Ų (ī (š h))]⟩
theorem nK(S:SO zA zE zs zb zk zU)(hU:∀x∈a₀,zU x)(I:my zb zo zk a₀ Bs R st)(hi:i+1<Bs.length)
  (h:∀pC aT,my zb zo zk a₀ pC R aT->pC.length+1=Bs.length->Q Æ aT):wpS mo zA zE zs (Ŋ i) Q st:=by
 show Xi (SI hi) λL x y T e hL=>?_;rw[e]at I;show vp (X:=x.1) (p:=x.2) (Y:=y.1) (q:=y.2) S hU I hL λØ aT I'=>h _ aT I' ?_;rw[e,Ā,Ā];rfl
abbrev VS:Type:=Option Unit×Unit
abbrev WS:Type:=Option Unit×Nat
noncomputable def My(pw:Nat)(_:Nat)(_:VS):StateT Ò Sem (ForInStep VS):=
 get>>=λst=>match (if (Ö st).size > 1 then (Ö st)[(Ö st).size-2]? else Ã) with
 |some (_,_,older)=>if older<=pw then pure (.done (Ã,())) else Ŋ ((Ö st).size-2)>>=λb=>if (!b)=Æ then pure (.done (À (),())) else pure (.yield (Ã,()))
 |_=>pure (.done (Ã,()))
noncomputable def HD(lo n:Nat):StateT Ò Sem (ForInStep WS):=(modify λzs=>ċ zs ((Ö zs).push (lo,n,0)))>>=λz=>pure (.yield (Ã,lo+n))
def B5(l7 lo n:Nat):StateT Ò Sem (ForInStep WS):=
 get>>=λst=>match (Ö st).back? with
 |some (s1,n1,_)=>forIn [0:l7] ((Ã,()):VS) (My (power' l7 (2*s1+n1) (2*s1+n1+n1+n) l7))>>=λr=>match r.1 with
  |some a=>pure (.done (À a,lo))
  |none=>(modify λzs=>ċ zs ((Ö zs).modify ((Ö zs).size-1) λx=>(x.1,x.2.1,power' l7 (2*s1+n1) (2*s1+n1+n1+n) l7)))>>=λz=>HD lo n
 |_=>HD lo n
def SK(l7 mr:Nat)(_:Nat)(c:WS):StateT Ò Sem (ForInStep WS):=
 if c.2 >= l7 then pure (.done (Ã,c.2)) else countRun' c.2 (l7-c.2)>>=λz=>match z with
 |some n=>if n<mr then (liftM (rule "list.sort.binary-insertion"):StateT Ò Sem Unit)>>=λy=>binarySort' c.2 (min (l7-c.2) mr) n>>=λb=>if (!b)=Æ then pure (.done (À (),c.2)) else B5 l7 c.2 (min (l7-c.2) mr)
  else B5 l7 c.2 n
 |_=>pure (.done (À (),c.2))
noncomputable def Nw(p:Array (Nat×Nat×Nat)):Nat:=if (if p.size-2 > 0 then p[p.size-2-1]?.map (·.2.1) else Ã).any (· < (p[p.size-2+1]?.elim 0 (·.2.1))) then p.size-2-1 else p.size-2
def Vg(_:Nat)(_:VS):StateT Ò Sem (ForInStep VS):=
 get>>=λst=>if (Ö st).size<=1 then pure (.done (Ã,())) else Ŋ (Nw (Ö st))>>=λb=>if (!b)=Æ then pure (.done (À (),())) else pure (.yield (Ã,()))
theorem Lk:sortRuns'=(get>>=λzs=>forIn [0:(Ú zs).size] ((Ã,0):WS) (SK (Ú zs).size (minRun' (Ú zs).size (Ú zs).size 0))>>=λc=>match c.1 with
 |some r=>pure r
 |none=>forIn [0:(Ú zs).size] ((Ã,()):VS) Vg>>=λd=>match d.1 with
  |some r=>pure r
  |none=>pure ()):=by kernel_rfl
theorem El(S:SO zA zE zs zb zk zU)(hU:∀x∈a₀,zU x)(I:my zb zo zk a₀ Bs R st)(h0:Bs≠[])(hd:Q (.done (Ã,())) st)(hy:∀pC aT,my zb zo zk a₀ pC R aT->pC≠[]->Q (.yield (Ã,())) aT):
  wpS mo zA zE zs (My pw x c) Q st:=by
 show Í (Į ?_);by_cases h2:(Ö st).size > 1
 ·rw[if_pos h2]
  split
  ·show cE (λz=>Ð hd) λz=>?_
   rw[I.size]at h2 ⊢;show Í (nK S hU I (SP h2) λpC aT I' hl=>cm Ķ (Ð (hy pC aT I' λe=>?_)));rw[e]at hl;show Ţ _ (hl▸h2)
  ·show Ð hd
 ·rw[if_neg h2]
  show Ð hd
theorem KJ(h:l≠[]):∃L x,l=L++[x]:=⟨l.dropLast,l.getLast h,(List.dropLast_concat_getLast h).symm⟩
set_option tactic.hygienic true in
theorem Es(S:SO zA zE zs zb zk zU)(hU:∀x∈a₀,zU x)(I:my zb zo zk a₀ Bs (Ø++R) st)(hn:Ø.length=n)(hZ:0<n)(hs:lh (rr zb zo) Ø)(zR:∀x∈Ø,∀y∈R,zo x<zo y)
  (h:∀pC aT,my zb zo zk a₀ pC R aT->Q (.yield (Ã,(br Bs).length+n)) aT):wpS mo zA zE zs (B5 l7 (br Bs).length n) Q st:=by
 have Il:∀pC aT,my zb zo zk a₀ pC (Ø++R) aT->wpS mo zA zE zs (HD (br Bs).length n) Q aT:=λpC aT I'=>by show Í (ù (Ð (h (pC++[(Ø,0)]) _ ?_)));have e:(br pC).length=(br Bs).length:=aeG (I'.len.trans I.len.symm);have:=I'.push hn hZ hs zR;rw[e]at this;show this
 show Í (Į ?_);split
 ·rename_i s1 n1 p1 hb
  have eT:Bs≠[]:=λe=>by
   have h1:(Ö st).toList=[]:=by rw[I.pend,e];rfl
   rw[Array.toList_eq_nil_iff.mp h1]at hb;show nomatch hb
  generalize power' l7 (2*s1+n1) (2*s1+n1+n1+n) l7=pw;show Í (ė (ã (I:=λ_ (c:VS) aT=>c.1=Ã/\∃pC,my zb zo zk a₀ pC (Ø++R) aT/\pC≠[]) (λx c aT _ _ q=>?_) (λ_ _ q=>q) ⟨N,Bs,I,eT⟩) λc aT q=>?_)
  ·show aE q.2 λpC I' h'=>El S hU I' h' ⟨rfl,pC,I',h'⟩ λB2 dE I2 h2=>⟨N,B2,I2,h2⟩
  ·rw[q.1]
   show aE q.2 λpC I' h'=>mJ (KJ h') λL x e=>?_;rw[e]at I';show Í (ù (Il _ _ (my.repower (X:=x.1) (p:=x.2) I' pw)))
 ·show Il Bs st I
theorem Er:AG zA zE zs zb zo zk zU:=by
 intro a₀ st Q S hU hk hf hp e asc h;rw[Lk];show Í (Į ?_);rw[show (Ú st).size=a₀.length by rw[<-ž,e]];generalize minRun' a₀.length a₀.length 0=mr;show Í (ė (ã (I:=λx (c:WS) aT=>c.1=Ã/\∃Bs R,my zb zo zk a₀ Bs R aT/\(br Bs).length=c.2/\R.Pairwise (λx y=>zo x<zo y)/\(x<=c.2\/a₀.length<=c.2)) (Q:=λ(c:WS) aT=>c.1=Ã/\∃Bs,my zb zo zk a₀ Bs [] aT) (λx c aT j hx q=>?_) (λc aT q=>⟨q.1,?_⟩) ⟨N,[],a₀,⟨hk,hf,by rw[hp];rfl,e,(λj h=>nomatch h),acj _ _,.refl _⟩,N,asc,.inl (đ _)⟩) λc aT q=>?_)
 ·show Mz q.2 λBs R I hl ha Sc=>?_
  have cb:=I.len;unfold SK;rw[<-hl];show cE (λlA=>Ð ⟨N,Bs,?_⟩) λlA=>?_
  ·rw[I.none lA]at I;show I
  have cG:(br Bs).length<a₀.length:=ϖ.mp lA;have hR:R.length=a₀.length-(br Bs).length:=by rw[<-cb,ϲ]
  have Sc:x<=(br Bs).length:=â Sc (λh=>hl▸h) λh=>absurd (hl▸h) lA;have uR:∀y∈R,zU y:=λy hy=>hU y (I.pm.mem_iff.mp (Ŭ _ hy))
  -- the state behind a run found
  have aD:∀{n vw Z' R'},c7 aT vw->gq zb zo (br Bs) R [] Z' R' n (Ú vw).toList->my zb zo zk a₀ Bs (Z'++R') vw:=λ{n vw Z' R'} hs L=>by have a:=Ϛ.mp I.bf;show⟨hs.k.trans I.kind,hs.f.trans I.failed,by rw[hs.p];show I.pend,by rw[L.arr,Ĭ],I.ok,Ϛ.mpr ⟨a.1,acj _ _,λb hb c hc=>?_⟩,(L.pm.append_left _).trans I.pm⟩;rw[W'.mp hc];show λx hx y hy=>a.2.2 b hb _ G' x hx y (L.pm.mem_iff.mp hy)
  have step:∀{P:ForInStep WS->Ò->Prop},(∀c' WR,(c'.1=Ã/\∃Bs R,my zb zo zk a₀ Bs R WR/\(br Bs).length=c'.2/\R.Pairwise (λx y=>zo x<zo y)/\(x+1<=c'.2\/a₀.length<=c'.2))->P (.yield c') WR)->∀{n vw Z' R'},1<=n->c7 aT vw->gq zb zo (br Bs) R [] Z' R' n (Ú vw).toList->wpS mo zA zE zs (B5 a₀.length (br Bs).length n) P vw:=λ{P} hP {n vw Z' R'} h1 hs L=>
   Es S hU (aD hs L) L.len h1 L.so L.bf λpC WR I4=>hP _ _ ⟨N,pC,R',I4,aeG ((I4.len.trans cb.symm).trans (by rw[Ű,L.rest])),L.asc,.inl (Ϭ Sc h1)⟩
  show Í (Ei S I.kind (P:=br Bs) (R:=R) (T:=[]) N uR (϶ cG) (by rw[Ĭ];show I.arr) hR ha λn dE rO yr hA=>gm (show ∃Ø R',c7 aT dE/\gq zb zo (br Bs) R [] Ø R' n (Ú dE).toList from ä hA.2 λØ q=>ä q λR' L=>⟨Ø,R',hA.1,L⟩) λØ R' hs L=>cE (λZ4=>Í (ĸ (ú ⟨N,?_⟩))) λj=>step (λj j q=>q) rO hs L);have qI:min (a₀.length-(br Bs).length) mr<=R.length:=by rw[hR];show acA _ _
  have RR:n<=min (a₀.length-(br Bs).length) mr:=afx.mpr ⟨yr,ī Z4⟩;generalize min (a₀.length-(br Bs).length) mr=force at qI RR;have jN:=L.rest
  have ht:force-n<=R'.length:=by rw[<-jN]at qI;show Nat.sub_le_iff_le_add'.mpr qI
  have Qb:=ŭ (force-n) R';have Q0:=L.asc;rw[<-Qb]at Q0;have sp:=Ϛ.mp Q0;have L1:gq zb zo (br Bs) (Ø++R'.take (force-n)) (R'.drop (force-n)) Ø (R'.take (force-n)) Ø.length (Ú dE).toList:=⟨by rw[L.arr,Ĭ,Qb],N,L.so,.refl _,λy hy z hz=>L.bf y hy z (ű hz),sp.1⟩;rw[<-L.len];show Í (yg S (hs.k.trans I.kind) N (λy hy=>uR y (L.pm.mem_iff.mp (â (Ģ.mp hy) (Ŵ _) λhy=>Ŭ _ (ű hy)))) (by rw[L.len];show rO) (by rw[L.len,ũ,Ų ht,ab' RR]) L1 λZ' vw C7 L3=>cm Ķ (step (λj j q=>q) (Z':=Z') (R':=R'.drop (force-n)) (z' rO RR) (hs.trans C7) ?_));have pm:=L3.pm;rw[Ĭ]at pm;show⟨by rw[L3.arr,Ĭ,afq],L3.len,L3.so,?_,λy hy z hz=>?_,sp.2.1⟩
  ·show(pm.append_right _).trans ?_
   rw[ü,Qb];show L.pm
  ·show â (Ģ.mp (pm.mem_iff.mp hy)) (λhy=>L.bf y hy z (ϙ hz)) λhy=>sp.2.2 y hy z hz
 ·show Mz q.2 λBs R I hl ha hx=>⟨Bs,?_⟩
  have h2:a₀.length<=(br Bs).length:=â hx (λh=>by rw[ϵ (ĥ _)]at h;show hl▸h) λh=>hl▸h;rw[I.none h2]at I;show I
 ·rw[q.1]
  show ä q.2 λBs I=>?_;have cb:=I.len;show Í (ė (ã (I:=λx (d:VS) dE=>d.1=Ã/\∃Bs,my zb zo zk a₀ Bs [] dE/\(Bs.length+x<=a₀.length+1\/Bs.length<=1)) (Q:=λ(d:VS) dE=>d.1=Ã/\∃Bs,my zb zo zk a₀ Bs [] dE/\Bs.length<=1) (λx d dE j hx q=>?_) (λd dE q=>⟨q.1,?_⟩) ⟨N,Bs,I,.inl (ź (cb▸ww λb hb=>(I.ok b hb).pos))⟩) λd dE q=>?_)
  ·show aE q.2 λBs I hl=>Í (Į ?_)
   unfold Nw;rw[I.size];show cE (λh1=>Ð ⟨N,Bs,I,h1⟩) λh1=>?_;have Kn:=ϖ.mp h1;have p2:=SP Kn
   have pick:∀(c:Prop) [Decidable c],(if c then Bs.length-2-1 else Bs.length-2)+1<Bs.length:=λc j=>by
    split
    ·show ų (Š (Ŗ _ _)) p2
    ·show p2
   show Í (nK S hU I (pick _) λpC vw I' h2=>cm Ķ (Ð ⟨N,pC,I',.inl ?_⟩));have jd:Bs.length+x<=a₀.length+1:=â hl (λh=>h) λh=>absurd h h1;rw[<-h2,Ϸ]at jd;show jd
  ·show aE q.2 λBs I hl=>⟨Bs,I,â hl (λh=>?_) λh=>h⟩
   rw[ϵ (ĥ _),ϝ]at h;show acw h
  ·rw[q.1]
   show aE q.2 λBs I hl=>Ð ?_
   match Bs,I,hl with
   |[],I,_=>show h [] dE .nil I.pm I.arr I.failed
   |[b],I,_=>
    have eF:br [b]++[]=b.1:=by show (b.1++[])++[]=b.1;rw[Ĭ,Ĭ]
    show h b.1 dE (I.ok b G').so (eF▸I.pm) (eF▸I.arr) I.failed
   |_::_::_,_,hl=>show absurd hl (ϖ.mpr (acP (ż _)))
end
theorem ID{blt:Ë->Ë->Bool}{kd:ŷ}{Ď:Ë->Prop}:AG A E s blt ord kd Ď:=hk (P:=U7 AG) Er (A,E,s,blt,ord,kd,Ď)
end L.Lake
namespace L.Lake
open PySem PyProof.Rows PySem.W
inductive yx(h:Ó):Ä->List Int->Prop
 |one (k:Int) (t:Tok):yx h (.int k t) [k]
 |two {a:È} (x y:Int) (t u:Tok):h.IsTuple a #[.int x t,.int y u]->yx h (.ref a) [x,y]
noncomputable def Qp(h:Ó):Ä->List Int
 |.int k _=>[k]
 |.ref a=>match h.get? a with
  |some o=>match o.data with
   |.seq xs _=>xs.toList.map numOf
   |_=>[]
  |none=>[]
 |_=>[]
theorem yx.eq(x:yx h v l):Qp h v=l:=by
 cases x with
 |one=>rfl
 |two x y t u ht=>
  obtain ⟨o,ho,_,n,hd⟩:=ht
  show (match h.get? _ with
   |some o=>match o.data with
    |.seq xs _=>xs.toList.map numOf
    |_=>[]
   |none=>[])=_
  rw[ho];dsimp only;rw[hd];rfl
section
variable{A:Ñ}{E:Ä->Å->Prop}{s:Å}
theorem Pq(hx:s.heap.IsTuple x #[.int a t,.int b u])(hy:s.heap.IsTuple y #[.int c v,.int d z])(h:Q (ch [a,b] [c,d]) s):
  É mo A (keyLt' (tuples' Æ) (.ref x) (.ref y)) Q E s:=by
 obtain ⟨ox,hox,_,nx,ZD⟩:=hx;obtain ⟨oy,hoy,_,ny,ZE⟩:=hy;show kat_lt hox ZD hoy ZE (kat_cons (wpAny_eqBool_int ?_));have e:ch [a,b] [c,d]=(decide (a<c)||(a==c&&(decide (b<d)||(b==d&&Ê)))):=rfl;rw[e]at h;cases hac:a==c with
 |true=>
  have Vp:a=c:=beq_iff_eq.mp hac;show kat_yes (kat_cons (wpAny_eqBool_int ?_));rw[hac,Vp,decide_eq_false (adk c),afB,adm]at h;cases hbd:b==d with
  |true=>have Vq:b=d:=beq_iff_eq.mp hbd;rw[Vq,decide_eq_false (adk d),adF,afB]at h;show kat_yes (kat_nil h)
  |false=>rw[adF,adl]at h;show kat_no (kat_one _ _ (lt_int h))
 |false=>rw[hac,Bool.false_and,adl]at h;show kat_no (oneLt_int h)
theorem LC(hk:(n=1/\kd=oneType')\/(n=2/\kd=tuples' Æ)):
  SO A E s (λx y=>ch (Qp s.heap x.1) (Qp s.heap y.1)) kd (λx=>∃l,yx s.heap x.1 l/\l.length=n):=by
 show⟨λx y hx hy st Q fE hq=>?_,λx y=>mU _ _,λx y z=>s5 _ _ _,λx y z=>mV _ _ _⟩;obtain ⟨lx,kx,nx⟩:=hx;obtain ⟨ly,ky,ny⟩:=hy;rw[kx.eq,ky.eq]at hq;rw[lt'_eq];show Í (Į ?_);rw[fE];obtain ⟨vx,ix⟩:=x;obtain ⟨vy,iy⟩:=y;rcases hk with ⟨rfl,rfl⟩|⟨rfl,rfl⟩
 ·cases kx with
  |two _ _ _ _ _=>show nomatch nx
  |one k t=>
   cases ky with
   |two _ _ _ _ _=>show nomatch ny
   |one k' t'=>rw[keyLt'_oneType];show Í (ĸ (ı (oneLt_int ⟨N,Ð ?_⟩)));have e:ch [k] [k']=(decide (k<k')||(k==k'&&Ê)):=rfl;rw[e,adF,adl]at hq;show hq
 ·cases kx with
  |one _ _=>show nomatch nx
  |two a b t u hx=>
   cases ky with
   |one _ _=>show nomatch ny
   |two c d v z hy=>show Í (ĸ (ı (Pq hx hy ⟨N,Ð hq⟩)))
end
end L.Lake
namespace L.Lake
open PySem PyProof.Rows PySem.Calls PySem.SeqAt
theorem uB(hk:r7 v=À l)(x:VR gg J h v a):yx h a l/\((l.length=1/\∃k t,a=.int k t)\/(l.length=2/\∃c o xs n k t,a=.ref c/\h.get? c=À o/\o.cls=.type "tuple"/\o.data=.seq xs n/\xs[0]?=À (.int k t))):=by
 revert hk;apply VR.el x
 case int=>
  intro i t hk;apply dJ hk;show⟨.one i t,.inl ⟨rfl,i,t,rfl⟩⟩
 case tup=>
  intro m c vs ht hz hv hn hk
  match m,hk,hv with
  |[],hk,_=>show no hk
  |[_],hk,_=>show no hk
  |_::_::_::_,hk,_=>show no hk
  |[p,q],hk,hv=>show bT (m:=pr p) hk λi hi hk=>bT hk λj hj hk=>?_;apply dJ hk;show fQ (vk hv) λap aq q3 hp hq=>?_;subst q3;show ä (vI hi hp) λt q2=>?_;subst q2;show ä (vI hj hq) λu q2=>?_;subst q2;show⟨.two i j t u ht,.inr ⟨rfl,?_⟩⟩;obtain ⟨o,ho,hc,n,hd⟩:=ht;show⟨c,o,_,n,i,t,rfl,ho,hc,hd,rfl⟩
 case none=>intro hk;show no hk
 case bool=>intro _ hk;show no hk
 case str=>intro _ _ hk;show no hk
 case ref=>intro _ _ _ hk;show no hk
 case ro=>intro _ _ _ _ _ _ hk;show no hk
inductive dF:List V->List KP->Prop
 |nil:dF [] []
 |cons {v:V} {p:KP} {vs:List V} {ps:List KP}:r7 v=À p.1->dF vs ps->dF (v::vs) (p::ps)
section
variable{A:Ñ}{E:Ä->Å->Prop}{J:List È}{H:ag}{s:Å}
structure Te(J:List È)(H:ag)(Ý:Å)(a kS:È)(e1:Nat)(kvs:List V)(i:Nat)(s':Å):Prop where
 S:SE J Ý.heap J s'.heap
 R:ar gg J H s'.heap
 T:bK Ý s'
 ha:s'.heap.get? a=À (å "list" #[] e1)
 hk:∃kA e,s'.heap.get? kS=À (å "list" kA e)/\bv gg J s'.heap (kvs.take i) kA.toList
def QH(J:List È)(H:ag)(v:V)(s':Å)(k:Ä)(o8:Å):Prop:=SE J s'.heap J o8.heap/\ar gg J H o8.heap/\bK s' o8/\VR gg J o8.heap v k
theorem q9(hc:c = "list"):¬ jZ (å c xs n):=by apply aY hc;show gT N
theorem SE.mvOne(S:SE J aZ J h)(R':ar gg J H h')(hs:Heap.SameBut a h h')(h0:aZ.get? a=Ã):SE J aZ J h':=
 cX.mv (wr:=[a]) S R' (λb o hb z e=>hs.extBut b o (by simpa using hb) e) (λz q=>q) (by simpa using h0)
theorem pW(R:ar gg J H h)(hs:Heap.SameBut a h h')(ho:h.get? a=À (å "list" xs n))(ha:a∉J)(hB:gg.B.get? a=Ã):ar gg J H h':=
 R.other ha hB (λb o hb e=>hs.extBut b o hb e) λo e=>by rw[ho]at e;cases e;show q9 N
theorem LN(hs:Heap.SameBut a h h')(ho:h.get? a=À (å "list" xs n))(x:bv gg J h l vs):bv gg J h' l vs:=
 x.stepT (λz z e=>e) λb o e hh hn=>⟨hs.extBut b o (by rintro rfl;rw[ho]at e;cases e;show q9 rfl hh) e,hn⟩
theorem GV{Ý:Å}{a kS:È}{e1:Nat}{kvs:List V}{st:Ò}{out:List V}{P:PySem.Fin->Å->Prop}(K:Te J H Ý a kS e1 kvs kvs.length s)(Ba:kS≠a)(od:a∉J)(wJ:kS∉J)(Gl:Ý.heap.get? a=Ã)(mO:Ý.heap.get? kS=Ã)(Ke:gg.B.get? a=Ã)(OX:gg.B.get? kS=Ã)
  (hz:kvs.length<=10000000) (fE:(Ú st).size=kvs.length) (hf:ë st=Ã) (O3:∀h,bv gg J h out ((Ú st).map (·.2)).toList)
  (h:∀h' tk c,SE J Ý.heap J h'->ar gg J H h'->bK Ý {s with heap:=h',toks:=tk}->h'.get? a=À (å "list" ((Ú st).map (·.2)) c)->P (.done (.ret .none)) {s with heap:=h',toks:=tk}) :
  É mo A (ksk_tail a Ê e1 (.ref kS) st) P E s:=by
 show gm K.hk λkA e hk r3=>?_
 have cb:kA.size<=kvs.length:=by have h1:=r3.length;rw[Ň]at h1;rw[h1,ž];show đ _
 have sl:(10000000:Nat)<=ê:=ab2 rfl;have s1:=Heap.SameBut.update s.heap kS (Obj.mapSeq λz=>(#[]:Array Ä));have R1:=pW K.R s1 hk wJ OX;have S1:=SE.mvOne K.S R1 s1 mO;have T3:(s.heap.update kS (Obj.mapSeq λz=>(#[]:Array Ä))).get? a=À (å "list" #[] e1):=(s1.2 a Ba.symm).trans K.ha;have s2:=Heap.SameBut.update (s.heap.update kS (Obj.mapSeq λz=>(#[]:Array Ä))) a (Obj.mapSeq λz=>(Ú st).map (·.2));have R2:=pW R1 s2 T3 od Ke;have S2:=SE.mvOne S1 R2 s2 Gl;obtain ⟨c2,Qc⟩:∃c2,((s.heap.update kS (Obj.mapSeq λz=>(#[]:Array Ä))).update a (Obj.mapSeq λz=>(Ú st).map (·.2))).get? a=À (å "list" ((Ú st).map (·.2)) c2):=⟨_,get?_update_seq T3 λz=>(Ú st).map (·.2)⟩;unfold ksk_tail
 try dsimp only
 show Â (Ś hk N (Â (ĕ (Â (seqEpoch_at T3 N (Â (Ś T3 N ?_ (ĥ _) (z' (Ŏ (Array.size_map ..)) (ź (z' (Ŏ fE) (z' hz sl)))))))))) (z' cb (z' hz sl)) (ĥ _));rw[hf]
 simp only[bne_self_eq_false,abS,if_false]
 show Ç (h _ _ c2 S2 R2 (K.T.trans ⟨N,N,N⟩) Qc)
end
end L.Lake
namespace L.Lake
open PySem PyProof.Rows PySem.Calls PySem.SeqAt PySem.W
noncomputable def kf(ps:List KP):List V:=ps.map λp=>.int p.2
noncomputable def K9(x:Ë):Nat:=(numOf x.2).toNat
def zQ(h:Ó)(x:Ë):KP:=(Qp h x.1,numOf x.2)
theorem xk:∀{ns:List Int} {a:Int},gF a ns=Æ->∀n∈ns,a<n
 |m::r,a,h,n,hn=>by
  show aQ (Ł.mp (show (decide (a<m)&&gF m r)=Æ from h)) λh1 h2=>?_;have h1:=of_decide_eq_true h1;rcases ą.mp hn with rfl|hn
  ·show h1
  ·show adg h1 (xk h2 n hn)
theorem Ir(h:-1<a)(Gm:a<b):a.toNat<b.toNat:=by show jT (y4 0x1c2311b1010b2112b03 N Gm (adH _) (Ϥ (y1 0xc00811b0e1808 N h)))
theorem wW{a b:Int}(h:a.toNat<b.toNat):a<b:=ad4.mp λq=>absurd h (ķ.mpr (Int.toNat_le_toNat q))
theorem wR(x:ò vs ns)(h:v∈vs):∃m∈ns,∃u,v=.int m u:=by
 induction x with
 |nil=>show nomatch h
 |cons n t hr ih=>show(ą.mp h).elim (λe=>⟨n,G',t,e⟩) λh=>aE (ih h) λm hm e=>⟨m,J' _ hm,e⟩
theorem Cv(x:ò vs ns):∀{ks:List Ä} {a:Int},ks.length=vs.length->gF a ns=Æ->-1<=a->(ks.zip vs).Pairwise λx y=>K9 x<K9 y:=by
 induction x with
 |nil=>intro ks a hl _ _;rw[ϳ.mp hl];show .nil
 |@cons n t vs ns hr ih=>
  intro ks a hl h ha;cases ks with
  |nil=>show nomatch hl
  |cons k ks=>show aQ (Ł.mp (show (decide (a<n)&&gF n _)=Æ from h)) λh1 h2=>?_;have h1:=of_decide_eq_true h1;have hn:-1<n:=acT ha h1;show Ő.mpr ⟨λy hy=>aE (wR hr (ϔ hy).2) λm hm q=>ä q λu hu=>?_,ih (ad5.inj hl) h2 (acW hn)⟩;show n.toNat<(numOf y.2).toNat;rw[hu];show Ir hn (xk h2 m hm)
section
variable{A:Ñ}{E:Ä->Å->Prop}{J:List È}{H:ag}{s:Å}
theorem Dc(h:ò vs (n::ns)):∃t us,vs=.int n t::us/\ò us ns:=by
 cases h with
 |cons _ t h=>show⟨t,_,N,h⟩
theorem GX(x:dF kvs ps):∀{ks vs:List Ä},bv gg J h kvs ks->ò vs (ps.map (·.2))->(ks.zip vs).map (zQ h)=ps:=by
 induction x with
 |nil=>intro ks vs y _;rw[y.nilE];rfl
 |cons hk hr ih=>intro ks vs y hI;show y.consE λa us q hv Kp=>gm (Dc hI) λt us q3 Y5=>?_;rw[q,q3,adt,œ,ih Kp Y5];show congrArg (·::_) (Prod.ext (uB hk hv).1.eq N)
theorem KG(x:dF kvs ps):∀{ks vs:List Ä},bv gg J h kvs ks->(∀p∈ps,p.1.length=n)->∀x∈ks.zip vs,∃l,yx h x.1 l/\l.length=n:=by
 induction x with
 |nil=>intro ks vs y _ x hx;rw[y.nilE]at hx;show nomatch hx
 |@cons v p vs ps hk hr ih=>
  intro ks ws y hn x hx;show y.consE λa us q hv Kp=>?_;rw[q]at hx;cases ws with
  |nil=>show nomatch hx
  |cons w ws=>show(ą.mp hx).elim (λe=>⟨p.1,?_,hn p G'⟩) (ih Kp (λq hq=>hn q (J' _ hq)) x);rw[e];show(uB hk hv).1
theorem Dj(x:dF kvs ps):∀{ks:List Ä},bv gg J h kvs ks->(∀p∈ps,p.1.length=1)->∃kz,ò ks kz:=by
 induction x with
 |nil=>intro ks y _;rw[y.nilE];show⟨[],.nil⟩
 |@cons v p vs ps hk hr ih=>
  intro ks y hn;show y.consE λa us q hv Kp=>?_;rw[q];show ä (ih Kp λq hq=>hn q (J' _ hq)) λkz h1=>?_;rcases (uB hk hv).2 with ⟨_,k,t,rfl⟩|⟨h2,_⟩
  ·show⟨k::kz,.cons k t h1⟩
  ·show nomatch h2.symm.trans (hn p G')
theorem Dk(x:dF kvs ps):∀{ks:List Ä},bv gg J h kvs ks->(∀p∈ps,p.1.length=2)->∃fs,KatTups h ks fs/\fs.length=ks.length/\∀v∈fs,∃k t,v=Value.int k t:=by
 induction x with
 |nil=>intro ks y _;rw[y.nilE];show⟨[],trivial,N,λz h=>nomatch h⟩
 |@cons v p vs ps hk hr ih=>
  intro ks y hn;show y.consE λa us q hv Kp=>?_;rw[q];show eJ (ih Kp λq hq=>hn q (J' _ hq)) λfs h1 h2 h3=>?_;rcases (uB hk hv).2 with ⟨h2,_⟩|⟨_,c,o,xs,n,k,t,rfl,ho,hc,hd,h0⟩
  ·show nomatch h2.symm.trans (hn p G')
  ·show⟨.int k t::fs,KatTups.cons ho hc hd h0 h1,congrArg (·+1) h2,λv hv=>(ą.mp hv).elim (λe=>⟨k,t,e⟩) (h3 v)⟩
theorem KF(h:r7 v=À l):l.length=1\/l.length=2:=by
 cases v with
 |int i=>apply dJ h;show .inl N
 |tup m=>
  match m,h with
  |[],h=>show no h
  |[_],h=>show no h
  |_::_::_::_,h=>show no h
  |[p,q],h=>show bT (m:=pr p) h λi hi h=>bT h λj hj h=>?_;apply dJ h;show .inr N
 |none=>show no h
 |bool _=>show no h
 |str _=>show no h
 |ref _=>show no h
 |ro _=>show no h
theorem uC(h:dF kvs ps)(hs:gR ps=Æ)(eT:0<ps.length):∃n,(n=1\/n=2)/\∀p∈ps,p.1.length=n:=by
 cases h with
 |nil=>show absurd eT (Ţ _)
 |@cons v p vs ps hk hr=>show⟨p.1.length,KF hk,λq hq=>?_⟩;have h1:=ϩ.mp hs p G';have h2:=ϩ.mp h1 q hq;show(beq_iff_eq.mp h2).symm
theorem cH(x:dF kvs ps):kvs.length=ps.length:=by
 induction x with
 |nil=>rfl
 |cons _ _ ih=>show congrArg (·+1) ih
theorem BA:∀{Ø:List Ë},(∀x∈Ø,∃n t,x.2=.int n t)->bv gg J h' (kf (Ø.map (zQ h))) (Ø.map (·.2))
 |[],_=>.nil
 |x::Ø,hx=>by show mJ (hx x G') λn t e=>.cons ?_ (BA λy hy=>hx y (J' _ hy));show VR gg J h' (.int (numOf x.2)) x.2;rw[e];show .int n t
theorem Lj{h:Ó}{x y:Ë}(hr:rr (λx y=>ch (Qp h x.1) (Qp h y.1)) K9 x y=Æ):nR (zQ h x) (zQ h y):=by
 show Bo ?_;unfold ll zQ;show â (dU.mp hr) (λhr=>?_) (λq=>aQ q λh1 h2=>?_)
 ·rw[hr];rfl
 ·rw[h1,decide_eq_true (wW h2)]
  show afH _
theorem yk(Pj:Array Ä)(vs:List Ä):(Pj.zip vs.toArray).toList=Pj.toList.zip vs:=ksk_zip Pj vs
end
def mS(A:Ñ)(E:Ä->Å->Prop)(J:List È)(H:ag)(s:Å)(Ý:Å)(a:È)(kS:È)(e1:Nat)(e:Nat)(kvs:List V)(ps:List KP)(kA:Array Ä)(vs:List Ä)(P:PySem.Fin->Å->Prop):Prop:=∀(K:Te J H Ý a kS e1 kvs kvs.length s) (Qf:s.heap.get? kS=À (å "list" kA e)) (r3:bv gg J s.heap kvs kA.toList) (pM:dF kvs ps) (hI:ò vs (ps.map (·.2))) (hr:gF (-1) (ps.map (·.2))=Æ) (sV:gR ps=Æ) (Ba:kS≠a) (od:a∉J) (wJ:kS∉J) (Gl:Ý.heap.get? a=Ã) (mO:Ý.heap.get? kS=Ã) (Ke:gg.B.get? a=Ã) (OX:gg.B.get? kS=Ã) (hz:kvs.length<=10000000) (h:∀h' tk c ws,SE J Ý.heap J h'->ar gg J H h'->bK Ý {s with heap:=h',toks:=tk}->h'.get? a=À (å "list" (adw ws) c)->bv gg J h' (kf (fz ps)) ws->P (.done (.ret .none)) {s with heap:=h',toks:=tk}),É mo A (ksk_end a Ê vs.toArray e1 (.ref kS) kA) P E s
namespace key_endH
def kc:=hc (yp mS) ({},λz z=>True,[],[],dS,dS,0,0,0,0,[],[],#[],[],λz z=>True)
def A:=kc.1
def E:=kc.2.1
def J:=kc.2.2.1
def H:=kc.2.2.2.1
def s:=kc.2.2.2.2.1
def Ý:=kc.2.2.2.2.2.1
def a:=kc.2.2.2.2.2.2.1
def kS:=kc.2.2.2.2.2.2.2.1
def e1:=kc.2.2.2.2.2.2.2.2.1
def e:=kc.2.2.2.2.2.2.2.2.2.1
def kvs:=kc.2.2.2.2.2.2.2.2.2.2.1
def ps:=kc.2.2.2.2.2.2.2.2.2.2.2.1
def kA:=kc.2.2.2.2.2.2.2.2.2.2.2.2.1
def vs:=kc.2.2.2.2.2.2.2.2.2.2.2.2.2.1
def P:=kc.2.2.2.2.2.2.2.2.2.2.2.2.2.2
theorem kt:mS A E J H s Ý a kS e1 e kvs ps kA vs P:=by
 intro K Qf r3 pM hI hr sV Ba od wJ Gl mO Ke OX hz h;have wK:kA.toList.length=vs.length:=by rw[<-r3.length,cH pM,hI.length,H']
 have OZ:vs.length=kvs.length:=by rw[<-wK,<-r3.length]
 have C5:=GX pM r3 hI
 have hint:∀x∈kA.toList.zip vs,∃n t,x.2=.int n t:=λx hx=>by obtain ⟨m,_,u,e⟩:=wR hI (ϔ hx).2;show⟨m,u,e⟩
 have gw:∀(st:Ò) (Ø:List Ë),(Ú st).toList=Ø->Ø.Perm (kA.toList.zip vs)->Ø.map (zQ s.heap)=fz ps->ë st=Ã->É mo A (ksk_tail a Ê e1 (.ref kS) st) P E s:=λst Ø hZ hp hm hf=>by
  have Zj:∀x∈Ø,∃n t,x.2=.int n t:=λx hx=>hint x (hp.mem_iff.mp hx)
  have O3:∀h',bv gg J h' (kf (fz ps)) ((Ú st).map (·.2)).toList:=λh'=>by rw[Array.toList_map,hZ,<-hm];show BA Zj
  show GV K Ba od wJ Gl mO Ke OX hz ?_ hf O3 λh' tk c S' R' T' ho=>h h' tk c ((Ú st).map (·.2)).toList S' R' T' ((adc)▸ho) (O3 h');rw[<-ž,hZ,hp.length_eq,adq,wK,aet,OZ]
 unfold ksk_end
 try dsimp only
 rw[if_neg Ķ];by_cases h2:vs.toArray.size<2
 ·rw[if_pos h2,if_pos h2]
  show Â (Ç ?_);rw[StateT.run_pure];show Â (Ç ?_)
  try dsimp only
  rw[Ū]at h2;show gw (SortSt.mk' general' (kA.zip vs.toArray) #[] 7 Ã) (kA.toList.zip vs) (yk kA vs) (.refl _) ?_ N;rw[C5];have We:ps.length<2:=by rw[<-cH pM,<-OZ];show h2
  match ps,We with
  |[],_=>rfl
  |[p],_=>rfl
  |_::_::_,h=>show absurd h (by simp only[Ϫ];show λq0=>zI (y3 0x1c080810b00813ba180113ba181211b282 rfl (iP _) (iA _ _) (iA _ _) (iT q0)))
 ·rw[if_neg h2,if_neg h2]
  rw[Ū]at h2;have eT:0<ps.length:=by rw[<-cH pM,<-OZ];show jT (y1 0x1c00810b028 N (iL (ķ.mp h2)))
  show aE (uC pM sV eT) λn hn Kg=>?_
  have run:∀kd:ŷ,((n=1/\kd=oneType')\/(n=2/\kd=tuples' Æ))->É mo A (do
    let ((),st) <-sortRuns'.run (SortSt.mk' kd (kA.zip vs.toArray) #[] 7 Ã)
    ksk_tail a Ê e1 (.ref kS) st) P E s:=λkd lB=>by
   show Â (Ï (ID (E:=E) (ord:=K9) (LC lB) (a₀:=kA.toList.zip vs) (st:=SortSt.mk' kd (kA.zip vs.toArray) #[] 7 Ã)
    (Q:=λz aT=>∃Ø:List Ë,(Ú aT).toList=Ø/\Ø.Perm (kA.toList.zip vs)/\Ø.map (zQ s.heap)=fz ps/\ë aT=Ã) (KG pM r3 Kg) N N N (yk kA vs) (Cv hI wK hr (Ŕ _)) λØ aT hs hp ha hf=>⟨Ø,ha,hp,?_,hf⟩) ?_ λz z x=>x)
   ·show xy ?_ ?_
    ·rw[<-C5];show hp.map _
    ·rw[aed]
     show hs.imp Lj
   ·rintro ⟨⟨⟩,aT⟩ s' ⟨rfl,Ø,hZ,hp,hm,hf⟩
    show gw aT Ø hZ hp hm hf
  rcases hn with rfl|rfl
  ·show ä (Dj pM r3 Kg) λkz Z0=>?_
   rw[ksk_kind Z0 (by rw[<-ž,wK];show ķ.mp h2)];show Â (Ç (run _ (.inl ⟨N,N⟩)))
  ·show eJ (Dk pM r3 Kg) λfs ht TA ZJ=>?_
   rw[show kA=kA.toList.toArray from (adc (xs:=kA)).symm];show Â (kat_kind (T:=.type "int") ht (by rw[TA,wK];show jT (y1 0x1c00810b028 N (iL (ķ.mp h2)))) (λv hv=>?_) (by decide) ?_)
   ·show mJ (ZJ v hv) λk t q3=>?_;apply aY q3
    show Looks.of_pure N
   ·have:=run (tuples' Æ) (.inr ⟨N,N⟩)
    rw[show kA=kA.toList.toArray from (adc (xs:=kA)).symm]at this;show this
end key_endH
theorem KD{P:PySem.Fin->Å->Prop}{vs:List Ä}{kA:Array Ä}:mS A E J H s Ý a kS e1 e kvs ps kA vs P:=hk (P:=yp mS) key_endH.kt (A,E,J,H,s,Ý,a,kS,e1,e,kvs,ps,kA,vs,P)
section
variable{A:Ñ}{E:Ä->Å->Prop}{J:List È}{H:ag}{s:Å}
theorem bv.snoc(x:bv gg J h l vs)(y:VR gg J h v a):bv gg J h (l++[v]) (vs++[a]):=x.append (.one y)
def AD(A:Ñ)(J:List È)(H:ag)(Ý:Å)(f:Ä)(ps:List KP)(kvs:List V):Prop:=
 ∀(j:Nat) (p:KP) (kv:V) (t:Tok),ps[j]?=À p->kvs[j]?=À kv->∀s':Å,SE J Ý.heap J s'.heap->ar gg J H s'.heap->bK Ý s'->∀E,É mo A (Á f [.int p.2 t]) (QH J H kv s') E s'
theorem GU{Ý:Å}{a kS:È}{e1:Nat}{kvs:List V}{ps:List KP}{vs:List Ä}{f:Ä}{P:PySem.Fin->Å->Prop}(K:Te J H Ý a kS e1 kvs 0 s)(pM:dF kvs ps)(hI:ò vs (ps.map (·.2)))(hr:gF (-1) (ps.map (·.2))=Æ)(sV:gR ps=Æ)
  (Ba:kS≠a) (od:a∉J) (wJ:kS∉J) (Gl:Ý.heap.get? a=Ã) (mO:Ý.heap.get? kS=Ã) (Ke:gg.B.get? a=Ã) (OX:gg.B.get? kS=Ã) (hz:kvs.length<=10000000)
  (yc:AD A J H Ý f ps kvs)
  (h:∀s' c ws,SE J Ý.heap J s'.heap->ar gg J H s'.heap->bK Ý s'->s'.heap.get? a=À (å "list" (adw ws) c)->bv gg J s'.heap (kf (fz ps)) ws->P (.done (.ret .none)) s') :
  É mo A (ksk_rest a f Ê vs.toArray e1 (.ref kS)) P E s:=by
 have hl:vs.length=kvs.length:=by rw[hI.length,H',cH pM]
 have sl:(10000000:Nat)<=ê:=ab2 N;unfold ksk_rest;show Â (ú ?_);rw[List.forIn_toArray];show Â (ksk_fold (λi s'=>Te J H Ý a kS e1 kvs i s') vs 0 s K ?step ?done)
 case step=>
  intro j x s' hx K';rw[Ż]at K' ⊢;have hj:j<kvs.length:=by rw[<-hl];show(Ğ.mp hx).1
  have MO:kvs[j]?=À kvs[j]:=N' hj;have XQ:j<ps.length:=(cH pM)▸hj
  obtain ⟨t,rfl⟩:∃t,x=.int ps[j].2 t:=by show ä (dM hI hx) λt e=>?_;rw[Ġ,N' XQ]at e;show⟨t,e⟩
  show Â (ı (Ï (yc j ps[j] kvs[j] t (N' XQ) MO s' K'.S K'.R K'.T _) (λk o8 hk=>?_) λz z x=>x));show JP hk λS2 R2 T2 V2=>?_;dsimp only;show gm K'.hk λkA e Qf r3=>?_;have Kl:o8.heap.get? kS=À (å "list" kA e):=(S2.pres _ _ Qf wJ).seq rfl;have Zk:o8.heap.get? a=À (å "list" #[] e1):=(S2.pres _ _ K'.ha od).seq rfl;have VY:=r3.step K'.R S2;have s1:=Heap.SameBut.update o8.heap kS (Obj.mapSeq (·.push k));obtain ⟨c2,Qc⟩:∃c2,(o8.heap.update kS (Obj.mapSeq (·.push k))).get? kS=À (å "list" (kA.push k) c2):=⟨_,get?_update_seq Kl (·.push k)⟩
  have hsz:kA.size<=10000000:=by have h1:=r3.length;have h2:kA.toList.length=kA.size:=ž;rw[ũ]at h1;show z' (Ŏ (h2.symm.trans h1.symm)) (z' (acr _ _) hz)
  have R3:=pW R2 s1 Kl wJ OX;show Â (Ś Kl N (Ç ⟨N,SE.mvOne (K'.S.trans S2) R3 s1 mO,R3,(K'.T.trans T2).trans ⟨N,N,N⟩,(s1.2 a Ba.symm).trans Zk,kA.push k,c2,Qc,?_⟩) (z' hsz sl) (z' (Ŏ (afn ..)) (Š (z' hsz sl))));rw[ady,MO,ac6];show LN s1 Kl (VY.snoc V2)
 case done=>
  intro s' K';rw[Ż,hl]at K';show gm K'.hk λkA e Qf r3=>?_;rw[Ň]at r3;show Â (listItems_at Qf N (KD K' Qf r3 pM hI hr sV Ba od wJ Gl mO Ke OX hz λh' tk c ws a1 a2 a3 a4 a5=>h _ c ws a1 a2 a3 a4 a5))
theorem PI{Ý:Å}{h h':Ó}(S:SE J Ý.heap J h)(hk:∀b o,h.get? b=À o->h'.get? b=À o):SE J Ý.heap J h':=SE.trans S (SE.keeps _ hk)
theorem GW{Ý:Å}{a:È}{n:Nat}{kvs:List V}{ps:List KP}{vs:List Ä}{f:Ä}{P:PySem.Fin->Å->Prop}(S:SE J Ý.heap J s.heap)(R:ar gg J H s.heap)(T:bK Ý s)(ho:s.heap.get? a=À (å "list" vs.toArray n))(pM:dF kvs ps)(hI:ò vs (ps.map (·.2)))(hr:gF (-1) (ps.map (·.2))=Æ)(sV:gR ps=Æ)
  (od:a∉J) (Gl:Ý.heap.get? a=Ã) (Ke:gg.B.get? a=Ã) (hz:kvs.length<=10000000)
  (yc:AD A J H Ý f ps kvs)
  (h:∀s' c ws,SE J Ý.heap J s'.heap->ar gg J H s'.heap->bK Ý s'->s'.heap.get? a=À (å "list" (adw ws) c)->bv gg J s'.heap (kf (fz ps)) ws->P (.done (.ret .none)) s') :
  É mo A (ksk_tree a f Ê) P E s:=by
 have hl:vs.length=kvs.length:=by rw[hI.length,H',cH pM]
 have sl:(10000000:Nat)<=ê:=ab2 N;have TN:vs.length<=ê:=by rw[hl];show z' hz sl
 have s1:=Heap.SameBut.update s.heap a (Obj.mapSeq λz=>(#[]:Array Ä));obtain ⟨e1,TG⟩:∃e1,(s.heap.update a (Obj.mapSeq λz=>(#[]:Array Ä))).get? a=À (å "list" #[] e1):=⟨_,get?_update_seq ho λz=>#[]⟩;have R1:=pW R s1 ho od Ke;have S1:=SE.mvOne S R1 s1 Gl;generalize hh1:s.heap.update a (Obj.mapSeq λz=>(#[]:Array Ä))=h1 at s1 TG R1 S1;have qG:∀b o,h1.get? b=À o->((h1.push (å "tuple" vs.toArray 0)).push (å "list" #[] 0)).get? b=À o:=λb o e=>O' _ (O' _ e);have ZZ:(h1.push (å "tuple" vs.toArray 0)).objs.size=h1.objs.size+1:=size_push' ..;have Gz:h1.get? (h1.push (å "tuple" vs.toArray 0)).objs.size=Ã:=abD (by rw[ZZ];show ϐ _);unfold ksk_tree;show Â (listItems_at ho rfl (Â (Ś ho rfl ?_ (by rw[Ū];show TN) (ĥ _))));rw[hh1];show Â (seqEpoch_at TG rfl (Â (wpAny_newTuple (Â (wpAny_newList (ß ?_) (ĥ _))) TN)));have R3:ar gg J H ((h1.push (å "tuple" vs.toArray 0)).push (å "list" #[] 0)):=R1.keeps qG;show GU (s:={s with heap:=(h1.push (å "tuple" vs.toArray 0)).push (å "list" #[] 0)}) (Ý:=Ý) (kS:=(h1.push (å "tuple" vs.toArray 0)).objs.size) ⟨PI S1 qG,R3,T.trans ⟨rfl,rfl,rfl⟩,qG _ _ TG,#[],0,ŀ _ rfl,.nil⟩ pM hI hr sV ?_ od ?_ Gl ?_ Ke ?_ hz yc h
 ·intro q
  rw[q,TG]at Gz;cases Gz
 ·show aX R1 Gz
 ·show S1.back Gz
 ·show aW R1 Gz
theorem Am(R:ar gg J H s.heap)
  (VA:∀(Q:List Ä->Å->Prop),(∀h' tk vs,(∀b o,s.heap.get? b=À o->h'.get? b=À o)->ò vs (ps.map (·.2))->Q vs {s with heap:=h',toks:=tk})->É mo A.in1 (collect src) Q E s)
  (pM:dF kvs ps) (hr:gF (-1) (ps.map (·.2))=Æ) (sV:gR ps=Æ) (hz:kvs.length<=10000000) (yc:AD A.in1.in1 J H s (.ref q) ps kvs) :
  É mo A (Á (.builtin "sorted") [src] [(ϻ "key",.ref q)]) (bA gg J s (.ref H.length) (H++[.lst (kf (fz ps))])) E s:=by
 have sl:(10000000:Nat)<=ê:=ab2 N;show call_function_entry_kw kind_sorted plain_sorted entry_sorted (ksk_s1 _ _) ?_;unfold Đ.«sorted»;show Â (m:=checkCount "sorted" 1 1 _) (Ç (Â (VA _ λh1 tk1 vs I0 hI=>?_)));have hl:vs.length=kvs.length:=by rw[hI.length,H',cH pM]
 have TN:vs.length<=ê:=by rw[hl];show z' hz sl
 show Â (wpAny_newList ?_ TN);have qG:∀b o,s.heap.get? b=À o->(h1.push (å "list" vs.toArray 0)).get? b=À o:=λb o e=>O' _ (I0 b o e);have Qh:(h1.push (å "list" vs.toArray 0)).get? h1.objs.size=À (å "list" vs.toArray 0):=ŀ _ N;have R1:=R.keeps I0;have RI:h1.get? h1.objs.size=Ã:=aG _;have XO:s.heap.get? h1.objs.size=Ã:=fY I0 RI;show Â (ß (wpAny_call_entry_kw slot_list_sort ⟨_,Qh,N⟩ entry_list_sort ?body (ksk_l1 _ _)))
 case body=>
  show É mo A.in1.in1 (Đ.«list.sort» ⟨[.ref h1.objs.size],[(ϻ "key",.ref q)]⟩) _ _ _;rw[ksk_t1];show GW (s:={s with heap:=h1.push (å "list" vs.toArray 0),toks:=tk1}) (Ý:=s) (SE.keeps _ qG) (R.keeps qG) ⟨N,N,N⟩ Qh pM hI hr sV (aX R1 RI) XO (aW R1 RI) hz yc λs' c ws S' R' T' sU V'=>⟨_,N,Ç ⟨_,N,(⟨J++[h1.objs.size],⟨S'.pres,S'.dom,[_],N,λb hb=>by rw[W'.mp hb];show XO⟩,R'.more (aX R1 RI) (aW R1 RI) (.lst ⟨c,sU⟩ ?_ V') (λo e=>by apply fR (sm ((sU).symm.trans e));show q9 N),.ref ?_,T'⟩)⟩⟩
  ·have:(kf (fz ps)).length=kvs.length:=by rw[kf,H',(fK ps).length_eq,cH pM]
   rw[this];show ź (z' hz sl)
  ·rw[<-R.len];simp
theorem Fz(hl:s.heap.IsList l vs.toArray)(hI:ò vs ns)(hz:vs.length<=ê)
  (hQ:∀h' tk ws,(∀b o,s.heap.get? b=À o->h'.get? b=À o)->ò ws ns->Q ws {s with heap:=h',toks:=tk}):É mo A (collect (.ref l)) Q E s:=by
 obtain ⟨o,ho,hc,n,hd⟩:=hl;show wpAny_collect_seq l (.inl rfl) ho hc hd (λh' hk=>hQ h' s.toks vs hk hI) hz
theorem Bj:∀(vs:List Ä) (ns:List Int),vs.length=ns.length->(∀(j:Nat) v,vs[j]?=À v->∃k t,ns[j]?=À k/\v=.int k t)->ò vs ns
 |[],[],_,_=>.nil
 |[],_::_,h,_=>nomatch h
 |_::_,[],h,_=>nomatch h
 |v::vs,n::ns,h,hj=>by show gm (hj 0 v N) λk t e q4=>?_;apply aY q4;rw[Option.some.inj e];show .cons k t (Bj vs ns (ad5.inj h) λj v e=>hj (j+1) v e)
theorem CD{r:È}{a b c:Int}{t u v:Tok}{n:Nat}{Q:List Ä->Å->Prop}(hh:A.handled=Ã)(hr:IsRange s.heap r a b c t u v)(zC:Builtin.Range.small a b c=Æ)(hn:Builtin.Range.rangeSize a b c=n)(hz:n<=2 ^ 24)
  (hQ:∀h' tk ws,(∀b o,s.heap.get? b=À o->h'.get? b=À o)->ò ws ((č n).map λ(i:Nat)=>a+(i:Int)*c)->Q ws {s with heap:=h',toks:=tk}):É mo A (collect (.ref r)) Q E s:=by
 unfold collect;show Â (wpAny_runValue (é F.entry_proto_collect ?_));rw[Around.under_plainId F.plain_proto_collect _];show É _ A.in1 (newList []>>=λl=>again (.builtin "list.__iadd__" ⟨[l,.ref r],[]⟩)) _ _ s;show Â (ç (Ç ⟨Ĉ F.plain_list_iadd _,é F.entry_list_iadd ?_⟩));rw[Around.under_plainId F.plain_list_iadd _];show É _ A.in1 (Builtin.List.listExtendWith (.ref s.heap.objs.size) (.ref r) (.ref s.heap.objs.size)) _ _ _
 show wpAny_extend_range (A:=A) (R:=λr' s'=>match r' with
  |.ok (.ret v)=>É mo A (match v with
   |.ref a=>do match (<-load a).data with
    |.seq xs _=>pure xs.toList
    |_=>ğ "internal:collect"
   |_=>ğ "internal:collect") Q E s'
  |.ok _=>False
  |.error e=>E e s') hh (O' _ hr) zC hn hz s.heap.objs.size _ 0 (ŀ _ N) λh' tk pn c' hk EF uh=>?_
 show É _ A (load s.heap.objs.size>>=_) _ _ _;show Â (wpAny_load EF (Ç (hQ h' tk pn.toList (λb o e=>hk b o (ń (ő e)) (O' _ e)) ?_)));show Bj _ _ (by rw[ž,H',Ľ];show uh.1) λj v hv=>?_;have hj:j<pn.size:=by rw[<-ž];show(Ğ.mp hv).1
 show ä (uh.2 j v ((ϰ)▸hv)) λt e=>?_;show⟨a+(j:Int)*c,t,by rw[Ġ,ό ((uh.1)▸hj)];rfl,e⟩
end
set_option tactic.hygienic true in
theorem yD:∀(l:List Ä),Ĝ l->Ė pos (l++[õ a,õ b,c])=À cv->Ė pos l=À cv\/cv=c:=by
 intro l
 fun_induction Ĝ l with
 |case1=>
  intro _ h;have h:(if ((a:Int)==pos.line&&(b:Int)==pos.col)=Æ then À c else Ė pos [])=À cv:=h;split at h
  ·show .inr (Option.some.inj h).symm
  ·show .inl h
 |case2 i t j u x aD ih=>
  intro ht h;have h:(if (i==pos.line&&j==pos.col)=Æ then À x else Ė pos (aD++[õ a,õ b,c]))=À cv:=h;show (if (i==pos.line&&j==pos.col)=Æ then À x else Ė pos aD)=À cv\/_;split at h
  ·rename_i hc
   rw[if_pos hc];show .inl h
  ·rename_i hc
   rw[if_neg hc];show ih ht h
 |case3 l h1 h2=>intro ht;show ht.elim
theorem vj:∀(l:List Ä),Ĝ l->Ĝ (l++[õ a,õ b,c]):=by
 intro l
 fun_induction Ĝ l with
 |case1=>show λz=>trivial
 |case2 i t j u x aD ih=>show λh=>ih h
 |case3 l h1 h2=>show λh=>h.elim
def lI(h:Ó)(c:È)(q:Str):Prop:=∃o vs t,h.get? c=À o/\o.cls=.type "code"/\o.data=.fields vs/\vs[1]?=À (.str q t)
theorem lI.rec(x:lI h c q):h.CodeRec (.ref c) q:=let ⟨o,vs,t,h1,_,h2,h3⟩:=x;⟨c,o,vs,t,N,h1,h2,h3⟩
section
variable{A:Ñ}{E:Ä->Å->Prop}{s:Å}{name qual:Str}{params:ļ}{body:Ô}{scope:à}{Z:Env}{c P:È}{ps:Array Ä}{pos:Pos}{sP:Nat}{mg:Str->Option Ä}{JF:List (Str×È)}{Q:Ä->Å->Prop}
theorem G7(C3:closureFor scope Z=pure JF)(RL:Z.globals=Ü)(Vt:Z.builtins=Ą)(hg:s.heap.Ns Ü mg)(A8:Z.code=.ref c)(C:CodeHd s.heap c P)(hP:s.heap.get? P=À (tabObj ps))(ht:Ĝ ps.toList)(iC:∀pos cv,Ė pos ps.toList=À cv->∃c',cv=.ref c'/\lI s.heap c' qual)
  (VL:Ü≠P) (hb:s.heap.BuiltinsAt mg P)
  (h:∀c' CH h' tk Nz f pm,(∀b o,b≠P->s.heap.get? b=À o->h'.get? b=À o)->h'.get? P=À (tabObj Nz)->Ĝ Nz.toList->(∀pos cv,Ė pos Nz.toList=À cv->∃d,cv=.ref d/\(lI s.heap d qual\/(s.heap.get? d=Ã/\lI h' d qual))) ->
   (lI s.heap c' qual\/(s.heap.get? c'=Ã/\lI h' c' qual))->c'≠P->s.heap.get? f=Ã->h'.get? f=À (kla_obj name qual params body scope JF pm c' CH)->Q (.ref f) {s with heap:=h',toks:=tk}) :
  É mo A (makeFunction name qual params (.expr body) scope Z [] [] [] pos sP) Q E s:=by
 rw[makeFunction_eq]
 simp only[aeV,List.filterMap_nil,aem,if_true,pure_bind]
 have WJ:∀{d:È},lI s.heap d qual->d≠P:=λ⟨o,vs,t,h1,h2,_⟩ e=>by rw[e,hP]at h1;cases h1;cases h2
 cases hf:Ė pos ps.toList with
 |some cv=>
  show aE (iC pos cv hf) λc' q2 ff=>?_;subst q2
  show kla_makeTailHit C3 RL hg A8 C hP ht hf hb λCH h' tk hk hsz=>h c' CH _ tk ps _ _ (λb o z e=>O' _ (hk b o e)) (O' _ (hk _ _ hP)) ht (λpos cv e=>by show aE (iC pos cv e) λd h1 h2=>?_;show⟨d,h1,.inl h2⟩) (.inl ff) (WJ ff) (abD hsz) (ŀ _ N)
 |none=>
  show Vb hb λbm ob Zp V8 XI V9 Vv Gs k5=>?_;show aQ k5 λlw RE=>?_;unfold makeTail;rw[C3,RL,Vt];show Â (Ç ?_)
  have gw:∀(bH:Ó) (CH:Ä),(∀b o,s.heap.get? b=À o->bH.get? b=À o)->É mo A (do
    let code <-functionCode Z pos sP name qual params scope (.expr body)
    let bs <-builtinsFor Ü Ą
    let O <-nsGet Ü "__name__"
    let doc <-(pure .none:Sem Ä)
    newObj (.type "function") (.func {name:=name,qualname:=qual,params,body:=.expr body,scope,globals:=Ü,closure:=JF,closureTuple:=CH,code,builtins:=bs,defaults:=.none,kwdefaults:=.none,annotations:=Ã,pyModule:=O.getD .none,doc})) Q E {s with heap:=bH}:=λbH CH jc=>by
   show Â (wpAny_functionCodeX (s:={s with heap:=bH}) A8 ((C.keeps jc).code (jc _ _ hP) ht) ((C.keeps jc).tab (jc _ _ hP)) hf λc' h' tk hx lA cG hic Wh htb C6=>?_);have IZ:h'.Ns Ü mg:=(hg.keeps jc).extBut hx VL;show Â (wpAny_builtinsFor IZ Zp V8 (hx _ _ V9 (jc _ _ Vv)) Gs lw RE (Â (wpAny_nsGet IZ ?_)));show tW C6 λP' EE z k8 z=>?_;show Mz k8 λo vs ho Z9 hod z=>?_;show Vc Wh λc2 o2 vs2 t2 e1 e2 e3 e4=>?_;cases e1;have eo:o=o2:=Option.some.inj (ho.symm.trans e2);subst eo;have fresh:s.heap.get? c'=Ã:=fY jc (abD lA);have og:∀oo,lI (h'.push oo) c' qual:=λoo=>⟨o,vs2,t2,O' _ ho,Z9,e3,e4⟩;show Â (Ç (ç (h c' CH _ tk _ h'.objs.size _ (λb o hb e=>O' _ (hx b o hb (jc b o e))) (O' _ htb.2) ?_ (λPD cv e=>?_) (.inr ⟨fresh,og _⟩) ?_ ?_ (ŀ _ N)) (by size_fits)))
   ·rw[Ź];show vj _ ht
   ·rw[Ź]at e
    rcases yD _ ht e with e|rfl
    ·show aE (iC PD cv e) λd h1 h2=>⟨d,h1,.inl h2⟩
    ·show⟨c',N,.inr ⟨fresh,og _⟩⟩
   ·rintro rfl
    rw[fresh]at hP;show no hP
   ·have:bH.objs.size<=h'.objs.size:=z' lA (ī cG)
    show fY jc (abD this)
  cases JF with
  |nil=>
   simp only[aem,if_true]
   show Â (Ç (gw s.heap .none λz z e=>e))
  |cons q r=>
   simp only[List.isEmpty_cons,abS,if_false]
   show Â (wpAny_newTextTuple (gw _ _ λb o e=>O' _ e))
end
theorem jP:∀{l:List Str} {vs:List α} {n:Str},l.length=vs.length->n∈l->((l.zip vs).lookup n).isNone=Ê
 |[],_,_,_,h=>nomatch h
 |a::l,[],_,e,_=>by simp at e
 |a::l,v::vs,n,e,h=>by
  rw[adt,ſ];cases hb:n==a with
  |true=>rfl
  |false=>
   show â (ą.mp h) (λh=>?_) (λh=>?_)
   ·subst h;simp at hb
   ·show jP (by simpa using e) h
theorem se{α:Type}{l:List Str}{vs:List α}(hl:l.length=vs.length)(hn:l.Nodup):l.filterMap (λn=>((l.zip vs).lookup n).map (n,·))=l.zip vs:=by
 induction l generalizing vs with
 |nil=>simp
 |cons a l ih=>
  cases vs with
  |nil=>simp at hl
  |cons v vs=>
   rw[adj]
   simp only[adt,ſ,beq_self_eq_true,afo]
   have lV:=ϛ.mp hn
   have gp:∀(m:List Str),(∀n∈m,n≠a)->m.filterMap (λn=>((match n==a with|true=>À v|false=>(l.zip vs).lookup n):Option α).map (n,·))=m.filterMap (λn=>((l.zip vs).lookup n).map (n,·)):=by
    intro m hm
    induction m with
    |nil=>rfl
    |cons b m ihm=>
     have hb:(b==a)=Ê:=by simpa using hm b G'
     rw[adj,adj,hb,ihm λn hn=>hm n (J' _ hn)]
   show congrArg (List.cons (a,v)) ((gp l (λn hn e=>lV.1 (e▸hn))).trans (ih (by simpa using hl) lV.2))
def tK(name:Str)(qual:Str)(as:List Arg)(body:FuncBody)(scope:à)(gl:È)(clo:List (Str×È))(kwd:Ä)(doc:Ä)(pm:Ä)(an:Option È)(code:Ä)(ct:Ä)(bl:È)(cc:List Ä):Prop:=∀(hl:cc.length=as.length) (hn:(as.map (·.arg)).Nodup),bindArgs ⟨name,qual,⟨[],as,Ã,[],[],Ã,[]⟩,body,scope,gl,clo,.none,kwd,doc,pm,an,code,ct,bl⟩ ⟨cc,[]⟩=pure ((as.map (·.arg)).zip cc)
namespace bind0H
def kc:=hc (yp tK) (default,default,[],default,default,0,[],.none,.none,.none,Ã,.none,.none,0,[])
def name:=kc.1
def qual:=kc.2.1
def as:=kc.2.2.1
def body:=kc.2.2.2.1
def scope:=kc.2.2.2.2.1
def gl:=kc.2.2.2.2.2.1
def clo:=kc.2.2.2.2.2.2.1
def kwd:=kc.2.2.2.2.2.2.2.1
def doc:=kc.2.2.2.2.2.2.2.2.1
def pm:=kc.2.2.2.2.2.2.2.2.2.1
def an:=kc.2.2.2.2.2.2.2.2.2.2.1
def code:=kc.2.2.2.2.2.2.2.2.2.2.2.1
def ct:=kc.2.2.2.2.2.2.2.2.2.2.2.2.1
def bl:=kc.2.2.2.2.2.2.2.2.2.2.2.2.2.1
def cc:=kc.2.2.2.2.2.2.2.2.2.2.2.2.2.2
theorem kt:tK name qual as body scope gl clo kwd doc pm an code ct bl cc:=by
 intro hl hn
 have hm:(ad9 (λx:Arg=>x.arg) as).filter (λn=>(((ad9 (λx:Arg=>x.arg) as).zip cc).lookup n).isNone)=[]:=by rw[aew];intro n hn;rw[jP (by simp [hl]) hn];simp
 have hz:=se (l:=as.map (·.arg)) (vs:=cc) (by simp [hl]) hn;have h1:¬ ((decide (cc.length > (ad9 (λx:Arg=>x.arg) as).length)&&Æ)=Æ):=by simp [hl]
 have h2:¬ ((!((List.take ((ad9 (λx:Arg=>x.arg) as).length-0) (ad9 (λx:Arg=>x.arg) as)).filter (λn=>(((ad9 (λx:Arg=>x.arg) as).zip cc).lookup n).isNone)).isEmpty)=Æ):=by rw[ae5,Ň,hm];decide
 have sW:((ad9 (λx:Arg=>x.arg) as)++[]).filterMap (λn=>(((ad9 (λx:Arg=>x.arg) as).zip cc).lookup n).map (n,·))=(as.map (·.arg)).zip cc:=by rw[Ĭ];show hz
 show(if_neg h1).trans ?_;rw[show ∀i,List.drop i (afk (none:Option (Array Ä)) #[]).toList=[] from λi=>aeQ];show(if_neg h2).trans ?_;rw[aeV];show congrArg (λb=>(pure b:Sem (List (Str×Ä)))) sW
end bind0H
theorem Q3{code:Ä}:tK name qual as body scope gl clo kwd doc pm an code ct bl cc:=hk (P:=yp tK) bind0H.kt (name,qual,as,body,scope,gl,clo,kwd,doc,pm,an,code,ct,bl,cc)
theorem lP{fd:Ī}{as:List Arg}(hp:fd.params=⟨[],as,Ã,[],[],Ã,[]⟩)(hd:fd.defaults=.none)(cc:List Ä)(hl:cc.length=as.length)(hn:(as.map (·.arg)).Nodup):bindArgs fd ⟨cc,[]⟩=pure ((as.map (·.arg)).zip cc):=by cases fd;cases hp;cases hd;show Q3 hl hn
theorem kG(hk:k x=À .local):∀(b:List (Str×Ä)) (m:Str->Option Ä),(b.map (·.1)).Nodup->bindL k b m x=match b.lookup x with|some v=>À v|none=>m x
 |[],m,_=>rfl
 |(n,v)::r,m,hn=>by
  have lV:=ϛ.mp hn;unfold bindL;rw[kG hk r _ lV.2,ſ];cases hb:x==n with
  |true=>
   have:x=n:=by simpa using hb
   subst this
   have hr:r.lookup x=Ã:=by
    cases q:r.lookup x with
    |none=>rfl
    |some y=>show absurd (aeM (f:=(·.1)) (mem_of_lookup q)) lV.1
   rw[hr,if_pos hk];simp
  |false=>
   have eT:x≠n:=by simpa using hb
   cases q:r.lookup x with
   |some y=>rfl
   |none=>
    by_cases Km:k n=À .local
    ·rw[if_pos Km];simp [eT]
    ·rw[if_neg Km]
structure AF(scope bR:à)(O:List (Str×Nat))(nx:Nat)(x:Str):Prop where
 kind:scope.kind=.function
 gen:scope.isGenerator=Ê
 cor:scope.isCoroutine=Ê
 kinds:∀n k,(n,k)∈scope.names->k=.local\/k=.free\/k=.globalImplicit
 uniq:∀n k,(n,k)∈scope.names->scope.names.lookup n=À k
 free:∀n,(n,NameKind.free)∈scope.names->(bR.names.lookup n=À .cell\/bR.names.lookup n=À .free)/\∃i,O.lookup n=À i
 par:scope.names.lookup x=À .local
 below:∀n i,(n,i)∈O->i<nx
 lev:fZ scope=Ê
theorem G4(h:G3 scope bR O nx x=Æ):AF scope bR O nx x:=by
 simp only[G3,ō,ϩ,Ϝ,beq_iff_eq,decide_eq_true_eq,bne_iff_ne,ne_eq,abA,ϑ]at h
 show aQ h λWw h9=>?_;show aQ Ww λk51 h8=>?_;show aQ k51 λk73 h7=>?_;obtain ⟨⟨⟨⟨⟨h1,h2⟩,h3⟩,h4⟩,h5⟩,h6⟩:=k73;show⟨h1,h2,h3,λn k hm=>?_,λn k hm=>h5 (n,k) hm,λn hm=>?_,h7,λn i hm=>h8 (n,i) hm,h9⟩
 ·rcases h4 (n,k) hm with (h|h)|h
  ·show .inl h
  ·show .inr (.inl h)
  ·show .inr (.inr h)
 ·show â (h6 (n,.free) hm) (λh=>?_) (λh=>?_)
  ·show absurd N h
  ·show h
theorem uT(h:dv ps=Æ)(ha:ps.args=[a]):ps=⟨[],[a],Ã,[],[],Ã,[]⟩:=by
 obtain ⟨po,as,va,ko,kd,kw,df⟩:=ps
 simp only[dv,ō,Ŷ,abZ]at h
 show aQ h λWx h6=>?_;show aQ Wx λk53 h5=>?_;show aQ k53 λk75 h4=>?_;obtain ⟨⟨h1,h2⟩,h3⟩:=k75
 simp only at ha h1 h2 h3 h4 h5 h6
 subst ha h1 h2 h3 h4 h5 h6;rfl
section
variable{A:Ñ}{E:Ä->Å->Prop}{J:List È}{H:ag}{s:Å}{Z:Env}{O:List (Str×Nat)}{U:aJ}
theorem ar.notCode(R:ar gg J H h)(x:lI h d q):d∉J:=λhm=>by
 obtain ⟨i,hi,rfl⟩:=ab5.mp hm;have h1:J[i]?=À J[i]:=N' hi;have jX:i<H.length:=R.len▸hi;obtain ⟨m,h2⟩:∃m,H[i]?=À m:=⟨_,N' jX⟩;show JQ x λo vs t ho hc hd z=>?_;generalize J[i]=a at h1 ho;have mr:=R.objs i a m h1 h2;apply MR.el mr
 case lst=>intro _ _ hl _ _;show ä hl λn e=>?_;rw[e]at ho;cases ho;cases hd
 case di=>intro _ _ hx _ _;show JQ hx λo' es ep e z jS z=>?_;rw[e]at ho;cases ho;show nomatch hd.symm.trans jS
 case ds=>intro _ _ hx _ _;show JQ hx λo' es ep e z jS z=>?_;rw[e]at ho;cases ho;show nomatch hd.symm.trans jS
 case own=>intro _ _ e;rw[e]at ho;cases ho;cases hd
 case wd=>intro _ _ _ hn _;show tX hn λo' es ep e jS z=>?_;rw[e]at ho;cases ho;show nomatch hd.symm.trans jS
 case exn=>intro _ _ _ _ _ e ff _ _ _;rw[e]at ho;cases ho;show nomatch hc.symm.trans ff
 case tab=>intro _ _ e _ _;rw[e]at ho;cases ho;cases hc
structure L9(J:List È)(H:ag)(Z:Env)(params:ļ)(body:Ô)(scope:à)(s:Å)(f:È)(s':Å):Prop where
 S:SE J s.heap J s'.heap
 R:ar gg J H s'.heap
 T:bK s s'
 fn:f∉J
 ob:∃pm c' CH,s'.heap.get? f=À (kla_obj "<lambda>" (Z.qual++"<lambda>") params body scope (dG Z scope.names []) pm c' CH)/\lI s'.heap c' (Z.qual++"<lambda>")
theorem G6(G:fU gg cx fs mg mb)(R:ar gg J H s.heap)(F:eQ (bw A) J Z O U s.heap)(OY:fZ Z.scope=Æ)(K:AF scope Z.scope O nx a.arg)(hp:params=⟨[],[a],Ã,[],[],Ã,[]⟩)
  (h:∀f s',L9 J H Z params body scope s f s'->Q (.ref f) s'):É mo A (eval (.Lambda params body scope lp) Z) Q E s:=by
 show Xj (F.tab OY) λj c P KE hj A8 Y7 Vl zw=>aQ (R.tabs j _ P hj) λzD Wu=>?_;have Ru:P∈J:=ģ zD;have Xv:gg.B.get? P=Ã:=R.fresh P Ru
 have C:CodeHd s.heap c P:=by show IU (CodeHd.of Y7 Vl) λo vs Vf tf Rk So=>?_;show Xi So λtg inF WU tt ho r=>?_;show⟨o,vs,Vf,tf,Rk,tg,inF,WU,tt,R.base _ _ (zw o ho),r⟩
 have ZQ:s.heap.Ns Ü mg:=G.gns.keeps R.base
 have VL:Ü≠P:=λq=>by show oN G.gns λo z z e z=>?_;rw[q,Xv]at e;show no e
 show YR G.bmain λbm ob b1 b2 b3 b4 b5 b6=>?_
 have XI:bm≠Ü:=λq=>by show tX G.gns λo es ep e hd z=>?_;rw[q,e]at b3;cases b3;show nomatch hd.symm.trans b6
 have Zm:bm≠P:=λq=>by rw[q,Xv]at b3;show no b3
 have cl:=lu (Z:=Z) scope λn hn=>by obtain ⟨h1,i,hi⟩:=K.free n hn;show gm (F.cells n i hi h1) λc u hc z=>⟨c,hc⟩
 have VE:defaultsOf params Z=([],[]):=by rw[hp];rfl
 have mr:=R.objs j P _ zD Wu;cases mr with
 |@tab _ _ ps hP ht iC=>
  show kla_eval VE (G7 cl F.glob F.blt ZQ A8 C hP ht (λpos cv e=>?_) VL ⟨bm,ob,b1,b2,XI,Zm,R.base _ _ b3,b4,b5,b6⟩ λc' CH h' tk Nz f pm hk EE TK VB og hcP hf ZL=>?_)
  ·show Vd (iC pos cv e) λc' o vs t e1 z e3 e4 e5 e6=>⟨c',e1,o,vs,t,e3,e4,e5,e6⟩
  ·have hd:∃o,h'.get? P=À o:=⟨_,EE⟩
   have S:SE J s.heap J h':=⟨λb o e hb=>.inl (hk b o (by rintro rfl;show hb Ru) e),λb o e=>by
    by_cases hb:b=P
    ·apply aY hb;show hd
    ·show⟨o,hk b o hb e⟩,[],(Ĭ _).symm,λz hm=>(nomatch hm)⟩
   have up:∀{d:È},(lI s.heap d (Z.qual++"<lambda>")\/(s.heap.get? d=Ã/\lI h' d (Z.qual++"<lambda>")))->d∉J/\lI h' d (Z.qual++"<lambda>"):=λ{d} x=>by
    show â x (λx=>?_) (λq=>aQ q λx y=>?_)
    ·have hn:=R.notCode x
     show JQ x λo vs t e1 e2 e3 e4=>⟨hn,o,vs,t,(S.pres _ _ e1 hn).hard (.inr ⟨e2,vs,e3⟩),e2,e3,e4⟩
    ·show⟨aX R x,y⟩
   have R':ar gg J (H.set j (.tab Z.qual)) h':=R.put zD Wu hk (.tab EE TK λpos cv e=>by show aE (VB pos cv e) λd h1 h2=>?_;obtain ⟨h3,o,vs,t,h4,h5,h6,h7⟩:=up h2;show⟨d,o,vs,t,h1,h3,h4,h5,h6,h7⟩) λq e=>by injection e with e;rw[e]
   have YV:H.set j (.tab Z.qual)=H:=by show ä (Ğ.mp Wu) λcG e=>?_;rw[<-e];show List.set_getElem_self cG
   rw[YV]at R';show h f _ ⟨S,R',⟨N,N,N⟩,aX R hf,pm,c',CH,ZL,(up og).2⟩
end
section
variable{A:Ñ}{E:Ä->Å->Prop}{J:List È}{H:ag}{s:Å}{Z:Env}{O:List (Str×Nat)}{U:aJ}
theorem Dm(K:AF scope Z.scope O nx x)(R:ar gg J H s.heap)(F:eQ (bw A) J Z O U s.heap)(hv:VR gg J s.heap v av)(hk:∀b o,s.heap.get? b=À o->bH.get? b=À o)(hL:s.heap.get? L=Ã)(io:bH.Ns L (λy=>[(x,av)].reverse.lookup y)):
  eQ (bw (A.deeper (newEnv scope L Ü (dG Z scope.names []) q (À f) cd Ã Ą))) J (newEnv scope L Ü (dG Z scope.names []) q (À f) cd Ã Ą) (cp scope O nx [x]) (cS U nx v) bH:=by
 have hf:∀n,(n,NameKind.free)∈scope.names->∃c,Z.cells.lookup n=À c:=λn hn=>by obtain ⟨h1,i,hi⟩:=K.free n hn;show gm (F.cells n i hi h1) λc u hc k=>⟨c,hc⟩
 have S:SE J s.heap J bH:=SE.keeps _ hk
 have nV:∀{x c},(dG Z scope.names []).lookup x=À c->Z.cells.lookup x=À c/\scope.names.lookup x=À .free:=λ{x c} e=>by
  show â (kH (mem_of_lookup e)) (λq=>aQ q λh1 h2=>?_) (λh1=>?_)
  ·show⟨h2,K.uniq _ _ h1⟩
  ·cases h1
 have Qv:∀{y i},nx<=i->[x][i-nx]?=À y->y=x/\i=nx:=λ{y i} h1 h2=>by
  have cG:=(Ğ.mp h2).1
  simp only[Ϫ,adY]at cG
  have e:i-nx=0:=Ů (ϋ cG) (ĥ _);rw[e]at h2;show⟨(Option.some.inj h2).symm,Ů (by show jL (y4 0xc3211b1010ba30212ba18081 N (iT cG) (iS _ _) (iA _ _))) (h1)⟩
 show⟨K.kind,N,N,⟨_,io,?_⟩,?_,aX R hL,aW R hL,?_,?_,?_,λq=>?_,λe he=>â (qz he) (λhe=>?_) ((F.stk.to λL o es ep h1 h2 h3=>⟨⟨o,es,ep,hk L o h1,h2⟩,h3⟩) e)⟩
 rotate_right
 ·rw[he]
  show tX io λo es ep ho hd k=>⟨?_,L,o,es,ep,N,ho,hd,aX R hL,aW R hL⟩;show scope.kind≠.module;rw[K.kind];show nofun
 ·intro y i w hy un yt
  show â (cr hy) (λq=>aQ q λh1 h2=>?_) (λq=>aQ q λh1 h2=>?_)
  ·show aQ (Qv h1 h2) λq1 q2=>?_;subst q1 q2
   simp only[cS,if_true]at yt
   cases yt;show⟨av,by simp,hv.step R S⟩
  ·have e1:scope.names.lookup y=À .local:=un
   rw[K.uniq _ _ h1]at e1;cases e1
 ·intro y i hy un
  show â (cr hy) (λq=>aQ q λh1 h2=>?_) (λq=>aQ q λh1 h2=>?_)
  ·show aQ (Qv h1 h2) λq1 q2=>?_;subst q1 q2
   exfalso
   show â un (λr=>?_) (λr=>?_)
   ·have e1:scope.names.lookup y=À .cell:=r
    rw[K.par]at e1;cases e1
   ·have e1:scope.names.lookup y=À .free:=r
    rw[K.par]at e1;cases e1
  ·obtain ⟨h3,j,hj⟩:=K.free y h1
   show fQ (F.cells y i h2 h3) λc u hc OR rP=>ä (du ((sG [] hf).2 h1 hc)) λc' ff=>?_;have MK:c'=c:=by have:=(nV ff).1;rw[hc]at this;show(Option.some.inj this).symm
   subst MK;show⟨c',u,ff,OR.keeps hk,λw hw=>?_⟩;have cG:=K.below _ _ (mem_of_lookup h2)
   simp only[cS,if_neg (ń cG)]at hw
   show aE (rP w hw) λa h4 h5=>⟨a,h4,h5.step R S⟩
 ·intro y c e
  show aQ (nV e) λh1 k=>JP (F.cellF y c h1) λSp h2 h3 h4=>?_;show ä Sp λu hu=>?_;show⟨⟨u,hu.keeps hk⟩,h2,λq=>aE hu λo ho k=>?_,h4⟩;rw[show c=L from q,hL]at ho;show no ho
 ·intro y z c e1 e2
  show F.cellI y z c (nV e1).1 (nV e2).1
 ·intro y z i e1 e2
  rcases cr e1 with ⟨h1,h2⟩|⟨h1,h2⟩<;>show â (cr e2) (λq=>aQ q λh3 h4=>?_) (λq=>aQ q λh3 h4=>?_)
  ·show(Qv h1 h2).1.trans (Qv h3 h4).1.symm
  ·show absurd (K.below _ _ (mem_of_lookup h4)) (ķ.mpr (Ŏ (Qv h1 h2).2.symm))
  ·show absurd (K.below _ _ (mem_of_lookup h2)) (ķ.mpr (Ŏ (Qv h3 h4).2.symm))
  ·show F.slots y z i h2 h4
 ·rw[show (newEnv scope L Ü (dG Z scope.names []) _ (À f) cd Ã Ą).scope=scope from N,K.lev]at q
  show absurd q Ķ
noncomputable def Ho:ax:=λz z z=>Ã
theorem u8(G:fU gg cx fs mg mb):∀(n:Nat) (e:Ô) (k:KX),EB cx Z.scope O n e=À k->aR A Z O e (ab Ho k.ce)
 |0,_,_,h=>no h
 |n+1,e,k,h=>by
  cases e with
  |Name x p=>
   show ie h λc i h1 h2 h=>?_;apply dJ h
   have hc:c=.var i:=by
    cases c<;>first|exact no h2|skip
    show congrArg _ (sm h2)
   subst hc;show rB G h1
  |Constant c m p=>
   show bT h λi h1 h=>?_;apply dJ h
   have hc:c=.int i:=by
    cases c<;>first|exact no h1|skip
    show congrArg _ (sm h1)
   apply aY hc;show oE N
  |Subscript v i p=>show ie h λa b h1 h2 h=>?_;apply dJ h;show BM (λl u st q e=>?_) (u8 G n v a h1) (u8 G n i b h2);subst e;cases n<;>show no h2
  |Tuple es m p=>
   show Bz h λx y h0 h=>ie h λa b h1 h2 h=>?_;apply dJ h;apply aY (ik h0);show tv (f:=λe=>(EB cx Z.scope O n e).bind λk=>À k.ce) (λe q=>by cases n<;>rfl) (λe c hc=>?_) ?_
   ·show bT hc λk h3 hc=>?_
    apply dJ hc;show u8 G n e k h3
   ·show ((EB cx Z.scope O n x).bind λk=>À k.ce).bind _=_
    rw[show EB cx Z.scope O n x=À a from h1];show ((((EB cx Z.scope O n y).bind λk=>À k.ce).bind _)).bind _=_;rw[show EB cx Z.scope O n y=À b from h2];rfl
  |_=>show no h
theorem qN:∀{ns:List Int} {ps:List KP},o0 k i U H ns=À ps->∃kvs,dF kvs ps/\ps.map (·.2)=ns/\∀(j:Nat) (p:KP) (kv:V),ps[j]?=À p->kvs[j]?=À kv->dq k (cS U i (.int p.2)) H=À kv
 |[],ps,h=>by apply dJ h;show⟨[],.nil,rfl,λj p kv h=>by simp at h⟩
 |n::ns,ps,h=>by
  show ie h λv l h1 h2 h=>?_;show bT h λqs h3 h=>?_;apply dJ h;show eJ (qN h3) λkvs a1 a2 a3=>⟨v::kvs,.cons h2 a1,by rw[œ,a2],λj p kv hp hk=>?_⟩;cases j with
  |zero=>cases hp;cases hk;show h1
  |succ j=>show a3 j p kv hp hk
theorem G5(G:fU gg cx fs mg mb)(wH:A.depth<í)(hp:params=⟨[],[a],Ã,[],[],Ã,[]⟩)(K:AF scope Z.scope O nx a.arg)(EK:EB cx scope (cp scope O nx [a.arg]) n body=À kx)
  (L:L9 J H Z params body scope Ý f s) (F:eQ (bw A) J Z O U s.heap) (r3:∀(j:Nat) (p:KP) (kv:V),ps[j]?=À p->kvs[j]?=À kv->dq kx (cS U nx (.int p.2)) H=À kv):AD A J H s (.ref f) ps kvs:=by
 intro j p kv t hj MO s' S' R' T' E;show oN L.ob λpm c' CH ho og=>?_;have F':=F.step L.R S';have sU:s'.heap.get? f=À (kla_obj "<lambda>" (Z.qual++"<lambda>") params body scope (dG Z scope.names []) pm c' CH):=(S'.pres _ _ ho L.fn).of λes ep q=>nomatch q;have RB:=L.R.notCode og
 have Vy:lI s'.heap c' (Z.qual++"<lambda>"):=by show JQ og λo vs u e1 e2 e3 e4=>⟨o,vs,u,(S'.pres _ _ e1 RB).hard (.inr ⟨e2,vs,e3⟩),e2,e3,e4⟩
 have zz:s'.heap.NoLimit:=G.nolimit.keeps R'.base;show Ŝ (kla_callFunE (body:=body) wH sU N K.cor K.gen N Vy.rec ?_);rw[lP (as:=[a]) hp N [.int p.2 t] N (ϛ.mpr ⟨(λh=>nomatch h),adz⟩)];show Ç (wpAny_newFunctionEnv (λx hx e=>?_) (λx hx=>?_) (λbH io XZ=>⟨zz.fresh _ XZ,kla_codeExpr ?_⟩) K.kind)
 ·rcases K.kinds x.1 x.2 hx with q|q|q<;>(rw[e]at q;cases q)
 ·rcases ą.mp hx with rfl|hx
  ·show K.par
  ·show nomatch hx
 have jc:∀b o,s'.heap.get? b=À o->bH.get? b=À o:=λb o e=>XZ.extBut b o (ń (ő e)) (O' _ e);have FL:=Dm (f:=f) (q:=Z.qual++"<lambda>"++".<locals>.") (cd:=.ref c') (v:=.int p.2) (av:=.int p.2 t) K R' F' (.int _ _) jc (aG _) io;have aA:ar gg J H bH:=R'.keeps jc;have he:=j7 (Á:=Ho) (r3 j p kv hj MO);show Ï (u8 (A:=A.deeper _) G n body kx EK _ _ _ _ he J {s' with heap:=bH,toks:=_} aA FL _) (λv cZ hq=>bA.el hq λaS dw bx dX gW=>?_) λz z x=>x;show aE dw.ext λu q2 z=>?_;subst q2
 have hu:u=[]:=by have h1:=bx.len;have h2:=R'.len;rw[Ā]at h1;show ϳ.mp (Ů (by show jL (y4 0xc08312b1013b1213ba320 N (iE h1) (iE h2) (iA _ _))) (ĥ _))
 subst hu;rw[Ĭ]at dw bx dX;show⟨SE.trans (SE.keeps _ jc) dw,bx,bK.trans ⟨N,N,N⟩ gW,dX⟩
end
section
variable{A:Ñ}{E:Ä->Å->Prop}{J:List È}{H:ag}{s:Å}{Z:Env}{O:List (Str×Nat)}{U:aJ}{Á:ax}{d:Nat}
def Uo(A:Ñ)(J:List È)(H:ag)(xs:List V)(a:Ä)(Ì:Å):Prop:=
 ∀(s':Å),SE J Ì.heap J s'.heap->ar gg J H s'.heap->∀ns,cB xs=À ns->ns.length<=10000000->∀(E:Ä->Å->Prop) (Q:List Ä->Å->Prop),
  (∀h' tk vs,(∀b o,s'.heap.get? b=À o->h'.get? b=À o)->ò vs ns->Q vs {s' with heap:=h',toks:=tk})->É mo A.in1 (collect a) Q E s'
theorem rq:∀(l:List Nat),cB (l.map λ(i:Nat)=>V.int (a+(i:Int)*c))=À (l.map λ(i:Nat)=>a+(i:Int)*c)
 |[]=>rfl
 |i::l=>by show (cB (l.map λ(i:Nat)=>V.int (a+(i:Int)*c))).bind _=_;rw[rq l];rfl
theorem Lz(hA:i5 A d)(G:fU gg cx fs mg mb)(hs:∀e p,f (.Starred e p)=Ã)(da:∀e c,f e=À c->aR A Z O e (ab Á c))(h:EA f cx Z.scope x=À it)(ho:Sk it=Æ)
  (r4:cD Á it U H=À (xs,w,Î)) (hw:BP it w=Æ) (R:ar gg J H s.heap) (F:eQ (bw A) J Z O U s.heap)
  (k:∀a Ì aj,SE J s.heap aj Ì.heap->bK s Ì->ar gg aj Î Ì.heap->eQ (bw A) aj Z O U Ì.heap->Uo A aj Î xs a Ì->Q a Ì):É mo A (eval x Z) Q E s:=by
 cases it with
 |ex c=>
  have hx:aR A Z O x (ab Á c):=(tN _ h).elim (λq=>aE q λc' e hc=>da _ _ (hc.trans (congrArg Wv e).symm)) λq=>q.elim (λq=>P7 q λz z z z q=>absurd (congrArg TY q.1) afr) λq=>absurd q.symm (acQ 1);show dK (show bY (ab Á c U H) (λx Î=>(o9 Î x).bind λp=>À (p.1,p.2,Î))=_ from r4) λv Û h1 r4=>?_;show Bz r4 λYr w' h2 r4=>?_;show im (NI r4) λq1 q2 q3=>?_;subst q1 q2 q3;show hx.bind h1 R F λa Ì aj S T aA ba bo=>k a Ì aj S T aA ba ?_;intro s' S' R' ns io hz E Q hQ;have V':=bo.step aA S';cases V' with
  |ref hr=>show bT (m:=lst Û _) h2 λl' jd h2=>?_;show aQ (nP h2) λq1 z=>?_;subst q1;show eJ (R'.list hr jd) λvs hl hv z=>?_;have hI:=nH io hv;show Fz hl.isList hI (by rw[hI.length];show z' hz (ab2 N)) hQ
  |tup _ _ _ _=>show aQ (nP h2) λz q2=>?_;subst q2;show absurd hw Ķ
  |ro _ _ _=>show aQ (nP h2) λz q2=>?_;subst q2;show absurd hw Ķ
  |none=>show no h2
  |bool _=>show no h2
  |int _ _=>show no h2
  |str _ _=>show no h2
 |rng1 c=>
  have hx:∃y p q,x=.Call (.Name ("range":Str) p) [y] [] q/\bp Z.scope ("range":Str)=Æ/\f y=À c:=(tN _ h).elim (λq=>aE q λz e z=>absurd (congrArg TY e) Nat.one_ne_zero) λq=>q.elim (λq=>Vc q λy p q c' e e1 e2 e3=>⟨y,p,q,e1,e2,e3.trans (congrArg Wv e).symm⟩) λq=>absurd (ad5.inj q.symm) (acQ 0);show tX hx λy p q q4 hg hy=>?_;apply aY q4;have io:∀e q,y≠.Starred e q:=λe q e'=>by rw[e',hs]at hy;show no hy
  show AP (show qf (ab Á c U H) (λn Î=>if jC n then À (cz 0 n 1,[],Î) else Ã)=_ from r4) λn Û h1 r4=>?_;show dC r4 λC8 r4=>?_;show im (NI r4) λq1 q2 q3=>?_;subst q1 q2 q3;show aQ (bO hg) λme mf=>?_;have fE:Ù [y] Z=(Ê,eval y Z)::Ù [] Z:=nq io;show ĉ N (cF G F R me mf (by decide) (v:=.type "range") (by decide +kernel) (bQ (.inr ⟨_,N⟩) (è ((da _ _ hy).bind h1 R F λb Ì aj S T aA ba bo=>Ĕ ?_) fE) fE N));show ä (vI N bo) λt1 q2=>?_;apply aY q2;have zC:Builtin.Range.small 0 n 1=Æ:=rx (by decide) (by decide) (ng C8) (by decide);show call_range_1 ?_;have hk:∀b o,Ì.heap.get? b=À o->(Ì.heap.push {cls:=.type "range",data:=.fields #[.int 0 (Ì.toks+1),.int n t1,.int 1 (Ì.toks+2)]}).get? b=À o:=λb o e=>O' _ e;have hr:=IsRange.new Ì.heap 0 n 1 (Ì.toks+1) t1 (Ì.toks+2);show k _ _ aj (S.trans (SE.keeps _ λb o e=>O' _ e)) (T.trans ⟨N,N,N⟩) (aA.keeps λb o e=>O' _ e) (ba.step aA (SE.keeps _ λb o e=>O' _ e)) ?_;intro s' S' R' ns io hz E Q hQ;have MQ:=fJ 0 n 1 (by decide);have XY:iZ 0 n 1=(Builtin.Range.rangeSize 0 n 1).toNat:=Dw 0 n 1;have RV:ns=(č (iZ 0 n 1)).map λ(i:Nat)=>(0:Int)+(i:Int)*1:=(sm ((rq _).symm.trans io)).symm;have cb:iZ 0 n 1<=10000000:=by rw[RV,H',Ľ]at hz;show hz
  show CD (n:=iZ 0 n 1) (a:=0) (b:=n) (c:=1) hA.handled ((S'.pres _ _ (ŀ _ N) (aX aA (aG _))).of λes ep q=>nomatch q) zC (by show ņ (y3 0xc0213b1010b12 N (iE XY) (adH _)) (y3 0xc2012b1012b21 N (iE XY) (Ϥ (y1 0xc00810b008 N MQ)))) (by lia) (by rw[<-RV];show hQ)
 |_=>show absurd ho Ķ
theorem DX(hA:i5 A d)(G:fU gg cx fs mg mb)(hs:∀e p,f (.Starred e p)=Ã)(da:∀e c,f e=À c->aR A Z O e (ab Á c))(hg:bp Z.scope ("sorted":Str)=Æ)(h:Tm (λi=>EA f cx Z.scope i) cx Z.scope O nx as k=À c):
  aR A Z O (.Call (.Name ("sorted":Str) p) as [k] pos) (ab Á c):=by
 show bT h λx hx h=>?_;show aE (ob h) λk1 hl h=>?_;obtain ⟨a,body,scope⟩:=k1;show dC h λhc h=>?_;show bT h λit sT h=>?_;show dC h λpL h=>?_;show bT h λkx EK h=>?_;apply dJ h;apply aY (bX hx)
 simp only[ō,beq_iff_eq]at hc
 show aQ hc λk2 V1=>?_;show aQ k2 λBa OY=>?_;obtain ⟨ka,kv,kp⟩:=k;obtain rfl:ka=À ("key":Str):=Ba;show fQ (zV hl) λps lp q3 zB Rx=>?_;subst q3;have K:=G4 V1;have XW:=uT zB Rx;intro U H v ae he J s R F E;show oK (show mE (cD Á it U H) (λxs w Î=>if BP it w then l8 kx nx U Î xs else Ã)=_ from he) λxs w Î h1 he=>?_;show dC he λhw he=>?_;show bT he λns io he=>?_;show aQ (cT he) λk3 he=>?_;show aQ k3 λhr hz=>?_;show bT he λkps VX he=>?_;show dC he λsV he=>?_;show im (gb he) λhzz q2 q3=>?_;apply aY q2;apply aY q3;show eJ (qN VX) λkvs Ba C5 r3=>?_;show aQ (bO hg) λme mf=>?_
 have fE:Ù [x] Z=(Ê,eval x Z)::Ù [] Z:=by
  cases x with
  |Starred e q=>
   exfalso
   have:Cy f (.Starred e q)=À it:=sT;show bT this λc' ff z=>?_;rw[hs]at ff;show no ff
  |_=>rfl
 have wH:A.in1.in1.depth<í:=by
  have h1:=hA.depth;have h2:600<í:=by decide
  show A.depth<_;show jT (y4 0x1c1310b02589011b10258910b20813ba230 N (iL h1) (iT h2) (iP _) (iA _ _))
 show wpAny_Call_Name_kw (cF G F R me mf (by decide) (v:=.builtin "sorted") (by decide +kernel) (callWith_kw (è (Lz hA G hs da sT pL h1 hw R F λb Ì aj S T aA ba Uz=>Ĕ ?_) fE) (by rw[fE];rfl) (by rw[fE];rfl)));show Â (Â (G6 (a:=a) G aA ba OY K XW λq cZ L=>Â (ē (Ç ?_))));show Â (ß (Ç (Ç ?_)));have fc:=ba.step aA L.S;show Ï (Am (kvs:=kvs) (ps:=kps) L.R (λQ hQ=>Uz cZ L.S L.R ns io hz E Q (by rw[<-C5];show hQ)) Ba (by rw[C5];show hr) sV (by rw[cH Ba,<-H' (f:=(·.2)),C5];show hz) (G5 G wH XW K EK L fc r3)) (λz z x=>bA.after (S.trans L.S) (T.trans L.T) x) λz z x=>x
end
end L.Lake
namespace L.Lake
open PySem PyProof.Rows PySem.Calls PySem.SeqAt
open Builtin Builtin.ObjectAttr
structure fh(h:Ó)(C C0:È)(mN mN0:Str->Option Ä):Prop where
 c:fw h C (.ref C0::jW) mN
 c0:fw h C0 jW mN0
theorem fw.keeps(X:fw h C tl mN)(hk:∀b o,h.get? b=À o->h'.get? b=À o):fw h' C tl mN:=⟨X.obj.elim λD y=>⟨D,hk _ _ y.1,y.2.keeps hk⟩,X.quiet⟩
theorem fw.el{h:Ó}{C:È}{tl:List Ä}{mN:Str->Option Ä}{P:Prop}(X:fw h C tl mN)(k:∀D:EP,h.get? C=À (D.obj C tl)->h.Ns D.pzJ mN->P):P:=X.obj.elim λD y=>k D y.1 y.2
section
variable{A:Ñ}{E:Ä->Å->Prop}{h:Ó}{g:Array ø}{d:Drawn}{t:Nat}{os:ô}
 {C C0 x:È} {mN mN0 mA:Str->Option Ä} {name:Str} {v:Ä}
theorem wV{n:Str}{y:Option Ä}{Q:Option Ä->Å->Prop}(S:fh h C C0 mN mN0)(hB:ă (.type "ValueError") n=pure y)
  (hq:Q (match mN n with|some v=>À v|none=>match mN0 n with|some v=>À v|none=>y) ⟨h,g,d,t,os⟩):É mo A (ă (.ref C) n) Q E ⟨h,g,d,t,os⟩:=by
 show S.c.el λD hC hn=>S.c0.el λD0 Kd MQ=>?_
 have jN:lookupAlong jW n=pure y:=by rw[typeLookup_eq,PySem.F.excBase_ValueError.mroIs]at hB;show hB
 rw[typeLookup_eq];show Â (wpAny_mroOf_exc hC ?_);rw[lookupAlong_cons];show Â (wpAny_classOwn_exc hC hn ?_);cases hv:mN n with
 |some v=>rw[hv]at hq;show Ç hq
 |none=>
  rw[hv]at hq;show É _ _ (lookupAlong (.ref C0::jW) n) _ _ _;rw[lookupAlong_cons];show Â (wpAny_classOwn_cls Kd MQ ?_);cases Pd:mN0 n with
  |some v=>rw[Pd]at hq;show Ç hq
  |none=>rw[Pd]at hq;show É _ _ (lookupAlong jW n) _ _ _;rw[jN];show Ç hq
theorem dN(S:fh h C C0 mN mN0)(hk:n∉iv)(hB:ă (.type "ValueError") n=pure y)(hq:Q y ⟨h,g,d,t,os⟩):É mo A (ă (.ref C) n) Q E ⟨h,g,d,t,os⟩:=by show wV S hB ?_;rw[S.c.quiet n hk,S.c0.quiet n hk];show hq
theorem fj(hb:jW.contains (.type X)=b):(Value.ref C::.ref C0::jW).contains (.type X)=b:=by rw[ϗ,ϗ,hb];rfl
end
def js(A:Ñ)(E:Ä->Å->Prop)(h:Ó)(g:Array ø)(d:Drawn)(t:Nat)(os:ô)(C:È)(C0:È)(mN:Str->Option Ä)(mN0:Str->Option Ä)(aD:List Ä)(Q:Unit->Å->Prop):Prop:=∀(S:fh h C C0 mN mN0) (hq:Q () ⟨h,g,d,t,os⟩),É mo A (ÿ "ValueError.__new__" ⟨.ref C::aD,[]⟩) Q E ⟨h,g,d,t,os⟩
namespace check_newH
def kc:=hc (QN js) ({},λz z=>True,default,#[],{},0,default,0,0,λz=>Ã,λz=>Ã,[],λz z=>True)
def A:=kc.1
def E:=kc.2.1
def h:=kc.2.2.1
def g:=kc.2.2.2.1
def d:=kc.2.2.2.2.1
def t:=kc.2.2.2.2.2.1
def os:=kc.2.2.2.2.2.2.1
def C:=kc.2.2.2.2.2.2.2.1
def C0:=kc.2.2.2.2.2.2.2.2.1
def mN:=kc.2.2.2.2.2.2.2.2.2.1
def mN0:=kc.2.2.2.2.2.2.2.2.2.2.1
def aD:=kc.2.2.2.2.2.2.2.2.2.2.2.1
def Q:=kc.2.2.2.2.2.2.2.2.2.2.2.2
theorem kt:js A E h g d t os C C0 mN mN0 aD Q:=by
 intro S hq;show S.c.el λD hC hn=>?_;have Fn:=PySem.F.excBase_ValueError;have RC:(Value.ref C::.ref C0::jW).contains (.type "ValueError")=Æ:=fj Fn.hasB;have hstar:=Fn.noStar;unfold ÿ;rw[Fn.newKind,Fn.newSplit]at ⊢;dsimp only
 repeat (first|refine Õ hC ?_|(refine á hC ?_;rw[RC]at ⊢)|refine wpAny_staticBase_exc hC ?_|refine wpAny_madeBy_exc hC ?_|rw[Fn.newRow]at ⊢|simp only[bne_self_eq_false,abS,if_false]|wp_step)
 show hq
end check_newH
theorem CA{os:ô}:js A E h g d t os C C0 mN mN0 aD Q:=hk (P:=QN js) check_newH.kt (A,E,h,g,d,t,os,C,C0,mN,mN0,aD,Q)
def mK(A:Ñ)(h:Ó)(g:Array ø)(d:Drawn)(t:Nat)(os:ô)(C:È)(C0:È)(mN:Str->Option Ä)(mN0:Str->Option Ä)(aD:List Ä)(R:Result->Å->Prop):Prop:=∀(S:fh h C C0 mN mN0) (jN:aD.length<=ê) (hq:R (.ok (.ret (.ref (h.objs.size+1)))) ⟨(h.push {cls:=.type "tuple",data:=.seq aD.toArray}).push {cls:=.ref C,data:=.fields #[.ref h.objs.size,.none,.none,.none,.bool Ê,.none]},g,d,t,os⟩),ĝ mo A (.builtin "ValueError.__new__" ⟨.ref C::aD,[]⟩) R ⟨h,g,d,t,os⟩
namespace exc_newH
def kc:=hc (Of mK) ({},default,#[],{},0,default,0,0,λz=>Ã,λz=>Ã,[],λz z=>True)
def A:=kc.1
def h:=kc.2.1
def g:=kc.2.2.1
def d:=kc.2.2.2.1
def t:=kc.2.2.2.2.1
def os:=kc.2.2.2.2.2.1
def C:=kc.2.2.2.2.2.2.1
def C0:=kc.2.2.2.2.2.2.2.1
def mN:=kc.2.2.2.2.2.2.2.2.1
def mN0:=kc.2.2.2.2.2.2.2.2.2.1
def aD:=kc.2.2.2.2.2.2.2.2.2.2.1
def R:=kc.2.2.2.2.2.2.2.2.2.2.2
theorem kt:mK A h g d t os C C0 mN mN0 aD R:=by
 intro S jN hq;show S.c.el λD hC hn=>?_;have Fn:=PySem.F.excBase_ValueError;have hends:=Fn.ends;have zw:(Value.ref C::.ref C0::jW).contains (.type "ValueError")=Æ:=fj Fn.hasB;have Zs:(Value.ref C::.ref C0::jW).contains (.type "AttributeError")=Ê:=fj Fn.noAttr;have Zv:(Value.ref C::.ref C0::jW).contains (.type "NameError")=Ê:=fj Fn.noName;show codeAny_builtinAt Fn.entry ?_;unfold Đ.«BaseException.__new__»;show PySem.wpAt_bind ?_;show PySem.wpAt _ _ _ (stack>>=_) _ _ _;show PySem.wpAt_bind (PySem.wpAt_stack λp below=>PySem.wpAt_of_wpAny ?_)
 wp_walk
 show PySem.wpAt_of_wpAny ?_;rw[Fn.owner]
 repeat (first|with_reducible refine wpAny_madeHere_exc Fn.canon hC ?_|with_reducible refine Õ hC ?_|(with_reducible refine á hC ?_;first|rw[zw]|rw[Zs]|rw[Zv])|wp_step)
 show R _ _;rw[ϓ];show hq
end exc_newH
theorem J2{A:Ñ}{h:Ó}{g:Array ø}{d:Drawn}{t:Nat}{os:ô}{C:È}{C0:È}{mN:Str->Option Ä}{mN0:Str->Option Ä}{aD:List Ä}{R:Result->Å->Prop}:mK A h g d t os C C0 mN mN0 aD R:=hk (P:=Of mK) exc_newH.kt (A,h,g,d,t,os,C,C0,mN,mN0,aD,R)
section
variable{A:Ñ}{E:Ä->Å->Prop}{h:Ó}{g:Array ø}{d:Drawn}{t:Nat}{os:ô}
 {C C0 x:È} {mN mN0 mA:Str->Option Ä} {name:Str} {v:Ä}
theorem fh.keeps(S:fh h C C0 mN mN0)(hk:∀b o,h.get? b=À o->h'.get? b=À o):fh h' C C0 mN mN0:=⟨S.c.keeps hk,S.c0.keeps hk⟩
end
def jH(A:Ñ)(E:Ä->Å->Prop)(h:Ó)(g:Array ø)(d:Drawn)(t:Nat)(os:ô)(C:È)(C0:È)(mN:Str->Option Ä)(mN0:Str->Option Ä)(aD:List Ä)(fI:È)(oI:Obj)(Q:PySem.Fin->Å->Prop):Prop:=∀(S:fh h C C0 mN mN0) (h1:mN ("__init__":Str)=Ã) (h2:mN0 ("__init__":Str)=À (.ref fI)) (Tx:h.get? fI=À oI) (Tz:oI.cls=.type "function") (jN:aD.length<=ê) (hq:∀h' e,Heap.MadeExcOf h h' e (.ref C) aD->É mo A (Á (.ref fI) (.ref e::aD)) (λr s'=>r=.none/\Q (.done (.ret (.ref e))) s') E ⟨h',g,d,t,os⟩),É mo A (Đ.«type.__call__» ⟨.ref C::aD,[]⟩) Q E ⟨h,g,d,t,os⟩
namespace type_callH
def kc:=hc (yp jH) ({},λz z=>True,default,#[],{},0,default,0,0,λz=>Ã,λz=>Ã,[],0,default,λz z=>True)
def A:=kc.1
def E:=kc.2.1
def h:=kc.2.2.1
def g:=kc.2.2.2.1
def d:=kc.2.2.2.2.1
def t:=kc.2.2.2.2.2.1
def os:=kc.2.2.2.2.2.2.1
def C:=kc.2.2.2.2.2.2.2.1
def C0:=kc.2.2.2.2.2.2.2.2.1
def mN:=kc.2.2.2.2.2.2.2.2.2.1
def mN0:=kc.2.2.2.2.2.2.2.2.2.2.1
def aD:=kc.2.2.2.2.2.2.2.2.2.2.2.1
def fI:=kc.2.2.2.2.2.2.2.2.2.2.2.2.1
def oI:=kc.2.2.2.2.2.2.2.2.2.2.2.2.2.1
def Q:=kc.2.2.2.2.2.2.2.2.2.2.2.2.2.2
theorem kt:jH A E h g d t os C C0 mN mN0 aD fI oI Q:=by
 intro S h1 h2 Tx Tz jN hq;show S.c.el λD hC hn=>?_;have Fn:=PySem.F.excBase_ValueError
 repeat (first|with_reducible refine Õ hC ?_|with_reducible refine wpAny_madeBy_exc hC ?_|wp_step)
 show codeAny_call_builtin_code (Code.quiet_builtin _ Fn.quiet) (CA S (J2 S jN ?_));show É _ _ _ _ _ _;have kp:∀b o,h.get? b=À o->((h.push {cls:=.type "tuple",data:=.seq aD.toArray}).push {cls:=.ref C,data:=.fields #[.ref h.objs.size,.none,.none,.none,.bool Ê,.none]}).get? b=À o:=λb o e=>O' _ (O' _ e);have iQ:=S.keeps kp;have Rr:=kp _ _ hC;have OT:=kp _ _ Tx
 have RM:((h.push {cls:=.type "tuple",data:=.seq aD.toArray}).push
   {cls:=.ref C,data:=.fields #[.ref h.objs.size,.none,.none,.none,.bool Ê,.none]}).get? (h.objs.size+1)=À
   {cls:=.ref C,data:=.fields #[.ref h.objs.size,.none,.none,.none,.bool Ê,.none]}:=by heap_get
 have Vx:(Value.ref C::.ref C0::jW).contains (.ref C)=Æ:=by simp
 unfold isInstance
 repeat (first|with_reducible refine Õ RM ?_|(with_reducible refine á Rr ?_;rw[Vx])|wp_step)
 show É _ _ (ă (.ref C) _) _ _ _;show wV iQ Fn.init.lookup ?_;rw[h1,h2];show ß (Â ?_);unfold bindSpecial;show Â (ŝ (T := "function") ⟨_,OT,Tz⟩ ?_);rw[if_pos (by decide)];show Ç (Â (Ï (hq _ (h.objs.size+1) ⟨kp,abD (ϐ _),h.objs.size,RM,abD (đ _),?_⟩) (λr s' hr=>?_) λz z x=>x))
 ·show O' _ (afa N N)
 ·show aQ hr λq1 hQ=>?_;apply aY q1
  wp_walk
  show hQ
end type_callH
theorem Ed{os:ô}:jH A E h g d t os C C0 mN mN0 aD fI oI Q:=hk (P:=yp jH) type_callH.kt (A,E,h,g,d,t,os,C,C0,mN,mN0,aD,fI,oI,Q)
section
variable{A:Ñ}{E:Ä->Å->Prop}{h:Ó}{g:Array ø}{d:Drawn}{t:Nat}{os:ô}
 {C C0 x:È} {mN mN0 mA:Str->Option Ä} {name:Str} {v:Ä}
theorem Fu{aD:List Ä}{fI:È}{oI:Obj}{Q:Ä->Å->Prop}(S:fh h C C0 mN mN0)(h1:mN ("__init__":Str)=Ã)(h2:mN0 ("__init__":Str)=À (.ref fI))(Tx:h.get? fI=À oI)(Tz:oI.cls=.type "function")(jN:aD.length<=ê)
  (hq:∀h' e,Heap.MadeExcOf h h' e (.ref C) aD->É mo (A.under (.builtin "type.__call__" ⟨.ref C::aD,[]⟩)) (Á (.ref fI) (.ref e::aD)) (λr s'=>r=.none/\Q (.ref e) s') E ⟨h',g,d,t,os⟩) :
  É mo A (Á (.ref C) aD) Q E ⟨h,g,d,t,os⟩:=by
 show S.c.el λD hC hn=>?_;have f1:=tc_lookup;have f2:=tc_bind (.ref C);have hT:(⟨h,g,d,t,os⟩:Å).TypeIs (.ref C) "type" := ⟨_,hC,N⟩;show Ŝ (codeAny_of_tree ?_);show É _ _ (callAny (.ref C) _) _ _ _
 repeat (any_goals (first|assumption|with_reducible refine Õ hC ?_|wp_step))
 show⟨N,(codeAny_call_builtin_at (Code.quiet_builtin _ (by decide +kernel)) entry_typeCall (wpAny_check_type_call_sub hC (Ed S h1 h2 Tx Tz jN λh' e hm=>hq h' e hm)))⟩
end
open Builtin Builtin.ObjectAttr
theorem Bt:ă (.type "ValueError") ("word":Str)=pure Ã:=by rw[ł,ě];kernel_rfl
theorem By:("word":Str)∉iv:=by decide +kernel
theorem PA:("__setattr__":Str)∉iv:=by decide +kernel
section
variable{A:Ñ}{E:Ä->Å->Prop}{h:Ó}{g:Array ø}{d:Drawn}{t:Nat}{os:ô}
 {C C0 x:È} {mN mN0:Str->Option Ä} {v:Ä} {vs:Array Ä} {sl:Array (Option Ä)}
def EY(h:Ó)(x C:È)(vs:Array Ä)(sl:Array (Option Ä))(v:Ä)(h':Ó):Prop:=
 ∃D,h'.get? x=À {cls:=.ref C,dict:=À D,data:=.fields vs,slots:=sl}/\h'.Ns1 D (λy=>if y=("word":Str) then À v else Ã)/\h.get? D=Ã/\∀b ob,b≠x->h.get? b=À ob->h'.get? b=À ob
end
def jB(A:Ñ)(E:Ä->Å->Prop)(h:Ó)(g:Array ø)(d:Drawn)(t:Nat)(os:ô)(C:È)(C0:È)(x:È)(mN:Str->Option Ä)(mN0:Str->Option Ä)(v:Ä)(vs:Array Ä)(sl:Array (Option Ä))(tk:Tok)(o:Obj)(Q:PySem.Fin->Å->Prop):Prop:=∀(S:fh h C C0 mN mN0) (hx:h.get? x=À o) (hc:o.cls=.ref C) (RG:o.dict=Ã) (Tw:o.data=.fields vs) (sV:o.slots=sl) (hq:∀h' LK,EY h x C vs sl v h'->Q (.done (.ret .none)) ⟨h',g,d,LK,os⟩),É mo A (Đ.«object.__setattr__» ⟨[.ref x,.str "word" tk,v],[]⟩) Q E ⟨h,g,d,t,os⟩
namespace set_entryH
def kc:=hc (U2 λb0=>U2 λb1=>U2 λb2=>yp (jB b0 b1 b2)) ({},λz z=>True,default,#[],{},0,default,0,0,0,λz=>Ã,λz=>Ã,.none,#[],#[],default,default,λz z=>True)
def A:=kc.1
def E:=kc.2.1
def h:=kc.2.2.1
def g:=kc.2.2.2.1
def d:=kc.2.2.2.2.1
def t:=kc.2.2.2.2.2.1
def os:=kc.2.2.2.2.2.2.1
def C:=kc.2.2.2.2.2.2.2.1
def C0:=kc.2.2.2.2.2.2.2.2.1
def x:=kc.2.2.2.2.2.2.2.2.2.1
def mN:=kc.2.2.2.2.2.2.2.2.2.2.1
def mN0:=kc.2.2.2.2.2.2.2.2.2.2.2.1
def v:=kc.2.2.2.2.2.2.2.2.2.2.2.2.1
def vs:=kc.2.2.2.2.2.2.2.2.2.2.2.2.2.1
def sl:=kc.2.2.2.2.2.2.2.2.2.2.2.2.2.2.1
def tk:=kc.2.2.2.2.2.2.2.2.2.2.2.2.2.2.2.1
def o:=kc.2.2.2.2.2.2.2.2.2.2.2.2.2.2.2.2.1
def Q:=kc.2.2.2.2.2.2.2.2.2.2.2.2.2.2.2.2.2
set_option tactic.hygienic true in
theorem kt:jB A E h g d t os C C0 x mN mN0 v vs sl tk o Q:=by
 intro S hx hc RG Tw sV hq;show S.c.el λD hC hn=>?_;have SF:=PySem.F.store_ValueError;have R7:refuseLoop (.ref x) "__setattr__" jW=pure ():=SF.passes (.ref x);unfold Đ.«object.__setattr__»
 repeat (first|rw[refuse_eq]|(rw[refuseLoop_ref,refuseLoop_ref,R7])|(with_reducible refine Õ hx ?_;rw[hc])|with_reducible refine wpAny_mroOf_exc hC ?_|with_reducible refine dN S By Bt ?_|wp_step)
 rw[RG,if_neg (by simp [typeHasDict])];split
 ·rename_i og
  show no og
 split
 ·rename_i c og
  show nomatch Tw.symm.trans og
 have M1:(h.push {cls:=.type "dict",data:=.dict #[]}).get? x=À o:=O' _ hx;have TS:x≠h.objs.size:=ń (ő hx);show Â (wpAny_alloc' (Â (wpAny_update' M1 (Ç ?_))))
 have ZN:((h.push {cls:=.type "dict",data:=.dict #[]}).update x λo=>{cls:=o.cls,dict:=À h.objs.size,data:=o.data,slots:=o.slots}).get? h.objs.size
   = À {cls:=.type "dict",data:=.dict #[]}:=(aeN _ _ _ _ TS.symm).trans (afa N N)
 have MS:((h.push {cls:=.type "dict",data:=.dict #[]}).update x λo=>{cls:=o.cls,dict:=À h.objs.size,data:=o.data,slots:=o.slots}).Ns h.objs.size (λ_=>Ã):=
  ⟨_,#[],_,ZN,rfl,λe he=>absurd he (by simp),λ_=>rfl⟩
 show É _ _ (storeInDict h.objs.size (.str "word" tk) "word" v) _ _ _;unfold storeInDict newKeyGuard;show Â (Ç (Â (wpAny_nsSet1 (Heap.Ns1.of_empty MS) λh' lV hs=>tX (lV.count (Within.cons ("word":Str) v Within.nil)) λoD esD epD Z7 ZA Zt=>Â (wpAny_lookBehind Z7 (by rw[ZA];show pastItsLine_dict (z' Zt (by rw[Ϫ,adY,sizeLine_eq];show jL (y2 0xc1012ba1808013ba1800000000000001000000d1 N (iA _ _) (iA _ _))))) ?_))))
 wp_walk
 show hq h' _ ⟨h.objs.size,?_,lV,abD (đ _),λb ob Zr hb=>?_⟩
 ·show(hs.2 x TS).trans ((ϟ _ M1 ?_).trans ?_)
  ·show Obj.isFreed_of_fields Tw
  ·rw[hc,Tw,sV]
 ·show(hs.2 b (ń (ő hb))).trans ((aeN _ _ _ _ Zr).trans (O' _ hb))
end set_entryH
theorem DC{os:ô}:jB A E h g d t os C C0 x mN mN0 v vs sl tk o Q:=hk (P:=U2 λb0=>U2 λb1=>U2 λb2=>yp (jB b0 b1 b2)) set_entryH.kt (A,E,h,g,d,t,os,C,C0,x,mN,mN0,v,vs,sl,tk,o,Q)
section
variable{A:Ñ}{E:Ä->Å->Prop}{h:Ó}{g:Array ø}{d:Drawn}{t:Nat}{os:ô}
 {C C0 x:È} {mN mN0:Str->Option Ä} {v:Ä} {vs:Array Ä} {sl:Array (Option Ä)}
theorem Fw(S:fh h C C0 mN mN0)(hx:h.get? x=À o)(hc:o.cls=.ref C)(hq:Q () ⟨h,g,d,t,os⟩):É mo A (ÿ "object.__setattr__" ⟨[.ref x,nameV,v],[]⟩) Q E ⟨h,g,d,t,os⟩:=by
 show S.c.el λD hC hn=>?_;have SF:=PySem.F.store_ValueError;have zw:(Value.ref C::.ref C0::jW).contains (.type "object")=Æ:=fj SF.hasOwner;have ha:=SF.args (.ref x) nameV v
 simp only[ÿ,SF.kind,SF.split]
 show Â ?_
 ·unfold isInstance
  repeat (first|(with_reducible refine Õ hx ?_;rw[hc])|(with_reducible refine á hC ?_;rw[zw])|wp_step)
  show hq
theorem HP(S:fh h C C0 mN mN0)(hx:h.get? x=À {cls:=.ref C,data:=.fields vs,slots:=sl})
  (hq:∀h' LK,EY h x C vs sl v h'->Q () ⟨h',g,d,LK,os⟩):É mo A (setAttr (.ref x) "word" v) Q E ⟨h,g,d,t,os⟩:=by
 have SF:=PySem.F.store_ValueError;have f3:=SF.slot.bind (.ref x);unfold setAttr callSpecial? specialOf
 repeat (any_goals (first|assumption|with_reducible refine Õ hx ?_|with_reducible refine dN S PA SF.slot.lookup ?_|wp_step))
 show Č SF.slot.plain SF.entry (Fw S hx N (DC (sl:=sl) S hx N N N N λh' LK W=>?_))
 repeat (any_goals (first|assumption|wp_step))
 show hq h' LK W
end
section
variable{A:Ñ}{E:Ä->Å->Prop}{s:Å}{C C0 e f:È}{mN mN0:Str->Option Ä}{v:Ä}{vs:Array Ä}
theorem Da(I:iO s.heap f)(wH:A.depth<í)(zz:s.heap.NoLimit)(S:fh s.heap C C0 mN mN0)(hx:s.heap.get? e=À {cls:=.ref C,data:=.fields vs})
  (hq:∀h' LK,(∃D,h'.get? e=À {cls:=.ref C,dict:=À D,data:=.fields vs}/\h'.Ns1 D (λy=>if y=("word":Str) then À v else Ã)/\s.heap.get? D=Ã/\∀b ob,b≠e->s.heap.get? b=À ob->h'.get? b=À ob)->Q .none {s with heap:=h',toks:=LK}) :
  É mo A (Á (.ref f) [.ref e,v]) Q E s:=by
 show EC I.ex λo fd a1 a2 ho IO og=>P7 IO.init λp1 p2 p3 p4 hb=>?_;have Rz:bindArgs fd ⟨[.ref e,v],[]⟩=pure ((([a1,a2].map (·.arg))).zip [.ref e,v]):=lP IO.params IO.df [.ref e,v] N (by rw[œ,œ,IO.n1,IO.n2];decide);have OP:bindArgs fd ⟨[.ref e,v],[]⟩=pure [(("self":Str),.ref e),(("word":Str),v)]:=by rw[Rz,œ,œ,IO.n1,IO.n2];rfl
 have Nh:fd.scope.names.lookup ("self":Str)=À .local:=by rw[IO.names];decide
 have Ni:fd.scope.names.lookup ("word":Str)=À .local:=by rw[IO.names];decide
 show Ŝ (codeAny_call_cells wH ho IO.data zz og hb OP IO.clo (λx hx=>?_) (λÌ x=>?_) IO.co IO.gen IO.kind)
 ·rcases ą.mp hx with rfl|hx
  ·show .inl Nh
  ·rw[W'.mp hx];show .inl Ni
 ·have keep:=x.toInCall.keep
  show mJ x.toInCall.same λbH ph GF=>?_;have k1:(ĩ fd s.heap.objs.size f).kindOf ("self":Str)=À .local:=Nh;have k2:(ĩ fd s.heap.objs.size f).kindOf ("word":Str)=À .local:=Ni;have nd:([(("self":Str),Value.ref e),(("word":Str),v)].map (·.1)).Nodup:=by show (["self","word"]:List Str).Nodup;decide
  show ý (plainObj_wpAny_Assign_Attribute (NameLC x IO.kind k2 (v:=v) (by rw[kG k2 _ _ nd];rfl) (NameLC x IO.kind k1 (v:=.ref e) (by rw[kG k1 _ _ nd];rfl) ?_ (by decide)) (by decide)));subst GF;show HP (h:=bH) (S.keeps keep) (keep _ _ hx) λh' LK W=>tW W λD w1 w2 w3 w4=>ġ (hq h' LK ⟨D,w1,w2,fY keep w3,λb ob hb Vv=>w4 b ob hb (keep b ob Vv)⟩)
end
def P0(f:Ä):Prop:=f=.none
def PL(L:È)(f:Ä):Prop:=f=.none\/f=õ L
structure YB where
 T:È
 o:Obj
 ts:Array Ä
 f:Ä
structure Ur(J:List È)(aZ h:Ó)(P:Ä->Prop)(e:È)(vs:Array Ä)(d:YB):Prop where
 v:vs[1]?=À (.ref d.T)
 ne:d.T≠e
 ho:h.get? d.T=À d.o
 cls:d.o.cls=.type "traceback"
 data:d.o.data=.fields d.ts
 f:d.ts[3]?=À d.f
 p:P d.f
 T0:aZ.get? d.T=Ã
 Tφ:d.T∉J
def Uq(J:List È)(aZ h:Ó)(Ď:Prop)(P:Ä->Prop)(e:È)(vs:Array Ä):Prop:=(Ď/\vs[1]?=À .none)\/∃d,Ur J aZ h P e vs d
structure XD where
 vs:Array Ä
 D:È
 m:Str->Option Ä
 t:Tok
 sl:Array (Option Ä)
abbrev XD.obj(x:XD)(c:Nat):Obj:={cls:=.ref (gg.cls c),dict:=À x.D,data:=.fields x.vs,slots:=x.sl}
structure XB(J:List È)(aZ h:Ó)(e:È)(c:Nat)(w:Str)(x:XD):Prop where
 he:h.get? e=À (x.obj c)
 hsz:1<x.vs.size
 hD:h.Ns x.D x.m
 hm:x.m ("word":Str)=À (.str w x.t)
 D0:aZ.get? x.D=Ã
 Dφ:x.D∉J
structure XF(J:List È)(aZ h:Ó)(Ď:Prop)(P:Ä->Prop)(e:È)(c:Nat)(w:Str)(x:XD):Prop where
 b:XB J aZ h e c w x
 tb:Uq J aZ h Ď P e x.vs
structure Tg(J:List È)(aZ h:Ó)(Ď:Prop)(P:Ä->Prop)(e:È)(c:Nat)(w:Str):Prop where
 ex:∃x,XF J aZ h Ď P e c w x
 e0:aZ.get? e=Ã
 eφ:e∉J
 eB:gg.B.get? e=Ã
section
variable{A:Ñ}{E:Ä->Å->Prop}{J:List È}{H:ag}{s:Å}{aZ:Ó}{P:Ä->Prop}{e L:È}{c:Nat}{w:Str}{Z:Env}
theorem ar.same(R:ar gg J H h)(hB:∀b o,gg.B.get? b=À o->h.get? b=À o->h'.get? b=À o)(zD:∀a o,a∈J->h.get? a=À o->h'.get? a=À o)(hH:∀b o,h.get? b=À o->jZ o->b∉J->h'.get? b=À o):ar gg J H h':=
 ⟨λb o e=>hB b o e (R.base b o e),R.fresh,R.len,R.nodup,λi a m h1 h2=>(R.objs i a m h1 h2).stepT (λz z e=>e) (λb o e hh hn=>⟨hH b o e hh hn,hn⟩) λo e=>zD a o (ģ h1) e,R.tabs⟩
structure yq(aZ h h':Ó)(e:È):Prop where
 old:∀b o,h.get? b=À o->aZ.get? b≠Ã->gK h' b o
 dom:∀b o,h.get? b=À o->∃o',h'.get? b=À o'
theorem yq.trans(x:yq aZ h h' e)(y:yq aZ h' qF e):yq aZ h qF e:=
 ⟨λb o e h0=>(x.old b o e h0).then λo' e'=>y.old b o' e' h0,λb o e=>by show ä (x.dom b o e) λo' e'=>?_;show y.dom b o' e'⟩
def Ug(fr:List Env)(aZ:Ó):Prop:=∀f∈fr,∀L,f.frame=À L->aZ.get? L≠Ã
noncomputable def Gc(fr:List Env):List È:=fr.filterMap (·.frame)
theorem A4(h:L∈Gc (bw A)):∃f∈(bw A),f.frame=À L:=by show aE (acZ.mp h) λf hf hl=>⟨f,hf,hl⟩
theorem sh.at(F:sh (bw A) J h)(hL:L∈Gc (bw A)):∃o es ep,h.get? L=À o/\o.data=.dict es ep/\L∉J/\gg.B.get? L=Ã:=by show aE (A4 hL) λf hf hl=>?_;obtain ⟨_,L',o,es,ep,k2,k3,k4,k5,k6⟩:=F f hf;rw[hl]at k2;cases k2;show⟨o,es,ep,k3,k4,k5,k6⟩
theorem zp(F:sh (bw A) J h)(hb:∀L∈Gc (bw A),base.get? L=Ã):h.FunFrames base (bw A):=by
 unfold sh Gc at *;generalize bw A=l at F hb ⊢
 induction l with
 |nil=>trivial
 |cons f r ih=>obtain ⟨k1,L,o,es,ep,k2,k3,k4,_,_⟩:=F f G';show⟨k1,⟨L,o,k2,hb L (acZ.mpr ⟨f,G',k2⟩),k3,λvs q=>nomatch k4.symm.trans q⟩,ih (λf hf=>F f (J' _ hf)) λL hL=>hb L (aE (acZ.mp hL) λf' EJ jd=>acZ.mpr ⟨f',J' _ EJ,jd⟩)⟩
theorem Hp(b:È):(({}:Ó)).get? b=Ã:=abD (ĥ _)
theorem XB.De(b:XB J aZ h e c w x):x.D≠e:=λq=>by show tX b.hD λo es ep ho hd z=>?_;rw[q,b.he]at ho;cases ho;cases hd
structure md(fr:List Env)(J:List È)(H:ag)(aZ h:Ó)(Ď:Prop)(P:Ä->Prop)(e:È)(c:Nat)(w:Str):Prop where
 R:ar gg J H h
 FS:sh fr J h
 F0:Ug fr aZ
 dom:∀b o,aZ.get? b=À o->∃o',h.get? b=À o'
 B0:∀b o,gg.B.get? b=À o->aZ.get? b=À o
 X:Tg J aZ h Ď P e c w
theorem md.free(Y:md (bw A) J H aZ h Ď P e c w)(ha:aZ.get? a=Ã)(hL:L∈Gc (bw A)):L≠a:=λq=>aE (A4 hL) λf hf hl=>Y.F0 f hf L hl (q▸ha)
theorem JT(Y:md (bw A) J H aZ h Ď P₀ e c w)(y:XB J aZ h e c w x)(hs:Heap.SlotsOnly (Gc (bw A)) h bH)(hc:oT.cls=.type "traceback")(hd:oT.data=.fields ts)(h3:ts[3]?=À f)(hP:P f)
  (eh:h'=(bH.push oT).update e (Obj.mapFields (·.setIfInBounds 1 (.ref bH.objs.size)))):md (bw A) J H aZ h' False P e c w/\yq aZ h h' e:=by
 have e1:bH.get? e=À (x.obj c):=(hs.2.1 e λq=>Y.free Y.X.e0 q N).trans y.he;have Xx:bH.objs.size≠e:=Ř (ő e1);have Hu:∀b,b≠e->h'.get? b=(bH.push oT).get? b:=λb hb=>(congrArg (afj · b) eh).trans (Ϧ _ _ (Ne.symm hb));have ee:h'.get? e=À (XD.obj ⟨x.vs.setIfInBounds 1 (.ref bH.objs.size),x.D,x.m,x.t,x.sl⟩ c):=(congrArg (afj · e) eh).trans (ϟ _ (O' _ e1) N);have T':h'.get? bH.objs.size=À oT:=(Hu _ Xx).trans (ŀ _ (Obj.isFreed_of_fields hd));clear eh;have keep:∀b o,b≠e->bH.get? b=À o->h'.get? b=À o:=λb o hb e2=>(Hu b hb).trans (O' _ e2);have ex:∀b o,b≠e->b∉Gc (bw A)->h.get? b=À o->h'.get? b=À o:=λb o hb hf e2=>keep b o hb ((hs.2.1 b hf).trans e2);have Xm:∀b o,b∈Gc (bw A)->h.get? b=À o->∃es ep,o.data=.dict es ep:=λb o hb e2=>tX (Y.FS.at hb) λo' es ep k1 k2 z=>⟨es,ep,by rw[sm (e2.symm.trans k1)];show k2⟩
 have kp:∀b o,b≠e->h.get? b=À o->gK h' b o:=λb o hb e2=>by
  by_cases hf:b∈Gc (bw A)
  ·show(hs.2.2 b o e2).elim λWQ e3=>.inr ⟨Xm b o hf e2,WQ,keep b _ hb e3⟩
  ·show .inl (ex b o hb hf e2)
 have W8:∀b o,h.get? b=À o->∃o',h'.get? b=À o':=λb o e2=>by
  by_cases hb:b=e
  ·show⟨_,hb▸ee⟩
  ·show(kp b o hb e2).live
 have T0:h.get? bH.objs.size=Ã:=abD (by rw[hs.1];show đ _)
 show⟨⟨Y.R.same (λb o hb e2=>ex b o (λq=>no (Y.X.eB.symm.trans (q▸hb))) (λhf=>JQ (Y.FS.at hf) λz z z z z z k4=>no (k4.symm.trans hb)) e2)
  (λa o ha e2=>ex a o (λq=>Y.X.eφ (q▸ha)) (λhf=>JQ (Y.FS.at hf) λz z z z z k3 z=>k3 ha) e2)
  (λb o e2 hh hn=>ex b o (λq=>?_) (λhf=>mJ (Xm b o hf e2) λes ep k2=>sL k2 hh) e2),
  Y.FS.to λL o es ep k1 k2 k3=>⟨(kp L o (λq=>?_) k1).isD k2,k3⟩,Y.F0,λb o e2=>(Y.dom b o e2).elim (W8 b),Y.B0,
  ⟨⟨⟨x.vs.setIfInBounds 1 (.ref bH.objs.size),x.D,x.m,x.t,x.sl⟩,⟨ee,by rw[Array.size_setIfInBounds];show y.hsz,gK.ns y.hD λo e2=>kp x.D o y.De e2,y.hm,y.D0,y.Dφ⟩,.inr ⟨⟨bH.objs.size,oT,ts,f⟩,?_,Xx,T',hc,hd,h3,hP,kn λo q=>(Y.dom _ o q).elim λo' e3=>no (T0.symm.trans e3),aX Y.R T0⟩⟩,Y.X.e0,Y.X.eφ,Y.X.eB⟩⟩,⟨λb o e2 hb=>kp b o (λq=>hb (q▸Y.X.e0)) e2,W8⟩⟩
 ·have q2:=sm (y.he.symm.trans (q▸e2))
  rw[<-q2]at hh;show hh.elim (λk=>nomatch k.1) λk=>nomatch k.1
 ·have q2:=sm (y.he.symm.trans (q▸k1))
  rw[<-q2]at k2;show nomatch k2
 ·show(ac9 y.hsz)
end
section
variable{A:Ñ}{E:Ä->Å->Prop}{J:List È}{H:ag}{s:Å}{aZ:Ó}{Ď:Prop}{P P':Ä->Prop}{e L:È}{c:Nat}{w:Str}{Z:Env}
theorem Tg.mono(X:Tg J aZ h Ď P e c w)(hU:Ď->U')(hP:∀f,P f->P' f):Tg J aZ h U' P' e c w:=
 ⟨X.ex.elim λx y=>⟨x,y.b,y.tb.imp (λq=>⟨hU q.1,q.2⟩) λq=>q.elim λd z=>⟨d,z.v,z.ne,z.ho,z.cls,z.data,z.f,hP _ z.p,z.T0,z.Tφ⟩⟩,X.e0,X.eφ,X.eB⟩
theorem md.mono(Y:md (bw A) J H aZ h Ď P e c w)(hU:Ď->U')(hP:∀f,P f->P' f):md (bw A) J H aZ h U' P' e c w:=⟨Y.R,Y.FS,Y.F0,Y.dom,Y.B0,Y.X.mono hU hP⟩
theorem XB.DT(b:XB J aZ h e c w x)(z:Ur J aZ h P e x.vs d):x.D≠d.T:=λq=>by show tX b.hD λo es ep ho hd y=>?_;have:=sm (z.ho.symm.trans (q▸ho));rw[<-this]at hd;show nomatch z.data.symm.trans hd
theorem yq.refl(aZ h:Ó)(e:È):yq aZ h h e:=⟨λb o e z=>.inl e,λb o e=>⟨o,e⟩⟩
theorem wy(Y:md (bw A) J H aZ h Ď P e c w)(b:XB J aZ h e c w x)(z:Ur J aZ h P e x.vs d)(hP:P' v)(eh:h'=h.update d.T (Obj.mapFields (·.setIfInBounds 3 v))):
  md (bw A) J H aZ h' False P' e c w/\yq aZ h h' e/\XB J aZ h' e c w x:=by
 have Hu:∀b,b≠d.T->h'.get? b=h.get? b:=λb hb=>(congrArg (afj · b) eh).trans (Ϧ _ _ (Ne.symm hb));have jS:=Obj.data_mapFields z.data (·.setIfInBounds 3 v);have TT:h'.get? d.T=À (Obj.mapFields (·.setIfInBounds 3 v) d.o):=(congrArg (afj · d.T) eh).trans (ϟ _ z.ho (Obj.isFreed_of_fields jS));clear eh
 have dm:∀b o,h.get? b=À o->∃o',h'.get? b=À o':=λb o e2=>by
  by_cases hb:b=d.T
  ·show⟨_,hb▸TT⟩
  ·show⟨o,(Hu b hb).trans e2⟩
 have Yd:∀{b o},h.get? b=À o->b=d.T->o=d.o:=λe2 q=>sm (e2.symm.trans (q▸z.ho));have B:XB J aZ h' e c w x:=⟨(Hu e z.ne.symm).trans b.he,b.hsz,oN b.hD λo es ep ho r=>⟨o,es,ep,(Hu x.D (b.DT z)).trans ho,r⟩,b.hm,b.D0,b.Dφ⟩
 show⟨⟨Y.R.same (λb o hb e2=>(Hu b λq=>no (z.T0.symm.trans (q▸Y.B0 b o hb))).trans e2) (λa o ha e2=>(Hu a λq=>z.Tφ (q▸ha)).trans e2) (λb o e2 hh hn=>(Hu b λq=>?_).trans e2),
  Y.FS.to λL o es ep k1 k2 k3=>⟨⟨o,es,ep,(Hu L λq=>?_).trans k1,k2⟩,k3⟩,Y.F0,λb o e2=>(Y.dom b o e2).elim (dm b),Y.B0,
  ⟨⟨x,B,.inr ⟨⟨d.T,_,_,v⟩,z.v,z.ne,TT,(Obj.cls_mapFields _ _).trans z.cls,jS,?_,hP,z.T0,z.Tφ⟩⟩,Y.X.e0,Y.X.eφ,Y.X.eB⟩⟩,⟨λb o e2 hb=>.inl ((Hu b λq=>hb (q▸z.T0)).trans e2),dm⟩,B⟩
 ·rw[Yd e2 q]at hh
  show hh.elim (λk=>absurd (z.cls.symm.trans k.1) (by decide)) λk=>absurd (z.cls.symm.trans k.1) (by decide)
 ·rw[Yd k1 q]at k2
  show nomatch z.data.symm.trans k2
 ·show ac9 (act.mp z.f).1
theorem iH(Y:md (bw A) J H aZ s.heap Ď P e c w)(hP:P' (fr.elim .none λf=>õ f))
  (hQ:∀h',md (bw A) J H aZ h' Ď P' e c w->yq aZ s.heap h' e->Q () {s with heap:=h'}):É mo A (setFlight (.ref e) fr) Q E s:=by
 show ä Y.X.ex λx y=>?_;unfold setFlight;show â y.tb (λq=>?_) λq=>ä q λd z=>?_
 ·show Â (Þ y.b.he N q.2 ?_)
  rw[if_neg (by decide)];show Ç (hQ s.heap ⟨Y.R,Y.FS,Y.F0,Y.dom,Y.B0,⟨x,y.b,.inl q⟩,Y.X.e0,Y.X.eφ,Y.X.eB⟩ (yq.refl _ _ _))
 ·show Â (Þ y.b.he N z.v ?_)
  rw[if_pos (show (Value.ref d.T != Value.none)=Æ from by simp)];show im (wy (P':=P') Y y.b z hP rfl) λY' K' k=>ħ z.ho z.data (act.mp z.f).1 (hQ _ (Y'.mono (λq=>q.elim) λk q=>q) K')
theorem sN(Gw:A.frames=À (Z::bR))(hf:Z.frame=À L)(Y:md (bw A) J H aZ s.heap Ď P e c w)(y:XB J aZ s.heap e c w x)(VH:Ä)(b:Bool)
  (hQ:∀h',md (bw A) J H aZ h' False (PL L) e c w->yq aZ s.heap h' e->Q () {s with heap:=h'}):É mo A (do let a <-frameOf Z;let pl <-entryPlaceOf L b;let x <-EntryCells.newEntry VH a .none (õ L) .none pl;setField (.ref e) 1 x) Q E s:=by
 have hg:bw A=Z::bR:=by unfold bw;rw[Gw];rfl
 show Â (wpAny_frameOf_fun (base:={}) Gw (hg▸zp Y.FS λL z=>Hp L) hf λbH ke=>Â (wpAny_entryPlaceOf λpl zB=>?_));unfold EntryCells.newEntry newFields;show Â (ç ?_ (zB.sizeOk5 _ _ _ _ _));have GG:Heap.SlotsOnly (Gc (bw A)) s.heap bH:=by unfold Gc;rw[hg];show ke
 refine ħ (O' _ ((GG.2.1 e λq=>Y.free Y.X.e0 q rfl).trans y.he)) rfl y.hsz ?_;exact aQ (JT (P:=PL L) (f:=õ L) Y y GG rfl rfl (by first|rfl|simp) (.inr rfl) rfl) λY' K'=>hQ _ Y' K'
theorem Ad(Gw:A.frames=À (Z::bR))(hf:Z.frame=À L)(Y:md (bw A) J H aZ s.heap Ď (PL L) e c w)
  (hQ:∀h',md (bw A) J H aZ h' False (PL L) e c w->yq aZ s.heap h' e->Q () {s with heap:=h'}):É mo A (noteFrame (.ref e) Z) Q E s:=by
 show ä Y.X.ex λx y=>?_;unfold noteFrame
 simp only[hf]
 show â y.tb (λq=>?_) λq=>ä q λd z=>?_
 ·show Â (Þ y.b.he N q.2 ?_)
  rw[if_neg (by decide)];show sN Gw hf Y y.b .none _ hQ
 ·show Â (Þ y.b.he N z.v ?_)
  rw[if_pos (show (Value.ref d.T != Value.none)=Æ from by simp)];show Â (Þ z.ho z.data z.f ?_);by_cases TA:(d.f==õ L)=Æ
  ·rw[if_pos TA]
   show Ç (hQ s.heap ⟨Y.R,Y.FS,Y.F0,Y.dom,Y.B0,⟨x,y.b,.inr ⟨d,z⟩⟩,Y.X.e0,Y.X.eφ,Y.X.eB⟩ (yq.refl _ _ _))
  ·rw[if_neg TA]
   show im (wy (P':=PL L) Y y.b z (.inl N) N) λY' K' B'=>Â (ħ z.ho z.data (act.mp z.f).1 ?_);show sN (s:={s with heap:=s.heap.update d.T (Obj.mapFields (·.setIfInBounds 3 Value.none))}) Gw hf Y' B' (.ref d.T) _ λh' Y2 K2=>hQ h' Y2 (K'.trans K2)
theorem KL(Gw:A.frames=À (Z::bR))(hf:Z.frame=À L)(Y:md (bw A) J H aZ s.heap Ď (PL L) e c w)
  (hQ:∀h',md (bw A) J H aZ h' False P0 e c w->yq aZ s.heap h' e->Q () {s with heap:=h'}):É mo A (leaving Z (.ref e)) Q E s:=by
 unfold leaving;show Â (Ad Gw hf Y λh' Y' K'=>iH (s:={s with heap:=h'}) (P':=P0) Y' N λqF Y2 K2=>hQ qF Y2 (K'.trans K2))
theorem Oq(hf:Z.frame=À L)(Y:md (bw A) J H aZ s.heap False (PL L) e c w)
  (hQ:∀h',md (bw A) J H aZ h' False (PL L) e c w->yq aZ s.heap h' e->E' (.ref e) {s with heap:=h'}):Ĩ mo A Z E' (.ref e) s:=by
 show ä Y.X.ex λx y=>?_;unfold Ĩ;show â y.tb (λq=>q.1.elim) λq=>ä q λd z=>Â (Þ y.b.he rfl z.v ?_);rw[if_neg (by simp)];show iH (P':=PL L) Y (by rw[hf];show .inr rfl) hQ
end
theorem ye(C:È)(v:Ä):(Code.builtin "type.__call__" ⟨[.ref C,v],[]⟩).weight=1:=by kernel_rfl
theorem l0(h:g8.lookup x=À c):(c=0/\x=("LarderError":Str))\/(c=1/\x=("TooMuch":Str))\/(c=2/\x=("Short":Str))\/(c=3/\x=("ValueError":Str)):=by
 have hm:=mem_of_lookup h
 simp only[g8,ą,Prod.mk.injEq,acO,or_false]at hm
 rcases hm with ⟨h1,h2⟩|⟨h1,h2⟩|⟨h1,h2⟩|⟨h1,h2⟩
 ·show .inl ⟨h2,h1⟩
 ·show .inr (.inl ⟨h2,h1⟩)
 ·show .inr (.inr (.inl ⟨h2,h1⟩))
 ·show .inr (.inr (.inr ⟨h2,h1⟩))
section
variable{A:Ñ}{E:Ä->Å->Prop}{s:Å}{Z:Env}{C C0:È}{mN mN0:Str->Option Ä}
theorem Ah(hh:A.handled=Ã)
  (h:É mo A x (λv Ì=>∃e t D,v=.ref e/\fh Ì.heap C C0 mN mN0/\Ì.heap.get? e=À {cls:=.ref C,dict:=À D,data:=.fields #[.ref t,.none,.none,.none,.bool Ê,.none]}/\E (.ref e) Ì) E s) :
  É mo A (raiseStmt Z (À x) Ã) Q E s:=by
 have zw:(Value.ref C::.ref C0::jW).contains (.type "BaseException")=Æ:=fj PySem.F.excBase_ValueError.hasBase;unfold raiseStmt;show Â (Ï h (λv Ì bH=>?_) λz z x=>x);show JQ bH λe t D q4 S he hE=>?_;apply aY q4;show S.c.el λD hC hn=>?_;obtain ⟨hp,g,d,tk,os⟩:=Ì
 repeat (first|with_reducible refine Õ he ?_|with_reducible refine Õ hC ?_|(with_reducible refine á hC ?_;rw[zw])|wp_step)
 show wpAny_raiseNew_none hh hE
end
section
variable{A:Ñ}{E:Ä->Å->Prop}{J:List È}{H:ag}{s:Å}{Z:Env}{O:List (Str×Nat)}{U:aJ}{Á:ax}{d:Nat}
theorem iO.keeps(I:iO h f)(hk:∀b o,h.get? b=À o->h'.get? b=À o):iO h' f:=by show EC I.ex λo fd a1 a2 ho IO og=>⟨o,fd,a1,a2,hk _ _ ho,IO,og.keeps hk⟩
theorem vc(G:fU gg cx fs mg mb)(hc:c=1\/c=2):∃mN mN0 f,fh gg.B (gg.cls c) (gg.cls 0) mN mN0/\mN ("__init__":Str)=Ã/\mN0 ("__init__":Str)=À (.ref f)/\iO gg.B f:=by
 show fQ G.exc.c0 λm0 f a1 a2 a3=>?_;rcases hc with rfl|rfl
 ·show aE G.exc.c1 λm1 b1 b2=>⟨m1,m0,f,⟨b1,a1⟩,b2,a2,a3⟩
 ·show aE G.exc.c2 λm1 b1 b2=>⟨m1,m0,f,⟨b1,a1⟩,b2,a2,a3⟩
theorem v8(G:fU gg cx fs mg mb)(h:g8.lookup x=À c)(hc:c=1\/c=2\/c=0):mg x=À (.ref (gg.cls c)):=by
 rcases l0 h with ⟨rfl,rfl⟩|⟨rfl,rfl⟩|⟨rfl,rfl⟩|⟨rfl,rfl⟩
 ·show G.exc.n0
 ·show G.exc.n1
 ·show G.exc.n2
 ·rcases hc with q|q|q<;>cases q
theorem Lg(hA:i5 A d)(G:fU gg cx fs mg mb)(hg:bp Z.scope x=Æ)(C3:g8.lookup x=À c)(hc:c=1\/c=2)(io:∀y q,e≠.Starred y q)(hx:aR A Z O e (ab Á a))(he:ab Á a U H=À (.str wd,Î))(R:ar gg J H s.heap)(F:eQ (bw A) J Z O U s.heap)
  (hE:∀ea aj s',SE J s.heap aj s'.heap->bK s s'->md (bw A) aj Î s.heap s'.heap True P0 ea c wd->E (.ref ea) s') :
  É mo A (exec (.Raise (À (.Call (.Name x np) [e] [] pt)) Ã pos) Z) Q E s:=by
 show JQ (vc G hc) λmN mN0 f S2 i1 i2 i3=>aQ (bO hg) λme mf=>?_;have fE:Ù [e] Z=(Ê,eval e Z)::Ù [] Z:=nq io
 have wH:A.depth<í:=by
  have h1:=hA.depth;have h2:600<í:=by decide
  show jT (y4 0x1c1310b02589011b10258910b20813ba230 N (iL h1) (iT h2) (iP _) (iA _ _))
 have RF:∀v:Ä,(A.under (.builtin "type.__call__" ⟨[.ref (gg.cls c),v],[]⟩)).depth<í:=λv=>by
  have h1:=hA.depth;have h2:700<í:=by decide
  have h3:=ye (gg.cls c) v;show A.depth+(Code.builtin "type.__call__" ⟨[.ref (gg.cls c),v],[]⟩).weight<_;show jT (y6 0x1c1310b02589011b102bc912b18212ba24310b50813ba540 N (iL h1) (iT h2) (iE h3) (iA _ _) (iP _) (iA _ _))
 rw[arm_exec_Raise];show Â (ē (Ah (C:=gg.cls c) (C0:=gg.cls 0) (mN:=mN) (mN0:=mN0) hA.handled (Â (Ï (wpAny_Call_ofName (ja G F R me mf (v8 G C3 (by rcases hc with q|q;show .inl q;show .inr (.inl q))) ?_)) (λv i4 eG=>Â (ē (Ç eG))) λz z x=>x))));show É _ _ (callWith pt (.ref (gg.cls c)) [] (ĳ pt (Ù [e] Z)) []) _ _ _;rw[fE];unfold callWith;show Â (ß (evalArgs_plain ?_));show É _ _ (spliced (ĳ pt ((Ê,eval e Z)::Ù [] Z))) _ _ _;have spl:∀{Q':List Ä->Å->Prop},É mo A (spliced (ĳ pt (Ù [e] Z))) Q' E s->É mo A (spliced (ĳ pt ((Ê,eval e Z)::Ù [] Z))) Q' E s:=λh=>by rw[fE]at h;show h
 show spl (è (hx.bind he R F λb Ì aj S T aA ba bo=>Ĕ ?_) fE);apply WV N bo;intro t;show Â (ē ?_);have Mc:=S2.keeps aA.base;show Mc.c.el λD hC hn=>?_
 have A7:∃o,gg.B.get? f=À o/\o.cls=.type "function" := by
  show EC i3.ex λo fd a1 a2 ho IO z=>⟨o,ho,IO.cls⟩
 show aE A7 λoI Z8 Wa=>?_;have zz:Ì.heap.NoLimit:=G.nolimit.keeps aA.base
 have QE:Ug (bw A) s.heap:=λf' EJ L hl=>by obtain ⟨_,L',o,es,ep,k2,k3,_⟩:=F.stk f' EJ;apply aY (sm ((hl).symm.trans k2));rw[k3];show λq=>nomatch q
 obtain ⟨hp,gg,dd,tk,os⟩:=Ì;show Â (wpAny_keeperOf_exc hC (Â (Fu Mc i1 i2 (aA.base _ _ Z8) Wa (ab2 rfl) λh' ea hm=>eJ hm.there λtt ZF htn MZ=>Ï (Da (s:=⟨h',gg,dd,tk,os⟩) ((i3.keeps aA.base).keeps hm.keeps) (RF _) (zz.keeps hm.keeps) (Mc.keeps hm.keeps) ZF λh2 tk2 W=>tW W λD w1 w2 w3 w4=>?_) (λv s' q=>q) λz z x=>x)));have qG:∀b o,hp.get? b=À o->h2.get? b=À o:=λb o e2=>w4 b o (λq=>by rw[q,hm.new]at e2;show no e2) (hm.keeps b o e2);show⟨rfl,Â (ß (wpAny_point (Ç ⟨ea,tt,D,rfl,Mc.keeps qG,w1,?_⟩)))⟩;have S':SE J s.heap aj h2:=S.trans (SE.keeps _ qG);have e0:hp.get? ea=Ã:=hm.new;have D0:hp.get? D=Ã:=fY hm.keeps w3;show hE ea aj ⟨h2,gg,dd,tk2,os⟩ S' (T.trans ⟨rfl,rfl,rfl⟩) ⟨aA.keeps qG,(ba.step aA (SE.keeps _ qG)).stk,QE,S'.dom,R.base,⟨⟨⟨_,D,λy=>if y=("word":Str) then À (.str wd t) else Ã,t,_⟩,⟨w1,ab2 rfl,w2.ns,(if_pos rfl:(if ("word":Str)=("word":Str) then À (Value.str wd t) else Ã)=_),S.back D0,aX aA D0⟩,.inl ⟨trivial,rfl⟩⟩,S.back e0,aX aA e0,aW aA e0⟩⟩
end
open Builtin Builtin.ObjectAttr
theorem No:("__getattribute__":Str)∉iv:=by decide +kernel
theorem Np:("__getattr__":Str)∉iv:=by decide +kernel
theorem SD:("__class__":Str)∉iv:=by decide +kernel
theorem Sw:ă (.type "ValueError") ("__class__":Str)=pure (À (.builtin "object.__class__")):=by rw[ł,ě];kernel_rfl
section
variable{A:Ñ}{E:Ä->Å->Prop}{h:Ó}{g:Array ø}{d:Drawn}{t:Nat}{os:ô}
 {C C0 a D:È} {mN mN0 m:Str->Option Ä} {v:Ä} {o:Obj} {vs:Array Ä} {FB:ExcAttrBase "ValueError" jW}
theorem vZ(S:fh h C C0 mN mN0)(hx:h.get? a=À o)(hc:o.cls=.ref C)(hq:Q () ⟨h,g,d,t,os⟩):É mo A (ÿ "BaseException.__getattribute__" ⟨[.ref a,nameV],[]⟩) Q E ⟨h,g,d,t,os⟩:=by
 show S.c.el λD hC hn=>?_;have hk:builtinKind "BaseException.__getattribute__" = À .slot:=by decide +kernel
 have Pa:splitId "BaseException.__getattribute__" = À ("BaseException","__getattribute__"):=by decide +kernel
 have zw:(Value.ref C::.ref C0::jW).contains (.type "BaseException")=Æ:=fj PySem.F.excBase_ValueError.hasBase;have ha:=PySem.F.args_bexc_ga (.ref a) nameV
 simp only[ÿ,hk,Pa]
 show Â ?_
 ·unfold isInstance
  repeat (first|(with_reducible refine Õ hx ?_;rw[hc])|(with_reducible refine á hC ?_;rw[zw])|wp_step)
  show hq
end
def iK(A:Ñ)(E:Ä->Å->Prop)(h:Ó)(g:Array ø)(d:Drawn)(t:Nat)(os:ô)(C:È)(C0:È)(a:È)(D:È)(mN:Str->Option Ä)(mN0:Str->Option Ä)(m:Str->Option Ä)(v:Ä)(o:Obj)(vs:Array Ä)(tk:Tok)(Q:PySem.Fin->Å->Prop):Prop:=∀(S:fh h C C0 mN mN0) (hx:h.get? a=À o) (hc:o.cls=.ref C) (hd:o.data=.fields vs) (lw:o.dict=À D) (hD:h.Ns D m) (hw:m ("word":Str)=À v) (hq:Q (.done (.ret v)) ⟨h,g,d,t,os⟩),É mo A (Đ.«object.__getattribute__» ⟨[.ref a,.str "word" tk],[]⟩) Q E ⟨h,g,d,t,os⟩
namespace word_entryH
def kc:=hc (U2 λb0=>U2 λb1=>U2 λb2=>U2 λb3=>yp (iK b0 b1 b2 b3)) ({},λz z=>True,default,#[],{},0,default,0,0,0,0,λz=>Ã,λz=>Ã,λz=>Ã,.none,default,#[],default,λz z=>True)
def A:=kc.1
def E:=kc.2.1
def h:=kc.2.2.1
def g:=kc.2.2.2.1
def d:=kc.2.2.2.2.1
def t:=kc.2.2.2.2.2.1
def os:=kc.2.2.2.2.2.2.1
def C:=kc.2.2.2.2.2.2.2.1
def C0:=kc.2.2.2.2.2.2.2.2.1
def a:=kc.2.2.2.2.2.2.2.2.2.1
def D:=kc.2.2.2.2.2.2.2.2.2.2.1
def mN:=kc.2.2.2.2.2.2.2.2.2.2.2.1
def mN0:=kc.2.2.2.2.2.2.2.2.2.2.2.2.1
def m:=kc.2.2.2.2.2.2.2.2.2.2.2.2.2.1
def v:=kc.2.2.2.2.2.2.2.2.2.2.2.2.2.2.1
def o:=kc.2.2.2.2.2.2.2.2.2.2.2.2.2.2.2.1
def vs:=kc.2.2.2.2.2.2.2.2.2.2.2.2.2.2.2.2.1
def tk:=kc.2.2.2.2.2.2.2.2.2.2.2.2.2.2.2.2.2.1
def Q:=kc.2.2.2.2.2.2.2.2.2.2.2.2.2.2.2.2.2.2
set_option tactic.hygienic true in
theorem kt:iK A E h g d t os C C0 a D mN mN0 m v o vs tk Q:=by
 intro S hx hc hd lw hD hw hq;show S.c.el λD hC hn=>?_
 repeat (any_goals (first|assumption|(with_reducible refine Õ hx ?_;rw[hc])|with_reducible refine dN S By Bt ?_|wp_step))
 split
 ·rename_i c og
  rw[hd]at og;cases og
 unfold instanceDict
 repeat (first|(with_reducible refine Õ hx ?_;rw[hc])|with_reducible refine Õ hC ?_|wp_step)
 rw[lw]
 repeat (first|(with_reducible refine wpAny_nsGet hD ?_;rw[hw])|wp_step)
 show hq
end word_entryH
theorem Ax{os:ô}:iK A E h g d t os C C0 a D mN mN0 m v o vs tk Q:=hk (P:=U2 λb0=>U2 λb1=>U2 λb2=>U2 λb3=>yp (iK b0 b1 b2 b3)) word_entryH.kt (A,E,h,g,d,t,os,C,C0,a,D,mN,mN0,m,v,o,vs,tk,Q)
section
variable{A:Ñ}{E:Ä->Å->Prop}{h:Ó}{g:Array ø}{d:Drawn}{t:Nat}{os:ô}
 {C C0 a D:È} {mN mN0 m:Str->Option Ä} {v:Ä} {o:Obj} {vs:Array Ä} {FB:ExcAttrBase "ValueError" jW}
theorem Eh(S:fh h C C0 mN mN0)(hx:h.get? a=À o)(hc:o.cls=.ref C)(hd:o.data=.fields vs)(lw:o.dict=À D)(hD:h.Ns D m)(hw:m ("word":Str)=À v)(hq:R (.ok (.ret v)) ⟨h,g,d,t,os⟩):
  ĝ mo A (.call (.builtin "BaseException.__getattribute__") ⟨[.ref a,.str "word" tk],[]⟩) R ⟨h,g,d,t,os⟩:=
 Č PySem.F.attrBase_ValueError.ga.plain PySem.F.entry_bexc_ga (vZ S hx hc (Ax S hx hc hd lw hD hw hq))
theorem LR{tk:Tok}{fill expr:Bool}{Q:Ä->Å->Prop}(S:fh h C C0 mN mN0)(hx:h.get? a=À o)(hc:o.cls=.ref C)(hd:o.data=.fields vs)(lw:o.dict=À D)(hD:h.Ns D m)(hw:m ("word":Str)=À v)(hh:handedOut v=pure v)(hq:Q v ⟨h,g,d,t,os⟩):
  É mo A (getAttrBy (.ref a) (.str "word" tk) fill expr) Q E ⟨h,g,d,t,os⟩:=by
 have f3:=PySem.F.attrBase_ValueError.ga.bind (.ref a);have GI:(expr&&onTheHeap (Value.builtin "BaseException.__getattribute__"))=Ê:=by cases expr<;>rfl
 have Qn:(Value.builtin "BaseException.__getattribute__"==Value.builtin "object.__getattribute__")=Ê:=by decide +kernel
 have M0:(onTheHeap (Value.ref C)&&Value.builtin "BaseException.__getattribute__"==Value.builtin "object.__getattribute__")=Ê:=by rw[Qn];rfl
 repeat (any_goals (first|assumption|(with_reducible refine Õ hx ?_;rw[hc])|with_reducible refine dN S No PySem.F.attrBase_ValueError.ga.lookup ?_|with_reducible refine dN S Np PySem.F.attrBase_ValueError.noGetattr ?_|wp_step))
 show Eh S hx hc hd lw hD hw ?_;show É _ _ (handedOut v) _ _ _;rw[hh];show Ç hq
theorem Eg{expr:Bool}{Q:Ä->Å->Prop}(S:fh h C C0 mN mN0)(hx:h.get? a=À o)(hc:o.cls=.ref C)(hd:o.data=.fields vs)(lw:o.dict=À D)(hD:h.Ns D m)(hw:m ("word":Str)=À v)(hh:handedOut v=pure v)(hq:Q v ⟨h,g,d,t+1,os⟩):
  É mo A (getAttr (.ref a) "word" expr) Q E ⟨h,g,d,t,os⟩:=by
 unfold getAttr
 repeat (any_goals (first|assumption|with_reducible apply LR S hx hc hd lw hD hw hh|wp_step))
end
open Builtin Builtin.ObjectAttr
section
variable{A:Ñ}{E:Ä->Å->Prop}{h:Ó}{g:Array ø}{d:Drawn}{t:Nat}{os:ô}
 {C C0 a D:È} {mN mN0 m:Str->Option Ä} {v cv:Ä} {o:Obj} {vs:Array Ä} {b:Bool}
theorem CC(S:fh h C C0 mN mN0)(hx:h.get? a=À o)(hc:o.cls=.ref C)(hq:R (.ok (.ret (.ref C))) ⟨h,g,d,t,os⟩):
  ĝ mo A (.call (.builtin "getset_descriptor.__get__") ⟨[.builtin "object.__class__",.ref a,.ref C],[]⟩) R ⟨h,g,d,t,os⟩:=by
 show S.c.el λD hC hn=>?_;have Xw:(⟨h,g,d,t,os⟩:Å).TypeIs (.builtin "object.__class__") "getset_descriptor" := PySem.F.typeOf_object_class
 have zw:(Value.ref C::.ref C0::jW).contains (.type (".".intercalate ("object.__class__".cutAt '.').dropLast))=Æ:=by rw[PySem.F.owner_object_class];show fj (by decide +kernel)
 show Č PySem.F.slot_gs_get.plain PySem.F.entry_gs_get (PySem.F.slot_gs_get.check _ _ _ _ _ _ _ _ Xw (PySem.F.args_gs_get _ _ _) ?_)
 repeat (any_goals (first|assumption|(with_reducible refine Õ hx ?_;rw[hc])|(with_reducible refine á hC ?_;rw[zw])|wp_step))
 show⟨Code.quiet_builtin _ (by decide +kernel),é PySem.F.entry_object_class ?_⟩
 repeat (any_goals (first|assumption|(with_reducible refine Õ hx ?_;rw[hc])|wp_step))
theorem v0(S:fh h C C0 mN mN0)(hx:h.get? a=À o)(hc:o.cls=.ref C)(hq:Q (.done (.ret (.ref C))) ⟨h,g,d,t,os⟩):
  É mo A (Đ.«object.__getattribute__» ⟨[.ref a,.str "__class__" tk],[]⟩) Q E ⟨h,g,d,t,os⟩:=by
 have Xw:(⟨h,g,d,t,os⟩:Å).TypeIs (.builtin "object.__class__") "getset_descriptor" := PySem.F.typeOf_object_class;have f5:=PySem.F.typeOf_object_class;have f6:=PySem.F.slot_gs_get.lookup;have f7:=PySem.F.slot_gs_set.lookup
 repeat (any_goals (first|assumption|(with_reducible refine Õ hx ?_;rw[hc])|with_reducible refine dN S SD Sw ?_|wp_step))
 show CC S hx hc ?_
 repeat (any_goals (first|assumption|wp_step))
theorem yO(S:fh h C C0 mN mN0)(hx:h.get? a=À o)(hc:o.cls=.ref C)(hq:R (.ok (.ret (.ref C))) ⟨h,g,d,t,os⟩):
  ĝ mo A (.call (.builtin "BaseException.__getattribute__") ⟨[.ref a,.str "__class__" tk],[]⟩) R ⟨h,g,d,t,os⟩:=
 Č PySem.F.attrBase_ValueError.ga.plain PySem.F.entry_bexc_ga (vZ S hx hc (v0 S hx hc hq))
theorem Fx{tk:Tok}{fill expr:Bool}{Q:Ä->Å->Prop}(S:fh h C C0 mN mN0)(hx:h.get? a=À o)(hc:o.cls=.ref C)(hq:Q (.ref C) ⟨h,g,d,t,os⟩):
  É mo A (getAttrBy (.ref a) (.str "__class__" tk) fill expr) Q E ⟨h,g,d,t,os⟩:=by
 have f3:=PySem.F.attrBase_ValueError.ga.bind (.ref a);have GI:(expr&&onTheHeap (Value.builtin "BaseException.__getattribute__"))=Ê:=by cases expr<;>rfl
 have Qn:(Value.builtin "BaseException.__getattribute__"==Value.builtin "object.__getattribute__")=Ê:=by decide +kernel
 have M0:(onTheHeap (Value.ref C)&&Value.builtin "BaseException.__getattribute__"==Value.builtin "object.__getattribute__")=Ê:=by rw[Qn];rfl
 repeat (any_goals (first|assumption|(with_reducible refine Õ hx ?_;rw[hc])|with_reducible refine dN S No PySem.F.attrBase_ValueError.ga.lookup ?_|with_reducible refine dN S Np PySem.F.attrBase_ValueError.noGetattr ?_|wp_step))
 show yO S hx hc ?_
 repeat (any_goals (first|assumption|wp_step))
theorem yN{Q:Option Ä->Å->Prop}(S:fh h C C0 mN mN0)(hx:h.get? a=À o)(hc:o.cls=.ref C)(hq:Q (À (.ref C)) ⟨h,g,d,t+1,os⟩):É mo A (getAttr? (.ref a) "__class__") Q E ⟨h,g,d,t,os⟩:=by
 unfold getAttr? getAttrBy?
 repeat (any_goals (first|assumption|with_reducible apply Fx S hx hc|wp_step))
def mq(h:Ó)(cv:Ä):Prop:=(∃T,cv=.type T/\typeOf (.type T)=pure (.type "type"))\/∃C tl D,cv=.ref C/\h.get? C=À (EP.obj D C tl)
theorem mq.type{s:Å}(x:mq s.heap cv):s.TypeIs cv "type" := by
 rcases x with ⟨T,rfl,h⟩|⟨C,tl,D,rfl,h⟩
 ·show h
 ·show⟨_,h,N⟩
theorem lY(x:mq h cv)(hq:Q Æ ⟨h,g,d,t,os⟩):É mo A (isType cv) Q E ⟨h,g,d,t,os⟩:=by
 unfold isType;rcases x with ⟨T,rfl,h⟩|⟨C,tl,D,rfl,h⟩
 ·show Ç hq
 ·repeat (any_goals (first|assumption|with_reducible refine Õ h ?_|wp_step))
theorem Ab(S:fh h C C0 mN mN0)(hx:h.get? a=À o)(hc:o.cls=.ref C)(hI:mq h cv)(hb:(Value.ref C::.ref C0::jW).contains cv=b)
  (hq:∀t',Q (.done (.ret (.bool b))) ⟨h,g,d,t',os⟩) :
  É mo A (Đ.«isinstance.nested» ⟨[.ref a,cv,.int dep tk],[]⟩) Q E ⟨h,g,d,t,os⟩:=by
 show S.c.el λD hC hn=>?_;have ht:(⟨h,g,d,t,os⟩:Å).TypeIs cv "type" := mq.type hI;have Zh:∀t',(⟨h,g,d,t',os⟩:Å).TypeIs (.ref C) "type" := λt'=>⟨_,hC,N⟩;have hT1:=Zh (t+1);have Y6:mq h (.ref C):=.inr ⟨_,_,_,N,hC⟩;by_cases he:(Value.ref C==cv)=Æ
 ·have hb':b=Æ:=by rw[<-hb,ϗ];simp only[beq_iff_eq]at he;rw[he];simp
  subst hb';have MW:=hq t
  repeat (any_goals (first|assumption|(with_reducible refine Õ hx ?_;rw[hc])|wp_step))
 ·have IY:(Value.ref C==cv)=Ê:=by simpa using he
  cases b with
  |true=>
   have MW:=hq t
   repeat (any_goals (first|assumption|(with_reducible refine Õ hx ?_;rw[hc])|with_reducible refine lY hI ?_|(with_reducible refine á hC ?_;rw[hb])|wp_step))
  |false=>
   have hq1:=hq (t+1)
   repeat (any_goals (first|assumption|(with_reducible refine Õ hx ?_;rw[hc])|with_reducible refine lY hI ?_|with_reducible refine lY Y6 ?_|(with_reducible refine á hC ?_;rw[hb])|with_reducible apply yN S hx hc|wp_step))
theorem Kv(S:fh h C C0 mN mN0)(hx:h.get? a=À o)(hc:o.cls=.ref C)(ht:mq h cv)(hb:(Value.ref C::.ref C0::jW).contains cv=b)
  (hq:∀t',Q (.bool b) ⟨h,g,d,t',os⟩):É mo A (Á (.builtin "isinstance") [.ref a,cv]) Q E ⟨h,g,d,t,os⟩:=
 call_isinstance_of (Ab S hx hc ht hb λt'=>hq t') λe=>nomatch e
end
section
variable{A:Ñ}{E:Ä->Å->Prop}{J:List È}{H:ag}{s:Å}{Z:Env}{O:List (Str×Nat)}{U:aJ}{Á:ax}{d:Nat}
def JI(d:Nat):Ä:=if d=3 then .type "ValueError" else .ref (gg.cls d)
theorem Fg:jW.contains (.ref C)=Ê:=by
 simp [jW]
theorem JJ(G:fU gg cx fs mg mb)(hc:c=1\/c=2)(hd:d=0\/d=1\/d=2\/d=3):(Value.ref (gg.cls c)::.ref (gg.cls 0)::jW).contains (JI d)=nB c d:=by
 show im G.exc.ap λa1 a2 a3=>?_;rcases hd with rfl|rfl|rfl|rfl
 ·show aef _ (Value.ref (gg.cls 0))=_
  rw[ϗ,ϗ,beq_self_eq_true];simp [nB]
 ·show aef _ (Value.ref (gg.cls 1))=_
  rw[ϗ,ϗ,Fg];rcases hc with rfl|rfl
  ·simp [nB]
  ·simp [nB,a1,a2]
 ·show aef _ (Value.ref (gg.cls 2))=_
  rw[ϗ,ϗ,Fg];rcases hc with rfl|rfl
  ·simp [nB,a1.symm,a3]
  ·simp [nB]
 ·show aef _ (Value.type "ValueError")=_
  rw[fj PySem.F.excBase_ValueError.hasB];simp [nB]
theorem ou(h:g8.lookup x=À c):c=0\/c=1\/c=2\/c=3:=by
 rcases l0 h with ⟨h,_⟩|⟨h,_⟩|⟨h,_⟩|⟨h,_⟩
 ·show .inl h
 ·show .inr (.inl h)
 ·show .inr (.inr (.inl h))
 ·show .inr (.inr (.inr h))
theorem AU(G:fU gg cx fs mg mb)(F:eQ (bw A) J Z O U s.heap)(R:ar gg J H s.heap)(hg:bp Z.scope x=Æ)(h:g8.lookup x=À c)(hq:Q (JI c) s):É mo A (eval (.Name x p) Z) Q E s:=by
 show aQ (bO hg) λme mf=>?_;by_cases h3:c=3
 ·subst h3
  have hx:x=("ValueError":Str):=by
   rcases l0 h with ⟨q,_⟩|⟨q,_⟩|⟨q,_⟩|⟨_,q⟩
   ·cases q
   ·cases q
   ·cases q
   ·show q
  subst hx;show cF G F R me mf (by decide) (v:=.type "ValueError") (by decide +kernel) hq
 ·show ja G F R me mf (v8 G h ?_) ?_
  ·rcases ou h with q|q|q|q
   ·show .inr (.inr q)
   ·show .inl q
   ·show .inr (.inl q)
   ·show absurd q h3
  ·unfold JI at hq;rw[if_neg h3]at hq;show hq
theorem Fy(G:fU gg cx fs mg mb)(R:ar gg J H s.heap)(h:c=0\/c=1\/c=2\/c=3):mq s.heap (JI c):=by
 have own:∀{C tl mN},fw gg.B C tl mN->mq s.heap (.ref C):=λX=>by show X.el λD hC hn=>.inr ⟨_,_,_,N,R.base _ _ hC⟩
 rcases h with rfl|rfl|rfl|rfl
 ·show gm G.exc.c0 λm0 f a1 z=>?_;show own a1
 ·show aE G.exc.c1 λm0 a1 z=>?_;show own a1
 ·show aE G.exc.c2 λm0 a1 z=>?_;show own a1
 ·show .inl ⟨_,N,by kernel_rfl⟩
theorem MR.exnE(x:MR gg J h (.exn c d) a):∃o vs D,h.get? a=À o/\o.cls=.ref (gg.cls c)/\o.data=.fields vs/\o.dict=À D/\J[d]?=À D:=by
 cases x with
 |exn h1 h2 h3 h4 h5=>show⟨_,_,_,h1,h2,h3,h4,h5⟩
theorem MR.wdE(x:MR gg J h (.wd w) a):∃m t,h.Ns a m/\m ("word":Str)=À (.str w t):=by
 cases x with
 |wd h1 h2=>show⟨_,_,h1,h2⟩
set_option tactic.hygienic true in
theorem S3(hr:rN x=À r)(V:VR gg J h x b):∃a,b=.ref a/\J[r]?=À a:=by
 cases V<;>first|exact no hr|skip
 rename_i n a h1;apply dJ hr;show⟨a,rfl,h1⟩
theorem Lr(G:fU gg cx fs mg mb)(io:∀e q,x≠.Starred e q)(hx:aR A Z O x (ab Á a))(hg:bp Z.scope ("isinstance":Str)=Æ)(IZ:bp Z.scope tn=Æ)(hc:g8.lookup tn=À c):
  aR A Z O (.Call (.Name ("isinstance":Str) p') [x,.Name tn Nv] [] pos) (ab Á (.isC c a)):=by
 intro U H v ae he J s R F E;show dK he λy Î h1 he=>bT he λv' h2 he=>?_;apply dD he;show ie h2 λr m h3 h4 h2=>?_;show Bz h2 λc' D' h5 h2=>?_;apply dJ h2;show aQ (vK h5) λq1 MK=>(aQ (bO hg) λme mf=>?_);subst q1;have fE:Ù [x,.Name tn Nv] Z=(Ê,eval x Z)::Ù [.Name tn Nv] Z:=nq io;show ĉ rfl (cF G F R me mf (by decide) (v:=.builtin "isinstance") (by decide +kernel) (bQ (.inl ⟨_,rfl⟩) (è (hx.bind h1 R F λb Ì aj S T' aA ba bo=>è (AU G ba aA IZ hc (Ĕ ?_))) fE) fE rfl));show aE (S3 h3 bo) λaa q2 zD=>?_;apply aY q2;show Xh ((aA.objs _ _ _ zD h4).exnE) λo vs D e1 e2 e3 e4 e5=>oN (vc G MK) λmN mN0 f S2 z=>?_;have ct:=Fy (s:=Ì) G aA (ou hc);have Mc:=S2.keeps aA.base;obtain ⟨hp,gg,dd,tk,os⟩:=Ì;show Kv Mc e1 e2 ct (JJ G MK (ou hc)) λt'=>bA.after S T' ⟨aj,cX.refl _ _ _,aA,.bool _,rfl,rfl,rfl⟩
theorem xx(G:fU gg cx fs mg mb)(hx:aR A Z O (.Name x p) (ab Á a)):aR A Z O (.Attribute (.Name x p) ("word":Str) pos) (ab Á (.word a)):=by intro U H v ae he J s R F E;show dK he λy Î h1 he=>bT he λv' h2 he=>?_;apply dD he;show ie h2 λr m h3 h4 h2=>?_;show Bz h2 λc' d' h5 h2=>ie h2 λm' w h6 h7 h2=>?_;apply dJ h2;show aQ (vK h5) λq1 MK=>?_;subst q1;obtain rfl:=E9 h7;show Attribute_name (hx.bind h1 R F λb Ì aj S T' aA ba bo=>?_);show aE (S3 h3 bo) λaa q2 zD=>?_;subst q2;show Xh ((aA.objs _ _ _ zD h4).exnE) λo vs D e1 e2 e3 e4 e5=>?_;show gm ((aA.objs _ _ _ e5 h6).wdE) λmm t w1 w2=>oN (vc G MK) λmN mN0 f S2 z=>?_;have Mc:=S2.keeps aA.base;obtain ⟨hp,gg,dd,tk,os⟩:=Ì;show Eg Mc e1 e2 e3 e4 w1 w2 rfl (bA.after S T' ⟨aj,cX.refl _ _ _,aA,.str _ _,rfl,rfl,rfl⟩)
end
theorem L0{Á:ax}{k:Nat}{as:gG}{U:aJ}{H:ag}:dZ Á (.call k as) U H=bY (bP Á as U H) λvs Î=>bY (Á k vs Î) λr Û=>J0 Û r:=rfl
theorem L6{Á:ax}{m:j0}{o:CE}{as:gG}{U:aJ}{H:ag}:dZ Á (.meth m o as) U H=bY (ab Á o U H) λx Î=>if xg m x Î then oP Á as U Î else Ã:=rfl
theorem L5{Á:ax}{as:gG}{U:aJ}{H:ag}:dZ Á (.list as) U H=oP Á as U H:=rfl
theorem L4{Á:ax}{e:CE}{r:gG}{U:aJ}{H:ag}:oP Á (.cons e r) U H=T5 (dZ Á e U H) (bY (ab Á e U H) λz Î=>oP Á r U Î):=rfl
structure Jk(fr:List Env)(J:List È)(s:Å)(c:Nat)(w:Str)(ae:ag)(ea:È)(aS:List È)(s':Å):Prop where
 hc:c=1\/c=2
 S:SE J s.heap aS s'.heap
 T:bK s s'
 X:md fr aS ae s.heap s'.heap True P0 ea c w
def jo(A:Ñ)(Z:Env)(O:List (Str×Nat))(e:Ô)(x:aJ->ag->XR):Prop:=
 ∀U H c w ae,x U H=À (c,w,ae)->∀J s,ar gg J H s.heap->eQ (bw A) J Z O U s.heap->∀(Q:Ä->Å->Prop) E,(∀ea aS s',Jk (bw A) J s c w ae ea aS s'->E (.ref ea) s')->É mo A (eval e Z) Q E s
def p9(A:Ñ)(Á:ax):Prop:=
 ∀k as H c w ae,Á k as H=À (.exc c w,ae)->∀fn,fs[k]?=À fn->∀J s cc,ar gg J H s.heap->sh (bw A) J s.heap->bv gg J s.heap as cc->∀(Q:Ä->Å->Prop) E,(∀ea aS s',Jk (bw A) J s c w ae ea aS s'->E (.ref ea) s')->É mo A (PySem.call (.ref fn.addr) cc) Q E s
section
variable{A:Ñ}{E:Ä->Å->Prop}{J aj aS:List È}{H Î ae:ag}{s Ì s':Å}{Z:Env}{O:List (Str×Nat)}{U:aJ}{Á:ax}{d:Nat}{c:Nat}{w:Str}{ea:È}
theorem OJ(F:sh (bw A) J h):Ug (bw A) h:=λf hf L hl=>by obtain ⟨_,L',o,es,ep,k2,k3,_⟩:=F f hf;apply aY (sm ((hl).symm.trans k2));rw[k3];show λq=>nomatch q
theorem md.before{ms:È->Prop}{P:Ä->Prop}(S:cX ms J h aj bH)(R:ar gg J H h)(F:sh (bw A) J h)(Y:md (bw A) aS ae bH h' Ď P ea c w):md (bw A) aS ae h h' Ď P ea c w:=by have bk:∀{b},bH.get? b=Ã->h.get? b=Ã:=λ{b} e=>kn λo q=>(S.dom b o q).elim λo' e'=>no (e.symm.trans e');show⟨Y.R,Y.FS,OJ F,λb o e=>(S.dom b o e).elim (Y.dom b),R.base,Y.X.ex.elim λx y=>⟨x,⟨y.b.he,y.b.hsz,y.b.hD,y.b.hm,bk y.b.D0,y.b.Dφ⟩,y.tb.imp id λq=>q.elim λd z=>⟨d,z.v,z.ne,z.ho,z.cls,z.data,z.f,z.p,bk z.T0,z.Tφ⟩⟩,bk Y.X.e0,Y.X.eφ,Y.X.eB⟩
theorem Jk.after(S:SE J s.heap aj Ì.heap)(T:bK s Ì)(R:ar gg J H s.heap)(F:sh (bw A) J s.heap)(x:Jk (bw A) aj Ì c w ae ea aS s'):Jk (bw A) J s c w ae ea aS s':=
 ⟨x.hc,S.trans x.S,T.trans x.T,x.X.before S R F⟩
theorem DL(G:fU gg cx fs mg mb)(hC:p9 A Á)(hs:∀e p,F' (.Starred e p)=Ã)(ih:∀e c,F' e=À c->aR A Z O e (ab Á c))
  (hg:bp Z.scope f=Æ) (hk:hW cx f=À k) (eT:as.isEmpty=Ê) (h:cg F' as=À cs):jo A Z O (.Call (.Name f p) as [] pos) (dZ Á (.call k cs)):=by
 intro U H c w ae he J s R F Q E hE;rw[L0]at he;show rY he λvs Î r Û h1 h2 he=>?_;show aQ (CM he) λq1 q2=>?_;subst q1 q2;show aE (Gh G hk) λfn lU q3=>?_;subst q3;obtain ⟨hm,o,pm,cd,doc,ho,hd,og⟩:=G.made fn (ģ lU);show aQ (bO hg) λme mf=>?_;cases as with
 |nil=>cases eT
 |cons e aD=>show bT (k:=λc=>(cg F' aD).bind λcs=>À (gG.cons c cs)) h λc hc z=>ĉ N (ja G F R me mf hm (callWith_def (o:=o) hd (Ï (gi hs ih pos h h1 R F E) (λcc Ì ⟨aj,S,aA,bo,T⟩=>⟨aA.base _ _ ho,(hC k vs Î _ _ _ h2 fn lU aj Ì cc aA (F.step R S).stk bo _ E λea aS s' X=>hE ea aS s' (X.after S T R F.stk))⟩) λz z x=>x) (cO hs hc aD)))
theorem oA(hs:∀e p,f (.Starred e p)=Ã)(ih:∀e c,f e=À c->aR A Z O e (ab Á c))(yu:∀e c,f e=À c->jo A Z O e (dZ Á c))(pos:Pos):∀{es:List Ô} {cs:gG},cg f es=À cs ->
  ∀ ⦃U H c w ae⦄,oP Á cs U H=À (c,w,ae)->∀ ⦃J s⦄,ar gg J H s.heap->eQ (bw A) J Z O U s.heap->∀(Q:List Ä->Å->Prop) E,(∀ea aS s',Jk (bw A) J s c w ae ea aS s'->E (.ref ea) s')->É mo A (spliced (ĳ pos (Ù es Z))) Q E s
 |[],cs,h=>by intro U H c w ae he J s R F Q E hE;obtain rfl:=sm h;show no he
 |e::r,cs,h=>by
  show ie h λc IT h1 h2 h=>?_;apply dJ h;intro U H c w ae he J s R F Q E hE;rw[L4]at he;show â (Hs he) (λhe=>?_) (λq=>aQ q λz he=>?_)
  ·show è (yu e _ h1 U H c w ae he J s R F _ E hE) (cO hs h1 r)
  ·show dK he λx Î hx he=>è ((ih e _ h1).bind hx R F λa Ì aj S T aA ba bo=>oA hs ih yu pos h2 he aA ba _ E λea aS s' X=>hE ea aS s' (X.after S T R F.stk)) (cO hs h1 r)
theorem DQ(hs:∀e p,f (.Starred e p)=Ã)(ih:∀e c,f e=À c->aR A Z O e (ab Á c))(yu:∀e c,f e=À c->jo A Z O e (dZ Á c))(h:cg f es=À cs):jo A Z O (.List es pos) (dZ Á (.list cs)):=by intro U H c w ae he J s R F Q E hE;rw[L5]at he;show wpAny_List_spliced (oA hs ih yu pos h he R F _ E hE)
theorem DR(G:fU gg cx fs mg mb)(hs:∀e p,F' (.Starred e p)=Ã)(ih:∀e c,F' e=À c->aR A Z O e (ab Á c))(yu:∀e c,F' e=À c->jo A Z O e (dZ Á c))
  (ho:aR A Z O o (ab Á a)) (O6:Aj o=Æ) (qH:(ap.endLine==pos.line)=Æ) (hp:AQ m as.length=À p) (h:cg F' as=À cs):jo A Z O (.Call (.Attribute o m ap) as [] pos) (dZ Á (.meth p a cs)):=by
 intro U H c w ae he J s R F Q E hE;rw[L6]at he;show dK he λx Î h1 he=>dC he λhr he=>im (vX hp) λrO yr q3=>?_;apply aY q3;cases as with
 |nil=>cases rO
 |cons e aD=>
  show bT (k:=λc=>(cg F' aD).bind λcs=>À (gG.cons c cs)) h λc' ff h'=>bT h' λIT R9 z=>Ϗ ?_ ?_ qH (ho.bind h1 R F λav Ì aj S T aA ba bo=>?_)
  ·cases o with
   |Name x p=>rfl
   |Constant k n p=>rfl
   |Subscript x y p=>rfl
   |_=>cases O6
  ·rw[xP hs pos h]
   have:(e::aD).length+0+0<30:=by have:=yr;show jT (y3 0x1c001e9210b28012ba080112ba0812 N (iL yr) (iA _ _) (iA _ _))
   show decide_eq_true (p:=(e::aD).length+0+0<30) this
  ·show aQ (xh (s:=Ì) hr aA bo) λhT hd=>⟨qX p,qV p,qY p,tc p,td p,hT,hd,callWith_method1 (oA hs ih yu pos h he aA ba _ E λea aS s' X=>hE ea aS s' (X.after S T R F.stk)) (cO hs ff aD) (ji hs pos R9)⟩
end
theorem jr(cx:gr)(n:Nat)(sc:à)(O:List (Str×Nat))(nx:Nat)(e:Ô)(p:Pos):cq cx n sc O nx (.Starred e p)=Ã:=by cases n<;>rfl
theorem Fk(h:cq cx n sc O nx x=À c):∀e q,x≠.Starred e q:=by rintro e q rfl;show no ((jr cx n sc O nx e q).symm.trans h)
theorem yK(h:cq cx n sc O nx x=À c):∀l u st p,x≠.Slice l u st p:=by rintro l u st p rfl;cases n<;>show no h
section
variable{A:Ñ}{Á:ax}{d:Nat}
theorem n9(h:vV cx n sc O nx e=À it):∀x,ę e Z x=pure x:=by
 intro x;cases e with
 |Set a b c=>show aE (ob (m:=cq cx n sc O nx (.Set a b c)) (k:=λc=>À (jm.ex c)) h) λc' h z=>?_;cases n<;>show no h
 |_=>rfl
theorem vg(h:mR it t=Æ)(hc:fW sc O e=À t):vf (oZ it) e:=by
 unfold fW at hc;cases hn:dx e with
 |some x=>
  rw[hn]at hc;show ä (bD hn) λp ht=>?_;show aE (ob hc) λi z hc=>?_;show .inr ⟨?_,x,p,ht⟩;rw[<-sm hc,mR]at h;cases hq:oZ it with
  |false=>rfl
  |true=>rw[hq]at h;show absurd h Ķ
 |none=>rw[hn]at hc;show aE (ob hc) λl hl z=>?_;show mJ (qd hl) λk p ht=>?_;show .inl ⟨_,_,_,ht⟩
theorem li(h:aR A Z O e (ab Á c))(he:isTrue e Z (eval e Z)=(do let v <-eval e Z;standAt e.pos;holding [v] (truthy v))):
  aR A Z O e (ab Á c)/\fA A Z O e (bV Á c):=⟨h,DU h he⟩
def Yw(A:Ñ)(Á:ax)(F:à->List (Str×Nat)->Nat->Ô->Option CE):Prop:=∀(Z:Env) O nx e c,F Z.scope O nx e=À c->aR A Z O e (ab Á c)/\fA A Z O e (bV Á c)
theorem HV(hA:i5 A d)(jv:∃o,gg.B.get? û=À o)(da:∀e c,f e=À c->aR A Z O e (ab Á c))(h:Q4 f l ops rs=À c):
  aR A Z O (.Compare l ops rs p) (ab Á c)/\fA A Z O (.Compare l ops rs p) (bV Á c):=by
 show aE (ob h) λop h1 h=>?_;show aE (ob h) λr h2 h=>?_;show aQ (zM h) λhm h=>?_;show aE (ob h) λa ha h=>?_;show aE (ob h) λb hb h=>?_;obtain rfl:=sm h;obtain rfl:=bX h1;obtain rfl:=bX h2;show Lo hA jv (adB.mpr hm) (da _ _ ha) (da _ _ hb)
theorem H8(da:∀e c,f e=À c->aR A Z O e (ab Á c))(io:∀e c,f e=À c->∀l u st p,e≠.Slice l u st p)(h:Q6 f v i=À c):
  aR A Z O (.Subscript v i p) (ab Á c):=by
 show aE (ob h) λa ha h=>?_;by_cases hs:∃lo hi st p,i=.Slice lo hi st p
 ·show P7 hs λlo hi st q k1=>?_;subst k1
  show aQ (cT h) λfE h=>?_;show aE (ob h) λx hx h=>?_;show aE (ob h) λy hy h=>?_;obtain rfl:=sm h;cases st with
  |none=>show Ly da (da _ _ ha) hx hy
  |some _=>show nomatch fE
 ·have h':((f i).bind λx=>À (CE.idx a x))=À c:=by
   cases i with
   |Slice lo hi st p=>show absurd ⟨lo,hi,st,p,N⟩ hs
   |_=>show h
  show aE (ob h') λx hx h=>?_;obtain rfl:=sm h;show BM (io _ _ hx) (da _ _ ha) (da _ _ hx)
theorem fq{f:Ô->Option CE}(hs:∀e p,f (.Starred e p)=Ã)(hx:f x=À a):∀e q,x≠.Starred e q:=λe q eq=>by rw[eq,hs]at hx;show no hx
theorem H0{f:Ô->Option CE}(hA:i5 A d)(G:fU gg cx fs mg mb)(hs:∀e p,f (.Starred e p)=Ã)(da:∀e c,f e=À c->aR A Z O e (ab Á c))(hg:bp Z.scope ("isinstance":Str)=Æ)
  (h:Mq f Z.scope as=À c):aR A Z O (.Call (.Name ("isinstance":Str) p) as [] pos) (ab Á c):=by
 show aE (ob h) λk2 hl h=>?_;obtain ⟨x,t⟩:=k2;show aE (ob h) λtn ht h=>?_;show aQ (cT h) λVN h=>?_;show aE (ob h) λq hq h=>?_;show aE (ob h) λa ha h=>?_;obtain rfl:=sm h;obtain rfl:=ik hl;show ä (bD ht) λp' k3=>?_;subst k3;show Ls hA G (fq hs ha) (da _ _ ha) hg VN hq
theorem xq{f:Ô->Option CE}(G:fU gg cx fs mg mb)(hs:∀e p,f (.Starred e p)=Ã)(da:∀e c,f e=À c->aR A Z O e (ab Á c))(hg:bp Z.scope ("isinstance":Str)=Æ)
  (h:Ot f Z.scope as=À c):aR A Z O (.Call (.Name ("isinstance":Str) p) as [] pos) (ab Á c):=by
 show aE (ob h) λk4 hl h=>?_;obtain ⟨x,t⟩:=k4;show aE (ob h) λtn ht h=>?_;show aQ (cT h) λVN h=>?_;show aE (ob h) λq hq h=>?_;show aE (ob h) λa ha h=>?_;obtain rfl:=sm h;obtain rfl:=ik hl;show ä (bD ht) λp' k5=>?_;subst k5;show Lr G (fq hs ha) (da _ _ ha) hg VN hq
theorem DK(hA:i5 A d)(G:fU gg cx fs mg mb)(hC:tF A Á)(hs:∀e p,f (.Starred e p)=Ã)(da:∀e c,f e=À c->aR A Z O e (ab Á c))(hg:bp Z.scope gn=Æ)
  (h:qg f cx Z.scope gn as=À c):aR A Z O (.Call (.Name gn p) as [] pos) (ab Á c):=by
 unfold qg at h;cases hk:hW cx gn with
 |some k=>rw[hk]at h;show aQ (zM h) λeT h=>?_;show aE (ob h) λcs iC h=>?_;obtain rfl:=sm h;show xp G (hC k) hs da hg hk (adB.mpr eT) iC
 |none=>
  rw[hk]at h;by_cases hi:(gn==("isinstance":Str))=Æ
  ·replace h:=(if_pos hi).symm.trans h
   obtain rfl:=beq_iff_eq.mp hi;by_cases C3:(Mt as).isSome=Æ
   ·show xq G hs da hg ((if_pos C3).symm.trans h)
   ·show H0 hA G hs da hg ((if_neg C3).symm.trans h)
  ·replace h:=(if_neg hi).symm.trans h
   cases Kq:IJ cx Z.scope gn as with
   |some q=>rw[Kq]at h;show ie h λa b ha hb h=>?_;apply dJ h;show dC Kq λZO Kq=>bT Kq λe he Kq=>bT Kq λq2 Wf Kq=>dC Kq λVO h2=>?_;obtain ⟨zn,zas⟩:=q2;rw[ō,ō,beq_iff_eq]at VO;show mJ (iU Wf) λp2 q3 EH=>?_;rw[beq_iff_eq.mp ZO]at hg ⊢;rw[bX he,EH,show zn=_ from VO.1.1,show zas=_ from ik h2];show H9 hA G hs da hg VO.1.2 ha hb
   |none=>
   rw[Kq]at h;show aE (ob h) λq hq h=>?_;show aE (ob h) λcs iC h=>?_;obtain rfl:=sm h;show H3 hA G hs da hg hq iC
set_option tactic.hygienic true in
theorem uu(h:Bn e=Æ):∃n q,e=.Constant .none n q:=by
 cases e<;>first|exact absurd h Ķ|skip
 rename_i cv n q;cases cv<;>first|exact absurd h Ķ|skip
 show⟨n,q,N⟩
theorem DJ{f:Ô->Option CE}(hA:i5 A d)(G:fU gg cx fs mg mb)(hs:∀e p,f (.Starred e p)=Ã)(da:∀e c,f e=À c->aR A Z O e (ab Á c))(hg:bp Z.scope gn=Æ)
  (h:Fj f gn as k=À c):aR A Z O (.Call (.Name gn p) as [k] pos) (ab Á c):=by
 show aE (ob h) λx hx h=>?_;show aQ (cT h) λhc h=>?_;show aE (ob h) λa ha h=>?_;obtain rfl:=sm h
 simp only[ō,beq_iff_eq]at hc
 show aQ hc λk6 r3=>?_;show aQ k6 λWB Ba=>?_;subst WB;obtain rfl:=bX hx;obtain ⟨ka,kv,kp⟩:=k;obtain rfl:ka=À ("default":Str):=Ba;show mJ (uu r3) λn q k7=>?_;subst k7;show H2 hA G (fq hs ha) (da _ _ ha) hg
theorem DH(hA:i5 A d)(G:fU gg cx fs mg mb)(hC:tF A Á)(hs:∀e p,f (.Starred e p)=Ã)(da:∀e c,f e=À c->aR A Z O e (ab Á c))
  (Wj:∀as k c p,bp Z.scope ("sorted":Str)=Æ->sk as k=À c->aR A Z O (.Call (.Name ("sorted":Str) p) as [k] pos) (ab Á c))
  (h:Fi f sk cx Z.scope fn as ks pos=À c):aR A Z O (.Call fn as ks pos) (ab Á c):=by
 cases fn with
 |Name wE p=>
  cases ks with
  |nil=>show DK hA G hC hs da (cT h).1 (cT h).2
  |cons k ks=>
   have hk:=cT (cT h).2;obtain rfl:=Ŷ.mp hk.1;by_cases hso:(wE==("sorted":Str))=Æ
   ·have h2:=(if_pos hso).symm.trans hk.2
    obtain rfl:=beq_iff_eq.mp hso;show Wj as k c p (cT h).1 h2
   ·have h2:=(if_neg hso).symm.trans hk.2
    show DJ hA G hs da (cT h).1 h2
 |Attribute o m ap=>
  show aQ (cT h) λhc h=>?_;show aE (ob h) λq hq h=>?_;show aE (ob h) λa ha h=>?_;show aE (ob h) λcs iC h=>?_;obtain rfl:=sm h
  simp only[ō]at hc
  show aQ hc λk8 qH=>?_;show aQ k8 λhk O6=>?_;obtain rfl:=Ŷ.mp hk;show H1 G hs da (da _ _ ha) O6 qH hq iC
 |_=>show no h
theorem Al{Z:Env}{O:List (Str×Nat)}{f:Ô->Option CE}(hA:i5 A d)(G:fU gg cx fs mg mb)(hs:∀e p,f (.Starred e p)=Ã)(da:∀e c,f e=À c->aR A Z O e (ab Á c)){as:List Ô}{p q:Pos}{it:jm}(hg:bp Z.scope ("range":Str)=Æ)(h:Fp f as=À it):mw A Z O (.Call (.Name ("range":Str) p) as [] q) (oZ it) (cD Á it):=by
 match as,h with
 |[],h=>show no h
 |[a],h=>show aE (ob h) λx hx h=>?_;obtain rfl:=sm h;show H5 hA G hg (fq hs hx) (da _ _ hx)
 |[a,b],h=>show aE (ob h) λx hx h=>?_;show aE (ob h) λy hy h=>?_;obtain rfl:=sm h;show H6 hA G hg (fq hs hx) (fq hs hy) (da _ _ hx) (da _ _ hy)
 |a::b::c::r,h=>show aE (ob h) λx hx h=>?_;show aE (ob h) λy hy h=>?_;show no h
theorem H7(hA:i5 A d)(G:fU gg cx fs mg mb)(hs:∀e p,f (.Starred e p)=Ã)(da:∀e c,f e=À c->aR A Z O e (ab Á c))(hg:bp Z.scope gn=Æ)
  (h:Ov f gn as (.Call (.Name gn p) as [] q)=À it):mw A Z O (.Call (.Name gn p) as [] q) (oZ it) (cD Á it):=by
 unfold Ov at h;by_cases h1:(gn==("range":Str))=Æ
 ·replace h:=(if_pos h1).symm.trans h
  obtain rfl:=beq_iff_eq.mp h1;show Al hA G hs da hg h
 ·replace h:=(if_neg h1).symm.trans h
  by_cases h2:(gn==("zip":Str))=Æ
  ·replace h:=(if_pos h2).symm.trans h
   show aE (ob h) λk9 hl h=>?_;obtain ⟨a,b⟩:=k9;show aE (ob h) λx hx h=>?_;show aE (ob h) λy hy h=>?_;obtain rfl:=sm h;obtain rfl:=ik hl;obtain rfl:=beq_iff_eq.mp h2;show LB hA G hg (fq hs hx) (fq hs hy) (da _ _ hx) (da _ _ hy)
  ·replace h:=(if_neg h2).symm.trans h
   by_cases h3:(gn==("enumerate":Str))=Æ
   ·replace h:=(if_pos h3).symm.trans h
    show aE (ob h) λa hl h=>?_;show aE (ob h) λx hx h=>?_;obtain rfl:=sm h;obtain rfl:=bX hl;obtain rfl:=beq_iff_eq.mp h3;show Lp hA G hg (fq hs hx) (da _ _ hx)
   ·replace h:=(if_neg h3).symm.trans h
    show aE (ob h) λc hc h=>?_;obtain rfl:=sm h;show HY hA (da _ _ hc)
theorem BN(hA:i5 A d)(G:fU gg cx fs mg mb)(hs:∀e p,f (.Starred e p)=Ã)(da:∀e c,f e=À c->aR A Z O e (ab Á c))(h:EA f cx Z.scope e=À it):mw A Z O e (oZ it) (cD Á it):=by
 have ex:Cy f e=À it->mw A Z O e (oZ it) (cD Á it):=λh=>by show aE (ob h) λc hc h=>?_;obtain rfl:=sm h;show HY hA (da _ _ hc)
 unfold EA at h;cases hp:j5 e with
 |none=>rw[hp]at h;show ex h
 |some p=>
  rw[hp]at h;obtain ⟨gn,as⟩:=p;by_cases hg:(bp Z.scope gn&&(hW cx gn).isNone)=Æ
  ·replace h:=(if_pos hg).symm.trans h
   have IZ:bp Z.scope gn=Æ:=(Ł.mp hg).1;show mJ (iU hp) λp q Ky=>?_;subst Ky;show H7 hA G hs da IZ h
  ·show ex ((if_neg hg).symm.trans h)
theorem vW(h:Xb F fI sc O nx elt ue scope=À a):
  ∃aH cN ifs it t cs c,ue=[⟨aH,cN,ifs,0⟩]/\tR scope sc O nx (bi aH)=Æ/\fI cN=À it/\fW (je scope sc) (cp scope O nx (bi aH)) aH=À t /\
   cg (F (je scope sc) (cp scope O nx (bi aH)) (nx+2)) ifs=À cs/\F (je scope sc) (cp scope O nx (bi aH)) (nx+2) elt=À c/\mR it t=Æ/\a=.comp c t it cs:=by
 show aE (ob h) λKz h1 h=>?_;obtain ⟨aH,cN,ifs,as⟩:=Kz;show aQ (cT h) λpL h=>?_;show aQ (Ł.mp pL) λha pL=>?_;show aE (ob h) λit sT h=>?_;show aE (ob h) λt ht h=>?_;show aE (ob h) λcs iC h=>?_;show aE (ob h) λc hc h=>?_;show aQ (cT h) λMZ h=>?_;have ff:=(sm h).symm;obtain rfl:=bX h1;obtain rfl:as=0:=beq_iff_eq.mp ha;show⟨aH,cN,ifs,it,t,cs,c,rfl,pL,sT,ht,iC,hc,MZ,ff⟩
theorem nh(hA:i5 A d)(G:fU gg cx fs mg mb)(hC:tF A Á):∀n,Yw A Á (cq cx n):=by
 intro n
 induction n with
 |zero=>show λZ O nx e c h=>no h
 |succ n ih=>
  intro Z O nx e;have hs:∀e p,cq cx n Z.scope O nx (.Starred e p)=Ã:=λe p=>jr ..;have da:∀e c,cq cx n Z.scope O nx e=À c->aR A Z O e (ab Á c):=λe c h=>(ih Z O nx e c h).1;have M8:∀e c,cq cx n Z.scope O nx e=À c->fA A Z O e (bV Á c):=λe c h=>(ih Z O nx e c h).2;show Gd (λc=>aR A Z O e (ab Á c)/\fA A Z O e (bV Á c)) (yJ (cq cx n) (λi=>EA (cq cx n Z.scope O nx) cx Z.scope i) cx Z.scope O nx e);cases e with
  |Constant k _ _=>show ah λv hv=>aL (li (oE hv) N)
  |Name x p=>show λc h=>li (rB G h) N
  |BinOp l op r p=>show ah λa ha=>ah λb hb=>aL (li (Ln (da _ _ ha) (da _ _ hb)) N)
  |UnaryOp op x p=>
   show ah λa ha=>?_;cases op with
   |Not=>show aL (BO (da _ _ ha) (M8 _ _ ha))
   |_=>show ed
  |BoolOp op vs p=>show λc h=>⟨oB da _ _ _ _ h,λU H b ae he J s R F E=>oC M8 _ _ _ _ _ h U H b ae he J s R F E⟩
  |IfExp t a b p=>show ah λx hx=>ah λy hy=>ah λz hz=>aL (Lu (M8 _ _ hx) (da _ _ hy) (M8 _ _ hy) (da _ _ hz) (M8 _ _ hz))
  |Compare l ops rs p=>show λc h=>HV hA G.sys da h
  |List es p=>show ah λcs iC=>aL (li (xt hs da iC) N)
  |Tuple es k p=>show ah λcs iC=>aL (li (tv hs da iC) N)
  |Dict ks vs p=>show c9 λhk=>aL ?_;show aQ (Ł.mp hk) λh1 h2=>?_;obtain rfl:=Ŷ.mp h1;obtain rfl:=Ŷ.mp h2;show li DO rfl
  |Subscript v i p=>show λc h=>li (H8 da (λe c h=>yK h) h) N
  |Call fn as ks p=>show λc h=>li (DH hA G hC hs da (λas k c q hg hk=>DX hA G hs da hg hk) h) N
  |Attribute o a p=>
   show c9 λhw=>ah λc' ff=>aL ?_
   simp only[ō,beq_iff_eq]at hw
   show aQ hw λKA hn=>?_;subst KA;show ä (abA.mp hn) λx hx=>?_;show ä (bD hx) λq Sl=>?_;subst Sl;show li (xx G (da _ _ ff)) N
  |ListComp elt ue scope pos=>
   intro c h;show IU (vW h) λaH cN ifs it t k27=>?_;show Vb k27 λcs c' Sm pL sT ht iC ff k28=>?_;show aQ k28 λMZ Sn=>?_;subst Sm;subst Sn;show li (HW hA (sI pL) (n9 sT) (vg MZ ht) (BN hA G hs da sT) ht (λe' IY=>?_) iC λe' IY e c h=>?_) N
   ·rw[<-IY]at ff;show(ih _ _ _ _ _ ff).1
   ·rw[<-IY]at h;show(ih _ _ _ _ _ h).2
  |_=>show ed
theorem xr(hA:i5 A d)(G:fU gg cx fs mg mb)(hC:tF A Á)(n:Nat)(Z:Env)(O:List (Str×Nat))(nx:Nat)(e:Ô)(it:jm)(h:vV cx n Z.scope O nx e=À it):mw A Z O e (oZ it) (cD Á it):=
 BN hA G (λe p=>jr ..) (λe c h=>(nh hA G hC n Z O nx e c h).1) h
theorem ci(h:∀U H,dZ Á c U H=Ã):jo A Z O e (dZ Á c):=λU H c w ae he=>no ((h U H).symm.trans he)
theorem Ak(G:fU gg cx fs mg mb)(hC:p9 A Á)(hs:∀e p,f (.Starred e p)=Ã)(da:∀e c,f e=À c->aR A Z O e (ab Á c))(yu:∀e c,f e=À c->jo A Z O e (dZ Á c))
  (Wj:∀as k c,sk as k=À c->∃a b d,c=.sortK a b d):Gd (λc=>jo A Z O (.Call fn as ks pos) (dZ Á c)) (Fi f sk cx Z.scope fn as ks pos):=by
 cases fn with
 |Name wE p=>
  cases ks with
  |nil=>
   show c9 λhg=>?_;show Gd _ (qg f cx Z.scope wE as);unfold qg;cases hk:hW cx wE with
   |some k=>show qC λeT=>ah λcs iC=>aL (DL G hC hs da hg hk (adB.mpr eT) iC)
   |none=>show j9 (λz=>j9 (λz=>ah λz z=>ah λz z=>c9 λz=>ah λz z=>ah λz z=>aL (ci λz z=>rfl)) λz=>ah λz z=>ah λz z=>c9 λz=>ah λz z=>ah λz z=>aL (ci λz z=>rfl)) λz=>(by
    cases IJ cx Z.scope wE as with
    |some q=>show ah λz z=>ah λz z=>aL (ci λz z=>rfl)
    |none=>show ah λz z=>ah λz z=>aL (ci λz z=>rfl))
  |cons k ks=>
   show c9 λhg=>c9 λhk=>j9 (λz c h=>?_) λz=>?_
   ·show yT (Wj _ _ _ h) λz z z k39=>?_;subst k39
    show ci λz z=>rfl
   ·show ah λz z=>c9 λz=>ah λz z=>aL (ci λz z=>rfl)
 |Attribute o m ap=>
  show c9 λhc=>ah λq hq=>ah λa ha=>ah λcs iC=>aL ?_
  simp only[ō]at hc
  show aQ hc λWA qH=>?_;show aQ WA λhk O6=>?_;obtain rfl:=Ŷ.mp hk;show DR G hs da yu (da _ _ ha) O6 qH hq iC
 |_=>show ed
theorem Fq(h:Tm fI cx sc O nx as k=À c):∃a b d,c=.sortK a b d:=by show aE (ob h) λz z h=>?_;show aE (ob h) λz z h=>?_;show aE (ob (cT h).2) λz z h=>?_;show aE (ob (cT h).2) λz z h=>?_;show⟨_,_,_,(sm h).symm⟩
theorem ry(hA:i5 A d)(G:fU gg cx fs mg mb)(hC:tF A Á)(hX:p9 A Á):∀n (Z:Env) O nx e c,cq cx n Z.scope O nx e=À c->jo A Z O e (dZ Á c):=by
 intro n
 induction n with
 |zero=>show λZ O nx e c h=>no h
 |succ n ih=>
  intro Z O nx e;have hs:∀e p,cq cx n Z.scope O nx (.Starred e p)=Ã:=λe p=>jr ..;have da:∀e c,cq cx n Z.scope O nx e=À c->aR A Z O e (ab Á c):=λe c h=>(nh hA G hC n Z O nx e c h).1;show Gd (λc=>jo A Z O e (dZ Á c)) (yJ (cq cx n) (λi=>EA (cq cx n Z.scope O nx) cx Z.scope i) cx Z.scope O nx e);cases e with
  |Constant k _ _=>show ah λv hv=>aL (ci λj j=>rfl)
  |Name x p=>show qC λj=>ah λk j=>j9 (λj=>ah λi j=>aL (ci λj j=>rfl)) λj=>c9 λj=>ah λi j=>aL (ci λj j=>rfl)
  |BinOp l op r p=>show ah λa ha=>ah λb hb=>aL (ci λj j=>rfl)
  |UnaryOp op x p=>
   show ah λa ha=>?_;cases op with
   |Not=>show aL (ci λj j=>rfl)
   |_=>show ed
  |BoolOp op vs p=>
   cases vs with
   |nil=>show ed
   |cons e r=>
    cases r with
    |nil=>show λc h U H c w ae he J s R F Q E hE=>BoolOp_one (ih _ _ _ _ _ h U H c w ae he J s R F _ E hE)
    |cons e' r=>show ah λa ha=>ah λb hb=>aL (by cases op<;>show ci λj j=>rfl)
  |IfExp t a b p=>show ah λx hx=>ah λy hy=>ah λz hz=>aL (ci λj j=>rfl)
  |Compare l ops rs p=>show ah λj j=>ah λj j=>qC λj=>ah λj j=>ah λj j=>aL (ci λj j=>rfl)
  |List es p=>show ah λcs iC=>aL (DQ hs da (λe c h=>ih _ _ _ _ _ h) iC)
  |Tuple es k p=>show ah λcs iC=>aL (ci λj j=>rfl)
  |Dict ks vs p=>show c9 λhk=>aL (ci λj j=>rfl)
  |Subscript v i p=>
   show ah λa ha=>?_;cases i with
   |Slice lo hi st p=>show c9 λj=>ah λj j=>ah λj j=>aL (ci λj j=>rfl)
   |_=>show ah λj j=>aL (ci λj j=>rfl)
  |Call fn as ks p=>show Ak G hX hs da (λe c h=>ih _ _ _ _ _ h) (sk:=Tm (λi=>EA (cq cx n Z.scope O nx) cx Z.scope i) cx Z.scope O nx) (λas k c h=>Fq h)
  |Attribute o a p=>show c9 λj=>ah λj j=>aL (ci λj j=>rfl)
  |ListComp elt ue scope pos=>show ah λj j=>c9 λj=>ah λj j=>ah λj j=>ah λj j=>ah λj j=>c9 λj=>aL (ci λj j=>rfl)
  |_=>show ed
theorem DP(hA:i5 A d)(G:fU gg cx fs mg mb)(hC:tF A Á)(hX:p9 A Á)(n:Nat)(Z:Env)(O:List (Str×Nat))(nx:Nat)(e:Ô)(it:jm)(h:vV cx n Z.scope O nx e=À it):jo A Z O e (JZ Á it):=by
 cases it with
 |ex c=>have gp:cq cx n Z.scope O nx e=À c:=(tN _ (show EA (cq cx n Z.scope O nx) cx Z.scope e=À (.ex c) from h)).elim (λq=>aE q λc' e hc=>hc.trans (congrArg Wv e).symm) λq=>q.elim (λq=>P7 q λz z z z q=>absurd (congrArg TY q.1) afr) λq=>absurd q.symm (acQ 1);show ry hA G hC hX n Z O nx e c gp
 |_=>show λU H c w ae he=>no he
end
section
variable{A:Ñ}{Á:ax}{d:Nat}
theorem JC(cx:gr)(n:Nat)(sc:à)(O:List (Str×Nat))(e:Ô)(p:Pos):cQ cx sc O n (.Starred e p)=Ã:=by cases n<;>rfl
theorem HU(G:fU gg cx fs mg mb)(hQ:∀k∈cx.calm,si A Á k)(Z:Env)(O:List (Str×Nat)):∀n e c,cQ cx Z.scope O n e=À c->aR A Z O e (ab Á c)/\fA A Z O e (bV Á c):=by
 intro n
 induction n with
 |zero=>show λe c h=>no h
 |succ n ih=>
  intro e;have hs:∀e p,cQ cx Z.scope O n (.Starred e p)=Ã:=λe p=>JC ..;have da:∀e c,cQ cx Z.scope O n e=À c->aR A Z O e (ab Á c):=λe c h=>(ih e c h).1;have M8:∀e c,cQ cx Z.scope O n e=À c->fA A Z O e (bV Á c):=λe c h=>(ih e c h).2;show Gd (λc=>aR A Z O e (ab Á c)/\fA A Z O e (bV Á c)) (Xc (cQ cx Z.scope O n) cx Z.scope O e);cases e with
  |Constant k _ _=>show ah λv hv=>aL (li (oE hv) N)
  |Name x p=>show λc h=>li (rB G h) N
  |UnaryOp op x p=>
   show ah λa ha=>?_;cases op with
   |Not=>show aL (BO (da _ _ ha) (M8 _ _ ha))
   |_=>show ed
  |BoolOp op vs p=>show λc h=>⟨oB da _ _ _ _ h,λU H b ae he J s R F E=>oC M8 _ _ _ _ _ h U H b ae he J s R F E⟩
  |List es p=>show ah λcs iC=>aL (li (xt hs da iC) N)
  |Attribute o a p=>
   show c9 λhw=>ah λc' ff=>aL ?_
   simp only[ō,beq_iff_eq]at hw
   show aQ hw λq1 hn=>(ä (abA.mp hn) λx hx=>?_);apply aY q1;show ä (bD hx) λq q2=>?_;subst q2;show li (xx G (da _ _ ff)) N
  |Call fn as ks p=>
   show ah λgn hn=>c9 λhc=>ä (bD hn) λp' q2=>?_;apply aY q2
   simp only[ō]at hc
   show aQ hc λhk hg=>?_;apply aY (Ŷ.mp hk);cases hk:hW cx gn with
   |some k=>
    show qC λeT=>ah λcs iC=>aL ?_
    simp only[Ϝ,not_or,aff,ϑ,Bool.not_eq_false]at eT
    show li (xp G (hQ k (by simpa using eT.2)) hs da hg hk eT.1 iC) rfl
   |none=>show c9 λhi c h=>?_;obtain rfl:=beq_iff_eq.mp hi;show li (xq G hs da hg h) rfl
  |_=>show ed
end
def yv(fr:List Env)(J:List È)(Z:Env)(O:List (Str×Nat))(s:Å):cw->aJ->ag->PySem.Flow->Å->Prop
 |.next,aU,ae,f,s'=>f=.next/\Jb fr J Z O s aU ae s'
 |.ret v,_,ae,f,s'=>∃a aS,f=.ret a/\cX (FM J Z) J s.heap aS s'.heap/\ar gg aS ae s'.heap/\VR gg aS s'.heap v a/\bK s s'
 |.exc _ _,_,_,_,_=>False
def AH(Ď:Prop)(fr:List Env)(J:List È)(Z:Env)(s:Å):cw->ag->Ä->Å->Prop
 |.exc c w,ae,e,s'=>∃aS ea L,e=.ref ea/\Z.frame=À L/\(c=1\/c=2)/\cX (FM J Z) J s.heap aS s'.heap/\bK s s'/\md fr aS ae s.heap s'.heap Ď (PL L) ea c w
 |_,_,_,_=>False
abbrev Th(fr:List Env)(J:List È)(Z:Env)(s:Å)(fl:cw)(ae:ag)(e:Ä)(s':Å):Prop:=AH True fr J Z s fl ae e s'
structure FX(A:Ñ)(Z:Env):Prop where
 top:∃bR,A.frames=À (Z::bR)
 own:∃L,Z.frame=À L
def lg(A:Ñ)(Z:Env)(O:List (Str×Nat))(st:ď)(m:aJ->ag->Option (cw×aJ×ag)):Prop:=
 ∀U H fl aU ae,m U H=À (fl,aU,ae)->∀J s,ar gg J H s.heap->eQ (bw A) J Z O U s.heap->∀E,(∀e s',Th (bw A) J Z s fl ae e s'->E e s')->É mo A (exec st Z) (yv (bw A) J Z O s fl aU ae) E s
def ls(A:Ñ)(Z:Env)(O:List (Str×Nat))(st:List ď)(m:aJ->ag->Option (cw×aJ×ag)):Prop:=
 ∀U H fl aU ae,m U H=À (fl,aU,ae)->∀J s,ar gg J H s.heap->eQ (bw A) J Z O U s.heap->∀E,(∀e s',Th (bw A) J Z s fl ae e s'->E e s')->É mo A (execs st Z) (yv (bw A) J Z O s fl aU ae) E s
section
variable{A:Ñ}{E:Ä->Å->Prop}{J aj:List È}{H Î ae:ag}{s Ì:Å}{Z:Env}{O:List (Str×Nat)}{U aU:aJ}{Á:ax}{d:Nat}
theorem yv.after(S:cX (FM J Z) J s.heap aj Ì.heap)(T:bK s Ì)(h:yv (bw A) aj Z O Ì fl aU ae f cZ):yv (bw A) J Z O s fl aU ae f cZ:=by
 cases fl with
 |next=>obtain ⟨e,aS,S',R',F',T'⟩:=h;show⟨e,aS,FM.trans S S',R',F',T.trans T'⟩
 |ret v=>show MA h λa aS e S' R' V' T'=>⟨a,aS,e,FM.trans S S',R',V',T.trans T'⟩
 |exc c w=>show h.elim
theorem AH.after(S:cX (FM J Z) J s.heap aj Ì.heap)(T:bK s Ì)(R:ar gg J H s.heap)(F:sh (bw A) J s.heap)(h:AH Ď (bw A) aj Z Ì fl ae e cZ):AH Ď (bw A) J Z s fl ae e cZ:=by
 cases fl with
 |next=>show h
 |ret v=>show h
 |exc c w=>show To h λaS ea L h1 h2 h3 S' T' X=>⟨aS,ea,L,h1,h2,h3,FM.trans S S',T.trans T',X.before S R F⟩
theorem Jk.stm(K:FX A Z)(x:Jk (bw A) J s c w ae ea aS s'):Th (bw A) J Z s (.exc c w) ae (.ref ea) s':=by show ä K.own λL hL=>⟨aS,ea,L,N,hL,x.hc,cX.ofSE x.S Z,x.T,x.X.mono (λq=>q) λf q=>.inl q⟩
theorem cX.xkp(S:cX ms J aZ aS h)(K:yq aZ h h' e):cX ms J aZ aS h':=
 ⟨λb o e hb=>(S.pres b o e hb).then λo' e'=>K.old b o' e' (by rw[e];show λq=>nomatch q),λb o e=>by show ä (S.dom b o e) λo' e'=>?_;show K.dom b o' e',S.ext⟩
theorem AH.note(K:FX A Z)(x:AH Ď (bw A) J Z s fl ae e s')(hQ:∀o8,AH False (bw A) J Z s fl ae e o8->Q () o8):É mo A (noteFrame e Z) Q E s':=by
 cases fl with
 |next=>show x.elim
 |ret v=>show x.elim
 |exc c w=>show To x λaS ea L q4 h2 h3 S' T' X=>(ä K.top λbR ho=>?_);subst q4;show Ad ho h2 X λh' X' K'=>hQ _ ⟨aS,ea,L,N,h2,h3,S'.xkp K',T'.trans ⟨N,N,N⟩,X'⟩
theorem AH.back(x:AH False (bw A) J Z s fl ae e s')(hE:∀o8,Th (bw A) J Z s fl ae e o8->E' e o8):Ĩ mo A Z E' e s':=by
 cases fl with
 |next=>show x.elim
 |ret v=>show x.elim
 |exc c w=>show To x λaS ea L q4 h2 h3 S' T' X=>?_;subst q4;show Oq h2 X λh' X' K'=>hE _ ⟨aS,ea,L,N,h2,h3,S'.xkp K',T'.trans ⟨N,N,N⟩,X'.mono (λq=>q.elim) λz q=>q⟩
theorem Aq(hv:∀a b c d,v≠.ListComp a b c d)(hc:cq cx n sc O nx v=À c):Ĺ v (À t) ln Z=pure Ê:=by
 cases v with
 |ListComp a b c d=>show absurd N (hv a b c d)
 |SetComp a b c d=>cases n<;>show no hc
 |DictComp a b c d e=>cases n<;>show no hc
 |_=>rfl
theorem rz(hA:i5 A d)(ht:fW Z.scope O (.Name x p)=À t)(hs:Ĺ v (À (.Name x p)) pos.line Z=pure Ê)(K:FX A Z)(Wo:jo A Z O v (dZ Á a))(hv:aR A Z O v (ab Á a)):
  lg A Z O (.Assign [.Name x p] v pos) (bG Á (.assign t a)):=by
 intro U H fl aU ae he J s R F E hE;rw[gS]at he;rcases fV he with he|⟨c,w,rfl,rfl,hx⟩
 rotate_left
 ·show wpAny_Assign_Name (Wo _ H c w ae hx J s R F _ E λea aS s' X=>hE _ _ (X.stm K)) hs
 show dK he λx' Î h1 he=>bT he λcJ hp he=>?_;apply jh he;show wpAny_Assign_Name (hv.bind h1 R F λav Ì aj S T aA ba bo=>?_) hs;show eJ (sD ht) λi q2 hx hk=>?_;subst q2;apply dJ hp;show fL ba aA hx hk bo λh' tk S' R' F' z=>⟨N,aj,FM.trans (cX.ofSE S Z) (S'.mono λb hb=>â hb (λhb=>?_) (λhb=>?_)),R',F',T.trans ⟨N,N,N⟩⟩
 ·show .inr (.inl hb)
 ·show .inr (.inr ⟨x,hb⟩)
theorem xo(hA:i5 A d)(ht:fW Z.scope O (.Tuple ts k p)=À t)(hs:swapsWithSole [.Tuple ts k p] v pos.line Z=pure Ê)(hw:swappedStores [.Tuple ts k p] v Z=pure Ã)(K:FX A Z)(Wo:jo A Z O v (dZ Á a))(hv:aR A Z O v (ab Á a)):
  lg A Z O (.Assign [.Tuple ts k p] v pos) (bG Á (.assign t a)):=by
 intro U H fl aU ae he J s R F E hE;rw[gS]at he;rcases fV he with he|⟨c,w,rfl,rfl,hx⟩
 rotate_left
 ·show Assign_Tuple (Wo _ H c w ae hx J s R F _ E λea aS s' X=>hE _ _ (X.stm K)) hs hw
 show dK he λx' Î h1 he=>bT he λcJ hp he=>?_;apply jh he;show Assign_Tuple (hv.bind h1 R F λav Ì aj S T aA ba bo=>?_) hs hw;show vh hA.handled ht hp aA ba bo λh' tk S' R' F' z=>⟨N,aj,FM.trans (cX.ofSE S Z) (S'.mono λb hb=>hb.fm),R',F',T.trans ⟨N,N,N⟩⟩
theorem xm{x:Str}{p pos:Pos}{elt aH cN:Ô}{ifs:List Ô}{scope:à}{pt:Pos}{nx:Nat}{t t':jQ}{it:jm}{c:CE}{cs:gG}{F':Ô->Option CE}{two:Bool}
  (hA:i5 A d) (ht:fW Z.scope O (.Name x p)=À t') (Qk:Ĺ (.ListComp elt [⟨aH,cN,ifs,0⟩] scope pt) (À (.Name x p)) pos.line Z=pure Æ)
  (K:lJ scope Z.scope O nx (bi aH)) (hs:∀x,ę cN Z x=pure x) (EL:vf two aH)
  (hi:mw A Z O cN two (cD Á it)) (C4:fW (je scope Z.scope) (cp scope O nx (bi aH)) aH=À t)
  (hE:∀e',e'.scope=je scope Z.scope->aR A e' (cp scope O nx (bi aH)) elt (ab Á c)) (iC:cg F' ifs=À cs) (hT:∀e',e'.scope=je scope Z.scope->∀e c,F' e=À c->fA A e' (cp scope O nx (bi aH)) e (bV Á c)) :
  lg A Z O (.Assign [.Name x p] (.ListComp elt [⟨aH,cN,ifs,0⟩] scope pt) pos) (bG Á (.assign t' (.comp c t it cs))):=by
 intro U H fl aU ae he J s R F E hE0;rw[gS]at he;rcases fV he with he|⟨c,w,rfl,rfl,hx⟩
 rotate_left
 ·show no hx
 show dK he λx' bI IW he=>oK IW λxs w Î h1 IW=>dK IW λl Û h2 IW=>bT he λcJ hp he=>?_;apply jh he;show im (gb IW) λhz q2 q3=>?_;subst q2 q3
 ····show eJ (sD ht) λi q2 hx hk=>?_;subst q2
     apply dJ hp;rw[exec_Assign_Name_used _ _ _ _ Qk];show Â (ē (Â ?_));show É _ A (do let _ <-comprehension (.ListComp elt [⟨aH,cN,ifs,0⟩] scope pt) scope Z _ (newList []) Ê (eval cN Z) (À (assign (.Name x p) Z))) _ _ s;show Â (Ï (sJ (use:=À (assign (.Name x p) Z)) (Q:=λz s'=>yv (bw A) J Z O s .next (cS U i (.ref Û.length)) (Û++[.lst l]) .next s') hA K hs EL hi C4 hE iC hT h1 h2 hz R F λD C s' EH hC=>?_) (λz s' hq=>Ç (Ç hq)) λz z e=>e);obtain ⟨aS,S,R',V',T,Gi,m,hn⟩:=id EH;have ba:=F.step R S
     have Xp:C≠Z.locals:=by rintro rfl;show aE F.ns λm' k5 z=>?_;show oN k5 λo z z ho z=>?_;rw[hC]at ho;show no ho
     have Xq:∀y,Z.cells.lookup y≠À C:=λy e=>by show aQ (F.cellF y C e) λk6 z=>?_;show gm k6 λu o ho z=>?_;rw[hC]at ho;show no ho
     show É _ A (assign (.Name x p) Z (.ref D)) _ _ _;show İ (fL ba R' hx hk V' λjw tk dw bx fc up=>?_);have Bb:jw.Ns C m:=gK.ns hn λo ho=>dw.pres _ _ ho (λq=>by rcases q with q|q;show Xp q;show Xq x q);show⟨m,Bb,λeG ic=>⟨rfl,aS,?_,?_,?_,T.trans ⟨rfl,rfl,rfl⟩⟩⟩
     ·have Je:cX (FM J Z) J s.heap aS jw:=FM.trans (cX.ofSE S Z) (dw.mono λb hb=>by rcases hb with hb|hb;show .inr (.inl hb);show .inr (.inr ⟨x,hb⟩))
      have jn:ar gg aS (Û++[.lst l]) eG:=bx.other Gi (aW R hC) (λb o hb e=>ic.extBut b o hb e) (Ns.noSeq Bb);show cX.mv (wr:=[C]) Je jn (λb o hb z e=>ic.extBut b o (λq=>hb (W'.mpr q)) e) (λz q=>.inl q) (by simpa using hC)
     ·show bx.other Gi (aW R hC) (λb o hb e=>ic.extBut b o hb e) (Ns.noSeq Bb)
     ·show fc.mv (wr:=[C]) (λb o hb z e=>ic.extBut b o (λq=>hb (W'.mpr q)) e) (λb hb o e=>?_) (by simpa using λq=>Xp q.symm) (λy c e=>by simp;rintro rfl;show Xq y e) λe he L hf=>?_
      ·simp at hb;subst hb
       show Ns.noSeq Bb o e
      ·obtain ⟨_,L',o,es,ep,k2,k3,_⟩:=F.stk e he
       apply aY (sm ((hf).symm.trans k2))
       simp only[W'];rintro rfl
       rw[hC]at k3;show no k3
theorem xw(hs:Ĺ v (À (.Subscript o i p)) pos.line Z=pure Ê)(ho:aR A Z O o (ab Á a))(hi:aR A Z O i (ab Á b))(hv:aR A Z O v (ab Á c)):
  lg A Z O (.Assign [.Subscript o i p] v pos) (bG Á (.setItem a b c)):=by
 intro U H fl aU ae he J s R F E hE;rw[qr]at he;show rY he λx Î y Û h1 h2 he=>?_;show dK he λz bI h3 he=>bT he λlH h4 he=>?_;apply jh he;show wpAny_Assign_Subscript (hv.bind h1 R F λa Ì aj S T aA ba bo=>ho.bind h2 aA ba λb cZ cR dw gW bx fc dX=>hi.bind h3 bx fc λc i4 yn jp yC jn rS Og=>?_) hs;show Lm h4 jn (dX.step bx jp) Og ((bo.step aA dw).step bx jp) λh' tk S' R'=>⟨N,yn,cX.ofSE (S.trans (dw.trans (jp.trans S'))) Z,R',rS.step jn S',T.trans (gW.trans (yC.trans ⟨N,N,N⟩))⟩
theorem HZ(hm:m.isStep=Æ)(hk:Z.scope.kind=.function)(hs:Ĺ e Ã pos.line Z=pure Ê)(K:FX A Z)(hX:jo A Z O e (dZ Á (.meth m o as)))(he:aR A Z O e (ab Á (.meth m o as))):
  lg A Z O (.Expr e pos) (bG Á (.expr (.meth m o as))):=by
 intro U H fl aU ae h J s R F E hE;rw[A2]at h;rcases fV h with h|⟨c,w,rfl,rfl,hx⟩
 rotate_left
 ·show wpAny_Expr (hX _ H c w ae hx J s R F _ E λea aS s' X=>hE _ _ (X.stm K)) (by unfold interactive;rw[hk];rfl) hs
 show gm (i7 h) λv Î q h=>im (NI h) λKy Kz KA=>?_;apply fR Ky;apply fR Kz;apply fR KA
 have hv:v=.none:=by show gm (i7 q) λx Û z q=>aQ (cT q) λz q=>gm (i7 q) λvs bI z q=>D3 hm q
 subst hv;show wpAny_Expr (he.bind q R F λa Ì aj S T aA ba bo=>?_) (by unfold interactive;rw[hk];rfl) hs;cases bo;show⟨N,aj,cX.ofSE S Z,aA,ba,T⟩
theorem PQ(ht:fA A Z O t (bV Á c))(ha:ls A Z O a (aM Á x))(hb:ls A Z O b (aM Á y)):lg A Z O (.If t a b pos) (bG Á (.ite c x y)):=by
 intro U H fl aU ae h J s R F E hE;show j4 h λp Î h1 h=>wpAny_If (ht.bind (a0 h1) R F λÌ aj S T aA ba=>?_);cases p with
 |true=>show Ï (ha U Î fl aU ae h aj Ì aA ba E λe s' X=>hE e s' (X.after (cX.ofSE S Z) T R F.stk)) (λz z x=>yv.after (cX.ofSE S Z) T x) λz z x=>x
 |false=>show Ï (hb U Î fl aU ae h aj Ì aA ba E λe s' X=>hE e s' (X.after (cX.ofSE S Z) T R F.stk)) (λz z x=>yv.after (cX.ofSE S Z) T x) λz z x=>x
theorem Lx(K:FX A Z)(hX:jo A Z O e (dZ Á c))(he:aR A Z O e (ab Á c)):lg A Z O (.Return (À e) pos) (bG Á (.ret c)):=by
 intro U H fl aU ae h J s R F E hE;rw[lT]at h;rcases fV h with h|⟨c',w,rfl,rfl,hx⟩
 rotate_left
 ·show Ę (hX _ H c' w ae hx J s R F _ E λea aS s' X=>hE _ _ (X.stm K))
 show dK h λv Î q h=>?_;apply jh h;show Ę (he.bind q R F λa Ì aj S T aA ba bo=>⟨a,aj,N,cX.ofSE S Z,aA,bo,T⟩)
theorem DW(hA:i5 A d)(G:fU gg cx fs mg mb)(K:FX A Z)(hg:bp Z.scope x=Æ)(C3:g8.lookup x=À c)(hc:c=1\/c=2)(io:∀y q,e≠.Starred y q)(hx:aR A Z O e (ab Á a)):
  lg A Z O (.Raise (À (.Call (.Name x np) [e] [] pt)) Ã pos) (bG Á (.raise_ c a)):=by
 intro U H fl aU ae h J s R F E hE;rw[wg]at h;show dK h λv Î h1 h=>bT h λw h2 h=>im (NI h) λq1 q2 q3=>?_;subst q1 q2 q3
 have hv:v=.str w:=by
  cases v<;>first|exact no h2|skip
  show congrArg _ (sm h2)
 subst hv;show Lg hA G hg C3 hc io hx h1 R F λea aj s' S T X=>hE _ _ (Jk.stm K ⟨hc,S,T,X⟩)
theorem Lv:ls A Z O [] (aM Á .nil):=by intro U H fl aU ae h J s R F E hE;apply jh h;show ġ ⟨rfl,J,cX.refl _ _ _,R,F,bK.refl _⟩
theorem HX{st:ď}{aD:List ď}{c:CS}{cs:fv}(h1:lg A Z O st (bG Á c))(h2:ls A Z O aD (aM Á cs)):ls A Z O (st::aD) (aM Á (.cons c cs)):=by
 intro U H fl aU ae h J s R F E hE;show â (jg h) (λq=>gm q λcJ Î hx h=>?_) (λq=>aQ q λhx eT=>?_)
 ·show ý (Ï (h1 U H .next cJ Î hx J s R F E λe s' X=>X.elim) (λf Ì hf=>?_) λz z x=>x)
  obtain ⟨rfl,aj,S,aA,ba,T⟩:=hf;show Ï (h2 cJ Î fl aU ae h aj Ì aA ba E λe s' X=>hE e s' (X.after S T R F.stk)) (λz z x=>yv.after S T x) λz z x=>x
 ·show ý (Ï (h1 U H fl aU ae hx J s R F E hE) (λf Ì hf=>?_) λz z x=>x)
  cases fl with
  |next=>show absurd N eT
  |ret v=>show gm hf λa aS q3 r=>?_;apply aY q3;show⟨a,aS,N,r⟩
  |exc c w=>show hf.elim
end
section
variable{A:Ñ}{E:Ä->Å->Prop}{s:Å}{Z:Env}
theorem wX{h:Ó}{g:Array ø}{d:Drawn}{t:Nat}{os:ô}{C C0 e:È}{mN mN0:Str->Option Ä}{oe:Obj}{Q:Bool->Å->Prop}(S:fh h C C0 mN mN0)(he:h.get? e=À oe)(Gs:oe.cls=.ref C)
  (hq:Q Æ ⟨h,g,d,t,os⟩):É mo A (excMatches (.ref e) (.ref C0)) Q E ⟨h,g,d,t,os⟩:=by
 show S.c.el λD hC hn=>S.c0.el λD0 Kd MQ=>?_;have zw:(Value.ref C0::jW).contains (.type "BaseException")=Æ:=by rw[ϗ,show jW.contains (.type "BaseException")=Æ from PySem.F.excBase_ValueError.hasBase,afH]
 have Vx:(Value.ref C::.ref C0::jW).contains (.ref C0)=Æ:=by rw[ϗ,ϗ,beq_self_eq_true];simp
 have f:=tc_notTuple;unfold excMatches
 repeat (first|(with_reducible refine Õ he ?_;rw[Gs])|with_reducible refine Õ Kd ?_|(with_reducible refine á Kd ?_;rw[zw])|(with_reducible refine á hC ?_;rw[Vx])|wp_step)
 show hq
end
def fS(A:Ñ)(E:Ä->Å->Prop)(s:Å)(Z:Env)(e:È)(t:Ô)(n:Str)(b₀:ď)(gj:List ď)(pos:Pos)(aD:List ś)(Q:PySem.Flow->Å->Prop):Prop:=∀(h:É mo (A.mark (À (.ref e))) (eval t Z) (λc Ì=>∃C C0 mN mN0,c=.ref C0/\fh Ì.heap C C0 mN mN0/\(∃oe,Ì.heap.get? e=À oe/\oe.cls=.ref C) /\
   É mo (A.mark (À (.ref e))) (setFlight (.ref e) Ã) (λz cZ=>
     É mo (A.mark (À (.ref e))) (storeName Z n (.ref e)) (λz i4=>
      É mo (A.mark (À (.ref e))) (execs (b₀::gj) Z)
       (λf Ar=>É mo A (do bindName Z n .none;unbindBehindTheSuite Z n pos) (λz Ij=>Q f Ij) E Ar)
       (AsSuiteRaised mo (A.mark (À (.ref e))) Z n pos (notedBy mo (A.mark (À (.ref e))) Z (Ĩ mo A Z E))) i4) (notedBy mo (A.mark (À (.ref e))) Z (Ĩ mo A Z E)) cZ) (notedBy mo (A.mark (À (.ref e))) Z (Ĩ mo A Z E)) Ì) (notedBy mo (A.mark (À (.ref e))) Z (Ĩ mo A Z E)) s),É mo A (handleBy (.ref e) Z (.ExceptHandler (À t) (À n) (b₀::gj) pos::aD)) Q E s
namespace handleBy_subH
def kc:=hc (Of fS) ({},λz z=>True,dS,default,0,default,default,default,[],default,[],λz z=>True)
def A:=kc.1
def E:=kc.2.1
def s:=kc.2.2.1
def Z:=kc.2.2.2.1
def e:=kc.2.2.2.2.1
def t:=kc.2.2.2.2.2.1
def n:=kc.2.2.2.2.2.2.1
def b₀:=kc.2.2.2.2.2.2.2.1
def gj:=kc.2.2.2.2.2.2.2.2.1
def pos:=kc.2.2.2.2.2.2.2.2.2.1
def aD:=kc.2.2.2.2.2.2.2.2.2.2.1
def Q:=kc.2.2.2.2.2.2.2.2.2.2.2
theorem kt:fS A E s Z e t n b₀ gj pos aD Q:=by intro h;show wpAny_handleBy_cons (codeAny_handlers_test (Ï h (λc Ì bH=>?_) λz z y=>y)) (by intro q;cases q);show Vc bH λC C0 mN mN0 k25 S k26 hk=>?_;show aE k26 λoe he Gs=>?_;apply aY k25;obtain ⟨hh,g,d,tk,os⟩:=Ì;show wX S he Gs (codeAny_handlers_suite_as hk)
end handleBy_subH
theorem ui:fS A E s Z e t n b₀ gj pos aD Q:=hk (P:=Of fS) handleBy_subH.kt (A,E,s,Z,e,t,n,b₀,gj,pos,aD,Q)
def Yi:cw->Prop
 |.exc _ _=>False
 |_=>True
def L8(J:List È)(s:Å)(U:aJ):cw->aJ->ag->PySem.Flow->Å->Prop
 |.next,aU,ae,f,s'=>f=.next/\aU=U/\∃aS,SE J s.heap aS s'.heap/\ar gg aS ae s'.heap/\bK s s'
 |.ret v,_,ae,f,s'=>∃a aS,f=.ret a/\SE J s.heap aS s'.heap/\ar gg aS ae s'.heap/\VR gg aS s'.heap v a/\bK s s'
 |.exc _ _,_,_,_,_=>False
def EW(A:Ñ)(Z:Env)(O:List (Str×Nat))(st:ď)(m:aJ->ag->Option (cw×aJ×ag)):Prop:=
 ∀U H fl aU ae,m U H=À (fl,aU,ae)->Yi fl->∀J s,ar gg J H s.heap->eQ (bw A) J Z O U s.heap->∀E,É mo A (exec st Z) (L8 J s U fl aU ae) E s
def sj(A:Ñ)(Z:Env)(O:List (Str×Nat))(st:List ď)(m:aJ->ag->Option (cw×aJ×ag)):Prop:=
 ∀U H fl aU ae,m U H=À (fl,aU,ae)->Yi fl->∀J s,ar gg J H s.heap->eQ (bw A) J Z O U s.heap->∀E,É mo A (execs st Z) (L8 J s U fl aU ae) E s
section
variable{A:Ñ}{E:Ä->Å->Prop}{J aj:List È}{H Î ae:ag}{s Ì:Å}{Z:Env}{O:List (Str×Nat)}{U aU:aJ}{Á:ax}{d:Nat}
theorem L8.after(S:SE J s.heap aj Ì.heap)(T:bK s Ì)(h:L8 aj Ì U fl aU ae f cZ):L8 J s U fl aU ae f cZ:=by
 cases fl with
 |next=>obtain ⟨e,e',aS,S',R',T'⟩:=h;show⟨e,e',aS,S.trans S',R',T.trans T'⟩
 |ret v=>show MA h λa aS e S' R' V' T'=>⟨a,aS,e,S.trans S',R',V',T.trans T'⟩
 |exc c w=>show h.elim
theorem Lw(ht:fA A Z O t (bV Á c))(ha:sj A Z O a (aM Á x))(hb:sj A Z O b (aM Á y)):EW A Z O (.If t a b pos) (bG Á (.ite c x y)):=by
 intro U H fl aU ae h pL J s R F E;show j4 h λp Î h1 h=>wpAny_If (ht.bind (a0 h1) R F λÌ aj S T aA ba=>?_);cases p with
 |true=>show Ï (ha U Î fl aU ae h pL aj Ì aA ba E) (λz z x=>L8.after S T x) λz z x=>x
 |false=>show Ï (hb U Î fl aU ae h pL aj Ì aA ba E) (λz z x=>L8.after S T x) λz z x=>x
theorem H4(he:aR A Z O e (ab Á c)):EW A Z O (.Return (À e) pos) (bG Á (.ret c)):=by
 intro U H fl aU ae h pL J s R F E;rw[lT]at h;rcases fV h with h|⟨c',w,rfl,rfl,hx⟩
 ·show dK h λv Î q h=>?_
  apply jh h;show Ę (he.bind q R F λa Ì aj S T aA ba bo=>⟨a,aj,N,S,aA,bo,T⟩)
 ·show pL.elim
theorem DV{st:ď}{aD:List ď}{c:CS}{cs:fv}(h1:EW A Z O st (bG Á c))(h2:sj A Z O aD (aM Á cs)):sj A Z O (st::aD) (aM Á (.cons c cs)):=by
 intro U H fl aU ae h pL J s R F E;show â (jg h) (λq=>gm q λcJ Î hx h'=>?_) (λq=>aQ q λhx eT=>?_)
 ·show ý (Ï (h1 U H .next cJ Î hx trivial J s R F E) (λf Ì hf=>?_) λz z x=>x)
  obtain ⟨rfl,rfl,aj,S,aA,T⟩:=hf;show Ï (h2 _ Î fl aU ae h' pL aj Ì aA (F.step R S) E) (λz z x=>L8.after S T x) λz z x=>x
 ·show ý (Ï (h1 U H fl aU ae hx pL J s R F E) (λf Ì hf=>?_) λz z x=>x)
  cases fl with
  |next=>show absurd N eT
  |ret v=>show gm hf λa aS q3 r=>?_;apply aY q3;show⟨a,aS,N,r⟩
  |exc c w=>show hf.elim
theorem ij(ih:∀st c,S st=À c->EW A Z O st (bG Á c)):∀{ss:List ď} {c:fv},eD S ss=À c->sj A Z O ss (aM Á c)
 |[],c,h=>by apply dJ h;intro U H fl aU ae h pL J s R F E;apply jh h;show ġ ⟨N,N,J,SE.refl _ _,R,bK.refl _⟩
 |st::r,c,h=>by show ie h λa b ha hb h=>?_;apply dJ h;show DV (ih _ _ ha) (ij ih hb)
theorem rC(G:fU gg cx fs mg mb)(hQ:∀k∈cx.calm,si A Á k)(Z:Env)(O:List (Str×Nat)):∀n st c,JB cx Z.scope O n st=À c->EW A Z O st (bG Á c):=by
 intro n
 induction n with
 |zero=>show λst c h=>no h
 |succ n ih=>
  have Qo:=HU G hQ Z O n;intro st c h;replace h:Q5 (cQ cx Z.scope O n) (eD (JB cx Z.scope O n)) st=À c:=h;cases st with
  |If t a b pos=>show ie h λx y hx hy h=>?_;show bT h λz hz h=>?_;apply dJ h;show Lw (Qo _ _ hx).2 (ij ih hy) (ij ih hz)
  |Return v pos=>show ie h λe c' he ff h=>?_;apply dJ h;apply aY he;show H4 (Qo _ _ ff).1
  |_=>show no h
theorem md.rep{aZ h:Ó}{Ď:Prop}{P:Ä->Prop}{ea:È}{c:Nat}{w:Str}(X:md (bw A) J H aZ h Ď P ea c w):∃D,ar gg (J++[D,ea]) (H++[.wd w,.exn c H.length]) h/\aZ.get? D=Ã/\∃o,h.get? ea=À o/\o.cls=.ref (gg.cls c):=by
 show ä X.X.ex λx y=>?_;have len:=X.R.len;have R1:ar gg (J++[x.D]) (H++[.wd w]) h:=X.R.more y.b.Dφ (kn λo q=>no (y.b.D0.symm.trans (X.B0 _ _ q))) (.wd y.b.hD y.b.hm) (Ns.noSeq y.b.hD)
 have R2:=R1.more (m:=.exn c H.length) (a:=ea) (λq=>â (Ģ.mp q) X.X.eφ λq=>y.b.De (W'.mp q).symm) X.X.eB (.exn y.b.he N N N (by rw[<-len];show List.getElem?_concat_length)) λo e hh=>by rw[<-sm (y.b.he.symm.trans e)]at hh;show hh.elim (λk=>nomatch k.1) λk=>nomatch k.1
 rw[ü,ü]at R2;show⟨x.D,R2,y.b.D0,_,y.b.he,N⟩
theorem CN(h:aM Á (.cons (.ret a) .nil) U H=À (f,cJ,Î)):(∃v,f=.ret v/\cJ=U/\ab Á a U H=À (v,Î))\/∃c w,f=.exc c w/\cJ=U/\dZ Á a U H=À (c,w,Î):=by
 have gp:∀{f cJ Î},bG Á (.ret a) U H=À (f,cJ,Î)->(∃v,f=.ret v/\cJ=U/\ab Á a U H=À (v,Î))\/∃c w,f=.exc c w/\cJ=U/\dZ Á a U H=À (c,w,Î):=λ{f cJ Î} h=>by
  rw[lT]at h;rcases fV h with h|⟨c,w,rfl,rfl,hx⟩
  ·show dK h λv Û q h=>?_
   apply jh h;show .inl ⟨v,N,N,q⟩
  ·show .inr ⟨c,w,N,N,hx⟩
 show â (jg h) (λq=>gm q λIM Û hx h=>?_) (λq=>aQ q λhx eT=>?_)
 ·rcases gp hx with ⟨v,e,_⟩|⟨c,w,e,_⟩<;>cases e
 ·show gp hx
end
def ni(A:Ñ)(Z:Env)(O:List (Str×Nat))(Á:ax)(n:Str)(i:Nat)(e:Ô)(a:CE)(b₀:ď)(gj:List ď)(y:fv)(rp:Pos)(tp:Pos)(wM:Pos)(pos:Pos):Prop:=∀(G:fU gg cx fs mg mb) (K:FX A Z) (hg:bp Z.scope ("LarderError":Str)=Æ) (hl:Z.kindOf n=À .local) (hi:O.lookup n=À i) (hX:jo A Z O e (dZ Á a)) (he:aR A Z O e (ab Á a)) (hH:∀ea,sj (A.mark (À (.ref ea))) Z O (b₀::gj) (aM Á y)),lg A Z O (.Try [.Return (À e) rp] [.ExceptHandler (À (.Name ("LarderError":Str) tp)) (À n) (b₀::gj) wM] [] [] pos) (bG Á (.try_ (.cons (.ret a) .nil) i y))
namespace snd_tryH
def kc:=hc (yp ni) ({},default,[],λz z z=>Ã,default,0,default,.dict0,default,[],.nil,default,default,default,default)
def A:=kc.1
def Z:=kc.2.1
def O:=kc.2.2.1
def Á:=kc.2.2.2.1
def n:=kc.2.2.2.2.1
def i:=kc.2.2.2.2.2.1
def e:=kc.2.2.2.2.2.2.1
def a:=kc.2.2.2.2.2.2.2.1
def b₀:=kc.2.2.2.2.2.2.2.2.1
def gj:=kc.2.2.2.2.2.2.2.2.2.1
def y:=kc.2.2.2.2.2.2.2.2.2.2.1
def rp:=kc.2.2.2.2.2.2.2.2.2.2.2.1
def tp:=kc.2.2.2.2.2.2.2.2.2.2.2.2.1
def wM:=kc.2.2.2.2.2.2.2.2.2.2.2.2.2.1
def pos:=kc.2.2.2.2.2.2.2.2.2.2.2.2.2.2
theorem kt:ni A Z O Á n i e a b₀ gj y rp tp wM pos:=by
 intro G K hg hl hi hX he hH;intro U H fl aU ae h0 J s R F E hE;rw[y9]at h0;show oK h0 λf cJ Î h1 h=>?_;clear h0;rcases CN h1 with ⟨v,rfl,rfl,q⟩|⟨c,w,rfl,rfl,hx⟩
 ·apply jh h
  show wpAny_Try_except (ý (Ę (he.bind q R F λa Ì aj S T aA ba bo=>⟨a,aj,N,cX.ofSE S Z,aA,bo,T⟩)))
 ·show oK h λf2 IM Û h2 h=>?_
  cases f2 with
  |next=>show no h
  |exc c' w'=>show no h
  |ret v2=>
  apply jh h;show wpAny_Try_except (ý (Ę (hX _ H c w Î hx J s R F _ _ λea aj Ì X=>ä K.top λbR ho=>ä K.own λL hL=>oN (vc G X.hc) λmN mN0 fI S2 z=>Ad ho hL (X.X.mono (λq=>q) λf q=>.inl q) λjw UA Uj=>iH (s:={Ì with heap:=jw}) (P':=P0) UA N λeG Jl Uk=>?_)));have jp:SE J s.heap aj eG:=cX.xkp (cX.xkp X.S Uj) Uk;show ui (AU (A:=A.mark _) (s:={Ì with heap:=eG}) (c:=0) G (F.step R jp) Jl.R hg N ⟨gg.cls c,gg.cls 0,mN,mN0,N,S2.keeps Jl.R.base,?_,?_⟩)
  ·show Jl.X.ex.elim λx y=>⟨_,y.b.he,N⟩
  show iH (A:=A.mark _) (s:={Ì with heap:=eG}) (P':=P0) Jl rfl λlW QQ Ul=>?_;obtain ⟨D,rW,D0,o,_⟩:=QQ.rep;have EX:SE J s.heap aj lW:=cX.xkp jp Ul
  have lL:SE J s.heap (aj++[D,ea]) lW:=by
   show aE EX.ext λt ht hf=>⟨EX.pres,EX.dom,t++[D,ea],by rw[ht,ü],λb hb=>â (Ģ.mp hb) (λhb=>?_) (λhb=>?_)⟩
   ·show hf b hb
   ·simp only[ą,acO,or_false]at hb
    rcases hb with rfl|rfl
    ·show D0
    ·show X.X.X.e0
  have ER:=F.step R lL
  have zD:(aj++[D,ea])[Î.length+1]?=À ea:=by have len:aj.length=Î.length:=QQ.R.len;rw[<-len,Ϟ (ϐ _),show aj.length.succ-aj.length=1 from (ϲ aj.length 1)];rfl
  show fL (A:=A.mark _) (s:={Ì with heap:=lW}) ER rW hi (.inl hl) (.ref zD) λjU SX Jj Jc N8 up5=>Ï (hH ea _ _ (.ret v2) _ _ h2 trivial _ {Ì with heap:=jU,toks:=SX} Jc N8 _) (λf SU hf=>?_) λz z x=>x;show MA hf λav Ce q3 QK Un Ux Ut=>?_;apply aY q3;have N9:=N8.step Jc QK;show aE N9.ns λm₆ MU z=>?_;have ns:=Ns.noSeq MU;show wpAny_nameGoes hl MU (by rw[F.kind];rfl) λKr m₇ RW Bc=>?_;have kp:∀b o,b≠Z.locals->SU.heap.get? b=À o->Kr.get? b=À o:=λb o hb e=>Bc.extBut b o hb e
  have Up:cX (FM Ce Z) Ce SU.heap Ce Kr:=by
   show⟨λb o e hb=>.inl (kp b o (λq=>hb (.inr (.inl q))) e),λb o e=>?_,[],(Ĭ _).symm,λz hm=>nomatch hm⟩;by_cases hb:b=Z.locals
   ·show oN RW λo' z z sU z=>⟨o',hb▸sU⟩
   ·show⟨o,kp b o hb e⟩
  have Ji:cX (FM J Z) J s.heap (aj++[D,ea]) jU:=FM.trans (cX.ofSE lL Z) (Jj.mono λb hb=>by
   show â hb (λhb=>?_) (λhb=>?_)
   ·show .inr (.inl hb)
   ·show .inr (.inr ⟨n,hb⟩))
  show⟨av,Ce,rfl,FM.trans Ji (FM.trans (cX.ofSE QK Z) Up),Un.other N9.locN N9.locB kp ns,Ux.stepT (λz z e=>e) λb o e wN hn=>⟨kp b o (by rintro rfl;show ns o e wN) e,hn⟩,(X.T.trans ⟨rfl,rfl,rfl⟩).trans (Ut.trans ⟨rfl,rfl,rfl⟩)⟩
end snd_tryH
theorem LA{A:Ñ}{Z:Env}{O:List (Str×Nat)}{Á:ax}{n:Str}{i:Nat}{e:Ô}{a:CE}{b₀:ď}{gj:List ď}{y:fv}{rp:Pos}{tp:Pos}{wM:Pos}{pos:Pos}:ni A Z O Á n i e a b₀ gj y rp tp wM pos:=hk (P:=yp ni) snd_tryH.kt (A,Z,O,Á,n,i,e,a,b₀,gj,y,rp,tp,wM,pos)
section
variable{A:Ñ}{E:Ä->Å->Prop}{J aj ľ:List È}{H Î ae:ag}{s Ì Ý:Å}{Z:Env}{O:List (Str×Nat)}{U aU:aJ}{Á:ax}{d:Nat}
theorem VR.stepF(F:eQ (bw A) J Z O U h)(S:cX (FM J Z) J h aj h')(x:VR gg J h v a):VR gg aj h' v a:=by
 show x.stepT (λn a e=>S.pre e) λb o e hs hn=>⟨(S.pres b o e λq=>?_).hard hs,S.notin e hn⟩;rcases q with q|q|⟨y,q⟩
 ·show hn q
 ·subst q
  show aE F.ns λm io z=>Ns.noSeq io o e hs
 ·show aQ (F.cellF y b q) λk1 z=>?_;show ä k1 λu hu=>?_
  show ES.noSeq hu o e hs
theorem bv.stepF(F:eQ (bw A) J Z O U h)(S:cX (FM J Z) J h aj h')(x:bv gg J h l vs):bv gg aj h' l vs:=by
 induction vs generalizing l with
 |nil=>cases x;show .nil
 |cons v vs ih=>cases x with|cons h1 h2=>show .cons (h1.stepF F S) (ih h2)
structure Tc where
 A:Ñ
 ľ:List È
 Ý:Å
 Z:Env
 O:List (Str×Nat)
 ys:List V
 vs:List Ä
 wr:List È
 kp:List È
structure Td(c:Tc):Prop where
 wL:∀b,b∈c.wr\/b∈c.kp->b≠c.Z.locals
 wC:∀b,b∈c.wr\/b∈c.kp->∀x,c.Z.cells.lookup x≠À b
 w0:∀b∈c.wr,c.Ý.heap.get? b=Ã
structure FI(c:Tc)(U:aJ)(J:List È)(h:Ó):Prop where
 S:cX (FM c.ľ c.Z) c.ľ c.Ý.heap J h
 F:eQ (bw c.A) J c.Z c.O U h
 ys:bv gg J h c.ys c.vs
 hn:∀b,b∈c.wr\/b∈c.kp->b∉J
section
variable{c:Tc}{J aS:List È}{h h':Ó}
theorem FI.mv(X:Td c)(I:FI c U J h)(M:Mv c.wr J h h')(R':ar gg J H h')(w:∀b∈c.wr,eH h b):FI c U J h':=
 ⟨cX.mv I.S R' M (λz q=>.inl q) X.w0,I.F.mvN M w (λq=>X.wL _ (.inl q) N) λx b e q=>X.wC b (.inl q) x e,M.vrsT (λb hb=>(w b hb).nt) I.ys,I.hn⟩
theorem FI.tgt(I:FI c U J h)(S':cX (TM c.Z ns) J h J h')(F':eQ (bw c.A) J c.Z c.O aU h')(up:∀{v:V} {a:Ä},VR gg J h v a->VR gg J h' v a):FI c aU J h':=
 ⟨FM.trans I.S (S'.mono λb hb=>hb.fm),F',I.ys.upG up,I.hn⟩
theorem Td.nFM(X:Td c)(hn:∀b,b∈c.wr\/b∈c.kp->b∉J)(b:È)(hb:b∈c.wr\/b∈c.kp):¬ FM J c.Z b:=λq=>by
 rcases q with q|q|⟨x,q⟩
 ·show hn b hb q
 ·show X.wL b hb q
 ·show X.wC b hb x q
theorem FI.body(I:FI c U J h)(S':cX (FM J c.Z) J h aS h')(F':eQ (bw c.A) aS c.Z c.O aU h')(lv:∀b,b∈c.wr\/b∈c.kp->∃o,h.get? b=À o):FI c aU aS h':=
 ⟨FM.trans I.S S',F',bv.stepF I.F S' I.ys,λb hb=>(lv b hb).elim λo e=>S'.notin e (I.hn b hb)⟩
end
structure FT(c:Tc)(m:aJ->ag->Option (cw×aJ×ag))(t:jQ)(w:List (Nat×bu))(xs:List V)(r:cw×aJ×ag)(St:Nat->Ó->Prop)(n k:Nat)(J:List È)(H:ag)(U:aJ)(s:Å):Prop where
 I:FI c U J s.heap
 T:bK c.Ý s
 R:ar gg J H s.heap
 st:St k s.heap
 hk:k<=xs.length
 n:n=xs.length-k
 hc:lG m t w (xs.drop k) U H=À r
theorem J7{aH:Ô}{body:List ď}{t:jQ}{I:È}{xs ys:List V}{vs:List Ä}{w:List (Nat×bu)}{two:Bool}{wr kp:List È}{St:Nat->Ó->Prop}{rU:Nat->Ä->Ó->Prop}{m:aJ->ag->Option (cw×aJ×ag)}{fl:cw}{p7:aJ}{σe iM:ag}{Q:Result->Å->Prop}
  (hA:i5 A d) (K:FX A Z) (Um:ar gg ľ iM Ý.heap) (Uh:sh (bw A) ľ Ý.heap) (Ti:rT A I xs w two ys vs wr kp St rU) (EL:vf two aH) (C4:fW Z.scope O aH=À t)
  (hb:ls A Z O body m)
  (X7:∀b,b∈wr\/b∈kp->b≠Z.locals) (X6:∀b,b∈wr\/b∈kp->∀x,Z.cells.lookup x≠À b) (qK:∀b∈wr,Ý.heap.get? b=Ã) (hB:∀b∈wr,gg.B.get? b=Ã)
  (hc:lG m t w xs U H=À (fl,p7,σe)) (Ze:∀e s',AH False (bw A) ľ Z Ý fl σe e s'->Q (.error e) s')
  (S:cX (FM ľ Z) ľ Ý.heap J s.heap) (T:bK Ý s) (R:ar gg J H s.heap) (F:eQ (bw A) J Z O U s.heap) (h0:St 0 s.heap) (M3:bv gg J s.heap ys vs) (hn:∀b,b∈wr\/b∈kp->b∉J)
  (hQ:∀f s',yv (bw A) ľ Z O Ý fl p7 σe f s'->Q (.ok f) s') :
  ĝ mo A (.forLoop aH (.ref I) body [] Z) Q s:=by
 have X:Td ⟨A,ľ,Ý,Z,O,ys,vs,wr,kp⟩:=⟨X7,X6,qK⟩;show codeAny_forLoop_any (λn s=>∃k J H U,FT ⟨A,ľ,Ý,Z,O,ys,vs,wr,kp⟩ m t w xs (fl,p7,σe) St n k J H U s) ?_ xs.length ⟨0,J,H,U,⟨S,F,M3,hn⟩,T,R,h0,ĥ _,N,hc⟩;intro n s q;show P7 q λk J H U Ø=>â (aeu k xs.length) (λcG=>?_) (λlA=>?_)
 ·have hc:=Ø.hc
  rw[aby cG]at hc;show qE hc λhw hc=>bT hc λaU GD hc=>Ti.item k J H s _ _ xs[k] Ø.st Ø.R Ø.I.ys hw Ø.I.hn hB (N' cG) λa bH ph yy aA bo qZ=>?_;have tD:=Ø.I.mv X yy aA (Ti.wrN k _ Ø.st);show Ti.go aH EL k J H a _ _ _ qZ aA Ø.I.hn hB λjw EV bx xU=>?_;have IE:=Ti.wrM k a _ qZ;have ET:=tD.mv X EV bx IE;show vh (s:={s with heap:=jw,toks:=ph}) hA.handled C4 GD bx ET.F (EV.vrT (λb hb=>(IE b hb).nt) bo) λeG rJ jp jn rS pj=>?_;have Cg:=ET.tgt jp rS pj;have rH:St (k+1) eG:=Ti.frame _ _ _ xU λb hb o e=>Ti.kp xU hb e (jp.pres b o e λq=>â q (X7 b hb) λq=>aE q λx z q=>X6 b hb x q);have yC:bK Ý {s with heap:=eG,toks:=rJ}:=Ø.T.trans ⟨N,N,N⟩;show â (jg hc) (λq=>gm q λiq ir Gp hc=>?_) (λq=>aQ q λhc eT=>?_)
  ·show Ï (hb aU H .next iq ir Gp J {s with heap:=eG,toks:=rJ} jn rS _ λe s' X=>X.elim) (λf Ar hf=>aQ hf λq hf=>?_) λz z x=>x
   rw[q];show hf.el λIP lL rW ER Oe=>⟨xs.length-(k+1),by rw[Ø.n];show aeK cG (ϊ k),k+1,IP,ir,iq,Cg.body lL ER (Ti.live rH),yC.trans Oe,rW,Ti.frame _ _ _ rH λb hb o e=>Ti.kp rH hb e (lL.pres b o e (X.nFM Ø.I.hn b hb)),cG,N,hc⟩
  ·show Ï (hb aU H fl p7 σe hc J {s with heap:=eG,toks:=rJ} jn rS _ λe s' X=>AH.note K (AH.after Cg.S yC Um Uh X) λo8 X'=>Ze e o8 X') (λf Ar hf=>?_) λz z x=>x
   cases fl with
   |next=>show absurd N eT
   |ret v=>have EJ:=yv.after Cg.S yC hf;show gm hf λa' aS q3 r=>?_;rw[q3]at EJ ⊢;show hQ _ _ EJ
   |exc c w=>show hf.elim
 ·have jY:k=xs.length:=Ů Ø.hk lA
  have hc:=Ø.hc;have st:=Ø.st;rw[jY,adR]at hc;rw[jY]at st;show qE hc λhw hc=>Ti.done J _ s _ _ st Ø.R Ø.I.ys hw Ø.I.hn hB λbH ph yy aA=>?_;have tD:=Ø.I.mv X yy aA (Ti.wrN _ _ st);show ġ (hQ _ _ ?_);apply jh hc;show⟨N,J,tD.S,aA,tD.F,Ø.T.trans ⟨N,N,N⟩⟩
theorem Lq{aH cN:Ô}{body:List ď}{pos:Pos}{t:jQ}{it:jm}{b:fv}{two:Bool}(hA:i5 A d)(K:FX A Z)(hs:∀x,ę cN Z x=pure x)(EL:vf two aH)(C4:fW Z.scope O aH=À t)(ZU:jo A Z O cN (JZ Á it))
  (hi:mw A Z O cN two (cD Á it)) (hb:ls A Z O body (aM Á b)):lg A Z O (.For aH cN body [] pos) (bG Á (.for_ t it b)):=by
 intro U H fl aU ae h J s R F E hE
 have WE:∀xs w Î,cD Á it U H=À (xs,w,Î)->lG (aM Á b) t w xs U Î=À (fl,aU,ae)->É mo A (exec (.For aH cN body [] pos) Z) (yv (bw A) J Z O s fl aU ae) E s:=λxs w Î h1 h2=>by
  show wpAny_For (Ï (hi U H xs w Î h1 J s R F E) (λxv Ì hp=>tW hp λaS iQ aA yB mk=>mk E _ λI ys vs wr kp St rU h' Ti nz hk M3 qK hn hB=>?_) λz z x=>x) hs;have ba:=F.step R iQ;have Md:SE aS Ì.heap aS h':=SE.keeps _ hk;have fc:=ba.step aA Md;show J7 (Ý:=s) (ľ:=J) (s:={Ì with heap:=h'}) hA K R F.stk Ti EL C4 hb ?_ ?_ qK hB h2 (λe s' X=>X.back λo8 X'=>hE e o8 X') (cX.ofSE (iQ.trans Md) Z) (yB.trans ⟨N,N,N⟩) (aA.keeps hk) fc nz M3 hn λf s' hf=>hf
  ·rintro b hb rfl
   show â hb (λhb=>?_) (λhb=>?_)
   ·show aE F.ns λm' k3 z=>?_;show oN k3 λo z z ho z=>?_
    rw[qK _ hb]at ho;show no ho
   ·show oN (Ti.kpN _ _ nz _ hb) λo' cP n' e' jS=>aE fc.ns λm' io z=>tX io λo2 es2 ep2 RY RD z=>?_
    rw[e']at RY;cases RY;show nomatch jS.symm.trans RD
  ·intro b hb x e
   show â hb (λhb=>?_) (λhb=>?_)
   ·show aQ (F.cellF x b e) λk4 z=>?_;show gm k4 λu o ho z=>?_
    rw[qK _ hb]at ho;show no ho
   ·show oN (Ti.kpN _ _ nz _ hb) λo' cP n' e' jS=>aQ (fc.cellF x b e) λk5 z=>?_;show ä k5 λu hu=>?_
    show aE hu λo2 RY RD=>?_;rw[e']at RY;cases RY;show nomatch jS.symm.trans RD
 rw[y0]at h;rcases fV h with h|⟨c,w,rfl,rfl,hx⟩
 rotate_left
 ·show wpAny_For (ZU _ H c w ae hx J s R F _ E λea aS s' X=>hE _ _ (X.stm K)) hs
 show oK h λxs w Î h1 h2=>WE xs w Î h1 h2
theorem Jb.after(S:cX (FM J Z) J s.heap aj Ì.heap)(T:bK s Ì)(h:Jb (bw A) aj Z O Ì aU ae cZ):Jb (bw A) J Z O s aU ae cZ:=h.el λaS S' R' F' T'=>⟨aS,FM.trans S S',R',F',T.trans T'⟩
theorem yv.isRet(h:yv (bw A) J Z O s fl aU ae f cZ)(eT:fl≠.next):∃a,f=.ret a:=by
 cases fl with
 |next=>show absurd N eT
 |ret v=>show gm h λa z q z=>⟨a,q⟩
 |exc c w=>show h.elim
theorem DZ(K:FX A Z)(ht:fA A Z O t (bV Á c))(hb:ls A Z O body (aM Á b)):lg A Z O (.While t body [] pos) (bG Á (.while_ c b)):=by
 intro U H fl aU ae h J s R F E hE;show wpAny_While (codeAny_whileLoop (λn s'=>∃cJ Î,Jb (bw A) J Z O s cJ Î s'/\oH (bV Á c) (aM Á b) n cJ Î=À (fl,aU,ae)) (λn Ì q=>gm q λcJ Î X bH=>X.el λaj iQ aA ba yB=>?_) lc ⟨U,H,⟨J,cX.refl _ _ _,R,F,bK.refl _⟩,h⟩);cases n with
 |zero=>show no bH
 |succ n=>
  show dK bH λp Û GH bH=>ht.bind GH aA ba λcZ cR dw gW bx fc=>?_;have pD:=FM.trans iQ (cX.ofSE dw Z);have pE:=yB.trans gW;cases p with
  |false=>apply jh bH;show ġ ⟨N,cR,pD,bx,fc,pE⟩
  |true=>
   show â (jg bH) (λq=>gm q λN3 bI Gp bH=>?_) (λq=>aQ q λbH eT=>?_)
   ·show Ï (hb cJ Û .next N3 bI Gp cR cZ bx fc _ λe s' X=>X.elim) (λf i4 hf=>?_) λz z x=>x
    apply aY hf.1;show⟨n,ϊ _,N3,bI,hf.2.after pD pE,bH⟩
   ·show Ï (hb cJ Û fl aU ae bH cR cZ bx fc _ λe s' X=>AH.note K (AH.after pD pE R F.stk X) λo8 X'=>X'.back λs3 X2=>hE e s3 X2) (λf i4 hf=>?_) λz z x=>x
    have EJ:=yv.after pD pE hf;show ä (hf.isRet eT) λa q=>?_;rw[q]at EJ ⊢;show EJ
theorem SR(hc:cq cx n sc O nx v=À c):swapsWithSole [.Tuple ts k p] v ln Z=pure Ê:=by
 cases v with
 |SetComp a b c d=>cases n<;>show no hc
 |DictComp a b c d e=>cases n<;>show no hc
 |_=>rfl
theorem SQ:Ĺ v (À (.Subscript o i p)) ln Z=pure Ê:=by cases v<;>rfl
theorem SS(h:¬ zL v=Æ):swappedStores [.Tuple ts k p] v Z=pure Ã:=by
 cases v with
 |Tuple a b c=>show(h N).elim
 |_=>rfl
theorem HT(hA:i5 A d)(G:fU gg cx fs mg mb)(hC:tF A Á)(hX:p9 A Á)(K:FX A Z)(ht:fW Z.scope O (.Name x p)=À t)(ha:cq cx n Z.scope O nx v=À a):
  lg A Z O (.Assign [.Name x p] v pos) (bG Á (.assign t a)):=by
 have ih:=(nh hA G hC n Z O nx v a ha).1;have yu:=ry hA G hC hX n Z O nx v a ha;by_cases hv:∃a b c d,v=.ListComp a b c d
 ·show P7 hv λelt ue scope pt q5=>?_;subst q5
  cases n with
  |zero=>show no ha
  |succ n=>
   have Qk:∃b,Ĺ (.ListComp elt ue scope pt) (À (.Name x p)) pos.line Z=pure b:=⟨_,N⟩;show ä Qk λb Qk=>?_;cases b with
   |false=>show rz hA ht Qk K yu ih
   |true=>
    show IU (vW ha) λaH cN ifs it t' Wy=>?_;show Vb Wy λcs c' k7 pL sT TK iC ff So=>?_;show aQ So λMZ k8=>?_;apply aY k7;apply aY k8;have jE:=nh hA G hC n;show xm hA ht Qk (sI pL) (n9 sT) (vg MZ TK) (xr hA G hC n Z O nx cN it sT) TK (λe' IY=>?_) iC λe' IY e c h=>?_
    ·rw[<-IY]at ff;show(jE _ _ _ _ _ ff).1
    ·rw[<-IY]at h;show(jE _ _ _ _ _ h).2
 ·show rz hA ht (Aq (λa b c d e=>hv ⟨a,b,c,d,e⟩) ha) K yu ih
theorem yL(h:Mr c=À r):∃m o as,c=.meth m o as/\m.isStep=Æ/\r=.expr (.meth m o as):=by
 cases c with
 |meth m o as=>show⟨m,o,as,N,(cT h).1,(sm (cT h).2).symm⟩
 |_=>show no h
theorem gU(ih:∀st c,S st=À c->lg A Z O st (bG Á c)):∀{ss:List ď} {c:fv},eD S ss=À c->ls A Z O ss (aM Á c)
 |[],c,h=>by apply dJ h;show Lv
 |st::r,c,h=>by show ie h λa b ha hb h=>?_;apply dJ h;show HX (ih _ _ ha) (gU ih hb)
theorem DY(hA:i5 A d)(G:fU gg cx fs mg mb)(hC:tF A Á)(hX:p9 A Á)(hQ:∀ea,∀k∈cx.calm,si (A.mark (À (.ref ea))) Á k)(Z:Env)(K:FX A Z)(O:List (Str×Nat))(nx:Nat)(hk:Z.scope.kind=.function):∀n st c,sC cx Z.scope O nx n st=À c->lg A Z O st (bG Á c):=by
 intro n
 induction n with
 |zero=>show λst c h=>no h
 |succ n ih=>
  have Qo:=nh hA G hC n Z O nx;have da:∀{e c},cq cx n Z.scope O nx e=À c->aR A Z O e (ab Á c):=λh=>(Qo _ _ h).1;have yu:∀{e c},cq cx n Z.scope O nx e=À c->jo A Z O e (dZ Á c):=λh=>ry hA G hC hX n Z O nx _ _ h;intro st;show Gd (λc=>lg A Z O st (bG Á c)) (Ft (cq cx n Z.scope O nx) (vV cx n Z.scope O nx) (eD (sC cx Z.scope O nx n)) (eD (JB cx Z.scope O n)) Z.scope O st);cases st with
  |Assign ts v pos=>
   show ah λt ht=>?_;apply aY (bX ht);cases t with
   |Name x p=>show ah (m:=fW Z.scope O (.Name x p)) (k:=λt=>(cq cx n Z.scope O nx v).bind λa=>À (CS.assign t a)) λt ht=>ah λa ha=>aL (HT hA G hC hX K ht ha)
   |Tuple ts k p=>show qC (b:=zL v=Æ) (x:=(fW Z.scope O (.Tuple ts k p)).bind λt=>(cq cx n Z.scope O nx v).bind λa=>À (CS.assign t a)) λMT=>ah λt ht=>ah λa ha=>aL (xo hA ht (SR ha) (SS MT) K (yu ha) (da ha))
   |Subscript o i p=>show ah (m:=cq cx n Z.scope O nx o) (k:=λa=>(cq cx n Z.scope O nx i).bind λb=>(cq cx n Z.scope O nx v).bind λc=>À (CS.setItem a b c)) λa ha=>ah λb hb=>ah λc' ff=>aL (xw SQ (da ha) (da hb) (da ff))
   |_=>show ed
  |Expr e pos=>
   cases e with
   |Call fn as ks p=>show ah λa ha c h=>tX (yL h) λm o W9 q4 hm q6=>?_;subst q4 q6;show HZ hm hk N K (yu ha) (da ha)
   |_=>show ed
  |If t a b pos=>show ah λx hx=>ah λy hy=>ah λz hz=>aL (PQ (Qo _ _ hx).2 (gU ih hy) (gU ih hz))
  |For t it body kq pos=>show c9 λho=>ah λx hx=>ah λy hy=>ah λz hz=>c9 λMZ=>aL ?_;apply aY (Ŷ.mp ho);show Lq hA K (n9 hy) (vg MZ hx) hx (DP hA G hC hX n Z O nx _ _ hy) (xr hA G hC n Z O nx _ _ hy) (gU ih hz)
  |While t body kq pos=>show c9 λho=>ah λx hx=>ah λz hz=>aL ?_;apply aY (Ŷ.mp ho);show DZ K (Qo _ _ hx).2 (gU ih hz)
  |Return v pos=>show ah λe he=>ah λc' ff=>aL ?_;apply aY he;show Lx K (yu ff) (da ff)
  |Raise exc Ms pos=>show c9 λRB=>ah λp hr=>c9 λhg=>ah λk jY=>c9 λI5=>ah λa ha=>aL ?_;obtain ⟨x,e⟩:=p;show mJ (uW hr) λp q q3=>?_;apply aY q3;apply aY (abZ.mp RB);show DW hA G K hg jY (by simpa using I5) (Fk ha) (da ha)
  |Try body hs kq gw pos=>
   show c9 λho=>ah λq hh=>c9 λhc=>ah λi hi=>ah λst fE=>ah λe j=>ah λa ha=>ah λy hy=>aL ?_;obtain ⟨x,nn,gj⟩:=q
   simp only[ō,beq_iff_eq,ϑ]at hc ho
   show aQ hc λWz hl=>?_;show aQ Wz λSp eT=>?_;show aQ Sp λhg k38=>?_;subst k38;apply aY (Ŷ.mp ho.1);apply aY (Ŷ.mp ho.2);apply aY (bX fE);show ä e.2 λrp q2=>?_;apply aY q2;show mJ (wF hh) λtp hp q3=>?_;apply aY q3;cases gj with
   |nil=>cases eT
   |cons b₀ gj=>show LA G K hg hl (cT hi).2 (yu ha) (da ha) λea=>ij (rC G (hQ ea) Z O n) hy
  |_=>show ed
end
theorem sw(hk:k x=À .cell):∀(b:List (Str×Ä)) (m:Str->Option Ä),(b.map (·.1)).Nodup->bindC k b m x=match b.lookup x with|some v=>À v|none=>m x
 |[],m,_=>rfl
 |(n,v)::r,m,hn=>by
  have lV:=ϛ.mp hn;unfold bindC;rw[sw hk r _ lV.2,ſ];cases hb:x==n with
  |true=>
   have:x=n:=by simpa using hb
   subst this
   have hr:r.lookup x=Ã:=by
    cases q:r.lookup x with
    |none=>rfl
    |some y=>show absurd (aeM (f:=(·.1)) (mem_of_lookup q)) lV.1
   rw[hr,if_neg (by rw[hk];decide)];simp
  |false=>
   have eT:x≠n:=by simpa using hb
   cases q:r.lookup x with
   |some y=>rfl
   |none=>
    by_cases Km:k n=À .local
    ·rw[if_pos Km]
    ·rw[if_neg Km];simp [eT]
theorem Cc:∀{l:List Str} {vs:List α} {i:Nat} {x:Str} {v:α},l.Nodup->l[i]?=À x->vs[i]?=À v->(l.zip vs).lookup x=À v
 |[],_,_,_,_,_,h,_=>by simp at h
 |a::l,[],_,_,_,_,_,h=>by simp at h
 |a::l,b::vs,0,x,v,_,h1,h2=>by
  simp at h1 h2;apply aY h1;apply aY h2
  simp
 |a::l,b::vs,i+1,x,v,hn,h1,h2=>by
  have lV:=ϛ.mp hn
  simp only[aej]at h1 h2
  rw[adt,ſ]
  have:(x==a)=Ê:=by
   simp only[beq_eq_false_iff_ne,ne_eq];rintro rfl;show lV.1 (ģ h1)
  rw[this];show Cc lV.2 h1 h2
structure AC(cx:gr)(fn:Fn)(cf:bq)(as:List Arg)(b:fv):Prop where
 params:fn.params=⟨[],as,Ã,[],[],Ã,[]⟩
 kind:fn.scope.kind=.function
 gen:fn.scope.isGenerator=Ê
 cor:fn.scope.isCoroutine=Ê
 uniq:∀n k,(n,k)∈fn.scope.names->fn.scope.names.lookup n=À k
 kinds:∀n k,(n,k)∈fn.scope.names->k=.local\/k=.cell\/k=.globalImplicit
 nodup:((eC fn.scope).map (·.1)).Nodup
 pre:as.map (·.arg)=((eC fn.scope).map (·.1)).take as.length
 body:eD (sC cx fn.scope (eC fn.scope) (eC fn.scope).length 200) fn.body=À b
 cf:cf=⟨as.length,b⟩
theorem ku(h:dv p=Æ):p=⟨[],p.args,Ã,[],[],Ã,[]⟩:=by
 obtain ⟨a,b,c,d,e,f,g⟩:=p
 simp only[dv,ō,Ŷ,abZ]at h
 show aQ h λk2 k3=>?_;show aQ k2 λk6 k7=>?_;show aQ k6 λKy Kz=>?_;obtain ⟨⟨rfl,rfl⟩,rfl⟩:=Ky;apply aY Kz;apply aY k7;apply aY k3;rfl
theorem qA(h:Cz cx fn.params fn.scope fn.body=À cf):∃as b,AC cx fn cf as b:=by
 show dC h λhc h=>bT h λb hb h=>?_;apply dJ h
 simp only[ō,beq_iff_eq,ϑ,ϩ,Ϝ,decide_eq_true_eq]at hc
 show aQ hc λk4 h6=>?_;show aQ k4 λk8 h5=>?_;show aQ k8 λKA h4=>?_;obtain ⟨⟨⟨h0,h1⟩,h2⟩,h3⟩:=KA;show⟨fn.params.args,b,ku h0,h1,h2,h3,λn k hm=>(h4 (n,k) hm).1,λn k hm=>?_,h6,h5,hb,rfl⟩;rcases (h4 (n,k) hm).2 with (h|h)|h
 ·show .inl h
 ·show .inr (.inl h)
 ·show .inr (.inr h)
theorem i9(h:(eC sc).lookup x=À i):((eC sc).map (·.1))[i]?=À x/\∃k,(x,k)∈sc.names/\(k=.local\/k=.cell):=by
 unfold eC at h ⊢;have h1:=ma h
 simp only[ĥ,ae5,true_and]at h1
 show⟨by simpa using h1,?_⟩;have hm:=ģ h1;rw[ŗ]at hm;show aE hm λk1 py k2=>?_;obtain ⟨n,k⟩:=k1;apply fR k2;show aQ (ť.mp py) λh2 h3=>?_
 simp only[Ϝ,beq_iff_eq]at h3
 show⟨k,h2,h3⟩
section
variable{A:Ñ}
structure P4(A:Ñ)(d:Nat):Prop where
 depth:A.depth+d<=600
 units:A.units+3*d<=9000
theorem P4.deeper(h:P4 A (d+1))(Z:Env):P4 (A.deeper Z) d:=by
 show⟨?_,?_⟩
 ·have:=h.depth
  show A.depth+1+d<=600;show jL (y6 0xc02589310b02589012ba182112ba41313ba184513ba520 N (iL this) (iA _ _) (iA _ _) (iA _ _) (iA _ _))
 ·have:=h.units
  show A.units+3+3*d<=9000;lia
theorem i5.room(h:i5 A d):P4 A d:=⟨h.depth,h.units⟩
theorem CW(Ċ:AC cx fn cf as b)(R:ar gg J H s.heap)(hv:bv gg J s.heap vs cc)(hl:vs.length=as.length)(Wn:QL (ĩ (ŋ fn.name fn.params fn.body fn.scope pm cd doc) s.heap.objs.size a))(Pb:sh (bw A) J Ì.heap)
  (x:InCallC s (ĩ (ŋ fn.name fn.params fn.body fn.scope pm cd doc) s.heap.objs.size a).locals (bindL (ĩ (ŋ fn.name fn.params fn.body fn.scope pm cd doc) s.heap.objs.size a).kindOf ((as.map (·.arg)).zip cc) λj=>Ã)
   (ĩ (ŋ fn.name fn.params fn.body fn.scope pm cd doc) s.heap.objs.size a).cells (bindC (ĩ (ŋ fn.name fn.params fn.body fn.scope pm cd doc) s.heap.objs.size a).kindOf ((as.map (·.arg)).zip cc) λj=>Ã) Ì) :
  eQ (bw A) J (ĩ (ŋ fn.name fn.params fn.body fn.scope pm cd doc) s.heap.objs.size a) (eC fn.scope) (bJ vs) Ì.heap:=by
 have hk:=x.toInCall.keep;have S:SE J s.heap J Ì.heap:=SE.keeps _ hk;have OZ:vs.length=cc.length:=hv.length
 have MS:(((as.map (·.arg)).zip cc).map (·.1)).Nodup:=by rw[List.map_fst_zip (by simp;show z' (Ŏ hl.symm) (Ŏ OZ)),Ċ.pre];show Ċ.nodup.sublist (acJ _ _)
 have O0:(as.map (·.arg)).Nodup:=by rw[Ċ.pre];show Ċ.nodup.sublist (acJ _ _)
 have bound:∀{x i v},(eC fn.scope).lookup x=À i->bJ vs i=À v->∃av,((as.map (·.arg)).zip cc).lookup x=À av/\VR gg J Ì.heap v av:=λ{x i v} hx hi=>by show aQ (i9 hx) λh1 j=>?_;show aE (hv.get hi) λav h2 h3=>?_;have jX:i<vs.length:=(Ğ.mp hi).1;show⟨av,Cc O0 ?_ h2,h3.step R S⟩;rw[Ċ.pre,List.getElem?_take,if_pos (ĵ jX (Ŏ hl))];show h1
 have Oy:∀{y c},(ì (s.heap.objs.size+1) fn.scope.names []).lookup y=À c->s.heap.objs.size<c:=λ{y c} e=>x.above y c (mem_of_lookup e);show⟨Ċ.kind,N,N,⟨_,x.toInCall.ns,?_⟩,?_,aX R (aG _),aW R (aG _),?_,?_,?_,λj=>Wn,Pb⟩
 ·intro y i v hy un yt
  show aE (bound hy yt) λav h1 h2=>?_;show⟨av,?_,h2⟩;rw[kG un _ _ MS,h1]
 ·intro y i hy un
  obtain ⟨_,k,hm,qG⟩:=i9 hy;have I5:=Ċ.uniq y k hm
  have Gr:k=.cell:=by
   show â qG (λq=>?_) (λq=>?_)
   ·subst q
    show â un (λr=>?_) (λr=>?_)
    ·have r':fn.scope.names.lookup y=À .cell:=r
     rw[I5]at r';cases r'
    ·have r':fn.scope.names.lookup y=À .free:=r
     rw[I5]at r';cases r'
   ·show q
  subst Gr;show ä (eI fn.scope.names (s.heap.objs.size+1) hm) λc hc=>?_;show ä (du hc) λc' ff=>?_;show⟨c',_,ff,x.cell y c' ff,λv yt=>?_⟩;show aE (bound hy yt) λav h1 h2=>?_;show⟨av,?_,h2⟩;rw[sw (by show I5) _ _ MS,h1]
 ·intro y c e
  have:=Oy e;have hf:s.heap.get? c=Ã:=hO (ī this);show⟨⟨_,x.cell y c e⟩,aX R hf,Ř this,aW R hf⟩
 ·intro y z c e1 e2
  show name_of_addr x.apart (mem_of_lookup e1) (mem_of_lookup e2)
 ·intro y z i e1 e2
  show aQ (i9 e1) λh1 j=>?_;show aQ (i9 e2) λh2 j=>?_;rw[h1]at h2;show Option.some.inj h2
theorem md.out{P:Ä->Prop}(X:md (bw A') J H aZ h Ď P e c w)(hs:∀f∈bw A,f∈bw A'):md (bw A) J H aZ h Ď P e c w:=
 ⟨X.R,λf hf=>X.FS f (hs f hf),λf hf=>X.F0 f (hs f hf),X.dom,X.B0,⟨X.X.ex,X.X.e0,X.X.eφ,X.X.eB⟩⟩
structure Yx(A:Ñ)(fn:Fn)(J:List È)(H:ag)(vs:List V)(s:Å)(Z:Env)(Ì:Å):Prop where
 F:eQ (bw (A.deeper Z)) J Z (eC fn.scope) (bJ vs) Ì.heap
 R:ar gg J H Ì.heap
 S:SE J s.heap J Ì.heap
 T:bK s Ì
 back:∀{aS:List È} {h':Ó},cX (FM J Z) J Ì.heap aS h'->SE J s.heap aS h'
 scope:Z.scope=fn.scope
 frame:Z.frame=À Z.locals
theorem qB{fn:Fn}{cf:bq}{as:List Arg}{b:fv}{A:Ñ}{d k:Nat}{vs:List V}{J:List È}{H:ag}{s:Å}{cc:List Ä}{Q:Ä->Å->Prop}{E:Ä->Å->Prop}(G:fU gg cx fs mg mb)(Ċ:AC cx fn cf as b)(lU:fs[k]?=À fn)(hA:P4 A (d+1))(cb:vs.length=as.length)
  (R:ar gg J H s.heap) (FS:sh (bw A) J s.heap) (hv:bv gg J s.heap vs cc)
  (h:∀Z Ì,Yx A fn J H vs s Z Ì->É mo (A.deeper Z) (execs fn.body Z) (λf s'=>Q (match f with|.ret v=>v|_=>.none) s') (λe s'=>É mo (A.deeper Z) (leaving Z e) (λz o8=>E e o8) (λe' o8=>E e' o8) s') Ì) :
  É mo A (PySem.call (.ref fn.addr) cc) Q E s:=by
 obtain ⟨hm,o,pm,cd,doc,ho,hd,og⟩:=G.made fn (ģ lU);have zz:s.heap.NoLimit:=G.nolimit.keeps R.base;have OZ:cc.length=as.length:=(hv.length)▸cb;have O0:(as.map (·.arg)).Nodup:=by rw[Ċ.pre];show Ċ.nodup.sublist (acJ _ _)
 have wH:A.depth<í:=by
  have h1:=hA.depth;have:600<í:=by decide
  show jT (y5 0x1c1410b02589011b10258910b20813ba182313ba340 N (iL h1) (iT this) (iP _) (iA _ _) (iA _ _))
 show Ŝ (codeAny_call_cells (body:=fn.body) (binds:=(as.map (·.arg)).zip cc) wH (R.base _ _ ho) hd zz (og.keeps R.base) N (lP Ċ.params N cc OZ O0) N ?_ (λÌ x=>?_) Ċ.cor Ċ.gen Ċ.kind)
 ·intro y hy
  have qI:y.1∈as.map (·.arg):=(ϔ hy).1;rw[Ċ.pre]at qI;have RR:y.1∈(eC fn.scope).map (·.1):=ű qI;show aE (ŗ.mp RR) λk6 py e=>?_;obtain ⟨n,i⟩:=k6;show ä (du py) λi' jX=>?_;have e':n=y.1:=e;rw[e']at jX;obtain ⟨_,kk,VV,I5⟩:=i9 jX;show â I5 (λq=>?_) (λq=>?_)
  ·subst q;show .inl (Ċ.uniq _ _ VV)
  ·subst q
   show .inr ⟨Ċ.uniq _ _ VV,?_⟩;show ä (eI fn.scope.names (s.heap.objs.size+1) VV) λc hc=>?_;show ä (du hc) λc' ff=>?_;show ((ì (s.heap.objs.size+1) fn.scope.names []).lookup y.1).isSome=Æ;rw[ff];rfl
 ·have hk:=x.toInCall.keep
  have iQ:SE J s.heap J Ì.heap:=SE.keeps _ hk;show mJ x.toInCall.same λbH ph GF=>?_;have yB:bK s Ì:=by rw[GF];show⟨N,N,N⟩
  have Pb:sh (bw (A.deeper (ĩ (ŋ fn.name fn.params fn.body fn.scope pm cd doc) s.heap.objs.size fn.addr))) J Ì.heap:=λf hf=>by
   rcases qz hf with rfl|hf
   ·show tX x.toInCall.ns λo' es ep sU jS z=>?_
    show⟨?_,_,o',es,ep,N,sU,jS,aX R (aG _),aW R (aG _)⟩;show fn.scope.kind≠.module;rw[Ċ.kind];decide
   ·obtain ⟨k1,L,o',es,ep,k2,k3,k4,k5,k6⟩:=FS f hf
    show⟨k1,L,o',es,ep,k2,hk _ _ k3,k4,k5,k6⟩
  show h _ Ì ⟨CW Ċ R hv cb (G.tab fn (ģ lU) o _ ho hd) Pb x,R.keeps hk,iQ,yB,λdw=>?_,rfl,rfl⟩;show cX.trans iQ dw (λz z z hb=>hb) λb o e hb q=>?_;rcases q with q|q|⟨y,q⟩
  ·show hb q
  ·have q':b=s.heap.objs.size:=q
   show absurd (ő e) (by rw[q'];show Ţ _)
  ·have:=x.above y b (mem_of_lookup q)
   show absurd (ő e) (ķ.mpr (ī this))
theorem lR(A7:P[k]?=À cf)(h:aC P (d+1) k vs H=À r):vs.length=cf.arity/\gw (aM (aC P d) cf.body (bJ vs) H)=À r:=by show bT (m:=P[k]?) (k:=λfn=>if vs.length=fn.arity then gw (aM (aC P d) fn.body (bJ vs) H) else Ã) h λYF Vz h=>?_;apply aY (sm (A7.symm.trans Vz));show cT h
theorem qw(h:gw m=À (r,ae)):∃fl aU,m=À (fl,aU,ae)/\(fl=.next/\r=.ok .none\/(∃v,fl=.ret v/\r=.ok v)\/∃c w,fl=.exc c w/\r=.exc c w):=by
 show oK h λfl aU Û hb h=>?_;cases fl with
 |ret v'=>apply dD h;show⟨_,_,hb,.inr (.inl ⟨_,N,N⟩)⟩
 |next=>apply dD h;show⟨_,_,hb,.inl ⟨N,N⟩⟩
 |exc c w=>apply dD h;show⟨_,_,hb,.inr (.inr ⟨_,_,N,N⟩)⟩
theorem DN(G:fU gg cx fs mg mb)(hP:Ob cx fs P)(hQ:Oc cx fs P):
  ∀d (A:Ñ),P4 A d->∀k∈cx.calm,si A (aC P d) k:=by
 intro d
 induction d with
 |zero=>intro A hA k hk as H v ae h;show no h
 |succ d ih=>
  intro A hA k hk vs H v ae h fn lU J s cc R FS hv E;show aE (hP k fn lU) λcf A7 wG=>?_;show mJ (qA wG) λas b Ċ=>?_;show aQ (lR A7 h) λcb h=>?_;have hq:=hQ k hk fn cf lU A7;rw[Ċ.cf]at cb h hq;show qB G Ċ lU hA cb R FS hv λZ Ì I=>?_;have P9:=hA.deeper Z;have q':eD (JB cx Z.scope (eC fn.scope) 200) fn.body=À b:=by rw[I.scope];show hq
  have B:=ij (rC (Á:=aC P d) G (ih _ P9) Z (eC fn.scope) 200) q';show gm (qw h) λfl aU hb hr=>?_;rcases hr with ⟨rfl,hr⟩|⟨v',rfl,hr⟩|⟨_,_,_,hr⟩
  ·apply aY (yA.ok.inj hr)
   show Ï (B _ H _ aU ae hb trivial J Ì I.R I.F _) (λf s' hf=>?_) λz z y=>y;obtain ⟨rfl,_,aS,dw,bx,gW⟩:=hf;show⟨aS,I.S.trans dw,bx,.none,I.T.trans gW⟩
  ·apply aY (yA.ok.inj hr)
   show Ï (B _ H _ aU ae hb trivial J Ì I.R I.F _) (λf s' hf=>?_) λz z y=>y;show MA hf λav aS q3 dw bx dX gW=>?_;apply aY q3;show⟨aS,I.S.trans dw,bx,dX,I.T.trans gW⟩
  ·cases hr
theorem DM(G:fU gg cx fs mg mb)(hP:Ob cx fs P)(hQ:Oc cx fs P):
  ∀d l (A:Ñ),i5 A d->A.frames=À l->tF A (aC P d)/\p9 A (aC P d):=by
 intro d
 induction d with
 |zero=>intro l A hA hl;show⟨λk as H v ae h=>no h,λk as H c w ae h=>no h⟩
 |succ d ih=>
  intro l A hA hl
  have gp:∀(Z:Env) (fn:Fn) (cf:bq) (as:List Arg) (b:fv),AC cx fn cf as b->Z.scope=fn.scope->Z.frame=À Z.locals->ls (A.deeper Z) Z (eC fn.scope) fn.body (aM (aC P d) b):=λZ fn cf as b Ċ Wi Gw=>by
   have P9:i5 (A.deeper Z) d:=⟨hA.handled,(hA.room.deeper Z).depth,(hA.room.deeper Z).units⟩
   have jd:(A.deeper Z).frames=À (Z::l):=by show A.frames.map (Z::·)=_;rw[hl];rfl
   show aQ (ih (Z::l) _ P9 jd) λh1 h2=>?_;have q':eD (sC cx Z.scope (eC fn.scope) (eC fn.scope).length 200) fn.body=À b:=by rw[Wi];show Ċ.body
   show gU (DY P9 G h1 h2 (λea=>DN G hP hQ d _ ⟨P9.depth,P9.units⟩) Z ⟨⟨l,jd⟩,_,Gw⟩ (eC fn.scope) (eC fn.scope).length (by rw[Wi];show Ċ.kind) 200) q'
  show⟨λk vs H v ae h fn lU J s cc R FS hv E=>?_,λk vs H c w ae h fn lU J s cc R FS hv Q E hE=>?_⟩
  ·show aE (hP k fn lU) λcf A7 wG=>?_
   show mJ (qA wG) λas b Ċ=>?_;show aQ (lR A7 h) λcb h=>?_;rw[Ċ.cf]at cb h;show qB G Ċ lU hA.room cb R FS hv λZ Ì I=>?_;have B:=gp Z fn cf as b Ċ I.scope I.frame;show gm (qw h) λfl aU hb hr=>?_;rcases hr with ⟨rfl,hr⟩|⟨v',rfl,hr⟩|⟨_,_,_,hr⟩
   ·apply aY (yA.ok.inj hr)
    show Ï (B _ H _ aU ae hb J Ì I.R I.F _ λe s' X=>X.elim) (λf s' hf=>?_) λz z y=>y;obtain ⟨rfl,aS,dw,bx,fc,gW⟩:=hf;show⟨aS,I.back dw,bx,.none,I.T.trans gW⟩
   ·apply aY (yA.ok.inj hr)
    show Ï (B _ H _ aU ae hb J Ì I.R I.F _ λe s' X=>X.elim) (λf s' hf=>?_) λz z y=>y;show MA hf λav aS q3 dw bx dX gW=>?_;apply aY q3;show⟨aS,I.back dw,bx,dX,I.T.trans gW⟩
   ·cases hr
  ·show aE (hP k fn lU) λcf A7 wG=>?_
   show mJ (qA wG) λas b Ċ=>?_;show aQ (lR A7 h) λcb h=>?_;rw[Ċ.cf]at cb h;show qB G Ċ lU hA.room cb R FS hv λZ Ì I=>?_;have B:=gp Z fn cf as b Ċ I.scope I.frame;show gm (qw h) λfl aU hb hr=>?_;rcases hr with ⟨rfl,hr⟩|⟨v',rfl,hr⟩|⟨c',w',rfl,hr⟩
   ·cases hr
   ·cases hr
   ·injection hr with e1 e2
    subst e1;subst e2;show Ï (B _ H _ aU ae hb J Ì I.R I.F _ λe s' X=>?_) (λf s' hf=>hf.elim) λz z y=>y;obtain ⟨aS,ea,L,rfl,hL,hc,dw,gW,X⟩:=X
    have jd:(A.deeper Z).frames=À (Z::l):=by show A.frames.map (Z::·)=_;rw[hl];rfl
    show KL jd hL X λh' X' K'=>?_;show hE ea aS _ ⟨hc,I.back (cX.xkp dw K'),I.T.trans (gW.trans ⟨N,N,N⟩),?_⟩;show((X'.out λf hf=>OL hl hf).before I.S R FS).mono (λq=>q.elim) λz q=>q
theorem Ka:sh (bw callerA) J h:=λz hf=>nomatch hf
theorem Ea:vz kk:=λG hP hQ d hd k as H v ae h fn lU J s cc R V E=>by
 have c1:callerA.depth<=500:=by decide
 have c2:callerA.units<=500:=by decide
 have hA:i5 callerA d:=⟨N,(by show jL (y3 0xc02589210b00649010b01f49112ba012 N (iL hd) (iL c1) (iA _ _))),by lia⟩;show(DM G hP hQ d [] callerA hA N).1 k as H v ae h fn lU J s cc R Ka V E
end
end L.Lake
namespace L.Lake
open PySem PySem.W PyProof.Rows PySem.Calls PySem.SeqAt
noncomputable def wa(p:ö)(consts:List (Str×Int))(calm:List Nat):gr:=⟨(ó p).map (·.name),consts,[],calm⟩
def zl(p:ö)(loose:List Str):Bool:=eZ.all λx=>!(startupNames.contains x) && !(loose.contains x) && !(((ó p).map (·.name)).contains x) && !(((litsOf p).map (·.1)).contains x) && !(((clssOf p loose).map (·.name)).contains x)&&x != ("__name__":Str)
noncomputable def Mu:PyData->Option Int
 |.int j=>À j
 |_=>Ã
theorem yQ{d:PyData}{i:Int}(h:Mu d=À i):d=.int i:=by cases d<;>first|exact no h|exact congrArg _ (sm h)
def constsOk(p:ö)(consts:List (Str×Int)):Bool:=consts.all λc=>(valOf p c.1).bind Mu==À c.2
theorem F8{mg:Str->Option Ä}{h:Ó}:∀(l:List DefRec),(∀d∈l,∃a o pm code doc,mg d.name=À (.ref a)/\h.get? a=À o/\o.data=.func (ŋ d.name d.params d.body d.scope pm code doc)/\h.CodeRec code d.name) ->
  ∃fs:List Fn,fs.map (·.name)=l.map (·.name)/\fs.map (λf=>(f.params,f.scope,f.body))=l.map (λd=>(d.params,d.scope,d.body)) /\
   ∀f∈fs,mg f.name=À (.ref f.addr)/\∃o pm cd doc,h.get? f.addr=À o/\o.data=.func (ŋ f.name f.params f.body f.scope pm cd doc)/\h.CodeRec cd f.name
 |[],_=>⟨[],N,N,λz hf=>nomatch hf⟩
 |d::l,hl=>by
  show YS (hl d G') λa o pm code doc h1 h2 h3 h4=>eJ (F8 l λd hd=>hl d (J' _ hd)) λfs e1 e2 e3=>⟨⟨d.name,a,d.params,d.body,d.scope⟩::fs,by simp [e1],by simp [e2],λf hf=>?_⟩;rcases ą.mp hf with rfl|hf
  ·show⟨h1,o,pm,code,doc,h2,h3,h4⟩
  ·show e3 f hf
set_option backward.match.sparseCases false
noncomputable def qc:Ä->Option È
 |.ref a=>À a
 |_=>Ã
theorem sv{v:Ä}{a:È}(h:qc v=À a):v=.ref a:=by cases v<;>first|exact no h|exact congrArg _ (sm h)
noncomputable def Js:Data->Option Ī
 |.func fd=>À fd
 |_=>Ã
theorem Cs{v:Data}{a:Ī}(h:Js v=À a):v=.func a:=by cases v<;>first|exact no h|exact congrArg _ (sm h)
noncomputable def QW:Data->Option ClassData
 |.cls c=>À c
 |_=>Ã
theorem Cq{v:Data}{a:ClassData}(h:QW v=À a):v=.cls a:=by cases v<;>first|exact no h|exact congrArg _ (sm h)
noncomputable def Om:Data->Option (Array Ä)
 |.fields vs=>À vs
 |_=>Ã
noncomputable def QV:FuncBody->Option (List ď)
 |.stmts b=>À b
 |_=>Ã
theorem Cp{v:FuncBody}{a:List ď}(h:QV v=À a):v=.stmts a:=by cases v<;>first|exact no h|exact congrArg _ (sm h)
def QT:ď->Option (Ô×Ô)
 |.Assign ts v _=>(lq ts).bind λt=>À (t,v)
 |_=>Ã
set_option tactic.hygienic true in
theorem Cn{st:ď}{t v:Ô}(h:QT st=À (t,v)):∃p,st=.Assign [t] v p:=by
 cases st<;>first|exact no h|skip
 rename_i ts v' p;show bT h λt' h1 h2=>?_;apply dD h2;apply aY (bX h1);show⟨p,rfl⟩
noncomputable def QU:Ô->Option (Ô×Str)
 |.Attribute o a _=>À (o,a)
 |_=>Ã
theorem Co{e o:Ô}{a:Str}(h:QU e=À (o,a)):∃p,e=.Attribute o a p:=by
 cases e<;>first|exact no h|skip
 apply dD h;show⟨_,N⟩
set_option backward.match.sparseCases true
def As(h:Ó)(mv:Option Ä):Option È:=mv.bind λv=>(qc v).bind λa=>(h.get? a).bind λo=>(Js o.data).bind λfd=>(qc fd.code).bind λc=>(h.get? c).bind λoc=>(Om oc.data).bind λvs=>(vs[11]?).bind qc
theorem At{h h':Ó}{mv:Option Ä}{P:È}(x:As h mv=À P)(hk:∀b o,h.get? b=À o->h'.get? b=À o):As h' mv=À P:=by show ie x λv a h1 h2 x=>?_;show ie x λo fd h3 h4 x=>?_;show ie x λc oc h5 h6 x=>?_;unfold As;rw[h1];simp only[ab8];rw[h2];simp only[ab8];rw[hk _ _ h3];simp only[ab8];rw[h4];simp only[ab8];rw[h5];simp only[ab8];rw[hk _ _ h6];show x
def nD(h:Ó)(mg:Str->Option Ä):List DefRec->Option (List È)
 |[]=>À []
 |d::r=>(As h (mg d.name)).bind λP=>(nD h mg r).bind λPs=>À (P::Ps)
theorem pd{h h':Ó}{mg:Str->Option Ä}(hk:∀b o,h.get? b=À o->h'.get? b=À o):∀{l:List DefRec} {Ps:List È},nD h mg l=À Ps->nD h' mg l=À Ps
 |[],Ps,x=>x
 |d::r,Ps,x=>by show ie x λP Qs h1 h2 x=>?_;show (As h' (mg d.name)).bind _=_;rw[At h1 hk];show (nD h' mg r).bind _=_;rw[pd hk h2];show x
theorem kX{h:Ó}{mg:Str->Option Ä}:∀{l:List DefRec} {Ps:List È},nD h mg l=À Ps->Ps.length=l.length/\∀(i:Nat) (d:DefRec),l[i]?=À d->∃P,Ps[i]?=À P/\As h (mg d.name)=À P
 |[],Ps,x=>by apply dJ x;show⟨rfl,λi d e=>by simp at e⟩
 |d::r,Ps,x=>by
  show ie x λP Qs h1 h2 x=>?_;apply dJ x;show aQ (kX h2) λk1 k2=>⟨by simp [k1],λi d' e=>?_⟩;cases i with
  |zero=>apply fR (Option.some.inj e);show⟨P,N,h1⟩
  |succ i=>show k2 i d' e
theorem b1{a b:Bool}(h:(a&&b)=Æ):a=Æ:=(Ł.mp h).1
theorem b2{a b:Bool}(h:(a&&b)=Æ):b=Æ:=(Ł.mp h).2
theorem nb{a:Bool}(h:(!a)=Æ):a=Ê:=by cases a;rfl;cases h
theorem K7{o:Obj}{c:Ä}{dt:Data}{sl:Array (Option Ä)}(h1:o.cls=c)(h2:o.dict=Ã)(h3:o.data=dt)(h4:o.slots=sl):o={cls:=c,dict:=Ã,data:=dt,slots:=sl}:=by show Obj.mk o.cls o.dict o.data o.slots=_;rw[h1,h2,h3,h4]
theorem Ox{cd:ClassData}{mro:List Ä}(h1:cd.mro=mro)(h2:cd.hasDict=Æ)(h3:cd.slotNames=[])(h4:cd.abstract=Ê)(h5:cd.collection=Ã)(h6:cd.hasDel=Ê):cd={name:=cd.name,bases:=cd.bases,mro:=mro,ns:=cd.ns,qualname:=cd.qualname,hasDict:=Æ,slotNames:=[],subclasses:=cd.subclasses,abstract:=Ê,collection:=Ã,hasDel:=Ê}:=by show ClassData.mk cd.name cd.bases cd.mro cd.ns cd.qualname cd.hasDict cd.slotNames cd.subclasses cd.abstract cd.collection cd.hasDel=_;rw[h1,h2,h3,h4,h5,h6]
theorem DF{sl:Array (Option Ä)}{v:Option Ä}(h1:sl.size=6)(h2:sl[4]?=À v):∃k0 k1 k2 k3 k5,sl=#[k0,k1,k2,k3,v,k5]:=by obtain ⟨l⟩:=sl;show IU (six_places (l:=l) h1 (by simpa using h2)) λk0 k1 k2 k3 k5 q6=>?_;apply aY q6;show⟨k0,k1,k2,k3,k5,rfl⟩
theorem UR{a b c d:Bool}{C:Prop}(h:(a&&(b&&(c&&d)))=Æ)(k:a=Æ->b=Æ->c=Æ->d=Æ->C):C:=k (b1 h) (b1 (b2 h)) (b1 (b2 (b2 h))) (b2 (b2 (b2 h)))
theorem Q1{a b c d e:Bool}{C:Prop}(h:(a&&(b&&(c&&(d&&e))))=Æ)(k:a=Æ->b=Æ->c=Æ->d=Æ->e=Æ->C):C:=UR h λx y z w=>k x y z (b1 w) (b2 w)
def OA(h:Ó)(tl:List Ä)(C:È)(o:Obj)(cd:ClassData):Bool:=o.cls==.type "type" && (o.dict.isNone&&(o.slots.size==6&&(o.slots[4]?==À (À (.builtin "ValueError.__new__"))&&(cd.mro==.ref C::tl&&(cd.hasDict&&(cd.slotNames.isEmpty&&(!cd.abstract&&(cd.collection.isNone&&(!cd.hasDel&&(h.isNs cd.ns&&(h.nsKeys cd.ns).all iv.contains))))))))))
def JH(h:Ó)(mv:Option Ä)(tl:List Ä):Option (È×È):=mv.bind λv=>(qc v).bind λC=>(h.get? C).bind λo=>(QW o.data).bind λcd=>if OA h tl C o cd then À (C,cd.ns) else Ã
theorem JG{h:Ó}{tl:List Ä}{C:È}{o:Obj}{cd:ClassData}(c1:OA h tl C o cd=Æ)(ho:h.get? C=À o)(hd:o.data=.cls cd):fw h C tl (h.nsMap cd.ns)/\h.isNs cd.ns=Æ:=by
 unfold OA at c1;show Q1 c1 λd1 d2 d3 d4 r=>Q1 r λd5 d6 d7 d8 r=>UR r λd9 UX Tn UY=>IU (DF (beq_iff_eq.mp (d3)) (beq_iff_eq.mp (d4))) λk0 k1 k2 k3 k5 sV=>?_;have og:=Ox (beq_iff_eq.mp (d5)) (d6) (Ŷ.mp (d7)) (nb (d8)) (abZ.mp (d9)) (nb (UX));have hoo:=K7 (beq_iff_eq.mp (d1)) (abZ.mp (d2)) (hd.trans (congrArg _ og)) sV;show⟨⟨⟨⟨cd.ns,cd.name,cd.qualname,cd.bases,cd.subclasses,k0,k1,k2,k3,k5⟩,ho.trans (congrArg À hoo),.of_isNs (Tn)⟩,λn hn=>Heap.nsMap_none λhm=>hn ?_⟩,Tn⟩
 simpa using ϩ.mp (UY) n hm
theorem nW{h:Ó}{mv:Option Ä}{tl:List Ä}{C pzJ:È}(x:JH h mv tl=À (C,pzJ)):mv=À (.ref C)/\fw h C tl (h.nsMap pzJ)/\h.isNs pzJ=Æ:=by show ie x λv C' h1 h2 x=>?_;show ie x λo cd h3 h4 x=>?_;show dC x λhc x=>?_;apply dD x;show⟨h1.trans (congrArg À (sv h2)),JG hc h3 (Cq h4)⟩
structure Ui where
 f:È
 o:Obj
 fd:Ī
 x:Str
 n:Str
 y:Str
 a:Arg×Arg
def M9(h:Ó)(mv:Option Ä):Option Ui:=mv.bind λv=>(qc v).bind λf=>(h.get? f).bind λo=>(Js o.data).bind λfd=>(QV fd.body).bind λb=>(lq b).bind λst=>(QT st).bind λq=>(QU q.1).bind λr=>(dx r.1).bind λx=>(dx q.2).bind λy=>(two fd.params.args).bind λa=>À ⟨f,o,fd,x,r.2,y,a⟩
theorem zG{h:Ó}{mv:Option Ä}{p:Ui}{C:Prop}(z:M9 h mv=À p)(k:mv=À (.ref p.f)->h.get? p.f=À p.o->p.o.data=.func p.fd->(∃p1 p2 p3 p4,p.fd.body=.stmts [.Assign [.Attribute (.Name p.x p1) p.n p2] (.Name p.y p3) p4])->p.fd.params.args=[p.a.1,p.a.2]->C):C:=by show ie z λv f h1 h2 z=>ie z λo fd h3 h4 z=>ie z λb st h5 h6 z=>Bz z λt v' h7 z=>Bz z λWK O h8 z=>ie z λx y h9 Y0 z=>bT z λa Y1 z=>?_;revert k;apply dJ z;intro k;show ä (Cn h7) λp1 e7=>ä (Co h8) λp2 e8=>ä (bD h9) λp3 e9=>ä (bD Y0) λp4 YO=>k (h1.trans (congrArg À (sv h2))) h3 (Cs h4) ⟨p3,p2,p4,p1,(Cp h5).trans (by rw[bX h6,e7,show t=_ from e8,show WK=_ from e9,show v'=_ from YO])⟩ (ik Y1)
def Si(h:Ó)(p:Ui):Bool:=p.o.cls==.type "function" && (p.x==("self":Str)&&(p.n==("word":Str)&&(p.y==("word":Str)&&(dv p.fd.params&&(p.a.1.arg==("self":Str)&&(p.a.2.arg==("word":Str)&&(decide (p.fd.scope.names=[(("self":Str),NameKind.local),(("word":Str),NameKind.local)]) &&
  (p.fd.scope.kind==.function&&(!p.fd.scope.isGenerator&&(!p.fd.scope.isCoroutine&&(p.fd.globals==Ü&&(p.fd.closure.isEmpty&&(p.fd.defaults==.none&&(p.fd.builtins==Ą&&h.codeRecOk p.fd.code p.fd.qualname))))))))))))))
def Na(h:Ó)(mv:Option Ä):Option Unit:=(M9 h mv).bind λp=>if Si h p then À () else Ã
theorem zH{h:Ó}{mv:Option Ä}(z:Na h mv=À ()):∃f,mv=À (.ref f)/\iO h f:=by show bT z λp h0 z=>zG h0 λh1 h2 h3 h4 h5=>⟨p.f,h1,(Q1 (cT z).1 λd1 d2 d3 d4 r=>Q1 r λd5 d6 d7 d8 r=>Q1 r λd9 UX Tn UY r=>UR r λYH YI YJ YK=>?_)⟩;have hp:=ku d5;rw[h5]at hp;rw[beq_iff_eq.mp d2,beq_iff_eq.mp d3,beq_iff_eq.mp d4]at h4;show⟨p.o,p.fd,p.a.1,p.a.2,h2,⟨beq_iff_eq.mp d1,h3,h4,hp,beq_iff_eq.mp d6,beq_iff_eq.mp d7,of_decide_eq_true d8,beq_iff_eq.mp d9,nb UX,nb Tn,beq_iff_eq.mp UY,Ŷ.mp YH,beq_iff_eq.mp YI,beq_iff_eq.mp YJ⟩,.of_ok YK⟩
structure XC(mg:Str->Option Ä)(h:Ó)(C0 C1 C2:È)(m0 m1 m2:Str->Option Ä)(f:È):Prop where
 n0:mg ("LarderError":Str)=À (.ref C0)
 n1:mg ("TooMuch":Str)=À (.ref C1)
 n2:mg ("Short":Str)=À (.ref C2)
 c0:fw h C0 jW m0
 c1:fw h C1 (.ref C0::jW) m1
 c2:fw h C2 (.ref C0::jW) m2
 i0:m0 ("__init__":Str)=À (.ref f)
 i:iO h f
 j1:m1 ("__init__":Str)=Ã
 j2:m2 ("__init__":Str)=Ã
 q:C1≠C2/\C1≠C0/\C2≠C0
structure XE(q:ö)(mg:Str->Option Ä)(h:Ó):Prop where
 tabs:∃Ps,nD h mg (ó q)=À Ps/\Ps.Nodup
 exc:∃C0 C1 C2 m0 m1,∃m2 f,XC mg h C0 C1 C2 m0 m1 m2 f
theorem XE.keeps{q:ö}{mg:Str->Option Ä}{h h':Ó}(X:XE q mg h)(hk:∀b o,h.get? b=À o->h'.get? b=À o):XE q mg h':=
 ⟨aE X.tabs λPs h1 h2=>⟨Ps,pd hk h1,h2⟩,IU X.exc λC0 C1 C2 m0 m1 k=>mJ k λm2 f x=>⟨C0,C1,C2,m0,m1,m2,f,x.n0,x.n1,x.n2,x.c0.keeps hk,x.c1.keeps hk,x.c2.keeps hk,x.i0,x.i.keeps hk,x.j1,x.j2,x.q⟩⟩
def xeT(q:ö)(h:Ó):Option Unit:=(JH h (h.nsMap Ü ("LarderError":Str)) jW).bind λp0=>(JH h (h.nsMap Ü ("TooMuch":Str)) (.ref p0.1::jW)).bind λp1=>(JH h (h.nsMap Ü ("Short":Str)) (.ref p0.1::jW)).bind λp2=>
 (Na h (h.nsMap p0.2 ("__init__":Str))).bind λz=>(nD h (h.nsMap Ü) (ó q)).bind λPs=>if (h.nsMap p1.2 ("__init__":Str)).isNone&&(h.nsMap p2.2 ("__init__":Str)).isNone&&p1.1 != p2.1&&p1.1 != p0.1&&p2.1 != p0.1&&decide Ps.Nodup then À () else Ã
def Yp(q:ö)(s:Å):Bool:=(xeT q s.heap).isSome
theorem Yq{q:ö}{s:Å}(x:Yp q s=Æ):XE q (s.heap.nsMap Ü) s.heap:=by
 show ä (abA.mp x) λu x=>Bz x λC0 N0 h0 x=>Bz x λC1 N1 h1 x=>Bz x λC2 N2 h2 x=>ie x λz Ps h3 h4 x=>?_;show dC x λhc z=>?_
 simp only[ō,abZ,bne_iff_ne,ne_eq,decide_eq_true_eq]at hc
 obtain ⟨⟨⟨⟨⟨c1,c2⟩,c3⟩,c4⟩,c5⟩,c6⟩:=hc;show im (nW h0) λa1 a2 z=>im (nW h1) λb1 b2 z=>im (nW h2) λd1 d2 z=>aE (zH h3) λf e1 e2=>⟨⟨Ps,h4,c6⟩,C0,C1,C2,_,_,_,f,a1,b1,d1,a2,b2,d2,e1,e2,c1,c2,c3,c4,c5⟩
theorem LH{h:Ó}{mv:Option Ä}{a c P:È}{o:Obj}{fd:Ī}(x1:mv=À (.ref a))(x2:h.get? a=À o)(x3:o.data=.func fd)(x4:fd.code=.ref c)(x6:h.TableAt c P #[]):As h mv=À P:=by
 obtain ⟨⟨oo,ws,z1,z2,z3,z4⟩,z5⟩:=x6
 have e1:(Om oo.data).bind (λvs=>(vs[11]?).bind qc)=À P:=by rw[z3];show (ws[11]?).bind qc=_;rw[z4];rfl
 have e2:(Js o.data).bind (λfd=>(qc fd.code).bind λc=>(h.get? c).bind λoc=>(Om oc.data).bind λvs=>(vs[11]?).bind qc)=À P:=by rw[x3];show (qc fd.code).bind _=_;rw[x4];show (h.get? c).bind _=_;rw[z1];show e1
 rw[x1];show (h.get? a).bind _=_;rw[x2];show e2
noncomputable def Q8(C0 C1 C2:È)(n:Nat):È:=if n=0 then C0 else if n=1 then C1 else C2
noncomputable def fM(l:List DefRec)(Ps:List È):List (Str×È):=(l.map (λd=>(d.name++".<locals>.":Str))).zip Ps
structure Cf(h:Ó)(Ps:List È):Prop where
 at_:∀P∈Ps,h.get? P=À {cls:=.none,data:=.fields #[]}/\isCodeTable h P
theorem Cf.up{h:Ó}{Ps:List È}(KE:Cf h Ps)(b:È)(o:Obj)(e:h.get? b=À o)(hd:o.data≠.fields #[]):(Ŀ h Ps).get? b=À o:=
 hideAll_get Ps e λhm=>hd (by rw[Option.some.inj (e.symm.trans (KE.at_ b hm).1)])
theorem Cf.ns{h:Ó}{Ps:List È}(KE:Cf h Ps){a:È}{m:Str->Option Ä}(x:h.Ns a m):(Ŀ h Ps).Ns a m:=
 tX x λo es ep e hd r=>⟨o,es,ep,KE.up _ _ e (by rw[hd];show λq=>nomatch q),hd,r⟩
theorem Cf.cdr{h:Ó}{Ps:List È}(KE:Cf h Ps){cd:Ä}{q:Str}(x:h.CodeRec cd q):(Ŀ h Ps).CodeRec cd q:=by obtain ⟨c,o,vs,t,y1,y2,y3,y4⟩:=x;show⟨c,o,vs,t,y1,KE.up _ _ y2 ?_,y3,y4⟩;rw[y3];intro q';injection q' with q';subst q';simp at y4
theorem Cf.cls{h:Ó}{Ps:List È}(KE:Cf h Ps){C:È}{tl:List Ä}{mN:Str->Option Ä}(x:fw h C tl mN):fw (Ŀ h Ps) C tl mN:=
 ⟨x.obj.elim λD y=>⟨D,KE.up _ _ y.1 (λq=>nomatch q),KE.ns y.2⟩,x.quiet⟩
theorem Cf.init{h:Ó}{Ps:List È}(KE:Cf h Ps){f:È}(x:iO h f):iO (Ŀ h Ps) f:=
 ⟨EC x.ex λo fd a1 a2 ho IO og=>⟨o,fd,a1,a2,KE.up _ _ ho (by rw[IO.data];show λq=>nomatch q),IO,KE.cdr og⟩⟩
structure Me(mg:Str->Option Ä)(h:Ó)(Ps:List È)(n:Str)(k:Nat)(a:È)(o:Obj)(fd:Ī)(c P:È):Prop where
 O:mg n=À (.ref a)
 ho:h.get? a=À o
 hd:o.data=.func fd
 hc:fd.code=.ref c
 is:h.IsCode c P #[]
 ta:h.TableAt c P #[]
 pk:Ps[k]?=À P
theorem Ik{p:ö}{loose:List Str}{qQ:ExcName->Option Ä}{mg mb:Str->Option Ä}{h:Ó}(T:Top p loose qQ mg mb h){Ps:List È}(t1:nD h mg (ó p)=À Ps)(k:Nat)(d:DefRec)(hd:(ó p)[k]?=À d):∃a o fd c P,Me mg h Ps d.name k a o fd c P:=by obtain ⟨a,o,fd,c,P,x1,x2,x3,x4,x5,x6⟩:=T.tab d (ģ hd);show aE ((kX t1).2 k d hd) λP' y1 y2=>?_;rw[Option.some.inj (y2.symm.trans (LH x1 x2 x3 x4 x6))]at y1;show⟨a,o,fd,c,P,x1,x2,x3,x4,x5,x6,y1⟩
theorem OV{p:ö}{loose:List Str}{qQ:ExcName->Option Ä}{mg mb:Str->Option Ä}{h:Ó}(T:Top p loose qQ mg mb h){Ps:List È}(t1:nD h mg (ó p)=À Ps):Cf h Ps:=⟨λP hP=>by
 show ä (List.getElem_of_mem hP) λk q=>ä q λhk e=>?_;have jY:k<(ó p).length:=(kX t1).1▸hk;show IU (Ik T t1 k _ (N' jY)) λa o fd c P' x=>?_
 have q:P'=P:=by have:=x.pk;rw[N' hk,e]at this;show(Option.some.inj this).symm
 rw[<-q];show⟨x.ta.2,x.ta.isCodeTable⟩⟩
theorem HA{p:ö}{loose:List Str}{qQ:ExcName->Option Ä}{mg mb:Str->Option Ä}{h:Ó}(T:Top p loose qQ mg mb h)(hf:zl p loose=Æ)(x:Str)(hx:x∈eZ):mg x=Ã/\mb x=Ě x:=by
 have:=ϩ.mp hf x hx
 simp only[ō,ϑ,List.contains_eq_mem,decide_eq_false_iff_not,bne_iff_ne,ne_eq]at this
 obtain ⟨⟨⟨⟨⟨h1,h2⟩,h3⟩,h4⟩,h5⟩,h6⟩:=this;show⟨T.free x h1 h2 h3 h4 h5,T.builtins x h6⟩
theorem consts_of{p:ö}{loose:List Str}{qQ:ExcName->Option Ä}{mg mb:Str->Option Ä}{h:Ó}(T:Top p loose qQ mg mb h){consts:List (Str×Int)}(hc:constsOk p consts=Æ)(x:Str)(i:Int)(hx:consts.lookup x=À i):∃t,mg x=À (.int i t):=by show bT (beq_iff_eq.mp (ϩ.mp hc _ (mem_of_lookup hx))) λd h1 h2=>?_;rw[yQ h2]at h1;show aE (T.const x _ h1) λv h3 h4=>?_;have:=h4 h;cases this;show⟨_,h3⟩
theorem Cf.tabC{mg:Str->Option Ä}{h:Ó}{Ps:List È}(KE:Cf h Ps){l:List DefRec}{d:DefRec}{k:Nat}(hd:l[k]?=À d){a:È}{o:Obj}{fd:Ī}{c P:È}(x:Me mg h Ps d.name k a o fd c P)(hq:fd.qualname=d.name){prog:ö}{w:World}{cl:Nat->È}:Od ⟨prog,w,Ŀ h Ps,fM l Ps,cl⟩ (fd.qualname++".<locals>.") fd.code:=by
 show⟨k,c,P,h,?_,x.hc,x.is,x.ta,λo ho=>KE.up _ _ ho ?_⟩
 ·show (fM l Ps)[k]?=_
  unfold fM;rw[acy];show⟨?_,x.pk⟩;rw[Ġ,hd,hq];rfl
 ·obtain ⟨⟨oo,ws,z1,z2,z3,z4⟩,z5⟩:=x.ta
  rw[<-Option.some.inj (z1.symm.trans ho),z3];intro q';injection q' with q';subst q';simp at z4
theorem LL{p prog:ö}{w:World}{loose:List Str}{qQ:ExcName->Option Ä}{mg mb:Str->Option Ä}{h:Ó}(T:Top p loose qQ mg mb h)(X:XE p mg h)(hi:importsNone p=Æ)(consts:List (Str×Int))(calm:List Nat)(hc:constsOk p consts=Æ)(hf:zl p loose=Æ):
  ∃fs Ps C0 C1 C2,fU ⟨prog,w,Ŀ h Ps,fM (ó p) Ps,Q8 C0 C1 C2⟩ (wa p consts calm) fs mg mb/\fs.map (λf=>(f.params,f.scope,f.body))=(ó p).map (λd=>(d.params,d.scope,d.body))/\Ps.Nodup/\Ps.length=(ó p).length /\
   ∀P∈Ps,h.get? P=À {cls:=.none,data:=.fields #[]}/\isCodeTable h P:=by
 show eJ (F8 (ó p) T.fn) λfs e1 e2 e3=>aE X.tabs λPs t1 t2=>IU X.exc λC0 C1 C2 m0 m1 k=>mJ k λm2 f x=>?_;have KE:=OV T t1;show⟨fs,Ps,C0,C1,C2,⟨KE.ns T.g,KE.ns T.b,aE T.nolimit λmc h1 h2=>⟨mc,KE.ns h1,h2⟩,aE ((T.seer hi).mods) λmm hm z=>oN (KE.ns hm) λo z z ho z=>⟨o,ho⟩,HA T hf,consts_of T hc,e1,λf hf=>?_,?_,⟨x.n0,x.n1,x.n2,⟨m0,f,KE.cls x.c0,x.i0,KE.init x.i⟩,⟨m1,KE.cls x.c1,x.j1⟩,⟨m2,KE.cls x.c2,x.j2⟩,x.q⟩,λf hf o fd ho hd=>?_⟩,e2,t2,(kX t1).1,KE.at_⟩
 ·obtain ⟨h1,o,pm,cd,doc,h2,h3,h4⟩:=e3 f hf
  show⟨h1,o,pm,cd,doc,KE.up _ _ h2 (by rw[h3];show λq=>nomatch q),h3,KE.cdr h4⟩
 ·obtain ⟨bm,WK,b1,b2,b3,b4,b5,b6⟩:=T.bmain
  show⟨bm,WK,b1,b2,KE.up _ _ b3 (by rw[b6];show λq=>nomatch q),b4,b5,b6⟩
 ·show ä (adb hf) λk hk=>?_
  have Ko:(fs.map (·.name))[k]?=À f.name:=by rw[Ġ,hk];rfl
  rw[e1,Ġ,ϱ]at Ko;show aE Ko λd jS RG=>IU (Ik T t1 k d jS) λa o' YW c P y=>?_;obtain ⟨y1,o2,pm,cd,doc,y2,y3,y4⟩:=e3 f hf
  have ha:f.addr=a:=by have:=y.O;rw[RG,y1]at this;show Value.ref.inj (Option.some.inj this)
  have sU:=of_hideAll Ps ho;have eo:o'=o:=Option.some.inj (y.ho.symm.trans (ha▸sU));have ef:YW=fd:=Data.func.inj (y.hd.symm.trans (eo▸hd));rw[ef]at y;show KE.tabC jS y ?_;have:=(hd.symm.trans (congrArg Obj.data (Option.some.inj (sU.symm.trans y2)))).trans y3;rw[Data.func.inj this];show RG.symm
theorem PC{h h':Ó}{Ps:List È}(hk:∀b o,h.get? b=À o->b∉Ps->h'.get? b=À o)(hP:∀P∈Ps,h.get? P=À {cls:=.none,data:=.fields #[]}/\isCodeTable h P)(hQ:∀P∈Ps,∃vs,h'.get? P=À {cls:=.none,data:=.fields vs}):OldK h h':=by
 show⟨λb o e=>?_,λb o e=>?_⟩
 ·by_cases hb:b∈Ps
  ·show aQ (hP b hb) λh1 h2=>ä (hQ b hb) λvs h3=>?_
   apply fR (Option.some.inj (h1.symm.trans e));show .inr (.inl ⟨h2,rfl,#[],vs,rfl,by rw[h3];simp⟩)
  ·show .inl (hk b o e hb)
 ·by_cases hb:b∈Ps
  ·show ä (hQ b hb) λvs h3=>⟨_,h3⟩
  ·show⟨o,hk b o e hb⟩
theorem law_run{p prog:ö}{w:World}{loose:List Str}{qQ:ExcName->Option Ä}{mg mb:Str->Option Ä}{s:Å}(T:Top p loose qQ mg mb s.heap)(X:XE p mg s.heap)(hi:importsNone p=Æ)(consts:List (Str×Int))(calm:List Nat)(hc:constsOk p consts=Æ)(hf:zl p loose=Æ)
  {P:List bq} (hP:(ó p).map (λd=>Cz (wa p consts calm) d.params d.scope d.body)=P.map À) (Zf:∀k∈calm,∃d cf,(ó p)[k]?=À d/\P[k]?=À cf/\eD (JB (wa p consts calm) d.scope (eC d.scope) 200) d.body=À cf.body) {k:Nat} {name:Str} (hk:((ó p).map (·.name))[k]?=À name) {fa:È} (V6:mg name=À (.ref fa)) {a:È} {vs:List Ä} {ns:List Int} (hl:s.heap.IsList a vs.toArray) (hz:ns.length<=aw+1) (hv:ò vs ns)
  {d:Nat} (hd:d<=100) (h:∀H,∃ae,aC P d k [.ro ns] H=À (.ok (.bool Æ),ae)) {E:Ä->Å->Prop} {Q:Ä->Å->Prop} (hQ:∀s',OldK s.heap s'.heap->s'.gens=s.gens->s'.os=s.os->Q (.bool Æ) s') :
  É (model prog w) callerA (PySem.call (.ref fa) [.ref a]) Q E s:=by
 show YT (LL (prog:=prog) (w:=w) T X hi consts calm hc hf) λfs Ps C0 C1 C2 G RK MS cb hT=>?_
 have ND:∀(k:Nat) (fn:Fn),fs[k]?=À fn->∃dr,(ó p)[k]?=À dr/\dr.params=fn.params/\dr.scope=fn.scope/\dr.body=fn.body:=λk fn lU=>by
  have h1:(fs.map (λf=>(f.params,f.scope,f.body)))[k]?=À (fn.params,fn.scope,fn.body):=by simp [lU]
  rw[RK,Ġ,ϱ]at h1;show aE h1 λdr RH e=>?_;injection e with e1 e
  injection e with e2 e3
  show⟨dr,RH,e1,e2,e3⟩
 have Zc:∀(k:Nat) (fn:Fn),fs[k]?=À fn->∃cf,P[k]?=À cf/\Cz (wa p consts calm) fn.params fn.scope fn.body=À cf:=λk fn lU=>by
  show tW (ND k fn lU) λdr RH e1 e2 e3=>?_;have h2:((ó p).map (λd=>Cz (wa p consts calm) d.params d.scope d.body))[k]?=À (Cz (wa p consts calm) dr.params dr.scope dr.body):=by simp [RH]
  rw[hP,Ġ,ϱ]at h2;show aE h2 λcf A7 e4=>⟨cf,A7,by rw[<-e1,<-e2,<-e3];show e4.symm⟩
 have Zd:∀k∈(wa p consts calm).calm,∀fn cf,fs[k]?=À fn->P[k]?=À cf->eD (JB (wa p consts calm) fn.scope (eC fn.scope) 200) fn.body=À cf.body:=λk VU fn cf lU A7=>by show fQ (Zf k VU) λd' YF h1 h2 h3=>tW (ND k fn lU) λdr RH e1 e2 e3=>?_;obtain rfl:=Option.some.inj (h1.symm.trans RH);apply fR (Option.some.inj (h2.symm.trans A7));rw[<-e2,<-e3];show h3
 have lU:∃fn,fs[k]?=À fn/\fn.name=name:=by rw[show (ó p).map (·.name)=fs.map (·.name) from G.names.symm,Ġ,ϱ]at hk;show hk
 show aE lU λfn lU oW=>?_
 have Rw:fn.addr=fa:=by have:=(G.made fn (ģ lU)).1;rw[oW,V6]at this;injection this with this;injection this with this;show this.symm
 have SY:(fM (ó p) Ps).length=Ps.length:=by unfold fM;simp [cb]
 have PV:∀(j:Nat) (q:Str) (P:È),(fM (ó p) Ps)[j]?=À (q,P)->Ps[j]?=À P:=λj q P hj=>by unfold fM at hj;rw[acy]at hj;show hj.2
 have R:ar ⟨prog,w,Ŀ s.heap Ps,fM (ó p) Ps,Q8 C0 C1 C2⟩ Ps ((fM (ó p) Ps).map λt=>.tab t.1) s.heap:=by show⟨λb o e=>of_hideAll Ps e,λa ha=>hideAll_none Ps ha,by rw[H',SY],MS,λi a m h1 h2=>?_,λj q P hj=>⟨PV j q P hj,by rw[Ġ,hj];rfl⟩⟩;rw[Ġ,ϱ]at h2;obtain ⟨⟨q,P⟩,h2,rfl⟩:=h2;apply aY (Option.some.inj ((PV i q P h2).symm.trans h1));show .tab (hT _ (ģ h1)).1 trivial λpos cv e=>no (e)
 have jd:(Ŀ s.heap Ps).IsList a vs.toArray:=by show eJ hl λo e ff jS=>⟨o,hideAll_get Ps e λhm=>?_,ff,jS⟩;have:=(hT a hm).1;rw[e]at this;cases this;cases ff
 show ä (h ((fM (ó p) Ps).map λt=>.tab t.1)) λae O7=>?_;have:=CB Ea ⟨_,_,fs,mg,mb,P⟩ G Zc Zd d hd k [.ro ns] _ (.bool Æ) ae O7 fn lU Ps s [.ref a] R (.cons (.ro jd hz hv) .nil) E;rw[Rw]at this;show Ï this (λv s' hp=>?_) λz z x=>x;obtain ⟨aS,S,R',V',T'⟩:=hp;cases V';show hQ s' (PC (λb o e hb=>R'.base b o (hideAll_get Ps e hb)) hT λP hP=>ä (adb hP) λj hj=>?_) T'.1 T'.2.2;have ZY:j<(fM (ó p) Ps).length:=by rw[SY];show(Ğ.mp hj).1
 obtain ⟨⟨q,P'⟩,hq⟩:∃t,(fM (ó p) Ps)[j]?=À t:=⟨_,N' ZY⟩;apply fR (Option.some.inj ((PV j q P' hq).symm.trans hj));show aQ (R'.tabs j q P' hq) λk1 k2=>?_;cases R'.objs j P' _ k1 k2 with
 |tab h1 _ _=>show⟨_,h1⟩
theorem KM{p q:ö}{loose:List Str}{Xt:Å->Bool}{α:Type}{Yf:Å->α}{Ya:World->α}{pzJ:Nat}{g0:Bool}
  (e:opening p=plainProg p.main.scope.names) (hN:Nat.ble 600 pzJ=Æ) (f:∀s,fenceModules? p s=À s)
  (run:∀w os,(topFrom treeTable p w pzJ ⟨boot_heap w.params,Array.mk [],boot_drawn,boot_toks,os⟩).map (λs=>(openSeen q loose (importedModules p.main.body) Xt g0 s,Yf s))=À (openGood q loose,Ya w)) :
  LeftO p q loose Xt Yf Ya pzJ g0:=λw=>by
 show aE (ϱ.mp (boot_open e hN f w)) λs e1 e2=>?_;have q:=Prod.mk.inj e2;have q2:=Prod.mk.inj q.2;have q3:=Prod.mk.inj q2.2
 have es:s=⟨boot_heap w.params,Array.mk [],boot_drawn,boot_toks,s.os⟩:=by show Shared.mk s.heap s.gens s.drawn s.toks s.os=_;rw[q.1,q2.1,q3.1,q3.2]
 unfold openEnds;rw[e1,es];show run w s.os
theorem PX{p q:ö}{loose SB:List Str}{w:World}{pzJ:Nat}{s:Å}{Xt:Å->Bool}{g0:Bool}{α:Type}{Yf:Å->α}:
  (topFrom treeTable p w pzJ s).map (λs=>(openSeen q loose SB Xt g0 s,Yf s)) =
  (match s.heap.isNs Ü&&s.gens.size==0 with
  |true=>(PySem.W.Fast.tw14082659384304107361 PySem.W.Fast.tw14364793385576792824 p w s.heap.objs.size (s.heap.nsMap Ü "__annotations__") pzJ s (topStub p)).bind λÌ=>match staticsOk (importedModules p.main.body) s.heap Ì.heap&&namesBound p Ì.heap&&gensDone Ì&&laidKept s.heap Ì.heap with
   |true=>À Ì
   |false=>Ã
  |false=>Ã).map (λs=>(PySem.W.Fast.tw4187177175401517315 q loose SB Xt g0 s,Yf s)):=by
 rw[<-PySem.W.Fast.te14082659384304107361,<-PySem.W.Fast.te14364793385576792824,<-PySem.W.Fast.te4187177175401517315];rfl
end L.Lake
namespace L.Lake
open PySem
noncomputable abbrev xv(i:Nat):CE:=.var i
noncomputable abbrev xn(i:Int):CE:=.cst (.int i)
noncomputable abbrev xz(s:Str):CE:=.cst (.str s)
noncomputable abbrev xA(a b:CE):CE:=.bin .Add a b
noncomputable abbrev xS(a b:CE):CE:=.bin .Sub a b
noncomputable abbrev xM(a b:CE):CE:=.bin .Mult a b
noncomputable abbrev xD(a b:CE):CE:=.bin .FloorDiv a b
noncomputable abbrev xR(a b:CE):CE:=.bin .Mod a b
noncomputable abbrev xE(a b:CE):CE:=.cmp .Eq a b
noncomputable abbrev xN(a b:CE):CE:=.cmp .NotEq a b
noncomputable abbrev xL(a b:CE):CE:=.cmp .Lt a b
noncomputable abbrev xLE(a b:CE):CE:=.cmp .LtE a b
noncomputable abbrev xG(a b:CE):CE:=.cmp .Gt a b
noncomputable abbrev LZ(a b:CE):CE:=.cmp .GtE a b
noncomputable abbrev xI(a b:CE):CE:=.cmp .Is a b
noncomputable abbrev xIN(a b:CE):CE:=.cmp .IsNot a b
noncomputable abbrev a1(a:CE):gG:=.cons a .nil
abbrev a2(a b:CE):gG:=.cons a (a1 b)
abbrev a3(a b c:CE):gG:=.cons a (a2 b c)
abbrev a4(a b c d:CE):gG:=.cons a (a3 b c d)
abbrev xi(a:CE)(i:Int):CE:=.idx a (xn i)
abbrev xu(a:Nat)(i:Int):CE:=xi (.var a) i
noncomputable abbrev sa(i:Nat)(e:CE):CS:=.assign (.one i) e
abbrev ap(i:Nat)(e:CE):CS:=.expr (.meth .append (.var i) (a1 e))
noncomputable abbrev il(c:CE)(t:fv):CS:=.ite c t .nil
noncomputable abbrev fr(i:Nat)(e:CE)(t:fv):CS:=.for_ (.one i) (.ex e) t
noncomputable abbrev cU(a:CS):fv:=.cons a .nil
abbrev u3(a b:CS):fv:=.cons a (cU b)
abbrev rt(a b c:CS):fv:=.cons a (u3 b c)
abbrev DB(a b c d:CS):fv:=.cons a (rt b c d)
abbrev Qr(a b c d e:CS):fv:=.cons a (DB b c d e)
abbrev SL(a b c d e f:CS):fv:=.cons a (Qr b c d e f)
def zm:bq:=⟨1,(rt (sa 1 .dict0) (fr 2 (xv 0) (cU (.for_ (.two 3 4) (.ex (xu 2 1)) (cU (.setItem (xv 1) (xv 3) (.cst (.bool Æ))))))) (.ret (.prim .tuple (a1 (.prim .sorted (a1 (xv 1)))))))⟩
def J6:bq:=⟨2,(rt (sa 2 (xM (.list (a1 (xn 0))) (xn 7))) (.for_ (.two 3 4) (.ex (xv 0)) (cU (.for_ (.two 5 6) (.ex (xv 4)) (cU (il (xE (xv 5) (xv 1)) (cU (.setItem (xv 2) (xS (xv 3) (xn 1)) (xA (.idx (xv 2) (xS (xv 3) (xn 1))) (xv 6))))))))) (.ret (.prim .tuple (a1 (xv 2)))))⟩
def CP:bq:=⟨1,(cU (.ret (.prim .tuple (a1 (.comp (.prim .sum (a1 (.slc (xv 0) (xv 1) (.cst .none)))) (.one 1) (.rng1 (xn 7)) .nil)))))⟩
def ua:bq:=⟨4,(u3 (sa 4 (.comp (xv 5) (.two 5 6) (.enm (xv 0)) (a1 (.and (xE (xu 6 0) (xv 2)) (.and (LZ (xu 6 2) (xv 3)) (xG (.idx (xv 1) (xv 5)) (xn 0))))))) (.ret (.sortK (.ex (xv 4)) 5 (.pair (.idx (.idx (.var 0) (.var 5)) (.num 2)) (.var 5)))))⟩
def CX:bq:=⟨4,(Qr (sa 4 (.list .nil)) (.assign (.two 5 6) (xv 2)) (fr 7 (.call 3 (a4 (xv 0) (xv 1) (xv 5) (xv 3))) (cU (il (xG (xv 6) (xn 0)) (DB (sa 8 (.prim .min2 (a2 (xv 6) (.idx (xv 1) (xv 7))))) (.setItem (xv 1) (xv 7) (xS (.idx (xv 1) (xv 7)) (xv 8))) (sa 6 (xS (xv 6) (xv 8))) (ap 4 (.tuple (a2 (xv 7) (xv 8)))))))) (il (xG (xv 6) (xn 0)) (cU (.raise_ 2 (xv 5)))) (.ret (xv 4)))⟩
def J4:bq:=⟨2,(DB (sa 2 (.comp (xu 9 1) (.one 9) (.ex (xv 1)) .nil)) (sa 3 (xM (.list (a1 (.tuple .nil))) (.prim .len (a1 (xv 0))))) (fr 4 (.sortK (.rng1 (.prim .len (a1 (xv 0)))) 9 (.idx (.idx (.var 0) (.var 9)) (.num 0))) (DB (.assign (.two 5 6) (.idx (xv 0) (xv 4))) (sa 7 (.list .nil)) (fr 8 (xv 6) (cU (.expr (.meth .extend (xv 7) (a1 (.call 4 (a4 (xv 1) (xv 2) (xv 8) (xv 5)))))))) (.setItem (xv 3) (xv 4) (.prim .tuple (a1 (xv 7)))))) (.ret (.prim .tuple (a1 (xv 3)))))⟩
def Ri:bq:=⟨2,(Qr (sa 2 (xM (.list (a1 (xn 0))) (.prim .len (a1 (xv 0))))) (fr 3 (xv 1) (cU (.for_ (.two 4 5) (.ex (xv 3)) (cU (.setItem (xv 2) (xv 4) (xA (.idx (xv 2) (xv 4)) (xv 5))))))) (sa 6 (.list .nil)) (.for_ (.two 4 7) (.enm (xv 0)) (u3 (sa 8 (xS (xu 7 1) (.idx (xv 2) (xv 4)))) (.ite (xL (xu 7 2) (xn 7)) (cU (ap 6 (.tuple (a3 (.idx (xv 2) (xv 4)) (xv 8) (xn 0))))) (cU (ap 6 (.tuple (a3 (.idx (xv 2) (xv 4)) (xn 0) (xv 8)))))))) (.ret (.prim .tuple (a1 (xv 6)))))⟩
def Rj:bq:=⟨2,(rt (sa 2 (.list .nil)) (.for_ (.one 3) (.rng2 (xn 1) (xA (xn 7) (xn 1))) (cU (ap 2 (.prim .sum (a1 (.comp (xu 4 1) (.one 4) (.ex (xv 0)) (a1 (.and (xE (xu 4 0) (xv 1)) (LZ (xu 4 2) (xv 3)))))))))) (.ret (.prim .tuple (a1 (xv 2)))))⟩
def F6:bq:=⟨3,(rt (sa 3 (.call 2 (a1 (.call 1 (a2 (xv 0) (xv 2)))))) (sa 4 (.call 7 (a2 (xv 1) (xv 2)))) (.ret (.prim .tuple (a1 (.comp (.prim .max2 (a2 (xn 0) (xS (.idx (xv 3) (xv 5)) (.idx (xv 4) (xv 5))))) (.one 5) (.rng1 (xn 7)) .nil)))))⟩
def zh:bq:=⟨2,(cU (.ret (xE (.prim .min2 (a2 (xu 0 2) (xn 7))) (xv 1))))⟩
def CQ:bq:=⟨4,(u3 (il (xE (xv 2) (xn 7)) (cU (.ret (.ite (xE (xv 3) (xn 0)) (xn 0) (.cst .none))))) (.ret (.idx (.idx (xv 0) (xA (xv 2) (xn 1))) (.prim .max2 (a2 (xv 3) (.idx (xv 1) (xv 2)))))))⟩
def wA:bq:=⟨3,(rt (sa 3 (.idx (xv 0) (.prim .max2 (a2 (xn 0) (xS (xv 2) (xu 1 0)))))) (il (xI (xv 3) (.cst .none)) (cU (.ret (.cst .none)))) (.ret (xA (xv 3) (xu 1 1))))⟩
def J9:bq:=⟨4,(DB (sa 4 (.comp (xv 8) (.one 8) (.ex (xv 0)) (a1 (.call 9 (a2 (xv 8) (xv 3)))))) (sa 5 (.list (a1 (.call 10 (a4 (xv 2) (xv 1) (xv 3) (xn 0)))))) (.for_ (.one 6) (.rng2 (xn 1) (xA (.prim .max1 (a1 (xv 1))) (xn 1))) (u3 (sa 7 (xA (.list (a1 (.call 10 (a4 (xv 2) (xv 1) (xv 3) (xv 6))))) (.comp (.call 11 (a3 (xv 5) (xv 8) (xv 6))) (.one 8) (.ex (xv 4)) .nil))) (ap 5 (.prim .minD (a1 (.comp (xv 8) (.one 8) (.ex (xv 7)) (a1 (xIN (xv 8) (.cst .none))))))))) (.ret (.prim .tuple (a1 (xv 5)))))⟩
def ud:bq:=⟨2,(rt (sa 2 .dict0) (.for_ (.one 3) (.rng1 (xn 7)) (u3 (sa 4 (xS (xn 7) (xv 3))) (.setItem (xv 2) (xv 4) (.call 12 (a4 (xv 0) (xv 1) (xv 2) (xv 4)))))) (.ret (xv 2)))⟩
def ub:bq:=⟨4,(u3 (.for_ (.two 4 5) (.enm (xv 0)) (cU (il (.and (.call 9 (a2 (xv 5) (xv 2))) (xE (.call 11 (a3 (xv 1) (xv 5) (xv 3))) (.idx (xv 1) (xv 3)))) (cU (.ret (xv 4)))))) (.ret (.cst .none)))⟩
def J3:bq:=⟨2,(.cons (sa 2 (.call 13 (a2 (xv 0) (xv 1)))) (SL (sa 3 (xn 1)) (sa 4 (xu 1 0)) (il (xI (.idx (.idx (xv 2) (xv 3)) (xv 4)) (.cst .none)) (cU (.ret (.cst .none)))) (sa 5 (xM (.list (a1 (xn 0))) (.prim .len (a1 (xv 0))))) (.while_ (xLE (xv 3) (xn 7)) (cU (.ite (xE (.idx (.idx (xv 2) (xv 3)) (xv 4)) (.call 10 (a4 (xv 2) (xv 1) (xv 3) (xv 4)))) (u3 (il (xL (xv 3) (xn 7)) (cU (sa 4 (.prim .max2 (a2 (xv 4) (.idx (xv 1) (xv 3))))))) (sa 3 (xA (xv 3) (xn 1)))) (rt (sa 6 (.call 14 (a4 (xv 0) (.idx (xv 2) (xv 3)) (xv 3) (xv 4)))) (.setItem (xv 5) (xv 6) (xA (.idx (xv 5) (xv 6)) (xn 1))) (sa 4 (.prim .max2 (a2 (xn 0) (xS (xv 4) (xi (.idx (xv 0) (xv 6)) 0))))))))) (.ret (.prim .tuple (a1 (xv 5))))))⟩
def zf:bq:=⟨4,(Qr (il (xG (.prim .sum (a1 (.call 1 (a2 (xv 0) (xv 3))))) (xn 200)) (cU (.raise_ 1 (xv 3)))) (sa 4 (.comp (xv 6) (.two 6 7) (.enm (xv 2)) (a1 (xE (xu 7 0) (xv 3))))) (sa 5 (.call 15 (a2 (.prim .tuple (a1 (.comp (.slc (.idx (xv 2) (xv 6)) (xn 1) (.cst .none)) (.one 6) (.ex (xv 4)) .nil))) (.call 8 (a3 (xv 0) (xv 1) (xv 3)))))) (il (xI (xv 5) (.cst .none)) (cU (.raise_ 2 (xv 3)))) (.ret (.zipl (xv 4) (xv 5))))⟩
def Ge:bq:=⟨3,(rt (sa 3 (xM (.list (a1 (xn 0))) (.prim .len (a1 (xv 2))))) (fr 4 (.call 0 (a1 (xv 0))) (cU (.for_ (.two 5 6) (.ex (.call 16 (a4 (xv 0) (xv 1) (xv 2) (xv 4)))) (cU (.setItem (xv 3) (xv 5) (xv 6)))))) (.ret (.prim .tuple (a1 (xv 3)))))⟩
def Gf:bq:=⟨3,(rt (sa 3 (.prim .list (a1 (xv 0)))) (.for_ (.two 4 5) (.zip (xv 1) (xv 2)) (cU (.for_ (.one 6) (.rng1 (xv 5)) (cU (ap 3 (.tuple (a3 (xu 4 0) (xu 4 1) (xu 4 3)))))))) (.ret (.prim .tuple (a1 (xv 3)))))⟩
def Rm:bq:=⟨3,(DB (sa 3 (.call 17 (a3 (xv 0) (xv 1) (xv 2)))) (sa 4 (.call 18 (a3 (xv 1) (xv 2) (xv 3)))) (sa 5 (.call 5 (a2 (xv 0) (xv 4)))) (.ret (.tuple (a4 (xv 3) (xv 4) (xv 5) (.call 6 (a2 (xv 4) (xv 5)))))))⟩
def oQ:bq:=⟨1,(DB (sa 1 (.list .nil)) (sa 2 (xn 1)) (fr 3 (xv 0) (u3 (sa 2 (xR (xA (xA (xM (xv 2) (xn 6364136223846793005)) (xv 3)) (xn 1442695040888963407)) (xn 1000000000000000003))) (ap 1 (xv 2)))) (.ret (xv 1)))⟩
def iX:bq:=⟨2,(u3 (il (xL (xv 1) (.prim .len (a1 (xv 0)))) (cU (.ret (.idx (xv 0) (xv 1))))) (.ret (xM (xM (xA (xv 1) (xn 3)) (xA (xv 1) (xn 7))) (xn 7919))))⟩
def sO:bq:=⟨2,(u3 (sa 2 (xR (xA (xA (xv 0) (xM (xn 104729) (xv 1))) (xM (xM (xn 7919) (xv 1)) (xv 1))) (xn 998244353))) (.ret (xR (xM (xR (xM (xv 2) (xv 2)) (xn 998244353)) (xn 1000003)) (xn 998244353))))⟩
def wn:bq:=⟨1,(cU (.ret (.and (.prim .isInt (a1 (xv 0))) (.not (.prim .isBool (a1 (xv 0)))))))⟩
def r0:bq:=⟨2,(rt (il (.or (.not (.prim .isTuple (a1 (xv 0)))) (xN (.prim .len (a1 (xv 0))) (.prim .len (a1 (xv 1))))) (cU (.ret (.cst (.bool Ê))))) (.for_ (.one 2) (.rng1 (.prim .len (a1 (xv 1)))) (cU (il (.or (.not (.call 23 (a1 (.idx (xv 0) (xv 2))))) (xN (.idx (xv 0) (xv 2)) (.idx (xv 1) (xv 2)))) (cU (.ret (.cst (.bool Ê))))))) (.ret (.cst (.bool Æ))))⟩
def iY:bq:=⟨2,(.cons (sa 2 (xz "abcdefghijklmnopqrstuvwxyz")) (.cons (sa 3 (.list (.cons (xz "total") (.cons (xz "day") (.cons (xz "flour") (.cons (xz "salt") (.cons (xz "left") (.cons (xz "used") (.cons (xz "short") (a4 (xz "salts") (xz "a") (xz "z") (xz "oil"))))))))))) (.cons (sa 4 (xD (xv 0) (xn 6))) (.cons (il (.and (xE (xR (xv 0) (xn 6)) (xn 0)) (xL (xv 1) (xn 4))) (cU (.ret (.idx (xv 3) (xR (xA (xv 4) (xv 1)) (xn 11)))))) (.cons (sa 5 (xz "")) (.cons (sa 6 (xD (xv 4) (xn 7))) (SL (.for_ (.one 7) (.rng1 (xA (xn 1) (xR (xv 4) (xn 7)))) (u3 (sa 6 (xA (xA (xv 6) (xn 1)) (xR (xD (xv 4) (xn 182)) (xn 25)))) (sa 5 (xA (xv 5) (.idx (xv 2) (xR (xv 6) (xn 26))))))) (sa 8 (xR (xD (xv 4) (xn 4550)) (.prim .len (a1 (xv 5))))) (il (xG (xv 1) (xn 3)) (u3 (sa 9 (xA (.idx (xv 2) (xR (xA (xv 6) (xD (xv 1) (xn 26))) (xn 26))) (.idx (xv 2) (xR (xv 1) (xn 26))))) (.ret (xA (xA (.slc (xv 5) (.cst .none) (.prim .min2 (a2 (xv 8) (xn 6)))) (xv 9)) (.slc (xv 5) (.prim .min2 (a2 (xv 8) (xn 6))) (xn 6)))))) (il (xG (xR (xv 0) (xn 6)) (xn 3)) (cU (.ret (xA (.idx (xv 2) (xR (xA (xD (xv 4) (xn 7)) (xv 1)) (xn 26))) (xv 5))))) (il (xE (xv 1) (xn 1)) (u3 (sa 10 (.idx (xv 2) (xR (xA (.meth .find (xv 2) (a1 (.idx (xv 5) (xv 8)))) (xn 1)) (xn 26)))) (.ret (xA (xA (.slc (xv 5) (.cst .none) (xv 8)) (xv 10)) (.slc (xv 5) (xA (xv 8) (xn 1)) (.cst .none)))))) (.ret (xA (xv 5) (.idx (.list (a4 (xz "") (xz "") (.idx (xv 2) (xR (xv 6) (xn 26))) (.idx (xv 2) (xR (xA (xv 6) (xn 1)) (xn 26))))) (xv 1)))))))))))⟩
def mL:bq:=⟨2,(DB (sa 2 (xR (xv 0) (xn 8))) (il (xE (xv 2) (xn 0)) (cU (.ret (xA (xn 1) (xR (xD (xv 0) (xn 8)) (xv 1)))))) (il (xE (xv 2) (xn 1)) (cU (.ret (xA (xn 1) (xR (xD (xv 0) (xn 8)) (xn 60)))))) (.ret (xA (xn 1) (xR (xD (xv 0) (xn 8)) (xn 12)))))⟩
def qt:bq:=⟨1,(rt (il (xE (xR (xv 0) (xn 6)) (xn 0)) (cU (.ret (xA (xn 1) (xR (xD (xv 0) (xn 6)) (xn 99)))))) (il (xL (xR (xv 0) (xn 6)) (xn 3)) (cU (.ret (xA (xn 7) (xR (xD (xv 0) (xn 6)) (xn 2)))))) (.ret (xA (xn 1) (xR (xD (xv 0) (xn 6)) (xn 9)))))⟩
def t4:bq:=⟨3,(rt (sa 3 (.list .nil)) (.for_ (.one 4) (.rng1 (xv 2)) (Qr (sa 5 (.call 22 (a2 (.call 21 (a2 (xv 0) (xA (xn 3) (xR (xv 4) (xn 20))))) (xv 4)))) (sa 6 (.list .nil)) (sa 7 (.idx (.list (a2 (xR (xD (xv 5) (xn 7)) (xn 4)) (xR (xD (xv 5) (xn 7)) (xn 21)))) (.prim .int (a1 (.and (xE (xR (xD (xv 5) (xn 147)) (xn 40)) (xn 0)) (xL (xv 4) (xn 2))))))) (.for_ (.one 8) (.rng1 (xv 7)) (DB (sa 9 (.call 22 (a2 (xD (xv 5) (xn 28)) (xA (xv 8) (xn 1))))) (sa 10 (xA (xn 1) (xR (xD (xv 9) (xn 60)) (xn 12)))) (il (xE (xR (xD (xv 9) (xn 720)) (xn 40)) (xn 0)) (cU (sa 10 (.call 26 (a2 (xD (xv 9) (xn 28800)) (xn 200)))))) (ap 6 (.tuple (a2 (.call 25 (a2 (xu 1 0) (xR (xR (xv 9) (xn 60)) (xu 1 1)))) (xv 10)))))) (ap 3 (.tuple (a2 (xA (xn 1) (xR (xv 5) (xn 7))) (.prim .tuple (a1 (xv 6)))))))) (.ret (.prim .tuple (a1 (xv 3)))))⟩
def t5:bq:=⟨3,(rt (sa 3 (.list .nil)) (.for_ (.one 4) (.rng1 (xv 2)) (rt (sa 5 (.call 22 (a2 (.call 21 (a2 (xv 0) (xA (xn 23) (xR (xv 4) (xn 10))))) (xA (xn 40) (xv 4))))) (sa 6 (.call 22 (a2 (xv 5) (xv 4)))) (ap 3 (.tuple (a3 (.call 25 (a2 (xu 1 0) (xR (xR (xv 5) (xn 60)) (xu 1 1)))) (.call 26 (a2 (xD (xv 5) (xn 60)) (xn 200))) (.call 27 (a1 (xv 6)))))))) (.ret (.prim .tuple (a1 (xv 3)))))⟩
def oR:bq:=⟨1,(rt (il (xE (xR (xv 0) (xn 9)) (xn 0)) (cU (.ret (xR (xD (xv 0) (xn 9)) (xn 1000001))))) (il (xE (xR (xv 0) (xn 9)) (xn 1)) (cU (.ret (xn 0)))) (.ret (xR (xD (xv 0) (xn 9)) (xn 30))))⟩
def wl:bq:=⟨3,(rt (sa 3 (.list .nil)) (.for_ (.one 4) (.rng1 (xv 2)) (DB (sa 5 (.call 22 (a2 (.call 21 (a2 (xv 0) (xA (xn 33) (xR (xv 4) (xn 10))))) (xA (xn 80) (xv 4))))) (sa 6 (.call 22 (a2 (xv 5) (xA (xv 4) (xn 1))))) (sa 7 (.call 25 (a2 (xu 1 0) (xR (xR (xv 5) (xn 60)) (xu 1 1))))) (ap 3 (.tuple (a4 (xv 7) (.call 26 (a2 (xD (xv 5) (xn 60)) (xn 200))) (.call 30 (a1 (xv 6))) (.call 27 (a1 (xD (xv 6) (xn 997))))))))) (.ret (.prim .tuple (a1 (xv 3)))))⟩
def wk:bq:=⟨1,(DB (sa 1 (.call 21 (a2 (xv 0) (xn 0)))) (sa 2 (.idx (.list (a4 (xn 1) (xn 2) (xn 3) (xn 4))) (xR (.call 21 (a2 (xv 0) (xn 1))) (xn 4)))) (il (xE (xR (xD (.call 21 (a2 (xv 0) (xn 1))) (xn 4)) (xn 16)) (xn 0)) (cU (sa 2 (xn 12)))) (.ret (.list (a2 (xv 1) (xv 2)))))⟩
def qu:bq:=⟨3,(u3 (il (xE (xR (xv 0) (xn 24)) (xn 0)) (cU (.ret (xR (xD (xv 0) (xn 24)) (xA (xv 2) (xn 1)))))) (.ret (xR (xD (xv 0) (xn 24)) (xA (xv 1) (xn 1)))))⟩
def wj:bq:=⟨3,(rt (sa 3 (.list .nil)) (.for_ (.one 4) (.rng2 (xn 1) (xn 8)) (DB (sa 5 (xn 0)) (fr 6 (xv 0) (cU (il (LZ (xu 6 0) (xv 4)) (cU (sa 5 (xA (xv 5) (.prim .sum (a1 (.comp (xu 8 1) (.one 8) (.ex (xu 6 1)) (a1 (xE (xu 8 0) (xv 2)))))))))))) (fr 7 (xv 1) (cU (il (.and (xE (xu 7 0) (xv 2)) (LZ (xu 7 2) (xv 4))) (cU (sa 5 (xS (xv 5) (xu 7 1))))))) (ap 3 (.prim .max2 (a2 (xn 0) (xv 5)))))) (.ret (xv 3)))⟩
def t6:bq:=⟨2,(rt (sa 2 (xn 0)) (fr 3 (xv 0) (cU (sa 2 (xA (xv 2) (.prim .sum (a1 (.comp (xu 4 1) (.one 4) (.ex (xu 3 1)) (a1 (xE (xu 4 0) (xv 1)))))))))) (.ret (xv 2)))⟩
def t7:bq:=⟨1,(rt (sa 1 .dict0) (fr 2 (xv 0) (cU (fr 3 (xu 2 1) (cU (.setItem (xv 1) (xu 3 0) (.cst (.bool Æ))))))) (.ret (.prim .sorted (a1 (xv 1)))))⟩
def CO:bq:=⟨3,(u3 (fr 3 (.call 36 (a1 (xv 0))) (rt (il (xG (.call 35 (a2 (xv 0) (xv 3))) (xn 200)) (cU (.ret (.list (.cons (.cst (.bool Æ)) (a4 (.cst (.bool Ê)) (.cst (.bool Ê)) (.cst (.bool Æ)) (xv 3))))))) (sa 4 (.call 34 (a3 (xv 0) (xv 1) (xv 3)))) (.for_ (.one 5) (.rng2 (xn 1) (xn 8)) (u3 (sa 6 (.comp (xv 7) (.one 7) (.ex (xv 2)) (a1 (.and (xE (xu 7 0) (xv 3)) (LZ (xu 7 3) (xv 5)))))) (il (.and (xG (.idx (xv 4) (xS (xv 5) (xn 1))) (xn 0)) (xE (xv 6) (.list .nil))) (cU (.ret (.list (.cons (.cst (.bool Ê)) (a4 (.cst (.bool Æ)) (.cst (.bool Ê)) (.cst (.bool Æ)) (xv 3))))))))))) (.ret (.list .nil)))⟩
def wi:bq:=⟨1,(cU (.ret (.list (.cons (.isC 1 (xv 0)) (a4 (.isC 2 (xv 0)) (.cst (.bool Ê)) (.isC 3 (xv 0)) (.word (xv 0)))))))⟩
def wm:bq:=⟨3,(cU (.try_ (cU (.ret (.list (a2 (.call 19 (a3 (xv 0) (xv 1) (xv 2))) (.list .nil))))) 3 (cU (.ret (.list (a2 (.cst .none) (.call 38 (a1 (xv 3)))))))))⟩
def ze:bq:=⟨3,(SL (sa 3 (xS (xA (xn 199) (xR (xv 2) (xn 3))) (.call 35 (a2 (xv 0) (xv 1))))) (il (xL (xv 3) (xn 2)) (cU (.ret (xv 0)))) (sa 4 (xA (xn 1) (xR (xD (xv 2) (xn 3)) (xS (xv 3) (xn 1))))) (sa 5 (.tuple (a2 (.tuple (a2 (xA (xn 1) (xR (xD (xv 2) (xn 600)) (xn 7))) (.tuple (a1 (.tuple (a2 (xv 1) (xv 4))))))) (.tuple (a2 (xA (xn 1) (xR (xD (xv 2) (xn 4200)) (xn 7))) (.tuple (a1 (.tuple (a2 (xv 1) (xS (xv 3) (xv 4))))))))))) (sa 6 (xR (xD (xv 2) (xn 30000)) (xA (.prim .len (a1 (xv 0))) (xn 1)))) (.ret (xA (xA (.slc (xv 0) (.cst .none) (xv 6)) (xv 5)) (.slc (xv 0) (xv 6) (.cst .none)))))⟩
def wq:bq:=⟨1,(.cons (sa 1 (.call 32 (a1 (xv 0)))) (.cons (sa 2 (.call 21 (a2 (xv 0) (xn 2)))) (.cons (sa 3 (.call 28 (a3 (xv 0) (xv 1) (.call 33 (a3 (xv 2) (xn 5) (xn 24)))))) (.cons (sa 4 (.call 29 (a3 (xv 0) (xv 1) (.call 33 (a3 (xD (xv 2) (xn 1500)) (xn 5) (xn 120)))))) (SL (sa 5 (.call 31 (a3 (xv 0) (xv 1) (xR (xD (xv 2) (xn 60000)) (xn 6))))) (sa 5 (.prim .tuple (a1 (.comp (xA (.tuple (a2 (xu 9 0) (.prim .max2 (a2 (xn 4) (xu 9 1))))) (.slc (xv 9) (xn 2) (.cst .none))) (.one 9) (.ex (xv 5)) .nil)))) (sa 6 (xD (xv 2) (xn 700000))) (il (.and (xG (xR (xv 6) (xn 3)) (xn 0)) (xL (xu 1 1) (xn 5))) (cU (.for_ (.one 7) (.rng1 (xu 1 1)) (u3 (sa 8 (.call 25 (a2 (xu 1 0) (xv 7)))) (sa 5 (xA (xv 5) (.tuple (a1 (.tuple (a4 (xv 8) (xA (xn 4) (xR (xA (xD (xv 6) (xn 3)) (xv 7)) (xn 17))) (xA (xR (xD (xv 6) (xn 60)) (xn 50)) (xv 7)) (xA (xn 7) (xR (xv 7) (xn 3))))))))))))) (il (xE (xR (xD (xv 6) (xn 9000)) (xn 9)) (xn 0)) (cU (sa 3 (.call 40 (a3 (xv 3) (.call 25 (a2 (xu 1 0) (xR (xD (xv 6) (xn 81000)) (xu 1 1)))) (xD (xv 6) (xn 1000000))))))) (.ret (.list (a3 (xv 3) (xv 4) (xv 5)))))))))⟩
def r1:bq:=⟨3,(u3 (.for_ (.one 3) (.rng1 (.prim .len (a1 (xv 1)))) (cU (.for_ (.one 4) (.rng1 (.idx (xv 2) (xv 3))) (cU (sa 0 (xA (xv 0) (.tuple (a1 (.tuple (a3 (xi (.idx (xv 1) (xv 3)) 0) (xi (.idx (xv 1) (xv 3)) 1) (xi (.idx (xv 1) (xv 3)) 3))))))))))) (.ret (xv 0)))⟩
def pv:bq:=⟨4,(Qr (sa 4 .dict0) (fr 5 (xv 1) (DB (il (.or (.not (.prim .isTuple (a1 (xv 5)))) (.or (xN (.prim .len (a1 (xv 5))) (xn 2)) (.or (.not (.call 23 (a1 (xu 5 0)))) (.not (.call 23 (a1 (xu 5 1))))))) (cU (.ret (.cst (.bool Ê))))) (il (.or (xL (xu 5 0) (xn 0)) (.or (LZ (xu 5 0) (.prim .len (a1 (xv 2)))) (.or (xL (xu 5 1) (xn 1)) (xL (xi (.idx (xv 2) (xu 5 0)) 2) (xu 0 0))))) (cU (.ret (.cst (.bool Ê))))) (.setItem (xv 3) (xu 5 0) (xS (.idx (xv 3) (xu 5 0)) (xu 5 1))) (.setItem (xv 4) (xi (.idx (xv 2) (xu 5 0)) 0) (xA (.meth .get (xv 4) (a2 (xi (.idx (xv 2) (xu 5 0)) 0) (xn 0))) (xu 5 1))))) (sa 6 .dict0) (fr 7 (xu 0 1) (cU (.setItem (xv 6) (xu 7 0) (xA (.meth .get (xv 6) (a2 (xu 7 0) (xn 0))) (xu 7 1))))) (.ret (xE (xv 4) (xv 6))))⟩
def zd:bq:=⟨3,(rt (il (.or (.not (.prim .isTuple (a1 (xv 2)))) (xN (.prim .len (a1 (xv 2))) (.prim .len (a1 (xv 0))))) (cU (.ret (.cst (.bool Ê))))) (.for_ (.one 3) (.rng1 (.prim .len (a1 (xv 0)))) (rt (sa 4 (.list (a3 (xS (xi (.idx (xv 0) (xv 3)) 1) (.idx (xv 1) (xv 3))) (.idx (xv 1) (xv 3)) (xn 0)))) (il (xG (xi (.idx (xv 0) (xv 3)) 2) (xn 6)) (cU (sa 4 (.list (a3 (xS (xi (.idx (xv 0) (xv 3)) 1) (.idx (xv 1) (xv 3))) (xn 0) (.idx (xv 1) (xv 3))))))) (il (.or (xL (.idx (xv 1) (xv 3)) (xn 0)) (.not (.call 24 (a2 (.idx (xv 2) (xv 3)) (xv 4))))) (cU (.ret (.cst (.bool Ê))))))) (.ret (.cst (.bool Æ))))⟩
def Rl:bq:=⟨1,(.cons (sa 1 (.call 41 (a1 (.call 20 (a1 (xv 0)))))) (.cons (sa 2 (xu 1 0)) (.cons (sa 3 (.call 39 (a3 (xv 2) (xu 1 1) (xu 1 2)))) (.cons (sa 4 (.call 37 (a3 (xv 2) (xu 1 1) (xu 1 2)))) (.cons (il (.or (xN (xu 3 1) (xv 4)) (xN (xv 4) (.list .nil))) (cU (.ret (xE (xu 3 1) (xv 4))))) (.cons (sa 5 (xu 3 0)) (.cons (il (.or (.not (.prim .isTuple (a1 (xv 5)))) (xN (.prim .len (a1 (xv 5))) (xn 4))) (cU (.ret (.cst (.bool Ê))))) (.cons (il (.or (.not (.prim .isTuple (a1 (xu 5 0)))) (.not (.prim .isTuple (a1 (xu 5 2))))) (cU (.ret (.cst (.bool Ê))))) (SL (il (.or (xN (.prim .len (a1 (xu 5 0))) (.prim .len (a1 (xu 1 2)))) (xN (.comp (xv 8) (.one 8) (.ex (xu 5 0)) (a1 (.or (.not (.call 23 (a1 (xv 8)))) (xL (xv 8) (xn 0))))) (.list .nil))) (cU (.ret (.cst (.bool Ê))))) (il (.or (xN (xu 5 1) (.call 42 (a3 (xu 1 1) (xu 1 2) (xu 5 0)))) (xN (.prim .len (a1 (xu 5 2))) (.prim .len (a1 (xv 2))))) (cU (.ret (.cst (.bool Ê))))) (il (.or (xN (xu 5 0) (.call 17 (a3 (xv 2) (xu 1 1) (xu 1 2)))) (xN (xu 5 2) (.call 5 (a2 (xv 2) (xu 5 1))))) (cU (.ret (.cst (.bool Ê))))) (sa 6 (.comp (xu 8 1) (.one 8) (.ex (xu 5 1)) .nil)) (.for_ (.one 7) (.rng1 (.prim .len (a1 (xv 2)))) (cU (il (.or (.not (.prim .isTuple (a1 (.idx (xu 5 2) (xv 7))))) (.not (.call 43 (a4 (.idx (xv 2) (xv 7)) (.idx (xu 5 2) (xv 7)) (xu 5 1) (xv 6))))) (cU (.ret (.cst (.bool Ê))))))) (.ret (.call 44 (a3 (xu 5 1) (xv 6) (xu 5 3)))))))))))))⟩
def PP:List bq:=[zm,J6,CP,ua,CX,J4,Ri,Rj,F6,zh,CQ,wA,J9,ud,ub,J3,zf,Ge,Gf,Rm,oQ,iX,sO,wn,r0,iY,mL,qt,t4,t5,oR,wl,wk,qu,wj,t6,t7,CO,wi,wm,ze,wq,r1,pv,zd,Rl]
noncomputable def constsP:List (Str×Int):=[("DAYS",7),("MOST",200)]
def aF(H ae:ag):Prop:=∀(i:Nat) (o:bu),H[i]?=À o->ae[i]?=À o
theorem aF.refl(H:ag):aF H H:=λz z h=>h
theorem aF.trans{a b c:ag}(x:aF a b)(y:aF b c):aF a c:=λi o h=>y i o (x i o h)
theorem aF.app(H τ:ag):aF H (H++τ):=λi o h=>by rw[ϕ (Ğ.mp h).1];show h
theorem aF.set{H ae:ag}{r:Nat}{m:bu}(h:aF H ae)(hr:H.length<=r):aF H (ae.set r m):=λi o e=>by have hi:i<H.length:=(Ğ.mp e).1;rw[ab6 (by show λq0=>(by show zI (y3 0x1c080810b1011b0212b21 N (iL hr) (iT hi) (iE q0))))];show h i o e
theorem aF.len{H ae:ag}(h:aF H ae):H.length<=ae.length:=by
 show â (aeu ae.length H.length) (λhl=>?_) (λhl=>?_)
 ·have e:H[ae.length]?=À H[ae.length]:=N' hl
  have:=h _ _ e
  simp at this
 ·show hl
theorem pI{P:List bq}{d k:Nat}{f:bq}{as:List V}{H:ag}(hk:P[k]?=À f)(ha:as.length=f.arity):aC P (d+1) k as H=gw (aM (aC P d) f.body (bJ as) H):=by
 simp only[aC,hk,ab8,ha,if_true]
theorem Sh(a b:Int):(a==b)=decide (a=b):=by by_cases h:a=b<;>simp [h]
theorem db{a b:Int}(h:0<b):0<=a.fmod b/\a.fmod b<b:=⟨Int.fmod_nonneg_of_pos a h,Int.fmod_lt_of_pos a h⟩
theorem iF{a b:Int}(h:b.natAbs<18446744073709551616):te a b=Æ:=ab0.mpr (.inr (decide_eq_true h))
theorem E0{x:Int}{k:Nat}(h0:0<=x)(h1:x<k):x.natAbs<k:=ŧ.mp ((Int.natAbs_of_nonneg h0).symm▸h1)
noncomputable def Hl(x y:Int):Int:=((((((x+104729*y)+(7919*y)*y).fmod 998244353)*(((x+104729*y)+(7919*y)*y).fmod 998244353)).fmod 998244353)*1000003).fmod 998244353
noncomputable def cellF(cs:List Int)(k:Nat):Int:=match cs[k]? with|some x=>x|none=>((k:Int)+3)*((k:Int)+7)*7919
noncomputable def gM(x m:Int):Int:=if x.fmod 8=0 then 1+(x.fdiv 8).fmod m else if x.fmod 8=1 then 1+(x.fdiv 8).fmod 60 else 1+(x.fdiv 8).fmod 12
theorem SJ{x b:Int}(a:0<=x/\x<b)(hb:b<=200):1<=1+x/\1+x<=200:=⟨y1 0xca0181810b008 N a.1,Ĵ (ϭ 1 x▸a.2) hb⟩
theorem iR(x:Int):1<=gM x 200/\gM x 200<=200:=by
 have h {b:Int} (hb:0<b) (hb':b<=200):=SJ (db (a:=x.fdiv 8) hb) hb';unfold gM;by_cases h1:x.fmod 8=0
 ·rw[if_pos h1];show h (by decide) (by decide)
 ·rw[if_neg h1]
  by_cases h2:x.fmod 8=1
  ·rw[if_pos h2];show h (by decide) (by decide)
  ·rw[if_neg h2];show h (by decide) (by decide)
noncomputable def s0(x:Int):Int:=if x.fmod 6=0 then 1+(x.fdiv 6).fmod 99 else if x.fmod 6<3 then 7+(x.fdiv 6).fmod 2 else 1+(x.fdiv 6).fmod 9
theorem bj(H:ag):cA H []:=λz h=>nomatch h
theorem kF{H:ag}{r:Nat}{m:bu}(h:H[r]?=À m):cA H [(r,m)]:=λp hp=>by rw[W'.mp hp];show h
theorem az(H:ag)(m:bu):(H++[m])[H.length]?=À m:=by simp
theorem bM{α β:Type}{m:Option (α×ag)}{k:α->ag->Option β}{a:α}{H:ag}{r:Option β}(h:m=À (a,H))(e:k a H=r):bY m k=r:=by rw[h];show e
theorem tL{α β γ:Type}{m:Option (α×β×ag)}{k:α->β->ag->Option γ}{a:α}{b:β}{H:ag}{r:Option γ}(h:m=À (a,b,H))(e:k a b H=r):mE m k=r:=by rw[h];show e
theorem mG{β:Type}{m:Option (V×ag)}{k:Bool->ag->Option β}{a:Bool}{H:ag}{r:Option β}(h:m=À (.bool a,H))(e:k a H=r):lQ m k=r:=by rw[h];show e
theorem tM{β:Type}{m:Option (V×ag)}{k:Int->ag->Option β}{a:Int}{H:ag}{r:Option β}(h:m=À (.int a,H))(e:k a H=r):qf m k=r:=by rw[h];show e
theorem dI{α β:Type}{m:Option α}{k:α->Option β}{a:α}{r:Option β}(h:m=À a)(e:k a=r):m.bind k=r:=by rw[h];show e
theorem n5{Á:ax}{U:aJ}{H Î Û:ag}{a i:CE}{x y r:V}(ha:ab Á a U H=À (x,Î))(hi:ab Á i U Î=À (y,Û))(h:lE x y Û=À r):ab Á (.idx a i) U H=À (r,Û):=bM ha (bM hi (dI h N))
theorem kP{l:List V}{k:Int}{x:V}(mO:0<=k)(hx:l[k.toNat]?=À x):GM l (.int k)=À x:=(if_pos mO).trans hx
theorem bF{Á:ax}{U:aJ}{H Î Û:ag}{a i:CE}(r:Nat)(k:Int)(l:List V)(x:V)(ha:ab Á a U H=À (.ref r,Î))(hi:ab Á i U Î=À (.int k,Û))(hr:Û[r]?=À (.lst l))(mO:0<=k)(hx:l[k.toNat]?=À x):ab Á (.idx a i) U H=À (x,Û):=n5 ha hi (dI hr (kP mO hx))
theorem aP{Á:ax}{U:aJ}{H Î Û:ag}{a i:CE}(k:Int)(l:List V)(x:V)(ha:ab Á a U H=À (.tup l,Î))(hi:ab Á i U Î=À (.int k,Û))(mO:0<=k)(hx:l[k.toNat]?=À x):ab Á (.idx a i) U H=À (x,Û):=
 n5 ha hi (kP mO hx)
theorem af{Á:ax}{f:Nat}{as:gG}{U:aJ}{H Î Û:ag}{vs:List V}{v:V}(h:bP Á as U H=À (vs,Î))(hc:Á f vs Î=À (.ok v,Û)):ab Á (.call f as) U H=À (v,Û):=bM h (bM hc N)
theorem aK{Á:ax}{op:Operator}{a b:CE}{U:aJ}{H Î Û:ag}{x y:V}{r:Option (V×ag)}(ha:ab Á a U H=À (x,Î))(hb:ab Á b U Î=À (y,Û))(h:mD op x y Û=r):ab Á (.bin op a b) U H=r:=bM ha (bM hb h)
theorem km{x y:Int}{H:ag}(m:te x y=Æ):mD .Mult (.int x) (.int y) H=À (.int (x*y),H):=if_pos m
theorem dP{x y:Int}{H:ag}(m:y≠0):mD .Mod (.int x) (.int y) H=À (.int (x.fmod y),H):=by show (if y=0 then Ã else À (x.fmod y)).bind (λz=>À (V.int z,H))=_;rw[if_neg m];rfl
theorem FH{x y:Int}{H:ag}(m:y≠0)(m':y.natAbs<1073741824):mD .FloorDiv (.int x) (.int y) H=À (.int (x.fdiv y),H):=by show (if y=0\/1073741824<=y.natAbs then Ã else À (x.fdiv y)).bind (λz=>À (V.int z,H))=_;rw[if_neg (not_or.mpr ⟨m,ϖ.mpr m'⟩)];rfl
theorem bB{Á:ax}{op:CmpOp}{a b:CE}{U:aJ}{H Î Û:ag}{x y:V}{c:Bool}(ha:ab Á a U H=À (x,Î))(hb:ab Á b U Î=À (y,Û))(h:sH op x y Û=À c):ab Á (.cmp op a b) U H=À (.bool c,Û):=bM ha (bM hb (dI h N))
theorem lS{Á:ax}{a:CE}{U:aJ}{H Î:ag}{b:Bool}(ha:ab Á a U H=À (.bool b,Î)):ab Á (.not a) U H=À (.bool (!b),Î):=mG ha N
theorem yX{Á:ax}{a b:CE}{U:aJ}{H Î:ag}{r:Option (V×ag)}(ha:ab Á a U H=À (.bool Æ,Î))(hb:ab Á b U Î=r):ab Á (.and a b) U H=r:=mG ha hb
theorem t0{Á:ax}{a b:CE}{U:aJ}{H Î:ag}(ha:ab Á a U H=À (.bool Ê,Î)):ab Á (.and a b) U H=À (.bool Ê,Î):=mG ha N
theorem fx{Á:ax}{a b:CE}{U:aJ}{H Î:ag}{r:Option (V×ag)}(ha:ab Á a U H=À (.bool Ê,Î))(hb:ab Á b U Î=r):ab Á (.or a b) U H=r:=mG ha hb
theorem aO{Á:ax}{p:nT}{as:gG}{U:aJ}{H Î:ag}{vs:List V}{r:Option (V×ag)}(h:bP Á as U H=À (vs,Î))(hp:gE p vs Î=r):ab Á (.prim p as) U H=r:=bM h hp
theorem al{Á:ax}{e:CE}{U:aJ}{H Î:ag}{v:V}(h:ab Á e U H=À (v,Î)):bP Á (.cons e .nil) U H=À ([v],Î):=bM h N
theorem ay{Á:ax}{e:CE}{r:gG}{U:aJ}{H Î Û:ag}{v:V}{vs:List V}(h:ab Á e U H=À (v,Î))(hr:bP Á r U Î=À (vs,Û)):bP Á (.cons e r) U H=À (v::vs,Û):=bM h (bM hr N)
theorem aB{Á:ax}{i:Nat}{U:aJ}{H:ag}{v:V}(h:U i=À v):ab Á (.var i) U H=À (v,H):=dI h N
theorem eM{Á:ax}{elt:CE}{t:jQ}{it:jm}{ifs:gG}{U:aJ}{H Î Û:ag}{xs l:List V}{w:List (Nat×bu)}(hs:cD Á it U H=À (xs,w,Î))(hc:fX (ab Á elt) (cW Á ifs) t w xs U Î=À (l,Û))(hz:l.length<=aw):ab Á (.comp elt t it ifs) U H=À (.ref Û.length,Û++[.lst l]):=tL hs (bM hc (if_pos hz))
theorem Ii{H:ag}{r:Nat}{ns:List Int}{l:List V}(hr:H[r]?=À (.lst l))(hi:cB l=À ns):gE .sum [.ref r] H=À (.int (ns.foldl (·+·) 0),H):=(show ϡ (ϡ _ _) _=_ from dI (dI (cC hr) N) (dI hi N))
theorem gP{H:ag}(l:List V):gE .len [.tup l] H=À (.int l.length,H):=rfl
theorem bC{H:ag}{r:Nat}{l:List V}(hr:H[r]?=À (.lst l))(hz:l.length<=aw):gE .tuple [.ref r] H=À (.tup l,H):=(show ϡ (lst H r) _=_ from dI (cC hr) (if_pos hz))
def Le(a b:aJ):Prop:=∀i v,a i=À v->b i=À v
theorem Le.refl(a:aJ):Le a a:=λz z h=>h
theorem Le.trans{a b c:aJ}(x:Le a b)(y:Le b c):Le a c:=λi v h=>y i v (x i v h)
theorem Le.upd{a b:aJ}(x:Le a b)(i:Nat)(v:V):Le (cS a i v) (cS b i v):=λj w h=>by
 unfold L.Lake.cS at h ⊢;by_cases hj:j=i
 ·rw[if_pos hj]at h ⊢;show h
 ·rw[if_neg hj]at h ⊢;show x j w h
noncomputable def bN(l:List (Option V)):aJ:=λi=>(l[i]?).join
def p8(U:aJ):Nat->List (Option V)->Prop
 |_,[]=>True
 |i,Ã::r=>p8 U (i+1) r
 |i,À v::r=>U i=À v/\p8 U (i+1) r
theorem p8.get{U:aJ}:∀{l:List (Option V)} {k i:Nat} {v:V},p8 U k l->(l[i]?).join=À v->U (k+i)=À v
 |[],_,_,_,_,h=>by simp at h
 |none::r,k,0,_,_,h=>by simp at h
 |none::r,k,i+1,v,ha,h=>by
  have:=p8.get (k:=k+1) ha (by simpa using h)
  rwa [Ϸ]at this
 |some w::r,k,0,v,ha,h=>by
  obtain rfl:w=v:=by simpa using h
  show ha.1
 |some w::r,k,i+1,v,ha,h=>by
  have:=p8.get ha.2 (by simpa using h)
  rwa [Ϸ]at this
theorem ak{U:aJ}{l:List (Option V)}(h:p8 U 0 l):Le (bN l) U:=λi v e=>by
 have:=h.get e
 rwa [Ż]at this
theorem Af{t:jQ}{x:V}{a b a':aJ}(hl:Le a b)(h:t.put x a=À a'):∃b',t.put x b=À b'/\Le a' b':=by
 cases t with
 |one i=>apply dJ h;show⟨_,N,hl.upd _ _⟩
 |two i j=>show bT h λp hp h=>?_;apply dJ h;show⟨_,?_,(hl.upd i p.1).upd j p.2⟩;show (tH x).bind _=_;rw[hp];rfl
theorem bL{α β:Type}{m m':Option (α×ag)}{k k':α->ag->Option β}{r:β}(h:bY m k=À r)(hm:∀p,m=À p->m'=À p)(hk:∀a H,k a H=À r->k' a H=À r):bY m' k'=À r:=dK h λa H h1 h2=>bM (hm _ h1) (hk a H h2)
theorem AO{α β γ:Type}{m m':Option (α×β×ag)}{k k':α->β->ag->Option γ}{r:γ}(h:mE m k=À r)(hm:∀p,m=À p->m'=À p)(hk:∀a b H,k a b H=À r->k' a b H=À r):mE m' k'=À r:=oK h λa b H h1 h2=>tL (hm _ h1) (hk a b H h2)
theorem mF{β:Type}{m m':Option (V×ag)}{k k':Bool->ag->Option β}{r:β}(h:lQ m k=À r)(hm:∀p,m=À p->m'=À p)(hk:∀a H,k a H=À r->k' a H=À r):lQ m' k'=À r:=bL h hm λa H e=>bT e λb h1 h2=>dI h1 (hk b H h2)
theorem pH{β:Type}{m m':Option (V×ag)}{k k':Int->ag->Option β}{r:β}(h:qf m k=À r)(hm:∀p,m=À p->m'=À p)(hk:∀a H,k a H=À r->k' a H=À r):qf m' k'=À r:=bL h hm λa H e=>bT e λb h1 h2=>dI h1 (hk b H h2)
theorem qj{elt Rb:aJ->ag->Option (V×ag)}{cond cond':aJ->ag->Option (Bool×ag)}{t:jQ}{w:List (Nat×bu)}(he:∀a b H r,Le a b->elt a H=À r->Rb b H=À r)(hc:∀a b H r,Le a b->cond a H=À r->cond' b H=À r):
  ∀{xs:List V} {a b:aJ} {H:ag} {r:List V×ag},Le a b->fX elt cond t w xs a H=À r->fX Rb cond' t w xs b H=À r
 |[],a,b,H,r,hl,h=>h
 |x::xs,a,b,H,r,hl,h=>by
  show qE h λhw h=>bT h λa' hp h=>aE (Af hl hp) λb' R5 jd=>?_;show gy H w ((t.put x b).bind λaU=>_)=_;rw[jb hw,R5,ab8];show bL h (λp e=>hc _ _ _ _ jd e) λc Î h=>?_;cases c with
  |false=>show qj he hc hl h
  |true=>rw[if_pos N]at h ⊢;show bL h (λp e=>he _ _ _ _ jd e) λv Û h=>bL h (λp e=>qj he hc hl e) λl bI h=>h
theorem j8:∀{k:KX} {a b:aJ} {H:ag} {v:V},Le a b->dq k a H=À v->dq k b H=À v
 |.var i,a,b,H,v,hl,h=>hl i v h
 |.num i,a,b,H,v,hl,h=>h
 |.idx x y,a,b,H,v,hl,h=>by show bT h λu h1 h=>bT h λz h2 h=>?_;show (dq x b H).bind _=_;rw[j8 hl h1];show (dq y b H).bind _=_;rw[j8 hl h2];show h
 |.pair x y,a,b,H,v,hl,h=>by show bT h λu h1 h=>bT h λz h2 h=>?_;show (dq x b H).bind _=_;rw[j8 hl h1];show (dq y b H).bind _=_;rw[j8 hl h2];show h
theorem wU{k:KX}{i:Nat}{H:ag}{a b:aJ}(hl:Le a b):∀{ns:List Int} {ps:List KP},o0 k i a H ns=À ps->o0 k i b H ns=À ps
 |[],ps,h=>h
 |n::r,ps,h=>by show bT h λv h1 h=>bT h λl h2 h=>bT h λqs h3 h=>?_;show (dq k (cS b i (.int n)) H).bind _=_;rw[j8 (hl.upd i (.int n)) h1];show (r7 v).bind _=_;rw[h2];show (o0 k i b H r).bind _=_;rw[wU hl h3];show h
theorem D1{k:KX}{i:Nat}{H:ag}{a b:aJ}{xs:List V}{r:V×ag}(hl:Le a b)(h:l8 k i a H xs=À r):l8 k i b H xs=À r:=by show bT h λns h1 h=>dC h λh2 h=>bT h λps h3 h=>?_;show (cB xs).bind _=_;rw[h1];show (if _ then _ else _)=_;rw[if_pos h2,wU hl h3];show h
mutual
theorem aI{Á:ax}:∀(e:CE) {a b:aJ} {H:ag} {r:V×ag},Le a b->ab Á e a H=À r->ab Á e b H=À r
 |.cst v,_,_,_,_,_,h=>h
 |.var i,a,b,H,r,hl,h=>by show bT h λv h1 h2=>?_;show (b i).bind _=_;rw[hl i v h1];show h2
 |.bin op x y,a,b,H,r,hl,h=>bL h (λp e=>aI x hl e) λj j h=>bL h (λp e=>aI y hl e) λj j h=>h
 |.cmp op x y,a,b,H,r,hl,h=>bL h (λp e=>aI x hl e) λj j h=>bL h (λp e=>aI y hl e) λj j h=>h
 |.not x,a,b,H,r,hl,h=>mF h (λp e=>aI x hl e) λj j h=>h
 |.neg x,a,b,H,r,hl,h=>pH h (λp e=>aI x hl e) λj j h=>h
 |.and x y,a,b,H,r,hl,h=>mF h (λp e=>aI x hl e) λc j h=>by
  cases c with
  |true=>show aI y hl h
  |false=>show h
 |.or x y,a,b,H,r,hl,h=>mF h (λp e=>aI x hl e) λc j h=>by
  cases c with
  |true=>show h
  |false=>show aI y hl h
 |.ite t x y,a,b,H,r,hl,h=>mF h (λp e=>aI t hl e) λc j h=>by
  cases c with
  |true=>show aI x hl h
  |false=>show aI y hl h
 |.list es,a,b,H,r,hl,h=>bL h (λp e=>dY es hl e) λj j h=>h
 |.tuple es,a,b,H,r,hl,h=>bL h (λp e=>dY es hl e) λj j h=>h
 |.dict0,_,_,_,_,_,h=>h
 |.idx x y,a,b,H,r,hl,h=>bL h (λp e=>aI x hl e) λj j h=>bL h (λp e=>aI y hl e) λj j h=>h
 |.slc x y z,a,b,H,r,hl,h=>bL h (λp e=>aI x hl e) λj j h=>bL h (λp e=>aI y hl e) λj j h=>bL h (λp e=>aI z hl e) λj j h=>h
 |.call f as,a,b,H,r,hl,h=>bL h (λp e=>dY as hl e) λj j h=>h
 |.prim p as,a,b,H,r,hl,h=>bL h (λp e=>dY as hl e) λj j h=>h
 |.meth m o as,a,b,H,r,hl,h=>bL h (λp e=>aI o hl e) λx Î h=>by show dC h λhr h=>?_;rw[if_pos hr];show bL h (λp e=>dY as hl e) λj j h=>h
 |.sortK it i k,a,b,H,r,hl,h=>AO h (λp e=>u9 it hl e) λxs w Î h=>by show dC h λh1 h=>?_;rw[if_pos h1];show D1 hl h
 |.word x,a,b,H,r,hl,h=>bL h (λp e=>aI x hl e) λj j h=>h
 |.zipl x y,a,b,H,r,hl,h=>bL h (λp e=>aI x hl e) λj j h=>bL h (λp e=>aI y hl e) λj j h=>h
 |.isC c x,a,b,H,r,hl,h=>bL h (λp e=>aI x hl e) λj j h=>h
 |.comp elt t it ifs,a,b,H,r,hl,h=>AO h (λp e=>u9 it hl e) λxs w Î h=>bL h (λp e=>qj (cond':=cW Á ifs) (λa b H r hl e=>aI elt (H:=H) hl e) (λa b H r hl e=>tA ifs hl e) hl e) λj j h=>h
theorem tA{Á:ax}:∀(e:gG) {a b:aJ} {H:ag} {r:Bool×ag},Le a b->cW Á e a H=À r->cW Á e b H=À r
 |.nil,_,_,_,_,_,h=>h
 |.cons x y,a,b,H,r,hl,h=>mF h (λp e=>aI x hl e) λc z h=>by
  cases c with
  |true=>show tA y hl h
  |false=>show h
theorem dY{Á:ax}:∀(e:gG) {a b:aJ} {H:ag} {r:List V×ag},Le a b->bP Á e a H=À r->bP Á e b H=À r
 |.nil,_,_,_,_,_,h=>h
 |.cons x y,a,b,H,r,hl,h=>bL h (λp e=>aI x hl e) λz z h=>bL h (λp e=>dY y hl e) λz z h=>h
theorem u9{Á:ax}:∀(e:jm) {a b:aJ} {H:ag} {r:List V×List (Nat×bu)×ag},Le a b->cD Á e a H=À r->cD Á e b H=À r
 |.ex x,a,b,H,r,hl,h=>by rw[kW]at h ⊢;show bL h (λp e=>aI x hl e) λz z h=>h
 |.rng1 x,a,b,H,r,hl,h=>pH h (λp e=>aI x hl e) λz z h=>h
 |.rng2 x y,a,b,H,r,hl,h=>pH h (λp e=>aI x hl e) λz z h=>pH h (λp e=>aI y hl e) λz z h=>h
 |.zip x y,a,b,H,r,hl,h=>by rw[rE]at h ⊢;show bL h (λp e=>aI x hl e) λz z h=>bL h (λp e=>aI y hl e) λz z h=>h
 |.enm x,a,b,H,r,hl,h=>by rw[rD]at h ⊢;show bL h (λp e=>aI x hl e) λz z h=>h
end
def W(Á:ax)(ss:fv)(a:aJ)(H:ag)(Q:cw->aJ->ag->Prop):Prop:=∀U,Le a U->∃fl b aU ae,Le b aU/\aM Á ss U H=À (fl,aU,ae)/\Q fl b ae
def TQ(Á:ax)(aD:fv)(Q:cw->aJ->ag->Prop)(fl:cw)(U:aJ)(H:ag):Prop:=match fl with
 |.next=>W Á aD U H Q
 |fl=>Q fl U H
def RQ(R:V->ag->Prop)(fl:cw)(_:aJ)(H:ag):Prop:=∃v,fl=.ret v/\R v H
def LQ(I:Nat->aJ->ag->Prop)(k:Nat)(fl:cw)(U:aJ)(H:ag):Prop:=fl=.next/\∃a,Le a U/\I (k+1) a H
def LX(I:Nat->aJ->ag->Prop)(ï:cw->ag->Prop)(k:Nat)(fl:cw)(U:aJ)(H:ag):Prop:=(fl=.next/\∃a,Le a U/\I (k+1) a H)\/(fl≠.next/\ï fl H)
theorem u4{fl:cw}{U:aJ}{H:ag}{k:aJ->ag->Ex}(h:fl≠.next):ip (À (fl,U,H)) k=À (fl,U,H):=by
 cases fl with
 |next=>show absurd N h
 |ret v=>rfl
 |exc c w=>rfl
section
variable{Á:ax}{aD:fv}{U a:aJ}{H Î Û bI:ag}{Q:cw->aJ->ag->Prop}
theorem W.nil(h:Q .next a H):W Á .nil a H Q:=λU hl=>⟨_,a,U,H,hl,N,h⟩
theorem W.le{ss:fv}(hl:Le a U)(h:W Á ss a H Q):W Á ss U H Q:=λr h2=>h r (hl.trans h2)
theorem W.mono{ss:fv}{Q':cw->aJ->ag->Prop}(h:W Á ss a H Q)(hq:∀fl aU ae,Q fl aU ae->Q' fl aU ae):W Á ss a H Q':=λU hl=>EC (h U hl) λfl b aU ae h1 h2 h3=>⟨fl,b,aU,ae,h1,h2,hq _ _ _ h3⟩
theorem W.step{s:CS}{b:aJ}(h:∀U,Le a U->∃aU,Le b aU/\bG Á s U H=À (.next,aU,Î))(k:W Á aD b Î Q):W Á (.cons s aD) a H Q:=λU hl=>by show aE (h U hl) λaU jd e=>EC (k aU jd) λfl b iq ir h1 h2 h3=>⟨fl,b,iq,ir,h1,?_,h3⟩;show ip (bG Á s U H) (aM Á aD)=_;rw[e];show h2
theorem W.out{s:CS}{fl:cw}(eT:fl≠.next)(h:∀U,Le a U->bG Á s U H=À (fl,U,Î))(k:Q fl a Î):W Á (.cons s aD) a H Q:=λU hl=>by show⟨fl,a,U,Î,hl,?_,k⟩;show ip (bG Á s U H) (aM Á aD)=_;rw[h U hl];show u4 eT
theorem W.block{s:CS}{t:fv}(e:∀U,Le a U->bG Á s U H=aM Á t U Î)(k:W Á t a Î (TQ Á aD Q)):W Á (.cons s aD) a H Q:=λU hl=>by
 show EC (k U hl) λfl b aU ae h1 h2 h3=>?_
 have h4:aM Á (.cons s aD) U H=ip (À (fl,aU,ae)) (aM Á aD):=by show ip (bG Á s U H) (aM Á aD)=_;rw[e U hl,h2]
 cases fl with
 |next=>show EC (h3 aU h1) λfl b S8 fg g1 g2 g3=>⟨fl,b,S8,fg,g1,h4.trans g2,g3⟩
 |ret v=>show⟨_,b,aU,ae,h1,h4,h3⟩
 |exc c w=>show⟨_,b,aU,ae,h1,h4,h3⟩
theorem W.set{i:Nat}{e:CE}{v:V}{Î:ag}(h:ab Á e a H=À (v,Î))(k:W Á aD (cS a i v) Î Q):W Á (.cons (.assign (.one i) e) aD) a H Q:=
 W.step (λU hl=>⟨_,hl.upd i v,by rw[gS];show lM (by rw[aI e hl h];rfl)⟩) k
theorem W.put{t:jQ}{e:CE}{v:V}{b:aJ}(h:ab Á e a H=À (v,Î))(hp:t.put v a=À b)(k:W Á aD b Î Q):W Á (.cons (.assign t e) aD) a H Q:=
 W.step (λU hl=>aE (Af hl hp) λaU h1 h2=>⟨aU,h2,by
  rw[gS];show lM ?_;rw[aI e hl h];show (t.put v U).bind _=_;rw[h1];rfl⟩) k
theorem W.expr{e:CE}{v:V}(h:ab Á e a H=À (v,Î))(k:W Á aD a Î Q):W Á (.cons (.expr e) aD) a H Q:=
 W.step (λU hl=>⟨U,hl,by rw[A2];show lM (by rw[aI e hl h];rfl)⟩) k
theorem W.retE{e:CE}{v:V}{Î:ag}(h:ab Á e a H=À (v,Î))(k:Q (.ret v) a Î):W Á (.cons (.ret e) aD) a H Q:=
 W.out (fl:=.ret v) (λq=>nomatch q) (λU hl=>by rw[lT];show lM (by rw[aI e hl h];rfl)) k
theorem W.ifB{c:CE}{t e:fv}{b:Bool}{Î:ag}(h:ab Á c a H=À (.bool b,Î))(hT:b=Æ->W Á t a Î (TQ Á aD Q))(hF:b=Ê->W Á e a Î (TQ Á aD Q)):W Á (.cons (.ite c t e) aD) a H Q:=by
 cases b with
 |true=>show W.block (λU hl=>by rw[F2,aI c hl h];rfl) (hT N)
 |false=>show W.block (λU hl=>by rw[F2,aI c hl h];rfl) (hF N)
theorem W.iteT{c:CE}{t e:fv}(Î:ag)(h:bV Á c a H=À (Æ,Î))(k:W Á t a Î (TQ Á aD Q)):W Á (.cons (.ite c t e) aD) a H Q:=W.ifB (dW h) (λz=>k) λq=>nomatch q
theorem W.iteF{c:CE}{t e:fv}(Î:ag)(h:bV Á c a H=À (Ê,Î))(k:W Á e a Î (TQ Á aD Q)):W Á (.cons (.ite c t e) aD) a H Q:=W.ifB (dW h) (λq=>nomatch q) λz=>k
theorem W.if_{c:CE}{t e:fv}{p:Prop}[Decidable p]{Î:ag}(h:ab Á c a H=À (.bool (decide p),Î))(hT:p->W Á t a Î (TQ Á aD Q))(hF:¬ p->W Á e a Î (TQ Á aD Q)):W Á (.cons (.ite c t e) aD) a H Q:=
 W.ifB h (λq=>hT (of_decide_eq_true q)) λq=>hF (of_decide_eq_false q)
theorem HI{m:j0}(hm:m=.append\/m=.extend){r:Nat}{l:List V}(hr:H[r]?=À (.lst l)):xg m (.ref r) H=Æ:=by
 have:(lst H r).isSome=Æ:=by rw[cC hr];rfl
 rcases hm with rfl|rfl<;>show this
theorem A1{m:j0}(hm:m=.append\/m=.extend){o e:CE}{r:Nat}{l:List V}{v x:V}(ho:ab Á o a H=À (.ref r,H))(hr:H[r]?=À (.lst l))(he:ab Á e a H=À (v,Î))(R4:jy m (.ref r) [v] Î=À (x,Û)):ab Á (.meth m o (.cons e .nil)) a H=À (x,Û):=by show bY (ab Á o a H) (λx Î=>if xg m x Î then bY (bP Á (.cons e .nil) a Î) λvs Û=>jy m x vs Û else Ã)=_;rw[ho];show (if xg m (.ref r) H then bY (bP Á (.cons e .nil) a H) λvs Û=>jy m (.ref r) vs Û else Ã)=_;rw[if_pos (HI hm hr),al he];show R4
theorem W.append{o e:CE}(r:Nat)(l:List V)(v:V)(Î:ag)(ho:ab Á o a H=À (.ref r,H))(hr:H[r]?=À (.lst l))(he:ab Á e a H=À (v,Î))(hr1:Î[r]?=À (.lst l))(hz:l.length<=aw)
  (k:W Á aD a (Î.set r (.lst (l++[v]))) Q):W Á (.cons (.expr (.meth .append o (.cons e .nil))) aD) a H Q:=
 W.expr (A1 (.inl N) ho hr he (by
  show (lst Î r).bind (λl=>if l.length<=aw then À (V.none,Î.set r (.lst (l++[v]))) else Ã)=_;rw[cC hr1];show if_pos hz)) k
theorem W.append0{o e:CE}(r:Nat)(l:List V)(v:V)(ho:ab Á o a H=À (.ref r,H))(hr:H[r]?=À (.lst l))(he:ab Á e a H=À (v,H))(hz:l.length<=aw)
  (k:W Á aD a (H.set r (.lst (l++[v]))) Q):W Á (.cons (.expr (.meth .append o (.cons e .nil))) aD) a H Q:=W.append r l v H ho hr he hr hz k
theorem W.setV{o i v:CE}{x y z:V}(hv:ab Á v a H=À (x,Î))(ho:ab Á o a Î=À (y,Î))(hi:ab Á i a Î=À (z,Î))(hs:ru y z x Î=À Û)(c:W Á aD a Û Q):W Á (.cons (.setItem o i v) aD) a H Q:=
 W.step (λU hl=>⟨U,hl,by
  rw[qr,aI v hl hv];show bY (ab Á o U Î) (λy Û=>bY (ab Á i U Û) λz bI=>(ru y z x bI).bind λlH=>À (cw.next,U,lH))=_;rw[aI o hl ho];show bY (ab Á i U Î) (λz bI=>(ru y z x bI).bind λlH=>À (cw.next,U,lH))=_;rw[aI i hl hi];show (ru y z x Î).bind (λlH=>À (cw.next,U,lH))=_;rw[hs];rfl⟩) c
theorem W.setItem{o i v:CE}(r:Nat)(k:Int)(l:List V)(x:V)(Î:ag)(hv:ab Á v a H=À (x,Î))(ho:ab Á o a Î=À (.ref r,Î))(hi:ab Á i a Î=À (.int k,Î))(hr:Î[r]?=À (.lst l))(mO:0<=k)(I0:k.toNat<l.length)
  (c:W Á aD a (Î.set r (.lst (l.set k.toNat x))) Q):W Á (.cons (.setItem o i v) aD) a H Q:=W.setV hv ho hi (dI N (dI hr (if_pos ⟨mO,I0⟩))) c
theorem W.setItem0{o i v:CE}(r:Nat)(k:Int)(l:List V)(x:V)(hv:ab Á v a H=À (x,H))(ho:ab Á o a H=À (.ref r,H))(hi:ab Á i a H=À (.int k,H))(hr:H[r]?=À (.lst l))(mO:0<=k)(I0:k.toNat<l.length)
  (c:W Á aD a (H.set r (.lst (l.set k.toNat x))) Q):W Á (.cons (.setItem o i v) aD) a H Q:=W.setItem r k l x H hv ho hi hr mO I0 c
theorem Dp{body:fv}{t:jQ}{w:List (Nat×bu)}{xs:List V}(I:Nat->aJ->ag->Prop)(ï:cw->ag->Prop)(hw:∀k U H,I k U H->cA H w)
  (step:∀k x U H,xs[k]?=À x->I k U H->∃aU,t.put x U=À aU/\W Á body aU H (LX I ï k)) :
  ∀(ys:List V) (k:Nat) (a U:aJ) (H:ag),xs.drop k=ys->k<=xs.length->Le a U->I k a H->∃fl p7 σe,lG (aM Á body) t w ys U H=À (fl,p7,σe)/\((fl=.next/\∃b,Le b p7/\I xs.length b σe)\/(fl≠.next/\ï fl σe)):=by
 intro ys
 induction ys with
 |nil=>intro k a U H hd hk hl hI;have jY:k=xs.length:=Ů hk (List.drop_eq_nil_iff.mp hd);subst jY;show⟨.next,U,H,jb (hw _ _ _ hI),.inl ⟨N,a,hl,hI⟩⟩
 |cons y ys ih=>
  intro k a U H hd hk hl hI
  have hx:xs[k]?=À y:=by
   have:=congrArg (·[0]?) hd
   simpa using this
  have cG:k<xs.length:=(Ğ.mp hx).1;show aE (step k y a H hx hI) λa' h1 h2=>aE (Af hl h1) λaU g1 g2=>EC (h2 aU g2) λfl b iq ir h4 h5 h3=>?_
  have e:lG (aM Á body) t w (y::ys) U H=ip (À (fl,iq,ir)) λiq ir=>lG (aM Á body) t w ys iq ir:=by show gy H w ((t.put y U).bind λaU=>ip (aM Á body aU H) λiq ir=>lG (aM Á body) t w ys iq ir)=_;rw[jb (hw _ _ _ hI),g1];show ip (aM Á body aU H) _=_;rw[h5]
  rw[e];rcases h3 with ⟨rfl,c,h6,h7⟩|⟨eT,h3⟩
  ·show ih (k+1) c iq ir (by rw[<-adE,hd];rfl) cG (h6.trans h4) h7
  ·show⟨fl,iq,ir,u4 eT,.inr ⟨eT,h3⟩⟩
theorem W.loopE{t:jQ}{it:jm}{body:fv}{xs:List V}{w:List (Nat×bu)}(h:cD Á it U H=À (xs,w,Î))(I:Nat->aJ->ag->Prop)(ï:cw->ag->Prop){a:aJ}(ha:Le a U)(h0:I 0 a Î)(hw:∀k U H,I k U H->cA H w)
  (step:∀k x U H,xs[k]?=À x->I k U H->∃aU,t.put x U=À aU/\W Á body aU H (LX I ï k))
  (k:∀aU ae,I xs.length aU ae->W Á aD aU ae Q) (kr:∀fl aU ae,ï fl ae->Q fl aU ae):W Á (.cons (.for_ t it body) aD) U H Q:=λr hr=>by
 show oN (Dp I ï hw step xs 0 a r Î N (ĥ _) (ha.trans hr) h0) λfl p7 σe h1 h2=>?_
 have ex:bG Á (.for_ t it body) r H=À (fl,p7,σe):=by rw[y0];show lM (by rw[u9 it hr h];show h1)
 have eq:aM Á (.cons (.for_ t it body) aD) r H=ip (À (fl,p7,σe)) (aM Á aD):=by show ip (bG Á (.for_ t it body) r H) (aM Á aD)=_;rw[ex]
 rcases h2 with ⟨rfl,b,hl,hI⟩|⟨eT,hJ⟩
 ·show EC (k b σe hI p7 hl) λfl b S8 fg g1 g2 g3=>⟨fl,b,S8,fg,g1,eq.trans g2,g3⟩
 ·show⟨fl,p7,p7,σe,Le.refl _,eq.trans (u4 eT),kr fl p7 σe hJ⟩
theorem W.loop{t:jQ}{it:jm}{body:fv}{xs:List V}{w:List (Nat×bu)}{Î:ag}(h:cD Á it U H=À (xs,w,Î))(I:Nat->aJ->ag->Prop){a:aJ}(ha:Le a U)(h0:I 0 a Î)(hw:∀k U H,I k U H->cA H w)
  (step:∀k x U H,xs[k]?=À x->I k U H->∃aU,t.put x U=À aU/\W Á body aU H (LQ I k))
  (k:∀aU ae,I xs.length aU ae->W Á aD aU ae Q):W Á (.cons (.for_ t it body) aD) U H Q:=
 W.loopE h I (λz z=>False) ha h0 hw (λk x U H hx hI=>aE (step k x U H hx hI) λaU h1 h2=>⟨aU,h1,h2.mono λz z z=>.inl⟩) k λz z z q=>q.elim
end
theorem eR{P:List bq}{d k:Nat}{f:bq}{as:List V}{H:ag}(hk:P[k]?=À f)(ha:as.length=f.arity){R:V->ag->Prop}(h:W (aC P d) f.body (bJ as) H (RQ R)):∃v ae,aC P (d+1) k as H=À (.ok v,ae)/\R v ae:=by obtain ⟨fl,b,aU,ae,_,h1,v,rfl,h2⟩:=h _ (Le.refl _);show⟨v,ae,by rw[pI hk ha,h1];rfl,h2⟩
section
variable{Á:ax}{U:aJ}{H Î Û:ag}
theorem fD{a b:CE}{x y:Int}(ha:ab Á a U H=À (.int x,Î))(hb:ab Á b U Î=À (.int y,Û)):ab Á (.cmp .Eq a b) U H=À (.bool (decide (x=y)),Û):=by rw[<-Sh];show bB ha hb N
theorem uG{r:Nat}{l:List V}(hr:H[r]?=À (.lst l)):gE .len [.ref r] H=À (.int l.length,H):=(show ϡ (ϡ _ _) _=_ from dI (dI (cC hr) N) N)
end
theorem gs{P:List bq}{d k:Nat}{f:bq}{as:List V}{H:ag}{v:V}(hk:P[k]?=À f)(ha:as.length=f.arity)(h:W (aC P d) f.body (bJ as) H (RQ λu ae=>u=v/\ae=H)):aC P (d+1) k as H=À (.ok v,H):=by show fQ (eR hk ha h) λv' ae h1 q4 q5=>?_;subst q4 q5;show h1
theorem mZ{P:List bq}{k d:Nat}{H:ag}(hk:P[k]?=À sO)(x y:Int)(hy:y.natAbs<18446744073709551616):aC P (d+1) k [.int x,.int y] H=À (.ok (.int (Hl x y)),H):=by have b1:=db (a:=(x+104729*y)+(7919*y)*y) (b:=998244353) (by decide);show gs hk N (W.set (aK (aK (aK N (aK N N (km (iF hy))) N) (aK (aK N N (km (iF hy))) N (km (iF hy))) N) N (dP (by decide))) ?_);have m4:te (((x+104729*y)+(7919*y)*y).fmod 998244353) (((x+104729*y)+(7919*y)*y).fmod 998244353)=Æ:=iF (E0 b1.1 (adg b1.2 (by decide)));have em:Hl x y=(((((x+104729*y)+(7919*y)*y).fmod 998244353)*(((x+104729*y)+(7919*y)*y).fmod 998244353)).fmod 998244353*1000003).fmod 998244353:=rfl;rw[em];generalize ((x+104729*y)+(7919*y)*y).fmod 998244353=z at m4;show W.retE (aK (aK (aK (aK N N (km m4)) N (dP (by decide))) N (km (iF (by decide)))) N (dP (by decide))) ⟨_,N,N,N⟩
theorem sF{P:List bq}{k d:Nat}{H:ag}{r:Nat}{cs:List Int}(hk:P[k]?=À iX)(hr:H[r]?=À (.lst (cs.map .int)))(j:Nat)(hj:j<1000000):aC P (d+1) k [.ref r,.int j] H=À (.ok (.int (cellF cs j)),H):=by
 have m1:te ((j:Int)+3) ((j:Int)+7)=Æ:=iF (show j+7<18446744073709551616 from ĵ (add hj 7) (by decide));show gs hk N (W.if_ (bB N (aO N ((uG hr).trans (by rw[H']))) N) (λhc=>?_) λhc=>W.nil ?_)
 ·have cG:j<cs.length:=by (show ŧ.mp ‹_›)
  have e:cs[j]?=À cs[j]:=N' cG;show W.retE (bF r j _ (.int cs[j]) N N hr (Ē _) (by rw[ĭ,Ġ,e];rfl)) ⟨_,N,?_,N⟩;rw[cellF,e]
 ·have e:cs[j]?=Ã:=Ϡ (by show jL (y2 0xc0115b10 N hc))
  show W.retE (aK (aK N N (km m1)) N (km (iF (by decide)))) ⟨_,N,?_,N⟩;rw[cellF,e]
theorem j3{P:List bq}{k d:Nat}{H:ag}(hk:P[k]?=À mL)(x m:Int)(hm:m≠0):aC P (d+1) k [.int x,.int m] H=À (.ok (.int (gM x m)),H):=by
 show gs hk N (W.set (Î:=H) N (W.if_ (fD N N) (λhc=>?_) λhc=>W.nil ?_))
 ·show W.retE (aK N (aK N N (dP hm)) N) ⟨_,N,by rw[gM,if_pos hc],N⟩
 ·show W.if_ (fD N N) (λGq=>?_) λGq=>W.nil ?_
  ·show W.retE N ⟨_,N,by rw[gM,if_neg hc,if_pos Gq],N⟩
  ·show W.retE N ⟨_,N,by rw[gM,if_neg hc,if_neg Gq],N⟩
theorem s4{P:List bq}{k d:Nat}{H:ag}(hk:P[k]?=À qt)(x:Int):aC P (d+1) k [.int x] H=À (.ok (.int (s0 x)),H):=by
 show gs hk N (W.if_ (fD N N) (λhc=>?_) λhc=>W.nil ?_)
 ·show W.retE N ⟨_,N,by rw[s0,if_pos hc],N⟩
 ·show W.if_ (bB N N N) (λGq=>?_) λGq=>W.nil ?_
  ·show W.retE N ⟨_,N,by rw[s0,if_neg hc,if_pos Gq],N⟩
  ·show W.retE N ⟨_,N,by rw[s0,if_neg hc,if_neg Gq],N⟩
noncomputable def kl:Int->List Int->List Int
 |_,[]=>[]
 |m,c::cs=>(m*6364136223846793005+c+1442695040888963407).fmod 1000000000000000003::kl ((m*6364136223846793005+c+1442695040888963407).fmod 1000000000000000003) cs
theorem HO(H:ag)(a b:bu):(H++[a]).set H.length b=H++[b]:=by simp
theorem PS{Á:ax}{U:aJ}{H Î:ag}{e:CE}{l:List Int}(h:ab Á e U H=À (.ro l,Î)):cD Á (.ex e) U H=À (l.map .int,[],Î):=kW.trans (bM h N)
def iD(P:List bq)(k:Nat)(d:Nat)(H:ag)(ns:List Int):Prop:=∀(hk:P[k]?=À oQ) (hn:ns.length<=63),aC P (d+1) k [.ro ns] H=À (.ok (.ref H.length),H++[.lst ((kl 1 ns).map .int)])
namespace mixed_callH
def kc:=hc (U5 iD) ([],0,0,[],[])
def P:=kc.1
def k:=kc.2.1
def d:=kc.2.2.1
def H:=kc.2.2.2.1
def ns:=kc.2.2.2.2
theorem kt:iD P k d H ns:=by
 intro hk hn;have hsz:aw=16777216:=rfl
 obtain ⟨v,ae,h,rfl,rfl⟩:=eR (R:=λv ae=>v=.ref H.length/\ae=H++[.lst ((kl 1 ns).map .int)]) (d:=d) hk (as:=[.ro ns]) rfl (by
  show W.set (Î:=H++[.lst []]) N (W.set N (W.loop (PS N)
   (λj U ae=>∃m acc,U=bN [Ã,À (.ref H.length),À (.int m)]/\ae=H++[.lst (acc.map .int)]/\acc++kl m (ns.drop j)=kl 1 ns/\acc.length<=j/\j<=ns.length)
   (a:=bN [Ã,À (.ref H.length),À (.int 1)]) (ak ⟨N,N,trivial⟩) ⟨1,[],N,N,N,đ _,ĥ _⟩ (λy y y y=>bj _) ?_ ?_))
  ·rintro j x _ _ hx ⟨m,acc,rfl,rfl,h3,h4,hj⟩
   have cG:j<ns.length:=by have:=(Ğ.mp hx).1;rwa [H']at this
   have hxe:x=.int ns[j]:=by rw[Ġ,N' cG]at hx;show(sm hx).symm
   apply aY hxe;rw[aby cG]at h3;show⟨_,rfl,?_⟩;generalize hz:(m*6364136223846793005+ns[j]+1442695040888963407).fmod 1000000000000000003=z;show W.set (v:=.int z) (by rw[<-hz];show aK (aK (aK (aK rfl rfl (km (iF (by decide)))) rfl rfl) rfl rfl) rfl (dP (by decide))) (W.append0 H.length (acc.map .int) (.int z) rfl (az _ _) rfl (by rw[H'];show jL (y4 0xc1210b003f9013b00000000000001000000d110b3211b03 rfl (iL hn) (iE hsz) (iL h4) (iT cG))) ?_);rw[HO];show W.nil ⟨rfl,bN [Ã,À (.ref H.length),À (.int z)],ak ⟨rfl,rfl,trivial⟩,z,acc++[z],rfl,by simp,?_,by simp;show h4,cG⟩;rw[<-h3,kl,hz];simp
  ·rintro _ _ ⟨m,acc,rfl,rfl,h3,_⟩
   rw[H',adR,kl,Ĭ]at h3;apply aY h3;show W.retE N ⟨_,N,N,N⟩)
 show h
end mixed_callH
theorem z7{P:List bq}:iD P k d H ns:=hk (P:=U5 iD) mixed_callH.kt (P,k,d,H,ns)
structure dn where
 a:Int
 p:Int
 l:Int
noncomputable def dn.v(o:dn):V:=.tup [.int o.a,.int o.p,.int o.l]
theorem pU(a b:Nat):iZ a b 1=b-a:=by
 show (if (a:Int)<b then ((b:Int)-a-1) / 1+1 else 0).toNat=b-a;by_cases h:(a:Int)<b
 ·rw[if_pos h,ae3,acU];show aee b a
 ·rw[if_neg h];show(adK (Ş.mp (ň.mp h))).symm
theorem l6(a b:Nat):(cz a b 1).length=b-a:=(H' _).trans (Ľ.trans (pU a b))
theorem rn{a b j:Nat}{x:V}(h:(cz a b 1)[j]?=À x):j<b-a/\x=.int ((a:Int)+j):=by have hj:j<b-a:=l6 a b▸(Ğ.mp h).1;unfold cz at h;rw[Ġ,ό (pU a b▸hj)]at h;show⟨hj,(sm h).symm.trans (congrArg (λz=>V.int ((a:Int)+z)) (Ϲ j))⟩
theorem ig{n:Nat}{j:Nat}{x:V}(h:(cz 0 n 1)[j]?=À x):j<n/\x=.int j:=ş j▸rn (a:=0) h
theorem ii(n:Nat):(cz 0 n 1).length=n:=l6 0 n
theorem lX(l:List Int):cB (l.map .int)=À l:=by
 induction l with
 |nil=>rfl
 |cons x l ih=>show (cB (l.map .int)).bind (λl=>À (x::l))=_;rw[ih];rfl
theorem dp{α:Type}{elt:aJ->ag->Option (V×ag)}{cond:aJ->ag->Option (Bool×ag)}{t:jQ}{w:List (Nat×bu)}{U:aJ}{H:ag}{g:α->V}{p:α->Bool}{f:α->V}(hw:cA H w){xs:List α}:
  (∀x∈xs,∃aU,t.put (g x) U=À aU/\cond aU H=À (p x,H)/\(p x=Æ->elt aU H=À (f x,H)))->fX elt cond t w (xs.map g) U H=À ((xs.filter p).map f,H):=by
 induction xs with
 |nil=>show λz=>jb hw
 |cons x xs ih=>
  intro h;show eJ (h x G') λaU h1 h2 h3=>?_;have ih:=ih λy hy=>h y (J' _ hy);show gy H w ((t.put (g x) U).bind λaU=>bY (cond aU H) λb Î=>if b then bY (elt aU Î) λv Û=>bY (fX elt cond t w (xs.map g) U Û) λl bI=>À (v::l,bI) else fX elt cond t w (xs.map g) U Î)=_;rw[jb hw,h1];show (bY (cond aU H) λb Î=>if b then bY (elt aU Î) λv Û=>bY (fX elt cond t w (xs.map g) U Û) λl bI=>À (v::l,bI) else fX elt cond t w (xs.map g) U Î)=_;rw[h2,aen];show (if p x=Æ then bY (elt aU H) λv Û=>bY (fX elt cond t w (xs.map g) U Û) λl bI=>À (v::l,bI) else fX elt cond t w (xs.map g) U H)=_;by_cases hp:p x=Æ
  ·rw[if_pos hp,if_pos hp,h3 hp]
   show (bY (fX elt cond t w (xs.map g) U H) λl bI=>À (f x::l,bI))=_;rw[ih];rfl
  ·rw[if_neg hp,if_neg hp];show ih
noncomputable def bg(l:List Int):Int:=l.foldl (·+·) 0
theorem tz(l:List Int)(x:Int):bg (l++[x])=bg l+x:=by simp [bg]
theorem rI{α:Type}{Á:ax}{elt:CE}{t:jQ}{it:jm}{ifs:gG}{U:aJ}{H Î:ag}{w:List (Nat×bu)}{g:α->V}{p:α->Bool}{f:α->Int}{xs:List α}(hs:cD Á it U H=À (xs.map g,w,Î))(hw:cA Î w)(hz:xs.length<=aw)
  (h:∀x∈xs,∃aU,t.put (g x) U=À aU/\cW Á ifs aU Î=À (p x,Î)/\(p x=Æ->ab Á elt aU Î=À (.int (f x),Î))) :
  ab Á (.prim .sum (.cons (.comp elt t it ifs) .nil)) U H=À (.int (bg ((xs.filter p).map f)),Î++[.lst (((xs.filter p).map f).map .int)]):=by
 have hc:=dp hw h;rw[show (xs.filter p).map (λx=>V.int (f x))=((xs.filter p).map f).map .int from by simp]at hc
 have sW:(((xs.filter p).map f).map V.int).length<=aw:=by
  have:=abM p xs
  simp;show z' this hz
 show aO (al (eM hs hc sW)) (Ii (az _ _) (lX _))
theorem nE{Á:ax}{e:CE}{U:aJ}{H Î:ag}{b:Bool}(h:ab Á e U H=À (.bool b,Î)):cW Á (.cons e .nil) U H=À (b,Î):=mG h (by cases b<;>rfl)
theorem Ic{Á:ax}{a b:CE}{U:aJ}{H:ag}{xs ys:List V}(ha:ab Á a U H=À (.tup xs,H))(hb:ab Á b U H=À (.tup ys,H)):cD Á (.zip a b) U H=À (bz xs ys,[(H.length,.own)],H++[.own]):=rE.trans (bM ha (bM hb N))
theorem cV{Á:ax}{a:CE}{U:aJ}{H Î:ag}{n:Nat}(ha:ab Á a U H=À (.int n,Î))(hn:n<=1000000000):cD Á (.rng1 a) U H=À (cz 0 n 1,[],Î):=tM ha (if_pos (by simp [jC];(show Ş.mpr ‹_›)))
theorem eS{α:Type}(l:List α):l.filter (λz=>Æ)=l:=List.filter_eq_self.mpr λz z=>rfl
theorem WM{Á:ax}{e:CE}{U:aJ}{H Î:ag}{v:V}(h:ab Á e U H=À (v,Î)):gw (aM Á (.cons (.ret e) .nil) U H)=À (.ok v,Î):=by show gw (ip (bG Á (.ret e) U H) _)=_;rw[lT,lM (r:=(.ret v,U,Î)) (by rw[h];rfl)];rfl
theorem fH(n:Nat):cz 0 n 1=(č n).map λj:Nat=>V.int j:=by unfold cz;rw[show iZ 0 n 1=n from pU 0 n];show ύ λj z=>by rw[Ϲ,ş]
theorem A6{cs:List Int}{j:Nat}(hj:j<cs.length):(cs.map V.int)[((j:Nat):Int).toNat]?=À (.int ((cs[j]?).getD 0)):=by rw[ĭ,Ġ,N' hj];rfl
theorem NA{n:Nat}{j:Nat}{x:V}(h:(cz 1 (n+1:Nat) 1)[j]?=À x):j<n/\x=.int ((j:Int)+1):=ϭ 1 j▸rn (a:=1) h
theorem NB(n:Nat):(cz 1 (n+1:Nat) 1).length=n:=l6 1 (n+1)
section
variable{Á:ax}{U:aJ}{H Î Û bI:ag}
theorem bZ{es:gG}{vs:List V}(h:bP Á es U H=À (vs,Î))(hz:vs.length<=aw):ab Á (.list es) U H=À (.ref Î.length,Î++[.lst vs]):=bM h (if_pos hz)
theorem ca{es:gG}{vs:List V}(h:bP Á es U H=À (vs,Î))(hz:vs.length<=aw):ab Á (.tuple es) U H=À (.tup vs,Î):=bM h (if_pos hz)
theorem eW{a b:CE}{x y:Str}(ha:ab Á a U H=À (.str x,Î))(hb:ab Á b U Î=À (.str y,Û))(hz:x.length+y.length<=aw):ab Á (.bin .Add a b) U H=À (.str (x++y),Û):=
 aK ha hb (if_pos hz)
theorem n6{a lo hi:CE}{x y z:V}{r:Option (V×ag)}(ha:ab Á a U H=À (x,Î))(hl:ab Á lo U Î=À (y,Û))(hh:ab Á hi U Û=À (z,bI))(h:xl x y z bI=r):ab Á (.slc a lo hi) U H=r:=bM ha (bM hl (bM hh h))
theorem JX{o e:CE}{x y:Str}(ho:ab Á o U H=À (.str x,Î))(he:ab Á e U Î=À (.str y,Û)):ab Á (.meth .find o (.cons e .nil)) U H=À (.int (Txt.find x y),Û):=bM ho (bM (al he) N)
theorem qO{k:Int}(h:0<=k/\k<4611686018427387904):mW (.int k)=À k.toNat:=if_pos h
theorem mM{k:Int}{n:Nat}(h:0<=k/\k<4611686018427387904):lj n (.int k)=À (min n k.toNat):=if_pos h
theorem Yc{k:Nat}(h:k<=1000):0<=(k:Int)/\(k:Int)<4611686018427387904:=⟨Ē k,acT (Ş.mpr h) (by decide)⟩
theorem tT{α:Type}(l:List α)(i j:Nat):(oL l i j).length<=l.length:=by unfold oL;rw[ϴ,ũ];show z' (Ŗ _ _) (acr _ _)
theorem CL{e:CE}{x:Str}(h:ab Á e U H=À (.str x,Î))(hx:x.length<=aw):ab Á (.prim .len (.cons e .nil)) U H=À (.int x.length,Î):=
 aO (al h) (if_pos hx)
theorem FZ{a b:CE}{p q:Prop}[Decidable p][Decidable q](ha:ab Á a U H=À (.bool (decide p),H))(hb:ab Á b U H=À (.bool (decide q),H)):ab Á (.and a b) U H=À (.bool (decide (p/\q)),H):=by
 by_cases hp:p
 ·rw[decide_eq_true hp]at ha
  rw[yX ha hb]
  simp [hp]
 ·rw[decide_eq_false hp]at ha
  rw[t0 ha]
  simp [hp]
theorem fm{a b:Int}(h:0<b):∃n:Nat,a.fmod b=n/\(n:Int)<b:=by show aQ (db (a:=a) h) λh1 h2=>⟨(a.fmod b).toNat,(Ϥ h1).symm,by rw[Ϥ h1];show h2⟩
end
noncomputable def sg:Str := "abcdefghijklmnopqrstuvwxyz"
theorem PM:sg.length=26:=by decide +kernel
noncomputable def nI:List Str:=["total","day","flour","salt","left","used","short","salts","a","z","oil"]
structure cn where
 n:Str
 a:Int
 l:Int
noncomputable def cn.v(b:cn):V:=.tup [.str b.n,.int b.a,.int b.l]
theorem eO{H:ag}{r:Nat}{m m':bu}(e:H[r]?=À m):(H.set r m')[r]?=À m':=acS (Ğ.mp e).1
theorem qi{P:List bq}{k d:Nat}{H:ag}{r:Nat}{cs:List Int}(hk:P[k]?=À iX)(hr:H[r]?=À (.lst (cs.map .int)))(j:Nat)(hj:j<1000){z:Int}(hz:z=j):aC P (d+1) k [.ref r,.int z] H=À (.ok (.int (cellF cs j)),H):=by apply aY hz;show sF hk hr j (by show jT (y1 0x1c000000000000000f4240d011b03e890 N (iT hj)))
theorem J8{n:Nat}(h:n<4):([V.int 1,.int 2,.int 3,.int 4]:List V)[n]?=À (.int (n+1:Nat)):=show ((č 4).map λj:Nat=>V.int (j+1:Nat))[n]?=_ by rw[Ġ,ό h];rfl
def iG(d:Nat)(H:ag)(r:Nat)(cs:List Int):Prop:=∀(hr:H[r]?=À (.lst (cs.map .int))),∃(q:Nat) (aN:Int) (m:Nat) (ae:ag),aC PP (d+2) 32 [.ref r] H=À (.ok (.ref q),ae)/\ae[q]?=À (.lst [.int aN,.int m])/\aF H ae/\1<=m/\m<=12
namespace names_callH
def kc:=hc (U4 iG) (0,[],0,[])
def d:=kc.1
def H:=kc.2.1
def r:=kc.2.2.1
def cs:=kc.2.2.2
theorem kt:iG d H r cs:=by
 intro hr;have ec:∀(j:Nat),j<1000->∀ae,aF H ae->aC PP (d+1) 21 [.ref r,.int j] ae=À (.ok (.int (cellF cs j)),ae):=λj hj ae hK=>sF N (hK _ _ hr) j (ĵ ‹_<_› (by decide))
 obtain ⟨v,ae,h,q,aN,m,rfl,h1,h2,h3,h4⟩:=eR (P:=PP) (k:=32) (d:=d+1) rfl (as:=[.ref r]) rfl (by
  show W.set (af N (ec 0 (by decide) H (aF.refl _))) ?_;generalize cellF cs 0=aN;have Ve:=ec 1 (by decide);generalize cellF cs 1=c at Ve;show aE (fm (a:=c) (b:=4) (by decide)) λn hn lV=>?_;have K1:aF H (H++[.lst [V.int 1,.int 2,.int 3,.int 4]]):=aF.app _ _;show W.set (v:=.int (n+1:Nat)) (bF H.length n _ _ (bZ (vs:=[V.int 1,.int 2,.int 3,.int 4]) N (by decide)) (by rw[<-hn];show aK (af N (Ve _ K1)) N (dP (by decide))) (az _ _) (Ē _) (J8 (ŧ.mp ‹_›))) ?_;generalize H++[.lst [V.int 1,.int 2,.int 3,.int 4]]=bn at K1
  have gw:∀(m:Nat) (U:aJ),U 1=À (.int aN)->U 2=À (.int m)->1<=m->m<=12->W (aC PP (d+1)) (.cons (.ret (.list (.cons (.var 1) (.cons (.var 2) .nil)))) .nil) U bn (λfl z ae=>∃v,fl=.ret v/\∃(q:Nat) (aN:Int) (m:Nat),v=.ref q/\ae[q]?=À (.lst [.int aN,.int m])/\aF H ae/\1<=m/\m<=12):=by intro m U g1 g2 h1 h2;show W.retE (bZ (ay (aB g1) (al (aB g2))) (by simp only[Ϫ,adY];decide)) ⟨_,rfl,_,aN,m,rfl,az _ _,K1.trans (aF.app _ _),h1,h2⟩
  show W.if_ (fD (aK (aK (af N (Ve _ K1)) N (FH (by decide) (by decide))) N (dP (by decide))) N) (λhc=>?_) λhc=>W.nil ?_
  ·show W.set N (W.nil (gw 12 _ N N (by decide) (by decide)))
  ·show gw (n+1) _ N N (by show jL (y2 0xc11810b00813ba1801 N (iP _) (iA _ _))) (by (show ĵ (ŧ.mp ‹_<_›) (by decide))))
 show⟨q,aN,m,ae,h,h1,h2,h3,h4⟩
end names_callH
theorem z9:iG d H r cs:=hk (P:=U4 iG) names_callH.kt (d,H,r,cs)
theorem s9{P:List bq}{k d:Nat}{H:ag}(hk:P[k]?=À qu)(c:Int)(few Dz:Nat)(Gw:few<=Dz):∃n:Nat,aC P (d+1) k [.int c,.int few,.int Dz] H=À (.ok (.int n),H)/\n<=Dz:=by
 obtain ⟨v,ae,h,rfl,n,rfl,h2⟩:=eR (R:=λv ae=>ae=H/\∃n:Nat,v=.int n/\n<=Dz) (H:=H) hk (as:=[.int c,.int few,.int Dz]) rfl (by
  show aE (fm (a:=c.fdiv 24) (b:=(Dz:Int)+1) (by (show ab4 (Ē _) (by decide)))) λn hn lV=>aE (fm (a:=c.fdiv 24) (b:=(few:Int)+1) (by (show ab4 (Ē _) (by decide)))) λm hm TF=>W.if_ (fD N N) (λhc=>?_) λhc=>W.nil ?_
  ·show W.retE (aK N N (dP (by (show ae8 (ab4 (Ē _) (by decide)))))) ⟨_,N,N,n,by rw[hn],Ş.mp (aeH lV)⟩
  ·show W.retE (aK N N (dP (by (show ae8 (ab4 (Ē _) (by decide)))))) ⟨_,N,N,m,by rw[hm],z' (Ş.mp (aeH TF)) Gw⟩)
 show⟨n,h,h2⟩
section
variable{Á:ax}{U:aJ}{H Î Û bI:ag}
theorem cj{e:CE}{l:List V}(h:ab Á e U H=À (.tup l,Î)):cD Á (.ex e) U H=À (l,[],Î):=kW.trans (bM h N)
theorem nj{e:CE}{l:List V}(h:ab Á e U H=À (.tup l,Î)):cD Á (.enm e) U H=À (dQ 0 l,[],Î):=rD.trans (bM h N)
end
noncomputable def pV(p:Nat×Int):V:=.tup [.int p.1,.int p.2]
def yd(ps:List (Nat×Int)):V:=.tup (ps.map pV)
noncomputable def Jw:cn:=⟨aeo,0,0⟩
theorem be{α:Type}{l:List α}{k:Nat}{x:α}(h:l[k]?=À x):l.take (k+1)=l.take k++[x]:=by rw[ady,h];rfl
theorem uJ{α:Type}{f:α->V}{l:List α}{k:Nat}{x:V}(h:(l.map f)[k]?=À x):∃y,l[k]?=À y/\x=f y:=by
 rw[Ġ]at h;cases hy:l[k]? with
 |none=>rw[hy]at h;show no h
 |some y=>rw[hy]at h;show⟨y,N,(sm h).symm⟩
noncomputable def Ks(x:Str)(n:Nat):Str:=⟨#[(x.cps[n]?).getD 0]⟩
def Qt(x:Str)(i j:Nat):Str:=⟨(oL x.cps.toList i j).toArray⟩
def HQ(z:Int):Str:=Ks sg (z.fmod 26).toNat
theorem pZ(x:Str)(i j:Nat):(Qt x i j).length<=x.length:=by show (oL x.cps.toList i j).toArray.size<=_;rw[Ū];show tT _ _ _
section
variable{Á:ax}{U:aJ}{H Î Û bI:ag}
theorem qp{a i:CE}{x:Str}{k:Int}(ha:ab Á a U H=À (.str x,Î))(hi:ab Á i U Î=À (.int k,Û))(h0:0<=k)(h1:k<x.length)(hx:x.length<=1000):ab Á (.idx a i) U H=À (.str (Ks x k.toNat),Û):=by
 have cG:k.toNat<x.cps.size:=by have:x.length=x.cps.size:=rfl;show jT (y4 0x1c2311b1012b2112b03 N h1 (iE this) (Ϥ (y1 0xc00810b008 N h0)))
 have e:x.cps[k.toNat]?=À x.cps[k.toNat]:=acx cG;have hk:0<=k/\k<4611686018427387904:=by show⟨y1 0xc00810b008 N h0,y2 0x1c00004000000000000000d011b1010b03e891 N h1 (iL hx)⟩
 show n5 ha hi ?_;show (ϡ (À k) λk=>if 0<=k/\k<4611686018427387904 then (x.cps[k.toNat]?).bind (λc=>À (V.str ⟨#[c]⟩)) else Ã)=_;unfold Ks;rw[ab8,if_pos hk,e];rfl
theorem ju{a lo hi:CE}{x:Str}{u v:V}{i j:Nat}(ha:ab Á a U H=À (.str x,Î))(hl:ab Á lo U Î=À (u,Û))(hh:ab Á hi U Û=À (v,bI))(h0:mW u=À i)(h1:lj x.length v=À j)(hx:x.length<=1000):
  ab Á (.slc a lo hi) U H=À (.str (Qt x i j),bI):=by
 have hc:(oL x.cps.toList i j).length<=x.length:=tT _ _ _;have hz:(oL x.cps.toList i j).toArray.size<=aw:=by rw[Ū];unfold aw;show jL (y2 0xc00000000000001000000d110b03e89010b01 N (iL hx) (iL hc))
 show n6 ha hl hh ?_;show ((mW u).bind λi=>(lj x.length v).bind λj=>Pz bI ⟨(oL x.cps.toList i j).toArray⟩)=_;rw[h0,h1];show if_pos hz
theorem hG{i:CE}{z:Int}(hv:U 2=À (.str sg))(hi:ab Á i U H=À (.int (z.fmod 26),Î)):ab Á (.idx (.var 2) i) U H=À (.str (HQ z),Î):=by have b:=db (a:=z) (b:=26) (by decide);have:=PM;show qp (aB hv) hi b.1 (by show y2 0x1c1011b001a9013b001a91 N b.2 (iE this)) (by show jL (y1 0xc03e89012b001a90 N (iE this)))
end
def s8(fG:Int):Nat->Str×Int
 |0=>(("":Str),fG.fdiv 7)
 |j+1=>((s8 fG j).1++HQ ((s8 fG j).2+1+(fG.fdiv 182).fmod 25),(s8 fG j).2+1+(fG.fdiv 182).fmod 25)
theorem uI(fG:Int):∀j,(s8 fG j).1.length=j
 |0=>by show ("":Str).length=0;decide +kernel
 |j+1=>by show ((s8 fG j).1++HQ _).length=_;rw[ac8,uI fG j];rfl
def Im(Ju:Int)(i:Nat):Str:=([("":Str),("":Str),HQ Ju,HQ (Ju+1)]:List Str)[i]?.getD ("":Str)
def gJ(aN:Int)(i:Nat):Str:=
 if aN.fmod 6=0/\(i:Int)<4 then (nI[((aN.fdiv 6+i).fmod 11).toNat]?).getD ("":Str)
 else if (3:Int)<i then Qt (s8 (aN.fdiv 6) (1+((aN.fdiv 6).fmod 7).toNat)).1 0 (min (1+((aN.fdiv 6).fmod 7).toNat) (min (((aN.fdiv 6).fdiv 4550).fmod (1+((aN.fdiv 6).fmod 7).toNat:Nat)) 6).toNat)++(HQ ((s8 (aN.fdiv 6) (1+((aN.fdiv 6).fmod 7).toNat)).2+(i:Int).fdiv 26)++HQ i)++Qt (s8 (aN.fdiv 6) (1+((aN.fdiv 6).fmod 7).toNat)).1 (min (((aN.fdiv 6).fdiv 4550).fmod (1+((aN.fdiv 6).fmod 7).toNat:Nat)) 6).toNat (min (1+((aN.fdiv 6).fmod 7).toNat) 6)
 else if (3:Int)<aN.fmod 6 then HQ ((aN.fdiv 6).fdiv 7+(i:Int))++(s8 (aN.fdiv 6) (1+((aN.fdiv 6).fmod 7).toNat)).1
 else if (i:Int)=1 then Qt (s8 (aN.fdiv 6) (1+((aN.fdiv 6).fmod 7).toNat)).1 0 (min (1+((aN.fdiv 6).fmod 7).toNat) (((aN.fdiv 6).fdiv 4550).fmod (1+((aN.fdiv 6).fmod 7).toNat:Nat)).toNat)++HQ (Txt.find sg (Ks (s8 (aN.fdiv 6) (1+((aN.fdiv 6).fmod 7).toNat)).1 (((aN.fdiv 6).fdiv 4550).fmod (1+((aN.fdiv 6).fmod 7).toNat:Nat)).toNat)+1)++Qt (s8 (aN.fdiv 6) (1+((aN.fdiv 6).fmod 7).toNat)).1 ((((aN.fdiv 6).fdiv 4550).fmod (1+((aN.fdiv 6).fmod 7).toNat:Nat))+1).toNat (1+((aN.fdiv 6).fmod 7).toNat)
 else (s8 (aN.fdiv 6) (1+((aN.fdiv 6).fmod 7).toNat)).1++Im (s8 (aN.fdiv 6) (1+((aN.fdiv 6).fmod 7).toNat)).2 i
theorem Ip{a:Int}{i:Nat}(h:i<4):([V.str ("":Str),V.str ("":Str),V.str (HQ a),V.str (HQ (a+1))]:List V)[(i:Int).toNat]?=À (.str (Im a i))/\(Im a i).length<=1:=by
 have h0:("":Str).length<=1:=by decide +kernel
 cases i with
 |zero=>show⟨N,h0⟩
 |succ i=>cases i with
  |zero=>show⟨N,h0⟩
  |succ i=>cases i with
   |zero=>show⟨N,đ _⟩
   |succ i=>cases i with
    |zero=>show⟨N,đ _⟩
    |succ i=>show absurd h (ķ.mpr (afp 4 i))
theorem l5{P:List bq}{k d:Nat}{H:ag}(hk:P[k]?=À iY)(aN:Int)(i:Nat)(hi:i<100):∃ae,aC P (d+1) k [.int aN,.int i] H=À (.ok (.str (gJ aN i)),ae)/\aF H ae:=by
 have hsz:aw=16777216:=rfl
 obtain ⟨v,ae,h,rfl,h1⟩:=eR (R:=λv ae=>v=.str (gJ aN i)/\aF H ae) hk (as:=[.int aN,.int i]) rfl (by
  show W.set (v:=.str sg) (Î:=H) N (W.set (Î:=H++[.lst (nI.map .str)]) (bZ N (by decide)) ?_);have hw:(H++[.lst (nI.map .str)])[H.length]?=À (.lst (nI.map .str)):=az _ _;have kw:aF H (H++[.lst (nI.map .str)]):=aF.app _ _;generalize H++[.lst (nI.map .str)]=bn at hw kw;show W.set (Î:=bn) N ?_;unfold gJ;generalize hm:aN.fdiv 6=fG;show W.if_ (FZ (fD N N) (bB N N N)) (λhc=>?_) λhc=>W.nil ?_
  ·rw[if_pos hc]
   obtain ⟨n,hn,lV⟩:=fm (b:=11) (by decide);have cG:n<nI.length:=by show n<11;show jT (y1 0x1cb8011bb80 rfl lV)
   have hx:(nI.map V.str)[(n:Int).toNat]?=À (.str nI[n]):=by rw[ĭ,Ġ,N' cG];rfl
   have he:ab (aC P d) (.bin .Mod (.bin .Add (.var 4) (.var 1)) (.cst (.int 11))) (cS (cS (cS (bJ [.int aN,.int i]) 2 (.str sg)) 3 (.ref H.length)) 4 (.int fG)) bn=À (.int n,bn):=by rw[<-hn];rfl
   show W.retE (bF H.length n _ _ N he hw (by show y1 0xc00810b008 N (iP _)) hx) ⟨_,N,by rw[hn,ĭ,N' cG];rfl,kw⟩
  ·rw[if_neg hc]
   show W.set rfl (W.set (Î:=bn) rfl ?_);obtain ⟨n,hn,lV⟩:=fm (b:=7) (by decide)
   show W.loop (xs:=cz 0 (1+n:Nat) 1) (cV (by show À (V.int (1+fG.fmod 7),bn)=_;rw[hn];rfl) (by show jL (y2 0xc0000000000003b9aca00d111b78012ba0181 N lV (iA _ _))))
    (λj U ae=>U=bN [À (.int aN),À (.int i),À (.str sg),Ã,À (.int fG),À (.str (s8 fG j).1),À (.int (s8 fG j).2)]/\ae=bn/\j<=7)
    (a:=bN [À (.int aN),À (.int i),À (.str sg),Ã,À (.int fG),À (.str ("":Str)),À (.int (fG.fdiv 7))]) (ak ⟨N,N,N,N,N,N,trivial⟩) ⟨N,N,ĥ _⟩ (λz z z z=>bj _) ?_ ?_
   ·rintro j x _ ae hx ⟨rfl,e0,hj⟩
    subst e0;obtain ⟨cG,rfl⟩:=ig hx;show⟨_,rfl,?_⟩;have hl:=uI fG j;show W.set (Î:=ae) rfl (W.set (Î:=ae) (eW (aB rfl) (hG rfl rfl) (by show _+1<=_;show jL (y4 0xc0313b00000000000001000000d010b78112b1212ba1823 rfl (iE hsz) (iL hj) (iE hl) (iA _ _)))) (W.nil ⟨rfl,bN [À (.int aN),À (.int i),À (.str sg),Ã,À (.int fG),À (.str (s8 fG (j+1)).1),À (.int (s8 fG (j+1)).2)],ak ⟨rfl,rfl,rfl,rfl,rfl,rfl,trivial⟩,rfl,rfl,by show jL (y4 0xc78311b78011b2112ba181312ba0182 rfl lV (iT cG) (iA _ _) (iA _ _))⟩))
   ·rintro _ ae ⟨rfl,e0,hj⟩
    subst e0;rw[ii]at hj ⊢;rw[show (fG.fmod 7).toNat=n by rw[hn];rfl];have hx:=uI fG (1+n);generalize (s8 fG (1+n)).1=x at hx;generalize (s8 fG (1+n)).2=Ju;have Wr:0<1+n:=by show jT (y2 0x1c10810b00813ba0181 N (iP _) (iA _ _))
    generalize 1+n=w at hx hj Wr;subst hx;have hx7:x.length<=7:=hj;have GI:0<(x.length:Int):=by show y1 0x1c00811b008 N (iT Wr)
    obtain ⟨sp,X0,O8⟩:=fm GI;rw[X0];show W.set (v:=.int sp) (by rw[<-X0];show aK (aK rfl rfl (FH (by decide) (by decide))) (CL (aB rfl) (by show jL (y2 0xc0113b00000000000001000000d010b781 rfl (iE hsz) (iL hj)))) (dP (by show λq0=>zI (y1 0x1c080811b00812b080 rfl (iT Wr) q0)))) ?_
    -- the names of fG than four
    show W.if_ (bB N N N) (λhc=>?_) λh3=>W.nil ?_
    ·rw[if_pos hc]
     have RS:0<=min (sp:Int) 6/\min (sp:Int) 6<4611686018427387904:=by show(acV _ _).elim (λd0=>⟨y2 0xc10810b00813b01 N (iP _) (acz d0),y1 0x1c00004000000000000000d010b680 N (acq _ _)⟩) λd0=>⟨y1 0xc00813b680 N (acp d0),y1 0x1c00004000000000000000d010b680 N (acq _ _)⟩
     show W.set (Î:=ae) (eW (hG N N) (hG N N) (by show 1+1<=_;show jL (y2 0xc0113b00000000000001000000d012ba18181 N (iE hsz) (iA _ _)))) ?_;have l3:=pZ x 0 (min x.length (min (sp:Int) 6).toNat);have l4:=pZ x (min (sp:Int) 6).toNat (min x.length 6);show W.retE (eW (eW (ju (aB N) N N N (mM RS) (by show jL (y1 0xc03e89010b780 N (iL hj)))) (aB N) ?_) (ju (aB N) N N (qO RS) (mM (by decide)) (by show jL (y1 0xc03e89010b780 N (iL hj)))) ?_) ⟨_,N,N,kw⟩
     ·rw[ac8];show _+(1+1)<=_;show jL (y5 0xc0413b00000000000001000000d010b78110b1212ba1818312ba324 N (iE hsz) (iL hj) (iL l3) (iA _ _) (iA _ _))
     ·rw[ac8,ac8];show _+(1+1)+_<=_;show z' (Ϭ (ϯ l3 _) l4) (by show jL (y5 0xc0413b00000000000001000000d020b78112ba1818212ba21312ba134 N (iE hsz) (iL hj) (iA _ _) (iA _ _) (iA _ _)))
    ·rw[if_neg h3]
     show W.if_ (bB N N N) (λhc=>?_) λhc=>W.nil ?_
     ·rw[if_pos hc]
      show W.retE (eW (hG N N) (aB N) (by show 1+_<=_;show jL (y3 0xc0213b00000000000001000000d010b78112ba1182 N (iE hsz) (iL hj) (iA _ _)))) ⟨_,N,N,kw⟩
     ·rw[if_neg hc]
      show W.if_ (fD N N) (λhc=>?_) λhc=>W.nil ?_
      ·rw[if_pos hc]
       have O9:0<=(sp:Int)/\(sp:Int)<4611686018427387904:=by show⟨y1 0xc00810b008 N (iP _),y2 0x1c00004000000000000000d110b78011b01 N (iL hj) O8⟩
       have Wl:0<=(sp:Int)+1/\(sp:Int)+1<4611686018427387904:=by show⟨y1 0xca1800810b008 N O9.1,y2 0x1c00004000000000000000da18110b78011b01 N (iL hj) O8⟩
       show W.set (Î:=ae) (hG N (aK (aK (JX (aB N) (qp (aB N) (aB N) (by show y1 0xc00810b008 N O9.1) (by show y2 0x1c1011b10 N O8) (by show jL (y1 0xc03e89010b780 N (iL hj))))) N N) N (dP (by decide)))) ?_;have l3:=pZ x 0 (min x.length (sp:Int).toNat);have l4:=pZ x ((sp:Int)+1).toNat x.length;show W.retE (eW (eW (ju (aB N) N N N (mM O9) (by show jL (y1 0xc03e89010b780 N (iL hj)))) (aB N) ?_) (ju (aB N) N N (qO Wl) N (by show jL (y1 0xc03e89010b780 N (iL hj)))) ?_) ⟨_,N,N,kw⟩
       ·show _+1<=_;show jL (y4 0xc0313b00000000000001000000d010b78110b1212ba1823 N (iE hsz) (iL hj) (iL l3) (iA _ _))
       ·rw[ac8];show _+1+_<=_;show z' (Ϭ (ϯ l3 _) l4) (by show jL (y4 0xc0313b00000000000001000000d020b78112ba181212ba123 N (iE hsz) (iL hj) (iA _ _) (iA _ _)))
      ·rw[if_neg hc]
       have ZR:i<4:=ϫ (Ş.mp (ň.mp h3));obtain ⟨hs,uq⟩:=Ip ZR;show W.retE (eW (aB rfl) (bF ae.length i _ _ (bZ (ay rfl (ay rfl (ay (hG rfl rfl) (al (hG rfl rfl))))) (by show 4<=aw;show jL (y1 0xc04813b00000000000001000000d0 rfl (iE hsz)))) (aB rfl) (az _ _) (Ē i) hs) (by show jL (y4 0xc0313b00000000000001000000d010b78110b18212ba213 rfl (iE hsz) (iL hj) (iL uq) (iA _ _)))) ⟨_,rfl,rfl,kw.trans (aF.app _ _)⟩)
 show⟨ae,h,h1⟩
structure bh where
 d:Nat
 ns:List (Str×Int)
noncomputable def Bx(p:Str×Int):V:=.tup [.str p.1,.int p.2]
def bh.v(x:bh):V:=.tup [.int x.d,.tup (x.ns.map Bx)]
def bh.ok(x:bh):Prop:=1<=x.d/\x.d<=7/\x.ns.length<=20
theorem CU(l:List Int):∀a:Int,l.foldl (·+·) a=a+l.foldl (·+·) 0:=by
 induction l with
 |nil=>intro a;simp
 |cons x l ih=>intro a;rw[ϧ,ϧ,ih (a+x),ih (0+x)];show ņ (y3 0xcaa2a1080a2a10 N) (y3 0xca2a10aa2a1080 N)
theorem aV(x:Int)(l:List Int):bg (x::l)=x+bg l:=by unfold bg;rw[ϧ,CU];show ņ (y2 0xca10a1a008 N) (y2 0xca1a008a10 N)
section
variable{Á:ax}{aD:fv}{U:aJ}{H Î Û bI:ag}{Q:cw->aJ->ag->Prop}
theorem iw{a b:CE}{p q:Bool}(ha:ab Á a U H=À (.bool p,H))(hb:ab Á b U H=À (.bool q,H)):ab Á (.and a b) U H=À (.bool (p&&q),H):=by
 cases p with
 |true=>show yX ha hb
 |false=>show t0 ha
end
def cK(ns:List (Str×Int))(O:Str):Int:=bg ((ns.filter λp=>p.1==O).map (·.2))
def wz(ds:List bh)(O:Str)(t:Nat):Int:=bg ((ds.filter λx=>decide (t<x.d)).map λx=>cK x.ns O)
def f0(bs:List cn)(O:Str)(t:Nat):Int:=bg ((bs.filter λb=>b.n==O&&decide ((t:Int)<b.l)).map cn.a)
def Yy(aN:Int)(ns:List (Str×Int)):Prop:=∀p∈ns,∃k,k<12/\p.1=gJ aN k
def bh.okN(aN:Int)(x:bh):Prop:=x.ok/\Yy aN x.ns
theorem Hm{P:List bq}{d iN:Nat}{H:ag}{U:aJ}{q m:Nat}{aN c:Int}{i0 i1:Nat}(hN:P[iN]?=À iY)(qI:1<=m)(hm:m<=12)(hq:H[q]?=À (.lst [.int aN,.int m]))(g1:U i1=À (.ref q))(g5:U i0=À (.int c)):
  ∃O ae,ab (aC P (d+1)) (.call iN (.cons (.idx (.var i1) (.cst (.int 0))) (.cons (.bin .Mod (.bin .Mod (.var i0) (.cst (.int 60))) (.idx (.var i1) (.cst (.int 1)))) .nil))) U H=À (.str O,ae)/\aF H ae/\∃k,k<12/\O=gJ aN k:=by
 obtain ⟨k,hk,jY⟩:=fm (b:=m) (by show y1 0x1c00810b018 rfl (iL qI));obtain ⟨ae,h,h1⟩:=l5 hN aN k (by show jT (y2 0x1c00649110bc8011b01 rfl (iL hm) jY));show⟨_,ae,af (ay (bF q 0 _ _ (aB g1) rfl hq (by decide) rfl) (al ?_)) h,h1,k,by show jT (y2 0x1cc8110bc8011b01 rfl (iL hm) jY),rfl⟩;rw[<-hk];show aK (aK (aB g5) rfl (dP (by decide))) (bF q 1 _ _ (aB g1) rfl hq (by decide) rfl) (dP (by show λq0=>zI (y1 0x1c080810b01812b080 rfl (iL qI) q0)))
section
variable{Á:ax}{aD:fv}{U:aJ}{H Î:ag}{Q:cw->aJ->ag->Prop}
theorem W.setStr{o i v:CE}(r:Nat)(k:Str)(l:List (Str×V))(x:V)(hv:ab Á v U H=À (x,H))(ho:ab Á o U H=À (.ref r,H))(hi:ab Á i U H=À (.str k,H))(hr:H[r]?=À (.ds l))(hz:l.length<=aw)
  (c:W Á aD U (H.set r (.ds (dA l k x))) Q):W Á (.cons (.setItem o i v) aD) U H Q:=W.setV hv ho hi (dI N (dI hr (if_pos hz))) c
end
def Au(l:List Str):List (Str×V):=l.foldl (λacc n=>dA acc n (.bool Æ)) []
theorem x7(l:List Str)(n:Str):Au (l++[n])=dA (Au l) n (.bool Æ):=by unfold Au;rw[ac5];rfl
theorem nZ{v:V}{k:Str}:∀(l:List (Str×V)),(l.map (·.1)).Nodup->((dA l k v).map (·.1)).Nodup/\∀x∈(dA l k v).map (·.1),x=k\/x∈l.map (·.1)
 |[],_=>by show ([k]:List Str).Nodup/\∀x∈([k]:List Str),_;show⟨ϛ.mpr ⟨(λh=>nomatch h),adz⟩,λx hx=>.inl (W'.mp hx)⟩
 |(a,b)::r,h=>by
  obtain ⟨h1,h2⟩:=ϛ.mp (show (a::r.map (·.1)).Nodup from h);obtain ⟨h3,h4⟩:=nZ r h2;show ((if a=k then (a,v)::r else (a,b)::dA r k v).map (·.1)).Nodup/\∀x∈(if a=k then (a,v)::r else (a,b)::dA r k v).map (·.1),_;by_cases hk:a=k
  ·rw[if_pos hk]
   show⟨h,λx hx=>.inr hx⟩
  ·rw[if_neg hk]
   show⟨ϛ.mpr ⟨λhm=>?_,h3⟩,λx hx=>?_⟩
   ·rcases h4 a hm with e|e
    ·show hk e
    ·show h1 e
   ·rcases ą.mp hx with e|e
    ·show .inr (ą.mpr (.inl e))
    ·rcases h4 x e with e|e
     ·show .inl e
     ·show .inr (J' _ e)
theorem xZ:∀(l acc:List Str),((Au acc).map (·.1)).Nodup/\(∀x∈(Au acc).map (·.1),x∈acc)->((Au (acc++l)).map (·.1)).Nodup/\∀x∈(Au (acc++l)).map (·.1),x∈acc++l
 |[],acc,h=>by rw[Ĭ];show h
 |n::l,acc,h=>by
  have:=xZ l (acc++[n]) (by
   obtain ⟨h1,h2⟩:=nZ (Au acc) h.1;rw[x7];show⟨h1,λx hx=>?_⟩;rcases h2 x hx with e|e
   ·rw[e];show Ŭ _ G'
   ·show Ŵ _ (h.2 x e))
  rwa [ü]at this
theorem xb{α:Type}[DecidableEq α]:∀(l m:List α),l.Nodup->(∀x∈l,x∈m)->l.length<=m.length
 |[],_,_,_=>ĥ _
 |x::l,m,h,hm=>by obtain ⟨h1,h2⟩:=ϛ.mp h;have hx:=hm x G';have ih:=xb l (m.erase x) h2 λy hy=>(List.mem_erase_of_ne (λe=>h1 (by rw[<-e];show hy))).mpr (hm y (J' _ hy));have wM:=List.length_pos_of_mem hx;rw[List.length_erase_of_mem hx]at ih;rw[Ϫ];show jL (y4 0xc3210b1012ba180212be1831 rfl (iL ih) (iA _ _) (Ϯ (jL (y1 0xc01811b008 rfl (iT wM)))))
def NL(aN:Int)(l:List Str):Prop:=∀n∈l,∃k,k<12/\n=gJ aN k
theorem oG{aN:Int}{l:List Str}(h:NL aN l):(Au l).length<=12:=by
 obtain ⟨h1,h2⟩:=xZ l [] ⟨adz,λx hx=>nomatch hx⟩;rw[afq]at h1 h2
 have:=xb _ ((č 12).map (gJ aN)) h1 λx hx=>by obtain ⟨k,hk,e⟩:=h x (h2 x hx);show ŗ.mpr ⟨k,Ũ.mpr hk,e.symm⟩
 rwa [H',H',Ľ]at this
noncomputable def pq(ds:List bh):List Str:=ds.flatMap λx=>x.ns.map (·.1)
theorem sn(l:List bh)(x:bh):pq (l++[x])=pq l++x.ns.map (·.1):=by unfold pq;rw[aeO];simp
theorem pG{aN:Int}{ds:List bh}(h:∀x∈ds,x.okN aN):NL aN (pq ds):=λn hn=>by obtain ⟨x,hx,hp⟩:=adT.mp hn;obtain ⟨p,R5,rfl⟩:=ŗ.mp hp;show(h x hx).2 p R5
theorem tw(l:List Str):(jO l).length=l.length:=by
 unfold jO;by_cases h:∃m:List Str,m.Perm l/\nU m
 ·rw[dif_pos h];show(adL h).1.length_eq
 ·rw[dif_neg h]
theorem pc{H:ag}{r:Nat}{l:List (Str×V)}(hr:H[r]?=À (.ds l))(hz:l.length<=12):gE .sorted [.ref r] H=À (.ref H.length,H++[.lst ((jO (l.map (·.1))).map .str)]):=by show (ϡ (ϡ H[r]? E5) λl=>if l.length<64 then rQ H ((jO (l.map (·.1))).map .str) else Ã)=_;rw[hr];show (if l.length<64 then rQ H ((jO (l.map (·.1))).map .str) else Ã)=_;rw[if_pos (by show jT (y1 0x1c00409010bc80 N (iL hz)))];show if_pos (by rw[H',tw,H'];unfold aw;show jL (y1 0xc00000000000001000000d010bc80 N (iL hz)))
def kO(Á:ax)(aD:fv)(H:ag)(Q:cw->aJ->ag->Prop)(U:aJ)(t:jQ)(kx:CE)(aN:Int)(r:Nat)(ds:List bh):Prop:=∀(MN:∀x∈ds,x.okN aN) (g0:U 0=À (.tup (ds.map bh.v))) (g1:U 1=À (.ref r)) (hr:H[r]?=À (.ds [])) (ht:∀(p:Str×Int) (U:aJ),U 1=À (.ref r)->∃aU,t.put (Bx p) U=À aU/\aU 1=À (.ref r)/\∀H,ab Á kx aU H=À (.str p.1,H)) (k:∀ae,(∀i m,i≠r->H[i]?=À m->ae[i]?=À m)->ae[r]?=À (.ds (Au (pq ds)))->W Á aD (bN [Ã,À (.ref r)]) ae Q),W Á (.cons (.for_ (.one 2) (.ex (.var 0)) (.cons (.for_ t (.ex (.idx (.var 2) (.cst (.int 1)))) (.cons (.setItem (.var 1) kx (.cst (.bool Æ))) .nil)) .nil)) aD) U H Q
namespace gather_WH
def kc:=hc (Uu kO) (λz z z=>Ã,.nil,[],λz z z=>True,λz=>Ã,.one 0,.dict0,0,0,[])
def Á:=kc.1
def aD:=kc.2.1
def H:=kc.2.2.1
def Q:=kc.2.2.2.1
def U:=kc.2.2.2.2.1
def t:=kc.2.2.2.2.2.1
def kx:=kc.2.2.2.2.2.2.1
def aN:=kc.2.2.2.2.2.2.2.1
def r:=kc.2.2.2.2.2.2.2.2.1
def ds:=kc.2.2.2.2.2.2.2.2.2
theorem kt:kO Á aD H Q U t kx aN r ds:=by
 intro MN g0 g1 hr ht k;have hsz:aw=16777216:=rfl;have Kg:=pG MN
 show W.loop (cj (aB g0))
  (λj U ae=>U=bN [Ã,À (.ref r)]/\(∀i m,i≠r->H[i]?=À m->ae[i]?=À m)/\ae[r]?=À (.ds (Au (pq (ds.take j)))))
  (a:=bN [Ã,À (.ref r)]) (ak ⟨g1,trivial⟩) ⟨N,λz z z h=>h,by rw[aeE];show hr⟩ (λz z z z=>bj _) ?_ ?_
 ·rintro j x _ bn GI ⟨rfl,hK,hD⟩
  obtain ⟨x,hx,rfl⟩:=uJ GI;show⟨_,rfl,?_⟩
  have O1:NL aN (pq (ds.take j)++x.ns.map (·.1)):=by rw[<-sn,<-be hx];show pG λy hy=>MN y (ű hy)
  show W.loop (cj (aP 1 _ _ (aB N) N (by decide) N))
   (λi U ae=>U=bN [Ã,À (.ref r)]/\(∀i m,i≠r->H[i]?=À m->ae[i]?=À m)/\ae[r]?=À (.ds (Au (pq (ds.take j)++(x.ns.take i).map (·.1)))))
   (a:=bN [Ã,À (.ref r)]) (ak ⟨N,trivial⟩) ⟨N,hK,by rw[aeE,List.map_nil,Ĭ];show hD⟩ (λz z z z=>bj _) ?_ ?_
  ·rintro i y _ cY hy ⟨rfl,MH,Rs⟩
   obtain ⟨p,hp,rfl⟩:=uJ hy;obtain ⟨aU,GD,Xn,EK⟩:=ht p (bN [Ã,À (.ref r)]) rfl;show⟨aU,GD,?_⟩
   have Pc:NL aN (pq (ds.take j)++(x.ns.take i).map (·.1)):=λn hn=>by
    rcases Ģ.mp hn with h|h
    ·show O1 n (Ŵ _ h)
    ·obtain ⟨p,hp,rfl⟩:=ŗ.mp h
     show O1 _ (Ŭ _ (ŗ.mpr ⟨p,ű hp,N⟩))
   have C8:=oG Pc;show W.setStr r p.1 _ (.bool Æ) N (aB Xn) (EK _) Rs (by show jL (y2 0xc0113b00000000000001000000d010bc81 N (iE hsz) (iL C8))) (W.nil ⟨N,bN [Ã,À (.ref r)],ak ⟨Xn,trivial⟩,N,λi m hi e=>?_,?_⟩)
   ·rw[ab6 (Ne.symm hi)];show MH i m hi e
   ·rw[eO Rs,be hp,ŉ,<-ü,<-x7];rfl
  ·rintro _ cY ⟨rfl,MH,Rs⟩
   rw[H',Ň]at Rs;show W.nil ⟨N,bN [Ã,À (.ref r)],ak ⟨N,trivial⟩,N,MH,by rw[Rs,be hx,sn]⟩
 ·rintro _ bn ⟨rfl,hK,hD⟩
  rw[H',Ň]at hD;show k bn hK hD
end gather_WH
theorem wD{Á:ax}{aD:fv}{Q:cw->aJ->ag->Prop}{t:jQ}{kx:CE}{ds:List bh}:kO Á aD H Q U t kx aN r ds:=hk (P:=Uu kO) gather_WH.kt (Á,aD,H,Q,U,t,kx,aN,r,ds)
theorem uA{H ae:ag}{m:bu}(h:∀i m',i≠H.length->(H++[m])[i]?=À m'->ae[i]?=À m'):aF H ae:=λi o e=>h i o (ń (Ğ.mp e).1) (aF.app _ _ _ _ e)
structure Pk where
 n:Str
 a:Int
 p:Int
 l:Int
noncomputable def Pk.v(b:Pk):V:=.tup [.str b.n,.int b.a,.int b.p,.int b.l]
noncomputable def Hx(x:Int):Int:=if x.fmod 9=0 then (x.fdiv 9).fmod 1000001 else if x.fmod 9=1 then 0 else (x.fdiv 9).fmod 30
theorem Hy{P:List bq}{k d:Nat}{H:ag}(hk:P[k]?=À oR)(x:Int):aC P (d+1) k [.int x] H=À (.ok (.int (Hx x)),H):=by
 show gs hk N (W.if_ (fD N N) (λhc=>?_) λhc=>W.nil ?_)
 ·show W.retE N ⟨_,N,by rw[Hx,if_pos hc],N⟩
 ·show W.if_ (fD N N) (λGq=>?_) λGq=>W.nil ?_
  ·show W.retE N ⟨_,N,by rw[Hx,if_neg hc,if_pos Gq],N⟩
  ·show W.retE N ⟨_,N,by rw[Hx,if_neg hc,if_neg Gq],N⟩
def Yj(x:Pk×Int):V:=.tup [x.1.v,.int x.2]
theorem Hw:∀(ps:List Pk) (cs:List Int),bz (ps.map Pk.v) (cs.map .int)=(ps.zip cs).map Yj
 |[],_=>rfl
 |_::_,[]=>rfl
 |p::ps,c::cs=>congrArg (V.tup [p.v,.int c]::·) (Hw ps cs)
theorem PR{Á:ax}{a b:CE}{U:aJ}{H:ag}{ps:List Pk}{cs:List Int}(ha:ab Á a U H=À (.tup (ps.map Pk.v),H))(hb:ab Á b U H=À (.tup (cs.map .int),H)):cD Á (.zip a b) U H=À ((ps.zip cs).map Yj,[(H.length,.own)],H++[.own]):=by rw[<-Hw];show Ic ha hb
theorem Do{H:ag}{l:List V}(hz:l.length<=aw):gE .list [.tup l] H=À (.ref H.length,H++[.lst l]):=if_pos hz
noncomputable def G1(bs:List cn)(i:Nat):Int:=((bs[i]?).map cn.l).getD 0
noncomputable def bS(lf:List Int)(i:Nat):Int:=(lf[i]?).getD 0
def JR(bs:List cn)(lf:List Int)(O:Str)(dy:Int)(i:Nat):Bool:=match bs[i]? with
 |some b=>b.n==O&&(decide (dy<=b.l)&&decide (0<bS lf i))
 |none=>Ê
def Bf(bs:List cn)(i j:Nat):Prop:=G1 bs i<G1 bs j\/(G1 bs i=G1 bs j/\i<j)
theorem Bf.asym{bs:List cn}{i j:Nat}(h:Bf bs i j):¬ Bf bs j i:=λk=>h.elim (λa=>k.elim (λb=>adk _ (adg a b)) λb=>afI a b.1.symm) λa=>k.elim (λb=>afI b a.1.symm) λb=>Ţ _ (Ϣ a.2 b.2)
def Dl(bs:List cn)(i:Nat):KP:=([G1 bs i,(i:Int)],(i:Int))
def Qu(bs:List cn)(l:List Nat):List Nat:=(fz (l.map (Dl bs))).map λp=>p.2.toNat
theorem BR(bs:List cn)(l:List Nat):fz (l.map (Dl bs))=(Qu bs l).map (Dl bs):=by
 unfold Qu;rw[Ŧ]
 conv=>lhs;rw[<-afM (fz (l.map (Dl bs)))]
 show ύ λp hp=>aE (ŗ.mp ((fK _).mem_iff.mp hp)) λi z q3=>?_;apply fR q3;rfl
theorem rG(bs:List cn)(l:List Nat):(Qu bs l).Perm l:=by
 have h:=(fK (l.map (Dl bs))).map λp=>p.2.toNat;rw[Ŧ]at h
 have e:((λp:KP=>p.2.toNat) ∘ Dl bs)=id:=by
  funext i;show ĭ i
 rw[e,afM]at h;show h
theorem Ss{bs:List cn}{i j:Nat}(h:Bf bs i j):ll (Dl bs i) (Dl bs j)=Æ:=by show ab0.mpr (.inl (ab0.mpr (h.imp (λa=>decide_eq_true a) λa=>Ł.mpr ⟨beq_iff_eq.mpr a.1,ab0.mpr (.inl (decide_eq_true (ŧ.mpr a.2)))⟩)))
theorem Sr{bs:List cn}{i j:Nat}(h:nR (Dl bs i) (Dl bs j))(eT:i≠j):Bf bs i j:=by
 have n:¬ Bf bs j i:=λk=>Ķ (h.symm.trans (Ss k));rcases aeb (G1 bs i) (G1 bs j) with q|q|q
 ·show .inl q
 ·show .inr ⟨q,(Nat.lt_or_gt_of_ne eT).elim id λz=>absurd (.inr ⟨q.symm,z⟩) n⟩
 ·show absurd (.inl q) n
theorem PU{bs:List cn}{l:List Nat}(hn:l.Nodup):(Qu bs l).Pairwise (Bf bs):=by have h1:=jD (l.map (Dl bs));rw[BR,aed]at h1;have h2:(Qu bs l).Pairwise (·≠·):=(rG bs l).nodup_iff.mpr hn;show(h1.and h2).imp λ⟨a,b⟩=>Sr a b
def FR(bs:List cn)(lf:List Int)(O:Str)(dy:Int):List Nat:=(č bs.length).filter (JR bs lf O dy)
def bE(bs:List cn)(lf:List Int)(O:Str)(dy:Int):List Nat:=Qu bs (FR bs lf O dy)
theorem tY{bs:List cn}{lf:List Int}{O:Str}{dy:Int}{i:Nat}(h:JR bs lf O dy i=Æ):i<bs.length:=by
 unfold JR at h;cases e:bs[i]? with
 |none=>rw[e]at h;cases h
 |some b=>show(Ğ.mp e).1
theorem lO{bs:List cn}{lf:List Int}{O:Str}{dy:Int}{i:Nat}:i∈bE bs lf O dy↔JR bs lf O dy i=Æ:=by rw[bE,(rG _ _).mem_iff,FR,ť,Ũ];show⟨λh=>h.2,λh=>⟨tY h,h⟩⟩
theorem Mo(bs:List cn)(lf:List Int)(O:Str)(dy:Int):(bE bs lf O dy).Pairwise (Bf bs):=PU (adU.filter _)
theorem Op(bs:List cn)(lf:List Int)(O:Str)(dy:Int):(bE bs lf O dy).length<=bs.length:=by rw[bE,(rG _ _).length_eq,FR];show z' (abM _ _) (by rw[Ľ];show đ _)
theorem pO{lf:List Int}{i j:Nat}{x:Int}(h:i<lf.length):bS (lf.set i x) j=if i=j then x else bS lf j:=by
 unfold bS;rw[afb];by_cases zy:i=j
 ·apply fR zy;rw[if_pos N,if_pos h,if_pos N];rfl
 ·rw[if_neg zy,if_neg zy]
structure Tk where
 ps:List (Nat×Int)
 lf:List Int
 am:Int
def nF(t:Tk)(i:Nat):Int:=min t.am (bS t.lf i)
def r9(t:Tk)(i:Nat):Tk:=if 0<t.am then ⟨t.ps++[(i,nF t i)],t.lf.set i (bS t.lf i-nF t i),t.am-nF t i⟩ else t
theorem nu:∀(l:List Nat) (t:Tk),¬ 0<t.am->l.foldl r9 t=t
 |[],t,_=>rfl
 |i::l,t,h=>by rw[ϧ,show r9 t i=t from if_neg h];show nu l t h
theorem BV(t:Tk)(i:Nat):(r9 t i).lf.length=t.lf.length:=by
 unfold r9;split
 ·show acC
 ·rfl
theorem nv:∀(l:List Nat) (t:Tk),(l.foldl r9 t).lf.length=t.lf.length
 |[],t=>rfl
 |i::l,t=>by rw[ϧ,nv l,BV]
def nQ(bs:List cn)(lf:List Int)(O:Str)(am dy:Int):Tk:=(bE bs lf O dy).foldl r9 ⟨[],lf,am⟩
noncomputable def c8{α β:Type}(f:α->β->Except Str α):α->List β->Except Str α
 |a,[]=>.ok a
 |a,x::r=>match f a x with
  |.ok b=>c8 f b r
  |.error e=>.error e
theorem n8{α β:Type}{f:α->β->Except Str α}:∀(l m:List β) (a:α),c8 f a (l++m)=match c8 f a l with|.ok b=>c8 f b m|.error e=>.error e
 |[],m,a=>rfl
 |x::l,m,a=>by
  show (match f a x with|.ok b=>c8 f b (l++m)|.error e=>.error e)=match (match f a x with|.ok b=>c8 f b l|.error e=>.error e) with|.ok b=>c8 f b m|.error e=>.error e
  cases f a x with
  |error e=>rfl
  |ok b=>show n8 l m b
theorem zi{α β:Type}{f:α->β->Except Str α}{l:List β}{a b:α}{x:β}(h:c8 f a l=.ok b):c8 f a (l++[x])=f b x:=by rw[n8,h];show (match f b x with|.ok b=>afP b|.error e=>.error e)=f b x;cases f b x<;>rfl
def I8(bs:List cn)(dy:Int)(st:List Int×List (Nat×Int))(p:Str×Int):Except Str (List Int×List (Nat×Int)):=
 if 0<(nQ bs st.1 p.1 p.2 dy).am then .error p.1 else .ok ((nQ bs st.1 p.1 p.2 dy).lf,st.2++(nQ bs st.1 p.1 p.2 dy).ps)
noncomputable abbrev Ja:=List Int×List (List (Nat×Int))
def ql(bs:List cn)(ds:List bh)(st:Ja)(k:Nat):Except Str Ja:=match ds[k]? with
 |none=>.ok st
 |some x=>match c8 (I8 bs x.d) (st.1,[]) x.ns with
  |.ok p=>.ok (p.1,st.2.set k p.2)
  |.error e=>.error e
noncomputable def rZ(ds:List bh)(k:Nat):Nat:=((ds[k]?).map bh.d).getD 0
def jz(ds:List bh):List Nat:=(č 7).flatMap λt=>(č ds.length).filter λk=>rZ ds k==t+1
noncomputable def AR(bs:List cn)(ds:List bh):Ja:=(bs.map cn.a,Ņ ds.length [])
def sK(bs:List cn)(ds:List bh):Except Str Ja:=c8 (ql bs ds) (AR bs ds) (jz ds)
def Qq(ds:List bh)(i:Nat):KP:=([(rZ ds i:Int)],(i:Int))
theorem pS{ds:List bh}(hd:∀x∈ds,x.ok){k:Nat}:k∈jz ds↔k<ds.length:=by
 unfold jz;rw[adT];show⟨λ⟨t,_,h⟩=>Ũ.mp (ť.mp h).1,λh=>?_⟩;have hx:=hd _ (ŵ h);have e:rZ ds k=ds[k].d:=by unfold rZ;rw[N' h];rfl
 show im hx λh1 h2 z=>⟨ds[k].d-1,Ũ.mpr (by show jT (y2 0x1c78110b78012be1801 N (iL h2) (Ϯ (jL (y1 0xc01810b018 N (iL h1)))))),ť.mpr ⟨Ũ.mpr h,?_⟩⟩;rw[e,beq_iff_eq];show(acX h1).symm
theorem uQ(ds:List bh):(jz ds).Pairwise λi j=>rZ ds i<rZ ds j\/(rZ ds i=rZ ds j/\i<j):=by
 unfold jz;rw[List.pairwise_flatMap];show⟨λt z=>?_,?_⟩
 ·show((ac0).filter _).imp_of_mem λ{i j} hi hj h=>.inr ⟨?_,h⟩
  have h1:=beq_iff_eq.mp (ť.mp hi).2;have h2:=beq_iff_eq.mp (ť.mp hj).2;show Ů (z' (Ŏ h1) (Ŏ h2.symm)) (z' (Ŏ h2) (Ŏ h1.symm))
 ·show(ac0).imp λ{t u} htu i hi j hj=>.inl ?_
  have h1:=beq_iff_eq.mp (ť.mp hi).2;have h2:=beq_iff_eq.mp (ť.mp hj).2;show jT (y6 0x1c4211b1012b3213b5412ba180313ba1815 N (iT htu) (iE h1) (iE h2) (iA _ _) (iA _ _))
theorem Ht{ds:List bh}(hd:∀x∈ds,x.ok):fz ((č ds.length).map (Qq ds))=(jz ds).map (Qq ds):=by
 show(xy ?_ ?_).symm
 ·show List.Perm.map _ ((adf ((uQ ds).imp λh q=>by subst q;show h.elim (λd0=>zI (y1 0x1c080811b00 N (iT d0))) λd0=>zI (y1 0x1c080811b00 N (iT d0.2))) adU).mpr λk=>(pS hd).trans Ũ.symm)
 ·rw[aed]
  show(uQ ds).imp λ{i j} h=>?_;unfold nR ll Qq
  simp only[ch,aem,Bool.not_true,adF,adl,acF,decide_eq_false_iff_not,adM,ads,decide_eq_true_eq]
  show h.elim (λd0=>⟨ň.mpr (y2 0xc1011b10 N (iT d0)),.inl (y2 0x1c1011b10 N (iT d0))⟩) λd0=>⟨ň.mpr (y2 0xc1012b10 N (iE d0.1)),.inr (ň.mpr (y2 0xc1011b10 N (iT d0.2)))⟩
section
variable{Á:ax}{aD:fv}{U aU:aJ}{H Î Û bI:ag}{Q:cw->aJ->ag->Prop}
theorem qo{f:Nat}{as:gG}{vs:List V}{c:Nat}{w:Str}(h:bP Á as U H=À (vs,Î))(hc:Á f vs Î=À (.exc c w,Û)):ab Á (.call f as) U H=Ã/\dZ Á (.call f as) U H=À (c,w,Û):=⟨bM h (bM hc N),(show bY (bP Á as U H) (λvs Î=>bY (Á f vs Î) λr Û=>J0 Û r)=_ from bM h (bM hc N))⟩
theorem W.raise{e:CE}{c:Nat}{w:Str}(h:ab Á e U H=À (.str w,Î))(k:Q (.exc c w) U Î):W Á (.cons (.raise_ c e) aD) U H Q:=
 W.out (fl:=.exc c w) (λq=>nomatch q) (λr hl=>by rw[wg,aI e hl h];rfl) k
theorem W.extend{o e:CE}(r q:Nat)(l m:List V)(ho:ab Á o U H=À (.ref r,H))(hr:H[r]?=À (.lst l))(he:ab Á e U H=À (.ref q,Î))(R4:pP Î (.ref r) (.ref q)=À (.none,Î.set r (.lst (l++m))))
  (k:W Á aD U (Î.set r (.lst (l++m))) Q):W Á (.cons (.expr (.meth .extend o (.cons e .nil))) aD) U H Q:=W.expr (A1 (.inr N) ho hr he R4) k
def RX(R:yA->ag->Prop)(fl:cw)(_:aJ)(H:ag):Prop:=(∃v,fl=.ret v/\R (.ok v) H)\/∃c w,fl=.exc c w/\R (.exc c w) H
theorem Ow{P:List bq}{d k:Nat}{f:bq}{as:List V}(hk:P[k]?=À f)(ha:as.length=f.arity){R:yA->ag->Prop}(h:W (aC P d) f.body (bJ as) H (RX R)):∃r ae,aC P (d+1) k as H=À (r,ae)/\R r ae:=by
 show EC (h _ (Le.refl _)) λfl b aU ae z h1 h2=>?_;rcases h2 with ⟨v,rfl,h2⟩|⟨c,w,rfl,h2⟩
 ·show⟨_,ae,by rw[pI hk ha,h1];rfl,h2⟩
 ·show⟨_,ae,by rw[pI hk ha,h1];rfl,h2⟩
theorem wf{it:jm}{i:Nat}{k:KX}{xs:List V}{w:List (Nat×bu)}{r:Option (V×ag)}(h:cD Á it U H=À (xs,w,Î))(hs:BP it w=Æ)(hk:l8 k i U Î xs=r):ab Á (.sortK it i k) U H=r:=tL h ((if_pos hs).trans hk)
end
theorem tj:∀{l:List Nat} {a:Int},(∀i∈l,a<(i:Int))->l.Pairwise (· < ·)->gF a (l.map λi:Nat=>(i:Int))=Æ
 |[],_,_,_=>rfl
 |i::l,a,h1,h2=>by have h3:=Ő.mp h2;show (decide (a<(i:Int))&&gF (i:Int) (l.map λi:Nat=>(i:Int)))=Æ;rw[decide_eq_true (h1 i G'),adm];show tj (λj hj=>by have:=h3.1 j hj;(show ŧ.mpr ‹_›)) h3.2
theorem G0{k:KX}{i:Nat}{U:aJ}{H:ag}{f:Nat->KP}:∀{l:List Nat},(∀n∈l,∃v,dq k (cS U i (.int n)) H=À v/\r7 v=À (f n).1/\(f n).2=n)->o0 k i U H (l.map λi:Nat=>(i:Int))=À (l.map f)
 |[],_=>rfl
 |n::l,h=>by show eJ (h n G') λv h1 h2 h3=>?_;show (dq k (cS U i (.int n)) H).bind _=_;rw[h1];show (r7 v).bind _=_;rw[h2];show (o0 k i U H (l.map λi:Nat=>(i:Int))).bind _=_;rw[G0 λm hm=>h m (J' _ hm)];show À (((f n).1,(n:Int))::l.map f)=_;rw[<-h3];rfl
theorem HM{f:Nat->KP}{c:Nat}(h:∀n,(f n).1.length=c)(l:List Nat):gR (l.map f)=Æ:=by unfold gR;rw[ϩ];intro p hp;rw[ϩ];intro q hq;show aE (ŗ.mp hp) λi z q3=>?_;apply fR q3;show aE (ŗ.mp hq) λj z q3=>?_;apply fR q3;rw[h,h];show beq_self_eq_true _
theorem sZ(l:List Nat):cB (l.map λi:Nat=>V.int i)=À (l.map λi:Nat=>(i:Int)):=by
 have e:(l.map λi:Nat=>V.int i)=(l.map λi:Nat=>(i:Int)).map V.int:=by rw[Ŧ];rfl
 rw[e];show lX _
theorem pb{k:KX}{i:Nat}{U:aJ}{H:ag}{f:Nat->KP}{l:List Nat}{c:Nat}(hp:l.Pairwise (· < ·))(hl:l.length<=10000000)(hc:∀n,(f n).1.length=c)(h:∀n∈l,∃v,dq k (cS U i (.int n)) H=À v/\r7 v=À (f n).1/\(f n).2=n){m:List Nat}(hm:fz (l.map f)=m.map f)(hf:∀n∈m,(f n).2=n):
  l8 k i U H (l.map λi:Nat=>V.int i)=À (.ref H.length,H++[.lst (m.map λi:Nat=>V.int i)]):=by
 have TC:m.length=l.length:=by have:=congrArg ada hm;rw[(fK _).length_eq,H',H']at this;show this.symm
 unfold l8;rw[sZ];show (if _ then _ else _)=_;rw[if_pos ⟨tj (λi z=>by (show Ē _)) hp,by rw[H'];show hl⟩,G0 h];show (if gR (l.map f) then _ else _)=_;rw[if_pos (HM hc l),hm,Ŧ]
 have e:(m.map ((λp:KP=>V.int p.2) ∘ f))=m.map λi:Nat=>V.int i:=ύ λn hn=>by show V.int (f n).2=_;rw[hf n hn]
 rw[e];unfold rQ;show if_pos (by rw[H',TC];show z' hl (by decide))
def mu(L:Nat)(H ae:ag):Prop:=∀(i:Nat) (o:bu),i≠L->H[i]?=À o->ae[i]?=À o
theorem mu.trans{L:Nat}{a b c:ag}(x:mu L a b)(y:mu L b c):mu L a c:=λi o hi h=>y i o hi (x i o hi h)
theorem aF.b{L:Nat}{a b:ag}(x:aF a b):mu L a b:=λi o z h=>x i o h
theorem dh{H:ag}{i j:Nat}{m:bu}(h:i≠j):(H.set i m)[j]?=H[j]?:=ab6 h
def fu(bs:List cn)(i:Nat):cn:=(bs[i]?).getD Jw
theorem qe{bs:List cn}{i:Nat}(h:i<bs.length):bs[i]?=À (fu bs i):=by unfold fu;rw[N' h];rfl
theorem yG{bs:List cn}{i:Nat}(h:i<bs.length):(bs.map cn.v)[((i:Nat):Int).toNat]?=À (fu bs i).v:=by rw[ĭ,Ġ,qe h];rfl
theorem KH{bs:List cn}{i:Nat}(h:i<bs.length):G1 bs i=(fu bs i).l:=by unfold G1;rw[qe h];rfl
theorem OC{bs:List cn}{lf:List Int}{O:Str}{dy:Int}{i:Nat}(h:i<bs.length):JR bs lf O dy i=((fu bs i).n==O&&(decide (dy<=(fu bs i).l)&&decide (0<bS lf i))):=by unfold JR;rw[qe h]
theorem zX{lf:List Int}{i:Nat}(h:i<lf.length):(lf.map V.int)[((i:Nat):Int).toNat]?=À (.int (bS lf i)):=A6 h
theorem gc{α:Type}{f:α->V}(x0:α):∀(l:List α) (j:Nat),dQ j (l.map f)=(č l.length).map λi=>.tup [.int ((j+i:Nat):Int),f ((l[i]?).getD x0)]
 |[],j=>rfl
 |b::l,j=>by show V.tup [.int j,f b]::dQ (j+1) (l.map f)=_;rw[gc x0 l (j+1),Ϫ,aes,œ,Ŧ];show congr (congrArg _ N) (ύ λi z=>?_);show V.tup [.int ((j+1+i:Nat):Int),f ((l[i]?).getD x0)]=V.tup [.int ((j+(i+1):Nat):Int),f (((b::l)[i+1]?).getD x0)];rw[Ϸ j 1 i];rfl
theorem kC{Á:ax}{U:aJ}{H Î:ag}{e:CE}{r:Nat}{l:List V}(h:ab Á e U H=À (.ref r,Î))(hr:Î[r]?=À (.lst l)):cD Á (.ex e) U H=À (l,[(r,.lst l)],Î):=kW.trans (bM h (dI (dI (cC hr) N) N))
theorem KC{U:aJ}{H:ag}{bs:List cn}{n:Nat}(h0:U 0=À (.tup (bs.map cn.v)))(hn:n<bs.length):∃v,dq (.pair (.idx (.idx (.var 0) (.var 5)) (.num 2)) (.var 5)) (cS U 5 (.int n)) H=À v/\r7 v=À (Dl bs n).1/\(Dl bs n).2=n:=by
 show⟨.tup [.int (G1 bs n),.int n],?_,N,N⟩;rw[KH hn]
 have e1:dq (.idx (.var 0) (.var 5)) (cS U 5 (.int n)) H=À (fu bs n).v:=by show ((cS U 5 (.int n)) 0).bind _=_;rw[show (cS U 5 (.int n)) 0=U 0 from N,h0];show kP (Ē _) (yG hn)
 show ((dq (.idx (.var 0) (.var 5)) (cS U 5 (.int n)) H).bind λx=>(dq (.num 2) (cS U 5 (.int n)) H).bind λy=>lE x y H).bind _=_;rw[e1];rfl
noncomputable abbrev cy(l:List Nat):List V:=l.map λi:Nat=>V.int i
theorem Pv{l:List Nat}{k:Nat}{x:V}(h:(cy l)[k]?=À x):∃i:Nat,l[k]?=À i/\x=.int i:=by rw[cy,Ġ,ϱ]at h;obtain ⟨i,h1,h2⟩:=h;show⟨i,h1,h2.symm⟩
theorem f9(l:List Int)(i:Nat)(x:Int):(l.map V.int).set i (.int x)=(l.set i x).map V.int:=by rw[afJ]
noncomputable def s6(p:cn->Bool):List cn->List Int->Int
 |[],_=>0
 |b::bs,lf=>(if p b then bS lf 0 else 0)+s6 p bs lf.tail
theorem f8(lf:List Int)(i:Nat):bS lf.tail i=bS lf (i+1):=by cases lf<;>rfl
set_option tactic.hygienic true in
theorem kh{p:cn->Bool}:∀{bs:List cn} {lf lf':List Int},(∀i b,bs[i]?=À b->p b=Æ->bS lf i<=bS lf' i)->s6 p bs lf<=s6 p bs lf'
 |[],_,_,_=>Ŕ _
 |b::bs,lf,lf',h=>by
  show ad6 ?_ (kh λi c hc hp=>?_)
  ·split
   ·rename_i hb;show h 0 b rfl hb
   ·show Ŕ _
  ·rw[f8,f8];show h (i+1) c hc hp
theorem om{p:cn->Bool}{bs:List cn}{lf lf':List Int}(h:∀i b,bs[i]?=À b->p b=Æ->bS lf i=bS lf' i):s6 p bs lf=s6 p bs lf':=
 ņ (kh λi b e q=>acE (h i b e q)) (kh λi b e q=>acE (h i b e q).symm)
theorem uH(p:cn->Bool):∀bs:List cn,s6 p bs []=0
 |[]=>rfl
 |b::bs=>by show (if p b then (0:Int) else 0)+s6 p bs []=0;rw[uH p bs,ite_self];rfl
theorem KO{p:cn->Bool}(bs:List cn):∀{lf lf':List Int} {i:Nat} {b:cn},bs[i]?=À b->p b=Æ->(∀j,j≠i->bS lf' j=bS lf j)->s6 p bs lf'=s6 p bs lf+(bS lf' i-bS lf i):=by
 induction bs with
 |nil=>show λhb=>no hb
 |cons c bs ih=>
  intro lf lf' i b hb hp h;show (if p c then bS lf' 0 else 0)+s6 p bs lf'.tail=(if p c then bS lf 0 else 0)+s6 p bs lf.tail+_;cases i with
  |zero=>rw[sm hb,if_pos hp,if_pos hp,om (lf:=lf'.tail) (lf':=lf.tail) λi b z z=>by rw[f8,f8];show h _ (acQ i)];show ņ (y3 0xcae20a12a10 N) (y3 0xca12ae02a10 N)
  |succ i=>
   have e:=ih (lf:=lf.tail) (lf':=lf'.tail) (i:=i) hb hp λj hj=>by rw[f8,f8];show h _ λq=>hj (ad5.inj q)
   rw[f8,f8]at e;rw[e,h 0 (acQ i).symm];show ņ (y4 0xcae32a10aae3210 N) (y4 0xcaae3210ae32a10 N)
def dj(ps:List (Nat×Int))(i:Nat):Int:=bg (ps.map λp=>if p.1=i then p.2 else 0)
structure W4(R:Nat->Nat->Prop)(l:List Nat)(t t':Tk):Prop where
 out:∀i,i∉l->bS t'.lf i=bS t.lf i
 inn:∀i∈l,0<=bS t'.lf i/\bS t'.lf i<=bS t.lf i
 bad:0<t'.am->∀i∈l,bS t'.lf i=0
 ord:∀i∈l,∀j∈l,R i j->bS t'.lf j≠bS t.lf j->bS t'.lf i=0
 nn:0<=t.am->0<=t'.am
 few:(∀i∈l,0<bS t.lf i)->(t'.ps.length:Int)+t'.am<=t.ps.length+t.am
 sum:∀bs p,(∀i∈l,∃b,bs[i]?=À b/\p b=Æ)->s6 p bs t.lf+t'.am=s6 p bs t'.lf+t.am
 use:(∀i∈l,0<bS t.lf i)->∃qs,t'.ps=t.ps++qs/\(∀p∈qs,p.1∈l/\1<=p.2)/\bg (qs.map (·.2))+t'.am=t.am/\∀j,bS t'.lf j+dj qs j=bS t.lf j
theorem B4{R:Nat->Nat->Prop}(as:∀i j,R i j->¬ R j i):∀{l:List Nat} {t:Tk},l.Pairwise R->(∀i∈l,i<t.lf.length/\0<=bS t.lf i)->W4 R l t (l.foldl r9 t):=by
 intro l
 induction l with
 |nil=>intro t _ _;show⟨λy y=>rfl,(λy h=>nomatch h),(λy y h=>nomatch h),(λy h=>nomatch h),id,λy=>Ŕ _,λy y y=>rfl,λy=>⟨[],(Ĭ _).symm,(λy h=>nomatch h),ş _,λy=>Œ _⟩⟩
 |cons i l IH=>
  intro t hp h;by_cases h0:0<t.am
  ·have hp:=Ő.mp hp
   have hi:=h i G';have Qd:i∉l:=λq=>as i i (hp.1 i q) (hp.1 i q);have e1:r9 t i=⟨t.ps++[(i,nF t i)],t.lf.set i (bS t.lf i-nF t i),t.am-nF t i⟩:=if_pos h0;have f1:∀j,j≠i->bS (r9 t i).lf j=bS t.lf j:=λj hj=>by rw[e1];show(pO hi.1).trans (if_neg (Ne.symm hj))
   have f2:bS (r9 t i).lf i=bS t.lf i-nF t i:=by rw[e1];show(pO hi.1).trans (if_pos N)
   have f3:(r9 t i).am=t.am-nF t i:=by rw[e1]
   have f5:(r9 t i).ps=t.ps++[(i,nF t i)]:=by rw[e1]
   have f4:nF t i<=t.am/\nF t i<=bS t.lf i/\0<=nF t i/\(nF t i=t.am\/nF t i=bS t.lf i):=by unfold nF;show(acV _ _).elim (λd0=>⟨y2 0xc1010b10 N (acB _ _),⟨y2 0xc1010b10 N (acq _ _),⟨y2 0xc10811b00813b01 N h0 (acz d0),.inl (ņ (y2 0xc1010b10 N (acB _ _)) (y2 0xc0113b10 N (acz d0)))⟩⟩⟩) λd0=>⟨y2 0xc1010b10 N (acB _ _),⟨y2 0xc1010b10 N (acq _ _),⟨y2 0xc10810b00813b01 N hi.2 (acp d0),.inr (ņ (y2 0xc1010b10 N (acq _ _)) (y2 0xc0113b10 N (acp d0)))⟩⟩⟩
   generalize nF t i=x at f2 f3 f4 f5;generalize e2:r9 t i=t1 at f1 f2 f3 f5;have wK:t1.lf.length=t.lf.length:=by rw[<-e2,BV]
   have ne:∀j∈l,j≠i:=λj hj q=>Qd (q▸hj);have ih:=IH hp.2 λj hj=>by rw[wK,f1 j (ne j hj)];show h j (J' _ hj)
   rw[ϧ,e2];have o1:=ih.out i Qd;show⟨λj hj=>?_,λj hj=>?_,λhb j hj=>?_,λa ha b hb hr hc=>?_,λy=>ih.nn (by show y3 0xc20810b1013be012 N f4.1 f3),λhp=>?_,λbs p hs=>?_,λhp=>?_⟩
   ·rw[ih.out j λq=>hj (J' _ q),f1 j λq=>hj (q▸G')]
   ·show â (ą.mp hj) (λq=>?_) λq=>?_
    ·rw[q,o1];show⟨y3 0xc20810b1013be012 N f4.2.1 f2,y3 0xc2110b00812be021 N f4.2.2.1 f2⟩
    ·rw[<-f1 j (ne j q)];show ih.inn j q
   ·show â (ą.mp hj) (λq=>?_) λq=>ih.bad hb j q
    rw[q,o1];by_cases h1:0<t1.am
    ·show f4.2.2.2.elim (λd0=>ņ ((zI (y3 0x1c080812be21011b00813b12 N f3 h1 d0)).elim) (y3 0xc20810b1013be012 N f4.2.1 f2)) λd0=>ņ (y3 0xc08012be21013b12 N f2 d0) (y3 0xc20810b1013be012 N f4.2.1 f2)
    ·rw[nu l t1 h1]at hb;show absurd hb h1
   ·show â (ą.mp hb) (λq=>?_) λq=>?_
    ·subst q
     show â (ą.mp ha) (λq=>absurd (q▸hr) (as _ _ (q▸hr))) λq=>absurd hr (as _ _ (hp.1 a q))
    ·show â (ą.mp ha) (λz=>?_) λz=>ih.ord a z b q hr (f1 b (ne b q)▸hc)
     rw[z,o1];by_cases h1:0<t1.am
     ·show f4.2.2.2.elim (λd0=>ņ ((zI (y3 0x1c080812be21011b00813b12 N f3 h1 d0)).elim) (y3 0xc20810b1013be012 N f4.2.1 f2)) λd0=>ņ (y3 0xc08012be21013b12 N f2 d0) (y3 0xc20810b1013be012 N f4.2.1 f2)
     ·rw[nu l t1 h1,f1 b (ne b q)]at hc;show absurd N hc
   ·have h1:=ih.few λj hj=>by rw[f1 j (ne j hj)];show hp j (J' _ hj)
    have h2:=hp i G';have h3:t1.ps.length=t.ps.length+1:=by rw[f5,Ā];rfl
    rw[f3,h3]at h1;show f4.2.2.2.elim (λd0=>y6 0xca05a2111b00810bae403a2112ba185313b04 N h0 h1 (iA _ _) d0) λd0=>y7 0xca36a1010bae432a1011b50812ba186213b54 N h1 h2 (iA _ _) d0
   ·have s1:=ih.sum bs p λj hj=>hs j (J' _ hj)
    show aE (hs i G') λb hb hpb=>?_;have s2:=KO bs hb hpb f1;rw[f3]at s1;rw[f2]at s2;show ņ (y7 0xca32a1512bae432a1013bae6e4650 N s1 s2) (y7 0xca15a3213bae432a1012bae6e4650 N s1 s2)
   ·show tW (ih.use λj hj=>by rw[f1 j (ne j hj)];show hp j (J' _ hj)) λqs h1 h2 h3 h4=>⟨(i,x)::qs,?_,λp R5=>(ą.mp R5).elim (λq=>by rw[q];show⟨G',f4.2.2.2.elim (λd0=>by rw[d0];show h0) λd0=>by rw[d0];show hp i G'⟩) λq=>⟨J' _ (h2 p q).1,(h2 p q).2⟩,?_,λj=>?_⟩
    ·rw[h1,f5,ü];rfl
    ·rw[œ,aV,ϒ,h3,f3,ϭ,acU]
    ·have h5:=h4 j
     unfold dj at h5 ⊢;rw[œ,aV];by_cases q:i=j
     ·rw[if_pos q,adv,h5,<-q,f2,ϭ,acU]
     ·rw[if_neg q,ş];show h5.trans (f1 j (Ne.symm q))
  ·rw[nu _ t h0]
   show⟨λy y=>rfl,λj hj=>⟨(h j hj).2,Ŕ _⟩,λq=>absurd q h0,λy y y y y q=>absurd N q,id,λy=>Ŕ _,λy y y=>rfl,λy=>⟨[],(Ĭ _).symm,(λy h=>nomatch h),ş _,λy=>Œ _⟩⟩
noncomputable def pk(O:Str)(t:Nat)(b:cn):Bool:=b.n==O&&decide ((t:Int)<b.l)
structure HC(bs:List cn)(lf:List Int)(D:Str->Nat->Int):Prop where
 len:lf.length=bs.length
 nn:∀i,0<=bS lf i
 le:∀(O:Str) (t:Nat),D O t+s6 (pk O t) bs lf<=f0 bs O t
 ex:∀(O:Str) (t:Nat),D O t+s6 (pk O t) bs lf=f0 bs O t\/(1<=t/\∀i b,bs[i]?=À b->b.n=O->b.l=(t:Int)->bS lf i=0)
theorem pJ{bs:List cn}{lf:List Int}{O:Str}{dy:Int}{i:Nat}:JR bs lf O dy i=Æ↔∃b,bs[i]?=À b/\b.n=O/\dy<=b.l/\0<bS lf i:=by
 unfold JR;cases bs[i]? with
 |none=>show⟨(λq=>nomatch q),λq=>q.elim λb q=>nomatch q.1⟩
 |some c=>dsimp only;rw[ō,ō,beq_iff_eq,decide_eq_true_iff,decide_eq_true_iff];show⟨λq=>⟨c,rfl,q⟩,λq=>aE q λb q1 q2=>Option.some.inj q1▸q2⟩
def mn(bs:List cn)(lf:List Int)(D:Str->Nat->Int)(O:Str)(am:Int)(dy:Nat):Prop:=∀(I:HC bs lf D) (hd:1<=dy),HC bs (nQ bs lf O am dy).lf (λn t=>D n t+if n=O/\t<dy then am-(nQ bs lf O am dy).am else 0) /\
  (0<=am->0<=(nQ bs lf O am dy).am)/\(0<(nQ bs lf O am dy).am->∀i b,bs[i]?=À b->b.n=O->(dy:Int)<=b.l->bS (nQ bs lf O am dy).lf i=0)
namespace HC_takeH
def kc:=hc (U6 mn) ([],[],λz z=>0,default,0,0)
def bs:=kc.1
def lf:=kc.2.1
def D:=kc.2.2.1
def O:=kc.2.2.2.1
def am:=kc.2.2.2.2.1
def dy:=kc.2.2.2.2.2
theorem kt:mn bs lf D O am dy:=by
 intro I hd;have T:=B4 (λy y=>Bf.asym) (t:=⟨[],lf,am⟩) (Mo bs lf O dy) λi hi=>⟨I.len▸tY (lO.mp hi),I.nn i⟩;have hl:=nv (bE bs lf O dy) ⟨[],lf,am⟩;change W4 _ _ _ (nQ bs lf O am dy) at T;change (nQ bs lf O am dy).lf.length=lf.length at hl;generalize nQ bs lf O am dy=u at T hl;have T1:∀{i},i∈bE bs lf O dy->∃b,bs[i]?=À b/\b.n=O/\(dy:Int)<=b.l/\0<bS lf i:=λhi=>pJ.mp (lO.mp hi);have WI:∀i,bS lf i=0->bS u.lf i=0:=λi h=>(T.out i λq=>tW (T1 q) λy y y y q=>by show zI (y1 0x1c080812b08011b008 N h q)).trans h;have gw:∀i b,bs[i]?=À b->b.n=O->(dy:Int)<=b.l->(0<bS lf i->bS u.lf i=0)->bS u.lf i=0:=λi b e1 e2 e3 k=>â (aeW (I.nn i)) k λq=>WI i q.symm
 have YL:∀i,bS u.lf i<=bS lf i:=λi=>by
  by_cases hi:i∈bE bs lf O dy
  ·show(T.inn i hi).2
  ·show acE (T.out i hi)
 have same:∀(n:Str) (t:Nat),s6 (pk n t) bs u.lf=s6 (pk n t) bs lf->D n t+s6 (pk n t) bs u.lf=f0 bs n t\/(1<=t/\∀i b,bs[i]?=À b->b.n=n->b.l=(t:Int)->bS u.lf i=0):=λn t e=>by rw[e];show(I.ex n t).imp id λq=>⟨q.1,λi b h1 h2 h3=>WI i (q.2 i b h1 h2 h3)⟩
 show⟨⟨hl.trans I.len,λi=>?_,λn t=>?_,λn t=>?_⟩,T.nn,λh0 i b e1 e2 e3=>gw i b e1 e2 e3 λhp=>T.bad h0 i (lO.mpr (pJ.mpr ⟨b,e1,e2,e3,hp⟩))⟩
 ·by_cases hi:i∈bE bs lf O dy
  ·show(T.inn i hi).1
  ·rw[T.out i hi];show I.nn i
 ·have h1:=I.le n t
  by_cases hc:n=O/\t<dy
  ·rw[if_pos hc]
   have h2:=T.sum bs (pk n t) λi hi=>tW (T1 hi) λb e1 e2 e3 y=>⟨b,e1,by unfold pk;rw[e2,hc.1,beq_self_eq_true,adm];show decide_eq_true (by show y3 0x1c2011b1010b21 rfl (iT hc.2) e3)⟩;dsimp only at h2;show y6 0xc2a4ae35010b2a1013ba54a31 rfl h1 h2
  ·rw[if_neg hc]
   have h2:=kh (p:=pk n t) (bs:=bs) λi b y y=>YL i;show y4 0xc2a3a08010b2a1010b13 N h1 h2
 ·by_cases hc:n=O/\t<dy
  ·have h2:=T.sum bs (pk n t) λi hi=>tW (T1 hi) λb e1 e2 e3 y=>⟨b,e1,by unfold pk;rw[e2,hc.1,beq_self_eq_true,adm];show decide_eq_true (by show y3 0x1c2011b1010b21 N (iT hc.2) e3)⟩
   dsimp only at h2;rw[if_pos hc];show(I.ex n t).imp (λq=>by show ņ (y6 0xc5a2ae13413ba32a1012b5a04 rfl h2 q) (y6 0xca2ae134512ba32a1013b5a04 rfl h2 q)) λq=>⟨q.1,λi b h1 h2 h3=>WI i (q.2 i b h1 h2 h3)⟩
  ·rw[if_neg hc,Œ]
   by_cases he:∀i b,bs[i]?=À b->pk n t b=Æ->bS u.lf i=bS lf i
   ·show same n t (om he)
   ·show .inr ?_
    obtain ⟨i,b,e1,hp,eT⟩:∃i b,bs[i]?=À b/\pk n t b=Æ/\bS u.lf i≠bS lf i:=abE λq=>he λi b e1 e2=>abE λz=>q ⟨i,b,e1,e2,z⟩;have hi:i∈bE bs lf O dy:=abE λq=>eT (T.out i q);have hp:=Ł.mp hp;have hn:n=O:=tW (T1 hi) λc q1 q2 y y=>(beq_iff_eq.mp hp.1).symm.trans ((Option.some.inj (e1.symm.trans q1))▸q2);have ht:¬ t<dy:=λq=>hc ⟨hn,q⟩;show⟨z' hd (ķ.mp ht),λj c f1 f2 f3=>gw j c f1 (f2.trans hn) (by show y3 0xc2010b1013b12 rfl (iL (ķ.mp ht)) f3) λh0=>T.ord j (lO.mpr (pJ.mpr ⟨c,f1,f2.trans hn,by show y3 0xc2010b1013b12 rfl (iL (ķ.mp ht)) f3,h0⟩)) i hi (.inl ?_) eT⟩;unfold G1;rw[f1,e1];show c.l<b.l;rw[f3];show of_decide_eq_true hp.2
end HC_takeH
theorem HC.take:mn bs lf D O am dy:=hk (P:=U6 mn) HC_takeH.kt (bs,lf,D,O,am,dy)
theorem HC.fail{bs:List cn}{lf:List Int}{D:Str->Nat->Int}(I:HC bs lf D){O:Str}:∀{dy:Nat},1<=dy->(∀i b,bs[i]?=À b->b.n=O->(dy:Int)<=b.l->bS lf i=0)->∃t,t<dy/\f0 bs O t=D O t
 |t+1,_,hz=>by have e:s6 (pk O t) bs lf=0:=(om λi b h1 h2=>hz i b h1 (beq_iff_eq.mp (Ł.mp h2).1) (of_decide_eq_true (Ł.mp h2).2)).trans (uH _ _);show â (I.ex O t) (λq=>⟨t,ϊ t,by show ņ (y3 0xc1212b08013b2a01 N e q) (y3 0xc2113b08012b2a01 N e q)⟩) λq=>aE (I.fail q.1 λi b h1 h2 h3=>â (aeW h3) (λz=>hz i b h1 h2 z) λz=>q.2 i b h1 h2 z.symm) λu h1 h2=>⟨u,ach h1,h2⟩
theorem i6(p:Str×Int)(l:List (Str×Int))(n:Str):cK (p::l) n=(if n=p.1 then p.2 else 0)+cK l n:=by
 unfold cK;by_cases h:n=p.1
 ·rw[if_pos h,List.filter_cons_of_pos (by rw[h];show beq_self_eq_true _),œ,aV]
 ·rw[if_neg h,List.filter_cons_of_neg (by intro q;show h (beq_iff_eq.mp q).symm),ş]
theorem qb{n:Str}:∀{l:List (Str×Int)},(∀p∈l,0<=p.2)->0<=cK l n
 |[],_=>Ŕ _
 |p::l,h=>by
  have h1:=h p G';have h2:=qb (n:=n) λq hq=>h q (J' _ hq);rw[i6];show ϸ ?_ h2;split
  ·show h1
  ·show Ŕ 0
theorem Pw{bs:List cn}{dy:Nat}(hd:1<=dy)(ns:List (Str×Int)):∀{st:List Int×List (Nat×Int)} {D:Str->Nat->Int},HC bs st.1 D->(∀p∈ns,0<=p.2) ->
  (∀aT,c8 (I8 bs dy) st ns=.ok aT->HC bs aT.1 λn t=>D n t+if t<dy then cK ns n else 0)/\∀e,c8 (I8 bs dy) st ns=.error e->(∃t,t<dy/\f0 bs e t<D e t+cK ns e)/\∃a,(e,a)∈ns:=by
 induction ns with
 |nil=>show λ{st D} I _=>⟨λaT h=>by
   injection h with h;subst h
   have:(λn t=>D n t+if t<dy then cK [] n else 0)=D:=by funext n t;show D n t+(if t<dy then (0:Int) else 0)=_;rw[ite_self,Œ]
   rw[this];show I,λe h=>nomatch h⟩
 |cons p ns IH=>
  intro st D I hp;have h0:=hp p G';have hn:=λq hq=>hp q (J' _ hq);show im (I.take (O:=p.1) (am:=p.2) hd) λI1 h1 h2=>?_;have h1:=h1 h0;unfold c8 I8;by_cases hb:0<(nQ bs st.1 p.1 p.2 dy).am
  ·rw[if_pos hb]
   show⟨(λy h=>nomatch h),λe h=>?_⟩;injection h with h;subst h
   show⟨aE (I1.fail hd (h2 hb)) λt ht e=>⟨t,ht,?_⟩,p.2,G'⟩;rw[if_pos ⟨N,ht⟩]at e;have:=qb (n:=p.1) hn;rw[e,i6,if_pos N];show y4 0x1caa132ae03211b00810b108 N hb this
  ·rw[if_neg hb]
   dsimp only;rw[show (nQ bs st.1 p.1 p.2 dy).am=0 by show ņ (y1 0xc08015b008 rfl hb) (y1 0xc00810b008 rfl h1),ae7]at I1;have ih:=IH (st:=((nQ bs st.1 p.1 p.2 dy).lf,st.2++(nQ bs st.1 p.1 p.2 dy).ps)) I1 hn;show⟨λaT h=>?_,λe h=>?_⟩
   ·have:=ih.1 aT h
    have q:(λn t=>D n t+if t<dy then cK (p::ns) n else 0)=λn t=>D n t+(if n=p.1/\t<dy then p.2 else 0)+if t<dy then cK ns n else 0:=by
     funext n t
     rw[i6];by_cases a:n=p.1<;>by_cases b:t<dy<;>simp [a,b]<;>show ņ (y3 0xca2a10aa210 rfl) (y3 0xcaa210a2a10 rfl)
    rw[q];show this
   ·show aQ (ih.2 e h) λq1 q2=>⟨aE q1 λt ht q=>⟨t,ht,?_⟩,q2.elim λa ha=>⟨a,J' _ ha⟩⟩
    rw[i6];by_cases a:e=p.1
    ·rw[if_pos ⟨a,ht⟩]at q;rw[if_pos a];show y4 0x1caa321011ba3a210 N q
    ·rw[if_neg λz=>a z.1]at q;rw[if_neg a];show y3 0x1caa2081011ba2a0810 N q
def bh.nn(x:bh):Prop:=∀p∈x.ns,0<=p.2
def fe(n:Str)(t:Nat)(x:bh):Int:=if t<x.d then cK x.ns n else 0
def lN(ds:List bh)(n:Str)(t k:Nat):Int:=((ds[k]?).map (fe n t)).getD 0
theorem JK{bs:List cn}{ds:List bh}(hd:∀x∈ds,x.ok/\x.nn)(o:List Nat):∀{st:Ja} {D:Str->Nat->Int},HC bs st.1 D ->
  (∀aT,c8 (ql bs ds) st o=.ok aT->HC bs aT.1 λn t=>D n t+bg (o.map (lN ds n t)))/\∀e,c8 (ql bs ds) st o=.error e->(∃t,t<7/\f0 bs e t<D e t+bg (o.map (lN ds e t)))/\∃x∈ds,∃a,(e,a)∈x.ns:=by
 induction o with
 |nil=>show λ{st D} I=>⟨λaT h=>by
   injection h with h;subst h
   have:(λn t=>D n t+bg (([]:List Nat).map (lN ds n t)))=D:=by funext n t;show Œ _
   rw[this];show I,λe h=>nomatch h⟩
 |cons k o IH=>
  intro st D I
  have pos:∀n t,0<=bg (o.map (lN ds n t)):=λn t=>by
   clear IH
   induction o with
   |nil=>show Ŕ _
   |cons j o ih=>
    rw[œ,aV];show ϸ ?_ ih;unfold lN fe;cases e:ds[j]? with
    |none=>show Ŕ _
    |some x=>
     show 0<=if t<x.d then cK x.ns n else 0;split
     ·show qb (hd x (ģ e)).2
     ·show Ŕ _
  unfold c8 ql;cases ek:ds[k]? with
  |none=>
   dsimp only;have ih:=IH I
   have q:∀n t,bg ((k::o).map (lN ds n t))=bg (o.map (lN ds n t)):=λn t=>by rw[œ,aV];unfold lN;rw[ek];show ş _
   show⟨λaT h=>?_,λe h=>?_⟩
   ·simp only[q];show ih.1 aT h
   ·simp only[q];show ih.2 e h
  |some x=>
   have hx:=hd x (ģ ek)
   have q:∀n t,bg ((k::o).map (lN ds n t))=fe n t x+bg (o.map (lN ds n t)):=λn t=>by
    rw[œ,aV]
    congr 1
    unfold lN;rw[ek];rfl
   dsimp only;have pzJ:=Pw hx.1.1 x.ns (st:=(st.1,[])) I hx.2;cases hf:c8 (I8 bs x.d) (st.1,[]) x.ns with
   |error e'=>
    show⟨(λy h=>nomatch h),λe h=>?_⟩;injection h with h;subst h
    show aQ (pzJ.2 e' hf) λq1 q2=>⟨aE q1 λt ht z=>⟨t,ĵ ht hx.1.2.1,?_⟩,x,ģ ek,q2⟩;have:=pos e' t;rw[q];unfold fe;rw[if_pos ht];show y4 0x1caa321011ba21010b308 N z this
   |ok p=>
    dsimp only;have ih:=IH (st:=(p.1,st.2.set k p.2)) (pzJ.1 p hf);show⟨λaT h=>?_,λe h=>?_⟩
    ·simp only[q,<-ϒ];show ih.1 aT h
    ·simp only[q,<-ϒ];show ih.2 e h
theorem Ih{l m:List Int}(h:l.Perm m):bg l=bg m:=by
 induction h with
 |nil=>rfl
 |cons x _ ih=>rw[aV,aV,ih]
 |swap x y l=>rw[aV,aV,aV,aV];show ņ (y3 0xcaa201aa210 N) (y3 0xcaa201aa210 N)
 |trans _ _ h1 h2=>show h1.trans h2
theorem nC{α:Type}{p:α->Bool}{f:α->Int}:∀l:List α,bg ((l.filter p).map f)=bg (l.map λx=>if p x then f x else 0)
 |[]=>rfl
 |x::l=>by
  rw[œ,aV,aen,<-nC l];cases p x with
  |true=>show aV _ _
  |false=>show(ş _).symm
theorem A5(ds:List bh)(n:Str)(t:Nat):wz ds n t=bg (ds.map (fe n t)):=by
 unfold wz;rw[nC];show congrArg bg (ύ λx z=>?_);unfold fe;by_cases h:t<x.d
 ·rw[if_pos h,if_pos (decide_eq_true h)]
 ·rw[if_neg h,if_neg (by rw[decide_eq_true_iff];show h)]
theorem Jt{ds:List bh}(hd:∀x∈ds,x.ok)(n:Str)(t:Nat):bg ((jz ds).map (lN ds n t))=wz ds n t:=by
 have e:(č ds.length).map (lN ds n t)=ds.map (fe n t):=by
  show adG λi=>?_;rw[Ġ,Ġ];by_cases h:i<ds.length
  ·rw[ό h,N' h]
   show À (lN ds n t i)=_;unfold lN;rw[N' h];rfl
  ·rw[Ϡ (by rw[Ľ];show ķ.mp h),Ϡ (ķ.mp h)];rfl
 have nd:(jz ds).Nodup:=(uQ ds).imp λh q=>by subst q;show h.elim (λd0=>zI (y1 0x1c080811b00 N (iT d0))) λd0=>zI (y1 0x1c080811b00 N (iT d0.2))
 rw[Ih (((adf nd adU).mpr λk=>(pS hd).trans Ũ.symm).map _),e,A5]
theorem YG{bs:List cn}(hb:∀b∈bs,0<=b.a):HC bs (bs.map cn.a) λz z=>0:=by
 have e:∀(bs:List cn) O t,s6 (pk O t) bs (bs.map cn.a)=f0 bs O t:=λbs O t=>by
  unfold f0;rw[nC]
  induction bs with
  |nil=>rfl
  |cons b bs ih=>rw[œ,œ,aV,<-ih];rfl
 show⟨H' _,λi=>?_,λO t=>?_,λO t=>.inl ?_⟩
 ·unfold bS
  rw[Ġ];cases h:bs[i]? with
  |none=>show Ŕ _
  |some b=>show hb b (ģ h)
 ·rw[e,ş];show Ŕ _
 ·rw[e,ş]
theorem JL{bs:List cn}{ds:List bh}(hb:∀b∈bs,0<=b.a)(hd:∀x∈ds,x.ok/\x.nn):
  (∀st,sK bs ds=.ok st->∀O t,wz ds O t<=f0 bs O t)/\∀e,sK bs ds=.error e->(∃t,t<7/\f0 bs e t<wz ds e t)/\∃x∈ds,∃a,(e,a)∈x.ns:=by
 have C:=JK hd (jz ds) (st:=AR bs ds) (YG hb);have a:=Jt λx hx=>(hd x hx).1
 simp only[a,ş]at C
 show⟨λst h O t=>?_,C.2⟩;have I:=C.1 st h;have h1:=I.le O t;have h2:=kh (p:=pk O t) (bs:=bs) (lf:=[]) λi b z z=>I.nn i;rw[uH]at h2;show y3 0xc2010b2a1010b108 N h1 h2
structure Qy{α:Type}(f:α->V)(P:α->Prop)(iM:ag)(q n:Nat)(xs:List α)(H:ag):Prop where
 k:aF iM H
 b:H[q]?=À (.lst (xs.map f))
 l:xs.length=n
 ok:∀x∈xs,P x
def Ud{α:Type}(f:α->V)(P:α->Prop)(iM:ag)(q n:Nat)(L:aJ)(fl:cw)(U:aJ)(H:ag):Prop:=fl=.next/\Le L U/\∃xs,Qy f P iM q n xs H
section
variable{α:Type}{Á:ax}{aD:fv}{U L:aJ}{H iM Î:ag}{Q:cw->aJ->ag->Prop}{f:α->V}{P:α->Prop}{q n j:Nat}{xs:List α}
theorem W.build{it:jm}{body:fv}{i:Nat}(f:α->V)(P:α->Prop)(q:Nat)(hs:cD Á it U H=À (cz 0 n 1,[],Î))(hl:Le L U)(hk:aF iM Î)(h0:Î[q]?=À (.lst []))
  (step:∀j xs ae,j<n->Qy f P iM q j xs ae->W Á body (cS L i (.int j)) ae (Ud f P iM q (j+1) L))
  (k:∀xs ae,Qy f P iM q n xs ae->W Á aD L ae Q):W Á (.cons (.for_ (.one i) it body) aD) U H Q:=by
 show W.loop hs (λj U ae=>U=L/\∃xs,Qy f P iM q j xs ae) hl ⟨N,[],hk,h0,N,λz h=>nomatch h⟩ (λz z z z=>bj _) (λj x P2 bn hx h=>?_) λP2 bn h=>?_
 ·show aQ (ig hx) λhj e=>?_;apply aY e
  show aQ h λe h=>?_;apply aY e;show⟨_,N,h.elim λxs I=>W.mono (step j xs bn hj I) λfl aU ae q=>⟨q.1,L,q.2.1,N,q.2.2⟩⟩
 ·rw[ii]at h
  show aQ h λe h=>?_;apply aY e;show h.elim λxs I=>k xs bn I
theorem W.lay{o e:CE}(x:α)(I:Qy f P iM q j xs H)(hq:iM.length<=q)(ho:ab Á o U H=À (.ref q,H))(he:ab Á e U H=À (f x,Î))(K:aF H Î)(hP:P x)(hz:j<=1000)(hl:Le L U):
  W Á (.cons (.expr (.meth .append o (.cons e .nil))) .nil) U H (Ud f P iM q (j+1) L):=by
 have hb:=K _ _ I.b;show W.append q (xs.map f) (f x) Î ho I.b he hb (by rw[H',I.l];show z' hz (by decide)) (W.nil ⟨N,hl,xs++[x],(I.k.trans K).set hq,?_,by rw[Ā,I.l];rfl,λy hy=>?_⟩)
 ·rw[eO hb,ŉ];rfl
 ·show â (Ģ.mp hy) (I.ok y) λh=>W'.mp h▸hP
end
section
variable{d r q m j:Nat}{H:ag}{U:aJ}{cs:List Int}{aN:Int}
theorem OB{a b y:Int}{e:CE}(hr:H[r]?=À (.lst (cs.map .int)))(g0:U 0=À (.ref r))(g4:U 4=À (.int j))(hb:0<b)(ha:0<=a)(Gm:a+b<=100)(hy:y.natAbs<1000000)(he:ab (aC PP (d+1)) e U H=À (.int y,H)):
  ∃c:Int,ab (aC PP (d+1)) (.call 22 (.cons (.call 21 (.cons (.var 0) (.cons (.bin .Add (.cst (.int a)) (.bin .Mod (.var 4) (.cst (.int b)))) .nil))) (.cons e .nil))) U H=À (.int c,H):=by
 have hm:=db (a:=(j:Int)) hb;show⟨_,af (ay (af (ay (aB g0) (al (aK N (aK (aB g4) N (dP (by show λq0=>zI (y1 0x1c080811b00812b080 N hb q0)))) N))) (qi N hr _ ((Int.toNat_lt' (by decide)).mpr (acu (ad2 hm.2 a) (Ĵ Gm (by decide)))) (by show ņ (y3 0xc2a1010b2a10 N (adH _)) (y3 0xca21012ba210 N (Ϥ (y2 0xca100810b00810b108 N ha hm.1)))))) (al he)) (mZ N _ _ (by show jT (y1 0x1c00010000000000000000d011b000000000000000f4240d0 N (iT hy))))⟩
theorem z8{i0:Nat}{c:Int}(qI:1<=m)(hm:m<=12)(hq:H[q]?=À (.lst [.int aN,.int m]))(g1:U 1=À (.ref q))(g5:U i0=À (.int c)):
  ∃O ae,ab (aC PP (d+1)) (.call 25 (.cons (.idx (.var 1) (.cst (.int 0))) (.cons (.bin .Mod (.bin .Mod (.var i0) (.cst (.int 60))) (.idx (.var 1) (.cst (.int 1)))) .nil))) U H=À (.str O,ae)/\aF H ae/\∃k,k<12/\O=gJ aN k:=Hm N qI hm hq g1 g5
abbrev gL(r q p:Nat):aJ:=bN [À (.ref r),À (.ref q),Ã,À (.ref p)]
theorem G8(hr:H[r]?=À (.lst (cs.map .int)))(hq:H[q]?=À (.lst [.int aN,.int m]))(qI:1<=m)(hm:m<=12)(n:Nat)(hn:n<=200):
  ∃(bs:List cn) (ae:ag),aC PP (d+2) 29 [.ref r,.ref q,.int n] H=À (.ok (.tup (bs.map cn.v)),ae)/\aF H ae/\bs.length=n/\∀b∈bs,0<=b.a:=by
 obtain ⟨v,ae,h,bs,rfl,h1⟩:=eR (R:=λv ae=>∃bs:List cn,v=.tup (bs.map cn.v)/\aF H ae/\bs.length=n/\∀b∈bs,0<=b.a) (P:=PP) (k:=29) rfl (as:=[.ref r,.ref q,.int n]) rfl (by
  show W.set (v:=.ref H.length) (Î:=H++[.lst []]) N (W.build (L:=gL r q H.length) cn.v (λb=>0<=b.a) H.length (cV N (by show jL (y1 0xc0000000000003b9aca00d010b00c890 N (iL hn)))) (ak ⟨N,N,N,trivial⟩) (aF.app _ _) (az _ _) (λj bs bn hj I=>?_) λbs bn I=>?_)
  ·show ä (OB (d:=d) (a:=23) (b:=10) (U:=cS (gL r q H.length) 4 (.int j)) (e:=.bin .Add (.cst (.int 40)) (.var 4)) (I.k _ _ hr) N N (by decide) (by decide) (by decide) (E0 (ϸ (by decide) (Ē j)) (acu (ad2 (ŧ.mpr (ĵ hj hn)) 40) (by decide))) N) λc e1=>W.set e1 (W.set (af N (mZ N _ _ (by show jT (y2 0x1c00010000000000000000d110b00c89011b01 N (iL hn) (iT hj))))) ?_)
   generalize Hl c j=sm;show fQ (z8 (d:=d) (U:=cS (cS (cS (gL r q H.length) 4 (.int j)) 5 (.int c)) 6 (.int sm)) (i0:=5) qI hm (I.k _ _ hq) N N) λO cY e2 k2 z=>W.lay (⟨O,gM (c.fdiv 60) 200,s0 sm⟩:cn) I (đ _) N (ca (ay e2 (ay (af N (j3 N _ _ (by decide))) (al (af N (s4 N _))))) (show 3<=aw by decide)) k2 ?_ (ī (ĵ hj (z' hn (by decide)))) (ak ⟨N,N,N,trivial⟩);have:=iR (c.fdiv 60);show Ĵ (by decide) this.1
  ·show W.retE (aO N (bC I.b (by rw[H',I.l];show z' hn (by decide)))) ⟨_,N,bs,N,I.k,I.l,I.ok⟩)
 show⟨bs,ae,h,h1⟩
def Pk.okP(p:Pk):Prop:=1<=p.a/\p.a<=200
theorem La(hr:H[r]?=À (.lst (cs.map .int)))(hq:H[q]?=À (.lst [.int aN,.int m]))(qI:1<=m)(hm:m<=12)(n:Nat)(hn:n<=200):
  ∃(bs:List Pk) (ae:ag),aC PP (d+2) 31 [.ref r,.ref q,.int n] H=À (.ok (.tup (bs.map Pk.v)),ae)/\aF H ae/\bs.length=n/\∀b∈bs,b.okP:=by
 obtain ⟨v,ae,h,bs,rfl,h1⟩:=eR (R:=λv ae=>∃bs:List Pk,v=.tup (bs.map Pk.v)/\aF H ae/\bs.length=n/\∀b∈bs,b.okP) (P:=PP) (k:=31) rfl (as:=[.ref r,.ref q,.int n]) rfl (by
  show W.set (v:=.ref H.length) (Î:=H++[.lst []]) N (W.build (L:=gL r q H.length) Pk.v Pk.okP H.length (cV N (by show jL (y1 0xc0000000000003b9aca00d010b00c890 N (iL hn)))) (ak ⟨N,N,N,trivial⟩) (aF.app _ _) (az _ _) (λj bs bn hj I=>?_) λbs bn I=>?_)
  ·show ä (OB (d:=d) (a:=33) (b:=10) (U:=cS (gL r q H.length) 4 (.int j)) (e:=.bin .Add (.cst (.int 80)) (.var 4)) (I.k _ _ hr) N N (by decide) (by decide) (by decide) (E0 (ϸ (by decide) (Ē j)) (acu (ad2 (ŧ.mpr (ĵ hj hn)) 80) (by decide))) N) λc e1=>W.set e1 (W.set (af N (mZ N _ _ (show j+1<18446744073709551616 from ĵ (acP (ĵ hj hn)) (by decide)))) ?_)
   generalize Hl c (j+1)=sm;show fQ (z8 (d:=d) (U:=cS (cS (cS (gL r q H.length) 4 (.int j)) 5 (.int c)) 6 (.int sm)) (i0:=5) qI hm (I.k _ _ hq) N N) λO cY e2 k2 z=>W.set e2 (W.lay (⟨O,gM (c.fdiv 60) 200,Hx sm,s0 (sm.fdiv 997)⟩:Pk) ⟨I.k.trans k2,k2 _ _ I.b,I.l,I.ok⟩ (đ _) N (ca (ay N (ay (af N (j3 N _ _ (by decide))) (ay (af N (Hy N _)) (al (af N (s4 N _)))))) (show 4<=aw by decide)) (aF.refl _) (iR (c.fdiv 60)) (ī (ĵ hj (z' hn (by decide)))) (ak ⟨N,N,N,trivial⟩))
  ·show W.retE (aO N (bC I.b (by rw[H',I.l];show z' hn (by decide)))) ⟨_,N,bs,N,I.k,I.l,I.ok⟩)
 show⟨bs,ae,h,h1⟩
def Hn(aN:Int)(p:Str×Int):Prop:=(∃k,k<12/\p.1=gJ aN k)/\1<=p.2/\p.2<=201
def bh.okA(aN:Int)(x:bh):Prop:=x.ok/\∀p∈x.ns,Hn aN p
abbrev nL(r q p:Nat)(c:Int)(u:Nat):aJ:=bN [À (.ref r),À (.ref q),Ã,À (.ref p),Ã,À (.int c),À (.ref u)]
theorem FG(hr:H[r]?=À (.lst (cs.map .int)))(hq:H[q]?=À (.lst [.int aN,.int m]))(qI:1<=m)(hm:m<=12)(n:Nat)(hn:n<=200):
  ∃(ds:List bh) (ae:ag),aC PP (d+2) 28 [.ref r,.ref q,.int n] H=À (.ok (.tup (ds.map bh.v)),ae)/\aF H ae/\ds.length=n/\∀x∈ds,x.okA aN:=by
 obtain ⟨v,ae,h,bs,rfl,h1⟩:=eR (R:=λv ae=>∃ds:List bh,v=.tup (ds.map bh.v)/\aF H ae/\ds.length=n/\∀x∈ds,x.okA aN) (P:=PP) (k:=28) rfl (as:=[.ref r,.ref q,.int n]) rfl (by
  show W.set (v:=.ref H.length) (Î:=H++[.lst []]) N (W.build (L:=gL r q H.length) bh.v (bh.okA aN) H.length (cV N (by show jL (y1 0xc0000000000003b9aca00d010b00c890 N (iL hn)))) (ak ⟨N,N,N,trivial⟩) (aF.app _ _) (az _ _) (λj ds bn hj I=>?_) λbs bn I=>?_)
  ·show ä (OB (d:=d) (a:=3) (b:=20) (U:=cS (gL r q H.length) 4 (.int j)) (e:=.var 4) (I.k _ _ hr) N N (by decide) (by decide) (by decide) (by show jT (y2 0x1c000000000000000f4240d110b00c89011b01 N (iL hn) (iT hj))) N) λc e1=>W.set e1 (W.set (v:=.ref bn.length) (Î:=bn++[.lst []]) N (aE (fm (a:=c.fdiv 7) (b:=4) (by decide)) λt1 f1 l1=>aE (fm (a:=c.fdiv 7) (b:=21) (by decide)) λt2 f2 l2=>?_))
   have hc:∃t:Nat,t<=20/\ab (aC PP (d+1)) (.idx (.list (.cons (.bin .Mod (.bin .FloorDiv (.var 5) (.cst (.int 7))) (.cst (.int 4))) (.cons (.bin .Mod (.bin .FloorDiv (.var 5) (.cst (.int 7))) (.cst (.int 21))) .nil))) (.prim .int (.cons (.and (.cmp .Eq (.bin .Mod (.bin .FloorDiv (.var 5) (.cst (.int 147))) (.cst (.int 40))) (.cst (.int 0))) (.cmp .Lt (.var 4) (.cst (.int 2)))) .nil))) (cS (cS (cS (gL r q H.length) 4 (.int j)) 5 (.int c)) 6 (.ref bn.length)) (bn++[.lst []])=À (.int t,bn++[.lst []]++[.lst [.int ((c.fdiv 7).fmod 4),.int ((c.fdiv 7).fmod 21)]]):=by
    have el:=bZ (Á:=aC PP (d+1)) (U:=cS (cS (cS (gL r q H.length) 4 (.int j)) 5 (.int c)) 6 (.ref bn.length)) (H:=bn++[.lst []]) (es:=.cons (.bin .Mod (.bin .FloorDiv (.var 5) (.cst (.int 7))) (.cst (.int 4))) (.cons (.bin .Mod (.bin .FloorDiv (.var 5) (.cst (.int 7))) (.cst (.int 21))) .nil)) (vs:=[.int ((c.fdiv 7).fmod 4),.int ((c.fdiv 7).fmod 21)]) rfl (show 2<=aw by decide);obtain ⟨b,hb⟩:∃b,ab (aC PP (d+1)) (.and (.cmp .Eq (.bin .Mod (.bin .FloorDiv (.var 5) (.cst (.int 147))) (.cst (.int 40))) (.cst (.int 0))) (.cmp .Lt (.var 4) (.cst (.int 2)))) (cS (cS (cS (gL r q H.length) 4 (.int j)) 5 (.int c)) 6 (.ref bn.length)) (bn++[.lst []]++[.lst [.int ((c.fdiv 7).fmod 4),.int ((c.fdiv 7).fmod 21)]])=À (.bool b,_):=⟨_,iw rfl rfl⟩;cases b with
    |true=>show⟨t2,by show jL (y1 0xc00149011b001590 N l2),bF _ 1 _ _ el (aO (al hb) N) (az _ _) (by decide) (by rw[<-f2];rfl)⟩
    |false=>show⟨t1,by show jL (y1 0xc00149011b480 N l1),bF _ 0 _ _ el (aO (al hb) N) (az _ _) (by decide) (by rw[<-f1];rfl)⟩
   show aE hc λt ht e2=>W.set e2 ?_;have hK:aF bn (bn++[.lst []]++[.lst [.int ((c.fdiv 7).fmod 4),.int ((c.fdiv 7).fmod 21)]]):=(aF.app _ _).trans (aF.app _ _);have hN:=aF.app (bn++[.lst []]) [.lst [.int ((c.fdiv 7).fmod 4),.int ((c.fdiv 7).fmod 21)]] _ _ (az bn (.lst []));generalize bn++[.lst []]++[.lst [.int ((c.fdiv 7).fmod 4),.int ((c.fdiv 7).fmod 21)]]=cY at hK hN;show W.build (L:=nL r q H.length c bn.length) Bx (Hn aN) bn.length (cV N (by show jL (y1 0xc0000000000003b9aca00d010b001490 N (iL ht)))) (ak ⟨N,N,N,N,N,trivial⟩) hK hN (λi ns fg hi ï=>?_) λns fg ï=>?_
   ·show W.set (af N (mZ N _ _ (show i+1<18446744073709551616 from ĵ (acP (ĵ hi ht)) (by decide)))) ?_
    generalize Hl (c.fdiv 28) (i+1)=sm;show W.set N ?_
    have Ye:∀(am:Int) (U:aJ),1<=am/\am<=201->Le (nL r q H.length c bn.length) U->U 9=À (.int sm)->U 10=À (.int am)->W (aC PP (d+1)) (.cons (.expr (.meth .append (.var 6) (.cons (.tuple (.cons (.call 25 (.cons (.idx (.var 1) (.cst (.int 0))) (.cons (.bin .Mod (.bin .Mod (.var 9) (.cst (.int 60))) (.idx (.var 1) (.cst (.int 1)))) .nil))) (.cons (.var 10) .nil))) .nil))) .nil) U fg (Ud Bx (Hn aN) bn bn.length (i+1) (nL r q H.length c bn.length)):=λam U ha hl g9 YY=>by show fQ (z8 (d:=d) qI hm (ï.k _ _ (I.k _ _ hq)) (hl 1 _ N) g9) λO vt e3 k4 Ko=>W.lay (O,am) ï (đ _) (aB (hl 6 _ N)) (ca (ay e3 (al (aB YY))) (show 2<=aw by decide)) k4 ⟨Ko,ha⟩ (by show jL (y2 0xc03e89110b00149011b01 N (iL ht) (iT hi))) hl
    show W.if_ (fD N N) (λz=>?_) λz=>W.nil ?_
    ·show W.set (af N (j3 N _ _ (by decide))) (W.nil (Ye _ _ ?_ (ak ⟨N,N,N,N,N,trivial⟩) N N))
     have:=iR (sm.fdiv 28800);show⟨y1 0xc01810b018 N this.1,y1 0xc00c99010b00c890 N this.2⟩
    ·show Ye _ _ ?_ (ak ⟨N,N,N,N,N,trivial⟩) N N
     have:=db (a:=sm.fdiv 60) (b:=12) (by decide);show⟨y1 0xca0181810b008 N this.1,y1 0xc00c99a01811bc80 N this.2⟩
   ·show aE (fm (a:=c) (b:=7) (by decide)) λdy f3 l3=>W.lay (⟨1+dy,ns⟩:bh) ⟨I.k.trans ï.k,ï.k _ _ I.b,I.l,I.ok⟩ (đ _) N (ca (ay (by show À (V.int (1+c.fmod 7),fg)=_;rw[f3];rfl) (al (aO N (bC ï.b (by rw[H',ï.l];show z' ht (by decide)))))) (show 2<=aw by decide)) (aF.refl _) ⟨⟨?_,?_,?_⟩,ï.ok⟩ (by show jL (y2 0xc03e89110b00c89011b01 N (iL hn) (iT hj))) (ak ⟨N,N,N,trivial⟩)
    ·show 1<=1+dy;show jL (y2 0xc11810b00813ba0181 N (iP _) (iA _ _))
    ·show 1+dy<=7;show jL (y2 0xc78111b78012ba0181 N l3 (iA _ _))
    ·show ns.length<=20;rw[ï.l];show ht
  ·show W.retE (aO N (bC I.b (by rw[H',I.l];show z' hn (by decide)))) ⟨_,N,bs,N,I.k,I.l,I.ok⟩)
 show⟨bs,ae,h,h1⟩
end
section
variable{Á:ax}{aD:fv}{U:aJ}{H Î:ag}{Q:cw->aJ->ag->Prop}
theorem W.acc{α:Type}{e:CE}{body:fv}{i:Nat}{xs:List α}{v:α->V}(B:Int->aJ)(g:α->Int)(hs:ab Á e U H=À (.tup (xs.map v),H))(z:Int)(hl:Le (B z) U)
  (step:∀x∈xs,∀z ae,aF H ae->W Á body (cS (B z) i (v x)) ae λfl aU ir=>fl=.next/\Le (B (z+g x)) aU/\aF H ir) (k:∀ae,aF H ae->W Á aD (B (z+bg (xs.map g))) ae Q):W Á (.cons (.for_ (.one i) (.ex e) body) aD) U H Q:=by
 show W.loop (cj hs) (λj U ae=>U=B (z+bg ((xs.take j).map g))/\aF H ae) hl ⟨congrArg B (Œ z).symm,aF.refl _⟩ (λt t t t=>bj _) (λj y P2 bn hy q1=>?_) λP2 bn q1=>?_
 ·show aQ q1 λq1 hK=>?_;apply aY q1
  show aE (uJ hy) λx hx q3=>?_;apply aY q3;show⟨_,N,W.mono (step x (ģ hx) _ bn hK) λfl aU ae q=>⟨q.1,_,q.2.1,?_,q.2.2⟩⟩;rw[be hx,ŉ,List.map_singleton,tz,ϒ]
 ·show aQ q1 λq1 hK=>?_;apply aY q1
  rw[H',Ň];show k bn hK
end
section
variable{d r q m j:Nat}{H:ag}{U:aJ}{cs:List Int}{aN:Int}{ds:List bh}
theorem bh.okA.nn{x:bh}(h:x.okA aN):x.nn:=λp hp=>Ĵ (by decide) (h.2 p hp).2.1
theorem BY:∀{l:List Int},(∀x∈l,0<=x)->0<=bg l
 |[],_=>Ŕ _
 |x::l,h=>by rw[aV];show ϸ (h x G') (BY λy hy=>h y (J' _ hy))
theorem PY(hd:∀x∈ds,x.okA aN)(O:Str):0<=bg (ds.map (fe O 0)):=BY λy hy=>by
 show aE (ŗ.mp hy) λx hx e=>?_;apply fR e;unfold fe;split
 ·show qb (hd x hx).nn
 ·show Ŕ _
theorem xc(hd:∀x∈ds,x.okA aN)(O:Str):∃ae,aC PP (d+1) 35 [.tup (ds.map bh.v),.str O] H=À (.ok (.int (bg (ds.map (fe O 0)))),ae)/\aF H ae:=by show fQ (eR (R:=λv ae=>v=.int (bg (ds.map (fe O 0)))/\aF H ae) (P:=PP) (k:=35) (H:=H) (d:=d) N (as:=[.tup (ds.map bh.v),.str O]) N (W.set N (W.acc (λz=>bN [Ã,À (.str O),À (.int z)]) (fe O 0) N 0 (ak ⟨N,N,trivial⟩) (λx hx z bn hK=>?_) λbn hK=>W.retE N ⟨_,N,congrArg V.int (ş _),hK⟩))) λv ae h q k=>⟨ae,q▸h,k⟩;have pL:=hd x hx;have hs:=rI (Á:=aC PP d) (elt:=xu 4 1) (t:=.one 4) (it:=.ex (xu 3 1)) (ifs:=a1 (xE (xu 4 0) (xv 1))) (U:=cS (bN [Ã,À (.str O),À (.int z)]) 3 x.v) (H:=bn) (p:=λp:Str×Int=>p.1==O) (f:=Prod.snd) (cj N) (bj _) (z' pL.1.2.2 (by decide)) λp hp=>⟨_,N,nE N,λy=>rfl⟩;show W.set (v:=.int (z+cK x.ns O)) (aK N hs N) (W.nil ⟨N,?_,hK.trans (aF.app _ _)⟩);rw[show fe O 0 x=cK x.ns O from if_pos pL.1.1];show ak ⟨N,N,trivial⟩
theorem PN{l:List V}{a:Nat}(h:a<=l.length)(hl:l.length<=1000):xl (.tup l) .none (.int a) H=À (.tup (l.take a),H):=by show ((mW V.none).bind λi=>(lj l.length (.int a)).bind λj=>q8 H (oL l i j))=_;rw[mM (Yc (z' h hl)),ĭ,adh h];show if_pos (z' (tT l 0 a) (z' hl (by decide)))
theorem u6{l:List V}{a:Nat}(h:a<=l.length)(hl:l.length<=1000):xl (.tup l) (.int a) .none H=À (.tup (l.drop a),H):=by
 show ((mW (.int a)).bind λi=>(lj l.length .none).bind λj=>q8 H (oL l i j))=_;rw[qO (Yc (z' h hl)),ĭ];have:oL l a l.length=l.drop a:=by unfold oL;rw[Ň]
 show q8 H (oL l a l.length)=_;rw[this];show if_pos (z' (by rw[ϴ];show Ŗ _ _) (z' hl (by decide)))
theorem Jm{a b:List V}(h:a.length+b.length<=1000):mD .Add (.tup a) (.tup b) H=À (.tup (a++b),H):=if_pos (by rw[Ā];show z' h (by decide))
end
def pQ(d:Nat)(H:ag)(aN:Int)(ds:List bh)(k:Nat)(c:Int):Prop:=∀(hd:∀x∈ds,x.okA aN) (hl:ds.length<=24) (hk:k<12),∃(FO:List bh) (ae:ag),aC PP (d+2) 40 [.tup (ds.map bh.v),.str (gJ aN k),.int c] H=À (.ok (.tup (FO.map bh.v)),ae)/\aF H ae/\FO.length<=26/\∀x∈FO,x.okA aN
namespace near11H
def kc:=hc (U6 pQ) (0,[],0,[],0,0)
def d:=kc.1
def H:=kc.2.1
def aN:=kc.2.2.1
def ds:=kc.2.2.2.1
def k:=kc.2.2.2.2.1
def c:=kc.2.2.2.2.2
theorem kt:pQ d H aN ds k c:=by
 intro hd hl hk;generalize hn:gJ aN k=O
 obtain ⟨v,ae,h,FO,rfl,h1⟩:=eR (R:=λv ae=>∃FO:List bh,v=.tup (FO.map bh.v)/\aF H ae/\FO.length<=26/\∀x∈FO,x.okA aN) (P:=PP) (k:=40) rfl (as:=[.tup (ds.map bh.v),.str O,.int c]) rfl (by
  show aE (xc (d:=d) (H:=H) hd O) λbn e1 k1=>?_;have hz:=PY hd O;generalize bg (ds.map (fe O 0))=z at e1 hz;show W.set (aK N (af N e1) N) ?_;have h3:=db (a:=c) (b:=3) (by decide);generalize hw:199+c.fmod 3-z=w;have X5:w<=201:=by show y3 0xc00c99210b00811b38113b2e0a100c79 N hz h3.2 hw
  show W.if_ N (λj=>W.retE N ⟨_,N,ds,N,k1,by show jL (y1 0xc001a9010b001890 N (iL hl)),hd⟩) λh2=>W.nil ?_;have hm:=db (a:=c.fdiv 3) (b:=w-1) (by show y1 0x1ce1800815b280 N h2);show W.set (aK N (aK N N (dP (by show λq0=>zI (y1 0x1c080815b28012b08e180 N h2 q0)))) N) ?_;generalize (c.fdiv 3).fmod (w-1)=t at hm;show aE (fm (a:=c.fdiv 600) (b:=7) (by decide)) λd1 f1 g1=>aE (fm (a:=c.fdiv 4200) (b:=7) (by decide)) λd2 f2 g2=>?_
  have nd:∀(H:ag) (U:aJ) (e b:CE) (i:Nat) (y:Int),ab (aC PP (d+1)) e U H=À (.int ((1+i:Nat):Int),H)->ab (aC PP (d+1)) b U H=À (.int y,H)->U 1=À (.str O)->ab (aC PP (d+1)) (.tuple (.cons e (.cons (.tuple (.cons (.tuple (.cons (.var 1) (.cons b .nil))) .nil)) .nil))) U H=À (bh.v ⟨1+i,[(O,y)]⟩,H):=λH U e b i y h1 h2 h3=>
   ca (ay h1 (al (ca (al (ca (ay (aB h3) (al h2)) (show 2<=aw by decide))) (show 1<=aw by decide)))) (show 2<=aw by decide)
  show W.set (v:=.tup ([⟨1+d1,[(O,1+t)]⟩,⟨1+d2,[(O,w-(1+t))]⟩].map bh.v)) (Î:=bn) (ca (ay (nd _ _ _ _ d1 _ (by show À (V.int (1+(c.fdiv 600).fmod 7),bn)=_;rw[f1];rfl) N N) (al (nd _ _ _ _ d2 _ (by show À (V.int (1+(c.fdiv 4200).fmod 7),bn)=_;rw[f2];rfl) N N))) (show 2<=aw by decide)) (aE (fm (a:=c.fdiv 30000) (b:=(ds.map bh.v).length+1) (by show y1 0x1ca1800810b008 N (iP _))) λa f3 g3=>?_);have TD:(ds.map bh.v).length<=1000:=by rw[H'];show jL (y1 0xc03e89010b001890 N (iL hl))
  show W.set (Î:=bn) (f3▸aK N (aK (aO N (gP _)) N N) (dP (by show λq0=>zI (y1 0x1c080810b00812b08a180 N (iP _) q0)))) ?_;have ha:a<=(ds.map bh.v).length:=by show jL (y2 0xc1011ba1810 N g3)
  show W.retE (v:=.tup ((ds.take a++[(⟨1+d1,[(O,1+t)]⟩:bh),⟨1+d2,[(O,w-(1+t))]⟩]++ds.drop a).map bh.v)) (aK (aK (n6 (aB N) N N (PN ha TD)) (aB N) (Jm ?_)) (n6 (aB N) N N (u6 ha TD)) ((Jm ?_).trans ?_)) ⟨_,N,_,N,k1,?_,λx hx=>?_⟩
  ·rw[ũ,H'];show z' (ϯ (z' (acr _ _) hl) 2) (by decide)
  ·rw[Ā,ũ,ϴ,H',H'];show z' (Ϭ (ϯ (z' (acr _ _) hl) 2) (z' (Ŗ _ _) hl)) (by decide)
  ·rw[ŉ,ŉ,List.map_take,afC]
  ·rw[H']at ha
   rw[Ā,Ā,ũ,ϴ,Ų ha];show a+2+_<=_;show jL (y5 0xc001a9310b00189012ba282112ba41312be204 N (iL hl) (iA _ _) (iA _ _) (Ϯ (jL (y2 0xc1010b10 N (iL ha)))))
  ·have nw:∀(i:Nat) (b:Int),(i:Int)<7->1<=b->b<=201->bh.okA aN ⟨1+i,[(O,b)]⟩:=λi b h1 h2 h3=>⟨⟨Ō 1 i,(by show jL (y2 0xc78111b78012ba0181 N h1 (iA _ _)):1+i<=7),(by decide:1<=20)⟩,λp hp=>W'.mp hp▸⟨⟨k,hk,hn.symm⟩,h2,h3⟩⟩
   rcases Ģ.mp hx with hx|hx
   ·rcases Ģ.mp hx with hx|hx
    ·show hd x (ű hx)
    ·rcases ą.mp hx with hx|hx
     ·show hx▸nw d1 _ g1 (by show y1 0xca0181810b008 N hm.1) (by show y2 0xc00c99a11810b00c99011be1801 N X5 hm.2)
     ·show W'.mp hx▸nw d2 _ g2 (by show y2 0xcea01811811be1810 N hm.2) (by show y2 0xc00c99ea118010b00c99010b108 N X5 hm.1)
   ·show hd x (ϙ hx))
 show⟨FO,ae,h,h1⟩
end near11H
theorem Py{ds:List bh}:pQ d H aN ds k c:=hk (P:=U6 pQ) near11H.kt (d,H,aN,ds,k,c)
section
variable{Á:ax}{aD body y:fv}{U L:aJ}{H Î Û:ag}{Q:cw->aJ->ag->Prop}{t:jQ}{it:jm}{ws:List (Nat×bu)}{e:CE}{as:gG}{vs:List V}{c f i:Nat}{w:Str}{v:V}
def EQ(L:aJ)(I:Nat->ag->Prop)(ï:cw->ag->Prop)(j:Nat)(fl:cw)(U:aJ)(H:ag):Prop:=(fl=.next/\Le L U/\I (j+1) H)\/(fl≠.next/\ï fl H)
theorem W.each{α:Type}{xs:List α}{g:α->V}(L:aJ)(I:Nat->ag->Prop)(ï:cw->ag->Prop)(hs:cD Á it U H=À (xs.map g,ws,Î))(hl:Le L U)(h0:I 0 Î)(hw:∀j H,I j H->cA H ws)
  (step:∀j x H,xs[j]?=À x->I j H->∃aU,t.put (g x) L=À aU/\W Á body aU H (EQ L I ï j)) (k:∀ae,I xs.length ae->W Á aD L ae Q) (kj:∀fl aU ae,ï fl ae->Q fl aU ae):W Á (.cons (.for_ t it body) aD) U H Q:=by
 show W.loopE hs (λj U H=>U=L/\I j H) ï hl ⟨N,h0⟩ (λj z H h=>hw j H h.2) (λj y P2 bn hy q=>?_) (λP2 bn q=>?_) kj
 ·show aQ q λq hI=>?_;apply aY q
  show aE (uJ hy) λx hx q3=>?_;apply aY q3;show aE (step j x bn hx hI) λaU h1 h2=>⟨aU,h1,h2.mono λfl aU ae q=>q.imp (λq=>⟨q.1,L,q.2.1,N,q.2.2⟩) id⟩
 ·show aQ q λq hI=>?_;apply aY q
  rw[H']at hI;show k bn hI
theorem W.forX(h:bP Á as U H=À (vs,Î))(hc:Á f vs Î=À (.exc c w,Û))(k:Q (.exc c w) U Û):W Á (.cons (.for_ t (.ex (.call f as)) body) aD) U H Q:=
 W.out (fl:=.exc c w) (λq=>nomatch q) (λr hl=>by have X:=qo (dY as hl h) hc;rw[y0];show tG (by rw[kW,X.1];rfl) X.2) k
theorem W.setX(h:bP Á as U H=À (vs,Î))(hc:Á f vs Î=À (.exc c w,Û))(k:Q (.exc c w) U Û):W Á (.cons (.assign t (.call f as)) aD) U H Q:=
 W.out (fl:=.exc c w) (λq=>nomatch q) (λr hl=>by have X:=qo (dY as hl h) hc;rw[gS];show tG (by rw[X.1];rfl) X.2) k
theorem W.tryO(h:ab Á e U H=À (v,Û))(k:Q (.ret v) U Û):W Á (.cons (.try_ (.cons (.ret e) .nil) i y) aD) U H Q:=
 W.out (fl:=.ret v) (λq=>nomatch q) (λr hl=>by
  have e1:aM Á (.cons (.ret e) .nil) r H=À (.ret v,r,Û):=by show ip (bG Á (.ret e) r H) _=_;rw[lT,lM (r:=(.ret v,r,Û)) (by rw[aI e hl h];rfl)];rfl
  rw[y9,e1];rfl) k
theorem W.tryE(h:bP Á as U H=À (vs,Î))(hc:Á f vs Î=À (.exc c w,Û))(hy:W Á y (cS U i (.ref (Û.length+1))) (Û++[.wd w,.exn c Û.length]) λfl aU ae=>fl=.ret v/\Q (.ret v) aU ae):W Á (.cons (.try_ (.cons (.ret (.list (.cons (.call f as) (.cons e .nil)))) .nil) i y) aD) U H Q:=λr hl=>by
 obtain ⟨fl,b,aU,ae,h1,h2,rfl,h3⟩:=hy _ (hl.upd i _);show⟨.ret v,b,aU,ae,h1,?_,h3⟩;have X:=qo (dY as hl h) hc
 have e1:aM Á (.cons (.ret (.list (.cons (.call f as) (.cons e .nil)))) .nil) r H=À (.exc c w,r,Û):=by
  show ip (bG Á (.ret (.list (.cons (.call f as) (.cons e .nil)))) r H) _=_;rw[lT,tG (c:=c) (w:=w) (H:=Û)];rfl
  ·show bY (bY (bY (ab Á (.call f as) r H) _) _) _=_
   rw[X.1];rfl
  ·show T5 (dZ Á (.call f as) r H) _=_
   rw[X.2];rfl
 show ip (bG Á (.try_ (.cons (.ret (.list (.cons (.call f as) (.cons e .nil)))) .nil) i y) r H) (aM Á aD)=_;rw[y9,e1];show ip (handled (aM Á y _ _)) _=_;rw[h2];rfl
end
theorem Xl{x y:V}{b:Bool}(h:oz H x y=À b):sH .Eq x y H=À b:=by show (oz H x y).or _=_;rw[h];rfl
def tE(d k:Nat)(as:List V)(H:ag)(R:V->ag->Prop):Prop:=∃v ae,aC PP d k as H=À (.ok v,ae)/\aF H ae/\R v ae
def QI(d k:Nat)(as:List V)(H:ag)(R:yA->ag->Prop):Prop:=∃v ae,aC PP d k as H=À (v,ae)/\aF H ae/\R v ae
theorem gf{f:bq}{as:List V}{d k:Nat}(hk:PP[k]?=À f)(ha:as.length=f.arity)(h:W (aC PP d) f.body (bJ as) H (RQ λv ae=>aF H ae/\R v ae)):tE (d+1) k as H R:=eR hk ha h
theorem HJ{f:bq}{as:List V}{d k:Nat}(hk:PP[k]?=À f)(ha:as.length=f.arity)(h:W (aC PP d) f.body (bJ as) H (RX λv ae=>aF H ae/\R v ae)):QI (d+1) k as H R:=Ow hk ha h
structure lK(H:ag)(q:Nat)(l:List V)(ae:ag):Prop where
 hq:H.length<=q
 hk:aF H ae
 hl:ae[q]?=À (.lst l)
theorem lK.set(Ċ:lK H q l ae)(m:List V):lK H q m (ae.set q (.lst m)):=⟨Ċ.hq,Ċ.hk.set Ċ.hq,eO Ċ.hl⟩
theorem lK.keep(Ċ:lK H q l ae)(K:aF ae ir):lK H q l ir:=⟨Ċ.hq,Ċ.hk.trans K,K _ _ Ċ.hl⟩
theorem lK.new(H:ag)(l:List V):lK H H.length l (H++[.lst l]):=⟨đ _,aF.app _ _,az _ _⟩
theorem nN{Á:ax}{U:aJ}{H:ag}{e:CE}{n:Nat}(he:∀ae,ab Á e U ae=À (.int n,ae))(hn:n<=100000):
  ∃q ae,ab Á (.bin .Mult (.list (.cons (.cst (.int 0)) .nil)) e) U H=À (.ref q,ae)/\lK H q ((Ņ n (0:Int)).map .int) ae:=by
 have hr:Dy [V.int 0] n=(Ņ n (0:Int)).map V.int:=by
  clear he hn
  induction n with
  |zero=>rfl
  |succ n ih=>show V.int 0::Dy [V.int 0] n=_;rw[ih];rfl
 show⟨_,_,aK (bZ (vs:=[.int 0]) N (show 1<=aw by decide)) (he _) ?_,z' (aF.app H [.lst [.int 0]]).len (đ _),(aF.app _ _).trans (aF.app _ _),az _ _⟩;show ((lst (H++[.lst [.int 0]]) H.length).bind λx=>if 0<=(n:Int)/\(n:Int)<=100000/\x.length<=100 then rQ (H++[.lst [.int 0]]) (Dy x (n:Int).toNat) else Ã)=_;rw[cC (az _ _)];show (if 0<=(n:Int)/\(n:Int)<=100000/\1<=100 then rQ (H++[bu.lst [.int 0]]) (Dy [.int 0] (n:Int).toNat) else Ã)=_;rw[if_pos ⟨Ē n,Ş.mpr hn,by decide⟩,ĭ,hr];show if_pos (by rw[H',ϥ];show z' hn (by decide))
theorem ve:∀{l:List Int} {i:Nat} (t:Nat),i<l.length->bg ((l.set i (bS l i+a)).drop t)=bg (l.drop t)+if t<=i then a else 0
 |x::l,0,0,_=>by show bg ((x+a)::l)=bg (x::l)+a;rw[aV,aV];show ņ (y3 0xca1a20a2a10 N) (y3 0xca1a20a2a10 N)
 |x::l,0,t+1,_=>by show bg (l.drop t)=bg (l.drop t)+if t+1<=0 then a else 0;rw[if_neg (adW t),Œ]
 |x::l,i+1,0,h=>by have:=ve (a:=a) 0 (acl h);rw[if_pos (ĥ _)]at this;show bg (x::l.set i (bS l i+a))=bg (x::l)+if 0<=i+1 then a else 0;rw[aV,aV,if_pos (ĥ _)];change bg (l.set i (bS l i+a))=bg l+a at this;rw[this,ϒ]
 |x::l,i+1,t+1,h=>by
  have:=ve (a:=a) t (acl h);show bg ((l.set i (bS l i+a)).drop t)=bg (l.drop t)+if t+1<=i+1 then a else 0;rw[this];by_cases q:t<=i
  ·rw[if_pos q,if_pos (Š q)]
  ·rw[if_neg q,if_neg λz=>q (adI z)]
theorem vJ(l:List (Str×Int))(p:Str×Int)(n:Str):cK (l++[p]) n=cK l n+if p.1==n then p.2 else 0:=by
 unfold cK;rw[aeX,ŉ,aen,List.filter_nil];cases p.1==n with
 |true=>rw[if_pos N];show tz _ _
 |false=>rw[if_neg Ķ];show(congrArg bg (Ĭ _)).trans (Œ _).symm
def Pk.okQ(p:Pk):Prop:=4<=p.a/\p.a<=200
structure QP where
 ds:List bh
 bs:List cn
 ps:List Pk
 sd:Int
 dl:ds.length<=26
 dk:∀x∈ds,x.okA sd
 bl:bs.length<=120
 bk:∀b∈bs,0<=b.a
 pl:ps.length<=9
 pk:∀p∈ps,p.okQ
def QP.v(c:QP):List V:=[.tup (c.ds.map bh.v),.tup (c.bs.map cn.v),.tup (c.ps.map Pk.v)]
def Uy(v:V)(ae:ag):Prop:=∃(w:Nat) (c:QP),v=.ref w/\ae[w]?=À (.lst c.v)
abbrev wL(q:Nat)(ds:List bh)(bs:List cn)(ps:List Pk)(z:Int):aJ:=bN [Ã,À (.ref q),Ã,À (.tup (ds.map bh.v)),À (.tup (bs.map cn.v)),À (.tup (ps.map Pk.v)),À (.int z)]
def nJ(d:Nat)(r:Nat)(H:ag)(cs:List Int):Prop:=∀(hr:H[r]?=À (.lst (cs.map .int))),tE (d+4) 41 [.ref r] H Uy
namespace world11H
def kc:=hc (U4 nJ) (0,0,[],[])
def d:=kc.1
def r:=kc.2.1
def H:=kc.2.2.1
def cs:=kc.2.2.2
theorem kt:nJ d r H cs:=by
 intro hr;show gf N N ?_;show Xj (z9 (d:=d+1) hr) λq aN m bn e1 hq k1 qI hm=>W.set (af (vs:=[.ref r]) N e1) ?_;have h1:=k1 _ _ hr;show W.set (af (vs:=[.ref r,.int 2]) N (qi (P:=PP) (k:=21) (d:=d+2) N h1 2 (by decide) N)) ?_;generalize cellF cs 2=c;show aE (s9 (P:=PP) (k:=33) (d:=d+2) (H:=bn) N c 5 24 (by decide)) λn1 f1 rO=>Mz (FG (d:=d+1) h1 hq qI hm n1 (by show jL (y1 0xc00c89010b001890 N (iL rO)))) λds cY e2 k2 MM Tv=>W.set (af (vs:=[.ref r,.ref q,.int n1]) (ay N (ay N (al (af (vs:=[.int c,.int 5,.int 24]) N f1)))) e2) (aE (s9 (P:=PP) (k:=33) (d:=d+2) (H:=cY) N (c.fdiv 1500) 5 120 (by decide)) λn2 f2 yr=>Mz (G8 (d:=d+1) (k2 _ _ h1) (k2 _ _ hq) qI hm n2 (by show jL (y1 0xc00c89010b007890 N (iL yr)))) λbs fg e3 k3 Zo Zn=>W.set (af (vs:=[.ref r,.ref q,.int n2]) (ay N (ay N (al (af (vs:=[.int (c.fdiv 1500),.int 5,.int 120]) N f2)))) e3) ?_);have k3:=k2.trans k3;show aE (fm (a:=c.fdiv 60000) (b:=6) (by decide)) λn3 f3 RT=>Mz (La (d:=d+1) (k3 _ _ h1) (k3 _ _ hq) qI hm n3 (by show jL (y1 0xc00c89011b680 N RT))) λps vt e4 k4 zB I6=>W.set (af (vs:=[.ref r,.ref q,.int n3]) (ay N (ay N (al (by show À (V.int ((c.fdiv 60000).fmod 6),fg)=_;rw[f3])))) e4) ?_;have k4:=k3.trans k4;have R8:=k4 _ _ hq;have Y8:=k1.trans k4;have hz:(ps.map λp:Pk=>Pk.v ⟨p.n,max 4 p.a,p.p,p.l⟩).length<=aw:=by rw[H',zB];show z' (by show jL (y1 0xc68011b680 N RT):n3<=6) (by decide)
 have ec:=dp (elt:=ab (aC PP (d+3)) (.bin .Add (.tuple (.cons (.idx (.var 9) (.cst (.int 0))) (.cons (.prim .max2 (.cons (.cst (.int 4)) (.cons (.idx (.var 9) (.cst (.int 1))) .nil))) .nil))) (.slc (.var 9) (.cst (.int 2)) (.cst .none)))) (cond:=cW (aC PP (d+3)) .nil) (t:=.one 9) (w:=[]) (U:=cS (cS (cS (cS (cS (bJ [.ref r]) 1 (.ref q)) 2 (.int c)) 3 (.tup (ds.map bh.v))) 4 (.tup (bs.map cn.v))) 5 (.tup (ps.map Pk.v))) (H:=vt) (g:=Pk.v) (p:=λu=>Æ) (f:=λp:Pk=>Pk.v ⟨p.n,max 4 p.a,p.p,p.l⟩) (bj _) (xs:=ps) λp hp=>
  ⟨_,N,N,λu=>aK (x:=.tup [.str p.n,.int (max 4 p.a)]) (ca (ay (aP 0 _ _ (aB (v:=p.v) N) N (by decide) N) (al (aO (vs:=[.int 4,.int p.a]) (ay N (al (aP 1 _ _ (aB (v:=p.v) N) N (by decide) N))) N))) (show 2<=aw by decide)) (n6 (aB (v:=p.v) N) N N (u6 (a:=2) (l:=[.str p.n,.int p.a,.int p.p,.int p.l]) (show 2<=4 by decide) (show 4<=1000 by decide))) (Jm (show 4<=1000 by decide))⟩
 rw[eS]at ec;show W.set (aO (al (eM (cj N) ec hz)) (bC (az _ _) hz)) ?_
 have pM:∀p∈ps.map λp:Pk=>(⟨p.n,max 4 p.a,p.p,p.l⟩:Pk),p.okQ:=λp hp=>by show aE (ŗ.mp hp) λx hx e=>?_;apply fR e;have:=I6 x hx;unfold Pk.okP at this;show⟨(by show y1 0xc04810b048 N (ado _ _):4<=max 4 x.a),(by show(acV _ _).elim (λd0=>y2 0xc00c89110b00c89012b01 N this.2 (acM d0)) λd0=>y1 0xc00c89012b480 N (adn d0):max 4 x.a<=200)⟩
 rw[show (ps.map λp:Pk=>Pk.v ⟨p.n,max 4 p.a,p.p,p.l⟩)=(ps.map λp:Pk=>(⟨p.n,max 4 p.a,p.p,p.l⟩:Pk)).map Pk.v by rw[Ŧ];rfl];have Vi:aF H (vt++[.lst ((ps.map λp:Pk=>(⟨p.n,max 4 p.a,p.p,p.l⟩:Pk)).map Pk.v)]):=Y8.trans (aF.app _ _);have Qj:=aF.app vt [.lst ((ps.map λp:Pk=>(⟨p.n,max 4 p.a,p.p,p.l⟩:Pk)).map Pk.v)] _ _ R8;have zB:(ps.map λp:Pk=>(⟨p.n,max 4 p.a,p.p,p.l⟩:Pk)).length<=5:=by rw[H'];show jL (y2 0xc58111b68012b01 N RT (iE zB))
 generalize vt++[.lst ((ps.map λp:Pk=>(⟨p.n,max 4 p.a,p.p,p.l⟩:Pk)).map Pk.v)]=mj at Vi Qj;generalize (ps.map λp:Pk=>(⟨p.n,max 4 p.a,p.p,p.l⟩:Pk))=ps1 at pM zB;show W.set (v:=.int (c.fdiv 700000)) N ?_;generalize c.fdiv 700000=z
 -- the gz part,from any packs
 have gw:∀(ps:List Pk) (U:aJ) (mj:ag),ps.length<=9->(∀p∈ps,p.okQ)->aF H mj->mj[q]?=À (.lst [.int aN,.int m])->Le (wL q ds bs ps z) U ->
   W (aC PP (d+3)) (.cons (.ite (.cmp .Eq (.bin .Mod (.bin .FloorDiv (.var 6) (.cst (.int 9000))) (.cst (.int 9))) (.cst (.int 0))) (.cons (.assign (.one 3) (.call 40 (.cons (.var 3) (.cons (.call 25 (.cons (.idx (.var 1) (.cst (.int 0))) (.cons (.bin .Mod (.bin .FloorDiv (.var 6) (.cst (.int 81000))) (.idx (.var 1) (.cst (.int 1)))) .nil))) (.cons (.bin .FloorDiv (.var 6) (.cst (.int 1000000))) .nil))))) .nil) .nil)
    (.cons (.ret (.list (.cons (.var 3) (.cons (.var 4) (.cons (.var 5) .nil))))) .nil)) U mj (RQ λv ae=>aF H ae/\Uy v ae):=λps U mj zB I6 hK hq hl=>by
  show W.le hl ?_
  have ret:∀(ds:List bh) (U:aJ) (mj:ag),ds.length<=26->(∀x∈ds,x.okA aN)->aF H mj->U 3=À (.tup (ds.map bh.v))->U 4=À (.tup (bs.map cn.v))->U 5=À (.tup (ps.map Pk.v))->W (aC PP (d+3)) (.cons (.ret (.list (.cons (.var 3) (.cons (.var 4) (.cons (.var 5) .nil))))) .nil) U mj (RQ λv ae=>aF H ae/\Uy v ae):=λds U mj MM Tv hK g3 g4 g5=>
   W.retE (bZ (ay (aB g3) (ay (aB g4) (al (aB g5)))) (show 3<=aw by decide)) ⟨_,N,hK.trans (aF.app _ _),_,⟨ds,bs,ps,aN,MM,Tv,by show jL (y2 0xc00789110b00789012b01 N (iL yr) (iE Zo)),Zn,zB,I6⟩,N,az _ _⟩
  show W.if_ (p:=(z.fdiv 9000).fmod 9=0) (fD N N) (λu=>aE (fm (a:=z.fdiv 81000) (b:=m) (by show y1 0x1c00810b018 N (iL qI))) λk fk hk=>aE (l5 (P:=PP) (k:=25) (d:=d+2) (H:=mj) N aN k (by show jT (y2 0x1c00649110bc8011b01 N (iL hm) hk))) λIN e6 k6=>Mz (Py (d:=d+1) (H:=IN) (k:=k) (c:=z.fdiv 1000000) Tv (by show jL (y2 0xc00189110b00189012b01 N (iL rO) (iE MM))) (by show jT (y2 0x1cc8110bc8011b01 N (iL hm) hk))) λFO P3 e7 k7 VG VF=>W.set (af (vs:=[.tup (ds.map bh.v),.str (gJ aN k),.int (z.fdiv 1000000)]) (ay N (ay (af (vs:=[.int aN,.int k]) (ay (bF q 0 _ _ N N hq (by decide) N) (al (fk▸aK (x:=.int (z.fdiv 81000)) (y:=.int m) N (bF q 1 _ _ N N hq (by decide) N) (dP (by show λq0=>zI (y1 0x1c080810b01812b080 N (iL qI) q0)))))) e6) (al N))) e7) (W.nil (ret FO _ _ VG VF ((hK.trans k6).trans k7) N N N))) λu=>W.nil (ret ds _ _ (by show jL (y2 0xc001a9110b00189012b01 N (iL rO) (iE MM))) Tv hK N N N)
 have Zw:=iw (Á:=aC PP (d+3)) (U:=wL q ds bs ps1 z) (H:=mj) (a:=.cmp .Gt (.bin .Mod (.var 6) (.cst (.int 3))) (.cst (.int 0))) (b:=.cmp .Lt (.idx (.var 1) (.cst (.int 1))) (.cst (.int 5))) N (bB (bF q 1 _ _ N N Qj (by decide) N) N N);show W.le (a:=wL q ds bs ps1 z) (ak ⟨N,N,N,N,N,trivial⟩) (W.ifB Zw (λhb=>?_) λu=>W.nil (gw ps1 _ _ (by show jL (y1 0xc98010b580 N (iL zB))) pM Vi Qj (Le.refl _)));have V5:m<5:=by have:=of_decide_eq_true (Ł.mp hb).2;show jT (y1 0x1c58011b580 N this)
 show W.loop (cV (n:=m) (bF q 1 _ _ N N Qj (by decide) N) (by show jL (y1 0xc0000000000003b9aca00d010bc80 N (iL hm))))
  (λj U ae=>∃ps:List Pk,U=wL q ds bs ps z/\ps.length<=5+j/\(∀p∈ps,p.okQ)/\aF mj ae) (a:=wL q ds bs ps1 z) (Le.refl _) ⟨ps1,N,zB,pM,aF.refl _⟩ (λu u u u=>bj _) (λj y ρ6 IN hy q1=>?_) λρ6 IN q1=>?_
 ·show tW q1 λps q1 hl hk hK=>?_;apply aY q1
  show aQ (ig hy) λhj q2=>?_;apply aY q2;show aE (l5 (P:=PP) (k:=25) (d:=d+2) (H:=IN) N aN j (Ϣ hj (Ϣ V5 (by decide)))) λP3 e7 k7=>?_;have b1:=db (a:=z.fdiv 3+j) (b:=17) (by decide);show⟨_,N,W.set (af (vs:=[.int aN,.int j]) (ay (bF q 0 _ _ N N (hK _ _ Qj) (by decide) N) (al N)) e7) (W.set (v:=.tup ((ps++[(⟨gJ aN j,4+(z.fdiv 3+j).fmod 17,(z.fdiv 60).fmod 50+j,7+(j:Int).fmod 3⟩:Pk)]).map Pk.v)) (Î:=P3) (aK (aB N) (ca (vs:=[Pk.v ⟨gJ aN j,4+(z.fdiv 3+j).fmod 17,(z.fdiv 60).fmod 50+j,7+(j:Int).fmod 3⟩]) (al (ca (vs:=[.str (gJ aN j),.int (4+(z.fdiv 3+j).fmod 17),.int ((z.fdiv 60).fmod 50+j),.int (7+(j:Int).fmod 3)]) N (show 4<=aw by decide))) (show 1<=aw by decide)) ((Jm (by rw[H'];show z' (Š (z' hl (Ϙ (ī (Ϣ hj V5)) 5))) (by decide))).trans (by rw[ŉ];rfl))) (W.nil ⟨N,wL q ds bs (ps++[(⟨gJ aN j,4+(z.fdiv 3+j).fmod 17,(z.fdiv 60).fmod 50+j,7+(j:Int).fmod 3⟩:Pk)]) z,ak ⟨N,N,N,N,N,trivial⟩,_,N,by rw[Ā];show Š hl,λp hp=>â (Ģ.mp hp) (hk p) λh=>W'.mp h▸⟨Int.le_add_of_nonneg_right b1.1,Ĵ (ad3 (acW b1.2) 4) (by decide)⟩,hK.trans k7⟩))⟩
 ·show tW q1 λps q1 hl hk hK=>?_;apply aY q1
  rw[ii]at hl;show W.nil (gw ps _ _ (z' hl (Ϙ (ϋ V5) 5)) hk (Vi.trans hK) (hK _ _ Qj) (Le.refl _))
end world11H
theorem LU:nJ d r H cs:=hk (P:=U4 nJ) world11H.kt (d,r,H,cs)
def lawR:fv:=match Rl.body with
 |.cons _ r=>r
 |.nil=>.nil
def N4(c:QP):Prop:=∀(w:Nat) (H:ag),H[w]?=À (.lst c.v)->W (aC PP 19) lawR (bN [Ã,À (.ref w)]) H (RQ λv z=>v=.bool Æ)
def kw:QP:=hc N4 ⟨[],[],[],0,ĥ _,λz h=>absurd h acO,ĥ _,λz h=>absurd h acO,ĥ _,λz h=>absurd h acO⟩
def Ds:List bh:=kw.ds
def Bs:List cn:=kw.bs
def Ps:List Pk:=kw.ps
def vD:V:=.tup (Ds.map bh.v)
def vG:V:=.tup (Bs.map cn.v)
def vP:V:=.tup (Ps.map Pk.v)
theorem Qx:Ds.length<=26:=kw.dl
theorem NS:∀x∈Ds,x.okA kw.sd:=kw.dk
theorem P1:∀x∈Ds,x.ok:=λx hx=>(NS x hx).1
theorem LP:∀x∈Ds,x.okN kw.sd:=λx hx=>⟨P1 x hx,λp hp=>((NS x hx).2 p hp).1⟩
theorem WX:Bs.length<=120:=kw.bl
theorem Ym:∀b∈Bs,0<=b.a:=kw.bk
theorem LY:Ps.length<=30:=z' kw.pl (by decide)
theorem Yo:∀p∈Ps,1<=p.a:=λp hp=>Ĵ (by decide) (kw.pk p hp).1
def CZ(n:Str)(t:Nat)(b:cn):Int:=if pk n t b then b.a else 0
def fo(n:Str)(t:Nat):Int:=max 0 (0+bg (Ds.map (fe n t))+bg (Bs.map λb=>- CZ n t b))
abbrev WD(n:Str)(p:Nat)(t:Nat)(z:Int):aJ:=bN [À vD,À vG,À (.str n),À (.ref p),À (.int (1+(t:Int)*1)),À (.int z)]
theorem gk:∀l m:List Int,bg (l++m)=bg l+bg m
 |[],m=>(ş _).symm
 |x::l,m=>by rw[aek,aV,aV,gk l m,ϒ]
theorem xW(f:α->Int):∀l:List α,bg (l.map λx=>- f x) =-bg (l.map f)
 |[]=>rfl
 |x::l=>by rw[œ,œ,aV,aV,xW f l,Int.neg_add]
theorem jx(bs:List cn)(n:Str)(t:Nat):f0 bs n t=bg (bs.map (CZ n t)):=nC bs
theorem uD(n:Str)(t:Nat):fo n t=max 0 (bg (Ds.map (fe n t))-f0 Bs n t):=by unfold fo;rw[xW,<-jx,ş];rfl
theorem m7(x:Int):∀n:Nat,bg (Ņ n x)=x*n
 |0=>(aeY x).symm
 |n+1=>by rw[adZ,aV,m7 x n,Int.natCast_add,aeB,ϭ];show congrArg _ (Ϲ x).symm
def x8:List Str:=jO ((Au (pq Ds)).map (·.1))
def Bp(n:Str):List Int:=(č 7).map (fo n)
theorem dR{n j x:Nat}(h:(č n)[j]?=À x):x=j/\j<n:=by have hj:j<n:=Ľ (n:=n)▸(Ğ.mp h).1;rw[ό hj]at h;show⟨(sm h).symm,hj⟩
section
variable{Á:ax}{U:aJ}{H Î:ag}{ws:List (Nat×bu)}
theorem rK{α:Type}{elt:CE}{t:jQ}{it:jm}{ifs:gG}{g f:α->V}{p:α->Bool}{xs:List α}(hs:cD Á it U H=À (xs.map g,ws,Î))(hw:cA Î ws)(hz:xs.length<=aw)
  (h:∀x∈xs,∃aU,t.put (g x) U=À aU/\cW Á ifs aU Î=À (p x,Î)/\(p x=Æ->ab Á elt aU Î=À (f x,Î))) :
  ab Á (.prim .tuple (.cons (.comp elt t it ifs) .nil)) U H=À (.tup ((xs.filter p).map f),Î++[.lst ((xs.filter p).map f)]):=by
 have sW:((xs.filter p).map f).length<=aw:=by rw[H'];show z' (abM p xs) hz
 show aO (al (eM hs (dp hw h) sW)) (bC (az _ _) sW)
theorem BZ(l:List Int):gE .sum [.tup (l.map .int)] H=À (.int (bg l),H):=by show (cB (l.map .int)).bind (λns=>À (V.int (ns.foldl (·+·) 0),H))=_;rw[lX];rfl
theorem PH:cD Á (.rng1 (.cst (.int 7))) U H=À ((č 7).map λj:Nat=>V.int j,[],H):=by rw[<-fH];rfl
theorem iB{l:List Int}{t:Nat}(h:t<l.length):(l.map V.int)[((t:Nat):Int).toNat]?=À (.int (bS l t)):=A6 h
end
section
variable{d:Nat}{H:ag}{O:Str}
theorem Eb:tE (d+1) 0 [vD] H λv z=>v=.tup (x8.map .str):=by have hs:=oG (pG LP);show gf N N (W.set (Î:=H++[.ds []]) N (wD LP N N (az _ _) (λp U yt=>⟨_,N,yt,λz=>rfl⟩) λbn hK hD=>W.retE (aO (al (aO (al (aB N)) (pc hD hs))) (bC (az _ _) (by rw[H',tw,H'];show z' hs (by decide)))) ⟨_,N,(uA hK).trans (aF.app _ _),N⟩))
abbrev neL(O:Str)(q:Nat):aJ:=bN [Ã,À (.str O),À (.ref q)]
def W3(H:ag)(q:Nat)(S:Nat->Int)(ae:ag):Prop:=∃l:List Int,lK H q (l.map .int) ae/\l.length=7/\∀t,bg (l.drop t)=S t
theorem o4(O:Str):tE (d+1) 1 [vD,.str O] H λv k=>∃l:List Int,v=.tup (l.map .int)/\l.length=7/\∀t,bg (l.drop t)=bg (Ds.map (fe O t)):=by
 show gf N N (gm (nN (Á:=aC PP d) (U:=bJ [vD,.str O]) (H:=H) (n:=7) (e:=xn 7) (λk=>rfl) (by decide)) λq bn e1 Ċ=>W.set e1 (W.each (neL O q) (λj=>W3 H q λt=>bg ((Ds.take j).map (fe O t))) (λk k=>False) (cj N) (ak ⟨N,N,trivial⟩) ⟨_,Ċ,N,λt=>by rw[List.drop_replicate,m7,acD];rfl⟩ (λk k k=>bj _) (λj x cY hx I=>⟨_,N,?_⟩) (λcY I=>?_) λk k k q=>q.elim))
 ·have M0:=P1 x (ģ hx)
  obtain ⟨dy,ns⟩:=x;cases dy with
  |zero=>show absurd M0.1 (adW 0)
  |succ i=>
   have hi:i<7:=M0.2.1;show W.each (bN [Ã,À (.str O),À (.ref q),À (.int ((i+1:Nat):Int))]) (λm=>W3 H q λt=>bg ((Ds.take j).map (fe O t))+if t<=i then cK (ns.take m) O else 0) (λk k=>False) (cj N) (ak ⟨N,N,N,trivial⟩) ?_ (λk k k=>bj _) (λm p fg hp ï=>⟨_,N,?_⟩) (λfg ï=>?_) λk k k q=>q.elim
   ·show eJ I λl Ċ h1 h2=>⟨l,Ċ,h1,λt=>(h2 t).trans (by show _=_+ite _ (0:Int) 0;rw[ite_self,Œ])⟩
   ·have hS:∀t,(bg ((Ds.take j).map (fe O t))+if t<=i then cK (ns.take (m+1)) O else 0)=(bg ((Ds.take j).map (fe O t))+if t<=i then cK (ns.take m) O else 0)+if t<=i then (if p.1==O then p.2 else 0) else 0:=λt=>by
     rw[be hp,vJ];split
     ·rw[ϒ]
     ·show(Œ _).symm
    show W.ifB (b:=p.1==O) N (λhb=>?_) λhb=>W.nil (W.nil (.inl ⟨N,ak ⟨N,N,N,trivial⟩,?_⟩))
    ·show eJ ï λl Ċ h1 h2=>?_
     have ei:∀U ae,U 3=À (.int ((i+1:Nat):Int))->ab (aC PP d) (xS (xv 3) (xn 1)) U ae=À (.int i,ae):=λU ae h=>(aK (y:=.int 1) (Û:=ae) (aB h) N N).trans (congrArg (λz:Int=>À (V.int z,ae)) (adr (i:Int) 1));show W.setItem0 q i (l.map .int) (.int (bS l i+p.2)) (aK (bF q i _ _ N (ei _ _ N) Ċ.hl (Ē _) (iB (h1▸hi))) N N) N (ei _ _ N) Ċ.hl (Ē _) (by rw[ĭ,H',h1];show hi) (W.nil (W.nil (.inl ⟨N,ak ⟨N,N,N,trivial⟩,l.set i (bS l i+p.2),?_,(acC ..).trans h1,λt=>?_⟩)))
     ·rw[ĭ,f9];show Ċ.set _
     ·show(ve t (h1▸hi)).trans ((congrArg (·+_) (h2 t)).trans (by show _=_+ite _ (cK (ns.take (m+1)) O) 0;rw[hS,if_pos hb]))
    ·show eJ ï λl Ċ h1 h2=>⟨l,Ċ,h1,λt=>(h2 t).trans (by show _=_+ite _ (cK (ns.take (m+1)) O) 0;rw[hS,if_neg (λq=>Ķ (hb.symm.trans q)),ite_self,Œ])⟩
   ·show W.nil (.inl ⟨N,ak ⟨N,N,trivial⟩,eJ ï λl Ċ h1 h2=>⟨l,Ċ,h1,λt=>(h2 t).trans ?_⟩⟩)
    show _+ite _ (cK (ns.take ns.length) O) 0=bg ((Ds.take (j+1)).map (fe O t));rw[be hx,ŉ,gk,Ň];show _=_+(0+fe O t ⟨i+1,ns⟩);rw[ş];unfold fe;by_cases h:t<=i
    ·rw[if_pos h,if_pos (ϫ h)]
    ·rw[if_neg h,if_neg λq=>h (ϋ q)]
 ·show eJ I λl Ċ h1 h2=>W.retE (aO N (bC Ċ.hl (by rw[H',h1];decide))) ⟨_,N,Ċ.hk,l,N,h1,λt=>(h2 t).trans (by rw[Ň])⟩
theorem CV(l:List Int)(hl:l.length=7):tE (d+1) 2 [.tup (l.map .int)] H λv z=>v=.tup (((č 7).map λt=>bg (l.drop t)).map .int):=by
 show gf N N (W.retE (rK (p:=λz=>Æ) (f:=λt=>.int (bg (l.drop t))) PH (bj _) (by decide) λt ht=>⟨_,N,N,λz=>aO (al (n6 N N N (u6 (by rw[H',hl];show ī (Ũ.mp ht)) (by rw[H',hl];decide)))) ?_⟩) ⟨_,N,aF.app _ _,?_⟩)
 ·rw[<-afC];show BZ _
 ·rw[eS,Ŧ];rfl
theorem yR(j:Nat)(x:Int):decide (1+(j:Int)*1<=x)=decide ((j:Int)<x):=by rw[Ϲ,ϭ];rfl
theorem Di(O:Str):tE (d+1) 7 [vG,.str O] H λv z=>v=.tup (((č 7).map (f0 Bs O)).map .int):=by
 show gf N N (W.set (Î:=H++[.lst []]) N (W.each (xs:=č 7) (g:=λj:Nat=>V.int (1+(j:Int)*1)) (bN [À vG,À (.str O),À (.ref H.length)]) (λj=>lK H H.length (((č j).map (f0 Bs O)).map .int)) (λz z=>False) N (ak ⟨N,N,N,trivial⟩) (lK.new _ _) (λz z z=>bj _) (λj x cY hx I=>⟨_,N,?_⟩) (λcY I=>?_) λz z z q=>q.elim))
 ·show aQ (dR hx) λq hj=>?_;apply aY q
  have hs:=rI (Á:=aC PP d) (elt:=xu 4 1) (t:=.one 4) (it:=.ex (xv 0)) (ifs:=a1 (.and (xE (xu 4 0) (xv 1)) (LZ (xu 4 2) (xv 3)))) (U:=cS (bN [À vG,À (.str O),À (.ref H.length)]) 3 (.int (1+(j:Int)*1))) (H:=cY) (p:=λb=>b.n==O&&decide ((j:Int)<b.l)) (f:=cn.a) (cj N) (bj _) (z' WX (by decide)) λb z=>⟨_,N,nE (yR j b.l▸iw N N),λz=>rfl⟩;show W.append H.length _ _ _ N I.hl hs ((I.keep (aF.app _ _)).hl) (by rw[H',H',Ľ];show z' (ī hj) (by decide)) (W.nil (.inl ⟨N,ak ⟨N,N,N,trivial⟩,?_⟩));show lK H H.length (((č (j+1)).map (f0 Bs O)).map .int) _;rw[ac1,ŉ,ŉ];show(I.keep (aF.app _ _)).set _
 ·show W.retE (aO N (bC I.hl (by rw[H',H',Ľ];decide))) ⟨_,N,I.hk,N⟩
theorem uE(O:Str):tE (d+2) 8 [vD,vG,.str O] H λv z=>v=.tup ((Bp O).map .int):=by
 show gf N N (fQ (o4 (d:=d) (H:=H) O) λv1 bn e1 k1 q=>eJ q λl q1 h1 h2=>?_);rw[q1]at e1;show fQ (CV (d:=d) (H:=bn) l h1) λv2 cY e2 k2 q2=>?_;rw[q2]at e2;show fQ (Di (d:=d) (H:=cY) O) λv3 fg e3 k3 q3=>?_;rw[q3]at e3;show W.set (af (al (af N e1)) e2) (W.set (af N e3) (W.retE (rK (p:=λz=>Æ) (f:=λt=>.int (fo O t)) PH (bj _) (by decide) λt ht=>⟨_,N,N,λz=>aO (ay N (al (aK (aP t _ _ N N (Ē _) (iB (by rw[H'];show Ũ.mp ht |> λh=>by rw[Ľ];show h))) (aP t _ _ N N (Ē _) (iB (by rw[H',Ľ];show Ũ.mp ht))) N))) ?_⟩) ⟨_,N,(k1.trans k2).trans (k3.trans (aF.app _ _)),?_⟩))
 ·have ht:=Ũ.mp ht
  rw[uD,<-h2];unfold bS;rw[Ġ,Ġ,ό ht];rfl
 ·rw[eS,Bp,Ŧ];rfl
theorem KI:tE (d+1) 34 [vD,vG,.str O] H λv ae=>v=.ref H.length/\ae[H.length]?=À (.lst (((č 7).map (fo O)).map .int)):=by
 show gf N N (W.set (Î:=H++[.lst []]) N (W.each (xs:=č 7) (g:=λj:Nat=>V.int (1+(j:Int)*1)) (bN [À vD,À vG,À (.str O),À (.ref H.length)]) (λj=>lK H H.length (((č j).map (fo O)).map .int)) (λy y=>False) N (ak ⟨N,N,N,N,trivial⟩) (lK.new _ _) (λy y y=>bj _) (λj x bn hx I=>⟨_,N,?_⟩) (λbn I=>W.retE N ⟨_,N,I.hk,N,I.hl⟩) λy y y q=>q.elim));show aQ (dR hx) λq hj=>?_;apply aY q;show W.set N (W.acc (WD O H.length j) (fe O j) N 0 (ak ⟨N,N,N,N,N,N,trivial⟩) (λx hx z cY MH=>?_) λcY MH=>W.acc (WD O H.length j) (λb=>- CZ O j b) N (0+bg (Ds.map (fe O j))) (Le.refl _) (λb hb z fg Tr=>?_) λfg Tr=>?_)
 ·unfold fe
  show W.if_ (p:=(j:Int)<x.d) (bB (aP 0 _ _ (aB N) N (by decide) N) N (congrArg À (yR j x.d))) (λhc=>?_) λhc=>W.nil (W.nil ⟨N,?_,MH⟩)
  ·have hs:=rI (Á:=aC PP d) (elt:=xu 8 1) (t:=.one 8) (it:=.ex (xu 6 1)) (ifs:=a1 (xE (xu 8 0) (xv 2))) (U:=cS (WD O H.length j z) 6 x.v) (H:=cY) (cj (aP 1 _ _ (aB N) N (by decide) N)) (bj _) (z' (P1 x hx).2.2 (by decide)) λp hp=>⟨_,N,nE (bB (aP 0 _ _ (aB N) N (by decide) N) N N),λy=>aP 1 _ _ (aB N) N (by decide) N⟩
   show W.set (v:=.int (z+cK x.ns O)) (aK N hs N) (W.nil (W.nil ⟨N,?_,MH.trans (aF.app _ _)⟩));rw[if_pos (ŧ.mp hc)];show ak ⟨N,N,N,N,N,N,trivial⟩
  ·rw[if_neg λz=>hc (ŧ.mpr z),Œ]
   show ak ⟨N,N,N,N,N,N,trivial⟩
 ·unfold CZ
  show W.ifB (b:=pk O j b) (iw (bB (aP 0 _ _ (aB N) N (by decide) N) N N) (bB (aP 2 _ _ (aB N) N (by decide) N) N (congrArg À (yR j b.l)))) (λhc=>?_) λhc=>W.nil (W.nil ⟨N,?_,Tr⟩)
  ·show W.set (aK N (aP 1 _ _ (aB N) N (by decide) N) N) (W.nil (W.nil ⟨N,?_,Tr⟩))
   rw[if_pos hc];show ak ⟨N,N,N,N,N,N,trivial⟩
  ·rw[if_neg λq=>Ķ (hc.symm.trans q),Int.neg_zero,Œ]
   show ak ⟨N,N,N,N,N,N,trivial⟩
 ·have Ċ:=I.keep (MH.trans Tr)
  show W.append0 H.length _ (.int (fo O j)) N Ċ.hl (aO N N) (by rw[H',H',Ľ];show z' (ī hj) (by decide)) (W.nil (.inl ⟨N,ak ⟨N,N,N,N,trivial⟩,?_⟩));show lK H H.length (((č (j+1)).map (fo O)).map .int) _;rw[ac1,ŉ,ŉ];show Ċ.set _
end
noncomputable abbrev rV:=List (Option Int)
noncomputable def rA(r:rV)(i:Nat):Option Int:=(r[i]?).getD Ã
noncomputable def nA(l:List Nat)(i:Nat):Nat:=(l[i]?).getD 0
noncomputable def o5(D:Nat)(o:dn):Bool:=min o.l 7==(D:Int)
def jR(ln:List Nat)(nx:rV)(D a:Nat):Option Int:=if D=7 then (if a=0 then À 0 else Ã) else rA nx (max a (nA ln D))
def p6(r:rV)(a:Nat)(o:dn):Option Int:=(rA r (a-o.a.toNat)).map (·+o.p)
noncomputable def de(os:List dn)(ln:List Nat)(nx:rV)(D:Nat):Nat->rV
 |0=>[jR ln nx D 0]
 |n+1=>de os ln nx D n++[gI ((jR ln nx D (n+1)::(os.filter (o5 D)).map (p6 (de os ln nx D n) (n+1))).filterMap id)]
noncomputable def jl(os:List dn)(ln:List Nat)(M:Nat):Nat->rV
 |0=>[]
 |k+1=>de os ln (jl os ln M k) (7-k) M
section
variable{os:List dn}{ln:List Nat}{nx r:rV}{D a n M:Nat}
theorem eN:∀n,(de os ln nx D n).length=n+1
 |0=>rfl
 |n+1=>by unfold de;rw[Ā,eN n];rfl
theorem Lf{s:rV}(h:a<r.length):rA (r++s) a=rA r a:=by unfold rA;rw[ϕ h]
theorem kU(h:a<=n):rA (de os ln nx D n) a=rA (de os ln nx D a) a:=by
 induction n with
 |zero=>rw[afL.mp h]
 |succ n ih=>
  by_cases q:a=n+1
  ·rw[q]
  ·have h:=ϋ (ū h q)
   show(Lf (by rw[eN];show ϫ h)).trans (ih h)
theorem BL(n:Nat):rA (de os ln nx D (n+1)) (n+1)=gI ((jR ln nx D (n+1)::(os.filter (o5 D)).map (p6 (de os ln nx D n) (n+1))).filterMap id):=by unfold rA;rw[show de os ln nx D (n+1)=de os ln nx D n++[_] from N,Ϟ (by rw[eN];show đ _),eN,Ϻ];rfl
theorem Ga(l:List Int):∀x:Int,l.foldl (λa b=>min a b) x=x\/l.foldl (λa b=>min a b) x∈l:=by
 induction l with
 |nil=>show λx=>.inl N
 |cons y l ih=>intro x;rw[ϧ];show(ih (min x y)).elim (λh=>?_) λh=>.inr (J' _ h);rw[h];show(acV x y).elim (λq=>.inl (acz q)) λq=>.inr (by rw[acp q];show G')
theorem KU{l:List Int}{m:Int}(h:gI l=À m):m∈l:=by
 cases l with
 |nil=>show no h
 |cons x l=>show sm h▸(Ga l x).elim (λq=>ą.mpr (.inl q)) λq=>J' _ q
theorem Hj{l:List Int}(h:(gI l).isSome=Ê):l=[]:=by
 cases l with
 |nil=>rfl
 |cons x l=>show nomatch h
def ME(os:List dn)(D:Nat):Prop:=∃o∈os,(D:Int)<=o.l
theorem SA{a b:Nat}(h:max a b=0):a=0/\b=0:=⟨aex (h▸afs a b),aex (h▸adS a b)⟩
theorem vd{x:Int}(h:1<=x)(n:Nat):n+1-x.toNat<=n:=ad1 (afc.mpr h) (n+1)
def QB(os:List dn)(ln:List Nat)(D a:Nat):Prop:=(a=0\/ME os D)/\∀u,D<u->u<=7->nA ln (u-1)=0\/ME os u
theorem Hq{o:dn}(h:o∈os)(q:o5 D o=Æ):ME os D:=⟨o,h,(beq_iff_eq.mp q)▸acB _ _⟩
theorem OI(h:ME os D)(hD:D<=7):(D<7/\ME os (D+1))\/∃o∈os,o5 D o=Æ:=by
 show aE h λo ho hl=>?_;by_cases q:o5 D o=Æ
 ·show .inr ⟨o,ho,q⟩
 ·have q:min o.l 7≠D:=λz=>q (beq_iff_eq.mpr z)
  have a:(D:Int)<min o.l 7:=aeC.mpr ⟨Int.le_min.mpr ⟨hl,Ş.mpr hD⟩,Ne.symm q⟩;show .inl ⟨ŧ.mp (acu a (acq _ _)),o,ho,acu a (acB _ _)⟩
structure Mb(os:List dn)(ln:List Nat)(nx r:rV)(D M:Nat):Prop where
 len:r.length=M+1
 can:∀a,a<=M->((rA r a).isSome=Æ↔QB os ln D a)
 zero:rA r 0=jR ln nx D 0
 pick:∀a,a<=M->(rA r a).isSome=Æ->rA r a≠jR ln nx D a->∃o∈os,o5 D o=Æ/\p6 r a o=rA r a
end
def pY(os:List dn)(ln:List Nat)(nx:rV)(D:Nat)(M:Nat):Prop:=∀(uo:∀o∈os,1<=o.a) (hD:D<=7) (hn:D<7->∀a,a<=M->((jR ln nx D a).isSome=Æ↔QB os ln (D+1) (max a (nA ln D)))),Mb os ln nx (de os ln nx D M) D M
namespace row_okH
def kc:=hc (U5 pY) ([],[],[],0,0)
def os:=kc.1
def ln:=kc.2.1
def nx:=kc.2.2.1
def D:=kc.2.2.2.1
def M:=kc.2.2.2.2
theorem kt:pY os ln nx D M:=by
 intro uo hD hn
 have go:∀a,a<=M->(jR ln nx D a).isSome=Æ->QB os ln D a:=λa ha h=>by
  by_cases q:D=7
  ·rw[jR,if_pos q]at h
   by_cases z:a=0
   ·show⟨.inl z,λu h1 h2=>by show .inl (Ů ((zI (y2 0x1c080813b78011b1010b781 N (iE q) (iT h1) (iL h2))).elim) ((zI (y2 0x1c080813b78011b1010b781 N (iE q) (iT h1) (iL h2))).elim))⟩
   ·rw[if_neg z]at h;show nomatch h
  ·have q:=ū hD q
   show aQ ((hn q a ha).mp h) λh1 h2=>⟨h1.imp (λz=>(SA z).1) λz=>aE z λo ho hl=>⟨o,ho,by show y3 0xc1210b1013ba1820 N hl (iA _ _)⟩,λu h3 h4=>?_⟩;by_cases z:u=D+1
   ·rw[z];show h1.imp (λz=>(SA z).2) id
   ·show h2 u (ū h3 (Ne.symm z)) h4
 have wo:∀n o,n+1<=M->o∈os->p6 (de os ln nx D n) (n+1) o=p6 (de os ln nx D M) (n+1) o:=λn o h ho=>by have:=uo o ho;unfold p6;rw[kU (a:=n+1-o.a.toNat) (n:=n) (vd this n),kU (a:=n+1-o.a.toNat) (n:=M) (z' (Ŗ _ _) h)]
 have Yn:∀a o,(p6 (de os ln nx D M) a o).isSome=(rA (de os ln nx D M) (a-o.a.toNat)).isSome:=λa o=>afd ..
 have pk:∀a,a<=M->(rA (de os ln nx D M) a).isSome=Æ->rA (de os ln nx D M) a≠jR ln nx D a->∃o∈os,o5 D o=Æ/\p6 (de os ln nx D M) a o=rA (de os ln nx D M) a:=λa ha h eT=>by
  rw[kU ha]at h eT ⊢;cases a with
  |zero=>show absurd N eT
  |succ n=>
   rw[BL]at h eT ⊢;cases hm:gI ((jR ln nx D (n+1)::(os.filter (o5 D)).map (p6 (de os ln nx D n) (n+1))).filterMap id) with
   |none=>rw[hm]at h;show nomatch h
   |some m=>rw[hm]at eT;show aE (acZ.mp (KU hm)) λx hx e=>(ą.mp hx).elim (λq=>absurd (e.symm.trans q) eT) λq=>aE (ŗ.mp q) λo ho e2=>?_;have ho:=ť.mp ho;show⟨o,ho.1,ho.2,by rw[<-wo n o ha ho.1,e2];show e⟩
 show⟨eN M,λa ha=>⟨λh=>?_,λh=>?_⟩,kU (ĥ M),pk⟩
 ·induction a using aft with
  |_ a ih=>
   by_cases q:rA (de os ln nx D M) a=jR ln nx D a
   ·show go a ha (q▸h)
   ·show eJ (pk a ha h q) λo ho h1 h2=>?_
    have h3:(rA (de os ln nx D M) (a-o.a.toNat)).isSome=Æ:=by rw[<-Yn,h2];show h
    have h4:=uo o ho;by_cases z:a=0
    ·subst z;show absurd (kU (ĥ M)) q
    ·show⟨.inr (Hq ho h1),(ih _ (ϣ (abU z) (afc.mpr h4)) (z' (Ŗ _ _) ha) h3).2⟩
 ·induction a using aft with
  |_ a ih=>
   rw[kU ha];cases a with
   |zero=>
    show (jR ln nx D 0).isSome=Æ;by_cases q:D=7
    ·rw[jR,if_pos q];rfl
    ·have q:=ū hD q
     show(hn q 0 ha).mpr ⟨(h.2 (D+1) (ϊ D) q).imp (λz=>(Nat.zero_max _).trans z) id,λu h1 h2=>h.2 u (by show jT (y3 0x1c1211b1013ba1820 N (iT h1) (iA _ _))) h2⟩
   |succ n=>
    rw[BL];cases hm:(gI ((jR ln nx D (n+1)::(os.filter (o5 D)).map (p6 (de os ln nx D n) (n+1))).filterMap id)).isSome with
    |true=>rfl
    |false=>
     have hm:=List.filterMap_eq_nil_iff.mp (Hj hm);show(OI (h.1.resolve_left (acQ n)) hD).elim (λq=>?_) λq=>aE q λo ho h1=>?_
     ·have:=(hn q.1 (n+1) ha).mpr ⟨.inr q.2,λu h1 h2=>h.2 u (by show jT (y3 0x1c1211b1013ba1820 N (iT h1) (iA _ _))) h2⟩
      rw[show jR ln nx D (n+1)=Ã from hm _ G']at this;show nomatch this
     ·have h2:=hm _ (J' _ (ŗ.mpr ⟨o,ť.mpr ⟨ho,h1⟩,N⟩))
      have h3:=uo o ho;have h4:=ih (n+1-o.a.toNat) (ϫ (vd h3 n)) (z' (Ŗ _ _) ha) ⟨.inr (Hq ho h1),h.2⟩;rw[<-Yn,<-wo n o ha ho,show p6 (de os ln nx D n) (n+1) o=Ã from h2]at h4;show nomatch h4
end row_okH
theorem HL{os:List dn}:pY os ln nx D M:=hk (P:=U5 pY) row_okH.kt (os,ln,nx,D,M)
section
variable{os:List dn}{ln:List Nat}{nx r:rV}{D a n M:Nat}
theorem u0(uo:∀o∈os,1<=o.a)(hM:∀i,nA ln i<=M):∀k,k<7->Mb os ln (jl os ln M k) (jl os ln M (k+1)) (7-k) M
 |0,_=>HL uo (đ 7) λh=>absurd h (Ţ 7)
 |k+1,h=>by have ih:=u0 uo hM k (š h);show HL uo (Ŗ _ _) λh1 a ha=>?_;have e:7-(k+1)+1=7-k:=aep (϶ (š h));rw[e,<-ih.can _ (ad'.mpr ⟨ha,hM _⟩),jR,if_neg (ń h1)]
end
abbrev jV(r:rV):List V:=r.map dL
theorem pX{r:rV}{i:Nat}(h:i<r.length):(jV r)[((i:Nat):Int).toNat]?=À (dL (rA r i)):=by rw[ĭ,Ġ,N' h,rA,N' h];rfl
theorem uM{l:List Nat}{i:Nat}(h:i<l.length):(cy l)[((i:Nat):Int).toNat]?=À (.int (nA l i:Nat)):=by rw[ĭ,Ġ,N' h,nA,N' h];rfl
theorem BX{a:Nat}{x:Int}(h:1<=x):max 0 ((a:Int)-x)=((a-x.toNat:Nat):Int):=by show(acN (Ĵ (by decide) h)).elim λn e=>?_;rw[e,ĭ,<-aee,Int.ofNat_toNat,Int.max_comm]
theorem Bv(a b:Nat):max (a:Int) b=((max a b:Nat):Int):=(Lean.Omega.Int.ofNat_max ..).symm
section
variable{d q D a M:Nat}{H Î:ag}{os:List dn}{ln:List Nat}{nx r:rV}{o:dn}{rv:V}{Á:ax}{U:aJ}{x y:CE}
theorem GN{l:List (Int×V)}{k:Int}{v:V}(ha:ab Á x U H=À (.ref q,H))(hi:ab Á y U H=À (.int k,H))(hr:H[q]?=À (.di l))(hv:dz l k=À v):ab Á (.idx x y) U H=À (v,H):=n5 ha hi (dI hr hv)
theorem rc:aC PP (d+1) 9 [o.v,.int D] H=À (.ok (.bool (o5 D o)),H):=gs N N (W.retE N ⟨_,N,N,N⟩)
theorem qD(h7:ln.length=7)(hq:D<7->∃l,H[q]?=À (.di l)/\dz l ((D:Int)+1)=À (.tup (jV nx)))(hl:D<7->max a (nA ln D)<nx.length)(hD:D<=7):aC PP (d+1) 10 [.ref q,.tup (cy ln),.int D,.int a] H=À (.ok (dL (jR ln nx D a)),H):=by
 show gs N N (W.if_ (fD N N) (λh=>?_) λh=>W.nil ?_)
 ·have h:D=7:=aeh.inj h
  rw[jR,if_pos h];have e:ab (aC PP d) (xE (xv 3) (xn 0)) (bJ [.ref q,.tup (cy ln),.int D,.int a]) H=À (.bool (decide (a=0)),H):=(fD N N).trans (congrArg (λb=>À (V.bool b,H)) (decide_eq_decide.mpr Int.natCast_eq_zero));by_cases z:a=0
  ·rw[if_pos z]
   show W.retE (v:=.int 0) (Î:=H) ?_ ⟨_,N,N,N⟩;show lQ (ab (aC PP d) (xE (xv 3) (xn 0)) _ H) _=_;rw[e,decide_eq_true z];rfl
  ·rw[if_neg z]
   show W.retE (v:=.none) (Î:=H) ?_ ⟨_,N,N,N⟩;show lQ (ab (aC PP d) (xE (xv 3) (xn 0)) _ H) _=_;rw[e,decide_eq_false z];rfl
 ·have h:D<7:=ū hD λz=>h (congrArg aeh z)
  show aE (hq h) λl wK hg=>?_;rw[jR,if_neg (ń h)];show W.retE (aP ((max a (nA ln D):Nat):Int) _ _ (GN N N wK hg) (aO (ay N (al (aP D _ _ N N (Ē _) (uM (h7▸h))))) (congrArg (λz=>À (V.int z,H)) (Bv ..))) (Ē _) (pX (hl h))) ⟨_,N,N,N⟩
theorem re(ho:1<=o.a)(hr:lE rv (.int ((a-o.a.toNat:Nat):Int)) H=À (dL (rA r (a-o.a.toNat)))):aC PP (d+1) 11 [rv,o.v,.int a] H=À (.ok (dL (p6 r a o)),H):=by
 show gs N N (W.set (n5 N (aO N (congrArg (λz=>À (V.int z,H)) (BX ho))) hr) ?_);unfold p6;cases rA r (a-o.a.toNat) with
 |none=>show W.iteT H N (W.retE N ⟨_,N,N,N⟩)
 |some z=>show W.iteF H N (W.nil (W.retE N ⟨_,N,N,N⟩))
end
theorem qM:∀l:List (Option Int),cB ((l.filter aeR).map dL)=À (l.filterMap id)
 |[]=>rfl
 |none::l=>qM l
 |some x::l=>by show (cB ((l.filter aeR).map dL)).bind (λl=>À (x::l))=_;rw[qM l];rfl
theorem FW(x y:Option Int)(H:ag):sH .Eq (dL x) (dL y) H=À (decide (x=y)):=by
 cases x with
 |none=>cases y with
  |none=>rfl
  |some y=>rfl
 |some x=>cases y with
  |none=>rfl
  |some y=>show congrArg À ((Sh x y).trans (decide_eq_decide.mpr ⟨congrArg À,Option.some.inj⟩))
theorem Oi{H:ag}{i j:Nat}{x y:List V}(hi:H[i]?=À (.lst x))(hj:H[j]?=À (.lst y))(hz:(x++y).length<=aw):mD .Add (.ref i) (.ref j) H=À (.ref H.length,H++[.lst (x++y)]):=(show ϡ (lst H i) _=_ from dI (cC hi) (dI (cC hj) (if_pos hz)))
def BK(os:List dn)(ln:List Nat)(M k:Nat):List (Int×V):=(č k).map λb=>(((7-b:Nat):Int),V.tup (jV (jl os ln M (b+1))))
theorem Lh(os:List dn)(ln:List Nat)(M k:Nat):BK os ln M (k+1)=BK os ln M k++[(((7-k:Nat):Int),V.tup (jV (jl os ln M (k+1))))]:=by unfold BK;rw[ac1,ŉ];rfl
theorem FK{l:List (Int×V)}{k:Int}{v:V}:(∀p∈l,p.1≠k)->dA l k v=l++[(k,v)]:=by
 induction l with
 |nil=>show λz=>rfl
 |cons p l ih=>intro h;show (if p.1=k then _ else p::dA l k v)=_;rw[if_neg (h p G'),ih λq hq=>h q (J' _ hq)];rfl
theorem FE{l m:List (Int×V)}{k:Int}{v:V}:(∀p∈l,p.1≠k)->dz (l++(k,v)::m) k=À v:=by
 induction l with
 |nil=>show λz=>if_pos N
 |cons p l ih=>intro h;show (if p.1=k then _ else dz (l++(k,v)::m) k)=_;rw[if_neg (h p G')];show ih λq hq=>h q (J' _ hq)
theorem NC{os:List dn}{ln:List Nat}{M k:Nat}(hk:k<7):∀p∈BK os ln M k,p.1≠((7-k:Nat):Int):=λp hp=>by show aE (ŗ.mp hp) λb hb e=>?_;have hb:=Ũ.mp hb;rw[<-e];show ((7-b:Nat):Int)≠_;show λq0=>zI (y4 0x1c080811b1010ba027812be178312b32 N (iT hb) (iS _ _) (Ϯ (jL (y1 0xc78011b780 N (iT hk)))) q0)
theorem Ai{os:List dn}{ln:List Nat}{M b:Nat}:∀{k:Nat},b<k->b<7->dz (BK os ln M k) ((7-b:Nat):Int)=À (.tup (jV (jl os ln M (b+1)))):=by
 have:∀m,BK os ln M (b+1+m)=BK os ln M b++(((7-b:Nat):Int),V.tup (jV (jl os ln M (b+1))))::(č m).map λi=>(((7-(b+1+i):Nat):Int),V.tup (jV (jl os ln M (b+1+i+1)))):=λm=>by unfold BK;rw[List.range_add,ŉ,ac1,ŉ,ü,Ŧ];rfl
 intro k h1 h2;show(ael h1).elim λm e=>?_;rw[e,this];show FE (NC h2)
theorem HH(M:Nat):((č M).map λj:Nat=>V.int ((j+1:Nat):Int))=cz 1 ((M+1:Nat):Int) 1:=by unfold cz;rw[show iZ 1 ((M+1:Nat):Int) 1=M from pU 1 (M+1)];show ύ λj z=>congrArg V.int (by rw[Ϲ];show ϭ (j:Int) 1)
theorem xJ{Á:ax}{U:aJ}{H Î Û:ag}{a b:CE}{n m:Int}(ha:ab Á a U H=À (.int m,Î))(hb:ab Á b U Î=À (.int n,Û))(hs:(jC m&&jC n)=Æ)(e:cz m n 1=l):cD Á (.rng2 a b) U H=À (l,[],Û):=(show qf _ _=_ from tM ha (tM hb ((if_pos hs).trans (by rw[e]))))
theorem Dt{H:ag}{r:Nat}{l:List V}{ns:List Int}(hr:H[r]?=À (.lst l))(hi:cB l=À ns):gE .minD [.ref r] H=À (dL (gI ns),H):=(show ϡ (ϡ _ _) _=_ from dI (dI (cC hr) N) (dI hi N))
section
variable{d q D a M:Nat}{H Î:ag}{os:List dn}{ln:List Nat}{nx r:rV}{o:dn}{rv:V}{Á:ax}{U:aJ}{x y:CE}
structure qa(os:List dn)(ln:List Nat)(M:Nat):Prop where
 h7:ln.length=7
 oa:∀o∈os,1<=o.a
 ol:os.length<=30
 mx:mX (ln.map λi:Nat=>(i:Int))=À (M:Int)
 le:∀i,nA ln i<=M
 M2:M<=200
end
def kT(d:Nat)(q:Nat)(D:Nat)(M:Nat)(H:ag)(os:List dn)(ln:List Nat)(nx:rV):Prop:=∀(T:qa os ln M) (hq:D<7->∃l,H[q]?=À (.di l)/\dz l ((D:Int)+1)=À (.tup (jV nx))) (hl:D<7->nx.length=M+1) (hD:D<=7),tE (d+2) 12 [.tup (os.map dn.v),.tup (cy ln),.ref q,.int D] H λv z=>v=.tup (jV (de os ln nx D M))
namespace row_callH
def kc:=hc (U8 kT) (0,0,0,0,[],[],[],[])
def d:=kc.1
def q:=kc.2.1
def D:=kc.2.2.1
def M:=kc.2.2.2.1
def H:=kc.2.2.2.2.1
def os:=kc.2.2.2.2.2.1
def ln:=kc.2.2.2.2.2.2.1
def nx:=kc.2.2.2.2.2.2.2
theorem kt:kT d q D M H os ln nx:=by
 intro T hq hl hD
 have go:∀a ae,a<=M->aF H ae->aC PP (d+1) 10 [.ref q,.tup (cy ln),.int D,.int a] ae=À (.ok (dL (jR ln nx D a)),ae):=λa ae ha K=>
  qD T.h7 (λh=>aE (hq h) λl h1 h2=>⟨l,K _ _ h1,h2⟩) (λh=>hl h▸ϫ (ad'.mpr ⟨ha,T.le D⟩)) hD
 have hz:((os.filter (o5 D)).map dn.v).length<=30:=by rw[H'];show z' (abM _ _) T.ol
 show gf N N (W.set (eM (cj N) (dp (p:=o5 D) (f:=dn.v) (bj _) λo z=>⟨_,N,nE (af N rc),λz=>rfl⟩) (z' hz (by decide))) ?_);have K1:=aF.app H [.lst ((os.filter (o5 D)).map dn.v)];have h4:=az H (.lst ((os.filter (o5 D)).map dn.v));generalize H++[.lst ((os.filter (o5 D)).map dn.v)]=bn at K1 h4;show W.set (bZ (vs:=[dL (jR ln nx D 0)]) (al (af N (go 0 bn (ĥ _) K1))) (show 1<=aw by decide)) (W.each (xs:=č M) (g:=λj:Nat=>V.int ((j+1:Nat):Int)) (bN [À (.tup (os.map dn.v)),À (.tup (cy ln)),À (.ref q),À (.int D),À (.ref H.length),À (.ref bn.length)]) (λj=>lK bn bn.length (jV (de os ln nx D j))) (λz z=>False) ?_ (ak ⟨N,N,N,N,N,N,trivial⟩) (lK.new _ _) (λz z z=>bj _) (λj x cY hx I=>⟨_,N,?_⟩) (λcY I=>?_) λz z z q=>q.elim)
 ·show xJ (n:=((M+1:Nat):Int)) N (aK (aO N (?_:gE .max1 [.tup (cy ln)] _=À (.int M,_))) N N) (Ł.mpr ⟨N,Ł.mpr ⟨decide_eq_true (Ĵ (by decide) (Ē _)),decide_eq_true (Ş.mpr (z' (Š T.M2) (by decide)))⟩⟩) (HH M).symm
  show (cB (cy ln)).bind (λns=>((mX ns).bind λm=>À (V.int m)).bind λv=>À (v,_))=_;rw[sZ];show ((mX (ln.map λi:Nat=>(i:Int))).bind λm=>À (V.int m)).bind _=_;rw[T.mx];rfl
 ·show aQ (dR hx) λqx hj=>?_;apply aY qx
  have I1:=I.keep (aF.app cY [.lst [dL (jR ln nx D (j+1))]])
  have ec:=dp (elt:=ab (aC PP (d+1)) (.call 11 (a3 (xv 5) (xv 8) (xv 6)))) (cond:=cW (aC PP (d+1)) .nil) (t:=.one 8) (w:=[(H.length,.lst ((os.filter (o5 D)).map dn.v))]) (U:=cS (bN [À (.tup (os.map dn.v)),À (.tup (cy ln)),À (.ref q),À (.int D),À (.ref H.length),À (.ref bn.length)]) 6 (.int ((j+1:Nat):Int))) (H:=cY++[.lst [dL (jR ln nx D (j+1))]]) (g:=dn.v) (p:=λz=>Æ) (f:=λo=>dL (p6 (de os ln nx D j) (j+1) o)) (kF (I1.hk _ _ h4)) (xs:=os.filter (o5 D)) λo ho=>
   ⟨_,N,N,λz=>af N (re (T.oa o (ť.mp ho).1) (by
    have:=T.oa o (ť.mp ho).1;show ((cY++[bu.lst [dL (jR ln nx D (j+1))]])[bn.length]?).bind (Pe (.int _))=_;rw[I1.hl];show kP (Ē _) (pX (by rw[eN];show ϫ (vd this j)))))⟩
  rw[eS]at ec;have X9:((os.filter (o5 D)).map λo=>dL (p6 (de os ln nx D j) (j+1) o)).length<=30:=by rw[H']at hz ⊢;show hz
  have I2:=I1.keep (aF.app _ [.lst ((os.filter (o5 D)).map λo=>dL (p6 (de os ln nx D j) (j+1) o))]);have g1:=aF.app _ [.lst ((os.filter (o5 D)).map λo=>dL (p6 (de os ln nx D j) (j+1) o))] _ _ (az cY (.lst [dL (jR ln nx D (j+1))]));show W.set (aK (bZ (vs:=[dL (jR ln nx D (j+1))]) (al (af N (go (j+1) cY hj (K1.trans I.hk)))) (show 1<=aw by decide)) (eM (kC N (I1.hk _ _ h4)) ec (z' X9 (by decide))) (Oi g1 (az _ _) (by rw[Ā];show z' (Ϙ X9 1) (by decide)))) ?_;rw[show [dL (jR ln nx D (j+1))]++((os.filter (o5 D)).map λo=>dL (p6 (de os ln nx D j) (j+1) o))=(jR ln nx D (j+1)::(os.filter (o5 D)).map (p6 (de os ln nx D j) (j+1))).map dL by rw[œ,Ŧ];rfl];have Yb:(jR ln nx D (j+1)::(os.filter (o5 D)).map (p6 (de os ln nx D j) (j+1))).length<=31:=by rw[Ϫ,H'];rw[H']at hz;show Š hz
  generalize hp:jR ln nx D (j+1)::(os.filter (o5 D)).map (p6 (de os ln nx D j) (j+1))=pl at Yb;have I3:=I2.keep (aF.app _ [.lst (pl.map dL)]);generalize (cY++[.lst [dL (jR ln nx D (j+1))]])++[.lst ((os.filter (o5 D)).map λo=>dL (p6 (de os ln nx D j) (j+1) o))]=vt at I2 I3;show W.append bn.length (jV (de os ln nx D j)) (dL (gI (pl.filterMap id))) _ N I3.hl (aO (al (eM (kC N (az _ _)) (dp (p:=aeR) (f:=dL) (kF (az _ _)) λx z=>⟨_,N,nE (b:=x.isSome) (by cases x<;>rfl),λz=>rfl⟩) (by rw[H'];show z' (abM _ _) (z' Yb (by decide))))) (Dt (az _ _) (qM pl))) ((I3.keep (aF.app _ _)).hl) (by rw[H',eN];show z' (z' hj T.M2) (by decide)) (W.nil (.inl ⟨N,ak ⟨N,N,N,N,N,N,trivial⟩,?_⟩));rw[show jV (de os ln nx D j)++[dL (gI (pl.filterMap id))]=jV (de os ln nx D (j+1)) by unfold jV;rw[<-hp];show(ŉ (l₂:=[_])).symm];show(I3.keep (aF.app _ _)).set _
 ·rw[Ľ]at I
  show W.retE (aO N (bC I.hl (by rw[H',eN];show z' (Š T.M2) (by decide)))) ⟨_,N,K1.trans I.hk,N⟩
end row_callH
theorem HK{os:List dn}:kT d q D M H os ln nx:=hk (P:=U8 kT) row_callH.kt (d,q,D,M,H,os,ln,nx)
section
variable{d q D a M:Nat}{H Î:ag}{os:List dn}{ln:List Nat}{nx r:rV}{o:dn}{rv:V}{Á:ax}{U:aJ}{x y:CE}
def dO(os:List dn)(ln:List Nat)(M:Nat):Nat->bu
 |0=>.ds []
 |k+1=>.di (BK os ln M (k+1))
end
def jA(d:Nat)(M:Nat)(H:ag)(os:List dn)(ln:List Nat):Prop:=∀(T:qa os ln M),tE (d+3) 13 [.tup (os.map dn.v),.tup (cy ln)] H λv ae=>∃q,v=.ref q/\ae[q]?=À (.di (BK os ln M 7))
namespace rows_callH
def kc:=hc (U5 jA) (0,0,[],[],[])
def d:=kc.1
def M:=kc.2.1
def H:=kc.2.2.1
def os:=kc.2.2.2.1
def ln:=kc.2.2.2.2
theorem kt:jA d M H os ln:=by
 intro T;show gf N N (W.set (v:=.ref H.length) (Î:=H++[.ds []]) N (W.each (xs:=č 7) (bN [À (.tup (os.map dn.v)),À (.tup (cy ln)),À (.ref H.length)]) (λj ae=>aF H ae/\ae[H.length]?=À (dO os ln M j)) (λy y=>False) PH (ak ⟨N,N,N,trivial⟩) ⟨aF.app _ _,az _ _⟩ (λy y y=>bj _) (λj x bn hx I=>⟨_,N,?_⟩) (λbn I=>W.retE N ⟨_,N,I.1,_,N,I.2⟩) λy y y q=>q.elim));show aQ (dR hx) λqx hj=>?_;apply aY qx;show W.set (v:=.int ((7-j:Nat):Int)) (Î:=bn) (congrArg (λz=>À (V.int z,bn)) (by show ņ (y2 0xc0e17810ba1078 N (iS _ _)) (y2 0xce178012be1780 N (Ϯ (jL (y1 0xc78011b780 N (iT hj))))))) (fQ (HK (d:=d) (H:=bn) (q:=H.length) (D:=7-j) (nx:=jl os ln M j) T (λh=>?_) (λh=>?_) (Ŗ _ _)) λv cY e2 k2 q2=>?_)
 ·cases j with
  |zero=>show absurd h (Ţ 7)
  |succ k=>show⟨_,I.2,by rw[show (((7-(k+1):Nat):Int)+1)=((7-k:Nat):Int) by show ņ (y4 0xc2a18313ba181010ba127812be0783 N (iA _ _) (iS _ _) (Ϯ (jL (y1 0xc78011b780 N (iT hj))))) (y4 0xca182312ba181010ba027812be1783 N (iA _ _) (iS _ _) (Ϯ (jL (y2 0xc78111b78013ba1810 N (iT hj) (iA _ _)))))];show Ai (ϊ k) (š hj)⟩
 ·cases j with
  |zero=>show absurd h (Ţ 7)
  |succ k=>show eN M
 ·rw[q2]at e2
  have h2:=k2 _ _ I.2;show W.setV (Û:=cY.set H.length (dO os ln M (j+1))) (af N e2) N N ?_ (W.nil (.inl ⟨N,ak ⟨N,N,N,trivial⟩,(I.1.trans k2).set (đ _),eO h2⟩));show (cY[H.length]?).bind (SM cY H.length _ _)=_;rw[h2];cases j with
  |zero=>rfl
  |succ k=>show (if (BK os ln M (k+1)).length<=aw then À (cY.set H.length (.di (dA (BK os ln M (k+1)) _ _))) else Ã)=_;rw[if_pos (by unfold BK;rw[H',Ľ];show z' (ī hj) (by decide)),FK (NC hj)];show congrArg (λz=>À (cY.set H.length (.di z))) (Lh os ln M (k+1)).symm
end rows_callH
theorem DA{os:List dn}:jA d M H os ln:=hk (P:=U5 jA) rows_callH.kt (d,M,H,os,ln)
section
variable{d q D a M:Nat}{H Î:ag}{os:List dn}{ln:List Nat}{nx r:rV}{o:dn}{rv:V}{Á:ax}{U:aJ}{x y:CE}
def rR(r:rV)(D a:Nat)(o:dn):Bool:=o5 D o&&decide (p6 r a o=rA r a)
noncomputable def gQ(os:List dn)(i:Nat):dn:=(os[i]?).getD ⟨0,0,0⟩
theorem rd{i:Nat}(h:i<os.length):gQ os i∈os:=by unfold gQ;rw[N' h];show ŵ h
end
def iz(d:Nat)(D:Nat)(a:Nat)(H:ag)(os:List dn)(r:rV):Prop:=∀(uo:∀o∈os,1<=o.a) (hr:a<r.length) (hp:∃o∈os,rR r D a o=Æ),os.findIdx (rR r D a)<os.length/\rR r D a (gQ os (os.findIdx (rR r D a)))=Æ/\aC PP (d+2) 14 [.tup (os.map dn.v),.tup (jV r),.int D,.int a] H=À (.ok (.int (os.findIdx (rR r D a):Nat)),H)
namespace first_callH
def kc:=hc (U6 iz) (0,0,0,[],[],[])
def d:=kc.1
def D:=kc.2.1
def a:=kc.2.2.1
def H:=kc.2.2.2.1
def os:=kc.2.2.2.2.1
def r:=kc.2.2.2.2.2
theorem kt:iz d D a H os r:=by
 intro uo hr hp;have cG:os.findIdx (rR r D a)<os.length:=adJ hp
 have XA:rR r D a (gQ os (os.findIdx (rR r D a)))=Æ:=by unfold gQ;rw[N' cG];show aeI (w:=cG)
 show⟨cG,XA,gs N N (W.each (xs:=č os.length) (bN [Ã,À (.tup (jV r)),À (.int D),À (.int a)]) (λj ae=>ae=H/\j<=os.findIdx (rR r D a)) (λfl ae=>fl=.ret (.int (os.findIdx (rR r D a):Nat))/\ae=H) ((gc (⟨0,0,0⟩:dn) os 0)▸nj N) (ak ⟨N,N,N,trivial⟩) ⟨N,ĥ _⟩ (λy y y=>bj _) (λj x bn hx I=>⟨_,N,?_⟩) (λbn I=>?_) λfl aU ae q=>⟨_,q.1,N,q.2⟩)⟩
 ·show aQ (dR hx) λqx hj=>?_;apply aY qx
  show aQ I λq1 TB=>?_;apply aY q1;have ho:=rd hj;have hi:∀i,i<=a->lE (.tup (jV r)) (.int ((i:Nat):Int)) H=À (dL (rA r i)):=λi hi=>kP (Ē _) (pX (ų hi hr));show W.ifB (b:=rR r D a (gQ os j)) (iw (af N rc) (bB (af N (re (r:=r) (uo _ ho) (hi _ (Ŗ _ _)))) (n5 N N (hi a (đ a))) (FW ..))) (λhb=>?_) λhb=>W.nil (W.nil (.inl ⟨N,ak ⟨N,N,N,trivial⟩,N,?_⟩))
  ·have e:os.findIdx (rR r D a)=j:=Ů (ķ.mp λz=>by
    have:=List.not_of_lt_findIdx z;unfold gQ at hb;rw[N' hj]at hb;show Ķ (this.symm.trans hb)) TB
   rw[e];show W.retE (congrArg (λz:Nat=>À (V.int z,H)) (Ż j)) (.inr ⟨(λq=>nomatch q),N,N⟩)
  ·show ū TB λz=>?_
   rw[z]at hb;show Ķ (hb.symm.trans XA)
 ·rw[Ľ]at I
  show absurd cG (ķ.mpr I.2)
end first_callH
theorem zg{os:List dn}:iz d D a H os r:=hk (P:=U6 iz) first_callH.kt (d,D,a,H,os,r)
section
variable{Á:ax}{aD body:fv}{Q:cw->aJ->ag->Prop}{c:CE}
theorem B6{I:Nat->aJ->ag->Prop}(step:∀n a H,I n a H->∃b,ab Á c a H=À (.bool b,H)/\(b=Ê->W Á aD a H Q)/\(b=Æ->∃m,n=m+1/\W Á body a H λfl aU ae=>fl=.next/\∃a',Le a' aU/\I m a' ae)):
  ∀F n,n<F->∀(a U:aJ) (H:ag),Le a U->I n a H->∃p7 σe b,oH (bV Á c) (aM Á body) F U H=À (.next,p7,σe)/\Le b p7/\W Á aD b σe Q
 |0,_,h=>absurd h (ack _)
 |F+1,n,h=>λa U H hl hI=>by
  show eJ (step n a H hI) λb h1 h2 h3=>?_;show ∃p7 σe b,bY (bV Á c U H) (λb ae=>if b then ip (aM Á body U ae) (λiq ir=>oH (bV Á c) (aM Á body) F iq ir) else À (.next,U,ae))=À (.next,p7,σe)/\Le b p7/\W Á aD b σe Q;rw[a0 (aI c hl h1)];cases b with
  |false=>show⟨U,H,a,N,hl,h2 N⟩
  |true=>show aE (h3 rfl) λm e hb=>?_;obtain ⟨fl,b,aU,ae,g1,g2,rfl,a',g3,g4⟩:=hb U hl;show tX (B6 step F m (by rw[e]at h;show acl h) a' aU ae (g3.trans g1) g4) λp7 σe b k1 k2 k3=>⟨p7,σe,b,?_,k2,k3⟩;show ip (aM Á body U H) _=_;rw[g2];show k1
theorem W.whl(I:Nat->aJ->ag->Prop)(hn:n<100000)(h:I n a H)(step:∀n a H,I n a H->∃b,ab Á c a H=À (.bool b,H)/\(b=Ê->W Á aD a H Q)/\(b=Æ->∃m,n=m+1/\W Á body a H λfl aU ae=>fl=.next/\∃a',Le a' aU/\I m a' ae)):W Á (.cons (.while_ c body) aD) a H Q:=λr hl=>by show tX (B6 step lc n hn a r H hl h) λp7 σe b k1 k2 k3=>EC (k3 p7 k2) λfl b S8 fg g1 g2 g3=>⟨fl,b,S8,fg,g1,?_,g3⟩;show ip (oH (bV Á c) (aM Á body) lc r H) (aM Á aD)=_;rw[k1];show g2
end
def lz(os:List dn)(cs:List Int)(t:Nat):Int:=bg ((č os.length).map λi=>if (t:Int)<(gQ os i).l then (gQ os i).a*bS cs i else 0)
theorem Ig(f:Nat->Int)(x:Int)(k:Nat):∀n,bg ((č n).map λi=>f i+if i=k then x else 0)=bg ((č n).map f)+if k<n then x else 0
 |0=>rfl
 |n+1=>by
  rw[ac1,ŉ,ŉ,gk,gk,Ig f x k n];show _+(0+(f n+if n=k then x else 0))=_+(0+f n)+_;rcases ae0 k n with h|h|h
  ·rw[if_pos h,if_neg (Ř h),if_pos (ach h)];show ņ (y3 0xca1aa2080aaa08208a10 N) (y3 0xcaaa08108a20a2aa1080 N)
  ·rw[if_neg (by show λq0=>zI (y2 0x1c080813b1011b10 N (iE h) (iT q0))),if_pos h.symm,if_pos (by show jT (y3 0x1c2012b1013ba1812 N (iE h) (iA _ _)))];show ņ (y3 0xca2aa1080aaa2108a080 N) (y3 0xcaaa2108a080a2aa1080 N)
  ·rw[if_neg (by show λq0=>zI (y2 0x1c080811b1011b01 N (iT h) (iT q0))),if_neg (by show λq0=>zI (y2 0x1c080811b1013b10 N (iT h) (iE q0))),if_neg (by show λq0=>zI (y3 0x1c080811b1012ba180211b21 N (iT h) (iA _ _) (iT q0)))];show ņ (y2 0xca08aa1080aaa08108a080 N) (y2 0xcaaa08108a080a08aa1080 N)
section
variable{os:List dn}{ln:List Nat}{M n c a t k:Nat}{cs:List Int}
theorem Gu(hk:k<os.length)(hl:cs.length=os.length):lz os (cs.set k (bS cs k+1)) t=lz os cs t+if (t:Int)<(gQ os k).l then (gQ os k).a else 0:=by
 unfold lz;rw[<-if_pos (c:=k<os.length) (t:=if (t:Int)<(gQ os k).l then (gQ os k).a else 0) (e:=0) hk,<-Ig];show congrArg bg (ύ λi z=>?_);rw[pO (hl▸hk)];by_cases h:k=i
 ·rw[if_pos h,if_pos h.symm,h]
  split
  ·rw[aeB,Ϲ]
  ·rfl
 ·rw[if_neg h,if_neg (Ne.symm h),Œ]
noncomputable def I9(os:List dn)(ln:List Nat)(M:Nat):Nat->Nat->Nat->List Int->List Int
 |0,_,_,cs=>cs
 |n+1,c,a,cs=>match c with
  |0=>cs
  |c+1=>if rA (jl os ln M (c+1)) a=jR ln (jl os ln M c) (7-c) a then I9 os ln M n c (max a (nA ln (7-c))) cs
   else I9 os ln M n (c+1) (a-(gQ os (os.findIdx (rR (jl os ln M (c+1)) (7-c) a))).a.toNat) (cs.set (os.findIdx (rR (jl os ln M (c+1)) (7-c) a)) (bS cs (os.findIdx (rR (jl os ln M (c+1)) (7-c) a))+1))
def Mj(os:List dn)(ln:List Nat)(M:Nat):Nat->Nat->Prop
 |0,a=>a=0
 |c+1,a=>c<7/\a<=M/\(rA (jl os ln M (c+1)) a).isSome=Æ
theorem s7(h:c<7):8-c=7-c+1:=Nat.succ_sub (ī h)
theorem B8(h:(c+1)*(M+1)+a<=0):False:=adW M (z' (z' (adC (M+1) (ż c)) (Ō _ a)) h)
theorem NV(hn:(c+1)*(M+1)+a<=n+1)(h:k<=M):c*(M+1)+k<=n:=adI (z' (Š (Ϙ h _)) (z' (Ŏ (Nat.succ_mul c (M+1)).symm) (z' (Ō _ a) hn)))
theorem NW{x:Int}(hn:k+a<=n+1)(ha:0<a)(h:1<=x):k+(a-x.toNat)<=n:=adI (z' (aeL (ϣ ha (afc.mpr h)) k) hn)
theorem LO:I9 os ln M n 0 a cs=cs:=by cases n<;>rfl
theorem n7(T:qa os ln M):nA ln 7=0:=by unfold nA;rw[Ϡ (Ŏ T.h7)];rfl
theorem NU(T:qa os ln M)(h:Mj os ln M (c+1) a)(e:rA (jl os ln M (c+1)) a=jR ln (jl os ln M c) (7-c) a):Mj os ln M c (max a (nA ln (7-c))):=by
 show im h λh1 h2 h3=>?_;rw[e,jR]at h3;cases c with
 |zero=>
  rw[if_pos N]at h3;have:a=0:=abE λz=>by rw[if_neg z]at h3;show nomatch h3
  show max a (nA ln 7)=0;rw[this,n7 T];rfl
 |succ c=>rw[if_neg (by show λq0=>zI (y3 0x1c080810b00813ba180112be178213b782 N (iP _) (iA _ _) (Ϯ (jL (y1 0xc78011b780 N (iT h1)))) (iE q0)))]at h3;show⟨š h1,ad'.mpr ⟨h2,T.le _⟩,h3⟩
theorem B9(T:qa os ln M)(h:Mj os ln M (c+1) a)(e:rA (jl os ln M (c+1)) a≠jR ln (jl os ln M c) (7-c) a):0<a/\∃o∈os,rR (jl os ln M (c+1)) (7-c) a o=Æ:=by show im h λh1 h2 h3=>?_;have R:=u0 T.oa T.le c h1;show⟨abU λz=>e (z▸R.zero),eJ (R.pick a h2 h3 e) λo ho p1 p2=>⟨o,ho,Ł.mpr ⟨p1,decide_eq_true p2⟩⟩⟩
theorem B7(T:qa os ln M)(h:Mj os ln M (c+1) a){o:dn}(hp:rR (jl os ln M (c+1)) (7-c) a o=Æ):Mj os ln M (c+1) (a-o.a.toNat):=by show im h λh1 h2 h3=>⟨h1,z' (Ŗ _ _) h2,?_⟩;have:=of_decide_eq_true (Ł.mp hp).2;rw[<-this,p6,afd]at h3;show h3
structure Oh(os:List dn)(ln:List Nat)(B:Int)(c a:Nat)(cs IT:List Int):Prop where
 len:IT.length=os.length
 bd:∀x∈IT,0<=x/\x<=B
 held:∀t,t<7->lz os cs t+(if t<8-c then (a:Int) else nA ln t)<=lz os IT t
end
def vm(os:List dn)(ln:List Nat)(M:Nat)(B:Int):Prop:=∀(T:qa os ln M),∀n {c a:Nat} {cs:List Int},Mj os ln M c a->c*(M+1)+a<=n->cs.length=os.length->(∀x∈cs,0<=x/\x+n<=B)->Oh os ln B c a cs (I9 os ln M n c a cs)
namespace wk_okH
def kc:=hc (U4 vm) ([],[],0,0)
def os:=kc.1
def ln:=kc.2.1
def M:=kc.2.2.1
def B:=kc.2.2.2
theorem kt:vm os ln M B:=by
 intro T;have z:∀(n:Nat) {a:Nat} {cs:List Int},Mj os ln M 0 a->cs.length=os.length->(∀x∈cs,0<=x/\x+n<=B)->Oh os ln B 0 a cs cs:=λn a cs h hl hb=>⟨hl,λx hx=>⟨(hb x hx).1,by have:=hb x hx;show y3 0xc2010b2a1010b108 N this.2 (iP _)⟩,λt ht=>by rw[if_pos (ach ht),show a=0 from h];show acE (Œ _)⟩;intro n
 induction n with
 |zero=>
  intro c a cs h hn hl hb;cases c with
  |zero=>show z 0 h hl hb
  |succ c=>show(B8 hn).elim
 |succ n ih=>
  intro c a cs h hn hl hb;cases c with
  |zero=>show z (n+1) h hl hb
  |succ c=>
   have h2:=h.2.1;show Oh os ln B (c+1) a cs (if rA (jl os ln M (c+1)) a=jR ln (jl os ln M c) (7-c) a then _ else _);by_cases e:rA (jl os ln M (c+1)) a=jR ln (jl os ln M c) (7-c) a
   ·rw[if_pos e]
    have:=ih (NU T h e) (NV hn (ad'.mpr ⟨h2,T.le _⟩)) hl λx hx=>⟨(hb x hx).1,by have:=(hb x hx).2;show y4 0xc2a3010b2a1013ba1831 N this (iA _ _)⟩;show⟨this.len,this.bd,λt ht=>Ĵ (ad3 ?_ _) (this.held t ht)⟩;have hc:=h.1;by_cases q:t<8-(c+1)
    ·rw[if_pos q,if_pos (ĵ q (ad1 (ϐ c) 8))];show Ş.mpr (afs ..)
    ·rw[if_neg q]
     by_cases q2:t<8-c
     ·rw[if_pos q2,show t=7-c from Ů (ϋ (ĵ q2 (Ŏ (s7 hc)))) (ķ.mp (ac4 7 1 c▸q))];show Ş.mpr (adS ..)
     ·rw[if_neg q2];show y1 0xc00 N
   ·rw[if_neg e]
    show aQ (B9 T h e) λha hp=>?_;have hk:os.findIdx (rR (jl os ln M (c+1)) (7-c) a)<os.length:=adJ hp
    have I6:rR (jl os ln M (c+1)) (7-c) a (gQ os (os.findIdx (rR (jl os ln M (c+1)) (7-c) a)))=Æ:=by unfold gQ;rw[N' hk];show aeI (w:=hk)
    generalize os.findIdx (rR (jl os ln M (c+1)) (7-c) a)=k at hk I6;have Qi:=T.oa _ (rd hk)
    have GI:∀x∈cs.set k (bS cs k+1),0<=x/\x+n<=B:=λx hx=>(aea hx).elim (λq=>by have:=hb x q;show⟨y1 0xc00810b008 N this.1,y4 0xc2a3010b2a1013ba1831 N this.2 (iA _ _)⟩) λq=>by have:=hb (bS cs k) (by unfold bS;rw[N' (hl▸hk)];show ŵ _);show⟨y2 0xc00813ba181010b108 N q this.1,y5 0xc3a4012ba181010b3a2113ba1842 N q this.2 (iA _ _)⟩
    have:=ih (B7 T h I6) (NW hn ha Qi) ((acC ..).trans hl) GI;show⟨this.len,this.bd,λt ht=>Ĵ ?_ (this.held t ht)⟩;rw[Gu hk hl,ϒ];show ad3 ?_ _;have hd:=beq_iff_eq.mp (Ł.mp I6).1;have hc:=h.1;by_cases q:t<8-(c+1)
    ·rw[if_pos q,if_pos q,if_pos (acu (ŧ.mpr (ac4 7 1 c▸q)) (hd▸acB _ _))];show y4 0xca13010ba21012b32 N (iS _ _) (Ϥ (y1 0xc00810b018 N Qi))
    ·rw[if_neg q,if_neg q]
     show Int.le_add_of_nonneg_left ?_;split
     ·show Ĵ (by decide) Qi
     ·show Ŕ 0
end wk_okH
theorem S6{os:List dn}:vm os ln M B:=hk (P:=U4 vm) wk_okH.kt (os,ln,M,B)
def Mp(os:List dn)(ln:List Nat)(M:Nat):Option (List Int):=if (rA (jl os ln M 7) (nA ln 0)).isSome then À (I9 os ln M 1700 7 (nA ln 0) (Ņ os.length 0)) else Ã
noncomputable def Xa:Option (List Int)->V
 |none=>.none
 |some cs=>.tup (cs.map .int)
section
variable{os:List dn}{ln:List Nat}{M d c a n:Nat}{H:ag}
set_option tactic.hygienic true in
theorem Jz(T:qa os ln M):Mp os ln M=Ã↔¬ ∀t,t<7->nA ln t=0\/ME os (t+1):=by
 have R:=(u0 T.oa T.le 6 (by decide)).can (nA ln 0) (T.le 0)
 have e:QB os ln 1 (nA ln 0)↔∀t,t<7->nA ln t=0\/ME os (t+1):=⟨λh t ht=>by
  cases t with
  |zero=>show h.1
  |succ t=>show h.2 (t+2) (acP (ż t)) ht,λh=>⟨h 0 (by decide),λu h1 h2=>by
  cases u with
  |zero=>show nomatch h1
  |succ u=>show h u h2⟩⟩
 rw[<-e,<-show _↔QB os ln 1 (nA ln 0) from R];unfold Mp;split
 ·rename_i h;show⟨(λq=>nomatch q),λq=>absurd h q⟩
 ·rename_i h;show⟨λ_=>h,λ_=>rfl⟩
theorem S5(h0:a<=M)(h1:M<=200):7*(M+1)+a<=1700:=z' (Ϭ (acL 7 (Š h1)) (z' h0 h1)) (by decide)
theorem Fh(T:qa os ln M){cs:List Int}(h:Mp os ln M=À cs):cs.length=os.length/\(∀x∈cs,0<=x/\x<=1700)/\∀t,t<7->(nA ln t:Int)<=lz os cs t:=by
 unfold Mp at h;by_cases q:(rA (jl os ln M 7) (nA ln 0)).isSome=Æ
 ·rw[if_pos q]at h
  have h0:=T.le 0;have h1:=T.M2;have W:=S6 T (B:=1700) 1700 (c:=7) (a:=nA ln 0) (cs:=Ņ os.length 0) ⟨by decide,h0,q⟩ (S5 h0 h1) ϥ λx hx=>by rw[(adu.mp hx).2];decide
  rw[sm h]at W;show⟨W.len,W.bd,λt ht=>?_⟩;have:=W.held t ht
  have e:lz os (Ņ os.length 0) t=0:=by unfold lz;rw[show ((č os.length).map λi=>if (t:Int)<(gQ os i).l then (gQ os i).a*bS (Ņ os.length 0) i else 0)=(č os.length).map λy=>(0:Int) from ύ λi hi=>by rw[show bS (Ņ os.length 0) i=0 by unfold bS;rw[List.getElem?_replicate,if_pos (Ũ.mp hi)];rfl,aeY,ite_self]];rw[aey,m7,acD]
  rw[e]at this;by_cases z:t<1
  ·rw[if_pos z,ş]at this;show(congrArg (nA ln) (Nat.lt_one_iff.mp z))▸this
  ·rw[if_neg z,ş]at this;show this
 ·rw[if_neg q]at h;show nomatch h
abbrev Os(os:List dn)(ln:List Nat)(q r D a:Nat):aJ:=bN [À (.tup (os.map dn.v)),À (.tup (cy ln)),À (.ref q),À (.int (D:Nat)),À (.int (a:Nat)),À (.ref r)]
structure W1(os:List dn)(ln:List Nat)(M q r:Nat)(H:ag)(mh:List Int)(n:Nat)(U:aJ)(ae:ag)(c a:Nat)(cs:List Int):Prop where
 e:U=Os os ln q r (8-c) a
 o:lK H r (cs.map .int) ae
 s:Mj os ln M c a
 hn:c*(M+1)+a<=n
 l:cs.length=os.length
 w:I9 os ln M n c a cs=mh
end
def gN(os:List dn)(ln:List Nat)(M:Nat)(d:Nat)(H:ag):Prop:=∀(T:qa os ln M),tE (d+4) 15 [.tup (os.map dn.v),.tup (cy ln)] H λv z=>v=Xa (Mp os ln M)
namespace bought_callH
def kc:=hc (U5 gN) ([],[],0,0,[])
def os:=kc.1
def ln:=kc.2.1
def M:=kc.2.2.1
def d:=kc.2.2.2.1
def H:=kc.2.2.2.2
theorem kt:gN os ln M d H:=by
 intro T;show gf N N (fQ (DA (d:=d) (H:=H) T) λv bn e1 K1 q1=>aE q1 λq q1 hq=>?_);rw[q1]at e1;have h0:=T.le 0
 have Yk:∀(ae:ag) (U:aJ) (c a:Nat),c<7->a<=M->ae[q]?=À (.di (BK os ln M 7))->U 2=À (.ref q)->U 3=À (.int ((7-c:Nat):Int))->U 4=À (.int a)->ab (aC PP (d+3)) (.idx (xv 2) (xv 3)) U ae=À (.tup (jV (jl os ln M (c+1))),ae)/\ab (aC PP (d+3)) (.idx (.idx (xv 2) (xv 3)) (xv 4)) U ae=À (dL (rA (jl os ln M (c+1)) a),ae):=λae U c a hc ha hq g2 g3 g4=>by have e:=GN (Á:=aC PP (d+3)) (aB g2) (aB g3) hq (Ai hc hc);show⟨e,aP a _ _ e (aB g4) (Ē _) (pX (ų ha (by rw[show (jl os ln M (c+1)).length=M+1 from eN M];show ϊ M)))⟩
 show W.set (af N e1) (W.set (v:=.int ((7-6:Nat):Int)) N (W.set (aP 0 _ (.int (nA ln 0:Nat)) N N (by decide) (uM (i:=0) (by rw[T.h7];decide))) ?_));have e6:=(Yk bn (cS (cS (cS (bJ [.tup (os.map dn.v),.tup (cy ln)]) 2 (.ref q)) 3 (.int ((7-6:Nat):Int))) 4 (.int (nA ln 0:Nat))) 6 (nA ln 0) (by decide) h0 hq N N N).2;unfold Mp;have en:∀x:Option Int,Kw (dL x) .none=À (!x.isSome):=λx=>by cases x<;>rfl
 show W.ifB (bB e6 N (en _)) (λhb=>?_) λhb=>W.nil ?_
 ·rw[if_neg (by rw[ϑ]at hb;rw[hb];show Ķ)]
  show W.retE N ⟨_,N,K1,N⟩
 have hs:(rA (jl os ln M 7) (nA ln 0)).isSome=Æ:=by rw[ads]at hb;show hb
 rw[if_pos hs];show gm (nN (Á:=aC PP (d+3)) (U:=cS (cS (cS (bJ [.tup (os.map dn.v),.tup (cy ln)]) 2 (.ref q)) 3 (.int ((7-6:Nat):Int))) 4 (.int (nA ln 0:Nat))) (H:=bn) (n:=os.length) (e:=.prim .len (a1 (xv 0))) (λae=>aO N ((gP _).trans (by rw[H']))) (z' T.ol (by decide))) λr cY e2 Ċ=>W.set e2 ?_;have Zb:=T.M2;show W.le (a:=Os os ln q r 1 (nA ln 0)) (ak ⟨N,N,N,N,N,N,trivial⟩) (W.whl (n:=1700) (λn U ae=>∃c a cs,W1 os ln M q r bn (I9 os ln M 1700 7 (nA ln 0) (Ņ os.length 0)) n U ae c a cs) (by decide) ⟨7,_,_,rfl,Ċ,⟨by decide,h0,hs⟩,S5 h0 Zb,ϥ,rfl⟩ λn U fg I=>yT I λc a cs I=>?_);apply aY I.e;have XX:=I.o.hk _ _ hq;cases c with
 |zero=>show⟨Ê,N,λj=>W.retE (aO N (bC I.o.hl (by rw[H',I.l];show z' T.ol (by decide)))) ⟨_,N,K1.trans I.o.hk,?_⟩,λq=>nomatch q⟩;rw[<-I.w,LO];rfl
 |succ c=>
  have S:=I.s;show im (id S) λhc ha h3=>?_;rw[show 8-(c+1)=7-c from ac4 7 1 c];show⟨Æ,congrArg (λb=>À (V.bool b,fg)) (decide_eq_true (Ş.mpr (Ŗ _ _))),(λq=>nomatch q),λj=>?_⟩;have hn:=I.hn;have hw:=I.w;cases n with
  |zero=>show(B8 hn).elim
  |succ n=>
   show⟨n,N,(aQ (Yk fg (Os os ln q r (7-c) a) c a hc ha XX N N N) λer ea=>?_)⟩
   have eg:=qD (d:=d+2) (H:=fg) (q:=q) (D:=7-c) (a:=a) (nx:=jl os ln M c) T.h7 (λh=>⟨_,XX,by
    cases c with
    |zero=>show absurd h (Ţ 7)
    |succ b=>rw[show (((7-(b+1):Nat):Int)+1)=((7-b:Nat):Int) from congrArg aeh (aep (϶ (š hc)))];show Ai (š hc) (š hc)⟩) (λh=>by
    cases c with
    |zero=>show absurd h (Ţ 7)
    |succ b=>rw[show (jl os ln M (b+1)).length=M+1 from eN M];show ϫ (ad'.mpr ⟨ha,T.le _⟩)) (Ŗ _ _)
   show W.if_ (bB ea (af N eg) (FW ..)) (λe=>?_) λe=>?_
   ·rw[I9,if_pos e]at hw
    have G:=NU T S e
    have gw:∀x:Nat,x=max a (nA ln (7-c))->W (aC PP (d+3)) (cU (sa 3 (xA (xv 3) (xn 1)))) (Os os ln q r (7-c) x) fg (TQ (aC PP (d+3)) .nil λfl aU ae=>fl=.next/\∃a',Le a' aU/\∃c a cs,W1 os ln M q r bn (I9 os ln M 1700 7 (nA ln 0) (Ņ os.length 0)) n a' ae c a cs):=λx hx=>by show W.set (v:=.int ((8-c:Nat):Int)) (congrArg (λz=>À (V.int z,fg)) (congrArg aeh (s7 hc).symm)) (W.nil (W.nil ⟨N,Os os ln q r (8-c) x,ak ⟨N,N,N,N,N,N,trivial⟩,c,x,cs,N,I.o,hx▸G,?_,I.l,hx▸hw⟩));show hx▸NV hn (ad'.mpr ⟨ha,T.le _⟩)
    show W.if_ (p:=((7-c:Nat):Int)<7) N (λh=>?_) λh=>W.nil (gw a ?_)
    ·show W.set (aO (ay N (al (aP ((7-c:Nat):Int) _ _ N N (Ē _) (uM (by rw[T.h7];show ŧ.mp h))))) (congrArg (λz=>À (V.int z,fg)) (Bv ..))) (W.nil (W.le (a:=Os os ln q r (7-c) (max a (nA ln (7-c)))) (ak ⟨N,N,N,N,N,N,trivial⟩) (gw _ N)))
    ·rw[show 7-c=7 from Ů (Ŗ _ _) (Ş.mp (ň.mp h)),n7 T];show(Nat.max_zero a).symm
   ·rw[I9,if_neg e]at hw
    show aQ (B9 T S e) λGl hp=>im (zg (d:=d+1) (H:=fg) T.oa (r:=jl os ln M (c+1)) (ų ha (by rw[show (jl os ln M (c+1)).length=M+1 from eN M];show ϊ M)) hp) λhk I6 ef=>?_;generalize os.findIdx (rR (jl os ln M (c+1)) (7-c) a)=k at hk I6 ef hw;have Qi:=T.oa _ (rd hk);show W.set (af (ay N (ay er (ay N (al N)))) ef) (W.setItem0 r k (cs.map .int) (.int (bS cs k+1)) (aK (bF r k _ _ N N I.o.hl (Ē _) (iB (I.l▸hk))) N N) N N I.o.hl (Ē _) (by rw[ĭ,H',I.l];show hk) ?_);rw[ĭ,f9];show W.set (v:=.int ((a-(gQ os k).a.toNat:Nat):Int)) (aO (ay N (al (aK (y:=.int (gQ os k).a) N (aP 0 _ _ (aP k _ (gQ os k).v N N (Ē _) (by rw[ĭ,Ġ,N' hk];unfold gQ;rw[N' hk];rfl)) N (by decide) N) N))) (congrArg (λz=>À (V.int z,_)) (BX Qi))) (W.nil (W.nil ⟨N,Os os ln q r (8-(c+1)) (a-(gQ os k).a.toNat),?_,c+1,_,_,N,I.o.set _,B7 T S I6,?_,(acC ..).trans I.l,hw⟩))
    ·rw[show 8-(c+1)=7-c from ac4 7 1 c];show ak ⟨N,N,N,N,N,N,trivial⟩
    ·show NW hn Gl Qi
end bought_callH
theorem vN{os:List dn}:gN os ln M d H:=hk (P:=U5 gN) bought_callH.kt (os,ln,M,d,H)
noncomputable def ow(i:Nat):Pk:=(Ps[i]?).getD ⟨aeo,0,0,0⟩
noncomputable def Pk.off(p:Pk):dn:=⟨p.a,p.p,p.l⟩
def pT(O:Str):List Nat:=(č Ps.length).filter λi=>(ow i).n==O
def pA(O:Str):List dn:=(pT O).map λi=>(ow i).off
theorem Lb{i:Nat}(h:i<Ps.length):ow i∈Ps:=by unfold ow;rw[N' h];show ŵ h
theorem Nx{i:Nat}(h:i<Ps.length):(Ps.map Pk.v)[((i:Nat):Int).toNat]?=À (ow i).v:=by rw[ĭ,Ġ,N' h];unfold ow;rw[N' h];rfl
theorem BC{O:Str}{i:Nat}(h:i∈pT O):i<Ps.length:=Ũ.mp (ť.mp h).1
theorem uS(O:Str):(pT O).length<=Ps.length:=z' (abM _ _) (by rw[Ľ];show đ _)
def nG(O:Str):Int:=bg (Ds.map (fe O 0))
def kg(O:Str):List Nat:=(č 7).map λt=>(fo O t).toNat
def Nm(l:List Nat):Nat:=((mX (l.map λi:Nat=>(i:Int))).getD 0).toNat
def gx(O:Str):Option (List Int):=Mp (pA O) (kg O) (Nm (kg O))
def fy(O:Str):Option Nat:=if 200<nG O then À 1 else if (gx O).isNone then À 2 else Ã
theorem t8(h:200<nG O):fy O=À 1:=if_pos h
theorem t9(h:¬ 200<nG O)(h2:(gx O).isNone=Æ):fy O=À 2:=(if_neg h).trans (if_pos h2)
theorem F3(h:¬ 200<nG O)(h2:gx O=À cs):fy O=Ã:=(if_neg h).trans (by rw[h2];rfl)
theorem Bq(O:Str)(t:Nat):((fo O t).toNat:Int)=fo O t:=Ϥ (ado _ _)
theorem Pl(O:Str):(Bp O).map V.int=cy (kg O):=by unfold Bp kg cy;rw[Ŧ,Ŧ];show ύ λt z=>congrArg V.int (Bq O t).symm
theorem F9(l:List Int):∀x:Int,(l.foldl (λa b=>max a b) x=x\/l.foldl (λa b=>max a b) x∈l)/\x<=l.foldl (λa b=>max a b) x/\∀y∈l,y<=l.foldl (λa b=>max a b) x:=by
 induction l with
 |nil=>show λx=>⟨.inl N,Ŕ x,λk h=>nomatch h⟩
 |cons y l ih=>intro x;rw[ϧ];show im (ih (max x y)) λh1 h2 h3=>⟨(h1.elim (λh=>?_) λh=>.inr (J' _ h)),Ĵ (ado _ _) h2,λz hz=>(ą.mp hz).elim (λq=>by rw[q];show Ĵ (adP _ _) h2) (h3 z)⟩;rw[h];show(acV x y).elim (λq=>.inr (by rw[acM q];show G')) λq=>.inl (adn q)
theorem Pr{l:List Nat}(h:l≠[]):mX (l.map λi:Nat=>(i:Int))=À (Nm l:Int)/\Nm l∈l/\∀i,nA l i<=Nm l:=by
 cases l with
 |nil=>show absurd N h
 |cons x l=>
  have F:=F9 (l.map λi:Nat=>(i:Int)) (x:Int);have e:mX ((x::l).map λi:Nat=>(i:Int))=À ((l.map λi:Nat=>(i:Int)).foldl (λa b=>max a b) (x:Int)):=rfl;have m:∃y∈x::l,(y:Int)=(l.map λi:Nat=>(i:Int)).foldl (λa b=>max a b) (x:Int):=F.1.elim (λq=>⟨x,G',q.symm⟩) λq=>aE (ŗ.mp q) λy hy q=>⟨y,J' _ hy,q⟩;show aE m λy hy q=>?_;have mx:Nm (x::l)=y:=by unfold Nm;rw[e,<-q];rfl
  show⟨by rw[mx,e,q],mx▸hy,λi=>?_⟩;rw[mx];show Ş.mp (q▸?_);unfold nA;cases hi:(x::l)[i]? with
  |none=>show Ĵ (Ē x) F.2.1
  |some z=>show(ą.mp (ģ hi)).elim (λq=>q▸F.2.1) λq=>F.2.2 _ (ŗ.mpr ⟨z,q,N⟩)
theorem Ap{f g:α->Int}:∀{l:List α},(∀x∈l,f x<=g x)->bg (l.map f)<=bg (l.map g)
 |[],_=>Ŕ _
 |x::l,h=>by rw[œ,œ,aV,aV];show ad6 (h x G') (Ap λy hy=>h y (J' _ hy))
section
variable{O:Str}{d:Nat}{H:ag}
theorem KB(t:Nat):0<=f0 Bs O t:=by
 rw[jx];show Ĵ (acE ?_) (Ap (f:=λz=>0) λb hb=>?_)
 ·rw[aey,m7,acD]
 ·unfold CZ
  split
  ·show Ym b hb
  ·show Ŕ _
theorem G2(t:Nat):fo O t<=max 0 (nG O):=by
 rw[uD];have h1:=KB (O:=O) t
 have h2:bg (Ds.map (fe O t))<=nG O:=Ap λx hx=>by
  have h:=qb (n:=O) (NS x hx).nn;have h0:=(NS x hx).1.1;unfold fe;rw[if_pos (show 0<x.d from h0)];split
  ·show Ŕ _
  ·show h
 show(acV _ _).elim (λd0=>y5 0xc3410b00810b2110b3212be014 N h1 h2 (adP _ _) (acM d0)) λd0=>y2 0xc0110b00812b081 N (ado _ _) (adn d0)
theorem xY(h:¬ 200<nG O):qa (pA O) (kg O) (Nm (kg O)):=by
 have eT:kg O≠[]:=λq=>nomatch (congrArg ada q:(7:Nat)=0);show im (Pr eT) λh1 h2 h3=>⟨N,λo ho=>?_,z' (by unfold pA;rw[H'];show uS O) LY,h1,h3,?_⟩
 ·show aE (ŗ.mp ho) λi hi e=>?_;apply fR e
  show Yo _ (Lb (BC hi))
 ·show aE (ŗ.mp h2) λt z e=>?_
  have:=G2 (O:=O) t;rw[<-e];show aer.mpr (Ĵ this (Int.max_le.mpr ⟨by decide,ň.mp h⟩))
theorem PO(p:Pk):xl p.v (.int 1) .none H=À (p.off.v,H):=u6 (l:=[.str p.n,.int p.a,.int p.p,.int p.l]) (a:=1) (show 1<=4 by decide) (show 4<=1000 by decide)
theorem Ku(x:Option (List Int)):Kw (Xa x) .none=À x.isNone:=by cases x<;>rfl
theorem BB:∀(l:List Nat) (cs:List Int),bz (cy l) (cs.map .int)=(l.zip cs).map pV
 |[],_=>rfl
 |_::_,[]=>rfl
 |p::ps,c::cs=>congrArg (V.tup [.int p,.int c]::·) (BB ps cs)
structure Yv(O:Str)(L:Nat)(r:yA)(ae:ag):Prop where
 bad:∀c,fy O=À c->r=.exc c O
 ok:fy O=Ã->∃q cs,r=.ok (.ref q)/\L<=q/\gx O=À cs/\ae[q]?=À (.lst (((pT O).zip cs).map pV))
end
def jt(d:Nat)(H:ag)(O:Str):Prop:=QI (d+5) 16 [vD,vG,vP,.str O] H (Yv O H.length)
namespace counts_ofH
def kc:=hc (U3 jt) (0,[],default)
def d:=kc.1
def H:=kc.2.1
def O:=kc.2.2
theorem kt:jt d H O:=by
 show HJ N N (fQ (o4 (d:=d+3) (H:=H) O) λv bn e1 k1 q=>eJ q λl q1 h1 h2=>?_);rw[q1]at e1;have hs:bg l=nG O:=h2 0;show W.if_ (p:=200<nG O) (bB (aO (al (af N e1)) (BZ l)) N (by rw[hs];rfl)) (λhc=>W.raise N (.inr ⟨1,O,N,k1,λc h=>by rw[<-sm ((t8 hc).symm.trans h)],λh=>no (h.symm.trans (t8 hc))⟩)) λhc=>W.nil ?_;have ec:=dp (elt:=ab (aC PP (d+4)) (xv 6)) (cond:=cW (aC PP (d+4)) (a1 (xE (xu 7 0) (xv 3)))) (t:=.two 6 7) (w:=[]) (U:=bJ [vD,vG,vP,.str O]) (H:=bn) (g:=λi=>V.tup [.int ((0+i:Nat):Int),(ow i).v]) (p:=λi=>(ow i).n==O) (f:=λi:Nat=>V.int i) (bj _) (xs:=č Ps.length) λi y=>⟨_,N,nE N,λy=>congrArg (λz:Nat=>À (V.int z,bn)) (Ż i)⟩;show W.set (eM ((gc (⟨aeo,0,0,0⟩:Pk) Ps 0)▸nj N) ec (by rw[H'];show z' (uS O) (z' LY (by decide)))) ?_;have k2:=aF.app bn [.lst (cy (pT O))];have g2:=az bn (.lst (cy (pT O)));change W _ _ _ (bn++[.lst (cy (pT O))]) _;generalize bn++[.lst (cy (pT O))]=cY at k2 g2;have et:=rK (Á:=aC PP (d+4)) (elt:=.slc (.idx (xv 2) (xv 6)) (xn 1) (.cst .none)) (t:=.one 6) (it:=.ex (xv 4)) (ifs:=.nil) (U:=cS (bJ [vD,vG,vP,.str O]) 4 (.ref bn.length)) (H:=cY) (f:=λi=>(ow i).off.v) (p:=λy=>Æ) (kC N g2) (kF g2) (z' (uS O) (z' LY (by decide))) λi hi=>⟨_,N,N,λy=>n6 (aP i _ _ N N (Ē _) (Nx (BC hi))) N N (PO _)⟩;rw[eS,show ((pT O).map λi=>(ow i).off.v)=(pA O).map dn.v by unfold pA;rw[Ŧ];rfl]at et;have k3:=aF.app cY [.lst ((pA O).map dn.v)];generalize cY++[.lst ((pA O).map dn.v)]=fg at et k3;show fQ (uE (d:=d+2) (H:=fg) O) λv4 vt e4 k4 q4=>?_;rw[q4,Pl]at e4;show fQ (vN (d:=d) (H:=vt) (xY hc)) λv5 mj e5 k5 q5=>?_;rw[q5,show Mp (pA O) (kg O) (Nm (kg O))=gx O from N]at e5;have K5:=k2.trans (k3.trans (k4.trans k5));show W.set (af (ay et (al (af N e4))) e5) (W.ifB (bB N N (Ku _)) (λhb=>W.raise N (.inr ⟨2,O,N,k1.trans K5,λc h=>by rw[<-sm ((t9 hc hb).symm.trans h)],λh=>no (h.symm.trans (t9 hc hb))⟩)) λhb=>W.nil ?_);cases hf:gx O with
 |none=>rw[hf]at hb;show nomatch hb
 |some cs=>show W.retE (v:=.ref (mj++[bu.own]).length) (Î:=mj++[.own]++[.lst (((pT O).zip cs).map pV)]) ?_ (.inl ⟨_,N,(k1.trans K5).trans ((aF.app _ _).trans (aF.app _ _)),λc h=>no ((F3 hc hf).symm.trans h),λy=>⟨_,cs,N,((k1.trans K5).trans (aF.app _ _)).len,hf,az _ _⟩⟩);show (lst mj bn.length).bind (λx=>rQ (mj++[.own]) (bz x (cs.map .int)))=_;rw[cC ((k3.trans (k4.trans k5)) _ _ g2)];show rQ (mj++[.own]) (bz (cy (pT O)) (cs.map .int))=_;rw[BB];show if_pos (by rw[H',adq];show z' (acA _ _) (z' (uS O) (z' LY (by decide))))
end counts_ofH
theorem CG:jt d H O:=hk (P:=U3 jt) counts_ofH.kt (d,H,O)
noncomputable def rm(cs:List Int)(z:List (Nat×Int)):List Int:=z.foldl (λcs p=>cs.set p.1 p.2) cs
theorem HF(cs:List Int)(z:List (Nat×Int))(p:Nat×Int):rm cs (z++[p])=(rm cs z).set p.1 p.2:=by unfold rm;rw[ac5];rfl
theorem uU:∀(z:List (Nat×Int)) (cs:List Int),(rm cs z).length=cs.length
 |[],_=>rfl
 |p::z,cs=>(uU z (cs.set p.1 p.2)).trans acC
def T7(cs:List Int)(O:Str):List Int:=rm cs ((pT O).zip ((gx O).getD []))
def EN(l:List Str):List Int:=l.foldl (T7) (Ņ Ps.length 0)
def JW(l:List Str):Option (Nat×Str):=l.findSome? λO=>(fy O).map λc=>(c,O)
def eE:Option (Nat×Str):=JW x8
def pa:List Int:=EN x8
section
variable{O:Str}{d c j:Nat}{H:ag}{l:List Str}
theorem u5(l:List Str)(O:Str):EN (l++[O])=T7 (EN l) O:=by unfold EN;rw[ac5];rfl
theorem kB:∀l:List Str,(EN l).length=Ps.length:=λl=>by
 unfold EN;generalize hc:Ņ Ps.length (0:Int)=cs;rw[show Ps.length=cs.length by rw[<-hc,ϥ]];clear hc
 induction l generalizing cs with
 |nil=>rfl
 |cons n l ih=>rw[ϧ,ih];show uU _ _
theorem yW(h:JW (l.take j)=Ã)(hx:l[j]?=À O)(hf:fy O=À c):JW l=À (c,O):=by rw[<-ŭ j l,List.drop_eq_getElem?_toList_append,hx];unfold JW at h ⊢;rw[aeA,h,afy];show List.findSome? _ (O::l.drop (j+1))=_;rw[aeP,hf];rfl
theorem A0(h:JW (l.take j)=Ã)(hx:l[j]?=À O)(hf:fy O=Ã):JW (l.take (j+1))=Ã:=by rw[be hx];unfold JW at h ⊢;rw[aeA,h,afy,aeP,hf];rfl
def YA(r:yA)(_:ag):Prop:=(∀c O,eE=À (c,O)->r=.exc c O)/\(eE=Ã->r=.ok (.tup ((pa).map .int)))
abbrev SN(q:Nat):List (Option V):=[À vD,À vG,À vP,À (.ref q)]
theorem IG{Á:ax}{U:aJ}(h2:U 2=À vP):∃q ae,ab Á (xM (.list (a1 (xn 0))) (.prim .len (a1 (xv 2)))) U H=À (.ref q,ae)/\lK H q ((EN []).map .int) ae:=
 nN (λae=>aO (al (aB h2)) ((gP _).trans (by rw[H']))) (z' LY (by decide))
end
def fT(d:Nat)(H:ag):Prop:=QI (d+6) 17 [vD,vG,vP] H (YA)
namespace shopped_callH
def kc:=hc (U2 fT) (0,[])
def d:=kc.1
def H:=kc.2
theorem kt:fT d H:=by
 show HJ N N (gm (IG (H:=H) (Á:=aC PP (d+5)) (U:=bJ [vD,vG,vP]) N) λq bn e1 Ċ=>W.set e1 (fQ (Eb (d:=d+4) (H:=bn)) λv cY e2 k2 q2=>?_));rw[q2]at e2;show W.each (bN (SN q)) (λj ae=>lK H q ((EN (x8.take j)).map .int) ae/\JW (x8.take j)=Ã) (λfl ae=>∃c O,fl=.exc c O/\eE=À (c,O)/\aF H ae) (cj (af N e2)) (ak ⟨N,N,N,N,trivial⟩) ⟨Ċ.keep k2,N⟩ (λz z z=>bj _) (λj O fg hx I=>⟨_,N,?_⟩) (λfg I=>?_) λfl aU ae h=>fQ h λc O h1 h2 h3=>.inr ⟨c,O,h1,h3,λc' nm' e=>?_,λe=>no (e.symm.trans h2)⟩
 ·show fQ (CG (d:=d) (H:=fg) (O:=O)) λr vt e4 k4 R=>?_
  have O4:=I.1.keep k4;cases hf:fy O with
  |some c=>rw[R.bad c hf]at e4;show W.forX N e4 (.inr ⟨(λq=>nomatch q),c,O,N,yW I.2 hx hf,O4.hk⟩)
  |none=>
   show Mz (R.ok hf) λp cs h1 hp h2 h3=>?_;rw[h1]at e4;have TH:p≠q:=Ř (ĵ (Ğ.mp I.1.hl).1 hp);have cb:=kB (x8.take j);show W.each (bN (SN q)) (λi ae=>lK H q ((rm (EN (x8.take j)) (((pT O).zip cs).take i)).map .int) ae/\ae[p]?=À (.lst (((pT O).zip cs).map pV))) (λz z=>False) (kC (af N e4) h3) (ak ⟨N,N,N,N,trivial⟩) ⟨O4,h3⟩ (λz z h=>kF h.2) (λi x mj hy ï=>⟨_,N,?_⟩) (λmj ï=>?_) λz z z q=>q.elim
   ·have Sc:x.1<Ps.length:=BC (ϔ (ģ hy)).1
    show W.setItem0 q x.1 _ (.int x.2) N N N ï.1.hl (Ē _) (by rw[ĭ,H',uU,cb];show Sc) (W.nil (.inl ⟨N,ak ⟨N,N,N,N,trivial⟩,?_,(dh (Ne.symm TH)).trans ï.2⟩));rw[ĭ,f9,be hy,HF];show ï.1.set _
   ·show W.nil (.inl ⟨N,ak ⟨N,N,N,N,trivial⟩,?_,A0 I.2 hx hf⟩)
    have:=ï.1;rw[Ň]at this;rw[be hx,u5,T7,h2];show this
 ·show W.retE (aO N (bC I.1.hl (by rw[H',kB];show z' LY (by decide)))) (.inl ⟨_,N,I.1.hk,λc O e=>?_,λz=>?_⟩)
  ·have:=I.2;rw[Ň]at this;show no (this.symm.trans e)
  ·rw[Ň];rfl
 ·show aQ (nP (h2.symm.trans e)) λa b=>by rw[<-a,<-b]
end shopped_callH
theorem nc:fT d H:=hk (P:=U2 fT) shopped_callH.kt (d,H)
section
variable{O:Str}{d c j:Nat}{H:ag}{l:List Str}
theorem x9:tE (d+1) 36 [vD] H λv ae=>∃r,v=.ref r/\H.length<=r/\ae[r]?=À (.lst (x8.map .str)):=by show gf N N (W.set (Î:=H++[.ds []]) N (wD LP N N (az _ _) (λp U yt=>⟨_,N,yt,λz=>aP 0 _ _ (aB N) N (by decide) N⟩) λbn hK hD=>W.retE (aO (al (aB N)) (pc hD (oG (pG LP)))) ⟨_,N,(uA hK).trans (aF.app _ _),_,N,(uA hK).len,az _ _⟩))
theorem yV(h:eE=Ã)(hn:O∈x8):fy O=Ã:=by have:=List.findSome?_eq_none_iff.mp h O hn;show Option.map_eq_none_iff.mp this
theorem wu(h:fy O=Ã):¬ 200<nG O/\∃cs,gx O=À cs:=by
 have h1:¬ 200<nG O:=λq=>no (h.symm.trans (t8 q));show⟨h1,?_⟩;cases e:gx O with
 |none=>show no (h.symm.trans (t9 h1 (by rw[e];rfl)))
 |some cs=>show⟨cs,N⟩
theorem kR(x0:α)(l:List α):(č l.length).map (λi=>(l[i]?).getD x0)=l:=by
 show adG λi=>?_;rw[Ġ];by_cases h:i<l.length
 ·rw[ό h,N' h];show À ((l[i]?).getD x0)=_;rw[N' h];rfl
 ·rw[Ϡ (by rw[Ľ];show ķ.mp h),Ϡ (ķ.mp h)];rfl
theorem PB(O:Str):pA O=(Ps.filter λp=>p.n==O).map Pk.off:=by
 conv=>rhs;rw[<-kR (⟨aeo,0,0,0⟩:Pk) Ps]
 rw[List.filter_map,Ŧ];rfl
end
noncomputable def iW:Option (Nat×Str)->List V
 |none=>[]
 |some p=>[.bool (p.1==1),.bool (p.1==2),.bool Ê,.bool Æ,.str p.2]
section
variable{O:Str}{d c j t r:Nat}{H:ag}{l:List Int}
noncomputable def Kb(O:Str)(t:Nat):List Pk:=Ps.filter λp=>p.n==O&&decide ((t:Int)<p.l)
theorem Gg:ME (pA O) (t+1)↔Kb O t≠[]:=by
 rw[PB];show⟨λh q=>aE h λo ho hl=>aE (ŗ.mp ho) λp hp e=>?_,λh=>(List.exists_mem_of_ne_nil _ h).elim λp hp=>?_⟩
 ·have hp:=ť.mp hp
  have:p∈Kb O t:=ť.mpr ⟨hp.1,Ł.mpr ⟨hp.2,decide_eq_true (by rw[<-e]at hl;show hl)⟩⟩;rw[q]at this;show nomatch this
 ·have hp:=ť.mp hp
  have h2:=Ł.mp hp.2;show⟨_,ŗ.mpr ⟨p,ť.mpr ⟨hp.1,h2.1⟩,N⟩,of_decide_eq_true h2.2⟩
theorem uK(ht:t<7):nA (kg O) t=(fo O t).toNat:=by unfold nA kg;rw[Ġ,ό ht];rfl
theorem wt(hc:¬ 200<nG O):fy O=À 2↔∃t,t<7/\0<fo O t/\Kb O t=[]:=by
 have B:=Jz (xY hc)
 have e:fy O=À 2↔gx O=Ã:=by
  cases h:gx O with
  |none=>show⟨λx=>rfl,λx=>t9 hc (by rw[h];rfl)⟩
  |some cs=>show⟨λq=>no ((F3 hc h).symm.trans q),λq=>nomatch q⟩
 show e.trans (B.trans ⟨λh=>abE λq=>h λt ht=>?_,λh q=>eJ h λt ht h1 h2=>?_⟩)
 ·rw[uK ht]
  by_cases z:0<fo O t
  ·show .inr (Gg.mpr λy=>q ⟨t,ht,z,y⟩)
  ·show .inl (Int.toNat_of_nonpos (ň.mp z))
 ·show(q t ht).elim (λy=>?_) λy=>Gg.mp y h2
  rw[uK ht]at y;show zI (y2 0x1c080811b00812b08110b10 N h1 (iE y) (adH _))
end
def kM(d:Nat)(H:ag):Prop:=tE (d+2) 37 [vD,vG,vP] H λv ae=>∃q,v=.ref q/\ae[q]?=À (.lst (iW (eE)))
namespace due_callH
def kc:=hc (U2 kM) (0,[])
def d:=kc.1
def H:=kc.2
set_option tactic.hygienic true in
theorem kt:kM d H:=by
 show gf N N (fQ (x9 (d:=d) (H:=H)) λv bn e1 k1 q1=>eJ q1 λr q1 hr X1=>?_);rw[q1]at e1;show W.each (bN [À vD,À vG,À vP]) (λj ae=>aF bn ae/\JW (x8.take j)=Ã) (λfl ae=>∃q,fl=.ret (.ref q)/\aF bn ae/\ae[q]?=À (.lst (iW (eE)))) (kC (af N e1) X1) (ak ⟨N,N,N,trivial⟩) ⟨aF.refl _,N⟩ (λ_ _ h=>kF (h.1 _ _ X1)) (λj O cY hx I=>⟨_,N,?_⟩) (λcY I=>?_) λfl aU ae h=>eJ h λq h1 h2 h3=>⟨_,h1,k1.trans h2,q,N,h3⟩
 ·show aE (xc (d:=d) (H:=cY) NS O) λfg e3 k3=>?_
  have K3:=I.1.trans k3;show W.if_ (p:=200<nG O) (bB (af N e3) N N) (λhc=>?_) λhc=>W.nil ?_
  ·show W.retE (bZ (vs:=iW (À (1,O))) N (show 5<=aw by decide)) (.inr ⟨(λq=>nomatch q),_,N,K3.trans (aF.app _ _),?_⟩)
   rw[show eE=À (1,O) from yW I.2 hx (t8 hc)];show az _ _
  show fQ (KI (d:=d) (H:=fg) (O:=O)) λv4 vt e4 k4 h4=>aQ h4 λq4 h4=>?_;rw[q4]at e4;show W.set (af N e4) ?_;have K4:=K3.trans k4;show W.each (xs:=č 7) (g:=λj:Nat=>V.int ((j+1:Nat):Int)) (bN [À vD,À vG,À vP,À (.str O),À (.ref fg.length)]) (λt ae=>aF vt ae/\∀u,u<t->¬ (0<fo O u/\Kb O u=[])) (λfl ae=>∃q,fl=.ret (.ref q)/\aF bn ae/\ae[q]?=À (.lst (iW (eE)))) (xJ (n:=((7+1:Nat):Int)) N N N (HH 7).symm) (ak ⟨N,N,N,N,N,trivial⟩) ⟨aF.refl _,λu hu=>absurd hu (ack u)⟩ (λ_ _ _=>bj _) (λt x mj ht ï=>⟨_,N,?_⟩) (λmj ï=>?_) λfl aU ae h=>eJ h λq h1 h2 h3=>.inr ⟨(by rw[h1];show λq=>nomatch q),q,h1,h2,h3⟩
  ·show aQ (dR ht) λqx ht=>?_;apply aY qx
   have hz:(Kb O t).length<=aw:=z' (abM _ _) (z' LY (by decide));show W.set (eM (cj N) (dp (p:=λp:Pk=>p.n==O&&decide ((t:Int)<p.l)) (f:=Pk.v) (bj _) λp _=>⟨_,N,nE (iw N N),λ_=>rfl⟩) (by rw[H'];show hz)) ?_;change W _ _ _ (mj++[.lst ((Kb O t).map Pk.v)]) _;have g6:=az mj (.lst ((Kb O t).map Pk.v));have k6:=aF.app mj [.lst ((Kb O t).map Pk.v)];generalize mj++[.lst ((Kb O t).map Pk.v)]=IN at g6 k6;have K6:=ï.1.trans k6;have el:ab (aC PP (d+1)) (xG (.idx (xv 4) (xS (xv 5) (xn 1))) (xn 0)) (cS (cS (bN [À vD,À vG,À vP,À (.str O),À (.ref fg.length)]) 5 (.int ((t+1:Nat):Int))) 6 (.ref mj.length)) IN=À (.bool (decide (0<fo O t)),IN):=bB (bF fg.length t _ _ N (congrArg (λz=>À (V.int z,IN)) (adr t 1)) (K6 _ _ h4) (Ē _) (by rw[ĭ,Ġ,Ġ,ό ht];rfl)) N N;by_cases h0:0<fo O t
   ·rw[decide_eq_true h0]at el
    show W.if_ (yX el (bB N (bZ (vs:=[]) N (ĥ _)) (Xl (FV (cC (aF.app _ _ _ _ g6)) (cC (az _ _)))))) (λhb=>?_) λhb=>W.nil (W.nil (.inl ⟨N,ak ⟨N,N,N,N,N,trivial⟩,K6.trans (aF.app _ _),λu hu=>?_⟩))
    ·rw[H']at hb
     show W.retE (bZ (vs:=iW (À (2,O))) N (show 5<=aw by decide)) (.inr ⟨(λq=>nomatch q),_,N,(K4.trans K6).trans ((aF.app _ _).trans (aF.app _ _)),?_⟩);rw[show eE=À (2,O) from yW I.2 hx ((wt hc).mpr ⟨t,ht,h0,ϳ.mp hb⟩)];show az _ _
    ·show(aeg.mp hu).elim (ï.2 u) λq=>?_
     rw[q];show λy=>hb (by rw[H',y.2];rfl)
   ·rw[decide_eq_false h0]at el
    show W.iteF IN (a0 (t0 el)) (W.nil (W.nil (.inl ⟨N,ak ⟨N,N,N,N,N,trivial⟩,K6,λu hu=>(aeg.mp hu).elim (ï.2 u) λq=>by rw[q];show λy=>h0 y.1⟩)))
  ·show W.nil (.inl ⟨N,ak ⟨N,N,N,trivial⟩,K4.trans ï.1,A0 I.2 hx ?_⟩)
   cases hf:fy O with
   |none=>rfl
   |some c=>
    have h2:fy O=À 2:=by
     unfold fy at hf ⊢;rw[if_neg hc]at hf ⊢;split at hf
     ·rename_i q;rw[if_pos q]
     ·show nomatch hf
    show eJ ((wt hc).mp h2) λt ht h1 h3=>absurd ⟨h1,h3⟩ (ï.2 t (by rw[Ľ];show ht))
 ·show W.retE (bZ (vs:=[]) N (ĥ _)) ⟨_,N,k1.trans (I.1.trans (aF.app _ _)),_,N,?_⟩
  have:=I.2;rw[Ň]at this;rw[show eE=Ã from this];show az _ _
end due_callH
theorem FP:kM d H:=hk (P:=U2 kM) due_callH.kt (d,H)
theorem yY{Á:ax}{U:aJ}{H:ag}{i r c d e:Nat}(h:U i=À (.ref r))(hr:H[r]?=À (.exn c e))(hc:(c==1||c==2)=Æ):ab Á (.isC d (.var i)) U H=À (.bool (nB c d),H):=by
 show bY (ab Á (.var i) U H) (λx Î=>(Bl Î d x).bind λv=>À (v,Î))=_;rw[aB h];show (Bl H d (.ref r)).bind _=_
 have e1:Bl H d (.ref r)=À (.bool (nB c d)):=by show (H[r]?).bind (λm=>(QZ m).bind λp=>À (V.bool (nB p.1 d)))=_;rw[hr];show (if (c==1||c==2)=Æ then À (c,e) else Ã).bind _=_;rw[if_pos hc];rfl
 rw[e1];rfl
theorem JY{Á:ax}{U:aJ}{H:ag}{i r c e:Nat}{w:Str}(h:U i=À (.ref r))(hr:H[r]?=À (.exn c e))(he:H[e]?=À (.wd w))(hc:(c==1||c==2)=Æ):ab Á (.word (.var i)) U H=À (.str w,H):=by
 show bY (ab Á (.var i) U H) (λx Î=>(vo Î x).bind λv=>À (v,Î))=_;rw[aB h];show (vo H (.ref r)).bind _=_
 have e1:vo H (.ref r)=À (.str w):=by show (H[r]?).bind (λm=>(QZ m).bind λp=>(H[p.2]?).bind λm'=>(UE m').bind λw=>À (V.str w))=_;rw[hr];show (if (c==1||c==2)=Æ then À (c,e) else Ã).bind _=_;rw[if_pos hc];show (H[e]?).bind _=_;rw[he];rfl
 rw[e1];rfl
section
variable{O:Str}{d c j t r e:Nat}{H:ag}{l:List Int}
theorem zO(hr:H[r]?=À (.exn c e))(he:H[e]?=À (.wd O))(hc:c=1\/c=2):aC PP (d+1) 38 [.ref r] H=À (.ok (.ref H.length),H++[.lst (iW (À (c,O)))]):=by
 have h:(c==1||c==2)=Æ:=by rcases hc with rfl|rfl<;>rfl
 rw[show iW (À (c,O))=[.bool (nB c 1),.bool (nB c 2),.bool Ê,.bool (nB c 3),.str O] by rcases hc with rfl|rfl<;>rfl];show(pI rfl rfl).trans (WM (bZ (ay (yY rfl hr h) (ay (yY rfl hr h) (ay rfl (ay (yY rfl hr h) (al (JY rfl hr he h)))))) (show 5<=aw by decide)))
theorem Rf(h:eE=À (c,O)):c=1\/c=2:=by
 show aE (List.exists_of_findSome?_eq_some h) λn z h=>?_;show aE (ϱ.mp h) λc' h1 h2=>?_;rw[show c=c' from (congrArg Prod.fst h2).symm];unfold fy at h1;split at h1
 ·show .inl (sm h1).symm
 ·split at h1
  ·show .inr (sm h1).symm
  ·show nomatch h1
structure W5(P:V->Prop)(v:V)(ae:ag)(q p:Nat)(x:V):Prop where
 v:v=.ref q
 q:ae[q]?=À (.lst [x,.ref p])
 p:ae[p]?=À (.lst (iW (eE)))
 x:eE=Ã->P x
theorem It{f k:Nat}{a b u:V}{P:V->Prop}(hk:PP[k]?=À ⟨3,cU (.try_ (cU (.ret (.list (a2 (.call f (a3 (xv 0) (xv 1) (xv 2))) (.list .nil))))) 3 (cU (.ret (.list (a2 (.cst .none) (.call 38 (a1 (xv 3))))))))⟩)
  (X:QI (d+1) f [a,b,u] H λr z=>(∀c O,eE=À (c,O)->r=.exc c O)/\(eE=Ã->∃v,r=.ok v/\P v)):tE (d+2) k [a,b,u] H λv ae=>∃q p x,W5 P v ae q p x:=by
 show gf hk N (fQ X λr bn e1 k1 h=>?_);cases he:eE with
 |none=>show aE (h.2 he) λv q hP=>?_;rw[q]at e1;show W.tryO (bZ (vs:=[v,.ref bn.length]) (ay (af N e1) (al (bZ (vs:=[]) N (ĥ _)))) (show 2<=aw by decide)) ⟨_,N,k1.trans ((aF.app _ _).trans (aF.app _ _)),_,_,v,N,az _ _,aF.app _ _ _ _ ?_,λz=>hP⟩;rw[he];show az _ _
 |some p=>
  obtain ⟨c,w⟩:=p;rw[h.1 c w he]at e1;have h1:(bn++[.wd w,.exn c bn.length])[bn.length]?=À (.wd w):=by rw[Ϟ (đ _),Ϻ];rfl
  have h2:(bn++[.wd w,.exn c bn.length])[bn.length+1]?=À (.exn c bn.length):=by rw[Ϟ (ϐ _)];show [bu.wd w,.exn c bn.length][bn.length+1-bn.length]?=_;rw[ϲ];rfl
  have h3:aF H (bn++[.wd w,.exn c bn.length]):=k1.trans (aF.app _ _);show W.tryE N e1 (v:=.ref ((bn++[bu.wd w,.exn c bn.length])++[bu.lst (iW (À (c,w)))]).length) ?_;generalize bn++[.wd w,.exn c bn.length]=cY at h1 h2 h3;show W.retE (bZ (vs:=[.none,.ref cY.length]) (ay N (al (af N (zO h2 h1 (Rf he))))) (show 2<=aw by decide)) ⟨N,_,N,h3.trans ((aF.app _ _).trans (aF.app _ _)),_,_,.none,N,az _ _,aF.app _ _ _ _ ?_,λq=>no (q.symm.trans he)⟩;rw[he];show az _ _
theorem jJ(x:Int):aC PP (d+1) 23 [.int x] H=À (.ok (.bool Æ),H):=gs N N (W.retE N ⟨_,N,N,N⟩)
theorem uP(hr:H[r]?=À (.lst (l.map .int)))(hl:l.length<=100):aC PP (d+2) 24 [.tup (l.map .int),.ref r] H=À (.ok (.bool Æ),H):=by show gs N N (W.iteF H (a0 (fx N (bB N (aO N (uG hr)) (by show À (!_)=_;rw[beq_self_eq_true];rfl)))) (W.nil (W.each (xs:=č l.length) (bN [À (.tup (l.map .int)),À (.ref r)]) (λz ae=>ae=H) (λz z=>False) ((fH l.length)▸cV (aO N ((uG hr).trans (by rw[H']))) (z' hl (by decide))) (ak ⟨N,N,trivial⟩) N (λz z z=>bj _) (λj x bn hx I=>⟨_,N,?_⟩) (λbn I=>by rw[I];show W.retE N ⟨_,N,N,N⟩) λz z z q=>q.elim)));show aQ (dR hx) λqx hj=>?_;apply aY qx;apply aY I;have e1:=aP (Á:=aC PP (d+1)) (U:=cS (bN [À (.tup (l.map .int)),À (.ref r)]) 2 (.int j)) (H:=H) (a:=xv 0) (i:=xv 2) j _ _ N N (Ē _) (iB hj);show W.iteF H (a0 (fx (lS (b:=Æ) (af (al e1) (jJ _))) (bB e1 (bF r j _ _ N N hr (Ē _) (iB hj)) (by show À (!_)=_;rw[beq_self_eq_true];rfl)))) (W.nil (W.nil (.inl ⟨N,ak ⟨N,N,trivial⟩,N⟩)))
end
noncomputable def Pk.bat(p:Pk):cn:=⟨p.n,p.a,p.l⟩
def kD(z:List (Pk×Int)):List cn:=z.flatMap λx=>Ņ x.2.toNat x.1.bat
theorem Ie{z:List (Pk×Int)}:(∀x∈z,0<=x.2/\x.2<=1700)->(kD z).length<=1700*z.length:=by
 induction z with
 |nil=>show λk=>đ _
 |cons x z ih=>intro h;unfold kD at ih ⊢;rw[afe,Ā,ϥ,Ϫ,Nat.mul_succ,ϝ];show Ϭ (ih λy hy=>h y (J' _ hy)) (aer.mpr (h x G').2)
abbrev stL(q:Nat):aJ:=bN [Ã,Ã,Ã,À (.ref q)]
def zP:List (Pk×Int):=Ps.zip pa
def Fs:List cn:=Bs++kD zP
def vF:V:=.tup (Fs.map cn.v)
def vC:V:=.tup (pa.map .int)
def QJ:Prop:=∀x∈pa,0<=x/\x<=1700
theorem Ao(hc:QJ)(j:Nat):(Bs++kD (zP.take j)).length<=60000:=by
 have h1:=Ie (z:=zP.take j) λx hx=>hc _ (ϔ (ű hx)).2;have h2:=adX j zP;have h3:zP.length<=Ps.length:=by unfold zP;rw[adq];show acA _ _
 rw[Ā];show z' (Ϭ WX (z' h1 (acL _ (z' h2 (z' h3 LY))))) (by decide)
theorem nr(hc:QJ):Fs.length<=60000:=by have:=Ao hc zP.length;rw[Ň]at this;show this
theorem xQ{p:Pk}{n:Nat}(hx:zP[j]?=À (p,(n:Int))):Bs++kD (zP.take (j+1))=Bs++kD (zP.take j)++Ņ n p.bat:=by rw[be hx,ü];unfold kD;rw[aeO];show congrArg (λz=>Bs++(_++z)) (Ĭ (Ņ n p.bat))
theorem D4(hc:QJ):tE (d+1) 18 [vG,vP,vC] H λv z=>v=vF:=by
 show gf N N (W.set (v:=.ref H.length) (Î:=H++[bu.lst (Bs.map cn.v)]) (aO (vs:=[vG]) (Î:=H) N (Do (l:=Bs.map cn.v) (by rw[H'];show z' WX (by decide)))) ?_);have C6:H.length≠(H++[bu.lst (Bs.map cn.v)]).length:=by rw[Ā];show ń (ϊ _)
 show W.each (xs:=zP) (stL H.length) (λj ae=>lK H H.length ((Bs++kD (zP.take j)).map cn.v) ae/\ae[(H++[bu.lst (Bs.map cn.v)]).length]?=À .own) (λz z=>False) (PR (aB N) (aB N)) (ak ⟨N,trivial⟩) ⟨(show Bs++kD (zP.take 0)=Bs from Ĭ _).symm▸(lK.new H _).keep (aF.app _ _),az _ _⟩ (λz z h=>kF h.2) (λj x bn hx I=>?_) (λbn I=>?_) λz z z q=>q.elim
 ·have Qn:=hc _ (ϔ (ģ hx)).2
  obtain ⟨p,m⟩:=x;obtain ⟨n,rfl⟩:=acN Qn.1;have vu:=Ao hc (j+1);have hs:=xQ hx;rw[hs]at vu;have I1:=I.1;generalize Bs++kD (zP.take j)=B at I1 vu hs;rw[Ā,ϥ]at vu;show⟨_,rfl,W.each (xs:=č n) (bN [Ã,Ã,Ã,À (.ref H.length),À p.v]) (λi ae=>lK H H.length ((B++Ņ i p.bat).map cn.v) ae/\ae[(H++[bu.lst (Bs.map cn.v)]).length]?=À .own) (λz z=>False) ((fH n)▸cV (aB rfl) (z' (Ş.mp Qn.2) (by decide))) (ak ⟨rfl,rfl,trivial⟩) ⟨(Ĭ B).symm▸I1,I.2⟩ (λz z z=>bj _) (λi y cY hy ï=>⟨_,rfl,?_⟩) (λcY ï=>W.nil (.inl ⟨rfl,ak ⟨rfl,trivial⟩,?_,ï.2⟩)) λz z z q=>q.elim⟩
  ·show aQ (dR hy) λz cG=>W.append0 H.length _ p.bat.v N ï.1.hl (ca (vs:=[.str p.n,.int p.a,.int p.l]) N (show 3<=aw by decide)) ?_ (W.nil (.inl ⟨N,ak ⟨N,N,trivial⟩,?_,(dh C6).trans ï.2⟩))
   ·rw[H',Ā,ϥ];show z' (Ϙ (ī cG) _) (z' vu (by decide))
   ·rw[aeJ,<-ü,ŉ (l₁:=B++_)];show ï.1.set _
  ·have J1:=ï.1
   rw[Ľ,<-hs]at J1;show J1
 ·have h:=I.1
  rw[Ň]at h;show W.retE (aO N (bC h.hl (by rw[H'];show z' (nr hc) (by decide)))) ⟨_,N,h.hk,N⟩
def wI(O:Str)(t:Nat):Int:=bg ((pT O).map λk=>if (t:Int)<(ow k).l then (ow k).a*bS pa k else 0)
def zF(n:Str)(t:Nat)(x:Pk×Int):Int:=if pk n t x.1.bat then x.1.a*x.2 else 0
theorem wT:∀{z:List (Pk×Int)},(∀x∈z,0<=x.2)->f0 (kD z) n t=bg (z.map (zF n t))
 |[],_=>rfl
 |x::z,h=>by
  have h0:=h x G';rw[œ,aV,<-wT λy hy=>h y (J' _ hy),jx,jx];unfold kD;rw[afe,ŉ,gk,List.map_replicate,m7,Ϥ h0];unfold CZ zF;split
  ·rfl
  ·rw[acD]
theorem Gv(n:Str)(t:Nat):wI n t=bg (zP.map (zF n t)):=by
 have hl:pa.length=Ps.length:=kB _;have hz:zP.length=Ps.length:=by unfold zP;rw[adq,hl,aet]
 unfold wI pT
 conv=>rhs;rw[<-kR ((⟨aeo,0,0,0⟩,0):Pk×Int) zP]
 rw[nC,Ŧ,hz];show congrArg bg (ύ λi hi=>?_);show _=zF n t ((zP[i]?).getD (⟨aeo,0,0,0⟩,0));unfold bS;have hi:=Ũ.mp hi;have hc:i<pa.length:=hl▸hi;have e:zP[i]?=À (Ps[i],pa[i]):=by unfold zP;rw[acy];show⟨N' hi,N' hc⟩
 have e2:ow i=Ps[i]:=by unfold ow;rw[N' hi];rfl
 rw[e,e2,N' hc];show (if Ps[i].n==n then if (t:Int)<Ps[i].l then Ps[i].a*pa[i] else 0 else 0)=if Ps[i].n==n&&decide ((t:Int)<Ps[i].l) then Ps[i].a*pa[i] else 0;cases Ps[i].n==n with
 |false=>rfl
 |true=>
  by_cases h:(t:Int)<Ps[i].l
  ·rw[if_pos N,if_pos h,adm,decide_eq_true h];rfl
  ·rw[if_pos N,if_neg h,adm,decide_eq_false h];rfl
theorem qm:∀{l:List (Str×V)},k∈(dA l k v).map (·.1)/\∀x∈l.map (·.1),x∈(dA l k v).map (·.1)
 |[]=>⟨G',λx h=>nomatch h⟩
 |(a,b)::r=>by
  show k∈(if a=k then (a,v)::r else (a,b)::dA r k v).map (·.1)/\∀x∈a::r.map (·.1),x∈(if a=k then (a,v)::r else (a,b)::dA r k v).map (·.1);by_cases h:a=k
  ·rw[if_pos h];show⟨h▸G',λx hx=>hx⟩
  ·rw[if_neg h]
   have ih:=qm (v:=v) (k:=k) (l:=r);show⟨J' _ ih.1,λx hx=>(ą.mp hx).elim (λe=>e▸G') λq=>J' _ (ih.2 x q)⟩
theorem B3:∀{l:List Str} {acc:List (Str×V)},n∈acc.map (·.1)\/n∈l->n∈(l.foldl (λacc n=>dA acc n (.bool Æ)) acc).map (·.1)
 |[],_,h=>h.resolve_right λq=>nomatch q
 |x::l,acc,h=>B3 (l:=l) (h.elim (λq=>.inl (qm.2 n q)) λq=>(ą.mp q).elim (λe=>.inl (by rw[e];show qm.1)) .inr)
theorem LJ(hx:x∈Ds)(h:(n,a)∈x.ns):n∈x8:=by
 have p:x8.Perm ((Au (pq Ds)).map (·.1)):=by
  unfold x8 jO;by_cases h:∃m:List Str,m.Perm ((Au (pq Ds)).map (·.1))/\nU m
  ·rw[dif_pos h];show(adL h).1
  ·rw[dif_neg h]
 show p.mem_iff.mpr (B3 (.inr (adT.mpr ⟨x,hx,ŗ.mpr ⟨_,h,N⟩⟩)))
section
variable{O:Str}{d t:Nat}{H:ag}{l:List Str}
theorem uV{k:Nat}:∀{z:List (Nat×Int)} {cs:List Int},(∀p∈z,p.1≠k)->bS (rm cs z) k=bS cs k
 |[],_,_=>rfl
 |p::z,cs,h=>by show(uV (cs:=cs.set p.1 p.2) λq hq=>h q (J' _ hq)).trans ?_;unfold bS;rw[ab6 (h p G')]
theorem BF:∀{l:List Nat} {cs c0:List Int},l.Nodup->l.length=cs.length->(∀k∈l,k<c0.length)->l.map (bS (rm c0 (l.zip cs)))=cs
 |[],[],_,_,_,_=>rfl
 |k::l,c::cs,c0,hn,hl,hk=>by
  have hn:=ϛ.mp hn;have ih:=BF (c0:=c0.set k c) hn.2 (ad5.inj hl) λi hi=>by rw[acC];show hk i (J' _ hi)
  show bS (rm (c0.set k c) (l.zip cs)) k::l.map (bS (rm (c0.set k c) (l.zip cs)))=_;rw[ih,uV (k:=k) λp hp q=>hn.1 (q▸(ϔ hp).1),pO (hk k G'),if_pos N]
theorem BG{x:Int}:∀{z:List (Nat×Int)} {cs:List Int},x∈rm cs z->x∈cs\/∃p∈z,x=p.2
 |[],_,h=>.inl h
 |p::z,cs,h=>(BG (z:=z) h).elim (λh=>(aea h).imp id λq=>⟨p,G',q⟩) λh=>aE h λq hq e=>.inr ⟨q,J' _ hq,e⟩
theorem HR(hn:∀n∈l,fy n=Ã){cs:List Int}(hf:gx O=À cs)(hc:¬ 200<nG O):O∈l->(pT O).map (bS (EN l))=cs:=by
 have C3:(pT O).length=cs.length:=((Fh (xY hc) hf).1.trans (H' _)).symm
 suffices KE:∀k,k<=l.length->O∈l.take k->(pT O).map (bS (EN (l.take k)))=cs from λh=>by have:=KE l.length (đ _) (by rw[Ň];show h);rwa [Ň]at this
 intro k
 induction k with
 |zero=>show λy h=>nomatch h
 |succ k ih=>
  intro hk h;have hx:l[k]?=À l[k]:=N' hk;rw[be hx]at h ⊢;rw[u5,T7];by_cases q:O=l[k]
  ·rw[<-q,hf]
   show BF (adU.filter _) C3 λi hi=>by rw[kB];show BC hi
  ·show Eq.trans (ύ λi hi=>uV λp hp e=>q ?_) (ih (ī hk) ((Ģ.mp h).resolve_right λz=>q (W'.mp z)))
   have h1:=beq_iff_eq.mp (ť.mp hi).2;have h2:=beq_iff_eq.mp (ť.mp (ϔ hp).1).2;rw[e]at h2;show h1.symm.trans h2
theorem Kh(O:Str)(t:Nat):lz (pA O) ((pT O).map (bS pa)) t=wI O t:=by
 unfold lz wI pA;rw[H']
 conv=>rhs;rw[<-kR 0 (pT O)]
 rw[Ŧ];show congrArg bg (ύ λi hi=>?_);have hi:=Ũ.mp hi;unfold gQ bS;rw[Ġ,Ġ,N' hi];show _=if (t:Int)<(ow (((pT O)[i]?).getD 0)).l then (ow (((pT O)[i]?).getD 0)).a*(pa[((pT O)[i]?).getD 0]?).getD 0 else 0;rw[N' hi];rfl
theorem tq(h:eE=Ã):QJ:=by
 suffices KE:∀k,k<=x8.length->∀x∈EN (x8.take k),0<=x/\x<=1700 from λx hx=>KE x8.length (đ _) x (by rw[Ň];show hx)
 intro k
 induction k with
 |zero=>show λz x hx=>by rw[(adu.mp hx).2];decide
 |succ k ih=>intro hk x hx;rw[be (N' hk),u5]at hx;show(BG hx).elim (ih (ī hk) x) λq=>aE q λp hp e=>aQ (wu (yV h (ŵ hk))) λhc hf=>hf.elim λcs hf=>?_;rw[hf]at hp;rw[e];show(Fh (xY hc) hf).2.1 _ (ϔ hp).2
theorem DE(h:eE=Ã)(hn:O∈x8)(ht:t<7):fo O t<=wI O t:=by show aQ (wu (yV h hn)) λhc hf=>hf.elim λcs hf=>?_;have:=(Fh (xY hc) hf).2.2 t ht;rw[uK ht,Bq,<-HR (λn hn=>yV h hn) hf hc hn]at this;show Ĵ this (acE (Kh O t))
theorem MF(h:eE=Ã):∀b∈Fs,0<=b.a:=λb hb=>(Ģ.mp hb).elim (Ym b) λh=>by show aE (adT.mp h) λx hx hb=>?_;rw[(adu.mp hb).2];show Ĵ (by decide) (Yo _ (ϔ hx).1)
theorem JM(h:eE=Ã):∃st,sK Fs Ds=.ok st:=by
 have C:=JL (bs:=Fs) (MF h) λx hx=>⟨P1 x hx,(NS x hx).nn⟩;cases e:sK Fs Ds with
 |ok st=>show⟨st,N⟩
 |error O=>show aQ (C.2 O e) λq1 q2=>aE q1 λt ht q=>?_;have h1:=DE h (aE q2 λx hx h=>h.elim λa h=>LJ hx h) ht;unfold Fs at q;rw[jx,ŉ,gk,<-jx,<-jx,wT (z:=zP) λx hx=>(tq h _ (ϔ hx).2).1,<-Gv,A5]at q;rw[uD]at h1;show absurd q (ň.mpr (Int.le_add_of_sub_left_le (Ĵ (adP _ _) h1)))
end
def Ck:Ja:=match sK Fs Ds with
 |.ok st=>st
 |.error _=>([],[])
theorem Q7(h:eE=Ã):sK Fs Ds=.ok Ck:=(JM h).elim λst e=>by unfold Ck;rw[e]
def T4(p:Nat×Int):Str×Int:=((fu Fs p.1).n,p.2)
structure DG(x:bh)(ns:List (Str×Int))(u:List (Nat×Int)):Prop where
 ok:∀p∈u,p.1<Fs.length/\(x.d:Int)<=(fu Fs p.1).l/\1<=p.2
 am:∀n,cK (u.map T4) n=cK ns n
 le:u.length<=201*ns.length
theorem yb{α:Type}{l:List α}{x:α}(h:l[j]?=À x):l.take j++x::l.drop (j+1)=l:=by have hj:=Ğ.mp h;show(congrArg (l.take j++·) ?_).trans (ŭ j l);rw[aby hj.1,hj.2]
theorem kE(a b:List (Nat×Int))(j:Nat):dj (a++b) j=dj a j+dj b j:=by unfold dj;rw[ŉ,gk]
theorem AJ(a b:List (Str×Int))(n:Str):cK (a++b) n=cK a n+cK b n:=by unfold cK;rw[aeX,ŉ,gk]
theorem Jq{m n:Str}(l:List (Nat×Int))(h:∀p∈l,(T4 p).1=m):cK (l.map T4) n=if n=m then bg (l.map (·.2)) else 0:=by
 induction l with
 |nil=>show(ite_self _).symm
 |cons p l ih=>
  rw[œ,i6,œ,aV,ih λq hq=>h q (J' _ hq),h p G'];split
  ·rfl
  ·rfl
theorem sR{α β:Type}{f:α->β->Except Str α}{l:List β}{a b c:α}{x:β}(h:c8 f a l=.ok b)(hc:c8 f a (l.take j)=.ok c)(hx:l[j]?=À x):∃c',f c x=.ok c'/\c8 f a (l.take (j+1))=.ok c':=by
 rw[<-yb hx,n8,hc]at h;rw[be hx,zi hc];cases e:f c x with
 |ok c'=>show⟨c',N,N⟩
 |error w=>change (match f c x with|.ok b=>c8 f b (l.drop (j+1))|.error e=>.error e)=_ at h;rw[e]at h;show nomatch h
structure Tf(x:bh)(lf:List Int)(ns:List (Str×Int))(st:List Int×List (Nat×Int)):Prop where
 len:st.1.length=Fs.length
 nn:∀i,0<=bS st.1 i
 dg:DG x ns st.2
 us:∀j,bS st.1 j+dj st.2 j=bS lf j
theorem K0{x:bh}{l:List (Str×Int)}{p:Str×Int}(G:Tf x lf l st)(hp:0<=p.2)(Wc:p.2<=201)(h:I8 Fs x.d st p=.ok aT):Tf x lf (l++[p]) aT:=by
 unfold I8 at h;by_cases hb:0<(nQ Fs st.1 p.1 p.2 x.d).am
 ·rw[if_pos hb]at h;show nomatch h
 rw[if_neg hb]at h;injection h with h
 rw[<-h];have el:∀i∈bE Fs st.1 p.1 x.d,∃b,Fs[i]?=À b/\b.n=p.1/\(x.d:Int)<=b.l/\0<bS st.1 i:=λi hi=>pJ.mp (lO.mp hi);have T:=B4 (R:=Bf Fs) (t:=⟨[],st.1,p.2⟩) (λz z=>Bf.asym) (Mo Fs st.1 p.1 x.d) λi hi=>⟨by rw[G.len];show tY (lO.mp hi),G.nn i⟩;show tW (T.use λi hi=>(el i hi).elim λb h=>h.2.2.2) λqs h1 h2 h3 h4=>?_;have h1:(nQ Fs st.1 p.1 p.2 x.d).ps=qs:=h1;have h0:(nQ Fs st.1 p.1 p.2 x.d).am=0:=ņ (ň.mp hb) (T.nn hp);have h3:bg (qs.map (·.2))+(nQ Fs st.1 p.1 p.2 x.d).am=p.2:=h3;rw[h0,Œ]at h3;have O:∀q∈qs,q.1<Fs.length/\(fu Fs q.1).n=p.1/\(x.d:Int)<=(fu Fs q.1).l:=λq hq=>tW (el _ (h2 q hq).1) λb e e1 e2 z=>⟨(Ğ.mp e).1,by unfold fu;rw[e];show⟨e1,e2⟩⟩;rw[h1];show⟨(nv _ _).trans G.len,λi=>?_,⟨λq hq=>(Ģ.mp hq).elim (G.dg.ok q) λhq=>⟨(O q hq).1,(O q hq).2.2,(h2 q hq).2⟩,λn=>?_,?_⟩,λj=>?_⟩
 ·by_cases hi:i∈bE Fs st.1 p.1 x.d
  ·show(T.inn i hi).1
  ·show(T.out i hi).symm▸G.nn i
 ·rw[ŉ,AJ,G.dg.am,AJ,Jq qs λq hq=>(O q hq).2.1,h3,i6]
  show congrArg (_+·) (Œ _).symm
 ·have F:((nQ Fs st.1 p.1 p.2 x.d).ps.length:Int)+(nQ Fs st.1 p.1 p.2 x.d).am<=0+p.2:=T.few λi hi=>(el i hi).elim λb h=>h.2.2.2
  rw[h0,h1,Œ,ş]at F;rw[Ā,Ā];show Ϭ G.dg.le (Ş.mp (Ĵ F Wc))
 ·rw[kE,adv]
  show(congrArg (dj st.2 j+·) (h4 j)).trans ((ϭ _ _).trans (G.us j))
theorem F7{ps:List (Nat×Int)}(us:List (List (Nat×Int)))(j:Nat):∀{k},us[k]?=À []->dj (us.set k ps).flatten j=dj us.flatten j+dj ps j:=by
 induction us with
 |nil=>show λh=>no h
 |cons u us ih=>
  intro k h;cases k with
  |zero=>rw[sm h];show(kE ps us.flatten j).trans (ϭ _ _)
  |succ k=>show dj (u++(us.set k ps).flatten) j=dj (u++us.flatten) j+_;rw[kE,kE,ih h,ϒ]
structure P5(o:List Nat)(st:Ja):Prop where
 len:st.1.length=Fs.length
 len2:st.2.length=Ds.length
 nn:∀i,0<=bS st.1 i
 us:∀j,bS st.1 j+dj st.2.flatten j=(fu Fs j).a
 gd:∀k x u,Ds[k]?=À x->st.2[k]?=À u->(k∈o->DG x x.ns u)/\(k∉o->u=[])
theorem JO{x:bh}{r:List Nat}(G:P5 l st)(hf:l++k::r=jz Ds)(hx:Ds[k]?=À x)(pzJ:Tf x st.1 x.ns p):P5 (l++[k]) (p.1,st.2.set k p.2):=by
 have hn:k∉l:=λq=>by have:=uQ Ds;rw[<-hf,Ϛ]at this;show(this.2.2 k q k G').elim (Ţ _) λz=>Ţ _ z.2
 have qG:k<st.2.length:=G.len2.symm▸(Ğ.mp hx).1;have h0:st.2[k]?=À []:=(N' qG).trans (congrArg À ((G.gd k _ _ hx (N' qG)).2 hn));show⟨pzJ.len,(acC ..).trans G.len2,pzJ.nn,λj=>?_,λi y u hi hu=>?_⟩
 ·show _+dj (st.2.set k p.2).flatten j=_
  rw[F7 _ _ h0,adv];show(congrArg (dj st.2.flatten j+·) (pzJ.us j)).trans ((ϭ _ _).trans (G.us j))
 ·by_cases q:k=i
  ·have hu:(st.2.set k p.2)[i]?=À u:=hu
   rw[<-q]at hi hu ⊢;rw[acS qG]at hu;rw[hx]at hi;rw[<-sm hi,<-sm hu];show⟨λt=>pzJ.dg,λz=>absurd (Ŭ _ G') z⟩
  ·have:=G.gd i y u hi ((ab6 q).symm.trans hu)
   show⟨λz=>this.1 ((Ģ.mp z).resolve_right λy=>q (W'.mp y).symm),λz=>this.2 λy=>z (Ŵ _ y)⟩
theorem Va(h:eE=Ã):P5 [] (AR Fs Ds):=by
 show⟨H' _,ϥ,λi=>?_,λj=>?_,λk x u y hu=>⟨(λz=>nomatch z),λy=>(adu.mp (ģ hu)).2⟩⟩
 ·unfold bS AR
  rw[Ġ];cases e:Fs[i]? with
  |none=>show Ŕ 0
  |some b=>show MF h b (ģ e)
 ·have e:dj (Ņ Ds.length ([]:List (Nat×Int))).flatten j=0:=by rw[List.flatten_replicate_nil];rfl
  show bS (Fs.map cn.a) j+dj (Ņ Ds.length ([]:List (Nat×Int))).flatten j=_;rw[e,Œ];unfold bS fu;rw[Ġ];cases Fs[j]?<;>rfl
section
variable{d L j:Nat}{H:ag}{lf:List Int}{O:Str}{am dy:Int}{Á:ax}{U:aJ}
theorem tI(hf:Fs.length<=60000)(hl:lf.length=Fs.length)(hL:H[L]?=À (.lst (lf.map .int))):tE (d+1) 3 [vF,.ref L,.str O,.int dy] H λv ae=>∃q,v=.ref q/\H.length<=q/\ae[q]?=À (.lst (cy (bE Fs lf O dy))):=by
 have hc:=dp (elt:=ab (aC PP d) (xv 5)) (cond:=cW (aC PP d) (a1 (.and (xE (xu 6 0) (xv 2)) (.and (LZ (xu 6 2) (xv 3)) (xG (.idx (xv 1) (xv 5)) (xn 0)))))) (t:=.two 5 6) (U:=bJ [vF,.ref L,.str O,.int dy]) (g:=λi=>V.tup [.int ((0+i:Nat):Int),(fu Fs i).v]) (p:=JR Fs lf O dy) (f:=λi:Nat=>V.int i) (H:=H) (bj _) (xs:=č Fs.length) λi hi=>by have jX:=Ũ.mp hi;show⟨_,N,?_,λy=>congrArg (λz:Nat=>À (V.int z,H)) (Ż i)⟩;rw[OC jX];show nE (iw (bB (aP 0 _ _ (aB N) N (by decide) N) N N) (iw (bB (aP 2 _ _ (aB N) N (by decide) N) N N) (bB (bF L ((0+i:Nat):Int) _ (.int (bS lf i)) N N hL (Ē _) ?_) N N)));rw[Ż];show zX (hl▸jX)
 have hz:(FR Fs lf O dy).length<=60000:=z' (abM _ _) (by rw[Ľ];show hf);show gf N N (W.set (eM ((gc Jw Fs 0)▸nj N) hc (by rw[H'];show z' hz (by decide))) (W.retE (wf (kC (aB N) (az H (.lst (cy (FR Fs lf O dy))))) N (pb (c:=2) ((ac0).filter _) (z' hz (by decide)) (λy=>rfl) (λn hn=>KC N (Ũ.mp (ť.mp hn).1)) (BR Fs _) λy y=>rfl)) ⟨_,N,(aF.app _ _).trans (aF.app _ _),_,N,(aF.app _ _).len,az _ _⟩))
structure Mf(L:Nat)(H:ag)(t:Tk)(q:Nat)(ae:ag):Prop where
 keep:mu L H ae
 lf:ae[L]?=À (.lst (t.lf.map .int))
 hq:H.length<=q
 ps:ae[q]?=À (.lst (t.ps.map pV))
theorem zj{t:Tk}{l:List Nat}{k i:Nat}(h:l[k]?=À i):(l.take (k+1)).foldl r9 t=r9 ((l.take k).foldl r9 t) i:=by rw[be h,ac5];rfl
theorem PF(l:List Nat):∀t:Tk,(l.foldl r9 t).ps.length<=t.ps.length+l.length:=by
 induction l with
 |nil=>show λz=>đ _
 |cons i l ih=>
  intro t;show z' (ih (r9 t i)) ?_;rw[Ϫ,ϝ l.length,<-Ű];show ϯ ?_ _;unfold r9;split
  ·rw[Ā];show đ _
  ·show ϐ _
abbrev uL(L:Nat)(dy:Int)(p:Nat)(O:Str)(a:Int):aJ:=bN [À vF,À (.ref L),Ã,À (.int dy),À (.ref p),À (.str O),À (.int a)]
structure YD(l:List Nat)(lf:List Int)(am:Int)(L q:Nat)(H:ag)(k:Nat)(ae:ag)(t:Tk):Prop where
 ht:(l.take k).foldl r9 ⟨[],lf,am⟩=t
 h1:ae[L]?=À (.lst (t.lf.map .int))
 h2:ae[H.length]?=À (.lst (t.ps.map pV))
 h3:ae[q]?=À (.lst (cy l))
 hK:mu L H ae
end
def jI(d:Nat)(H:ag)(L:Nat)(lf:List Int)(O:Str)(am:Int)(dy:Int):Prop:=∀(hf:Fs.length<=60000) (hl:lf.length=Fs.length) (hL:H[L]?=À (.lst (lf.map .int))) (h0:¬ 0<(nQ Fs lf O am dy).am),∃q ae,aC PP (d+2) 4 [vF,.ref L,.tup [.str O,.int am],.int dy] H=À (.ok (.ref q),ae)/\Mf L H (nQ Fs lf O am dy) q ae
namespace used_callH
def kc:=hc (U7 jI) (0,[],0,[],default,0,0)
def d:=kc.1
def H:=kc.2.1
def L:=kc.2.2.1
def lf:=kc.2.2.2.1
def O:=kc.2.2.2.2.1
def am:=kc.2.2.2.2.2.1
def dy:=kc.2.2.2.2.2.2
theorem kt:jI d H L lf O am dy:=by
 intro hf hl hL h0;have ON:L<H.length:=(Ğ.mp hL).1;show gm (eR (P:=PP) (k:=4) (d:=d+1) (H:=H) (R:=λv ae=>∃q,v=.ref q/\Mf L H (nQ Fs lf O am dy) q ae) N (as:=[vF,.ref L,.tup [.str O,.int am],.int dy]) N (W.set (v:=.ref H.length) (Î:=H++[.lst []]) N (W.put N N (fQ (tI (d:=d) (H:=H++[.lst []]) (O:=O) (dy:=dy) hf hl (aF.app _ _ _ _ hL)) λv bn e1 k1 q1=>eJ q1 λq q1 hq Wg=>?_)))) λv ae e q=>aE q λq e1 R=>⟨q,ae,e1▸e,R⟩;rw[q1]at e1;rw[Ā]at hq;have MW:H.length<q:=hq;generalize hE:bE Fs lf O dy=l at Wg;have cb:l.length<=60000:=by rw[<-hE];show z' (Op _ _ _ _) hf
 have cG:∀i∈l,i<Fs.length:=λi hi=>tY (lO.mp (hE▸hi));have htk:nQ Fs lf O am dy=l.foldl r9 ⟨[],lf,am⟩:=by unfold nQ;rw[hE]
 rw[htk]at h0 ⊢
 show W.loop (kC (af N e1) Wg)
  (λk U ae=>∃t,U=(uL L dy H.length O t.am)/\YD l lf am L q H k ae t)
  (a:=(uL L dy H.length O am)) (ak ⟨N,N,N,N,N,N,trivial⟩) ⟨⟨[],lf,am⟩,N,N,k1 _ _ (aF.app _ _ _ _ hL),k1 _ _ (az _ _),Wg,((aF.app _ _).trans k1).b⟩ (λ_ _ _ ⟨_,_,I⟩=>kF I.h3) ?_ ?_
 ·intro j x WZ cY hx q1
  show aE q1 λt q1 I=>?_;apply aY q1;show aE (Pv hx) λi hi q3=>?_;apply aY q3;have um:=cG i (ģ hi);have zB:=PF (l.take j) ⟨[],lf,am⟩;have XS:=nv (l.take j) ⟨[],lf,am⟩;have RK:=zj (t:=⟨[],lf,am⟩) hi;rw[I.ht]at zB XS RK;have Qd:i<t.lf.length:=by rw[XS];show hl▸um
  have hpz:(t.ps.map pV).length<=aw:=by rw[H'];show z' zB (z' (by rw[adY,Ż];show z' (adX j l) cb) (by decide:60000<=aw))
  show⟨_,N,W.if_ (Î:=cY) N (λh0=>?_) λh0=>?_⟩
  ·show W.set (v:=.int (nF t i)) (aO (ay N (al (bF L (i:Int) _ _ N N I.h1 (Ē _) (zX Qd)))) N) (W.setItem0 L (i:Int) (t.lf.map .int) (.int (bS t.lf i-nF t i)) (aK (bF L (i:Int) _ _ N N I.h1 (Ē _) (zX Qd)) N N) N N I.h1 (Ē _) (by rw[ĭ,H'];show Qd) ?_)
   rw[ĭ,f9];show W.set N ?_;have g1:=eO (m':=.lst ((t.lf.set i (bS t.lf i-nF t i)).map .int)) I.h1;have g2:=(dh (m:=.lst ((t.lf.set i (bS t.lf i-nF t i)).map .int)) (ń ON)).trans I.h2;have g3:=(dh (m:=.lst ((t.lf.set i (bS t.lf i-nF t i)).map .int)) (ń (Ϣ ON MW))).trans I.h3;have K3:mu L H (cY.set L (.lst ((t.lf.set i (bS t.lf i-nF t i)).map .int))):=λb o hb e=>(dh (Ne.symm hb)).trans (I.hK b o hb e);generalize cY.set L (.lst ((t.lf.set i (bS t.lf i-nF t i)).map .int))=fg at g1 g2 g3 K3
   show W.append0 H.length (t.ps.map pV) (pV (i,nF t i)) N g2 N hpz (W.nil (W.nil ⟨N,(uL L dy H.length O (t.am-nF t i)),ak ⟨N,N,N,N,N,N,trivial⟩,⟨t.ps++[(i,nF t i)],t.lf.set i (bS t.lf i-nF t i),t.am-nF t i⟩,N,RK.trans (if_pos h0),(dh (Ř ON)).trans g1,
    (eO g2).trans (congrArg (λz=>À (bu.lst z)) (ŉ (l₂:=[(i,nF t i)])).symm),(dh (ń MW)).trans g3,λb o hb e=>(dh (Ř (Ğ.mp e).1)).trans (K3 b o hb e)⟩))
  ·show W.nil (W.nil ⟨N,(uL L dy H.length O t.am),ak ⟨N,N,N,N,N,N,trivial⟩,t,N,RK.trans (if_neg h0),I.h1,I.h2,I.h3,I.hK⟩)
 ·intro WZ cY q1
  show aE q1 λt q1 I=>?_;apply aY q1;have ht:=I.ht;rw[show (cy l).length=l.length from H' _,Ň]at ht;rw[ht]at h0 ⊢;show W.iteF cY (a0 (congrArg (λb=>À (V.bool b,cY)) (decide_eq_false h0))) (W.nil (W.retE N ⟨_,N,_,N,I.hK,I.h1,đ _,I.h2⟩))
end used_callH
theorem Ee:jI d H L lf O am dy:=hk (P:=U7 jI) used_callH.kt (d,H,L,lf,O,am,dy)
section
variable{d L j A B C q:Nat}{H:ag}{Á:ax}{U:aJ}
theorem Li(n:Nat):Dy [V.tup []] n=(Ņ n ([]:List (Nat×Int))).map yd:=by
 induction n with
 |zero=>rfl
 |succ n ih=>rw[adZ,œ,<-ih];rfl
theorem Gb(h:U 0=À vD):ab Á (xM (.list (a1 (.tuple .nil))) (.prim .len (a1 (xv 0)))) U H=À (.ref (H.length+1),H++[.lst [.tup []]]++[.lst ((Ņ Ds.length ([]:List (Nat×Int))).map yd)]):=by show aK (bZ (vs:=[.tup []]) N (by decide)) (aO (vs:=[vD]) (al (aB h)) ((gP _).trans (by rw[H']))) ?_;show ((lst (H++[.lst [.tup []]]) H.length).bind λx=>if 0<=(Ds.length:Int)/\(Ds.length:Int)<=100000/\x.length<=100 then rQ (H++[.lst [.tup []]]) (Dy x (Ds.length:Int).toNat) else Ã)=_;rw[cC (az _ _),ab8,if_pos ⟨Ē _,Ş.mpr (z' Qx (by decide)),(by decide:1<=100)⟩,Li,ĭ];unfold rQ;rw[if_pos (by rw[H',ϥ];show z' Qx (by decide)),Ā];rfl
theorem AX{x:bh}{i:Nat}(h:Ds[i]?=À x):(Ds.map bh.v)[((i:Nat):Int).toNat]?=À x.v:=by rw[ĭ,Ġ,h];rfl
theorem GR{n:Nat}(h0:U 0=À vD)(hn:n<Ds.length):∃v,dq (.idx (.idx (.var 0) (.var 9)) (.num 0)) (cS U 9 (.int n)) H=À v/\r7 v=À (Qq Ds n).1/\(Qq Ds n).2=n:=by
 have hx:=N' hn;show⟨.int (rZ Ds n),?_,N,N⟩
 have e1:dq (.idx (.var 0) (.var 9)) (cS U 9 (.int n)) H=À Ds[n].v:=by show ((cS U 9 (.int n)) 0).bind _=_;rw[show (cS U 9 (.int n)) 0=U 0 from N,h0];show kP (l:=Ds.map bh.v) (Ē _) (AX hx)
 unfold rZ;show (dq (.idx (.var 0) (.var 9)) (cS U 9 (.int n)) H).bind _=_;rw[e1,hx];rfl
theorem zN{bn cY:ag}(h:aF H bn)(hA:H.length<=A)(hB:mu A bn cY):aF H cY:=λi o e=>hB i o (ń (ĵ (Ğ.mp e).1 hA)) (h i o e)
abbrev cL(A B:Nat):aJ:=bN [À vD,À vF,À (.ref A),À (.ref B)]
abbrev YE(A B k d C:Nat):aJ:=bN [À vD,À vF,À (.ref A),À (.ref B),À (.int k),À (.int d),Ã,À (.ref C)]
structure Yu(H:ag)(q j:Nat)(ae:ag)(st:Ja):Prop where
 hf:c8 (ql Fs Ds) (AR Fs Ds) ((jz Ds).take j)=.ok st
 g:P5 ((jz Ds).take j) st
 e1:ae[H.length]?=À (.lst (st.1.map .int))
 e2:ae[H.length+2]?=À (.lst (st.2.map yd))
 e3:ae[q]?=À (.lst (cy (jz Ds)))
 hK:aF H ae
structure Yz(H:ag)(q C:Nat)(x:bh)(st:Ja)(j:Nat)(ae:ag)(s:List Int×List (Nat×Int)):Prop where
 hf:c8 (I8 Fs x.d) (st.1,[]) (x.ns.take j)=.ok s
 g:Tf x st.1 (x.ns.take j) s
 e1:ae[H.length]?=À (.lst (s.1.map .int))
 e2:ae[H.length+2]?=À (.lst (st.2.map yd))
 e3:ae[q]?=À (.lst (cy (jz Ds)))
 e4:ae[C]?=À (.lst (s.2.map pV))
 hK:aF H ae
theorem qk(h:eE=Ã):tE (d+3) 5 [vD,vF] H λv y=>v=.tup (Ck.2.map yd)/\P5 (jz Ds) Ck:=by
 have hf:=nr (tq h);have XJ:=Q7 h;have hl:=dp (elt:=ab (aC PP (d+2)) (xu 9 1)) (cond:=cW (aC PP (d+2)) .nil) (t:=.one 9) (w:=[]) (U:=bJ [vD,vF]) (H:=H) (g:=cn.v) (p:=λy=>Æ) (f:=λb=>V.int b.a) (bj _) (xs:=Fs) λb y=>⟨_,N,N,λy=>aP 1 _ _ (aB N) N (by decide) N⟩;rw[eS,show (Fs.map λb=>V.int b.a)=(AR Fs Ds).1.map .int by unfold AR;rw[Ŧ];rfl]at hl;show gf N N (W.set (eM (cj N) hl (by rw[H'];show z' (Ŏ (H' _)) (z' hf (by decide)))) (W.set (Gb N) ?_));have b1:=aF.app _ [bu.lst ((Ņ Ds.length ([]:List (Nat×Int))).map yd)] _ _ (aF.app _ [.lst [V.tup []]] _ _ (az H (.lst ((AR Fs Ds).1.map .int))));have b2:=az (H++[.lst ((AR Fs Ds).1.map .int)]++[.lst [V.tup []]]) (.lst ((Ņ Ds.length ([]:List (Nat×Int))).map yd));have b3:=(aF.app H [.lst ((AR Fs Ds).1.map .int)]).trans ((aF.app _ [.lst [V.tup []]]).trans (aF.app _ [.lst ((Ņ Ds.length ([]:List (Nat×Int))).map yd)]));rw[Ā,Ā]at b2;rw[show (H++[bu.lst ((AR Fs Ds).1.map .int)]).length+1=H.length+2 by rw[Ā];rfl];generalize H++[.lst ((AR Fs Ds).1.map .int)]++[.lst [.tup []]]++[.lst ((Ņ Ds.length ([]:List (Nat×Int))).map yd)]=σ0 at b1 b2 b3 ⊢;have MW:H.length+2<σ0.length:=(Ğ.mp b2).1;have hs:cD (aC PP (d+2)) (.rng1 (.prim .len (a1 (xv 0)))) (cS (cS (bJ [vD,vF]) 2 (.ref H.length)) 3 (.ref (H.length+2))) σ0=À ((č Ds.length).map λj:Nat=>V.int j,[],σ0):=(fH Ds.length)▸cV (aO (vs:=[vD]) N ((gP _).trans (by rw[H']))) (z' Qx (by decide));show W.each (xs:=jz Ds) (cL H.length (H.length+2)) (λj ae=>∃st,Yu H σ0.length j ae st) (λy y=>False) (kC (wf hs N (pb (f:=Qq Ds) (c:=1) (m:=jz Ds) (l:=č Ds.length) ac0 (by rw[Ľ];show z' Qx (by decide)) (λy=>rfl) (λn hn=>GR N (Ũ.mp hn)) (Ht P1) λy y=>rfl)) (az _ _)) (ak ⟨N,N,N,N,trivial⟩) ⟨AR Fs Ds,N,Va h,aF.app _ _ _ _ b1,aF.app _ _ _ _ b2,az _ _,b3.trans (aF.app _ _)⟩ (λy y I=>I.elim λy I=>kF I.e3) (λj i bn hi I=>I.elim λst I=>⟨_,N,?_⟩) (λbn I=>I.elim λst I=>?_) λy y y q=>q.elim
 ·have VT:i<Ds.length:=(pS P1).mp (ģ hi)
  have hx:Ds[i]?=À Ds[i]:=N' VT;have TP:=NS _ (ŵ VT);have uq:σ0.length<bn.length:=(Ğ.mp I.e3).1;have hC:∀k,k<σ0.length->bn.length≠k:=λk hk=>Ř (Ϣ hk uq);have h0:H.length<σ0.length:=Ϣ (abQ (ż 1)) MW;show aE (sR XJ I.hf hi) λaT EI RD=>?_;unfold ql at EI;rw[hx]at EI;dsimp only at EI;generalize Ds[i]=x at hx TP EI;cases hp:c8 (I8 Fs x.d) (st.1,[]) x.ns with
  |error _=>rw[hp]at EI;show nomatch EI
  |ok p=>
   rw[hp]at EI;injection EI with EI
   show W.put (v:=x.v) (Î:=bn) (aP (i:Int) _ _ N N (Ē _) (AX hx)) N (W.set (v:=.ref bn.length) (Î:=bn++[.lst []]) N (W.each (xs:=x.ns) (YE H.length (H.length+2) i x.d bn.length) (λm ae=>∃s,Yz H σ0.length bn.length x st m ae s) (λy y=>False) (cj (aB N)) (ak ⟨N,N,N,N,N,N,N,trivial⟩) ⟨(st.1,[]),N,⟨I.g.len,I.g.nn,⟨(λy h=>nomatch h),λy=>rfl,ĥ _⟩,λy=>Œ _⟩,aF.app _ _ _ _ I.e1,aF.app _ _ _ _ I.e2,aF.app _ _ _ _ I.e3,az _ _,I.hK.trans (aF.app _ _)⟩ (λy y y=>bj _) (λm p cY hm ï=>ï.elim λs ï=>⟨_,N,?_⟩) (λcY ï=>ï.elim λs ï=>?_) λy y y q=>q.elim))
   ·show aE (sR hp ï.hf hm) λs' rO yr=>?_
    have XV:=(TP.2 _ (ģ hm)).2;have pzJ:=K0 ï.g (Ĵ (by decide) XV.1) XV.2 rO;unfold I8 at rO;by_cases hb:0<(nQ Fs s.1 p.1 p.2 x.d).am
    ·rw[if_pos hb]at rO;show nomatch rO
    rw[if_neg hb]at rO;injection rO with rO
    rw[<-rO]at pzJ yr;show gm (Ee (d:=d) (H:=cY) hf ï.g.len ï.e1 hb) λu fg e3 Ď=>?_;have f3:fg[bn.length]?=À (.lst (s.2.map pV)):=Ď.keep _ _ (hC _ h0) ï.e4;have Y4:bn.length≠u:=ń (ĵ (Ğ.mp ï.e4).1 Ď.hq)
    have R4:pP fg (.ref bn.length) (.ref u)=À (.none,fg.set bn.length (.lst (s.2.map pV++(nQ Fs s.1 p.1 p.2 x.d).ps.map pV))):=by show (lst fg bn.length).bind (λl=>(lst fg u).bind λk=>if l.length+k.length<=aw/\bn.length≠u then À (V.none,fg.set bn.length (.lst (l++k))) else Ã)=_;rw[cC f3];show (lst fg u).bind _=_;rw[cC Ď.ps];show if_pos ⟨?_,Y4⟩;have:=pzJ.dg.le;rw[Ā]at this;rw[H',H'];show z' this (z' (acL 201 (z' (Ŏ (congrArg ada (be hm).symm)) (z' (adX _ _) TP.1.2.2))) (by decide))
    show W.extend bn.length u _ _ N ï.e4 (af N e3) R4 (W.nil (.inl ⟨N,ak ⟨N,N,N,N,N,N,N,trivial⟩,_,yr,be hm▸pzJ,(dh (hC _ h0)).trans Ď.lf,(dh (hC _ MW)).trans (Ď.keep _ _ (Ř (abQ (ż 1))) ï.e2),(dh (Ř uq)).trans (Ď.keep _ _ (Ř h0) ï.e3),?_,(zN ï.hK (đ _) Ď.keep).set (z' (ī h0) (ī uq))⟩));rw[eO f3];show congrArg (λz=>À (bu.lst z)) (ŉ ..).symm
   ·have Jf:=ï.hf
    have pzJ:=ï.g;rw[Ň]at Jf pzJ;have es:s=p:=by rw[hp]at Jf;injection Jf with Jf;show Jf.symm
    have e4:=ï.e4;have e1:=ï.e1;rw[es]at pzJ e4 e1;show W.setItem0 (H.length+2) (i:Int) (st.2.map yd) (yd p.2) (aO (vs:=[.ref bn.length]) N (bC e4 (by rw[H'];show z' pzJ.dg.le (z' (acL 201 TP.1.2.2) (by decide))))) N N ï.e2 (Ē _) (by rw[ĭ,H',I.g.len2];show VT) (W.nil (.inl ⟨N,ak ⟨N,N,N,N,trivial⟩,aT,RD,?_,?_,?_,?_,ï.hK.set (Ō _ _)⟩))
    ·rw[be hi,<-EI];show JO I.g (yb hi) hx pzJ
    ·rw[dh (Ř (abQ (ż 1))),<-EI];show e1
    ·rw[eO ï.e2,<-EI,ĭ,afJ]
    ·rw[dh (ń MW)];show ï.e3
 ·have hs:=I.hf
  have G:=I.g;rw[Ň]at hs G;have es:st=Ck:=by rw[show c8 (ql Fs Ds) (AR Fs Ds) (jz Ds)=.ok Ck from XJ]at hs;injection hs with hs;show hs.symm
  rw[es]at G;have e2:=I.e2;rw[es]at e2;show W.retE (aO (vs:=[.ref (H.length+2)]) N (bC e2 (by rw[H',G.len2];show z' Qx (by decide)))) ⟨_,N,I.hK,N,G⟩
theorem tP(h:eE=Ã):P5 (jz Ds) Ck:=fQ (qk (d:=0) (H:=[]) h) λz z z z q=>q.2
end
theorem WP{f g:Nat->Int}{n k:Nat}(h:∀i,k≠i->g i=f i):((č n).map f).set k (g k)=(č n).map g:=by
 show adG λi=>?_;rw[afb,H',Ľ,Ġ,Ġ];by_cases q:k=i
 ·rw[if_pos q,<-q]
  by_cases z:k<n
  ·rw[if_pos z,ό z];rfl
  ·rw[if_neg z,Ϡ (by rw[Ľ];show ķ.mp z)];rfl
 ·rw[if_neg q]
  by_cases z:i<n
  ·rw[ό z];show congrArg À (h i q).symm
  ·rw[Ϡ (by rw[Ľ];show ķ.mp z)];rfl
theorem lfR{f:Nat->Int}(h:i<n):bS ((č n).map f) i=f i:=by unfold bS;rw[Ġ,ό h];rfl
def rF(f:Nat->Int):List V:=((č Fs.length).map f).map .int
theorem BH{f:Nat->Int}(h:i<Fs.length):(rF f)[((i:Nat):Int).toNat]?=À (.int (f i)):=(iB (by rw[H',Ľ];show h)).trans (congrArg (λz=>À (V.int z)) (lfR h))
theorem Ag(f:Nat->Int):(rF f).length=Fs.length:=by unfold rF;rw[H',H',Ľ]
theorem HG{f g:Nat->Int}{k:Nat}(h:∀i,k≠i->g i=f i):(rF f).set k (.int (g k))=rF g:=by unfold rF;rw[f9,WP h]
theorem kZ(a:List (Nat×Int))(p:Nat×Int)(i:Nat):dj (a++[p]) i=dj a i+if p.1=i then p.2 else 0:=(kE a [p] i).trans (congrArg (dj a i+·) (ş _))
def vU:V:=.tup (Ck.2.map yd)
def eL(i:Nat):List Int:=if (fu Fs i).l<7 then [dj Ck.2.flatten i,(fu Fs i).a-dj Ck.2.flatten i,0] else [dj Ck.2.flatten i,0,(fu Fs i).a-dj Ck.2.flatten i]
def eV(i:Nat):V:=.tup ((eL i).map .int)
def vE:V:=.tup ((č Fs.length).map eV)
theorem NR{k:Nat}(h:eE=Ã)(hk:Ck.2[k]?=À u):∃x,Ds[k]?=À x/\DG x x.ns u:=by have G:=tP h;have hl:k<Ds.length:=G.len2▸(Ğ.mp hk).1;show⟨_,N' hl,(G.gd k _ u (N' hl) hk).1 ((pS P1).mpr hl)⟩
section
variable{d t p q j:Nat}{H:ag}{u:List (Nat×Int)}
theorem sQ(hx:Ck.2[j]?=À u):(Ck.2.take j).flatten++u.take u.length=(Ck.2.take (j+1)).flatten:=by rw[be hx,List.flatten_append,Ň];show congrArg (_++·) (Ĭ u).symm
theorem wv:(Ck.2.take Ck.2.length).flatten=Ck.2.flatten:=by rw[Ň]
theorem CK(h:eE=Ã):tE (d+1) 6 [vF,vU] H λv y=>v=vE:=by
 have hf:=nr (tq h);show gf N N (gm (nN (Á:=aC PP d) (U:=bJ [vF,vU]) (H:=H) (n:=Fs.length) (e:=.prim .len (a1 (xv 0))) (λae=>aO N ((gP _).trans (by rw[H']))) (z' hf (by decide))) λq bn e1 Ċ=>W.set e1 (W.each (xs:=Ck.2) (bN [À vF,Ã,À (.ref q)]) (λj=>lK H q (rF (dj (Ck.2.take j).flatten))) (λy y=>False) (cj N) (ak ⟨N,N,trivial⟩) ?_ (λy y y=>bj _) (λj u cY hx I=>⟨_,N,?_⟩) (λcY I=>?_) λy y y q=>q.elim))
 ·have e:rF (dj (Ck.2.take 0).flatten)=(Ņ Fs.length (0:Int)).map .int:=by
   unfold rF;rw[show dj (Ck.2.take 0).flatten=λy=>0 from N,aey,Ľ]
  rw[e];show Ċ
 ·show aE (NR h hx) λx y D=>W.each (xs:=u) (bN [À vF,Ã,À (.ref q)]) (λm=>lK H q (rF (dj ((Ck.2.take j).flatten++u.take m)))) (λy y=>False) (cj N) (ak ⟨N,N,trivial⟩) ((Ĭ (Ck.2.take j).flatten).symm▸I) (λy y y=>bj _) (λi p fg hp ï=>⟨_,N,?_⟩) (λfg ï=>W.nil (.inl ⟨N,ak ⟨N,N,trivial⟩,(show lK H q (rF (dj (Ck.2.take (j+1)).flatten)) fg from sQ hx▸ï)⟩)) λy y y q=>q.elim
  have XU:=(D.ok p (ģ hp)).1;show W.setItem0 q p.1 _ _ (aK (bF q p.1 _ _ N N ï.hl (Ē _) (BH XU)) N N) N N ï.hl (Ē _) (by rw[ĭ,Ag];show XU) (W.nil (.inl ⟨N,ak ⟨N,N,trivial⟩,?_⟩));have e:=HG (f:=dj ((Ck.2.take j).flatten++u.take i)) (g:=dj ((Ck.2.take j).flatten++u.take (i+1))) (k:=p.1) λi' q=>by rw[be hp,<-ü,kZ,if_neg q,Œ]
  have e2:dj ((Ck.2.take j).flatten++u.take (i+1)) p.1=dj ((Ck.2.take j).flatten++u.take i) p.1+p.2:=by rw[be hp,<-ü,kZ,if_pos N]
  rw[ĭ];show lK H q (rF _) _;rw[<-e,e2];show ï.set _
 ·rw[wv]at I
  have Wf:q≠cY.length:=ń (Ğ.mp I.hl).1;show W.set (v:=.ref cY.length) (Î:=cY++[.lst []]) N (W.each (xs:=č Fs.length) (bN [À vF,Ã,À (.ref q),Ã,Ã,Ã,À (.ref cY.length)]) (λj ae=>lK H q (rF (dj Ck.2.flatten)) ae/\ae[cY.length]?=À (.lst ((č j).map eV))) (λy y=>False) ((gc Jw Fs 0)▸nj N) (ak ⟨N,N,N,trivial⟩) ⟨I.keep (aF.app _ _),az _ _⟩ (λy y y=>bj _) (λj x fg hx ï=>⟨_,N,?_⟩) (λfg ï=>W.retE (aO N (bC ï.2 (by rw[H',Ľ,Ľ];show z' hf (by decide)))) ⟨_,N,ï.1.hk,by rw[Ľ];rfl⟩) λy y y q=>q.elim);show aQ (dR hx) λqx hj=>?_;apply aY qx;have eu:∀U:aJ,U 2=À (.ref q)->U 4=À (.int ((0+j:Nat):Int))->ab (aC PP d) (.idx (xv 2) (xv 4)) U fg=À (.int (dj Ck.2.flatten j),fg):=λU g2 g4=>bF q _ _ _ (aB g2) (aB g4) ï.1.hl (Ē _) (by rw[Ż];show BH hj);have hm:((č j).map eV).length<=aw:=by rw[H',Ľ];show z' (ī hj) (z' hf (by decide))
  have gw:∀v,v=eV j->lK H q (rF (dj Ck.2.flatten)) (fg.set cY.length (.lst ((č j).map eV++[v])))/\(fg.set cY.length (.lst ((č j).map eV++[v])))[cY.length]?=À (.lst ((č (j+1)).map eV)):=λv e=>⟨⟨ï.1.hq,ï.1.hk.set (z' I.hk.len (đ _)),(dh Wf.symm).trans ï.1.hl⟩,by rw[eO ï.2,e,ac1,ŉ];rfl⟩;show W.set (aK (x:=.int (fu Fs j).a) N (eu _ N N) N) (W.if_ (p:=(fu Fs j).l<7) N (λz=>?_) λz=>?_)
  ·show W.append0 cY.length _ _ N ï.2 (ca (ay (eu _ N N) (ay N (al N))) (show 3<=aw by decide)) hm (W.nil (W.nil (.inl ⟨N,ak ⟨N,N,N,trivial⟩,gw _ (by unfold eV eL;rw[if_pos z];rfl)⟩)))
  ·show W.append0 cY.length _ _ N ï.2 (ca (ay (eu _ N N) (ay N (al N))) (show 3<=aw by decide)) hm (W.nil (W.nil (.inl ⟨N,ak ⟨N,N,N,trivial⟩,gw _ (by unfold eV eL;rw[if_neg z];rfl)⟩)))
def PZ:V:=.tup [vC,vF,vU,vE]
theorem Ef:QI (d+7) 19 [vD,vG,vP] H λr z=>(∀c O,eE=À (c,O)->r=.exc c O)/\(eE=Ã->∃v,r=.ok v/\v=PZ):=by
 show HJ N N (fQ (nc (d:=d) (H:=H)) λr bn e1 k1 R=>?_);cases he:eE with
 |some p=>obtain ⟨c,O⟩:=p;rw[R.1 c O he]at e1;show W.setX rfl e1 (.inr ⟨c,O,rfl,k1,λc' nm' e=>aQ (nP e) λa b=>by rw[a,b],λe=>nomatch e⟩)
 |none=>rw[R.2 he]at e1;show W.set (af N e1) (fQ (D4 (d:=d+5) (H:=bn) (tq he)) λv2 cY e2 k2 q2=>?_);rw[q2]at e2;show W.set (af N e2) (fQ (qk (d:=d+3) (H:=cY) he) λv3 fg e3 k3 q3=>?_);rw[q3.1]at e3;show W.set (af N e3) (fQ (CK (d:=d+5) (H:=fg) he) λv vt e4 k4 q4=>W.retE (ca (ay N (ay N (ay N (al (af N e4))))) (show 4<=aw by decide)) (.inl ⟨_,N,k1.trans (k2.trans (k3.trans k4)),(λc O e=>nomatch e),λz=>⟨_,N,by rw[q4];rfl⟩⟩))
theorem Av:tE (d+8) 39 [vD,vG,vP] H λv ae=>∃q p x,W5 (λv=>v=PZ) v ae q p x:=It (d:=d+6) (f:=19) N (Ef (d:=d))
theorem FQ{e:Option (Nat×Str)}(h1:H[p]?=À (.lst (iW e)))(h2:H[q]?=À (.lst (iW e))):oz H (.ref p) (.ref q)=À Æ:=by
 show (lst H p).bind (λx=>FU H x (.ref q))=_;rw[cC h1];show (lst H q).bind (λy=>if (iW e).length=y.length then (if (iW e).length=0 then À Æ else JV (iW e) y) else À Ê)=_;rw[cC h2];show (if (iW e).length=(iW e).length then (if (iW e).length=0 then À Æ else JV (iW e) (iW e)) else À Ê)=_;rw[if_pos N];cases e with
 |none=>rfl
 |some e=>show ((À ((e.1==1)==(e.1==1))).bind λa=>((À ((e.1==2)==(e.1==2))).bind λa=>((À Æ).bind λa=>((À Æ).bind λa=>((À (e.2==e.2)).bind λa=>(À Æ).bind λb=>À (a&&b)).bind λb=>À (a&&b)).bind λb=>À (a&&b)).bind λb=>À (a&&b)).bind λb=>À (a&&b))=_;rw[beq_self_eq_true,beq_self_eq_true,beq_self_eq_true];rfl
end
theorem yU{f:V->V->Option Bool}(l:List V)(h:∀x∈l,f x x=À Æ):qn f l l=À Æ:=by
 induction l with
 |nil=>rfl
 |cons x l ih=>show (f x x).bind (λa=>(qn f l l).bind λb=>À (a&&b))=_;rw[h x G',ih λy hy=>h y (J' _ hy)];rfl
theorem pK(l:List V)(h:∀x∈l,ED n x x=À Æ):ED (n+1) (.tup l) (.tup l)=À Æ:=by show (qn (ED n) l l).bind (λc=>if c then À Æ else Ã)=_;rw[yU l h];rfl
theorem n4(x:Int):ED (n+1) (.int x) (.int x)=À Æ:=congrArg À (beq_self_eq_true x)
section
variable{Á:ax}{U:aJ}{H Î Û:ag}{a b:CE}{x y:Int}{d:Nat}
theorem yZ{l:List V}(ha:ab Á a U H=À (.tup l,Î))(hb:ab Á b U Î=À (.tup l,Û))(h:∀x∈l,ED 5 x x=À Æ):ab Á (xN a b) U H=À (.bool Ê,Û):=bB ha hb (by
 show (ED 6 (.tup l) (.tup l)).bind _=_;rw[pK l h];rfl)
theorem qq(ha:ab Á a U H=À (.int x,Î))(hb:ab Á b U Î=À (.int y,Û))(h:y<=x):ab Á (xL a b) U H=À (.bool Ê,Û):=bB ha hb (congrArg À (decide_eq_false (ň.mpr h)))
theorem OG(ha:ab Á a U H=À (.int x,Î))(hb:ab Á b U Î=À (.int y,Û))(h:x<y):ab Á (LZ a b) U H=À (.bool Ê,Û):=bB ha hb (congrArg À (decide_eq_false (ad4.mpr h)))
theorem UC{a b:List V}(h:a.length+b.length<=aw):mD .Add (.tup a) (.tup b) H=À (.tup (a++b),H):=if_pos (by rw[Ā];show h)
theorem S7(h:j<Ps.length):zP[j]?=À (ow j,bS pa j):=by have hc:j<pa.length:=(show pa.length=Ps.length from kB _).symm▸h;unfold zP ow bS;rw[acy,N' h,N' hc];show⟨N,N⟩
theorem Hf(hs:QJ):aC PP (d+1) 42 [vG,vP,vC] H=À (.ok vF,H):=by
 show gs N N (W.loop (cV (n:=Ps.length) (aO N ((gP _).trans (by rw[H']))) (z' LY (by decide))) (λj U ae=>U=bN [À (.tup ((Bs++kD (zP.take j)).map cn.v)),À vP,À vC]/\ae=H) (a:=bN [À (.tup ((Bs++kD (zP.take 0)).map cn.v)),À vP,À vC]) (ak ⟨by rw[show Bs++kD (zP.take 0)=Bs from Ĭ _];rfl,N,N,trivial⟩) ⟨N,N⟩ (λz z z z=>bj _) (λj y P2 bn hy q1=>?_) λP2 bn q1=>?_)
 ·show aQ q1 λq1 q2=>?_;apply aY q1;apply aY q2
  show aQ (ig hy) λhj q3=>?_;apply aY q3;have hc:j<pa.length:=(show pa.length=Ps.length from kB _).symm▸hj;have hx:=S7 hj;have h0:0<=bS pa j:=(hs _ (ϔ (ģ hx)).2).1;have h1:bS pa j<=1700:=(hs _ (ϔ (ģ hx)).2).2;have el:∀U:aJ,U 2=À vC->U 3=À (.int j)->ab (aC PP d) (.idx (xv 2) (xv 3)) U H=À (.int (bS pa j),H):=λU g2 g3=>aP j _ _ (aB g2) (aB g3) (Ē _) (iB hc);show(acN h0).elim λn en=>?_;rw[en]at el h1 hx;have hz:=Ao hs (j+1);have Wk:=xQ hx;rw[Wk]at hz;generalize Bs++kD (zP.take j)=B at hz Wk;rw[Ā,ϥ]at hz;show⟨_,N,W.loop (cV (n:=n) (el _ N N) (z' (Ş.mp h1) (by decide))) (λi U ae=>U=bN [À (.tup ((B++Ņ i (ow j).bat).map cn.v)),À vP,À vC,À (.int j)]/\ae=H) (a:=bN [À (.tup ((B++Ņ 0 (ow j).bat).map cn.v)),À vP,À vC,À (.int j)]) (ak ⟨by rw[List.replicate_zero,Ĭ];rfl,N,N,N,trivial⟩) ⟨N,N⟩ (λz z z z=>bj _) (λi y WZ cY hy q1=>?_) λWZ cY q1=>?_⟩
  ·show aQ q1 λq1 q2=>?_;apply aY q1;apply aY q2
   show aQ (ig hy) λhi q3=>?_;apply aY q3;have ep:∀U:aJ,U 1=À vP->U 3=À (.int j)->ab (aC PP d) (.idx (xv 1) (xv 3)) U H=À ((ow j).v,H):=λU g1 g3=>aP j _ _ (aB g1) (aB g3) (Ē _) (Nx hj);show⟨_,N,W.set (v:=.tup ((B++Ņ (i+1) (ow j).bat).map cn.v)) (aK (aB N) (ca (vs:=[(ow j).bat.v]) (al (ca (vs:=[.str (ow j).n,.int (ow j).a,.int (ow j).l]) (ay (aP 0 _ _ (ep _ N N) N (by decide) N) (ay (aP 1 _ _ (ep _ N N) N (by decide) N) (al (aP 3 _ _ (ep _ N N) N (by decide) N)))) (show 3<=aw by decide))) (show 1<=aw by decide)) ((UC ?_).trans ?_)) (W.nil ⟨N,bN [À (.tup ((B++Ņ (i+1) (ow j).bat).map cn.v)),À vP,À vC,À (.int j)],ak ⟨N,N,N,N,trivial⟩,N,N⟩)⟩
   ·rw[H',Ā,ϥ];show z' (Ϙ hi B.length) (z' hz (by decide))
   ·rw[aeJ,<-ü,ŉ (l₁:=B++_)];rfl
  ·show aQ q1 λq1 q2=>?_;apply aY q1;apply aY q2
   show W.nil ⟨N,bN [À (.tup ((Bs++kD (zP.take (j+1))).map cn.v)),À vP,À vC],ak ⟨by rw[Wk,ii];rfl,N,N,trivial⟩,N,N⟩
 ·show aQ q1 λq1 q2=>?_;apply aY q1;apply aY q2
  show W.retE N ⟨_,N,by rw[ii,<-show zP.length=Ps.length by (unfold zP;rw[adq,show pa.length=Ps.length from kB _,aet]),Ň];rfl,N⟩
end
structure yw(l:List (Str×Int))(D:List (Str×V)):Prop where
 nd:(D.map (·.1)).Nodup
 le:D.length<=l.length
 nn:∀k,0<=cK l k
 gt:∀k,dz D k=if 0<cK l k then À (.int (cK l k)) else Ã
theorem FJ{v:V}{k:Str}(D:List (Str×V)):(dA D k v).length<=D.length+1:=by
 induction D with
 |nil=>show đ _
 |cons p r ih=>
  show (if p.1=k then (p.1,v)::r else p::dA r k v).length<=_;split
  ·show ϐ _
  ·show Š ih
theorem FF{v:V}{k n:Str}(D:List (Str×V)):dz (dA D k v) n=if k=n then À v else dz D n:=by
 induction D with
 |nil=>rfl
 |cons p r ih=>
  show dz (if p.1=k then (p.1,v)::r else p::dA r k v) n=if k=n then À v else if p.1=n then À p.2 else dz r n;by_cases h:p.1=k
  ·rw[if_pos h]
   show (if p.1=n then À v else dz r n)=_;rw[h];by_cases q:k=n
   ·rw[if_pos q,if_pos q]
   ·rw[if_neg q,if_neg q,if_neg q]
  ·rw[if_neg h]
   show (if p.1=n then À p.2 else dz (dA r k v) n)=_;rw[ih];by_cases q:p.1=n
   ·rw[if_pos q,if_pos q,if_neg λz=>h (q.trans z.symm)]
   ·rw[if_neg q,if_neg q]
theorem wb{n:Str}(D:List (Str×V)):n∈D.map (·.1)↔∃v,dz D n=À v:=by
 induction D with
 |nil=>show⟨(λh=>nomatch h),λh=>h.elim λv h=>no h⟩
 |cons p r ih=>
  show n∈p.1::r.map (·.1)↔∃v,(if p.1=n then À p.2 else dz r n)=À v;by_cases h:p.1=n
  ·rw[if_pos h];show⟨λz=>⟨_,N⟩,λz=>h▸G'⟩
  ·rw[if_neg h,<-ih];show⟨λq=>(ą.mp q).resolve_left (Ne.symm h),J' _⟩
theorem FD{p:Str×V}(D:List (Str×V)):(D.map (·.1)).Nodup->p∈D->dz D p.1=À p.2:=by
 induction D with
 |nil=>show λy h=>nomatch h
 |cons q r ih=>intro h hp;have h:=ϛ.mp (show (q.1::r.map (·.1)).Nodup from h);show (if q.1=p.1 then À q.2 else dz r p.1)=_;show(ą.mp hp).elim (λe=>by rw[e,if_pos N]) λe=>?_;rw[if_neg λz=>h.1 (ŗ.mpr ⟨p,e,z.symm⟩)];show ih h.2 e
theorem yw.nil:yw [] []:=⟨adz,đ _,λz=>Ŕ 0,λz=>rfl⟩
theorem yw.put(I:yw l D){p:Str×Int}(hp:1<=p.2):yw (l++[p]) (dA D p.1 (.int (cK l p.1+p.2))):=by
 have e:∀k,cK (l++[p]) k=cK l k+if p.1=k then p.2 else 0:=λk=>by
  rw[vJ];by_cases q:p.1=k
  ·rw[if_pos q,if_pos (beq_iff_eq.mpr q)]
  ·rw[if_neg q,if_neg λz=>q (beq_iff_eq.mp z)]
 have h0:(0:Int)<p.2:=hp;show⟨(nZ D I.nd).1,z' (FJ D) (by rw[Ā];show Š I.le),λk=>?_,λk=>?_⟩
 ·rw[e]
  show ϸ (I.nn k) ?_;split
  ·show acW h0
  ·show Ŕ 0
 ·rw[FF,e,I.gt]
  by_cases q:p.1=k
  ·rw[if_pos q,if_pos q,if_pos (ab4 (I.nn k) h0),q]
  ·rw[if_neg q,if_neg q,Œ]
theorem yw.val(I:yw l D)(k:Str):(dz D k).getD (.int 0)=.int (cK l k):=by
 rw[I.gt];by_cases h:0<cK l k
 ·rw[if_pos h];rfl
 ·rw[if_neg h];show congrArg V.int (ņ (I.nn k) (ň.mp h))
section
variable{Á:ax}{U:aJ}{H Î Û:ag}{a b:CE}{d r q L k:Nat}
theorem yw.eq(I:yw l D)(ï:yw m D')(h:∀k,cK l k=cK m k)(hr:H[r]?=À (.ds D))(hq:H[q]?=À (.ds D')):sH .Eq (.ref r) (.ref q) H=À Æ:=by
 have e:∀k,dz D k=dz D' k:=λk=>by rw[I.gt,ï.gt,h]
 have e1:oz H (.ref r) (.ref q)=Ã:=by show ((H[r]?).bind UD).bind _=_;rw[hr];rfl
 show (oz H (.ref r) (.ref q)).or (Rc H (.ref r) (.ref q))=_;rw[e1];show ((H[r]?).bind E5).bind (λl=>((H[q]?).bind E5).bind λm=>_)=_;rw[hr,hq];show if_pos ⟨?_,λp hp=>?_⟩
 ·have:=((adf I.nd ï.nd).mpr λk=>by rw[wb,wb,e]).length_eq
  rwa [H',H']at this
 ·have g:=FD D I.nd hp
  rw[<-e,g];rw[I.gt]at g;by_cases z:0<cK l p.1
  ·rw[if_pos z]at g;rw[<-sm g];show n4 (n:=5) _
  ·rw[if_neg z]at g;show no g
theorem OH{D:List (Str×V)}{n:Str}(ha:ab Á a U H=À (.ref r,H))(hr:H[r]?=À (.ds D))(hb:ab Á b U H=À (.str n,H)):ab Á (.meth .get a (a2 b (xn 0))) U H=À ((dz D n).getD (.int 0),H):=by
 have hd:ds H r=À D:=by unfold ds;rw[hr];rfl
 show bY (ab Á a U H) (λx Î=>if xg .get x Î then bY (bP Á (a2 b (xn 0)) U Î) λvs Û=>jy .get x vs Û else Ã)=_;rw[ha];show (if ((ds H r).isSome) then bY (bP Á (a2 b (xn 0)) U H) (λvs Û=>jy .get (.ref r) vs Û) else Ã)=_;rw[hd];show bY (bP Á (a2 b (xn 0)) U H) (λvs Û=>jy .get (.ref r) vs Û)=_;rw[ay hb (al N)];show (ds H r).bind _=_;rw[hd];rfl
theorem W.addD{aD:fv}{Q:cw->aJ->ag->Prop}{e:CE}{x:Int}{n:Str}(I:yw l D)(ha:∀ae,ab Á a U ae=À (.ref r,ae))(hr:H[r]?=À (.ds D))(hb:ab Á b U H=À (.str n,H))(he:ab Á e U H=À (.int x,H))(hz:l.length<=5000)
  (c:W Á aD U (H.set r (.ds (dA D n (.int (cK l n+x))))) Q):W Á (.cons (.setItem a b (xA (.meth .get a (a2 b (xn 0))) e)) aD) U H Q:=
 W.setStr r n D _ (aK ((OH (ha H) hr hb).trans (by rw[I.val])) he N) (ha H) hb hr (z' I.le (z' hz (by decide))) c
def oq(ps:List (Nat×Int))(i:Nat):Int:=(fu Fs i).a-dj ps i
theorem CR(h:eE=Ã){x:bh}{u ps:List (Nat×Int)}(hx:Ds[k]?=À x)(hu:Ck.2[k]?=À u)(hL:H[L]?=À (.lst (rF (oq ps)))):∃ae,aC PP (d+2) 43 [x.v,yd u,vF,.ref L] H=À (.ok (.bool Æ),ae)/\ae[L]?=À (.lst (rF (oq (ps++u)))):=by
 show aE (NR h hu) λx' C9 D=>?_;have YU:x'=x:=sm (C9.symm.trans hx);rw[YU]at D;have GI:=NS x (ģ hx);have hul:u.length<=5000:=z' D.le (z' (acL 201 GI.1.2.2) (by decide));have ON:L<H.length:=(Ğ.mp hL).1;show fQ (eR (R:=λv ae=>v=.bool Æ/\ae[L]?=À (.lst (rF (oq (ps++u))))) (P:=PP) (k:=43) (d:=d+1) (H:=H) N (as:=[x.v,yd u,vF,.ref L]) N (W.set (v:=.ref H.length) (Î:=H++[.ds []]) N (W.each (xs:=u) (bN [À x.v,Ã,À vF,À (.ref L),À (.ref H.length)]) (λm ae=>ae[L]?=À (.lst (rF (oq (ps++u.take m))))/\∃C,ae[H.length]?=À (.ds C)/\yw ((u.take m).map T4) C) (λz z=>False) (cj N) (ak ⟨N,N,N,N,trivial⟩) ⟨(Ĭ ps).symm▸aF.app _ _ _ _ hL,[],az _ _,yw.nil⟩ (λz z z=>bj _) (λm p bn hp I=>⟨_,N,?_⟩) (λbn I=>?_) λz z z q=>q.elim))) λv ae e q1 q2=>⟨ae,q1▸e,q2⟩
 ·show im (D.ok p (ģ hp)) λh1 h2 h3=>aE I.2 λC hC ï=>?_
  have eb:∀(U:aJ) (ae:ag),U 2=À vF->U 5=À (pV p)->ab (aC PP (d+1)) (.idx (xv 2) (xu 5 0)) U ae=À ((fu Fs p.1).v,ae):=λU ae g2 g5=>aP p.1 _ _ (aB g2) (aP 0 _ _ (aB g5) N (by decide) N) (Ē _) (yG h1);show W.iteF bn (a0 (fx N (fx N (fx (lS (b:=Æ) (af (al N) (jJ _))) (lS (b:=Æ) (af (al N) (jJ _))))))) (W.nil (W.iteF bn (a0 (fx (qq N N (Ē _)) (fx (OG N (aO (al N) ((gP _).trans (by rw[H']))) (ŧ.mpr h1)) (fx (qq N N h3) (qq (aP 2 _ _ (eb _ _ N N) N (by decide) N) (aP 0 _ _ (aB N) N (by decide) N) h2))))) (W.nil ?_)));show W.setItem0 L p.1 _ _ (aK (bF L p.1 _ _ N N I.1 (Ē _) (BH h1)) N N) N N I.1 (Ē _) (by rw[ĭ,Ag];show h1) (W.addD ï (λz=>rfl) ((dh (ń ON)).trans hC) (aP 0 _ _ (eb _ _ N N) N (by decide) N) N (by rw[H',ũ];show z' (acr _ _) hul) (W.nil (.inl ⟨N,ak ⟨N,N,N,N,trivial⟩,?_,_,eO ((dh (ń ON)).trans hC),?_⟩)))
  ·have e:=HG (f:=oq (ps++u.take m)) (g:=oq (ps++u.take (m+1))) (k:=p.1) λi' q=>by unfold oq;rw[be hp,<-ü,kZ,if_neg q,Œ]
   have e2:oq (ps++u.take (m+1)) p.1=oq (ps++u.take m) p.1-p.2:=by unfold oq;rw[be hp,<-ü,kZ,if_pos N,Int.sub_sub]
   rw[dh (Ř ON),eO I.1,ĭ,<-e,e2]
  ·rw[be hp,ŉ];show ï.put h3
 ·rw[Ň]at I
  show aE I.2 λC hC ï=>W.set (v:=.ref bn.length) (Î:=bn++[.ds []]) N (W.each (xs:=x.ns) (bN [À x.v,Ã,À vF,À (.ref L),À (.ref H.length),Ã,À (.ref bn.length)]) (λm ae=>(ae[L]?=À (.lst (rF (oq (ps++u))))/\ae[H.length]?=À (.ds C))/\∃E,ae[bn.length]?=À (.ds E)/\yw (x.ns.take m) E) (λz z=>False) (cj (aP 1 _ _ (aB N) N (by decide) N)) (ak ⟨N,N,N,N,N,trivial⟩) ⟨⟨aF.app _ _ _ _ I.1,aF.app _ _ _ _ hC⟩,[],az _ _,yw.nil⟩ (λz z z=>bj _) (λm p cY hp K=>⟨_,N,aE K.2 λE hE M=>?_⟩) (λcY K=>aE K.2 λE hE M=>?_) λz z z q=>q.elim)
  ·have Wc:=(GI.2 p (ģ hp)).2.1
   have n1:bn.length≠L:=Ř (Ğ.mp I.1).1;have n2:bn.length≠H.length:=Ř (Ğ.mp hC).1;show W.addD M (λz=>rfl) hE (aP 0 _ _ (aB N) N (by decide) N) (aP 1 _ _ (aB N) N (by decide) N) (by rw[ũ];show z' (acr _ _) (z' GI.1.2.2 (by decide))) (W.nil (.inl ⟨N,ak ⟨N,N,N,N,N,trivial⟩,⟨(dh n1).trans K.1.1,(dh n2).trans K.1.2⟩,_,eO hE,?_⟩));rw[be hp];show M.put Wc
  ·rw[Ň]at M
   show W.retE (bB N N (ï.eq M D.am K.1.2 hE)) ⟨_,N,N,K.1.1⟩
end
section
variable{Á:ax}{U:aJ}{H Î Û:ag}{a b:CE}{d r q p L k n:Nat}
theorem Aa(ha:ab Á a U H=À (.int n,Î))(hb:ab Á b U Î=À (.int n,Û)):ab Á (xN a b) U H=À (.bool Ê,Û):=bB ha hb (by show À (!_)=_;rw[beq_self_eq_true];rfl)
theorem j6{l:List V}(ha:ab Á a U H=À (.tup l,Î))(hl:l.length=n):ab Á (.prim .len (a1 a)) U H=À (.int n,Î):=aO (al ha) ((gP l).trans (by rw[hl]))
theorem zW(h:eE=Ã)(hL:H[L]?=À (.lst (rF (oq Ck.2.flatten)))):∃ae,aC PP (d+3) 44 [vF,.ref L,vE] H=À (.ok (.bool Æ),ae):=by
 have hf:=nr (tq h);have lF:(Fs.map cn.v).length=Fs.length:=H' _;show gm (eR (R:=λv y=>v=.bool Æ) (P:=PP) (k:=44) (d:=d+2) (H:=H) N (as:=[vF,.ref L,vE]) N (W.iteF H (a0 (fx N (Aa (j6 N (by rw[H',Ľ])) (j6 N lF)))) (W.nil (W.each (xs:=č Fs.length) (bN [À vF,À (.ref L),À vE]) (λy ae=>ae[L]?=À (.lst (rF (oq Ck.2.flatten)))) (λy y=>False) ((fH Fs.length)▸cV (j6 N lF) (z' hf (by decide))) (ak ⟨N,N,N,trivial⟩) hL (λy y y=>bj _) (λj x bn hx I=>⟨_,N,?_⟩) (λbn I=>W.retE N ⟨_,N,N⟩) λy y y q=>q.elim)))) λv ae e q=>⟨ae,q▸e⟩;show aQ (dR hx) λqx hj=>?_;apply aY qx;have eb:∀(U:aJ) (ae:ag),U 0=À vF->U 3=À (.int j)->ab (aC PP (d+2)) (.idx (xv 0) (xv 3)) U ae=À ((fu Fs j).v,ae):=λU ae g0 g3=>aP j _ _ (aB g0) (aB g3) (Ē _) (yG hj);have ei:∀(U:aJ) (ae:ag),ae[L]?=À (.lst (rF (oq Ck.2.flatten)))->U 1=À (.ref L)->U 3=À (.int j)->ab (aC PP (d+2)) (.idx (xv 1) (xv 3)) U ae=À (.int (oq Ck.2.flatten j),ae):=λU ae g g1 g3=>bF L j _ _ (aB g1) (aB g3) g (Ē _) (BH hj);have ea:(fu Fs j).a-oq Ck.2.flatten j=dj Ck.2.flatten j:=Int.sub_sub_self _ _
 have gw:∀(U:aJ) (r:Nat) (cY:ag),Le (bN [À vF,À (.ref L),À vE,À (.int j),À (.ref r)]) U->cY[r]?=À (.lst ((eL j).map .int))->cY[L]?=À (.lst (rF (oq Ck.2.flatten)))->W (aC PP (d+2)) (cU (il (.or (xL (.idx (xv 1) (xv 3)) (xn 0)) (.not (.call 24 (a2 (.idx (xv 2) (xv 3)) (xv 4))))) (cU (.ret (.cst (.bool Ê)))))) U cY (EQ (bN [À vF,À (.ref L),À vE]) (λy ae=>ae[L]?=À (.lst (rF (oq Ck.2.flatten)))) (λy y=>False) j):=λU r cY hl g1 g2=>by
  have G:=(tP h);have nn:0<=oq Ck.2.flatten j:=by unfold oq;rw[<-G.us j,adr];show G.nn j
  show W.le hl (W.iteF cY (a0 (fx (qq (ei _ _ g2 N N) N nn) (lS (b:=Æ) (af (ay (aP j _ (eV j) N N (Ē _) (by rw[ĭ,Ġ,ό hj];rfl)) (al N)) (uP g1 (by unfold eL;split<;>show(by decide:3<=100))))))) (W.nil (W.nil (.inl ⟨N,ak ⟨N,N,N,trivial⟩,g2⟩))))
 show W.set (bZ (ay (aK (aP 1 _ _ (eb _ _ N N) N (by decide) N) (ei _ _ I N N) N) (ay (ei _ _ I N N) (al N))) (show 3<=aw by decide)) ?_;have I2:=aF.app bn [.lst [.int ((fu Fs j).a-oq Ck.2.flatten j),.int (oq Ck.2.flatten j),.int 0]] _ _ I;have g:=az bn (.lst [.int ((fu Fs j).a-oq Ck.2.flatten j),.int (oq Ck.2.flatten j),.int 0]);show W.if_ (p:=6<(fu Fs j).l) (bB (aP 2 _ _ (eb _ _ N N) N (by decide) N) N N) (λz=>?_) λz=>W.nil (gw _ _ _ (ak ⟨N,N,N,N,N,trivial⟩) ?_ I2)
 ·show W.set (bZ (ay (aK (aP 1 _ _ (eb _ _ N N) N (by decide) N) (ei _ _ I2 N N) N) (ay N (al (ei _ _ I2 N N)))) (show 3<=aw by decide)) (W.nil (gw _ _ _ (ak ⟨N,N,N,N,N,trivial⟩) ((az _ _).trans ?_) (aF.app _ _ _ _ I2)))
  unfold eL;rw[if_neg (show ¬ (fu Fs j).l<7 from ň.mpr z),ea];rfl
 ·show g.trans ?_
  unfold eL;rw[if_pos (acT (ň.mp z) (by decide)),ea];rfl
theorem Rg{e:Option (Nat×Str)}(ha:ab Á a U H=À (.ref p,H))(hb:ab Á b U H=À (.ref q,H))(h1:H[p]?=À (.lst (iW e)))(h2:H[q]?=À (.lst (iW e))):ab Á (xN a b) U H=À (.bool Ê,H):=bB ha hb (by
 show (oz H (.ref p) (.ref q)).bind _=_;rw[FQ h1 h2];rfl)
theorem F1{l:List V}(ha:ab Á a U H=À (.ref p,Î))(h1:Î[p]?=À (.lst l)):ab Á (xN a (.list .nil)) U H=À (.bool (!decide (l.length=0)),Î++[.lst []]):=bB ha (bZ (vs:=[]) N (ĥ _)) (by
 show (oz _ (.ref p) (.ref Î.length)).bind _=_;rw[FV (cC (aF.app _ _ _ _ h1)) (cC (az _ _))];rfl)
theorem SZ:∀x∈pa.map V.int,ED 5 x x=À Æ:=λx hx=>aE (ŗ.mp hx) λi z e=>e▸n4 i
theorem S0:∀x∈Fs.map cn.v,ED 5 x x=À Æ:=λx hx=>aE (ŗ.mp hx) λi k e=>e▸pK _ λy hy=>(ą.mp hy).elim (λz=>z▸congrArg À (beq_self_eq_true i.n)) λhy=>(ą.mp hy).elim (λz=>z▸n4 _) λhy=>W'.mp hy▸n4 _
theorem S4:∀x∈Ck.2.map yd,ED 5 x x=À Æ:=λx hx=>aE (ŗ.mp hx) λu k e=>e▸pK _ λy hy=>aE (ŗ.mp hy) λp k e=>e▸pK _ λz hz=>(ą.mp hz).elim (λz=>z▸n4 _) λhz=>W'.mp hz▸n4 _
end
theorem Oz:N4 kw:=λw H hw=>by
 have ew:∀(k:Nat) (x:V) (U:aJ) (ae:ag),U 1=À (.ref w)->ae[w]?=À (.lst kw.v)->([vD,vG,vP]:List V)[((k:Nat):Int).toNat]?=À x->ab (aC PP 19) (xu 1 k) U ae=À (x,ae):=λk x U ae g hw hx=>bF w k _ _ (aB g) N hw (Ē _) hx;show W.set (ew 0 vD _ _ N hw N) (fQ (Av (d:=11) (H:=H)) λv2 cY e2 k2 h2=>yT h2 λq2 p2 x2 T2=>?_);rw[T2.v]at e2;show W.set (af (ay N (ay (ew 1 vG _ _ N hw N) (al (ew 2 vP _ _ N hw N)))) e2) ?_;have Wp:=k2 _ _ hw;show fQ (FP (d:=17) (H:=cY)) λv3 fg e3 k3 h3=>aE h3 λq3 h3 VD=>?_;rw[h3]at e3;show W.set (af (ay N (ay (ew 1 vG _ _ N Wp N) (al (ew 2 vP _ _ N Wp N)))) e3) ?_;have Wq:=aF.app fg [.lst []] _ _ (k3 _ _ Wp);have R8:=aF.app fg [.lst []] _ _ (k3 _ _ T2.q);have hp4:=aF.app fg [.lst []] _ _ (k3 _ _ T2.p);have Zz:=aF.app fg [.lst []] _ _ VD;have ex:∀(k:Nat) (x:V) (U:aJ) (ae:ag),U 3=À (.ref q2)->ae[q2]?=À (.lst [x2,.ref p2])->([x2,.ref p2]:List V)[((k:Nat):Int).toNat]?=À x->ab (aC PP 19) (xu 3 k) U ae=À (x,ae):=λk x U ae g hw hx=>bF q2 k _ _ (aB g) N hw (Ē _) hx;show W.ifB (fx (Rg (ex 1 _ _ _ N (k3 _ _ T2.q) N) N (k3 _ _ T2.p) VD) (F1 N VD)) (λhb=>?_) λhb=>W.nil ?_
 ·show W.retE (bB (ex 1 _ _ _ N R8 N) N (Xl (FQ hp4 Zz))) ⟨_,N,N⟩
 have he:eE=Ã:=by
  cases h:eE with
  |none=>rfl
  |some p=>rw[h]at hb;show nomatch hb
 have hs:=tq he;have hl:pa.length=Ps.length:=kB _;have G:=tP he;have lD:(Ds.map bh.v).length=Ds.length:=H' _;have lF:(Fs.map cn.v).length=Fs.length:=H' _;generalize fg++[.lst []]=vt at Wq R8;show W.set ((ex 0 _ _ _ N R8 N).trans (by rw[T2.x he])) ?_;show W.iteF vt (a0 (fx N N)) (W.nil (W.iteF vt (a0 (fx N N)) (W.nil ?_)));have ec:=dp (elt:=ab (aC PP 19) (xv 8)) (cond:=cW (aC PP 19) (a1 (.or (.not (.call 23 (a1 (xv 8)))) (xL (xv 8) (xn 0))))) (t:=.one 8) (w:=[]) (U:=bN [Ã,À (.ref w),À vD,Ã,Ã,À PZ]) (H:=vt) (g:=V.int) (p:=λy=>Ê) (f:=V.int) (bj _) (xs:=pa) λx hx=>⟨_,N,nE (fx (lS (b:=Æ) (af (al N) (jJ x))) (qq N N (hs x hx).1)),(λz=>nomatch z)⟩;rw[show (pa.filter λy=>Ê)=[] from aew.mpr λy y z=>Ķ z]at ec;show W.le (a:=bN [Ã,À (.ref w),À vD,Ã,Ã,À PZ]) (ak ⟨N,N,N,trivial⟩) (W.iteF _ (a0 (fx (Aa (j6 N ((H' _).trans hl)) (j6 (ew 2 vP _ _ N Wq N) (H' _))) (F1 (eM (cj N) ec (ĥ _)) (az _ _)))) (W.nil ?_));have Sb:=aF.app _ [.lst []] _ _ (aF.app vt [.lst ([]:List V)] _ _ Wq);change W _ _ _ ((vt++[.lst []])++[.lst []]) _;generalize (vt++[bu.lst []])++[.lst []]=mj at Sb;show W.iteF mj (a0 (fx (yZ (l:=Fs.map cn.v) N (af (ay (ew 1 vG _ _ N Sb N) (ay (ew 2 vP _ _ N Sb N) (al N))) (Hf (d:=18) hs)) S0) (Aa (j6 N ((H' _).trans G.len2)) (j6 N lD)))) (W.nil ?_);show fQ (nc (d:=13) (H:=mj)) λr6 IN e6 k6 R6=>fQ (qk (d:=16) (H:=IN) he) λv7 P3 e7 k7 q7=>?_;rw[R6.2 he]at e6;rw[q7.1]at e7;show W.iteF P3 (a0 (fx (yZ (l:=pa.map V.int) N (af (ay N (ay (ew 1 vG _ _ N Sb N) (al (ew 2 vP _ _ N Sb N)))) e6) SZ) (yZ (l:=Ck.2.map yd) N (af N e7) S4))) (W.nil ?_);have el:=dp (elt:=ab (aC PP 19) (xu 8 1)) (cond:=cW (aC PP 19) .nil) (t:=.one 8) (w:=[]) (U:=bN [Ã,À (.ref w),À vD,Ã,Ã,À PZ]) (H:=P3) (g:=cn.v) (p:=λy=>Æ) (f:=λb=>V.int b.a) (bj _) (xs:=Fs) λb y=>⟨_,N,N,λy=>aP 1 _ _ (aB N) N (by decide) N⟩
 have hr:(Fs.map λb=>V.int b.a)=rF (oq (Ck.2.take 0).flatten):=by
  unfold rF
  conv=>lhs;rw[<-kR Jw Fs]
  rw[Ŧ,Ŧ];show ύ λi y=>congrArg V.int (ae7 _).symm
 rw[eS,hr]at el;show W.set (eM (cj N) el (by rw[Ag];show z' (nr hs) (by decide))) (W.each (xs:=č Ds.length) (bN [Ã,Ã,À vD,Ã,Ã,À PZ,À (.ref P3.length)]) (λj ae=>ae[P3.length]?=À (.lst (rF (oq (Ck.2.take j).flatten)))) (λy y=>False) ((fH Ds.length)▸cV (j6 N lD) (z' Qx (by decide))) (ak ⟨N,N,N,trivial⟩) (az _ _) (λy y y=>bj _) (λj x σ8 hx I=>⟨_,N,?_⟩) (λσ8 I=>?_) λy y y q=>q.elim)
 ·show aQ (dR hx) λqx hj=>?_;apply aY qx
  have ZV:j<Ck.2.length:=G.len2.symm▸hj;have hu:Ck.2[j]?=À Ck.2[j]:=N' ZV;have eu:∀(U:aJ) (ae:ag),U 5=À PZ->U 7=À (.int j)->ab (aC PP 19) (.idx (xu 5 2) (xv 7)) U ae=À (yd Ck.2[j],ae):=λU ae g5 g7=>aP j _ _ (aP 2 _ vU (aB g5) N (by decide) N) (aB g7) (Ē _) (by rw[ĭ,Ġ,hu];rfl);show aE (CR (d:=17) (k:=j) (ps:=(Ck.2.take j).flatten) he (N' hj) hu I) λW0 e9 h9=>W.iteF W0 (a0 (fx (lS (b:=Æ) (aO (al (eu _ _ N N)) N)) (lS (b:=Æ) (af (ay (aP j _ _ N N (Ē _) (by rw[ĭ,Ġ,N' hj];rfl)) (ay (eu _ _ N N) (ay N (al N)))) e9)))) (W.nil (W.nil (.inl ⟨N,ak ⟨N,N,N,trivial⟩,?_⟩)));have f:=sQ hu;rw[Ň]at f;show W0[_]?=À (bu.lst (rF (oq (Ck.2.take (j+1)).flatten)));rw[<-f];show h9
 ·rw[Ľ,<-G.len2,wv]at I
  show(zW (d:=16) he I).elim λW0 e9=>W.retE (af N e9) ⟨_,N,N⟩
theorem law10(ns:List Int)(hn:ns.length<=63):∀H,∃ae,aC PP 20 45 [.ro ns] H=À (.ok (.bool Æ),ae):=λH=>by show gm (eR (H:=H) (R:=λv z=>v=.bool Æ) (P:=PP) (d:=19) (k:=45) N (as:=[.ro ns]) N ?_) λv ae h q=>⟨ae,q▸h⟩;show fQ (LU (d:=15) (az H (.lst ((kl 1 ns).map .int)))) λv bn e1 k1 h1=>gm h1 λw c q hw=>?_;rw[q]at e1;show W.set (af (al (af N (z7 (P:=PP) (k:=20) (d:=18) (H:=H) N hn))) e1) (W.le (a:=bN [Ã,À (.ref w)]) (ak ⟨N,trivial⟩) (hk (P:=N4) Oz c w bn hw))
end L.Lake
namespace L.Lake
open PySem PySem.W PyProof.Rows
noncomputable def qv:ö:=view PySem.Challenge.pw_uf060007_10 [1,2,3,5,6,7,8,9,11,12,13,14,16,17,19,20,21,22,23,24,25,27,28,29,30,32,33,34,35,36,37,38,39,40,41,42,43,44,45,46,47,48,49,50,51,52,53,54,55,56,57]
theorem q_said:PySem.Challenge.rw_uf060007_10.wellSaid=Æ:=(congrFun PySem.W.Fast.te9446332074065402090 _).trans (by decide +kernel)
theorem q_open:opening PySem.Challenge.pw_uf060007_10=plainProg PySem.Challenge.pw_uf060007_10.main.scope.names:=by kernel_rfl
theorem q_fence:∀s,fenceModules? PySem.Challenge.pw_uf060007_10 s=À s:=λs=>by kernel_rfl
theorem q_left:LeftO PySem.Challenge.pw_uf060007_10 qv [] (λs=>xlAt qv [] s&&recOk (RowW.records (OpenRow.toRowW PySem.Challenge.rw_uf060007_10.row)) s&&Yp qv s) (Hook.obs Hook.none) (Hook.val Hook.none) 6000:=
 KM q_open N q_fence λw os=>PX.trans (by kernel_rfl)
end L.Lake
end
open PySem PySem.W PyProof.Rows
set_option tactic.hygienic true in
set_option maxRecDepth 100000 in
set_option maxHeartbeats 8000000 in
theorem PySem.Challenge.cw_uf060007_10_holds : PySem.Challenge.rw_uf060007_10.Holds := by
 w_on
 refine holds_law L.Lake.q_said fun WO=>?_
 refine holds_open (q:=L.Lake.qv) (loose:=[]) (Xt:=fun s=>xlAt L.Lake.qv [] s&&recOk (RowW.records (OpenRow.toRowW PySem.Challenge.rw_uf060007_10.row)) s&&L.Lake.Yp L.Lake.qv s) (XP:=L.Lake.XE L.Lake.qv) (Yf:=Hook.obs Hook.none) (Ya:=Hook.val Hook.none) (YP:=Hook.says Hook.none) (N:=6000) L.Lake.q_left (Hook.of Hook.none) (Hook.keeps Hook.none) (fun s e=>L.Lake.Yq (Bool.and_eq_true_iff.mp e).2) (fun mg h h' x hk=>L.Lake.XE.keeps x hk) (d:=?d) (kwd:=?kwd) ?h1 ?h2 ?h3 (fun s e=>recFacts_of (Bool.and_eq_true_iff.mp (Bool.and_eq_true_iff.mp e).1).2) (by rfl) WO (by decide +kernel) ⟨rfl,rfl,rfl,rfl,rfl,by decide +kernel⟩ ?hw ?hc
 case h1=>rfl
 case h2=>rfl
 case h3=>rfl
 (case hw=>w_witness2)
 intro w Ý Ì mg mb G Y fa o pm cd doc dV kV ho hd og hD V6 hg E3 cc as Wd V3 hrd hwl Z3
 wrow_args Wd V3 hrd hwl Z3
 rename_i ns _ _ _ _ _ _ _ a vs _ _ _ _ _ hI _ cb _
 have O7:=L.Lake.law10 ns (by omega)
 have hq:((recsOf L.Lake.qv)[38]?).bind (fun d=>L.Lake.eD (L.Lake.JB (L.Lake.wa L.Lake.qv L.Lake.constsP [38]) d.scope (L.Lake.eC d.scope) 200) d.body)=some L.Lake.wi.body:=by kernel_rfl
 refine L.Lake.law_run G.T G.X (by decide +kernel) L.Lake.constsP [38] (by decide +kernel) (by decide +kernel) (P:=L.Lake.PP) ?_ (fun k hk=>(L.Lake.ob hq).elim fun d h=>⟨d,_,List.mem_singleton.mp hk ▸ h.1,List.mem_singleton.mp hk ▸ rfl,h.2⟩) (k:=45) (name := "law") (by kernel_rfl) V6 (by assumption) (by have:L.Lake.aw=16777216:=rfl;omega) hI (d:=20) (by omega) O7 ?_
 ·kernel_rfl
 ·intro s' hk VM uo
  exact ⟨.inl ⟨.bool true,.bool true,[],rfl,fun _=>rfl,.bool true,by wrow_post,fun _=>⟨List.nodup_nil,fun _ h=>nomatch h⟩⟩,hk,uo,.of_eq (VM.trans hg)⟩
